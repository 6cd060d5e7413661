/- Contracts of the functions that FnShiftsAndBundles reaches (part 2). Condition: none. -/
import Derived.Test.YtgmocipfgfnolacGreatDFnShiftsAndBundles1
set_option linter.all false
set_option linter.unusedSimpArgs false
set_option linter.unusedVariables false
namespace Go.Proofs.YtgmocipfgfnolacGreat.Va
open Go
set_option maxHeartbeats 4000000
set_option maxRecDepth 100000
theorem d_spec_l06Search (l : List Int) (hs : isSpaceM l = true) (r : Int) (hr0 : 0 ≤ r) : ∀ (n : Nat) (X c : List Int), muX l X < n → Pck l r X c → ((lvs l r n X c).length : Int) < 4611686018427387904 →
    Den PA f_spec_l06Search [.d (.agg [ints l]), .d (mat (nearM l r)), .d (ints (setI c)), .d (bools (cvL l X))] [.any, .any, .any, .any] (srS l r n X c) := by
  have hpr := isSpaceM_prod hs
  have hp1 := prodM_pos (isSpaceM_szs hs)
  have hbz := bz_pos hs hr0
  intro n
  induction n with
  | zero => intro X c hmu; omega
  | succ n ih =>
    intro X c hmu hpk hml
    have hX := hpk.inX
    have hcl : c.length ≤ 1024 := by
      have h1 := hpk.mu
      have h2 := hpk.len
      have h3 : (c.length : Int) * 1 ≤ c.length * bzM l r := Int.mul_le_mul_of_nonneg_left (by omega) (by omega)
      omega
    have hsl := setI_len_nodup hpk.cnd
    refine den_go [] l_spec_l06Search ?_
    refine go_c0 ?_
    refine go_loop (fun (j : Nat) => ⟨[(1, .d (mat (nearM l r))), (2, .d (ints (setI c))), (3, .d (bools (cvL l X))), (4, .ref 0 0), (10, .d (di j))], [some (.var [ints l])]⟩) (fun j => j ≤ (prodM l).toNat ∧ ∀ i : Nat, i < j → (i : Int) ∈ X) (fun j => (prodM l).toNat - j) 0 ?_ ?_ ?_
    · exact go_r0
    · exact ⟨Nat.zero_le _, fun i hi => by omega⟩
    · rintro j ⟨hj, hjX⟩ J hJ
      by_cases hjl : j < (prodM l).toNat
      · have eg := cvL_get l X hjl
        by_cases hm : (j : Int) ∈ X
        · rw [decide_eq_true hm] at eg
          have z1 := eg; refine go_c1 ?_
          refine hJ (j + 1) ⟨by omega, fun i hi => ?_⟩ (by omega) _ ?_
          · by_cases e : i = j
            · subst e; exact hm
            · exact hjX i (by omega)
          · exact go_r0
        · rw [decide_eq_false hm] at eg
          have ho : opn l X = some (j : Int) := by
            cases ho : opn l X with
            | none => exact absurd (opn_none ho j (by omega) (by omega)) hm
            | some o =>
              obtain ⟨h1, h2, h3⟩ := opn_some ho
              rcases Int.lt_trichotomy o j with q | q | q
              · have := hjX o.toNat (by omega)
                rw [Int.toNat_of_nonneg h1.1] at this
                exact absurd this h2
              · rw [q]
              · exact absurd (h3 j (by omega) q) hm
          have hob : (0 : Int) ≤ j ∧ (j : Int) < prodM l := by omega
          rw [lvs_open ho] at hml
          have hres : srS l r (n + 1) X c = .tup [.d (di (lvJ l r n X c (ballM l j r) (ballM l j r).length).length), .d (ints (minL ((lvJ l r n X c (ballM l j r) (ballM l j r).length).map setI)))] := by
            unfold srS; rw [lvs_open ho]
          rw [hres]
          have hB := ball_in l j r
          have hBl : (ballM l j r).length ≤ (prodM l).toNat := by unfold ballM; exact filter_len_le _ _ _ (by rw [allW_len]; exact Nat.le_refl _)
          have eo := nearM_get r hob
          rw [Int.toNat_natCast] at eo
          have hlen : ∀ k, ∀ x, x ∈ (lvJ l r n X c (ballM l j r) k).map setI → x.length = (prodM l / bzM l r).toNat := fun k x hx => by
            refine lvs_len hs hr0 (n := n + 1) hpk x ?_
            rw [lvs_open ho]
            obtain ⟨y, hy, rfl⟩ := List.mem_map.1 hx
            refine List.mem_map.2 ⟨y, ?_, rfl⟩
            unfold lvJ at hy ⊢
            rw [List.mem_flatMap] at hy ⊢
            obtain ⟨u, hu, hy⟩ := hy
            exact ⟨u, by rw [List.take_length]; exact List.mem_of_mem_take hu, hy⟩
          clear hres
          generalize hBe : ballM l j r = B at *
          have z1 := eg; refine go_c1 ?_
          refine go_loop (fun (p : Nat × Bool) => ⟨[(1, .d (mat (nearM l r))), (2, .d (ints (setI c))), (3, .d (bools (cvL l X))), (4, .ref 0 0), (10, .d (di j)), (11, .d (di (lvJ l r n X c B p.1).length)), (12, bif p.2 then .sl 1 0 0 1 else .d (ints (minL ((lvJ l r n X c B p.1).map setI)))), (13, .d (di p.1))],
              bif p.2 then [some (.var [ints l]), some (.dat 1 [])] else [some (.var [ints l])]⟩) (fun p => p.1 ≤ B.length ∧ (p.2 = true ↔ lvJ l r n X c B p.1 = [])) (fun p => B.length - p.1) (0, true) ?_ ?_ ?_
          · simp -implicitDefEqProofs (maxSteps := 1000000) (disch := (first | omega | (simp only [go_sem] <;> omega) | fail)) only [go_sem, ints, bools, mat, lvJ_nil]
          · exact ⟨Nat.zero_le _, fun _ => rfl, fun _ => rfl⟩
          · rintro ⟨k, b⟩ ⟨hk, hb⟩ J2 hJ2
            dsimp only at hk hb ⊢
            by_cases hkl : k < B.length
            · have hwb := inC_get hB k hkl
              have hst := lvJ_step (l := l) (r := r) (n := n) (X := X) (c := c) (B := B) hkl
              have hle := lvJ_le (l := l) (r := r) (n := n) (X := X) (c := c) (B := B) (show k + 1 ≤ B.length by omega)
              have hW := ball_in l (B.getD k 0) r
              have hWn := ballM_nodup l (B.getD k 0) r
              have hWl : (ballM l (B.getD k 0) r).length ≤ (prodM l).toNat := by unfold ballM; exact filter_len_le _ _ _ (by rw [allW_len]; exact Nat.le_refl _)
              have eW := nearM_get r hwb
              generalize hWe : ballM l (B.getD k 0) r = W at *
              generalize hwe : B.getD k 0 = w at *
              cases b with
              | true =>
                have hb0 := hb.1 rfl
                rw [hb0] at hst ⊢
                rw [List.nil_append] at hst
                have z1 := hwe; have z2 := eW; have z3 := eo; refine go_c3 ?_
                refine go_loop (fun (i : Nat) => ⟨[(1, .d (mat (nearM l r))), (2, .d (ints (setI c))), (3, .d (bools (cvL l X))), (4, .ref 0 0), (10, .d (di j)), (11, .d (di 0)), (12, .sl 1 0 0 1), (13, .d (di k)), (14, .d (di w)), (15, .sl 2 0 (prodM l).toNat 1), (16, .d (db (freT X W i))), (17, .d (di i))],
                    [some (.var [ints l]), some (.dat 1 []), some (.dat 1 ((cvL l (X ++ W.take i)).map db))]⟩) (fun i => i ≤ W.length) (fun i => W.length - i) 0 ?_ ?_ ?_
                · simp -implicitDefEqProofs (maxSteps := 1000000) (disch := (first | omega | (simp only [go_sem] <;> omega) | fail)) only [go_sem, ints, bools, mat, List.take_zero, List.append_nil]
                  rfl
                · exact Nat.zero_le _
                · intro i hi J3 hJ3
                  by_cases hil : i < W.length
                  · have hub := inC_get hW i hil
                    have ecv := cvL_mark l X hub.1 hil
                    have ecg := cvL_getI (X := X ++ W.take i) hub
                    have efr := freT_step (X := X) hil hWn
                    cases hfr : freT X W i with
                    | true =>
                      rw [hfr] at efr
                      rw [Bool.true_and] at efr
                      have z1 := eW; have z2 := ecv; have z3 := ecg; refine go_c3 ?_
                      refine hJ3 (i + 1) (by omega) (by omega) _ ?_
                      simp -implicitDefEqProofs (maxSteps := 1000000) (disch := (first | omega | (simp only [go_sem] <;> omega) | fail)) only [go_sem, ints, bools, mat, eW, ecv, ecg, ← efr]
                      rfl
                    | false =>
                      rw [hfr] at efr
                      rw [Bool.false_and] at efr
                      have z1 := eW; have z2 := ecv; have z3 := ecg; refine go_c3 ?_
                      refine hJ3 (i + 1) (by omega) (by omega) _ ?_
                      simp -implicitDefEqProofs (maxSteps := 1000000) (disch := (first | omega | (simp only [go_sem] <;> omega) | fail)) only [go_sem, ints, bools, mat, eW, ecv, ecg, ← efr]
                      rfl
                  · have hie : i = W.length := by omega
                    subst hie
                    have hfW : freT X W W.length = freW l r X w := by unfold freT freW; rw [List.take_length, hWe]
                    rw [hfW, List.take_length]
                    cases hfr : freW l r X w with
                    | false =>
                      rw [hfr, if_neg (by decide)] at hst
                      have z1 := eW; refine go_c1 ?_
                      refine hJ2 (k + 1, true) ⟨by dsimp only; omega, ?_⟩ (by dsimp only; omega) _ ?_
                      · rw [hst]; exact ⟨fun _ => rfl, fun _ => rfl⟩
                      · simp -implicitDefEqProofs (maxSteps := 1000000) (disch := (first | omega | (simp only [go_sem] <;> omega) | fail)) only [go_sem, ints, bools, mat, hst]
                        rfl
                    | true =>
                      rw [hfr, if_pos rfl] at hst
                      obtain ⟨hwX, hmu2⟩ := fre_muX hr0 hwb hfr
                      have hpk2 := hpk.step hs hr0 hwb hfr
                      rw [hWe] at hmu2 hpk2
                      have hL : (lvJ l r n X c B (k + 1)).length = (lvs l r n (X ++ W) (c ++ [w])).length := by rw [hst]
                      have hden := ih (X ++ W) (c ++ [w]) (by omega) hpk2 (by omega)
                      rw [← putI_setI] at hden
                      have hpl := putI_len (setI c) w
                      repeat' (first | simp -implicitDefEqProofs (maxSteps := 1000000) (disch := (first | omega | (simp only [go_sem] <;> omega) | fail)) only [go_sem, ints, bools, mat, eW] | ((first | apply goIf_b | apply goG_b | apply goTG_b | apply goOG_b) <;> intro h <;> ((try simp only [hnq] at h); (try simp only [h]); (try simp only [hnr] at h)) <;> (try (exfalso; omega))))
                      have yc := d_spec_l01Own (setI c) (by omega); first | refine goC_call [.r] yc ?_ | refine goOC_call [.r] yc ?_
                      repeat' (first | simp -implicitDefEqProofs (maxSteps := 1000000) (disch := (first | omega | (simp only [go_sem] <;> omega) | fail)) only [go_sem, ints, bools, mat] | ((first | apply goIf_b | apply goG_b | apply goTG_b | apply goOG_b) <;> intro h <;> ((try simp only [hnq] at h); (try simp only [h]); (try simp only [hnr] at h)) <;> (try (exfalso; omega))))
                      have yc := d_spec_l01Put (setI c) w (by omega); first | refine goC_call [.o, .r] yc ?_ | refine goOC_call [.o, .r] yc ?_
                      repeat' (first | simp -implicitDefEqProofs (maxSteps := 1000000) (disch := (first | omega | (simp only [go_sem] <;> omega) | fail)) only [go_sem, ints, bools, mat] | ((first | apply goIf_b | apply goG_b | apply goTG_b | apply goOG_b) <;> intro h <;> ((try simp only [hnq] at h); (try simp only [h]); (try simp only [hnr] at h)) <;> (try (exfalso; omega))))
                      have yc := hden; first | refine goC_call [.r, .r, .f, .f] yc ?_ | refine goOC_call [.r, .r, .f, .f] yc ?_
                      repeat' (first | simp -implicitDefEqProofs (maxSteps := 1000000) (disch := (first | omega | (simp only [go_sem] <;> omega) | fail)) only [go_sem, ints, bools, mat] | ((first | apply goIf_b | apply goG_b | apply goTG_b | apply goOG_b) <;> intro h <;> ((try simp only [hnq] at h); (try simp only [h]); (try simp only [hnr] at h)) <;> (try (exfalso; omega))))
                      · refine hJ2 (k + 1, false) ⟨by dsimp only; omega, ?_⟩ (by dsimp only; omega) _ ?_
                        · rw [hst]
                          exact ⟨fun e => (by cases e), fun e => by rw [e] at h; simp at h⟩
                        · simp -implicitDefEqProofs (maxSteps := 1000000) (disch := (first | omega | (simp only [go_sem] <;> omega) | fail)) only [go_sem, ints, bools, mat, hst, Int.zero_add]
                          rfl
                      · have hemp : lvs l r n (X ++ W) (c ++ [w]) = [] := List.eq_nil_of_length_eq_zero (by omega)
                        rw [hemp] at hst
                        refine hJ2 (k + 1, true) ⟨by dsimp only; omega, ?_⟩ (by dsimp only; omega) _ ?_
                        · rw [hst]; exact ⟨fun _ => rfl, fun _ => rfl⟩
                        · simp -implicitDefEqProofs (maxSteps := 1000000) (disch := (first | omega | (simp only [go_sem] <;> omega) | fail)) only [go_sem, ints, bools, mat, hst, hemp, Int.zero_add]
                          rfl
              | false =>
                have hb0 : lvJ l r n X c B k ≠ [] := fun e => by have := hb.2 e; cases this
                have hb1 : 0 < (lvJ l r n X c B k).length := List.length_pos_iff.2 hb0
                have z1 := hwe; have z2 := eW; have z3 := eo; refine go_c3 ?_
                refine go_loop (fun (i : Nat) => ⟨[(1, .d (mat (nearM l r))), (2, .d (ints (setI c))), (3, .d (bools (cvL l X))), (4, .ref 0 0), (10, .d (di j)), (11, .d (di (lvJ l r n X c B k).length)), (12, .d (ints (minL ((lvJ l r n X c B k).map setI)))), (13, .d (di k)), (14, .d (di w)), (15, .sl 1 0 (prodM l).toNat 1), (16, .d (db (freT X W i))), (17, .d (di i))],
                    [some (.var [ints l]), some (.dat 1 ((cvL l (X ++ W.take i)).map db))]⟩) (fun i => i ≤ W.length) (fun i => W.length - i) 0 ?_ ?_ ?_
                · simp -implicitDefEqProofs (maxSteps := 1000000) (disch := (first | omega | (simp only [go_sem] <;> omega) | fail)) only [go_sem, ints, bools, mat, List.take_zero, List.append_nil]
                  rfl
                · exact Nat.zero_le _
                · intro i hi J3 hJ3
                  by_cases hil : i < W.length
                  · have hub := inC_get hW i hil
                    have ecv := cvL_mark l X hub.1 hil
                    have ecg := cvL_getI (X := X ++ W.take i) hub
                    have efr := freT_step (X := X) hil hWn
                    cases hfr : freT X W i with
                    | true =>
                      rw [hfr] at efr
                      rw [Bool.true_and] at efr
                      have z1 := eW; have z2 := ecv; have z3 := ecg; refine go_c3 ?_
                      refine hJ3 (i + 1) (by omega) (by omega) _ ?_
                      simp -implicitDefEqProofs (maxSteps := 1000000) (disch := (first | omega | (simp only [go_sem] <;> omega) | fail)) only [go_sem, ints, bools, mat, eW, ecv, ecg, ← efr]
                      rfl
                    | false =>
                      rw [hfr] at efr
                      rw [Bool.false_and] at efr
                      have z1 := eW; have z2 := ecv; have z3 := ecg; refine go_c3 ?_
                      refine hJ3 (i + 1) (by omega) (by omega) _ ?_
                      simp -implicitDefEqProofs (maxSteps := 1000000) (disch := (first | omega | (simp only [go_sem] <;> omega) | fail)) only [go_sem, ints, bools, mat, eW, ecv, ecg, ← efr]
                      rfl
                  · have hie : i = W.length := by omega
                    subst hie
                    have hfW : freT X W W.length = freW l r X w := by unfold freT freW; rw [List.take_length, hWe]
                    rw [hfW, List.take_length]
                    cases hfr : freW l r X w with
                    | false =>
                      rw [hfr, if_neg (by decide)] at hst
                      rw [List.append_nil] at hst
                      have z1 := eW; refine go_c1 ?_
                      refine hJ2 (k + 1, false) ⟨by dsimp only; omega, ?_⟩ (by dsimp only; omega) _ ?_
                      · rw [hst]; exact hb
                      · simp -implicitDefEqProofs (maxSteps := 1000000) (disch := (first | omega | (simp only [go_sem] <;> omega) | fail)) only [go_sem, ints, bools, mat, hst]
                        rfl
                    | true =>
                      rw [hfr, if_pos rfl] at hst
                      obtain ⟨hwX, hmu2⟩ := fre_muX hr0 hwb hfr
                      have hpk2 := hpk.step hs hr0 hwb hfr
                      rw [hWe] at hmu2 hpk2
                      have hL : (lvJ l r n X c B (k + 1)).length = (lvJ l r n X c B k).length + (lvs l r n (X ++ W) (c ++ [w])).length := by rw [hst, List.length_append]
                      have hden := ih (X ++ W) (c ++ [w]) (by omega) hpk2 (by omega)
                      rw [← putI_setI] at hden
                      have hpl := putI_len (setI c) w
                      repeat' (first | simp -implicitDefEqProofs (maxSteps := 1000000) (disch := (first | omega | (simp only [go_sem] <;> omega) | fail)) only [go_sem, ints, bools, mat, eW] | ((first | apply goIf_b | apply goG_b | apply goTG_b | apply goOG_b) <;> intro h <;> ((try simp only [hnq] at h); (try simp only [h]); (try simp only [hnr] at h)) <;> (try (exfalso; omega))))
                      have yc := d_spec_l01Own (setI c) (by omega); first | refine goC_call [.r] yc ?_ | refine goOC_call [.r] yc ?_
                      repeat' (first | simp -implicitDefEqProofs (maxSteps := 1000000) (disch := (first | omega | (simp only [go_sem] <;> omega) | fail)) only [go_sem, ints, bools, mat] | ((first | apply goIf_b | apply goG_b | apply goTG_b | apply goOG_b) <;> intro h <;> ((try simp only [hnq] at h); (try simp only [h]); (try simp only [hnr] at h)) <;> (try (exfalso; omega))))
                      have yc := d_spec_l01Put (setI c) w (by omega); first | refine goC_call [.o, .r] yc ?_ | refine goOC_call [.o, .r] yc ?_
                      repeat' (first | simp -implicitDefEqProofs (maxSteps := 1000000) (disch := (first | omega | (simp only [go_sem] <;> omega) | fail)) only [go_sem, ints, bools, mat] | ((first | apply goIf_b | apply goG_b | apply goTG_b | apply goOG_b) <;> intro h <;> ((try simp only [hnq] at h); (try simp only [h]); (try simp only [hnr] at h)) <;> (try (exfalso; omega))))
                      have yc := hden; first | refine goC_call [.r, .r, .f, .f] yc ?_ | refine goOC_call [.r, .r, .f, .f] yc ?_
                      repeat' (first | simp -implicitDefEqProofs (maxSteps := 1000000) (disch := (first | omega | (simp only [go_sem] <;> omega) | fail)) only [go_sem, ints, bools, mat] | ((first | apply goIf_b | apply goG_b | apply goTG_b | apply goOG_b) <;> intro h <;> ((try simp only [hnq] at h); (try simp only [h]); (try simp only [hnr] at h)) <;> (try (exfalso; omega))))
                      · have hne : lvs l r n (X ++ W) (c ++ [w]) ≠ [] := fun e => by
                          have hpos : 0 < ((lvs l r n (X ++ W) (c ++ [w])).length : Int) := by assumption
                          rw [e] at hpos; simp at hpos
                        have hne2 : (lvs l r n (X ++ W) (c ++ [w])).map setI ≠ [] := fun e => hne (List.map_eq_nil_iff.1 e)
                        have hne3 : (lvJ l r n X c B k).map setI ≠ [] := fun e => hb0 (List.map_eq_nil_iff.1 e)
                        have hall := hlen (k + 1)
                        rw [hst, List.map_append] at hall
                        have hl1 := hall _ (List.mem_append_right _ (minL_mem (m := 0) hne2))
                        have hl2 := hall _ (List.mem_append_left _ (minL_mem (m := 0) hne3))
                        have hmin := minL_app hne3 hne2 hall
                        rw [← List.map_append, ← hst] at hmin
                        have hbnd : (prodM l / bzM l r).toNat ≤ 1024 := by
                          have := Int.ediv_le_self (b := bzM l r) (show 0 ≤ prodM l by omega)
                          omega
                        have yc := d_spec_l06Before (minL ((lvs l r n (X ++ W) (c ++ [w])).map setI)) (minL ((lvJ l r n X c B k).map setI)) (by omega) (by omega); first | refine goC_call [.r, .r] yc ?_ | refine goOC_call [.r, .r] yc ?_
                        cases hlx : lexB (minL ((lvs l r n (X ++ W) (c ++ [w])).map setI)) (minL ((lvJ l r n X c B k).map setI)) with
                        | true =>
                          rw [lesB, if_pos hlx] at hmin
                          refine go_c0 ?_
                          refine hJ2 (k + 1, false) ⟨by dsimp only; omega, ?_⟩ (by dsimp only; omega) _ ?_
                          · rw [hst]; exact ⟨fun e => (by cases e), fun e => (hb0 (List.append_eq_nil_iff.1 e).1).elim⟩
                          · simp -implicitDefEqProofs (maxSteps := 1000000) (disch := (first | omega | (simp only [go_sem] <;> omega) | fail)) only [go_sem, ints, bools, mat, hmin, hL, Int.natCast_add]
                        | false =>
                          rw [lesB, hlx, if_neg (by decide)] at hmin
                          refine go_c0 ?_
                          refine hJ2 (k + 1, false) ⟨by dsimp only; omega, ?_⟩ (by dsimp only; omega) _ ?_
                          · rw [hst]; exact ⟨fun e => (by cases e), fun e => (hb0 (List.append_eq_nil_iff.1 e).1).elim⟩
                          · simp -implicitDefEqProofs (maxSteps := 1000000) (disch := (first | omega | (simp only [go_sem] <;> omega) | fail)) only [go_sem, ints, bools, mat, hmin, hL, Int.natCast_add]
                      · have hemp : lvs l r n (X ++ W) (c ++ [w]) = [] := List.eq_nil_of_length_eq_zero (by omega)
                        rw [hemp, List.append_nil] at hst
                        refine hJ2 (k + 1, false) ⟨by dsimp only; omega, ?_⟩ (by dsimp only; omega) _ ?_
                        · rw [hst]; exact hb
                        · simp -implicitDefEqProofs (maxSteps := 1000000) (disch := (first | omega | (simp only [go_sem] <;> omega) | fail)) only [go_sem, ints, bools, mat, hst, hemp, List.length_nil, Int.natCast_zero, Int.add_zero]
                          rfl
            · have hke : k = B.length := by omega
              subst hke
              cases b with
              | true =>
                have hb0 := hb.1 rfl
                rw [hb0]
                have z1 := eo; refine go_c1 ?_
                rfl
              | false =>
                have z1 := eo; exact go_e1
      · have hje : j = (prodM l).toNat := by omega
        subst hje
        have ho : opn l X = none := by
          cases ho : opn l X with
          | none => rfl
          | some o =>
            obtain ⟨h1, h2, h3⟩ := opn_some ho
            have := hjX o.toNat (by omega)
            rw [Int.toNat_of_nonneg h1.1] at this
            exact absurd this h2
        have hres : srS l r (n + 1) X c = .tup [.d (di 1), .d (ints (setI c))] := by
          unfold srS; rw [lvs_done ho]; rfl
        rw [hres]
        exact go_e0
theorem d_spec_l06Few (l : List Int) (hl : l.length < 1048577) (r : Int) : Den PA f_spec_l06Few [.d (.agg [ints l]), .d (di r)] [.any, .any] (.d (di (pfE l r))) := by
  refine den_go [] l_spec_l06Few ?_
  refine go_c0 ?_
  have hc := d_spec_l04Code l hl r 1 8
  by_cases h1 : isSpaceM l = true
  · by_cases h2 : 1 ≤ r ∧ r ≤ 8
    · rw [if_pos h1, if_pos h2] at hc
      have yc := hc; first | refine goC_call [.r, .r, .r, .r] yc ?_ | refine goOC_call [.r, .r, .r, .r] yc ?_
      have hn := isSpaceM_n h1
      refine go_c0 ?_
      have yc := d_spec_l01N l (by omega) (isSpaceM_q h1); first | refine goC_call [.r] yc ?_ | refine goOC_call [.r] yc ?_
      by_cases h4 : prodM l ≤ 64
      · rw [pfE, if_pos h1, if_pos h2, if_pos h4]
        exact go_e0
      · rw [pfE, if_pos h1, if_pos h2, if_neg h4]
        exact go_e0
    · rw [if_pos h1, if_neg h2] at hc
      have yc := hc; first | refine goC_call [.r, .r, .r, .r] yc ?_ | refine goOC_call [.r, .r, .r, .r] yc ?_
      rw [pfE, if_pos h1, if_neg h2]
      exact go_e0
  · rw [if_neg h1] at hc
    have yc := hc; first | refine goC_call [.r, .r, .r, .r] yc ?_ | refine goOC_call [.r, .r, .r, .r] yc ?_
    rw [pfE, if_neg h1]
    exact go_e0
abbrev alR (l : List Int) (r : Int) : R := .tup [.d (di (allP l r).length), .d (ints (minL ((allP l r).map setI)))]
theorem d_spec_l06All (l : List Int) (hs : isSpaceM l = true) (r : Int) (hr0 : 0 ≤ r) (hr8 : r ≤ 8) (hlv : ((allP l r).length : Int) < 4611686018427387904) : Den PA f_spec_l06All [.d (.agg [ints l]), .d (di r)] [.any, .any] (alR l r) := by
  have hpr := isSpaceM_prod hs
  have hp1 := prodM_pos (isSpaceM_szs hs)
  have hn := isSpaceM_n hs
  have hbz := bz_pos hs hr0
  have en : ((prodM l).toNat : Int) = prodM l := by omega
  refine den_go [] l_spec_l06All ?_
  have y1 := kc [.r] (d_spec_l01N l (by omega) (isSpaceM_q hs)); refine go_c0 ?_
  have yc := d_spec_l01Size l hs r hr0 (by omega); first | refine goC_call [.r, .r] yc ?_ | refine goOC_call [.r, .r] yc ?_
  by_cases hd : prodM l % bzM l r = 0
  · have hall : allP l r = lvs l r ((prodM l).toNat + 1) [] [] := if_pos hd
    have hmu := muX_le l []
    have hden := d_spec_l06Search l hs r hr0 ((prodM l).toNat + 1) [] [] (by omega) (Pck.nil l r) (by rw [← hall]; exact hlv)
    have hres : alR l r = srS l r ((prodM l).toNat + 1) [] [] := by unfold alR srS; rw [hall]
    rw [hres]
    rw [← cvL_nil, show setI [] = ([] : List Int) from setI_eq List.Pairwise.nil fun x => Iff.rfl] at hden
    refine go_c0 ?_
    refine go_loop (fun (j : Nat) => ⟨[(1, .d (di r)), (2, .ref 0 0), (6, .d (di (prodM l))), (7, .sl 1 0 j 1), (8, .d (di j))], [some (.var [ints l]), some (.dat 1 (((nearM l r).take j).map ints))]⟩) (fun j => j ≤ (prodM l).toNat) (fun j => (prodM l).toNat - j) 0 ?_ ?_ ?_
    · exact go_a0
    · exact Nat.zero_le _
    · intro j hj J hJ
      by_cases hjl : j < (prodM l).toNat
      · have hb := (d_spec_l01Ball l hs j r (by omega) (by omega)).le .frz
        have e := near_take l r hjl
        have y1 := kc [.r, .r, .r] hb; refine go_c0 ?_
        refine hJ (j + 1) (by omega) (by omega) _ ?_
        simp -implicitDefEqProofs (maxSteps := 1000000) (disch := (first | omega | (simp only [go_sem] <;> omega) | fail)) only [go_sem, ints, bools, mat, e]
        rfl
      · have hje : j = (prodM l).toNat := by omega
        subst hje
        repeat' (first | simp -implicitDefEqProofs (maxSteps := 1000000) (disch := (first | omega | (simp only [go_sem] <;> omega) | fail)) only [go_sem, ints, bools, mat, en] | ((first | apply goIf_b | apply goG_b | apply goTG_b | apply goOG_b) <;> intro h <;> ((try simp only [hnq] at h); (try simp only [h]); (try simp only [hnr] at h)) <;> (try (exfalso; omega))))
        rw [goS_two]
        refine ⟨?_, ?_⟩
        · have y1 := kc [.r, .f, .f, .f] hden; exact go_e0
        · have y1 := kc [.r, .f, .f, .f] hden; exact go_e0
  · have hall : allP l r = [] := if_neg hd
    have hres : alR l r = .tup [.d (di 0), .d (ints [])] := by unfold alR; rw [hall]; rfl
    rw [hres]
    exact go_e0
abbrev cpR (l : List Int) (r : Int) : R := .tup [.d (di (if pfE l r = 0 then ((allP l r).length : Int) else 0)), .d (di (pfE l r))]
theorem d_spec_CountPerfect (l : List Int) (r : Int) (hl : l.length < 1048577) : Den PA f_spec_CountPerfect [.d (.agg [ints l]), .d (di r)] [.any, .any] (cpR l r) := by
  refine den_go [] l_spec_CountPerfect ?_
  refine go_c0 ?_
  have yc := d_spec_l06Few l hl r; first | refine goC_call [.r, .r] yc ?_ | refine goOC_call [.r, .r] yc ?_
  by_cases h : pfE l r = 0
  · obtain ⟨hs, hr, h64⟩ := pfE_ok h
    rw [cpR, if_pos h, h]
    have y1 := kc [.r, .r] (d_spec_l06All l hs r (by omega) (by omega) (allP_cnt hs (by omega) h64)); exact go_e0
  · rw [cpR, if_neg h]
    exact go_e0
theorem d_impl_CountPerfect (l : List Int) (r : Int) (hl : l.length < 1048577) : Den PA f_impl_CountPerfect [.d (.agg [ints l]), .d (di r)] [.any, .any] (cpR l r) := by
  refine den_go [] l_impl_CountPerfect ?_
  refine go_c0 ?_
  have yc := d_impl_perfectCode l hl r; first | refine goC_call [.r, .r] yc ?_ | refine goOC_call [.r, .r] yc ?_
  by_cases h : pfE l r = 0
  · obtain ⟨hs, hr, h64⟩ := pfE_ok h
    rw [cpR, if_pos h, h]
    refine go_c0 ?_
    refine goC_real [] [.ref 1 0] (by simp -implicitDefEqProofs (maxSteps := 1000000) (disch := (first | omega | (simp only [go_sem] <;> omega) | fail)) only [go_sem, ints, bools, mat]) fun ρ hρ => ?_
    refine go_c0 ?_
    refine goCG_call [.r, .r, .r, .i .bm] (d_impl_perfects_C l hs r (by omega) (ρ 1) (allP_cnt hs (by omega) h64)) ?_
    exact go_e0
  · rw [cpR, if_neg h]
    exact go_e0
def cmpM : List Int → List Int → Int
  | a :: x, b :: y => if a < b then -1 else if b < a then 1 else cmpM x y
  | _, _ => 0
theorem cmpM_lex : ∀ {a b : List Int}, a.length = b.length → decide (cmpM a b < 0) = lexB a b
  | [], [], _ => rfl
  | a :: x, b :: y, h => by
    rw [cmpM, lexB]
    by_cases h1 : a < b
    · rw [if_pos h1, if_neg (by omega)]; simp [h1]
    · rw [if_neg h1]
      by_cases h2 : b < a
      · rw [if_pos h2, if_neg (by omega)]; simp; omega
      · rw [if_neg h2, if_pos (by omega)]
        exact cmpM_lex (by simpa using h)
theorem d_cmp_Compare (x y : Int) : Den PA f_cmp_Compare_int64_ [.d (di x), .d (di y)] [.any, .any] (.d (di (if x < y then -1 else if y < x then 1 else 0))) := by
  refine den_go [] l_cmp_Compare_int64_ ?_
  have y1 := kc [.r] (d_cmp_isNaN x); refine go_c0 ?_
  have yc := d_cmp_isNaN y; first | refine goC_call [.r] yc ?_ | refine goOC_call [.r] yc ?_
  by_cases h1 : x < y
  · rw [if_pos h1]; repeat' (first | simp -implicitDefEqProofs (maxSteps := 1000000) (disch := (first | omega | (simp only [go_sem] <;> omega) | fail)) only [go_sem, ints, bools, mat] | ((first | apply goIf_b | apply goG_b | apply goTG_b | apply goOG_b) <;> intro h <;> ((try simp only [hnq] at h); (try simp only [h]); (try simp only [hnr] at h)) <;> (try (exfalso; omega))))
  · rw [if_neg h1]
    by_cases h2 : y < x
    · rw [if_pos h2]; repeat' (first | simp -implicitDefEqProofs (maxSteps := 1000000) (disch := (first | omega | (simp only [go_sem] <;> omega) | fail)) only [go_sem, ints, bools, mat] | ((first | apply goIf_b | apply goG_b | apply goTG_b | apply goOG_b) <;> intro h <;> ((try simp only [hnq] at h); (try simp only [h]); (try simp only [hnr] at h)) <;> (try (exfalso; omega))))
    · rw [if_neg h2]; repeat' (first | simp -implicitDefEqProofs (maxSteps := 1000000) (disch := (first | omega | (simp only [go_sem] <;> omega) | fail)) only [go_sem, ints, bools, mat] | ((first | apply goIf_b | apply goG_b | apply goTG_b | apply goOG_b) <;> intro h <;> ((try simp only [hnq] at h); (try simp only [h]); (try simp only [hnr] at h)) <;> (try (exfalso; omega))))
theorem d_slices_Compare (a b : List Int) (hl : a.length = b.length) (hb : b.length < 1048577) : Den PA f_slices_Compare___int64_int64_ [.d (ints a), .d (ints b)] [.any, .any] (.d (di (cmpM a b))) := by
  refine den_go [] l_slices_Compare___int64_int64_ ?_
  refine go_c0 ?_
  refine go_loop (fun (i : Nat) => ⟨[(0, .d (ints a)), (1, .d (ints b)), (9, .d (ints a)), (10, .d (di a.length)), (11, .d (di i))], []⟩) (fun i => i ≤ a.length ∧ cmpM (a.drop i) (b.drop i) = cmpM a b) (fun i => a.length - i) 0 ?_ ?_ ?_
  · exact go_r0
  · exact ⟨Nat.zero_le _, rfl⟩
  · rintro i ⟨hi, he⟩ J hJ
    by_cases hil : i < a.length
    · rw [drop_getD hil, drop_getD (show i < b.length by omega), cmpM] at he
      have hc := d_cmp_Compare (a.getD i 0) (b.getD i 0)
      refine go_c0 ?_
      by_cases h1 : a.getD i 0 < b.getD i 0
      · rw [if_pos h1] at he hc
        rw [← he]
        have y1 := kc [.r, .r] hc; exact go_e0
      · rw [if_neg h1] at he hc
        by_cases h2 : b.getD i 0 < a.getD i 0
        · rw [if_pos h2] at he hc
          rw [← he]
          have y1 := kc [.r, .r] hc; exact go_e0
        · rw [if_neg h2] at he hc
          have y1 := kc [.r, .r] hc; refine go_c0 ?_
          refine hJ (i + 1) ⟨by omega, he⟩ (by omega) _ ?_
          exact go_r0
    · have hie : i = a.length := by omega
      subst hie
      rw [List.drop_length, cmpM] at he
      · rw [← he]
        exact go_e0
      · intro a x b y h; cases h
def bsR : Option (List Int) → R
  | none => .d nil
  | some b => .own 1 (b.map di)
def bvB : Option (List Int) → Blk
  | none => .var [nil]
  | some b => .mix [.sl 5 0 b.length 1]
def bvD : Option (List Int) → Sto
  | none => []
  | some b => [some (.dat 1 (b.map di))]
def bstS : Option (List Int) → List Int → Option (List Int)
  | none, x => some x
  | some b, x => some (lesB b x)
def bstO (o : Option (List Int)) (L : List (List Int)) : Option (List Int) := L.foldl bstS o
theorem bstO_nil (o : Option (List Int)) : bstO o [] = o := rfl
theorem bstO_one (o : Option (List Int)) (x : List Int) : bstO o [x] = bstS o x := rfl
theorem bstO_app (o : Option (List Int)) (A B : List (List Int)) : bstO o (A ++ B) = bstO (bstO o A) B := List.foldl_append
theorem bstO_some : ∀ (L : List (List Int)) (b : List Int), bstO (some b) L = some (L.foldl lesB b)
  | [], b => rfl
  | x :: L, b => by
    show bstO (some (lesB b x)) L = _
    rw [bstO_some L]; rfl
theorem bstO_none (L : List (List Int)) : bstO none L = if L = [] then none else some (minL L) := by
  cases L with
  | nil => rfl
  | cons x L => exact (bstO_some L x).trans (if_neg (by simp)).symm
def lenO (m : Nat) : Option (List Int) → Prop
  | none => True
  | some b => b.length = m
theorem lenO_step {m : Nat} : ∀ {L : List (List Int)} {o : Option (List Int)}, lenO m o → (∀ x, x ∈ L → x.length = m) → lenO m (bstO o L)
  | [], o, h, _ => h
  | x :: L, o, h, hL => by
    show lenO m (bstO (bstS o x) L)
    refine lenO_step ?_ fun y hy => hL y (List.mem_cons_of_mem _ hy)
    cases o with
    | none => exact hL x List.mem_cons_self
    | some b => exact lesB_len h (hL x List.mem_cons_self)
def lastLoop : AC → AC
  | .seq _ b => lastLoop b
  | .block _ b => lastLoop b
  | .loop _ b => b
  | x => x
theorem d_FirstPerfect_1n (x : List Int) (g : Value) : DenG PA f_impl_FirstPerfect_1 2 [.own 1 (x.map di), .is (.boxm [.d nil]) g] [.any, .boxm [.own 1 (x.map di)]] (.tup []) := by
  refine den_goG [1] l_impl_FirstPerfect_1 (by simp) ?_
  exact go_e0
theorem d_FirstPerfect_1s (x b : List Int) (g : Value) (hl : x.length = b.length) (hb : b.length < 1048577) : DenG PA f_impl_FirstPerfect_1 2 [.own 1 (x.map di), .is (.boxm [.own 1 (b.map di)]) g] [.any, .boxm [.own 1 ((lesB b x).map di)]] (.tup []) := by
  have hc := cmpM_lex hl
  refine den_goG [1] l_impl_FirstPerfect_1 (by simp) ?_
  refine go_c0 ?_
  have yc := d_slices_Compare x b hl hb; first | refine goC_call [.r, .r] yc ?_ | refine goOC_call [.r, .r] yc ?_
  cases h : lexB x b with
  | true =>
    rw [h, decide_eq_true_eq] at hc
    rw [lesB, if_pos h]
    exact go_e0
  | false =>
    rw [h, decide_eq_false_iff_not] at hc
    rw [lesB, h, if_neg (by decide)]
    exact go_e0
theorem Pck.cl {l X c : List Int} {r : Int} (hs : isSpaceM l = true) (hr : 0 ≤ r) (h : Pck l r X c) : c.length + muX l X < 1048576 := by
  have hpr := isSpaceM_prod hs
  have hbz := bz_pos hs hr
  have h1 := h.mu
  have h2 := h.len
  have h3 : (c.length : Int) * 1 ≤ c.length * bzM l r := Int.mul_le_mul_of_nonneg_left (by omega) (by omega)
  omega
theorem bz_len {l : List Int} {r : Int} (hs : isSpaceM l = true) (hr : 0 ≤ r) : (prodM l / bzM l r).toNat ≤ 1024 := by
  have hpr := isSpaceM_prod hs
  have hbz := bz_pos hs hr
  have := Int.ediv_le_self (b := bzM l r) (show 0 ≤ prodM l by omega)
  omega
theorem lvJ_len {l : List Int} {r : Int} (hs : isSpaceM l = true) (hr : 0 ≤ r) {n : Nat} {X c : List Int} (hpk : Pck l r X c) {o : Int} (ho : opn l X = some o) (k : Nat) :
    ∀ x, x ∈ (lvJ l r n X c (ballM l o r) k).map setI → x.length = (prodM l / bzM l r).toNat := fun x hx => by
  refine lvs_len hs hr (n := n + 1) hpk x ?_
  rw [lvs_open ho]
  obtain ⟨y, hy, rfl⟩ := List.mem_map.1 hx
  refine List.mem_map.2 ⟨y, ?_, rfl⟩
  unfold lvJ at hy ⊢
  rw [List.mem_flatMap] at hy ⊢
  obtain ⟨u, hu, hy⟩ := hy
  exact ⟨u, by rw [List.take_length]; exact List.mem_of_mem_take hu, hy⟩
theorem d_perf_F (l : List Int) (hs : isSpaceM l = true) (r : Int) (hr0 : 0 ≤ r) : ∀ (n : Nat) (X c : List Int) (oo : Option (List Int)) (g0 g1 g2 g3 g4 g : Value), muX l X < n → Pck l r X c → lenO (prodM l / bzM l r).toNat oo →
    DenG PA f_impl_perfects_1 5 [.is (.boxm [.own 1 ((cvL l X).map db)]) g0, .is (.boxm [.own 1 (c.map di)]) g1, .is (.box [.v (.func (.func f_impl_FirstPerfect_1) #[] [g].toArray)]) g2, .is (.box [mat (nearM l r)]) g3,
        .is (.box [.v (.func (.func f_impl_perfects_1) #[] [g0, g1, g2, g3, g4].toArray)]) g4, .is (.boxm [bsR oo]) g]
      [.boxm [.own 1 ((cvL l X).map db)], .boxm [.own 1 (c.map di)], .any, .any, .any, .boxm [bsR (bstO oo ((lvs l r n X c).map setI))]] (.tup []) := by
  have hpr := isSpaceM_prod hs
  have hp1 := prodM_pos (isSpaceM_szs hs)
  have hbb := bz_len hs hr0
  intro n
  induction n with
  | zero => intro X c oo g0 g1 g2 g3 g4 g hmu; omega
  | succ n ih =>
    intro X c oo g0 g1 g2 g3 g4 g hmu hpk hoo
    have hX := hpk.inX
    have hcl := hpk.cl hs hr0
    refine den_goG [0, 1, 2, 3, 4, 5] l_impl_perfects_1 (by simp) ?_
    cases ho : opn l X with
    | none =>
      rw [lvs_done ho]
      have hsn := sortI_nodup hpk.cnd
      have hsc := setI_len_nodup hpk.cnd
      have hsl := lvs_len hs hr0 (n := n + 1) hpk (setI c) (by rw [lvs_done ho]; exact List.mem_cons_self)
      have hIx := d_Index_cv l X hs
      rw [ho] at hIx
      cases oo with
      | none =>
        repeat' (first | simp -implicitDefEqProofs (maxSteps := 1000000) (disch := (first | omega | (simp only [go_sem] <;> omega) | fail)) only [go_sem, ints, bools, mat, c_impl_perfects_1, bsR] | ((first | apply goIf_b | apply goG_b | apply goTG_b | apply goOG_b) <;> intro h <;> ((try simp only [hnq] at h); (try simp only [h]); (try simp only [hnr] at h)) <;> (try (exfalso; omega))))
        have yc := hIx; first | refine goC_call [.r, .r] yc ?_ | refine goOC_call [.r, .r] yc ?_
        repeat' (first | simp -implicitDefEqProofs (maxSteps := 1000000) (disch := (first | omega | (simp only [go_sem] <;> omega) | fail)) only [go_sem, ints, bools, mat, idxO] | ((first | apply goIf_b | apply goG_b | apply goTG_b | apply goOG_b) <;> intro h <;> ((try simp only [hnq] at h); (try simp only [h]); (try simp only [hnr] at h)) <;> (try (exfalso; omega))))
        have y1 := kc [.r] (d_slices_Clone_ints c (by omega)); refine go_c0 ?_
        have yc := d_slices_Sort c (by omega); first | refine goC_call [.o] yc ?_ | refine goOC_call [.o] yc ?_
        rw [hsn]
        refine go_c0 ?_
        refine goV_val f_impl_FirstPerfect_1 [g] [82] [] rfl (by simp -implicitDefEqProofs (maxSteps := 1000000) (disch := (first | omega | (simp only [go_sem] <;> omega) | fail)) only [go_sem, ints, bools, mat]) ?_
        refine go_c0 ?_
        refine goCG_call [.o, .i .bm] (d_FirstPerfect_1n (setI c) g) ?_
        repeat' (first | simp -implicitDefEqProofs (maxSteps := 1000000) (disch := (first | omega | (simp only [go_sem] <;> omega) | fail)) only [go_sem, ints, bools, mat, bstO_one, bstS, bsR] | ((first | apply goIf_b | apply goG_b | apply goTG_b | apply goOG_b) <;> intro h <;> ((try simp only [hnq] at h); (try simp only [h]); (try simp only [hnr] at h)) <;> (try (exfalso; omega))))
      | some b =>
        have hbl : b.length = (prodM l / bzM l r).toNat := hoo
        repeat' (first | simp -implicitDefEqProofs (maxSteps := 1000000) (disch := (first | omega | (simp only [go_sem] <;> omega) | fail)) only [go_sem, ints, bools, mat, c_impl_perfects_1, bsR] | ((first | apply goIf_b | apply goG_b | apply goTG_b | apply goOG_b) <;> intro h <;> ((try simp only [hnq] at h); (try simp only [h]); (try simp only [hnr] at h)) <;> (try (exfalso; omega))))
        have yc := hIx; first | refine goC_call [.r, .r] yc ?_ | refine goOC_call [.r, .r] yc ?_
        repeat' (first | simp -implicitDefEqProofs (maxSteps := 1000000) (disch := (first | omega | (simp only [go_sem] <;> omega) | fail)) only [go_sem, ints, bools, mat, idxO] | ((first | apply goIf_b | apply goG_b | apply goTG_b | apply goOG_b) <;> intro h <;> ((try simp only [hnq] at h); (try simp only [h]); (try simp only [hnr] at h)) <;> (try (exfalso; omega))))
        have y1 := kc [.r] (d_slices_Clone_ints c (by omega)); refine go_c0 ?_
        have yc := d_slices_Sort c (by omega); first | refine goC_call [.o] yc ?_ | refine goOC_call [.o] yc ?_
        rw [hsn]
        refine go_c0 ?_
        refine goV_val f_impl_FirstPerfect_1 [g] [82] [] rfl (by simp -implicitDefEqProofs (maxSteps := 1000000) (disch := (first | omega | (simp only [go_sem] <;> omega) | fail)) only [go_sem, ints, bools, mat]) ?_
        refine go_c0 ?_
        refine goCG_call [.o, .i .bm] (d_FirstPerfect_1s (setI c) b g (by omega) (by omega)) ?_
        repeat' (first | simp -implicitDefEqProofs (maxSteps := 1000000) (disch := (first | omega | (simp only [go_sem] <;> omega) | fail)) only [go_sem, ints, bools, mat, bstO_one, bstS, bsR] | ((first | apply goIf_b | apply goG_b | apply goTG_b | apply goOG_b) <;> intro h <;> ((try simp only [hnq] at h); (try simp only [h]); (try simp only [hnr] at h)) <;> (try (exfalso; omega))))
    | some o =>
      obtain ⟨hob, hoX, _⟩ := opn_some ho
      rw [lvs_open ho]
      have hlen := lvJ_len hs hr0 (n := n) hpk ho
      have hB := ball_in l o r
      have hBl : (ballM l o r).length ≤ (prodM l).toNat := by unfold ballM; exact filter_len_le _ _ _ (by rw [allW_len]; exact Nat.le_refl _)
      have eo := nearM_get r hob
      have hIx := d_Index_cv l X hs
      rw [ho] at hIx
      generalize hBe : ballM l o r = B at *
      let I : Nat × List Int × Option (List Int) → ASt := fun p => ⟨[(0, .ref 0 0), (1, .ref 1 0), (3, .iref [mat (nearM l r)] 0), (4, .iref [.v (.func (.func f_impl_perfects_1) #[] [g0, g1, g2, g3, g4].toArray)] 0), (27, .d (ints B)), (28, .d (di B.length)), (29, .d (di p.1)), (77, .is (.ref 0 0) g0), (78, .is (.ref 1 0) g1), (79, .is (.iref [.v (.func (.func f_impl_FirstPerfect_1) #[] [g].toArray)] 0) g2), (80, .is (.iref [mat (nearM l r)] 0) g3), (81, .is (.iref [.v (.func (.func f_impl_perfects_1) #[] [g0, g1, g2, g3, g4].toArray)] 0) g4), (82, .is (.ref 2 0) g)], ([some (.mix [.sl 3 0 (prodM l).toNat 1]), some (.mix [.sl 4 0 c.length 1]), some (bvB p.2.2), some (.dat 1 ((cvL l X).map db)), some (.dat 1 ((c ++ p.2.1).map di))] ++ bvD p.2.2)⟩
      let V : Nat × List Int × Option (List Int) → Prop := fun p => p.1 ≤ B.length ∧ p.2.2 = bstO oo ((lvJ l r n X c B p.1).map setI)
      let mu : Nat × List Int × Option (List Int) → Nat := fun p => B.length - p.1
      have hstep : ∀ p, V p → ∀ J : ASt → Prop, (∀ y, V y → mu y < mu p → ∀ st', norm [0, 1, 3, 4, 27, 28, 29, 77, 78, 79, 80, 81, 82] st' = I y → J st') → go PA (lastLoop c_impl_perfects_1.code) [.back J, .blk 0] (I p) (postF [] 77 6 [0, 1, 2, 3, 4, 5] [.boxm [.own 1 ((cvL l X).map db)], .boxm [.own 1 (c.map di)], .any, .any, .any, .boxm [bsR (bstO oo ((lvJ l r n X c B B.length).map setI))]] (.tup [])) := by
        rintro ⟨j, t, ob⟩ ⟨hj, hob⟩ J hJ
        dsimp only at hj hob ⊢
        have hlo : lenO (prodM l / bzM l r).toNat ob := by rw [hob]; exact lenO_step hoo (hlen j)
        by_cases hjl : j < B.length
        · have hwb := inC_get hB j hjl
          have hst := lvJ_step (l := l) (r := r) (n := n) (X := X) (c := c) (B := B) hjl
          have hW := ball_in l (B.getD j 0) r
          have hWn := ballM_nodup l (B.getD j 0) r
          have hWl : (ballM l (B.getD j 0) r).length ≤ (prodM l).toNat := by unfold ballM; exact filter_len_le _ _ _ (by rw [allW_len]; exact Nat.le_refl _)
          have eW := nearM_get r hwb
          have hWf : freW l r X (B.getD j 0) = !((ballM l (B.getD j 0) r).any fun u => (cvL l X).getD u.toNat false) := by
            rw [freW]
            congr 1
            exact any_mem fun u hu => (cvL_getI (hW u hu)).symm
          generalize hWe : ballM l (B.getD j 0) r = W at *
          generalize hwe : B.getD j 0 = w at *
          cases ob with
          | none =>
            repeat' (first | simp -implicitDefEqProofs (maxSteps := 1000000) (disch := (first | omega | (simp only [go_sem] <;> omega) | fail)) only [go_sem, ints, bools, mat, c_impl_perfects_1, lastLoop, I, bvB, bvD, hwe, eW] | ((first | apply goIf_b | apply goG_b | apply goTG_b | apply goOG_b) <;> intro h <;> ((try simp only [hnq] at h); (try simp only [h]); (try simp only [hnr] at h)) <;> (try (exfalso; omega))))
            have yc := d_slices_ContainsFunc_in W (fun u => (cvL l X).getD u.toNat false) (fnI (fun u => 0 ≤ u ∧ u < prodM l) fun u => (cvL l X).getD u.toNat false) (fun i hi => ⟨_, inC_get hW i hi, rfl, rfl⟩) (by omega); first | refine goC_call [.r, .g (fnI (fun u => 0 ≤ u ∧ u < prodM l) fun u => (cvL l X).getD u.toNat false)] yc ?_ | refine goOC_call [.r, .g (fnI (fun u => 0 ≤ u ∧ u < prodM l) fun u => (cvL l X).getD u.toNat false)] yc ?_
            repeat' (first | simp -implicitDefEqProofs (maxSteps := 1000000) (disch := (first | omega | (simp only [go_sem] <;> omega) | fail)) only [go_sem, ints, bools, mat] | ((first | apply goIf_b | apply goG_b | apply goTG_b | apply goOG_b) <;> intro h <;> ((try simp only [hnq] at h); (try simp only [h]); (try simp only [hnr] at h)) <;> (try (exfalso; omega))))
            refine chk_intro (fnOK_mk (d_impl_perfects_1_1 [false] 0 (by omega) (by simp) (by simp)).1 [[bools (cvL l X)]] (by simp -implicitDefEqProofs (maxSteps := 1000000) (disch := (first | omega | (simp only [go_sem] <;> omega) | fail)) only [go_sem, ints, bools, mat]) fun ds r hgg => ?_) ?_
            · obtain ⟨u, hu, rfl, rfl⟩ := hgg
              exact ⟨_, d_impl_perfects_1_1 (cvL l X) u hu.1 (by rw [cvL_len]; omega) (by rw [cvL_len]; omega)⟩
            repeat' (first | simp -implicitDefEqProofs (maxSteps := 1000000) (disch := (first | omega | (simp only [go_sem] <;> omega) | fail)) only [go_sem, ints, bools, mat] | ((first | apply goIf_b | apply goG_b | apply goTG_b | apply goOG_b) <;> intro h <;> ((try simp only [hnq] at h); (try simp only [h]); (try simp only [hnr] at h)) <;> (try (exfalso; omega))))
            · have hany := h
              rw [hany] at hWf
              rw [hWf] at hst
              have hst : lvJ l r n X c B (j + 1) = lvJ l r n X c B j := hst.trans (List.append_nil _)
              refine hJ (j + 1, t, none) ⟨by dsimp only; omega, ?_⟩ (by dsimp only [mu]; omega) _ ?_
              · rw [hst]; exact hob
              · simp -implicitDefEqProofs (maxSteps := 1000000) (disch := (first | omega | (simp only [go_sem] <;> omega) | fail)) only [go_sem, ints, bools, mat, I, bvB, bvD]
                rfl
            · have hany := h
              rw [hany] at hWf
              have hWf : freW l r X w = true := hWf
              rw [hWf, if_pos rfl] at hst
              obtain ⟨hwX, hmu2⟩ := fre_muX hr0 hwb hWf
              have hpk2 := hpk.step hs hr0 hwb hWf
              have hdis := fre_dis hWf
              rw [hWe] at hmu2 hpk2 hdis
              have hden := ih (X ++ W) (c ++ [w]) (none) g0 g1 g2 g3 g4 g (by omega) hpk2 hlo
              have hbo : bstO oo ((lvJ l r n X c B (j + 1)).map setI) = bstO (none) ((lvs l r n (X ++ W) (c ++ [w])).map setI) := by rw [hst, List.map_append, bstO_app, ← hob]
              refine go_loop (fun (k : Nat) => ⟨[(0, .ref 0 0), (1, .ref 1 0), (3, .iref [mat (nearM l r)] 0), (4, .iref [.v (.func (.func f_impl_perfects_1) #[] [g0, g1, g2, g3, g4].toArray)] 0), (8, .d (di w)), (27, .d (ints B)), (28, .d (di B.length)), (29, .d (di j)), (42, .d (ints W)), (43, .d (di W.length)), (44, .d (di k)), (77, .is (.ref 0 0) g0), (78, .is (.ref 1 0) g1), (79, .is (.iref [.v (.func (.func f_impl_FirstPerfect_1) #[] [g].toArray)] 0) g2), (80, .is (.iref [mat (nearM l r)] 0) g3), (81, .is (.iref [.v (.func (.func f_impl_perfects_1) #[] [g0, g1, g2, g3, g4].toArray)] 0) g4), (82, .is (.ref 2 0) g)], ([some (.mix [.sl 3 0 (prodM l).toNat 1]), some (.mix [.sl 4 0 c.length 1]), some (bvB (none)), some (.dat 1 ((cvL l (X ++ W.take k)).map db)), some (.dat 1 ((c ++ t).map di))] ++ bvD (none))⟩) (fun k => k ≤ W.length) (fun k => W.length - k) 0 ?_ ?_ ?_
              · simp -implicitDefEqProofs (maxSteps := 1000000) (disch := (first | omega | (simp only [go_sem] <;> omega) | fail)) only [go_sem, ints, bools, mat, List.take_zero, List.append_nil, eW, bvB, bvD]
              · exact Nat.zero_le _
              · intro k hk J2 hJ2
                by_cases hkl : k < W.length
                · have hub := inC_get hW k hkl
                  have ecv := cvL_mark l X hub.1 hkl
                  repeat' (first | simp -implicitDefEqProofs (maxSteps := 1000000) (disch := (first | omega | (simp only [go_sem] <;> omega) | fail)) only [go_sem, ints, bools, mat, ecv, bvB, bvD] | ((first | apply goIf_b | apply goG_b | apply goTG_b | apply goOG_b) <;> intro h <;> ((try simp only [hnq] at h); (try simp only [h]); (try simp only [hnr] at h)) <;> (try (exfalso; omega))))
                  refine hJ2 (k + 1) (by omega) (by omega) _ ?_
                  simp -implicitDefEqProofs (maxSteps := 1000000) (disch := (first | omega | (simp only [go_sem] <;> omega) | fail)) only [go_sem, ints, bools, mat, ecv, bvB, bvD]
                  rfl
                · have hke : k = W.length := by omega
                  subst hke
                  repeat' (first | simp -implicitDefEqProofs (maxSteps := 1000000) (disch := (first | omega | (simp only [go_sem] <;> omega) | fail)) only [go_sem, ints, bools, mat, List.take_length, bvB, bvD] | ((first | apply goIf_b | apply goG_b | apply goTG_b | apply goOG_b) <;> intro h <;> ((try simp only [hnq] at h); (try simp only [h]); (try simp only [hnr] at h)) <;> (try (exfalso; omega))))
                  refine goV_val f_impl_perfects_1 [g0, g1, g2, g3, g4] [77, 78, 79, 80, 81] [82] rfl (by simp -implicitDefEqProofs (maxSteps := 1000000) (disch := (first | omega | (simp only [go_sem] <;> omega) | fail)) only [go_sem, ints, bools, mat]) ?_
                  cases hbo2 : bstO (none) ((lvs l r n (X ++ W) (c ++ [w])).map setI) with
                  | none =>
                    rw [hbo2] at hden hbo
                    refine go_c0 ?_
                    refine goCG_call [.i .bm, .i .bm, .i .b, .i .b, .i .b, .i .bm] hden ?_
                    repeat' (first | simp -implicitDefEqProofs (maxSteps := 1000000) (disch := (first | omega | (simp only [go_sem] <;> omega) | fail)) only [go_sem, ints, bools, mat, List.take_left, bsR] | ((first | apply goIf_b | apply goG_b | apply goTG_b | apply goOG_b) <;> intro h <;> ((try simp only [hnq] at h); (try simp only [h]); (try simp only [hnr] at h)) <;> (try (exfalso; omega))))
                    refine go_loop (fun (k : Nat) => ⟨[(0, .ref 0 0), (1, .ref 1 0), (3, .iref [mat (nearM l r)] 0), (4, .iref [.v (.func (.func f_impl_perfects_1) #[] [g0, g1, g2, g3, g4].toArray)] 0), (27, .d (ints B)), (28, .d (di B.length)), (29, .d (di j)), (66, .d (ints W)), (67, .d (di W.length)), (68, .d (di k)), (77, .is (.ref 0 0) g0), (78, .is (.ref 1 0) g1), (79, .is (.iref [.v (.func (.func f_impl_FirstPerfect_1) #[] [g].toArray)] 0) g2), (80, .is (.iref [mat (nearM l r)] 0) g3), (81, .is (.iref [.v (.func (.func f_impl_perfects_1) #[] [g0, g1, g2, g3, g4].toArray)] 0) g4), (82, .is (.ref 2 0) g)], ([some (.mix [.sl 3 0 (prodM l).toNat 1]), some (.mix [.sl 4 0 c.length 1]), some (bvB (none)), some (.dat 1 ((cvL l (X ++ W.drop k)).map db)), some (.dat 1 ((c ++ [w]).map di))] ++ bvD (none))⟩) (fun k => k ≤ W.length) (fun k => W.length - k) 0 ?_ ?_ ?_
                    · simp -implicitDefEqProofs (maxSteps := 1000000) (disch := (first | omega | (simp only [go_sem] <;> omega) | fail)) only [go_sem, ints, bools, mat, List.drop_zero, eW, bvB, bvD]
                    · exact Nat.zero_le _
                    · intro k hk J2 hJ2
                      by_cases hkl : k < W.length
                      · have hub := inC_get hW k hkl
                        have ecv := cvL_unmark l hub.1 hkl hWn hdis
                        repeat' (first | simp -implicitDefEqProofs (maxSteps := 1000000) (disch := (first | omega | (simp only [go_sem] <;> omega) | fail)) only [go_sem, ints, bools, mat, ecv, bvB, bvD] | ((first | apply goIf_b | apply goG_b | apply goTG_b | apply goOG_b) <;> intro h <;> ((try simp only [hnq] at h); (try simp only [h]); (try simp only [hnr] at h)) <;> (try (exfalso; omega))))
                        refine hJ2 (k + 1) (by omega) (by omega) _ ?_
                        simp -implicitDefEqProofs (maxSteps := 1000000) (disch := (first | omega | (simp only [go_sem] <;> omega) | fail)) only [go_sem, ints, bools, mat, ecv, bvB, bvD]
                        rfl
                      · have hke : k = W.length := by omega
                        subst hke
                        repeat' (first | simp -implicitDefEqProofs (maxSteps := 1000000) (disch := (first | omega | (simp only [go_sem] <;> omega) | fail)) only [go_sem, ints, bools, mat, List.drop_length, List.append_nil, bvB, bvD] | ((first | apply goIf_b | apply goG_b | apply goTG_b | apply goOG_b) <;> intro h <;> ((try simp only [hnq] at h); (try simp only [h]); (try simp only [hnr] at h)) <;> (try (exfalso; omega))))
                        refine hJ (j + 1, [w], none) ⟨by dsimp only; omega, hbo.symm⟩ (by dsimp only [mu]; omega) _ ?_
                        simp -implicitDefEqProofs (maxSteps := 1000000) (disch := (first | omega | (simp only [go_sem] <;> omega) | fail)) only [go_sem, ints, bools, mat, I, List.drop_length, List.append_nil, bvB, bvD]
                        rfl
                  | some b2 =>
                    rw [hbo2] at hden hbo
                    refine go_c0 ?_
                    refine goCG_call [.i .bm, .i .bm, .i .b, .i .b, .i .b, .i .bm] hden ?_
                    repeat' (first | simp -implicitDefEqProofs (maxSteps := 1000000) (disch := (first | omega | (simp only [go_sem] <;> omega) | fail)) only [go_sem, ints, bools, mat, List.take_left, bsR] | ((first | apply goIf_b | apply goG_b | apply goTG_b | apply goOG_b) <;> intro h <;> ((try simp only [hnq] at h); (try simp only [h]); (try simp only [hnr] at h)) <;> (try (exfalso; omega))))
                    refine go_loop (fun (k : Nat) => ⟨[(0, .ref 0 0), (1, .ref 1 0), (3, .iref [mat (nearM l r)] 0), (4, .iref [.v (.func (.func f_impl_perfects_1) #[] [g0, g1, g2, g3, g4].toArray)] 0), (27, .d (ints B)), (28, .d (di B.length)), (29, .d (di j)), (66, .d (ints W)), (67, .d (di W.length)), (68, .d (di k)), (77, .is (.ref 0 0) g0), (78, .is (.ref 1 0) g1), (79, .is (.iref [.v (.func (.func f_impl_FirstPerfect_1) #[] [g].toArray)] 0) g2), (80, .is (.iref [mat (nearM l r)] 0) g3), (81, .is (.iref [.v (.func (.func f_impl_perfects_1) #[] [g0, g1, g2, g3, g4].toArray)] 0) g4), (82, .is (.ref 2 0) g)], ([some (.mix [.sl 3 0 (prodM l).toNat 1]), some (.mix [.sl 4 0 c.length 1]), some (bvB (some b2)), some (.dat 1 ((cvL l (X ++ W.drop k)).map db)), some (.dat 1 ((c ++ [w]).map di))] ++ bvD (some b2))⟩) (fun k => k ≤ W.length) (fun k => W.length - k) 0 ?_ ?_ ?_
                    · simp -implicitDefEqProofs (maxSteps := 1000000) (disch := (first | omega | (simp only [go_sem] <;> omega) | fail)) only [go_sem, ints, bools, mat, List.drop_zero, eW, bvB, bvD]
                    · exact Nat.zero_le _
                    · intro k hk J2 hJ2
                      by_cases hkl : k < W.length
                      · have hub := inC_get hW k hkl
                        have ecv := cvL_unmark l hub.1 hkl hWn hdis
                        repeat' (first | simp -implicitDefEqProofs (maxSteps := 1000000) (disch := (first | omega | (simp only [go_sem] <;> omega) | fail)) only [go_sem, ints, bools, mat, ecv, bvB, bvD] | ((first | apply goIf_b | apply goG_b | apply goTG_b | apply goOG_b) <;> intro h <;> ((try simp only [hnq] at h); (try simp only [h]); (try simp only [hnr] at h)) <;> (try (exfalso; omega))))
                        refine hJ2 (k + 1) (by omega) (by omega) _ ?_
                        simp -implicitDefEqProofs (maxSteps := 1000000) (disch := (first | omega | (simp only [go_sem] <;> omega) | fail)) only [go_sem, ints, bools, mat, ecv, bvB, bvD]
                        rfl
                      · have hke : k = W.length := by omega
                        subst hke
                        repeat' (first | simp -implicitDefEqProofs (maxSteps := 1000000) (disch := (first | omega | (simp only [go_sem] <;> omega) | fail)) only [go_sem, ints, bools, mat, List.drop_length, List.append_nil, bvB, bvD] | ((first | apply goIf_b | apply goG_b | apply goTG_b | apply goOG_b) <;> intro h <;> ((try simp only [hnq] at h); (try simp only [h]); (try simp only [hnr] at h)) <;> (try (exfalso; omega))))
                        refine hJ (j + 1, [w], some b2) ⟨by dsimp only; omega, hbo.symm⟩ (by dsimp only [mu]; omega) _ ?_
                        simp -implicitDefEqProofs (maxSteps := 1000000) (disch := (first | omega | (simp only [go_sem] <;> omega) | fail)) only [go_sem, ints, bools, mat, I, List.drop_length, List.append_nil, bvB, bvD]
                        rfl
          | some b =>
            repeat' (first | simp -implicitDefEqProofs (maxSteps := 1000000) (disch := (first | omega | (simp only [go_sem] <;> omega) | fail)) only [go_sem, ints, bools, mat, c_impl_perfects_1, lastLoop, I, bvB, bvD, hwe, eW] | ((first | apply goIf_b | apply goG_b | apply goTG_b | apply goOG_b) <;> intro h <;> ((try simp only [hnq] at h); (try simp only [h]); (try simp only [hnr] at h)) <;> (try (exfalso; omega))))
            have yc := d_slices_ContainsFunc_in W (fun u => (cvL l X).getD u.toNat false) (fnI (fun u => 0 ≤ u ∧ u < prodM l) fun u => (cvL l X).getD u.toNat false) (fun i hi => ⟨_, inC_get hW i hi, rfl, rfl⟩) (by omega); first | refine goC_call [.r, .g (fnI (fun u => 0 ≤ u ∧ u < prodM l) fun u => (cvL l X).getD u.toNat false)] yc ?_ | refine goOC_call [.r, .g (fnI (fun u => 0 ≤ u ∧ u < prodM l) fun u => (cvL l X).getD u.toNat false)] yc ?_
            repeat' (first | simp -implicitDefEqProofs (maxSteps := 1000000) (disch := (first | omega | (simp only [go_sem] <;> omega) | fail)) only [go_sem, ints, bools, mat] | ((first | apply goIf_b | apply goG_b | apply goTG_b | apply goOG_b) <;> intro h <;> ((try simp only [hnq] at h); (try simp only [h]); (try simp only [hnr] at h)) <;> (try (exfalso; omega))))
            refine chk_intro (fnOK_mk (d_impl_perfects_1_1 [false] 0 (by omega) (by simp) (by simp)).1 [[bools (cvL l X)]] (by simp -implicitDefEqProofs (maxSteps := 1000000) (disch := (first | omega | (simp only [go_sem] <;> omega) | fail)) only [go_sem, ints, bools, mat]) fun ds r hgg => ?_) ?_
            · obtain ⟨u, hu, rfl, rfl⟩ := hgg
              exact ⟨_, d_impl_perfects_1_1 (cvL l X) u hu.1 (by rw [cvL_len]; omega) (by rw [cvL_len]; omega)⟩
            repeat' (first | simp -implicitDefEqProofs (maxSteps := 1000000) (disch := (first | omega | (simp only [go_sem] <;> omega) | fail)) only [go_sem, ints, bools, mat] | ((first | apply goIf_b | apply goG_b | apply goTG_b | apply goOG_b) <;> intro h <;> ((try simp only [hnq] at h); (try simp only [h]); (try simp only [hnr] at h)) <;> (try (exfalso; omega))))
            · have hany := h
              rw [hany] at hWf
              rw [hWf] at hst
              have hst : lvJ l r n X c B (j + 1) = lvJ l r n X c B j := hst.trans (List.append_nil _)
              refine hJ (j + 1, t, some b) ⟨by dsimp only; omega, ?_⟩ (by dsimp only [mu]; omega) _ ?_
              · rw [hst]; exact hob
              · simp -implicitDefEqProofs (maxSteps := 1000000) (disch := (first | omega | (simp only [go_sem] <;> omega) | fail)) only [go_sem, ints, bools, mat, I, bvB, bvD]
                rfl
            · have hany := h
              rw [hany] at hWf
              have hWf : freW l r X w = true := hWf
              rw [hWf, if_pos rfl] at hst
              obtain ⟨hwX, hmu2⟩ := fre_muX hr0 hwb hWf
              have hpk2 := hpk.step hs hr0 hwb hWf
              have hdis := fre_dis hWf
              rw [hWe] at hmu2 hpk2 hdis
              have hden := ih (X ++ W) (c ++ [w]) (some b) g0 g1 g2 g3 g4 g (by omega) hpk2 hlo
              have hbo : bstO oo ((lvJ l r n X c B (j + 1)).map setI) = bstO (some b) ((lvs l r n (X ++ W) (c ++ [w])).map setI) := by rw [hst, List.map_append, bstO_app, ← hob]
              refine go_loop (fun (k : Nat) => ⟨[(0, .ref 0 0), (1, .ref 1 0), (3, .iref [mat (nearM l r)] 0), (4, .iref [.v (.func (.func f_impl_perfects_1) #[] [g0, g1, g2, g3, g4].toArray)] 0), (8, .d (di w)), (27, .d (ints B)), (28, .d (di B.length)), (29, .d (di j)), (42, .d (ints W)), (43, .d (di W.length)), (44, .d (di k)), (77, .is (.ref 0 0) g0), (78, .is (.ref 1 0) g1), (79, .is (.iref [.v (.func (.func f_impl_FirstPerfect_1) #[] [g].toArray)] 0) g2), (80, .is (.iref [mat (nearM l r)] 0) g3), (81, .is (.iref [.v (.func (.func f_impl_perfects_1) #[] [g0, g1, g2, g3, g4].toArray)] 0) g4), (82, .is (.ref 2 0) g)], ([some (.mix [.sl 3 0 (prodM l).toNat 1]), some (.mix [.sl 4 0 c.length 1]), some (bvB (some b)), some (.dat 1 ((cvL l (X ++ W.take k)).map db)), some (.dat 1 ((c ++ t).map di))] ++ bvD (some b))⟩) (fun k => k ≤ W.length) (fun k => W.length - k) 0 ?_ ?_ ?_
              · simp -implicitDefEqProofs (maxSteps := 1000000) (disch := (first | omega | (simp only [go_sem] <;> omega) | fail)) only [go_sem, ints, bools, mat, List.take_zero, List.append_nil, eW, bvB, bvD]
              · exact Nat.zero_le _
              · intro k hk J2 hJ2
                by_cases hkl : k < W.length
                · have hub := inC_get hW k hkl
                  have ecv := cvL_mark l X hub.1 hkl
                  repeat' (first | simp -implicitDefEqProofs (maxSteps := 1000000) (disch := (first | omega | (simp only [go_sem] <;> omega) | fail)) only [go_sem, ints, bools, mat, ecv, bvB, bvD] | ((first | apply goIf_b | apply goG_b | apply goTG_b | apply goOG_b) <;> intro h <;> ((try simp only [hnq] at h); (try simp only [h]); (try simp only [hnr] at h)) <;> (try (exfalso; omega))))
                  refine hJ2 (k + 1) (by omega) (by omega) _ ?_
                  simp -implicitDefEqProofs (maxSteps := 1000000) (disch := (first | omega | (simp only [go_sem] <;> omega) | fail)) only [go_sem, ints, bools, mat, ecv, bvB, bvD]
                  rfl
                · have hke : k = W.length := by omega
                  subst hke
                  repeat' (first | simp -implicitDefEqProofs (maxSteps := 1000000) (disch := (first | omega | (simp only [go_sem] <;> omega) | fail)) only [go_sem, ints, bools, mat, List.take_length, bvB, bvD] | ((first | apply goIf_b | apply goG_b | apply goTG_b | apply goOG_b) <;> intro h <;> ((try simp only [hnq] at h); (try simp only [h]); (try simp only [hnr] at h)) <;> (try (exfalso; omega))))
                  refine goV_val f_impl_perfects_1 [g0, g1, g2, g3, g4] [77, 78, 79, 80, 81] [82] rfl (by simp -implicitDefEqProofs (maxSteps := 1000000) (disch := (first | omega | (simp only [go_sem] <;> omega) | fail)) only [go_sem, ints, bools, mat]) ?_
                  cases hbo2 : bstO (some b) ((lvs l r n (X ++ W) (c ++ [w])).map setI) with
                  | some b2 =>
                    rw [hbo2] at hden hbo
                    refine go_c0 ?_
                    refine goCG_call [.i .bm, .i .bm, .i .b, .i .b, .i .b, .i .bm] hden ?_
                    repeat' (first | simp -implicitDefEqProofs (maxSteps := 1000000) (disch := (first | omega | (simp only [go_sem] <;> omega) | fail)) only [go_sem, ints, bools, mat, List.take_left, bsR] | ((first | apply goIf_b | apply goG_b | apply goTG_b | apply goOG_b) <;> intro h <;> ((try simp only [hnq] at h); (try simp only [h]); (try simp only [hnr] at h)) <;> (try (exfalso; omega))))
                    refine go_loop (fun (k : Nat) => ⟨[(0, .ref 0 0), (1, .ref 1 0), (3, .iref [mat (nearM l r)] 0), (4, .iref [.v (.func (.func f_impl_perfects_1) #[] [g0, g1, g2, g3, g4].toArray)] 0), (27, .d (ints B)), (28, .d (di B.length)), (29, .d (di j)), (66, .d (ints W)), (67, .d (di W.length)), (68, .d (di k)), (77, .is (.ref 0 0) g0), (78, .is (.ref 1 0) g1), (79, .is (.iref [.v (.func (.func f_impl_FirstPerfect_1) #[] [g].toArray)] 0) g2), (80, .is (.iref [mat (nearM l r)] 0) g3), (81, .is (.iref [.v (.func (.func f_impl_perfects_1) #[] [g0, g1, g2, g3, g4].toArray)] 0) g4), (82, .is (.ref 2 0) g)], ([some (.mix [.sl 3 0 (prodM l).toNat 1]), some (.mix [.sl 4 0 c.length 1]), some (bvB (some b2)), some (.dat 1 ((cvL l (X ++ W.drop k)).map db)), some (.dat 1 ((c ++ [w]).map di))] ++ bvD (some b2))⟩) (fun k => k ≤ W.length) (fun k => W.length - k) 0 ?_ ?_ ?_
                    · simp -implicitDefEqProofs (maxSteps := 1000000) (disch := (first | omega | (simp only [go_sem] <;> omega) | fail)) only [go_sem, ints, bools, mat, List.drop_zero, eW, bvB, bvD]
                    · exact Nat.zero_le _
                    · intro k hk J2 hJ2
                      by_cases hkl : k < W.length
                      · have hub := inC_get hW k hkl
                        have ecv := cvL_unmark l hub.1 hkl hWn hdis
                        repeat' (first | simp -implicitDefEqProofs (maxSteps := 1000000) (disch := (first | omega | (simp only [go_sem] <;> omega) | fail)) only [go_sem, ints, bools, mat, ecv, bvB, bvD] | ((first | apply goIf_b | apply goG_b | apply goTG_b | apply goOG_b) <;> intro h <;> ((try simp only [hnq] at h); (try simp only [h]); (try simp only [hnr] at h)) <;> (try (exfalso; omega))))
                        refine hJ2 (k + 1) (by omega) (by omega) _ ?_
                        simp -implicitDefEqProofs (maxSteps := 1000000) (disch := (first | omega | (simp only [go_sem] <;> omega) | fail)) only [go_sem, ints, bools, mat, ecv, bvB, bvD]
                        rfl
                      · have hke : k = W.length := by omega
                        subst hke
                        repeat' (first | simp -implicitDefEqProofs (maxSteps := 1000000) (disch := (first | omega | (simp only [go_sem] <;> omega) | fail)) only [go_sem, ints, bools, mat, List.drop_length, List.append_nil, bvB, bvD] | ((first | apply goIf_b | apply goG_b | apply goTG_b | apply goOG_b) <;> intro h <;> ((try simp only [hnq] at h); (try simp only [h]); (try simp only [hnr] at h)) <;> (try (exfalso; omega))))
                        refine hJ (j + 1, [w], some b2) ⟨by dsimp only; omega, hbo.symm⟩ (by dsimp only [mu]; omega) _ ?_
                        simp -implicitDefEqProofs (maxSteps := 1000000) (disch := (first | omega | (simp only [go_sem] <;> omega) | fail)) only [go_sem, ints, bools, mat, I, List.drop_length, List.append_nil, bvB, bvD]
                        rfl
                  | none => rw [bstO_some] at hbo2; cases hbo2
        · have hje : j = B.length := by omega
          subst hje
          rw [← hob]
          cases ob with
          | none => repeat' (first | simp -implicitDefEqProofs (maxSteps := 1000000) (disch := (first | omega | (simp only [go_sem] <;> omega) | fail)) only [go_sem, ints, bools, mat, c_impl_perfects_1, lastLoop, I, bvB, bvD, bsR, leaS_pre, List.take_left] | ((first | apply goIf_b | apply goG_b | apply goTG_b | apply goOG_b) <;> intro h <;> ((try simp only [hnq] at h); (try simp only [h]); (try simp only [hnr] at h)) <;> (try (exfalso; omega))))
          | some b => repeat' (first | simp -implicitDefEqProofs (maxSteps := 1000000) (disch := (first | omega | (simp only [go_sem] <;> omega) | fail)) only [go_sem, ints, bools, mat, c_impl_perfects_1, lastLoop, I, bvB, bvD, bsR, leaS_pre, List.take_left] | ((first | apply goIf_b | apply goG_b | apply goTG_b | apply goOG_b) <;> intro h <;> ((try simp only [hnq] at h); (try simp only [h]); (try simp only [hnr] at h)) <;> (try (exfalso; omega))))
      cases oo with
      | none =>
        repeat' (first | simp -implicitDefEqProofs (maxSteps := 1000000) (disch := (first | omega | (simp only [go_sem] <;> omega) | fail)) only [go_sem, ints, bools, mat, c_impl_perfects_1, bsR] | ((first | apply goIf_b | apply goG_b | apply goTG_b | apply goOG_b) <;> intro h <;> ((try simp only [hnq] at h); (try simp only [h]); (try simp only [hnr] at h)) <;> (try (exfalso; omega))))
        have yc := hIx; first | refine goC_call [.r, .r] yc ?_ | refine goOC_call [.r, .r] yc ?_
        repeat' (first | simp -implicitDefEqProofs (maxSteps := 1000000) (disch := (first | omega | (simp only [go_sem] <;> omega) | fail)) only [go_sem, ints, bools, mat, idxO, eo] | ((first | apply goIf_b | apply goG_b | apply goTG_b | apply goOG_b) <;> intro h <;> ((try simp only [hnq] at h); (try simp only [h]); (try simp only [hnr] at h)) <;> (try (exfalso; omega))))
        refine go_loop I V mu (0, [], none) ?_ ⟨Nat.zero_le _, rfl⟩ hstep
        simp -implicitDefEqProofs (maxSteps := 1000000) (disch := (first | omega | (simp only [go_sem] <;> omega) | fail)) only [go_sem, ints, bools, mat, I, bvB, bvD]
      | some b =>
        repeat' (first | simp -implicitDefEqProofs (maxSteps := 1000000) (disch := (first | omega | (simp only [go_sem] <;> omega) | fail)) only [go_sem, ints, bools, mat, c_impl_perfects_1, bsR] | ((first | apply goIf_b | apply goG_b | apply goTG_b | apply goOG_b) <;> intro h <;> ((try simp only [hnq] at h); (try simp only [h]); (try simp only [hnr] at h)) <;> (try (exfalso; omega))))
        have yc := hIx; first | refine goC_call [.r, .r] yc ?_ | refine goOC_call [.r, .r] yc ?_
        repeat' (first | simp -implicitDefEqProofs (maxSteps := 1000000) (disch := (first | omega | (simp only [go_sem] <;> omega) | fail)) only [go_sem, ints, bools, mat, idxO, eo] | ((first | apply goIf_b | apply goG_b | apply goTG_b | apply goOG_b) <;> intro h <;> ((try simp only [hnq] at h); (try simp only [h]); (try simp only [hnr] at h)) <;> (try (exfalso; omega))))
        refine go_loop I V mu (0, [], some b) ?_ ⟨Nat.zero_le _, rfl⟩ hstep
        simp -implicitDefEqProofs (maxSteps := 1000000) (disch := (first | omega | (simp only [go_sem] <;> omega) | fail)) only [go_sem, ints, bools, mat, I, bvB, bvD]
theorem d_impl_perfects_F (l : List Int) (hs : isSpaceM l = true) (r : Int) (hr0 : 0 ≤ r) (g : Value) :
    DenG PA f_impl_perfects 3 [.d (.agg [ints l]), .d (di r), .d (.v (.func (.func f_impl_FirstPerfect_1) #[] [g].toArray)), .is (.boxm [.d nil]) g] [.any, .any, .any, .boxm [bsR (bstO none ((allP l r).map setI))]] (.tup []) := by
  have hpr := isSpaceM_prod hs
  have hp1 := prodM_pos (isSpaceM_szs hs)
  have hbz := bz_pos hs hr0
  refine den_goG [3] l_impl_perfects (by simp) ?_
  have y1 := kc [.r] (d_impl_count l hs); refine go_c0 ?_
  refine go_loop (fun (j : Nat) => ⟨[(1, .d (di r)), (3, .ref 0 0), (5, .ref 1 0), (6, .ref 2 0), (13, .d (di (prodM l))), (14, .d (di j)), (43, .is (.ref 3 0) g)],
      [some (.var [ints l]), some (.var [.v (.func (.func f_impl_FirstPerfect_1) #[] [g].toArray)]), some (.mix [.sl 4 0 j 1]), some (.var [nil]), some (.dat 1 (((nearM l r).take j).map ints))]⟩) (fun j => j ≤ (prodM l).toNat) (fun j => (prodM l).toNat - j) 0 ?_ ?_ ?_
  · exact go_a0
  · exact Nat.zero_le _
  · intro j hj J hJ
    by_cases hjl : j < (prodM l).toNat
    · have hb := (d_impl_ball l hs j r (by omega) (by omega)).le .frz
      have e := near_take l r hjl
      have y1 := kc [.r, .r, .r] hb; refine go_c0 ?_
      refine hJ (j + 1) (by omega) (by omega) _ ?_
      simp -implicitDefEqProofs (maxSteps := 1000000) (disch := (first | omega | (simp only [go_sem] <;> omega) | fail)) only [go_sem, ints, bools, mat, e]
      rfl
    · have hje : j = (prodM l).toNat := by omega
      subst hje
      have e0 := nearM_get (l := l) r (w := 0) (by omega)
      rw [show (0 : Int).toNat = 0 from rfl] at e0
      have el := ball_len hs 0 hr0
      have en : ((prodM l).toNat : Int) = prodM l := by omega
      by_cases hd : prodM l % bzM l r = 0
      · have hall : allP l r = lvs l r ((prodM l).toNat + 1) [] [] := if_pos hd
        rw [hall]
        have z1 := e0; have z2 := el; have z3 := en; refine go_c3 ?_
        refine goC_real [9] [.ref 3 0] (by simp -implicitDefEqProofs (maxSteps := 1000000) (disch := (first | omega | (simp only [go_sem] <;> omega) | fail)) only [go_sem, ints, bools, mat]) fun ρ hρ => ?_
        have hg := hρ 43 3 g (by simp only [List.mem_cons, or_true, true_or])
        subst hg
        have hmu := muX_le l []
        have hden := d_perf_F l hs r hr0 ((prodM l).toNat + 1) [] [] none (ρ 7) (ρ 8) (ρ 1) (ρ 2) (ρ 9) (ρ 3) (by omega) (Pck.nil l r) trivial
        rw [← cvL_nil] at hden
        cases hbo : bstO none ((lvs l r ((prodM l).toNat + 1) [] []).map setI) with
        | none =>
          rw [hbo] at hden
          refine go_c0 ?_
          refine goCG_call [.i .bm, .i .bm, .i .b, .i .b, .i .b, .i .bm] hden ?_
          repeat' (first | simp -implicitDefEqProofs (maxSteps := 1000000) (disch := (first | omega | (simp only [go_sem] <;> omega) | fail)) only [go_sem, ints, bools, mat, bsR] | ((first | apply goIf_b | apply goG_b | apply goTG_b | apply goOG_b) <;> intro h <;> ((try simp only [hnq] at h); (try simp only [h]); (try simp only [hnr] at h)) <;> (try (exfalso; omega))))
        | some b =>
          rw [hbo] at hden
          refine go_c0 ?_
          refine goCG_call [.i .bm, .i .bm, .i .b, .i .b, .i .b, .i .bm] hden ?_
          repeat' (first | simp -implicitDefEqProofs (maxSteps := 1000000) (disch := (first | omega | (simp only [go_sem] <;> omega) | fail)) only [go_sem, ints, bools, mat, bsR] | ((first | apply goIf_b | apply goG_b | apply goTG_b | apply goOG_b) <;> intro h <;> ((try simp only [hnq] at h); (try simp only [h]); (try simp only [hnr] at h)) <;> (try (exfalso; omega))))
      · have hall : allP l r = [] := if_neg hd
        rw [hall]
        repeat' (first | simp -implicitDefEqProofs (maxSteps := 1000000) (disch := (first | omega | (simp only [go_sem] <;> omega) | fail)) only [go_sem, ints, bools, mat, e0, el, en, List.map_nil, bstO_nil, bsR] | ((first | apply goIf_b | apply goG_b | apply goTG_b | apply goOG_b) <;> intro h <;> ((try simp only [hnq] at h); (try simp only [h]); (try simp only [hnr] at h)) <;> (try (exfalso; omega))))
def fpE (l : List Int) (r : Int) : Int := if pfE l r = 0 then (if allP l r = [] then 4 else 0) else pfE l r
def fpM (l : List Int) (r : Int) : List Int := minL ((allP l r).map setI)
theorem fpE_ok {l : List Int} {r : Int} (h : fpE l r = 0) : pfE l r = 0 ∧ allP l r ≠ [] := by
  unfold fpE at h
  split at h
  · rename_i h1
    split at h
    · omega
    · rename_i h2; exact ⟨h1, h2⟩
  · rename_i h1; exact (h1 h).elim
theorem fpM_len {l : List Int} {r : Int} (h : fpE l r = 0) : (fpM l r).length < 1048577 := by
  obtain ⟨h1, h2⟩ := fpE_ok h
  obtain ⟨hs, hr, h64⟩ := pfE_ok h1
  have hm := minL_mem (m := 0) (L := (allP l r).map setI) (fun e => h2 (List.map_eq_nil_iff.1 e))
  have hb := bz_len hs (r := r) (by omega)
  unfold allP at h2 hm
  split at h2
  · rename_i hd
    rw [if_pos hd] at hm
    have := lvs_len hs (r := r) (by omega) (Pck.nil l r) _ hm
    unfold fpM allP
    rw [if_pos hd]; omega
  · exact (h2 rfl).elim
def lstF (e : Int) (v : List Int) : R := if e = 0 then .tup [.d (ints v), .d (di 0)] else .tup [.d nil, .d (di e)]
theorem d_spec_FirstPerfect (l : List Int) (r : Int) (hl : l.length < 1048577) : Den PA f_spec_FirstPerfect [.d (.agg [ints l]), .d (di r)] [.any, .any] (lstF (fpE l r) (fpM l r)) := by
  refine den_go [] l_spec_FirstPerfect ?_
  refine go_c0 ?_
  have yc := d_spec_l06Few l hl r; first | refine goC_call [.r, .r] yc ?_ | refine goOC_call [.r, .r] yc ?_
  by_cases h : pfE l r = 0
  · obtain ⟨hs, hr, h64⟩ := pfE_ok h
    rw [h]
    refine go_c0 ?_
    have hAl := d_spec_l06All l hs r (by omega) (by omega) (allP_cnt hs (by omega) h64)
    by_cases h2 : allP l r = []
    · rw [alR, h2] at hAl
      rw [lstF, fpE, if_pos h, if_pos h2, if_neg (by decide)]
      have y1 := kc [.r, .r] hAl; exact go_e0
    · have h3 : 0 < (allP l r).length := List.length_pos_iff.2 h2
      have yc := hAl; first | refine goC_call [.r, .r] yc ?_ | refine goOC_call [.r, .r] yc ?_
      rw [lstF, fpE, if_pos h, if_neg h2, if_pos rfl, fpM]
      exact go_e0
  · rw [lstF, fpE, if_neg h, if_neg h]
    exact go_e0
theorem d_impl_FirstPerfect (l : List Int) (r : Int) (hl : l.length < 1048577) : Den PA f_impl_FirstPerfect [.d (.agg [ints l]), .d (di r)] [.any, .any] (lstR (fpE l r) (fpM l r)) := by
  refine den_go [] l_impl_FirstPerfect ?_
  refine go_c0 ?_
  have yc := d_impl_perfectCode l hl r; first | refine goC_call [.r, .r] yc ?_ | refine goOC_call [.r, .r] yc ?_
  by_cases h : pfE l r = 0
  · obtain ⟨hs, hr, h64⟩ := pfE_ok h
    rw [h]
    refine go_c0 ?_
    refine goC_real [] [.ref 1 0] (by simp -implicitDefEqProofs (maxSteps := 1000000) (disch := (first | omega | (simp only [go_sem] <;> omega) | fail)) only [go_sem, ints, bools, mat]) fun ρ hρ => ?_
    have hden := d_impl_perfects_F l hs r (by omega) (ρ 1)
    rw [bstO_none] at hden
    by_cases h2 : allP l r = []
    · have e : fpE l r = 4 := by unfold fpE; rw [if_pos h, if_pos h2]
      rw [h2, if_pos List.map_nil] at hden
      rw [e, lstR_no (by decide)]
      refine go_c0 ?_
      refine goCG_call [.r, .r, .r, .i .bm] hden ?_
      repeat' (first | simp -implicitDefEqProofs (maxSteps := 1000000) (disch := (first | omega | (simp only [go_sem] <;> omega) | fail)) only [go_sem, ints, bools, mat, bsR] | ((first | apply goIf_b | apply goG_b | apply goTG_b | apply goOG_b) <;> intro h <;> ((try simp only [hnq] at h); (try simp only [h]); (try simp only [hnr] at h)) <;> (try (exfalso; omega))))
    · have e : fpE l r = 0 := by unfold fpE; rw [if_pos h, if_neg h2]
      rw [if_neg fun e => h2 (List.map_eq_nil_iff.1 e)] at hden
      rw [e, lstR_ok rfl, fpM]
      refine go_c0 ?_
      refine goCG_call [.r, .r, .r, .i .bm] hden ?_
      repeat' (first | simp -implicitDefEqProofs (maxSteps := 1000000) (disch := (first | omega | (simp only [go_sem] <;> omega) | fail)) only [go_sem, ints, bools, mat, bsR] | ((first | apply goIf_b | apply goG_b | apply goTG_b | apply goOG_b) <;> intro h <;> ((try simp only [hnq] at h); (try simp only [h]); (try simp only [hnr] at h)) <;> (try (exfalso; omega))))
  · have e : fpE l r = pfE l r := by unfold fpE; rw [if_neg h]
    rw [e, lstR_no h]
    exact go_e0
def mkL : List Bool → Nat
  | [] => 0
  | b :: r => (if b = true then 1 else 0) + 2 * mkL r
abbrev wsN (l X : List Int) : Nat := mkL (cvL l X)
def duN (n : Nat) : D := .v (.int .u64 n)
@[go_sem] theorem flat_du (l : List Nat) : flat (l.map duN) = l.map duN := flat_one _ l
@[go_sem] theorem getU {l : List Nat} {j : Nat} (h : j < l.length) : (l.map duN)[j]? = some (duN (l.getD j 0)) := by simp [h]
@[go_sem] theorem app_du1 (l : List Nat) (v : Nat) : l.map duN ++ [D.v (.int .u64 (v : Int))] = (l ++ [v]).map duN := by rw [List.map_append]; rfl
@[go_sem] theorem take_du (l : List Nat) (n : Nat) : (l.map duN).take n = (l.take n).map duN := by rw [List.map_take]
@[go_sem] theorem duN_v (n : Nat) : duN n = .v (.int .u64 n) := rfl
@[go_sem] theorem lf_own_du (z : Nat) (l : List Nat) : lfR (.own z (l.map duN)) = true := by simp [lfR, lfD, duN]
@[go_sem] theorem all_lf_du (l : List Nat) : (l.map duN).all lfD = true := by simp [lfD, duN]
def nearB (l : List Int) (r : Int) : List Nat := (allW l).map fun w => wsN l (ballM l w r)
@[go_sem] theorem nearB_len (l : List Int) (r : Int) : (nearB l r).length = (prodM l).toNat := by simp [nearB, allW_len]
def tmX (l X : List Int) : List Int := (allW l).map fun u => (X.count u : Int)
@[go_sem] theorem tmX_len (l X : List Int) : (tmX l X).length = (prodM l).toNat := by simp [tmX, allW_len]
theorem farM_tri : ∀ (a b c : List Int), a.length = b.length → b.length = c.length → farM a c ≤ farM a b + farM b c
  | [], [], [], _, _ => by simp [farM]
  | x :: a, y :: b, z :: c, h1, h2 => by
    have ih := farM_tri a b c (by simpa using h1) (by simpa using h2)
    simp only [farM]
    by_cases e1 : x = y
    · by_cases e2 : y = z
      · rw [if_pos e1, if_pos e2, if_pos (e1.trans e2)]; omega
      · rw [if_neg e2, if_neg (fun e => e2 (e1.symm.trans e))]; split <;> omega
    · rw [if_neg e1]; split <;> split <;> omega
theorem distM_tri (l : List Int) (u v w : Int) : distM l u w ≤ distM l u v + distM l v w := farM_tri _ _ _ (by rw [digM_len, digM_len]) (by rw [digM_len, digM_len])
abbrev Apt (l : List Int) (d : Int) (L : List Int) : Prop := L.Pairwise fun a b => d ≤ distM l a b
theorem apt_pack {l : List Int} {d : Int} (hs : isSpaceM l = true) (hd : 1 ≤ d) : ∀ {c : List Int}, (∀ w, w ∈ c → 0 ≤ w ∧ w < prodM l) → Apt l d c → (c.flatMap fun w => ballM l w ((d - 1) / 2)).Nodup ∧ (((c.flatMap fun w => ballM l w ((d - 1) / 2)).length : Int) = c.length * bzM l ((d - 1) / 2))
  | [], _, _ => by simp
  | w :: c, hin, h => by
    obtain ⟨h1, h2⟩ := List.pairwise_cons.1 h
    obtain ⟨i1, i2⟩ := apt_pack (c := c) hs hd (fun u hu => hin u (List.mem_cons_of_mem _ hu)) h2
    rw [List.flatMap_cons]
    refine ⟨List.nodup_append.2 ⟨ballM_nodup l w _, i1, fun a ha b hb e => ?_⟩, ?_⟩
    · subst e
      obtain ⟨u, hu, hb⟩ := List.mem_flatMap.1 hb
      have e1 := ((ballM_mem l w _ a).1 ha).2
      have e2 := ((ballM_mem l u _ a).1 hb).2
      have e3 := distM_tri l w a u
      rw [distM_comm l w a] at e3
      have := h1 u hu
      omega
    · rw [List.length_append, Int.natCast_add, i2, ball_len hs w (show 0 ≤ (d - 1) / 2 by omega), List.length_cons, Int.natCast_add, Int.add_mul]; simp; omega
theorem cntN_pos {l c : List Int} {r u : Int} {k : Nat} (h : distM l (c.getD k 0) u ≤ r) : ∀ {j : Nat}, k < j → 1 ≤ cntN l c r u j
  | 0, hk => by omega
  | j + 1, hk => by
    rw [cntN]
    by_cases e : k = j
    · subst e; rw [if_pos h]; have := cntN_bnd l c r u k; omega
    · have := cntN_pos h (show k < j by omega); split <;> omega
theorem d_nil_spec_l04Code (n lo hi : Int) : Den PA f_spec_l04Code [.d (.agg [nil]), .d (di n), .d (di lo), .d (di hi)] [.any, .any, .any, .any] (.d (di 1)) := by
  refine den_go [] l_spec_l04Code ?_
  have y1 := kc [.r] d_nil_spec_l01Is; exact go_e0
theorem ex_perfRadius {cd : D} {l : List Int} (H : SrcH cd l) : ∃ (X : D) (o c : List Int), drL X o ∧ c.length < 1048577 ∧ (∀ n, n ∈ c → in64 n) ∧ Den PA f_spec_DrawPerfectRadius [.d cd] [.any] (.tup [.d (.agg [X]), .own 1 (c.map di)]) := by
  obtain ⟨X, o, c, r, hX, hc, hci, hr, d0⟩ := ex_with H
  refine ⟨X, o, c, hX, hc, hci, den_go [] l_spec_DrawPerfectRadius ?_⟩
  have y1 := kc [.r] d0; exact go_e0
theorem ex_firstShifts {cd : D} {l : List Int} (H : SrcH cd l) : ∃ (X : D) (o c : List Int), drL X o ∧ c.length < 1048577 ∧ (∀ n, n ∈ c → in64 n) ∧ Den PA f_spec_DrawFirstShifts [.d cd] [.any] (.tup [.d (.agg [X]), .own 1 (c.map di)]) := by
  obtain ⟨X, o, c, hX, hc, hci, d0⟩ := ex_perfRadius H
  refine ⟨X, o, c, hX, hc, hci, den_go [] l_spec_DrawFirstShifts ?_⟩
  have y1 := kc [.r] d0; exact go_e0
def pfT : List (List Int) := [[2, 2, 2], [3, 3], [2, 2], [2], [4], [2, 2, 2, 2], [2, 2, 2, 2, 2], [3, 3, 3], [4, 2, 2], [4, 2, 2, 2, 2], [2, 3], [2, 2, 2, 2, 2, 2]]
theorem pfT_ok : ∀ i : Fin 12, isSpaceM (pfT.getD i.1 []) = true := by decide
theorem pf_row {n : Nat} (h : n < 12) : (flat (pfT.map ints))[n]? = some (ints (pfT.getD n [])) := by
  rw [show flat (pfT.map ints) = pfT.map ints from rfl]
  rw [List.getElem?_map, List.getElem?_eq_getElem (show n < pfT.length from h), List.getD_eq_getElem?_getD, List.getElem?_eq_getElem (show n < pfT.length from h)]; rfl
theorem ex_few6 {cd : D} {l : List Int} (H : SrcH cd l) : ∃ (X : D) (o : List Int) (d : Int), drL X o ∧ in64 d ∧ Den PA f_spec_l06DrawFew [.d cd] [.any] (.tup [.d (.agg [X]), .d (di d)]) := by
  obtain ⟨s0, hs0, d0⟩ := ex_from H
  obtain ⟨v, s1, hs1, v1, v2, d1⟩ := ex_nxt H hs0 (q := 12) (by omega)
  obtain ⟨i, rfl⟩ : ∃ i : Nat, v = (i : Int) := ⟨v.toNat, by omega⟩
  have hi16 : i < 12 := by omega
  have hx0 := pfT_ok ⟨i, hi16⟩
  have hn0 := isSpaceM_n hx0
  have hrow := pf_row hi16
  dsimp only at hx0 hn0
  generalize pfT.getD i [] = x0 at *
  have hown := (d_own_f (x := x0) (by omega)).le .frz
  obtain ⟨n, s2, hs2, hn, d2⟩ := ex_near H hs1 (most := 8) (by omega) (by omega)
  obtain ⟨d, s3, hs3, hd, d3⟩ := ex_pik H hs2 [1, 1, 1, 2, n] (by simp) (by simp)
  have hdi : in64 d := by
    simp only [List.mem_cons, List.mem_nil_iff, or_false] at hd
    unfold in64 at *
    omega
  obtain ⟨v2, s4, hs4, _, _, d4⟩ := ex_nxt H hs3 (q := 16) (by omega)
  by_cases hv : v2 = 0
  · subst hv
    obtain ⟨x, s5, hs5, hx, d5⟩ := ex_draw H hs4
    have hd5 := d5.le .frzA
    obtain ⟨X, o, s6, hs6, hX, d6⟩ := ex_bad H hs5 hx
    refine ⟨X, o, d, hX, hdi, den_go [] l_spec_l06DrawFew ?_⟩
    repeat' (first | simp -implicitDefEqProofs (maxSteps := 1000000) (disch := (first | omega | (simp only [go_sem] <;> omega) | fail)) only [go_sem, ints, bools, mat, c_spec_l06DrawFew, srcR] | ((first | apply goIf_b | apply goG_b | apply goTG_b | apply goOG_b) <;> intro h <;> ((try simp only [hnq] at h); (try simp only [h]); (try simp only [hnr] at h)) <;> (try (exfalso; omega))))
    have yc := d0; first | refine goC_call [.r] yc ?_ | refine goOC_call [.r] yc ?_
    repeat' (first | simp -implicitDefEqProofs (maxSteps := 1000000) (disch := (first | omega | (simp only [go_sem] <;> omega) | fail)) only [go_sem, ints, bools, mat] | ((first | apply goIf_b | apply goG_b | apply goTG_b | apply goOG_b) <;> intro h <;> ((try simp only [hnq] at h); (try simp only [h]); (try simp only [hnr] at h)) <;> (try (exfalso; omega))))
    have yc := d1; first | refine goC_call [.bm, .r] yc ?_ | refine goOC_call [.bm, .r] yc ?_
    repeat' (first | simp -implicitDefEqProofs (maxSteps := 1000000) (disch := (first | omega | (simp only [go_sem] <;> omega) | fail)) only [go_sem, ints, bools, mat] | ((first | apply goIf_b | apply goG_b | apply goTG_b | apply goOG_b) <;> intro h <;> ((try simp only [hnq] at h); (try simp only [h]); (try simp only [hnr] at h)) <;> (try (exfalso; omega))))
    erw [hrow]
    have y1 := kc [.r] hown; have y2 := kc [.bm, .r] d2; have y3 := kc [.bm, .f] d3; have y4 := kc [.bm, .r] d4; have y5 := kc [.bm] hd5; have y6 := kc [.bm, .r] d6; exact go_e0
  · obtain ⟨X, o, s6, hs6, hX, d6⟩ := ex_bad H hs4 hx0
    refine ⟨X, o, d, hX, hdi, den_go [] l_spec_l06DrawFew ?_⟩
    repeat' (first | simp -implicitDefEqProofs (maxSteps := 1000000) (disch := (first | omega | (simp only [go_sem] <;> omega) | fail)) only [go_sem, ints, bools, mat, c_spec_l06DrawFew, srcR] | ((first | apply goIf_b | apply goG_b | apply goTG_b | apply goOG_b) <;> intro h <;> ((try simp only [hnq] at h); (try simp only [h]); (try simp only [hnr] at h)) <;> (try (exfalso; omega))))
    have yc := d0; first | refine goC_call [.r] yc ?_ | refine goOC_call [.r] yc ?_
    repeat' (first | simp -implicitDefEqProofs (maxSteps := 1000000) (disch := (first | omega | (simp only [go_sem] <;> omega) | fail)) only [go_sem, ints, bools, mat] | ((first | apply goIf_b | apply goG_b | apply goTG_b | apply goOG_b) <;> intro h <;> ((try simp only [hnq] at h); (try simp only [h]); (try simp only [hnr] at h)) <;> (try (exfalso; omega))))
    have yc := d1; first | refine goC_call [.bm, .r] yc ?_ | refine goOC_call [.bm, .r] yc ?_
    repeat' (first | simp -implicitDefEqProofs (maxSteps := 1000000) (disch := (first | omega | (simp only [go_sem] <;> omega) | fail)) only [go_sem, ints, bools, mat] | ((first | apply goIf_b | apply goG_b | apply goTG_b | apply goOG_b) <;> intro h <;> ((try simp only [hnq] at h); (try simp only [h]); (try simp only [hnr] at h)) <;> (try (exfalso; omega))))
    erw [hrow]
    have y1 := kc [.r] hown; have y2 := kc [.bm, .r] d2; have y3 := kc [.bm, .f] d3; have y4 := kc [.bm, .r] d4; have y5 := kc [.bm, .r] d6; exact go_e0
theorem ex_firstPerfect {cd : D} {l : List Int} (H : SrcH cd l) : ∃ (X : D) (o : List Int) (d : Int), drL X o ∧ in64 d ∧ Den PA f_spec_DrawFirstPerfect [.d cd] [.any] (.tup [.d (.agg [X]), .d (di d)]) := by
  obtain ⟨X, o, d, hX, hd, d0⟩ := ex_few6 H
  refine ⟨X, o, d, hX, hd, den_go [] l_spec_DrawFirstPerfect ?_⟩
  have y1 := kc [.r] d0; exact go_e0
theorem d_nil_spec_l02Full (c : List Int) : Den PA f_spec_l02Full [.d (.agg [nil]), .d (ints c)] [.any, .any] (.d (di 1)) := by
  refine den_go [] l_spec_l02Full ?_
  have y1 := kc [.r, .r] (d_nil_spec_l01Given (ints c)); exact go_e0
theorem d_nil_impl_FirstShifts (c : List Int) : Den PA f_impl_FirstShifts [.d (.agg [nil]), .d (ints c)] [.any, .any] (.tup [.d nil, .d (di 1)]) := by
  refine den_go [] l_impl_FirstShifts ?_
  have y1 := kc [.r, .r, .r] (d_nil_impl_someCode (ints c) nil); exact go_e0
theorem d_nil_spec_FirstShifts (c : List Int) : Den PA f_spec_FirstShifts [.d (.agg [nil]), .d (ints c)] [.any, .any] (.tup [.d nil, .d (di 1)]) := by
  refine den_go [] l_spec_FirstShifts ?_
  have y1 := kc [.r, .r] (d_nil_spec_l02Full c); exact go_e0
theorem d_nil_impl_DoPart (c t : List Int) : Den PA f_impl_DoPart [.d (.agg [nil]), .d (ints c), .d (ints t)] [.any, .any, .any] (.tup [.d (db false), .d (di 1)]) := by
  refine den_go [] l_impl_DoPart ?_
  have y1 := kc [.r, .r, .r] (d_nil_impl_someCode (ints c) (ints t)); exact go_e0
theorem d_nil_spec_DoPart (c t : List Int) : Den PA f_spec_DoPart [.d (.agg [nil]), .d (ints c), .d (ints t)] [.any, .any, .any] (.tup [.d (db false), .d (di 1)]) := by
  refine den_go [] l_spec_DoPart ?_
  have y1 := kc [.r, .r] (d_nil_spec_l02Full c); exact go_e0
theorem d_nil_impl_bundleCode (c : List Int) (w i : Int) : Den PA f_impl_bundleCode [.d (.agg [nil]), .d (ints c), .d (di w), .d (di i)] [.any, .any, .any, .any] (.d (di 1)) := by
  refine den_go [] l_impl_bundleCode ?_
  have y1 := kc [.r, .r, .r] (d_nil_impl_codeCode (ints c) (ints [w])); exact go_e0
theorem d_nil_spec_l06Given (c : List Int) (w i : Int) : Den PA f_spec_l06Given [.d (.agg [nil]), .d (ints c), .d (di w), .d (di i)] [.any, .any, .any, .any] (.d (di 1)) := by
  refine den_go [] l_spec_l06Given ?_
  have y1 := kc [.r, .r] (d_nil_spec_l01Given (ints c)); exact go_e0
theorem d_nil_impl_BundleOf (c : List Int) (w i : Int) : Den PA f_impl_BundleOf [.d (.agg [nil]), .d (ints c), .d (di w), .d (di i)] [.any, .any, .any, .any] (.tup [.d nil, .d (di 1)]) := by
  refine den_go [] l_impl_BundleOf ?_
  have y1 := kc [.r, .r, .r, .r] (d_nil_impl_bundleCode c w i); exact go_e0
theorem d_nil_spec_BundleOf (c : List Int) (w i : Int) : Den PA f_spec_BundleOf [.d (.agg [nil]), .d (ints c), .d (di w), .d (di i)] [.any, .any, .any, .any] (.tup [.d nil, .d (di 1)]) := by
  refine den_go [] l_spec_BundleOf ?_
  have y1 := kc [.r, .r, .r, .r] (d_nil_spec_l06Given c w i); exact go_e0
theorem d_nil_impl_SwitchBundle (c : List Int) (w i : Int) : Den PA f_impl_SwitchBundle [.d (.agg [nil]), .d (ints c), .d (di w), .d (di i)] [.any, .any, .any, .any] (.tup [.d nil, .d (di 1)]) := by
  refine den_go [] l_impl_SwitchBundle ?_
  have y1 := kc [.r, .r, .r, .r] (d_nil_impl_bundleCode c w i); exact go_e0
theorem d_nil_spec_SwitchBundle (c : List Int) (w i : Int) : Den PA f_spec_SwitchBundle [.d (.agg [nil]), .d (ints c), .d (di w), .d (di i)] [.any, .any, .any, .any] (.tup [.d nil, .d (di 1)]) := by
  refine den_go [] l_spec_SwitchBundle ?_
  have y1 := kc [.r, .r, .r, .r] (d_nil_spec_l06Given c w i); exact go_e0
theorem d_nil_impl_perfectCode (d : Int) : Den PA f_impl_perfectCode [.d (.agg [nil]), .d (di d)] [.any, .any] (.d (di 1)) := by
  refine den_go [] l_impl_perfectCode ?_
  have y1 := kc [.r] d_nil_impl_IsSpace; exact go_e0
theorem d_nil_spec_l06Few (d : Int) : Den PA f_spec_l06Few [.d (.agg [nil]), .d (di d)] [.any, .any] (.d (di 1)) := by
  refine den_go [] l_spec_l06Few ?_
  have y1 := kc [.r, .r, .r, .r] (d_nil_spec_l04Code d 1 8); exact go_e0
theorem d_nil_impl_FirstPerfect (d : Int) : Den PA f_impl_FirstPerfect [.d (.agg [nil]), .d (di d)] [.any, .any] (.tup [.d nil, .d (di 1)]) := by
  refine den_go [] l_impl_FirstPerfect ?_
  have y1 := kc [.r, .r] (d_nil_impl_perfectCode d); exact go_e0
theorem d_nil_spec_FirstPerfect (d : Int) : Den PA f_spec_FirstPerfect [.d (.agg [nil]), .d (di d)] [.any, .any] (.tup [.d nil, .d (di 1)]) := by
  refine den_go [] l_spec_FirstPerfect ?_
  have y1 := kc [.r, .r] (d_nil_spec_l06Few d); exact go_e0
theorem d_nil_impl_CountPerfect (d : Int) : Den PA f_impl_CountPerfect [.d (.agg [nil]), .d (di d)] [.any, .any] (.tup [.d (di 0), .d (di 1)]) := by
  refine den_go [] l_impl_CountPerfect ?_
  have y1 := kc [.r, .r] (d_nil_impl_perfectCode d); exact go_e0
theorem d_nil_spec_CountPerfect (d : Int) : Den PA f_spec_CountPerfect [.d (.agg [nil]), .d (di d)] [.any, .any] (.tup [.d (di 0), .d (di 1)]) := by
  refine den_go [] l_spec_CountPerfect ?_
  have y1 := kc [.r, .r] (d_nil_spec_l06Few d); exact go_e0
def sgS (f : Nat → Int) : Nat → Int
  | 0 => 0
  | n + 1 => sgS f n + f n
theorem sgS_add (f g : Nat → Int) : ∀ n, sgS (fun i => f i + g i) n = sgS f n + sgS g n
  | 0 => rfl
  | n + 1 => by rw [sgS, sgS, sgS, sgS_add f g n]; omega
theorem sgS_congr {f g : Nat → Int} : ∀ {n : Nat}, (∀ i, i < n → f i = g i) → sgS f n = sgS g n
  | 0, _ => rfl
  | n + 1, h => by rw [sgS, sgS, sgS_congr fun i hi => h i (by omega), h n (by omega)]
theorem sgS_zero : ∀ n, sgS (fun _ => 0) n = 0
  | 0 => rfl
  | n + 1 => by rw [sgS, sgS_zero n]; rfl
theorem sgS_ge {f : Nat → Int} : ∀ {n : Nat}, (∀ i, i < n → 1 ≤ f i) → (n : Int) ≤ sgS f n
  | 0, _ => Int.le_refl _
  | n + 1, h => by have h1 := sgS_ge (n := n) fun i hi => h i (by omega); have h2 := h n (by omega); rw [sgS]; omega
theorem sgS_one {f : Nat → Int} : ∀ {n : Nat}, (∀ i, i < n → 1 ≤ f i) → sgS f n = n → ∀ i, i < n → f i = 1
  | 0, _, _, i, hi => by omega
  | n + 1, h, e, i, hi => by
    have h1 := sgS_ge (n := n) fun i hi => h i (by omega)
    have h2 := h n (by omega)
    rw [sgS] at e
    by_cases hin : i = n
    · subst hin; omega
    · exact sgS_one (n := n) (fun i hi => h i (by omega)) (by omega) i (by omega)
theorem sgS_flt (p : Int → Bool) (l : List Int) : ∀ {n : Nat}, n ≤ (prodM l).toNat → sgS (fun i => if p (i : Int) = true then 1 else 0) n = ((((allW l).take n).filter p).length : Int)
  | 0, _ => by simp [sgS]
  | n + 1, h => by
    rw [sgS, sgS_flt p l (n := n) (by omega), take_allW l (by omega), List.filter_append, List.length_append]
    by_cases hp : p (n : Int) = true
    · rw [if_pos hp]; simp [hp]
    · rw [if_neg hp]; simp [hp]
theorem cnt_sum {l : List Int} (hs : isSpaceM l = true) (c : List Int) {r : Int} (hr : 0 ≤ r) : ∀ j : Nat, sgS (fun i => cntN l c r i j) (prodM l).toNat = j * bzM l r
  | 0 => by simp only [cntN]; rw [sgS_zero]; simp
  | j + 1 => by
    have ih := cnt_sum hs c hr j
    have h1 := sgS_flt (fun u => decide (distM l u (c.getD j 0) ≤ r)) l (Nat.le_refl _)
    rw [← allW_len l, List.take_length, allW_len] at h1
    have h2 := ball_len hs (c.getD j 0) hr
    have h3 : sgS (fun i => cntN l c r i (j + 1)) (prodM l).toNat = sgS (fun i => cntN l c r i j + (if decide (distM l (i : Int) (c.getD j 0) ≤ r) = true then 1 else 0)) (prodM l).toNat :=
      sgS_congr fun i hi => by
        rw [cntN, distM_comm l (c.getD j 0)]
        by_cases h : distM l i (c.getD j 0) ≤ r
        · rw [if_pos h, if_pos (decide_eq_true h)]
        · rw [if_neg h, if_neg (by simpa using h)]
    rw [h3, sgS_add, ih, h1]
    unfold ballM at h2
    rw [h2, Int.natCast_add, Int.add_mul]; simp
theorem perf_of {l c : List Int} {r : Int} (hs : isSpaceM l = true) (hr : 0 ≤ r) (hcov : ∀ w : Nat, w < (prodM l).toNat → ∃ k, k < c.length ∧ distM l (c.getD k 0) w ≤ r) (hn : (c.length : Int) * bzM l r = prodM l) : perfB l c r = true := by
  have hp1 := prodM_pos (isSpaceM_szs hs)
  have h1 := cnt_sum hs c hr c.length
  have h2 := sgS_one (f := fun i => cntN l c r i c.length) (n := (prodM l).toNat) (fun i hi => by
    obtain ⟨k, hk, hd⟩ := hcov i hi
    exact cntN_pos hd hk) (by rw [h1, hn]; omega)
  unfold perfB
  rw [List.all_eq_true]
  intro x hx
  obtain ⟨i, hi, rfl⟩ := List.mem_iff_getElem.1 hx
  have hi2 : i < (prodM l).toNat := by rw [← timesN_len l c r c.length]; exact hi
  have h3 := timesN_get c r c.length hi2
  rw [List.getD_eq_getElem?_getD, List.getElem?_eq_getElem hi, Option.getD_some] at h3
  have h4 := h2 i hi2
  rw [beq_iff_eq]
  show (timesN l c r c.length)[i] = 1
  rw [h3]; exact h4
theorem lvs_cov {l : List Int} {r : Int} : ∀ (n : Nat) {X c : List Int}, (∀ u, u ∈ X → ∃ w, w ∈ c ∧ u ∈ ballM l w r) → ∀ x, x ∈ lvs l r n X c → ∀ u : Int, 0 ≤ u → u < prodM l → ∃ w, w ∈ x ∧ u ∈ ballM l w r
  | 0, X, c, h, x, hx => by cases hx
  | n + 1, X, c, h, x, hx => by
    cases ho : opn l X with
    | none =>
      rw [lvs_done ho] at hx
      simp at hx; subst hx
      exact fun u h0 h1 => h u (opn_none ho u h0 h1)
    | some o =>
      rw [lvs_open ho, lvJ, List.take_length, List.mem_flatMap] at hx
      obtain ⟨w, hw, hx⟩ := hx
      split at hx
      · refine lvs_cov n (fun u hu => ?_) x hx
        rcases List.mem_append.1 hu with hu | hu
        · obtain ⟨v, hv, hb⟩ := h u hu; exact ⟨v, List.mem_append_left _ hv, hb⟩
        · exact ⟨w, by simp, hu⟩
      · cases hx
theorem fp_facts {l : List Int} {r : Int} (h : fpE l r = 0) : ccM l (fpM l r) r = 0 ∧ perfB l (fpM l r) r = true := by
  obtain ⟨h1, h2⟩ := fpE_ok h
  obtain ⟨hs, hr, h64⟩ := pfE_ok h1
  have hr0 : 0 ≤ r := by omega
  have hm := minL_mem (m := 0) (L := (allP l r).map setI) (fun e => h2 (List.map_eq_nil_iff.1 e))
  change fpM l r ∈ _ at hm
  generalize fpM l r = c at *
  unfold allP at hm
  split at hm
  · obtain ⟨x, hx, rfl⟩ := List.mem_map.1 hm
    obtain ⟨Y, k1, k2⟩ := lvs_pck hs hr0 _ (Pck.nil l r) x hx
    have k3 := lvs_cov _ (fun u hu => by cases hu) x hx
    have hin : ∀ w, w ∈ setI x → 0 ≤ w ∧ w < prodM l := fun w hw => k1.inX w (k1.sub w ((setI_mem x w).1 hw))
    have hcode : isCodeM l (setI x) = true := (isCodeM_ok l _).2 ⟨fun j hj => hin _ (getD_mem hj), fun j hj => asc_lt (setI_asc x) (by omega) hj⟩
    refine ⟨by rw [ccM, ggM, if_pos hs, if_pos hcode, if_pos rfl, if_pos (by omega)], perf_of hs hr0 (fun w hw => ?_) ?_⟩
    · obtain ⟨v, hv, hb⟩ := k3 w (by omega) (by omega)
      obtain ⟨k, hk, e⟩ := List.mem_iff_getElem.1 ((setI_mem x v).2 hv)
      refine ⟨k, hk, ?_⟩
      rw [List.getD_eq_getElem?_getD, List.getElem?_eq_getElem hk, Option.getD_some, e, distM_comm]
      exact ((ballM_mem l v r _).1 hb).2
    · rw [setI_len_nodup k1.cnd]; exact k1.full hs k2
  · cases hm
theorem catN_app (l c O : List Int) (v : Int) : ∀ {j : Nat}, j ≤ O.length → catN l c (O ++ [v]) j = catN l c O j
  | 0, _ => rfl
  | j + 1, h => by
    rw [catN, catN, catN_app l c O v (j := j) (by omega)]
    congr 2
    rw [List.getD_eq_getElem?_getD, List.getD_eq_getElem?_getD, List.getElem?_append_left (by omega)]
theorem fs_part {l c : List Int} (hs : isSpaceM l = true) : ∀ (j : Nat) (X O : List Int), fsN l c j = some (X, O) → X = catN l c O O.length ∧ (∀ i, i < O.length → freB l c O i = true) ∧ inC l O
  | 0, X, O, h => by cases h; exact ⟨rfl, fun i hi => by simp at hi, fun u hu => by cases hu⟩
  | j + 1, X, O, h => by
    rw [fsN] at h
    cases hj : fsN l c j with
    | none => rw [hj] at h; cases h
    | some p =>
      obtain ⟨X0, O0⟩ := p
      obtain ⟨h1, h2, h3⟩ := fs_part hs j X0 O0 hj
      rw [hj, fsS] at h
      split at h
      · cases h; exact ⟨h1, h2, h3⟩
      · cases hv : (allW l).find? (cndB l c j (X0, O0).1) with
        | none => rw [hv] at h; cases h
        | some v =>
          rw [hv] at h
          cases h
          obtain ⟨h4, _, h5⟩ := cnd_word hv hs
          have e : (O0 ++ [v]).getD O0.length 0 = v := by simp
          refine ⟨?_, fun i hi => ?_, fun u hu => ?_⟩
          · rw [List.length_append, List.length_singleton, catN, catN_app l c O0 v (Nat.le_refl _), e, ← h1]
          · dsimp only at hi
            rw [List.length_append, List.length_singleton] at hi
            by_cases hio : i = O0.length
            · subst hio
              refine freB_ok.2 fun u hu => ?_
              rw [e] at hu
              rw [catN_app l c O0 v (Nat.le_refl _), ← h1]
              have h6 := List.all_eq_true.1 h5 u hu
              simpa using h6
            · have hil : i < O0.length := by omega
              have h6 := freB_ok.1 (h2 i hil)
              refine freB_ok.2 fun u hu => ?_
              rw [catN_app l c O0 v (by omega)]
              refine h6 u ?_
              rw [List.getD_eq_getElem?_getD, List.getElem?_append_left hil, ← List.getD_eq_getElem?_getD] at hu
              exact hu
          · rcases List.mem_append.1 hu with hu | hu
            · exact h3 u hu
            · rw [List.mem_singleton] at hu; subst hu; exact h4
theorem sh_facts {l c : List Int} (h : fsE l c = 0) : scM5 l c (fsV l c) = 0 ∧ parB l c (fsV l c) = true ∧ (((fsV l c).length * c.length : Nat) : Int) = prodM l ∧ isSpaceM l = true ∧ (fsV l c).length ≤ 1024 := by
  unfold fsE at h
  split at h
  · rename_i hg
    obtain ⟨hs, hcc, h0⟩ := sgM_ok hg
    have hp1 := prodM_pos (isSpaceM_szs hs)
    have hpr := isSpaceM_prod hs
    have hca := code_asc hcc
    have hci := inC_code hcc
    unfold fsV
    cases hf : fsN l c (prodM l).toNat with
    | none => rw [hf] at h; cases h
    | some p =>
      obtain ⟨X, O⟩ := p
      obtain ⟨h1, h2, h3⟩ := fs_part hs _ X O hf
      obtain ⟨_, h4, h5⟩ := fs_ok hs _ X O hf
      have hlen := catN_len hs hca hci O O.length
      rw [h1] at h4
      have h6 := (nodup_full hs (catN_in hs c O O.length) (catN_nodup _ h2)).1 h4
      have h7 : ((O.length * c.length : Nat) : Int) = prodM l := by rw [← hlen, h6]; omega
      refine ⟨?_, ?_, h7, hs, by show O.length ≤ 1024; omega⟩
      · show scM5 l c O = 0
        have hg1 : gcM l c O = 0 := by
          have hw : wcM l O = 0 := by
            unfold wcM
            rw [if_pos hs, if_pos ((areW_ok l O).2 fun j hj => h3 _ (getD_mem hj))]
          rw [gcM, if_pos hw, if_pos hcc]
        rw [scM5, if_pos hg1, if_neg h0]
      · show parB l c O = true
        rw [parB_yes h2]; exact decide_eq_true h7
  · rename_i hg; exact (hg h).elim
theorem cntN_two {l c : List Int} {r u : Int} {k1 k2 : Nat} (h12 : k1 < k2) (h1 : distM l (c.getD k1 0) u ≤ r) (h2 : distM l (c.getD k2 0) u ≤ r) : ∀ {j : Nat}, k2 < j → 2 ≤ cntN l c r u j
  | 0, hk => by omega
  | j + 1, hk => by
    rw [cntN]
    by_cases e : k2 = j
    · subst e; rw [if_pos h2]; have := cntN_pos h1 h12; omega
    · have := cntN_two h12 h1 h2 (show k2 < j by omega); split <;> omega
theorem perf_cnt {l c : List Int} {r : Int} (hp : perfB l c r = true) {u : Nat} (hu : u < (prodM l).toNat) : cntN l c r u c.length = 1 := by
  have h1 := timesN_get c r c.length hu
  have hl : u < (timesN l c r c.length).length := by rw [timesN_len]; exact hu
  rw [List.getD_eq_getElem?_getD, List.getElem?_eq_getElem hl, Option.getD_some] at h1
  unfold perfB at hp
  have h2 := List.all_eq_true.1 hp _ (List.getElem_mem hl)
  rw [beq_iff_eq] at h2
  rw [← h1]; exact h2
theorem sgS_ones : ∀ n : Nat, sgS (fun _ => 1) n = n
  | 0 => rfl
  | n + 1 => by rw [sgS, sgS_ones n]; omega
theorem perf_len {l c : List Int} {r : Int} (hs : isSpaceM l = true) (hr : 0 ≤ r) (hp : perfB l c r = true) : (c.length : Int) * bzM l r = prodM l := by
  have hp1 := prodM_pos (isSpaceM_szs hs)
  rw [← cnt_sum hs c hr c.length, sgS_congr (g := fun _ => 1) fun i hi => perf_cnt hp hi, sgS_ones]; omega
theorem farM_same : ∀ a : List Int, farM a a = 0
  | [] => rfl
  | x :: a => by rw [farM, if_pos rfl, farM_same a]; rfl
theorem far_mid : ∀ (a b : List Int), a.length = b.length → 1 ≤ farM a b → ∃ m : List Int, m.length = a.length ∧ (∀ j, j < a.length → m.getD j 0 = a.getD j 0 ∨ m.getD j 0 = b.getD j 0) ∧ farM m a = 1 ∧ farM m b = farM a b - 1
  | [], [], _, h => by simp [farM] at h
  | x :: a, y :: b, hl, h => by
    by_cases e : x = y
    · subst e
      rw [farM, if_pos rfl] at h
      obtain ⟨m, h1, h2, h3, h4⟩ := far_mid a b (by simpa using hl) (by omega)
      refine ⟨x :: m, by simp [h1], fun j hj => ?_, by rw [farM, if_pos rfl, h3]; rfl, by rw [farM, if_pos rfl, farM, if_pos rfl, h4]; omega⟩
      cases j with
      | zero => exact .inl rfl
      | succ j => simpa using h2 j (by simpa using hj)
    · refine ⟨y :: a, rfl, fun j hj => ?_, ?_, ?_⟩
      · cases j with
        | zero => exact .inr rfl
        | succ j => exact .inl rfl
      · rw [farM, if_neg (fun h => e h.symm), farM_same]; rfl
      · rw [farM, if_pos rfl, farM, if_neg e]; omega
theorem perf_apt {l c : List Int} (hs : isSpaceM l = true) (hcc : isCodeM l c = true) (hp : perfB l c 1 = true) : ∀ u x, u ∈ c → x ∈ c → u ≠ x → 3 ≤ distM l u x := by
  have hz := isSpaceM_szs hs
  intro u x hu hx hux
  have hub := inC_code hcc u hu
  have hxb := inC_code hcc x hx
  rcases Int.lt_or_le (distM l u x) 3 with h3 | h3
  · exfalso
    have h0 : 1 ≤ distM l u x := by
      rcases Int.lt_or_le (distM l u x) 1 with h | h
      · have hd := (distM_bnd l u x).1
        have he : digM l u = digM l x := by
          have key : ∀ a b : List Int, a.length = b.length → farM a b = 0 → a = b := by
            intro a
            induction a with
            | nil => intro b hl _; cases b with
              | nil => rfl
              | cons y b => simp at hl
            | cons x a ih => intro b hl h; cases b with
              | nil => simp at hl
              | cons y b =>
                have := (farM_bnd a b).1
                rw [farM] at h
                split at h
                · rename_i e; rw [e, ih b (by simpa using hl) (by omega)]
                · omega
          exact key _ _ (by rw [digM_len, digM_len]) (by show distM l u x = 0; omega)
        exact absurd (word_eq hz hub hxb fun i hi => by rw [he]) hux
      · exact h
    obtain ⟨m, m1, m2, m3, m4⟩ := far_mid (digM l u) (digM l x) (by rw [digM_len, digM_len]) h0
    rw [digM_len] at m1
    have hmb : ∀ k, k < l.length → 0 ≤ m.getD k 0 ∧ m.getD k 0 < l.getD k 0 := fun k hk => by
      have a1 := dig_lt hz u hk
      have a2 := dig_lt hz x hk
      rcases m2 k (by rw [digM_len]; exact hk) with e | e <;> rw [e] <;> assumption
    have hdm := digM_word hz m1 hmb
    have hyb := wordN_bnd hz hmb l.length (Nat.le_refl _)
    rw [List.take_length] at hyb
    generalize wordN l m l.length = y at *
    have e1 : distM l u y ≤ 1 := by rw [distM_comm]; show farM (digM l y) (digM l u) ≤ 1; rw [hdm]; omega
    have e2 : distM l x y ≤ 1 := by
      rw [distM_comm]; show farM (digM l y) (digM l x) ≤ 1; rw [hdm]
      have : farM (digM l u) (digM l x) < 3 := h3
      omega
    obtain ⟨k1, hk1, rfl⟩ := List.mem_iff_getElem.1 hu
    obtain ⟨k2, hk2, rfl⟩ := List.mem_iff_getElem.1 hx
    have g1 : c[k1] = c.getD k1 0 := by simp [hk1]
    have g2 : c[k2] = c.getD k2 0 := by simp [hk2]
    have hc1 := perf_cnt hp (u := y.toNat) (by omega)
    rw [Int.toNat_of_nonneg hyb.1] at hc1
    rw [g1] at e1
    rw [g2] at e2
    rcases Nat.lt_trichotomy k1 k2 with h | h | h
    · have := cntN_two h e1 e2 hk2; omega
    · subst h; exact hux rfl
    · have := cntN_two h e2 e1 hk1; omega
  · exact h3
theorem bnI_in {l : List Int} {i : Int} {c Q : List Int} {u x : Int} (hb : bndB l i u x = true) : ∀ {j : Nat}, (∃ k, k < j ∧ c.getD k 0 = x) → x ∈ bnI l i c Q u j
  | 0, h => by obtain ⟨k, hk, _⟩ := h; omega
  | j + 1, h => by
    obtain ⟨k, hk, e⟩ := h
    rw [bnI]
    by_cases hkj : k = j
    · subst hkj
      rw [e, bnS]
      split
      · simp
      · rename_i hn
        rcases Classical.not_and_iff_not_or_not.1 hn with h | h
        · exact absurd hb h
        · exact Classical.not_not.1 h
    · have := bnI_in (Q := Q) hb (j := j) ⟨k, by omega, e⟩
      rw [bnS]
      split
      · exact List.mem_append_left _ this
      · exact this
theorem bn_clo {l c : List Int} {w i : Int} (hw : w ∈ c) : ∀ u x, u ∈ bnM l c w i → x ∈ c → bndB l i u x = true → x ∈ bnM l c w i := by
  have key : ∀ (f k : Nat) (Q : List Int), c.length - k ≤ f → BnQ l c w i k Q → (∀ j, j < k → ∀ x, x ∈ c → bndB l i (Q.getD j 0) x = true → x ∈ Q) → ∃ Q', BnQ l c w i Q'.length Q' ∧ ∀ j, j < Q'.length → ∀ x, x ∈ c → bndB l i (Q'.getD j 0) x = true → x ∈ Q' := by
    intro f
    induction f with
    | zero =>
      intro k Q hf h hc
      have h1 := h.le
      have h2 := BnQ.len h
      have hk : k = Q.length := by omega
      subst hk
      exact ⟨Q, h, hc⟩
    | succ f ih =>
      intro k Q hf h hc
      by_cases hk : k < Q.length
      · have hn := BnQ.next h hk
        obtain ⟨_, _, r, h3⟩ := bnI_ok (l := l) (i := i) (u := Q.getD k 0) h.nd h.sub c.length (Nat.le_refl _)
        have hl := BnQ.len h
        refine ih (k + 1) _ (by omega) hn fun j hj x hx hb => ?_
        by_cases hjk : j = k
        · subst hjk
          rw [bnI_get h.nd h.sub (Nat.le_refl _) hk] at hb
          obtain ⟨m, hm, e⟩ := List.mem_iff_getElem.1 hx
          exact bnI_in hb ⟨m, hm, by simp [hm, e]⟩
        · rw [bnI_get h.nd h.sub (Nat.le_refl _) (by omega)] at hb
          rw [h3]
          exact List.mem_append_left _ (hc j (by omega) x hx hb)
      · have h1 := h.le
        have hk : k = Q.length := by omega
        subst hk
        exact ⟨Q, h, hc⟩
  obtain ⟨Q, h1, h2⟩ := key c.length 0 [w] (by omega) (BnQ.first hw) (fun j hj => by omega)
  have e := BnQ.last h1
  intro u x hu hx hb
  rw [← e] at hu ⊢
  obtain ⟨j, hj, rfl⟩ := List.mem_iff_getElem.1 hu
  exact h2 j hj x hx (by simpa [hj] using hb)
theorem bn_self {l c : List Int} {w i : Int} (hw : w ∈ c) : w ∈ bnM l c w i := by
  have key : ∀ (f k : Nat) (Q : List Int), c.length - k ≤ f → BnQ l c w i k Q → w ∈ bnM l c w i := by
    intro f
    induction f with
    | zero =>
      intro k Q hf h
      have h1 := h.le
      have h2 := BnQ.len h
      have hk : k = Q.length := by omega
      subst hk
      rw [← BnQ.last h]; exact h.mw
    | succ f ih =>
      intro k Q hf h
      by_cases hk : k < Q.length
      · exact ih (k + 1) _ (by have := BnQ.len h; omega) (BnQ.next h hk)
      · have h1 := h.le
        have hk : k = Q.length := by omega
        subst hk
        rw [← BnQ.last h]; exact h.mw
  exact key c.length 0 [w] (by omega) (BnQ.first hw)
theorem far_set : ∀ (a b : List Int) (i : Nat) (v : Int), a.length = b.length → i < a.length → farM (a.set i v) b + (if a.getD i 0 = b.getD i 0 then 0 else 1) = farM a b + (if v = b.getD i 0 then 0 else 1)
  | [], _, i, v, _, h => by simp at h
  | x :: a, [], i, v, h, _ => by simp at h
  | x :: a, y :: b, 0, v, _, _ => by simp only [List.set_cons_zero, farM, List.getD_cons_zero]; omega
  | x :: a, y :: b, i + 1, v, h, hi => by
    have ih := far_set a b i v (by simpa using h) (by simpa using hi)
    simp only [List.set_cons_succ, farM, List.getD_cons_succ]
    omega
theorem far_comm' (a b : List Int) : farM a b = farM b a := farM_comm a b
theorem swD_far {a b : List Int} {i : Nat} (hl : a.length = b.length) (hi : i < a.length) (ha : 0 ≤ a.getD i 0 ∧ a.getD i 0 < 2) (hb : 0 ≤ b.getD i 0 ∧ b.getD i 0 < 2) :
    (a.getD i 0 = b.getD i 0 → farM (swD a i) b = farM a b + 1) ∧ (a.getD i 0 ≠ b.getD i 0 → farM (swD a i) b = farM a b - 1) := by
  have h := far_set a b i (1 - a.getD i 0) hl hi
  unfold swD
  constructor
  · intro e
    rw [if_pos e, if_neg (by omega)] at h; omega
  · intro e
    rw [if_neg e, if_pos (by omega)] at h; omega
theorem swD_get (a : List Int) {i : Nat} (hi : i < a.length) : (swD a i).getD i 0 = 1 - a.getD i 0 := by
  unfold swD; simp [List.getD_eq_getElem?_getD, hi]
theorem swD_both {a b : List Int} {i : Nat} (hl : a.length = b.length) (hi : i < a.length) (ha : 0 ≤ a.getD i 0 ∧ a.getD i 0 < 2) (hb : 0 ≤ b.getD i 0 ∧ b.getD i 0 < 2) : farM (swD a i) (swD b i) = farM a b := by
  have hg := swD_get b (i := i) (by omega)
  have hl2 := swD_len b i
  obtain ⟨h1, h2⟩ := swD_far (a := a) (b := swD b i) (i := i) (by omega) hi ha (by omega)
  obtain ⟨h3, h4⟩ := swD_far (a := b) (b := a) (i := i) hl.symm (by omega) hb ha
  rw [far_comm' (swD b i) a] at h3 h4
  rw [far_comm' b a] at h3 h4
  rw [hg] at h1 h2
  by_cases e : a.getD i 0 = b.getD i 0
  · have := h2 (by omega); have := h3 e.symm; omega
  · have := h1 (by omega); have := h4 (fun h => e h.symm); omega
theorem sw_facts {l c : List Int} {w i : Int} (h : buM l c w i = 0) : ccM l (swM l c w i) 1 = 0 ∧ perfB l (swM l c w i) 1 = true ∧ (swM l c w i).length = c.length ∧ w ∈ setI (bnM l c w i) := by
  obtain ⟨hs, hcc, hw, hi, h2⟩ := buM_ok h
  have hp : perfB l c 1 = true := by
    unfold buM at h
    split at h
    · split at h
      · rename_i hh; exact hh.2.1
      · cases h
    · rename_i hg; exact (hg h).elim
  have hz := isSpaceM_szs hs
  have hci := inC_code hcc
  have hca := code_asc hcc
  have hap := perf_apt hs hcc hp
  have hclo := bn_clo (l := l) (c := c) (w := w) (i := i) hw
  have hself := (setI_mem (bnM l c w i) w).2 (bn_self (l := l) (i := i) hw)
  have hlen := perf_len hs (by omega) hp
  have hmem : ∀ u, u ∈ setI (bnM l c w i) ↔ u ∈ bnM l c w i := setI_mem _
  have hin : i.toNat < l.length := by omega
  have hbit : ∀ u, 0 ≤ (digM l u).getD i.toNat 0 ∧ (digM l u).getD i.toNat 0 < 2 := fun u => by
    have := dig_lt hz u hin
    rw [h2 _ hin] at this; exact this
  unfold swM
  generalize hB : setI (bnM l c w i) = B at *
  have hsw : ∀ u, digM l (swW l B i u) = if u ∈ B then swD (digM l u) i.toNat else digM l u := fun u => by
    unfold swW
    split
    · exact digM_word hz (by rw [swD_len, digM_len]) (swD_bnd hz h2 u i.toNat)
    · rfl
  have hswb : ∀ u, u ∈ c → 0 ≤ swW l B i u ∧ swW l B i u < prodM l := fun u hu => by
    unfold swW
    split
    · have := wordN_bnd hz (swD_bnd hz h2 u i.toNat) l.length (Nat.le_refl _)
      rw [List.take_length] at this; exact this
    · exact hci u hu
  have hdist : ∀ u x, u ∈ c → x ∈ c → u ≠ x → 3 ≤ distM l (swW l B i u) (swW l B i x) := fun u x hu hx hux => by
    have h3 := hap u x hu hx hux
    show 3 ≤ farM (digM l (swW l B i u)) (digM l (swW l B i x))
    change 3 ≤ farM (digM l u) (digM l x) at h3
    have hl1 := digM_len l u
    have hl2 := digM_len l x
    have hmix : ∀ u x, u ∈ c → x ∈ c → u ∈ B → x ∉ B → 3 ≤ farM (digM l u) (digM l x) → 3 ≤ farM (swD (digM l u) i.toNat) (digM l x) := fun u x hu hx h4 h5 h3 => by
      obtain ⟨f1, f2⟩ := swD_far (a := digM l u) (b := digM l x) (i := i.toNat) (by rw [digM_len, digM_len]) (by rw [digM_len]; omega) (hbit u) (hbit x)
      by_cases e : (digM l u).getD i.toNat 0 = (digM l x).getD i.toNat 0
      · rw [f1 e]; omega
      · rw [f2 e]
        have hnb : bndB l i u x ≠ true := fun hb => h5 ((hmem x).2 (hclo u x ((hmem u).1 h4) hx hb))
        have h6 : farM (digM l u) (digM l x) ≠ 3 := fun e3 => hnb (by
          unfold bndB
          rw [Bool.and_eq_true, beq_iff_eq, bne_iff_ne]
          exact ⟨e3, e⟩)
        omega
    rw [hsw, hsw]
    by_cases h4 : u ∈ B
    · by_cases h5 : x ∈ B
      · rw [if_pos h4, if_pos h5, swD_both (by omega) (by omega) (hbit u) (hbit x)]; exact h3
      · rw [if_pos h4, if_neg h5]; exact hmix u x hu hx h4 h5 h3
    · by_cases h5 : x ∈ B
      · rw [if_neg h4, if_pos h5, far_comm']; exact hmix x u hx hu h5 h4 (by rw [far_comm']; exact h3)
      · rw [if_neg h4, if_neg h5]; exact h3
  have hnd : (c.map (swW l B i)).Nodup := by
    rw [List.Nodup, List.pairwise_map]
    refine (asc_nodup hca).imp_of_mem fun {u x} hu hx hux e => ?_
    have := hdist u x hu hx hux
    rw [e] at this
    have h7 : distM l (swW l B i x) (swW l B i x) = 0 := farM_same _
    omega
  have hln : (setI (c.map (swW l B i))).length = c.length := by rw [setI_len_nodup hnd, List.length_map]
  have hinS : ∀ y, y ∈ setI (c.map (swW l B i)) → 0 ≤ y ∧ y < prodM l := fun y hy => by
    obtain ⟨u, hu, rfl⟩ := List.mem_map.1 ((setI_mem _ y).1 hy)
    exact hswb u hu
  have hapt : Apt l 3 (setI (c.map (swW l B i))) := (asc_nodup (setI_asc _)).imp_of_mem fun {y z} hy hz hyz => by
    obtain ⟨u, hu, rfl⟩ := List.mem_map.1 ((setI_mem _ y).1 hy)
    obtain ⟨x, hx, rfl⟩ := List.mem_map.1 ((setI_mem _ z).1 hz)
    exact hdist u x hu hx fun e => hyz (by rw [e])
  have hcode : isCodeM l (setI (c.map (swW l B i))) = true := (isCodeM_ok l _).2 ⟨fun j hj => hinS _ (getD_mem hj), fun j hj => asc_lt (setI_asc _) (by omega) hj⟩
  obtain ⟨p1, p2⟩ := apt_pack hs (show (1 : Int) ≤ 3 by omega) hinS hapt
  have hp0 := prodM_pos hz
  rw [hln, show ((3 : Int) - 1) / 2 = 1 from rfl, hlen] at p2
  rw [show ((3 : Int) - 1) / 2 = 1 from rfl] at p1
  have hall := (nodup_full hs (fun y hy => by
    obtain ⟨v, _, hv⟩ := List.mem_flatMap.1 hy
    exact ball_in l v 1 y hv) p1).2 (by omega)
  refine ⟨by rw [ccM, ggM, if_pos hs, if_pos hcode, if_pos rfl, if_pos (by omega)], perf_of hs (by omega) (fun y hy => ?_) (by rw [hln]; exact hlen), hln, hself⟩
  obtain ⟨v, hv, hb⟩ := List.mem_flatMap.1 (hall y hy)
  obtain ⟨k, hk, e⟩ := List.mem_iff_getElem.1 hv
  refine ⟨k, hk, ?_⟩
  rw [List.getD_eq_getElem?_getD, List.getElem?_eq_getElem hk, Option.getD_some, e, distM_comm]
  exact ((ballM_mem l v 1 _).1 hb).2
theorem ex_doPart {cd : D} {l : List Int} (H : SrcH cd l) : ∃ (X : D) (o c t : List Int), drL X o ∧ c.length < 1048577 ∧ t.length < 1048577 ∧ Den PA f_spec_DrawDoPart [.d cd] [.any] (.tup [.d (.agg [X]), .own 1 (c.map di), .own 1 (t.map di)]) := by
  obtain ⟨s0, hs0, d0⟩ := ex_from H
  obtain ⟨X, o, c, hX, hc, hci, d1⟩ := ex_perfRadius H
  obtain ⟨v, s1, hs1, v1, v2, d2⟩ := ex_nxt H hs0 (q := 4) (by omega)
  have hfs : ∃ (e : Int) (T : List Int), Den PA f_spec_FirstShifts [.d (.agg [X]), .d (ints c)] [.any, .any] (lstR e T) ∧ (e = 0 → T.length ≤ 1024) := by
    obtain ⟨hX1, hX2, hX3⟩ := hX
    rcases hX1 with rfl | ⟨rfl, rfl⟩
    · exact ⟨_, _, d_spec_FirstShifts o c hX2 hc, fun h => (sh_facts h).2.2.2.2⟩
    · exact ⟨1, [], by rw [lstR_no (by decide)]; exact d_nil_spec_FirstShifts c, fun h => by cases h⟩
  obtain ⟨e, T, hf, hT⟩ := hfs
  by_cases he : e = 0
  · subst he
    have hT := hT rfl
    rw [lstR_ok rfl] at hf
    obtain ⟨k, s2, hs2, k1, k2, d3⟩ := ex_nxt H hs1 (q := 8) (by omega)
    obtain ⟨p, s3, hs3, hp, d4⟩ := ex_pik H hs2 [-1, 0, 1024] (by simp) (by simp)
    by_cases hv : v = 0
    · subst hv
      by_cases hk0 : k = 0
      · subst hk0
        refine ⟨X, o, c, [p], hX, hc, by simp, den_go [] l_spec_DrawDoPart ?_⟩
        repeat' (first | simp -implicitDefEqProofs (maxSteps := 1000000) (disch := (first | omega | (simp only [go_sem] <;> omega) | fail)) only [go_sem, ints, bools, mat, c_spec_DrawDoPart, srcR] | ((first | apply goIf_b | apply goG_b | apply goTG_b | apply goOG_b) <;> intro h <;> ((try simp only [hnq] at h); (try simp only [h]); (try simp only [hnr] at h)) <;> (try (exfalso; omega))))
        have yc := d0; first | refine goC_call [.r] yc ?_ | refine goOC_call [.r] yc ?_
        repeat' (first | simp -implicitDefEqProofs (maxSteps := 1000000) (disch := (first | omega | (simp only [go_sem] <;> omega) | fail)) only [go_sem, ints, bools, mat] | ((first | apply goIf_b | apply goG_b | apply goTG_b | apply goOG_b) <;> intro h <;> ((try simp only [hnq] at h); (try simp only [h]); (try simp only [hnr] at h)) <;> (try (exfalso; omega))))
        have yc := d1; first | refine goC_call [.r] yc ?_ | refine goOC_call [.r] yc ?_
        repeat' (first | simp -implicitDefEqProofs (maxSteps := 1000000) (disch := (first | omega | (simp only [go_sem] <;> omega) | fail)) only [go_sem, ints, bools, mat] | ((first | apply goIf_b | apply goG_b | apply goTG_b | apply goOG_b) <;> intro h <;> ((try simp only [hnq] at h); (try simp only [h]); (try simp only [hnr] at h)) <;> (try (exfalso; omega))))
        have yc := hf; first | refine goC_call [.r, .r] yc ?_ | refine goOC_call [.r, .r] yc ?_
        repeat' (first | simp -implicitDefEqProofs (maxSteps := 1000000) (disch := (first | omega | (simp only [go_sem] <;> omega) | fail)) only [go_sem, ints, bools, mat] | ((first | apply goIf_b | apply goG_b | apply goTG_b | apply goOG_b) <;> intro h <;> ((try simp only [hnq] at h); (try simp only [h]); (try simp only [hnr] at h)) <;> (try (exfalso; omega))))
        have yc := d2; first | refine goC_call [.bm, .r] yc ?_ | refine goOC_call [.bm, .r] yc ?_
        repeat' (first | simp -implicitDefEqProofs (maxSteps := 1000000) (disch := (first | omega | (simp only [go_sem] <;> omega) | fail)) only [go_sem, ints, bools, mat] | ((first | apply goIf_b | apply goG_b | apply goTG_b | apply goOG_b) <;> intro h <;> ((try simp only [hnq] at h); (try simp only [h]); (try simp only [hnr] at h)) <;> (try (exfalso; omega))))
        have yc := d3; first | refine goC_call [.bm, .r] yc ?_ | refine goOC_call [.bm, .r] yc ?_
        repeat' (first | simp -implicitDefEqProofs (maxSteps := 1000000) (disch := (first | omega | (simp only [go_sem] <;> omega) | fail)) only [go_sem, ints, bools, mat] | ((first | apply goIf_b | apply goG_b | apply goTG_b | apply goOG_b) <;> intro h <;> ((try simp only [hnq] at h); (try simp only [h]); (try simp only [hnr] at h)) <;> (try (exfalso; omega))))
        have yc := d4; first | refine goC_call [.bm, .f] yc ?_ | refine goOC_call [.bm, .f] yc ?_
        repeat' (first | simp -implicitDefEqProofs (maxSteps := 1000000) (disch := (first | omega | (simp only [go_sem] <;> omega) | fail)) only [go_sem, ints, bools, mat] | ((first | apply goIf_b | apply goG_b | apply goTG_b | apply goOG_b) <;> intro h <;> ((try simp only [hnq] at h); (try simp only [h]); (try simp only [hnr] at h)) <;> (try (exfalso; omega))))
      · refine ⟨X, o, c, [], hX, hc, by simp, den_go [] l_spec_DrawDoPart ?_⟩
        repeat' (first | simp -implicitDefEqProofs (maxSteps := 1000000) (disch := (first | omega | (simp only [go_sem] <;> omega) | fail)) only [go_sem, ints, bools, mat, c_spec_DrawDoPart, srcR] | ((first | apply goIf_b | apply goG_b | apply goTG_b | apply goOG_b) <;> intro h <;> ((try simp only [hnq] at h); (try simp only [h]); (try simp only [hnr] at h)) <;> (try (exfalso; omega))))
        have yc := d0; first | refine goC_call [.r] yc ?_ | refine goOC_call [.r] yc ?_
        repeat' (first | simp -implicitDefEqProofs (maxSteps := 1000000) (disch := (first | omega | (simp only [go_sem] <;> omega) | fail)) only [go_sem, ints, bools, mat] | ((first | apply goIf_b | apply goG_b | apply goTG_b | apply goOG_b) <;> intro h <;> ((try simp only [hnq] at h); (try simp only [h]); (try simp only [hnr] at h)) <;> (try (exfalso; omega))))
        have yc := d1; first | refine goC_call [.r] yc ?_ | refine goOC_call [.r] yc ?_
        repeat' (first | simp -implicitDefEqProofs (maxSteps := 1000000) (disch := (first | omega | (simp only [go_sem] <;> omega) | fail)) only [go_sem, ints, bools, mat] | ((first | apply goIf_b | apply goG_b | apply goTG_b | apply goOG_b) <;> intro h <;> ((try simp only [hnq] at h); (try simp only [h]); (try simp only [hnr] at h)) <;> (try (exfalso; omega))))
        have yc := hf; first | refine goC_call [.r, .r] yc ?_ | refine goOC_call [.r, .r] yc ?_
        repeat' (first | simp -implicitDefEqProofs (maxSteps := 1000000) (disch := (first | omega | (simp only [go_sem] <;> omega) | fail)) only [go_sem, ints, bools, mat] | ((first | apply goIf_b | apply goG_b | apply goTG_b | apply goOG_b) <;> intro h <;> ((try simp only [hnq] at h); (try simp only [h]); (try simp only [hnr] at h)) <;> (try (exfalso; omega))))
        have yc := d2; first | refine goC_call [.bm, .r] yc ?_ | refine goOC_call [.bm, .r] yc ?_
        repeat' (first | simp -implicitDefEqProofs (maxSteps := 1000000) (disch := (first | omega | (simp only [go_sem] <;> omega) | fail)) only [go_sem, ints, bools, mat] | ((first | apply goIf_b | apply goG_b | apply goTG_b | apply goOG_b) <;> intro h <;> ((try simp only [hnq] at h); (try simp only [h]); (try simp only [hnr] at h)) <;> (try (exfalso; omega))))
        have yc := d3; first | refine goC_call [.bm, .r] yc ?_ | refine goOC_call [.bm, .r] yc ?_
        repeat' (first | simp -implicitDefEqProofs (maxSteps := 1000000) (disch := (first | omega | (simp only [go_sem] <;> omega) | fail)) only [go_sem, ints, bools, mat] | ((first | apply goIf_b | apply goG_b | apply goTG_b | apply goOG_b) <;> intro h <;> ((try simp only [hnq] at h); (try simp only [h]); (try simp only [hnr] at h)) <;> (try (exfalso; omega))))

    · by_cases hk0 : k = 0
      · subst hk0
        refine ⟨X, o, c, T ++ [p], hX, hc, by simp; omega, den_go [] l_spec_DrawDoPart ?_⟩
        repeat' (first | simp -implicitDefEqProofs (maxSteps := 1000000) (disch := (first | omega | (simp only [go_sem] <;> omega) | fail)) only [go_sem, ints, bools, mat, c_spec_DrawDoPart, srcR] | ((first | apply goIf_b | apply goG_b | apply goTG_b | apply goOG_b) <;> intro h <;> ((try simp only [hnq] at h); (try simp only [h]); (try simp only [hnr] at h)) <;> (try (exfalso; omega))))
        have yc := d0; first | refine goC_call [.r] yc ?_ | refine goOC_call [.r] yc ?_
        repeat' (first | simp -implicitDefEqProofs (maxSteps := 1000000) (disch := (first | omega | (simp only [go_sem] <;> omega) | fail)) only [go_sem, ints, bools, mat] | ((first | apply goIf_b | apply goG_b | apply goTG_b | apply goOG_b) <;> intro h <;> ((try simp only [hnq] at h); (try simp only [h]); (try simp only [hnr] at h)) <;> (try (exfalso; omega))))
        have yc := d1; first | refine goC_call [.r] yc ?_ | refine goOC_call [.r] yc ?_
        repeat' (first | simp -implicitDefEqProofs (maxSteps := 1000000) (disch := (first | omega | (simp only [go_sem] <;> omega) | fail)) only [go_sem, ints, bools, mat] | ((first | apply goIf_b | apply goG_b | apply goTG_b | apply goOG_b) <;> intro h <;> ((try simp only [hnq] at h); (try simp only [h]); (try simp only [hnr] at h)) <;> (try (exfalso; omega))))
        have yc := hf; first | refine goC_call [.r, .r] yc ?_ | refine goOC_call [.r, .r] yc ?_
        repeat' (first | simp -implicitDefEqProofs (maxSteps := 1000000) (disch := (first | omega | (simp only [go_sem] <;> omega) | fail)) only [go_sem, ints, bools, mat] | ((first | apply goIf_b | apply goG_b | apply goTG_b | apply goOG_b) <;> intro h <;> ((try simp only [hnq] at h); (try simp only [h]); (try simp only [hnr] at h)) <;> (try (exfalso; omega))))
        have yc := d2; first | refine goC_call [.bm, .r] yc ?_ | refine goOC_call [.bm, .r] yc ?_
        repeat' (first | simp -implicitDefEqProofs (maxSteps := 1000000) (disch := (first | omega | (simp only [go_sem] <;> omega) | fail)) only [go_sem, ints, bools, mat] | ((first | apply goIf_b | apply goG_b | apply goTG_b | apply goOG_b) <;> intro h <;> ((try simp only [hnq] at h); (try simp only [h]); (try simp only [hnr] at h)) <;> (try (exfalso; omega))))
        have yc := d3; first | refine goC_call [.bm, .r] yc ?_ | refine goOC_call [.bm, .r] yc ?_
        repeat' (first | simp -implicitDefEqProofs (maxSteps := 1000000) (disch := (first | omega | (simp only [go_sem] <;> omega) | fail)) only [go_sem, ints, bools, mat] | ((first | apply goIf_b | apply goG_b | apply goTG_b | apply goOG_b) <;> intro h <;> ((try simp only [hnq] at h); (try simp only [h]); (try simp only [hnr] at h)) <;> (try (exfalso; omega))))
        have yc := d4; first | refine goC_call [.bm, .f] yc ?_ | refine goOC_call [.bm, .f] yc ?_
        repeat' (first | simp -implicitDefEqProofs (maxSteps := 1000000) (disch := (first | omega | (simp only [go_sem] <;> omega) | fail)) only [go_sem, ints, bools, mat] | ((first | apply goIf_b | apply goG_b | apply goTG_b | apply goOG_b) <;> intro h <;> ((try simp only [hnq] at h); (try simp only [h]); (try simp only [hnr] at h)) <;> (try (exfalso; omega))))
      · by_cases hk1 : k = 1
        · subst hk1
          by_cases hTl : 0 < T.length
          · refine ⟨X, o, c, T.drop 1, hX, hc, by rw [List.length_drop]; omega, den_go [] l_spec_DrawDoPart ?_⟩
            repeat' (first | simp -implicitDefEqProofs (maxSteps := 1000000) (disch := (first | omega | (simp only [go_sem] <;> omega) | fail)) only [go_sem, ints, bools, mat, c_spec_DrawDoPart, srcR] | ((first | apply goIf_b | apply goG_b | apply goTG_b | apply goOG_b) <;> intro h <;> ((try simp only [hnq] at h); (try simp only [h]); (try simp only [hnr] at h)) <;> (try (exfalso; omega))))
            have yc := d0; first | refine goC_call [.r] yc ?_ | refine goOC_call [.r] yc ?_
            repeat' (first | simp -implicitDefEqProofs (maxSteps := 1000000) (disch := (first | omega | (simp only [go_sem] <;> omega) | fail)) only [go_sem, ints, bools, mat] | ((first | apply goIf_b | apply goG_b | apply goTG_b | apply goOG_b) <;> intro h <;> ((try simp only [hnq] at h); (try simp only [h]); (try simp only [hnr] at h)) <;> (try (exfalso; omega))))
            have yc := d1; first | refine goC_call [.r] yc ?_ | refine goOC_call [.r] yc ?_
            repeat' (first | simp -implicitDefEqProofs (maxSteps := 1000000) (disch := (first | omega | (simp only [go_sem] <;> omega) | fail)) only [go_sem, ints, bools, mat] | ((first | apply goIf_b | apply goG_b | apply goTG_b | apply goOG_b) <;> intro h <;> ((try simp only [hnq] at h); (try simp only [h]); (try simp only [hnr] at h)) <;> (try (exfalso; omega))))
            have yc := hf; first | refine goC_call [.r, .r] yc ?_ | refine goOC_call [.r, .r] yc ?_
            repeat' (first | simp -implicitDefEqProofs (maxSteps := 1000000) (disch := (first | omega | (simp only [go_sem] <;> omega) | fail)) only [go_sem, ints, bools, mat] | ((first | apply goIf_b | apply goG_b | apply goTG_b | apply goOG_b) <;> intro h <;> ((try simp only [hnq] at h); (try simp only [h]); (try simp only [hnr] at h)) <;> (try (exfalso; omega))))
            have yc := d2; first | refine goC_call [.bm, .r] yc ?_ | refine goOC_call [.bm, .r] yc ?_
            repeat' (first | simp -implicitDefEqProofs (maxSteps := 1000000) (disch := (first | omega | (simp only [go_sem] <;> omega) | fail)) only [go_sem, ints, bools, mat] | ((first | apply goIf_b | apply goG_b | apply goTG_b | apply goOG_b) <;> intro h <;> ((try simp only [hnq] at h); (try simp only [h]); (try simp only [hnr] at h)) <;> (try (exfalso; omega))))
            have yc := d3; first | refine goC_call [.bm, .r] yc ?_ | refine goOC_call [.bm, .r] yc ?_
            repeat' (first | simp -implicitDefEqProofs (maxSteps := 1000000) (disch := (first | omega | (simp only [go_sem] <;> omega) | fail)) only [go_sem, ints, bools, mat] | ((first | apply goIf_b | apply goG_b | apply goTG_b | apply goOG_b) <;> intro h <;> ((try simp only [hnq] at h); (try simp only [h]); (try simp only [hnr] at h)) <;> (try (exfalso; omega))))
            have hdt : List.take (T.length - Int.toNat 1) (List.drop (Int.toNat 1) (List.map di T)) = (T.drop 1).map di := by
              rw [show Int.toNat 1 = 1 from rfl, ← List.map_drop, List.take_of_length_le (by simp)]
            rw [leaS_sub (by rw [show Int.toNat 1 = 1 from rfl, List.length_map]; omega), hdt]
            repeat' (first | simp -implicitDefEqProofs (maxSteps := 1000000) (disch := (first | omega | (simp only [go_sem] <;> omega) | fail)) only [go_sem, ints, bools, mat] | ((first | apply goIf_b | apply goG_b | apply goTG_b | apply goOG_b) <;> intro h <;> ((try simp only [hnq] at h); (try simp only [h]); (try simp only [hnr] at h)) <;> (try (exfalso; omega))))
          · refine ⟨X, o, c, T, hX, hc, by omega, den_go [] l_spec_DrawDoPart ?_⟩
            repeat' (first | simp -implicitDefEqProofs (maxSteps := 1000000) (disch := (first | omega | (simp only [go_sem] <;> omega) | fail)) only [go_sem, ints, bools, mat, c_spec_DrawDoPart, srcR] | ((first | apply goIf_b | apply goG_b | apply goTG_b | apply goOG_b) <;> intro h <;> ((try simp only [hnq] at h); (try simp only [h]); (try simp only [hnr] at h)) <;> (try (exfalso; omega))))
            have yc := d0; first | refine goC_call [.r] yc ?_ | refine goOC_call [.r] yc ?_
            repeat' (first | simp -implicitDefEqProofs (maxSteps := 1000000) (disch := (first | omega | (simp only [go_sem] <;> omega) | fail)) only [go_sem, ints, bools, mat] | ((first | apply goIf_b | apply goG_b | apply goTG_b | apply goOG_b) <;> intro h <;> ((try simp only [hnq] at h); (try simp only [h]); (try simp only [hnr] at h)) <;> (try (exfalso; omega))))
            have yc := d1; first | refine goC_call [.r] yc ?_ | refine goOC_call [.r] yc ?_
            repeat' (first | simp -implicitDefEqProofs (maxSteps := 1000000) (disch := (first | omega | (simp only [go_sem] <;> omega) | fail)) only [go_sem, ints, bools, mat] | ((first | apply goIf_b | apply goG_b | apply goTG_b | apply goOG_b) <;> intro h <;> ((try simp only [hnq] at h); (try simp only [h]); (try simp only [hnr] at h)) <;> (try (exfalso; omega))))
            have yc := hf; first | refine goC_call [.r, .r] yc ?_ | refine goOC_call [.r, .r] yc ?_
            repeat' (first | simp -implicitDefEqProofs (maxSteps := 1000000) (disch := (first | omega | (simp only [go_sem] <;> omega) | fail)) only [go_sem, ints, bools, mat] | ((first | apply goIf_b | apply goG_b | apply goTG_b | apply goOG_b) <;> intro h <;> ((try simp only [hnq] at h); (try simp only [h]); (try simp only [hnr] at h)) <;> (try (exfalso; omega))))
            have yc := d2; first | refine goC_call [.bm, .r] yc ?_ | refine goOC_call [.bm, .r] yc ?_
            repeat' (first | simp -implicitDefEqProofs (maxSteps := 1000000) (disch := (first | omega | (simp only [go_sem] <;> omega) | fail)) only [go_sem, ints, bools, mat] | ((first | apply goIf_b | apply goG_b | apply goTG_b | apply goOG_b) <;> intro h <;> ((try simp only [hnq] at h); (try simp only [h]); (try simp only [hnr] at h)) <;> (try (exfalso; omega))))
            have yc := d3; first | refine goC_call [.bm, .r] yc ?_ | refine goOC_call [.bm, .r] yc ?_
            repeat' (first | simp -implicitDefEqProofs (maxSteps := 1000000) (disch := (first | omega | (simp only [go_sem] <;> omega) | fail)) only [go_sem, ints, bools, mat] | ((first | apply goIf_b | apply goG_b | apply goTG_b | apply goOG_b) <;> intro h <;> ((try simp only [hnq] at h); (try simp only [h]); (try simp only [hnr] at h)) <;> (try (exfalso; omega))))

        · refine ⟨X, o, c, T, hX, hc, by omega, den_go [] l_spec_DrawDoPart ?_⟩
          repeat' (first | simp -implicitDefEqProofs (maxSteps := 1000000) (disch := (first | omega | (simp only [go_sem] <;> omega) | fail)) only [go_sem, ints, bools, mat, c_spec_DrawDoPart, srcR] | ((first | apply goIf_b | apply goG_b | apply goTG_b | apply goOG_b) <;> intro h <;> ((try simp only [hnq] at h); (try simp only [h]); (try simp only [hnr] at h)) <;> (try (exfalso; omega))))
          have yc := d0; first | refine goC_call [.r] yc ?_ | refine goOC_call [.r] yc ?_
          repeat' (first | simp -implicitDefEqProofs (maxSteps := 1000000) (disch := (first | omega | (simp only [go_sem] <;> omega) | fail)) only [go_sem, ints, bools, mat] | ((first | apply goIf_b | apply goG_b | apply goTG_b | apply goOG_b) <;> intro h <;> ((try simp only [hnq] at h); (try simp only [h]); (try simp only [hnr] at h)) <;> (try (exfalso; omega))))
          have yc := d1; first | refine goC_call [.r] yc ?_ | refine goOC_call [.r] yc ?_
          repeat' (first | simp -implicitDefEqProofs (maxSteps := 1000000) (disch := (first | omega | (simp only [go_sem] <;> omega) | fail)) only [go_sem, ints, bools, mat] | ((first | apply goIf_b | apply goG_b | apply goTG_b | apply goOG_b) <;> intro h <;> ((try simp only [hnq] at h); (try simp only [h]); (try simp only [hnr] at h)) <;> (try (exfalso; omega))))
          have yc := hf; first | refine goC_call [.r, .r] yc ?_ | refine goOC_call [.r, .r] yc ?_
          repeat' (first | simp -implicitDefEqProofs (maxSteps := 1000000) (disch := (first | omega | (simp only [go_sem] <;> omega) | fail)) only [go_sem, ints, bools, mat] | ((first | apply goIf_b | apply goG_b | apply goTG_b | apply goOG_b) <;> intro h <;> ((try simp only [hnq] at h); (try simp only [h]); (try simp only [hnr] at h)) <;> (try (exfalso; omega))))
          have yc := d2; first | refine goC_call [.bm, .r] yc ?_ | refine goOC_call [.bm, .r] yc ?_
          repeat' (first | simp -implicitDefEqProofs (maxSteps := 1000000) (disch := (first | omega | (simp only [go_sem] <;> omega) | fail)) only [go_sem, ints, bools, mat] | ((first | apply goIf_b | apply goG_b | apply goTG_b | apply goOG_b) <;> intro h <;> ((try simp only [hnq] at h); (try simp only [h]); (try simp only [hnr] at h)) <;> (try (exfalso; omega))))
          have yc := d3; first | refine goC_call [.bm, .r] yc ?_ | refine goOC_call [.bm, .r] yc ?_
          repeat' (first | simp -implicitDefEqProofs (maxSteps := 1000000) (disch := (first | omega | (simp only [go_sem] <;> omega) | fail)) only [go_sem, ints, bools, mat] | ((first | apply goIf_b | apply goG_b | apply goTG_b | apply goOG_b) <;> intro h <;> ((try simp only [hnq] at h); (try simp only [h]); (try simp only [hnr] at h)) <;> (try (exfalso; omega))))

  · rw [lstR_no he] at hf
    obtain ⟨k, s2, hs2, k1, k2, d3⟩ := ex_nxt H hs0 (q := 8) (by omega)
    obtain ⟨p, s3, hs3, hp, d4⟩ := ex_pik H hs2 [-1, 0, 1024] (by simp) (by simp)
    by_cases hk0 : k = 0
    · subst hk0
      refine ⟨X, o, c, [p], hX, hc, by simp, den_go [] l_spec_DrawDoPart ?_⟩
      repeat' (first | simp -implicitDefEqProofs (maxSteps := 1000000) (disch := (first | omega | (simp only [go_sem] <;> omega) | fail)) only [go_sem, ints, bools, mat, c_spec_DrawDoPart, srcR] | ((first | apply goIf_b | apply goG_b | apply goTG_b | apply goOG_b) <;> intro h <;> ((try simp only [hnq] at h); (try simp only [h]); (try simp only [hnr] at h)) <;> (try (exfalso; omega))))
      have yc := d0; first | refine goC_call [.r] yc ?_ | refine goOC_call [.r] yc ?_
      repeat' (first | simp -implicitDefEqProofs (maxSteps := 1000000) (disch := (first | omega | (simp only [go_sem] <;> omega) | fail)) only [go_sem, ints, bools, mat] | ((first | apply goIf_b | apply goG_b | apply goTG_b | apply goOG_b) <;> intro h <;> ((try simp only [hnq] at h); (try simp only [h]); (try simp only [hnr] at h)) <;> (try (exfalso; omega))))
      have yc := d1; first | refine goC_call [.r] yc ?_ | refine goOC_call [.r] yc ?_
      repeat' (first | simp -implicitDefEqProofs (maxSteps := 1000000) (disch := (first | omega | (simp only [go_sem] <;> omega) | fail)) only [go_sem, ints, bools, mat] | ((first | apply goIf_b | apply goG_b | apply goTG_b | apply goOG_b) <;> intro h <;> ((try simp only [hnq] at h); (try simp only [h]); (try simp only [hnr] at h)) <;> (try (exfalso; omega))))
      have yc := hf; first | refine goC_call [.r, .r] yc ?_ | refine goOC_call [.r, .r] yc ?_
      repeat' (first | simp -implicitDefEqProofs (maxSteps := 1000000) (disch := (first | omega | (simp only [go_sem] <;> omega) | fail)) only [go_sem, ints, bools, mat] | ((first | apply goIf_b | apply goG_b | apply goTG_b | apply goOG_b) <;> intro h <;> ((try simp only [hnq] at h); (try simp only [h]); (try simp only [hnr] at h)) <;> (try (exfalso; omega))))
      have yc := d3; first | refine goC_call [.bm, .r] yc ?_ | refine goOC_call [.bm, .r] yc ?_
      repeat' (first | simp -implicitDefEqProofs (maxSteps := 1000000) (disch := (first | omega | (simp only [go_sem] <;> omega) | fail)) only [go_sem, ints, bools, mat] | ((first | apply goIf_b | apply goG_b | apply goTG_b | apply goOG_b) <;> intro h <;> ((try simp only [hnq] at h); (try simp only [h]); (try simp only [hnr] at h)) <;> (try (exfalso; omega))))
      have yc := d4; first | refine goC_call [.bm, .f] yc ?_ | refine goOC_call [.bm, .f] yc ?_
      repeat' (first | simp -implicitDefEqProofs (maxSteps := 1000000) (disch := (first | omega | (simp only [go_sem] <;> omega) | fail)) only [go_sem, ints, bools, mat] | ((first | apply goIf_b | apply goG_b | apply goTG_b | apply goOG_b) <;> intro h <;> ((try simp only [hnq] at h); (try simp only [h]); (try simp only [hnr] at h)) <;> (try (exfalso; omega))))
    · refine ⟨X, o, c, [], hX, hc, by simp, den_go [] l_spec_DrawDoPart ?_⟩
      repeat' (first | simp -implicitDefEqProofs (maxSteps := 1000000) (disch := (first | omega | (simp only [go_sem] <;> omega) | fail)) only [go_sem, ints, bools, mat, c_spec_DrawDoPart, srcR] | ((first | apply goIf_b | apply goG_b | apply goTG_b | apply goOG_b) <;> intro h <;> ((try simp only [hnq] at h); (try simp only [h]); (try simp only [hnr] at h)) <;> (try (exfalso; omega))))
      have yc := d0; first | refine goC_call [.r] yc ?_ | refine goOC_call [.r] yc ?_
      repeat' (first | simp -implicitDefEqProofs (maxSteps := 1000000) (disch := (first | omega | (simp only [go_sem] <;> omega) | fail)) only [go_sem, ints, bools, mat] | ((first | apply goIf_b | apply goG_b | apply goTG_b | apply goOG_b) <;> intro h <;> ((try simp only [hnq] at h); (try simp only [h]); (try simp only [hnr] at h)) <;> (try (exfalso; omega))))
      have yc := d1; first | refine goC_call [.r] yc ?_ | refine goOC_call [.r] yc ?_
      repeat' (first | simp -implicitDefEqProofs (maxSteps := 1000000) (disch := (first | omega | (simp only [go_sem] <;> omega) | fail)) only [go_sem, ints, bools, mat] | ((first | apply goIf_b | apply goG_b | apply goTG_b | apply goOG_b) <;> intro h <;> ((try simp only [hnq] at h); (try simp only [h]); (try simp only [hnr] at h)) <;> (try (exfalso; omega))))
      have yc := hf; first | refine goC_call [.r, .r] yc ?_ | refine goOC_call [.r, .r] yc ?_
      repeat' (first | simp -implicitDefEqProofs (maxSteps := 1000000) (disch := (first | omega | (simp only [go_sem] <;> omega) | fail)) only [go_sem, ints, bools, mat] | ((first | apply goIf_b | apply goG_b | apply goTG_b | apply goOG_b) <;> intro h <;> ((try simp only [hnq] at h); (try simp only [h]); (try simp only [hnr] at h)) <;> (try (exfalso; omega))))
      have yc := d3; first | refine goC_call [.bm, .r] yc ?_ | refine goOC_call [.bm, .r] yc ?_
      repeat' (first | simp -implicitDefEqProofs (maxSteps := 1000000) (disch := (first | omega | (simp only [go_sem] <;> omega) | fail)) only [go_sem, ints, bools, mat] | ((first | apply goIf_b | apply goG_b | apply goTG_b | apply goOG_b) <;> intro h <;> ((try simp only [hnq] at h); (try simp only [h]); (try simp only [hnr] at h)) <;> (try (exfalso; omega))))
theorem ham_zero {m : Nat} (h : m = 2 ∨ m = 3) : 0 < (thoseM (hamL 2 m) (hamP 2 m)).length := by
  rcases h with rfl | rfl <;> decide +kernel
theorem ham_asc {x : List Int} (p : List Int → Bool) : Asc (thoseM x p) := (allW_asc x).sublist List.filter_sublist
theorem ex_bundle {cd : D} {l : List Int} (H : SrcH cd l) : ∃ (X : D) (o c : List Int) (w i : Int), drL X o ∧ c.length < 1048577 ∧ in64 w ∧ in64 i ∧ Den PA f_spec_DrawBundleOf [.d cd] [.any] (.tup [.d (.agg [X]), .own 1 (c.map di), .d (di w), .d (di i)]) := by
  obtain ⟨s0, hs0, d0⟩ := ex_from H
  obtain ⟨p, s1, hs1, hp, d1⟩ := ex_pik H hs0 [2, 3, 3] (by simp) (by simp)
  obtain ⟨m, hm, rfl⟩ : ∃ m : Nat, (m = 2 ∨ m = 3) ∧ p = m := by
    simp only [List.mem_cons, List.mem_nil_iff, or_false] at hp
    rcases hp with h | h | h
    · exact ⟨2, .inl rfl, h⟩
    · exact ⟨3, .inr rfl, h⟩
    · exact ⟨3, .inr rfl, h⟩
  have hh : Ham 2 m := by
    rcases hm with rfl | rfl
    · exact ham22
    · exact ham23
  have dH := (d_spec_l06Hamming 2 m (by omega) hh).le (.tup (.cons .frzA (.cons .frz .nil)))
  rw [show ((2 : Nat) : Int) = 2 from rfl] at dH
  have hx := hh.hsp
  have ht := those_in hx (hamP 2 m)
  have h0 := ham_zero hm
  have hasc := ham_asc (x := hamL 2 m) (hamP 2 m)
  generalize hamL 2 m = x at *
  generalize thoseM x (hamP 2 m) = c0 at *
  have hn := isSpaceM_n hx
  have hq := isSpaceM_q hx
  have hpr := isSpaceM_prod hx
  have hp1 := prodM_pos (isSpaceM_szs hx)
  have dN := d_spec_l01N x (by omega) hq
  obtain ⟨v, s2, hs2, v1, v2, d2⟩ := ex_nxt H hs1 (q := 2) (by omega)
  by_cases hv : v = 0
  · subst hv
    obtain ⟨u, s3, hs3, u1, u2, d3⟩ := ex_nxt H hs2 (q := prodM x) (by omega)
    have dS := (d_spec_l01Shifted x c0 hx (by omega) ht.1 u (by omega) (by omega)).le .frz
    have hsl := shM_count hx hasc ht.1 u
    have hsi := shM_in hx c0 u
    generalize shM x c0 u = c1 at *
    obtain ⟨a, s4, hs4, a1, a2, d4⟩ := ex_nxt H hs3 (q := c1.length) (by omega)
    obtain ⟨a, rfl⟩ : ∃ a' : Nat, a = (a' : Int) := ⟨a.toNat, by omega⟩
    obtain ⟨i, s5, hs5, hi, d5⟩ := ex_near H hs4 (most := (x.length : Int) - 1) (by omega) (by omega)
    obtain ⟨k, s6, hs6, k1, k2, d6⟩ := ex_nxt H hs5 (q := 12) (by omega)
    have hwi : in64 (c1.getD a 0) := inC_in64 hx hsi _ (getD_mem (by omega))
    by_cases hk0 : k = 0
    · subst hk0
      obtain ⟨w, s7, hs7, hw, d7⟩ := ex_near H hs6 (most := prodM x - 1) (by omega) (by omega)
      obtain ⟨X, o, s8, hs8, hX, d8⟩ := ex_bad H hs7 hx
      obtain ⟨c, s9, hs9, hcl, hci, d9⟩ := ex_badCode H hs8 hx (c := c1) (by omega) (inC_in64 hx hsi)
      refine ⟨X, o, c, w, i, hX, hcl, hw, hi, den_go [] l_spec_DrawBundleOf ?_⟩
      repeat' (first | simp -implicitDefEqProofs (maxSteps := 1000000) (disch := (first | omega | (simp only [go_sem] <;> omega) | fail)) only [go_sem, ints, bools, mat, c_spec_DrawBundleOf, srcR] | ((first | apply goIf_b | apply goG_b | apply goTG_b | apply goOG_b) <;> intro h <;> ((try simp only [hnq] at h); (try simp only [h]); (try simp only [hnr] at h)) <;> (try (exfalso; omega))))
      have yc := d0; first | refine goC_call [.r] yc ?_ | refine goOC_call [.r] yc ?_
      repeat' (first | simp -implicitDefEqProofs (maxSteps := 1000000) (disch := (first | omega | (simp only [go_sem] <;> omega) | fail)) only [go_sem, ints, bools, mat] | ((first | apply goIf_b | apply goG_b | apply goTG_b | apply goOG_b) <;> intro h <;> ((try simp only [hnq] at h); (try simp only [h]); (try simp only [hnr] at h)) <;> (try (exfalso; omega))))
      have yc := d1; first | refine goC_call [.bm, .f] yc ?_ | refine goOC_call [.bm, .f] yc ?_
      repeat' (first | simp -implicitDefEqProofs (maxSteps := 1000000) (disch := (first | omega | (simp only [go_sem] <;> omega) | fail)) only [go_sem, ints, bools, mat] | ((first | apply goIf_b | apply goG_b | apply goTG_b | apply goOG_b) <;> intro h <;> ((try simp only [hnq] at h); (try simp only [h]); (try simp only [hnr] at h)) <;> (try (exfalso; omega))))
      have yc := dH; first | refine goC_call [.r, .r] yc ?_ | refine goOC_call [.r, .r] yc ?_
      repeat' (first | simp -implicitDefEqProofs (maxSteps := 1000000) (disch := (first | omega | (simp only [go_sem] <;> omega) | fail)) only [go_sem, ints, bools, mat] | ((first | apply goIf_b | apply goG_b | apply goTG_b | apply goOG_b) <;> intro h <;> ((try simp only [hnq] at h); (try simp only [h]); (try simp only [hnr] at h)) <;> (try (exfalso; omega))))
      have yc := d2; first | refine goC_call [.bm, .r] yc ?_ | refine goOC_call [.bm, .r] yc ?_
      repeat' (first | simp -implicitDefEqProofs (maxSteps := 1000000) (disch := (first | omega | (simp only [go_sem] <;> omega) | fail)) only [go_sem, ints, bools, mat] | ((first | apply goIf_b | apply goG_b | apply goTG_b | apply goOG_b) <;> intro h <;> ((try simp only [hnq] at h); (try simp only [h]); (try simp only [hnr] at h)) <;> (try (exfalso; omega))))
      have yc := dN; first | refine goC_call [.r] yc ?_ | refine goOC_call [.r] yc ?_
      repeat' (first | simp -implicitDefEqProofs (maxSteps := 1000000) (disch := (first | omega | (simp only [go_sem] <;> omega) | fail)) only [go_sem, ints, bools, mat] | ((first | apply goIf_b | apply goG_b | apply goTG_b | apply goOG_b) <;> intro h <;> ((try simp only [hnq] at h); (try simp only [h]); (try simp only [hnr] at h)) <;> (try (exfalso; omega))))
      have yc := d3; first | refine goC_call [.bm, .r] yc ?_ | refine goOC_call [.bm, .r] yc ?_
      repeat' (first | simp -implicitDefEqProofs (maxSteps := 1000000) (disch := (first | omega | (simp only [go_sem] <;> omega) | fail)) only [go_sem, ints, bools, mat] | ((first | apply goIf_b | apply goG_b | apply goTG_b | apply goOG_b) <;> intro h <;> ((try simp only [hnq] at h); (try simp only [h]); (try simp only [hnr] at h)) <;> (try (exfalso; omega))))
      have yc := dS; first | refine goC_call [.r, .r, .r] yc ?_ | refine goOC_call [.r, .r, .r] yc ?_
      repeat' (first | simp -implicitDefEqProofs (maxSteps := 1000000) (disch := (first | omega | (simp only [go_sem] <;> omega) | fail)) only [go_sem, ints, bools, mat] | ((first | apply goIf_b | apply goG_b | apply goTG_b | apply goOG_b) <;> intro h <;> ((try simp only [hnq] at h); (try simp only [h]); (try simp only [hnr] at h)) <;> (try (exfalso; omega))))
      have yc := d4; first | refine goC_call [.bm, .r] yc ?_ | refine goOC_call [.bm, .r] yc ?_
      repeat' (first | simp -implicitDefEqProofs (maxSteps := 1000000) (disch := (first | omega | (simp only [go_sem] <;> omega) | fail)) only [go_sem, ints, bools, mat] | ((first | apply goIf_b | apply goG_b | apply goTG_b | apply goOG_b) <;> intro h <;> ((try simp only [hnq] at h); (try simp only [h]); (try simp only [hnr] at h)) <;> (try (exfalso; omega))))
      have yc := d5; first | refine goC_call [.bm, .r] yc ?_ | refine goOC_call [.bm, .r] yc ?_
      repeat' (first | simp -implicitDefEqProofs (maxSteps := 1000000) (disch := (first | omega | (simp only [go_sem] <;> omega) | fail)) only [go_sem, ints, bools, mat] | ((first | apply goIf_b | apply goG_b | apply goTG_b | apply goOG_b) <;> intro h <;> ((try simp only [hnq] at h); (try simp only [h]); (try simp only [hnr] at h)) <;> (try (exfalso; omega))))
      have yc := d6; first | refine goC_call [.bm, .r] yc ?_ | refine goOC_call [.bm, .r] yc ?_
      repeat' (first | simp -implicitDefEqProofs (maxSteps := 1000000) (disch := (first | omega | (simp only [go_sem] <;> omega) | fail)) only [go_sem, ints, bools, mat] | ((first | apply goIf_b | apply goG_b | apply goTG_b | apply goOG_b) <;> intro h <;> ((try simp only [hnq] at h); (try simp only [h]); (try simp only [hnr] at h)) <;> (try (exfalso; omega))))
      have yc := dN; first | refine goC_call [.r] yc ?_ | refine goOC_call [.r] yc ?_
      repeat' (first | simp -implicitDefEqProofs (maxSteps := 1000000) (disch := (first | omega | (simp only [go_sem] <;> omega) | fail)) only [go_sem, ints, bools, mat] | ((first | apply goIf_b | apply goG_b | apply goTG_b | apply goOG_b) <;> intro h <;> ((try simp only [hnq] at h); (try simp only [h]); (try simp only [hnr] at h)) <;> (try (exfalso; omega))))
      have yc := d7; first | refine goC_call [.bm, .r] yc ?_ | refine goOC_call [.bm, .r] yc ?_
      repeat' (first | simp -implicitDefEqProofs (maxSteps := 1000000) (disch := (first | omega | (simp only [go_sem] <;> omega) | fail)) only [go_sem, ints, bools, mat] | ((first | apply goIf_b | apply goG_b | apply goTG_b | apply goOG_b) <;> intro h <;> ((try simp only [hnq] at h); (try simp only [h]); (try simp only [hnr] at h)) <;> (try (exfalso; omega))))
      have yc := d8; first | refine goC_call [.bm, .r] yc ?_ | refine goOC_call [.bm, .r] yc ?_
      repeat' (first | simp -implicitDefEqProofs (maxSteps := 1000000) (disch := (first | omega | (simp only [go_sem] <;> omega) | fail)) only [go_sem, ints, bools, mat] | ((first | apply goIf_b | apply goG_b | apply goTG_b | apply goOG_b) <;> intro h <;> ((try simp only [hnq] at h); (try simp only [h]); (try simp only [hnr] at h)) <;> (try (exfalso; omega))))
      have yc := d9; first | refine goC_call [.bm, .r, .r] yc ?_ | refine goOC_call [.bm, .r, .r] yc ?_
      exact go_e0
    · by_cases hk1 : k = 1
      · subst hk1
        obtain ⟨y, cy, r, s7, hs7, hy, hcy, hcyl, r0, r8, d7⟩ := ex_perfect H hs6
        have e7 := d7.le (.tup (.cons .refl (.cons .frz (.cons .refl .nil))))
        obtain ⟨X, o, s8, hs8, hX, d8⟩ := ex_bad H hs7 hy
        obtain ⟨c, s9, hs9, hcl, hci, d9⟩ := ex_badCode H hs8 hy (c := cy) (by omega) (inC_in64 hy hcy)
        refine ⟨X, o, c, 0, i, hX, hcl, by unfold in64; omega, hi, den_go [] l_spec_DrawBundleOf ?_⟩
        repeat' (first | simp -implicitDefEqProofs (maxSteps := 1000000) (disch := (first | omega | (simp only [go_sem] <;> omega) | fail)) only [go_sem, ints, bools, mat, c_spec_DrawBundleOf, srcR] | ((first | apply goIf_b | apply goG_b | apply goTG_b | apply goOG_b) <;> intro h <;> ((try simp only [hnq] at h); (try simp only [h]); (try simp only [hnr] at h)) <;> (try (exfalso; omega))))
        have yc := d0; first | refine goC_call [.r] yc ?_ | refine goOC_call [.r] yc ?_
        repeat' (first | simp -implicitDefEqProofs (maxSteps := 1000000) (disch := (first | omega | (simp only [go_sem] <;> omega) | fail)) only [go_sem, ints, bools, mat] | ((first | apply goIf_b | apply goG_b | apply goTG_b | apply goOG_b) <;> intro h <;> ((try simp only [hnq] at h); (try simp only [h]); (try simp only [hnr] at h)) <;> (try (exfalso; omega))))
        have yc := d1; first | refine goC_call [.bm, .f] yc ?_ | refine goOC_call [.bm, .f] yc ?_
        repeat' (first | simp -implicitDefEqProofs (maxSteps := 1000000) (disch := (first | omega | (simp only [go_sem] <;> omega) | fail)) only [go_sem, ints, bools, mat] | ((first | apply goIf_b | apply goG_b | apply goTG_b | apply goOG_b) <;> intro h <;> ((try simp only [hnq] at h); (try simp only [h]); (try simp only [hnr] at h)) <;> (try (exfalso; omega))))
        have yc := dH; first | refine goC_call [.r, .r] yc ?_ | refine goOC_call [.r, .r] yc ?_
        repeat' (first | simp -implicitDefEqProofs (maxSteps := 1000000) (disch := (first | omega | (simp only [go_sem] <;> omega) | fail)) only [go_sem, ints, bools, mat] | ((first | apply goIf_b | apply goG_b | apply goTG_b | apply goOG_b) <;> intro h <;> ((try simp only [hnq] at h); (try simp only [h]); (try simp only [hnr] at h)) <;> (try (exfalso; omega))))
        have yc := d2; first | refine goC_call [.bm, .r] yc ?_ | refine goOC_call [.bm, .r] yc ?_
        repeat' (first | simp -implicitDefEqProofs (maxSteps := 1000000) (disch := (first | omega | (simp only [go_sem] <;> omega) | fail)) only [go_sem, ints, bools, mat] | ((first | apply goIf_b | apply goG_b | apply goTG_b | apply goOG_b) <;> intro h <;> ((try simp only [hnq] at h); (try simp only [h]); (try simp only [hnr] at h)) <;> (try (exfalso; omega))))
        have yc := dN; first | refine goC_call [.r] yc ?_ | refine goOC_call [.r] yc ?_
        repeat' (first | simp -implicitDefEqProofs (maxSteps := 1000000) (disch := (first | omega | (simp only [go_sem] <;> omega) | fail)) only [go_sem, ints, bools, mat] | ((first | apply goIf_b | apply goG_b | apply goTG_b | apply goOG_b) <;> intro h <;> ((try simp only [hnq] at h); (try simp only [h]); (try simp only [hnr] at h)) <;> (try (exfalso; omega))))
        have yc := d3; first | refine goC_call [.bm, .r] yc ?_ | refine goOC_call [.bm, .r] yc ?_
        repeat' (first | simp -implicitDefEqProofs (maxSteps := 1000000) (disch := (first | omega | (simp only [go_sem] <;> omega) | fail)) only [go_sem, ints, bools, mat] | ((first | apply goIf_b | apply goG_b | apply goTG_b | apply goOG_b) <;> intro h <;> ((try simp only [hnq] at h); (try simp only [h]); (try simp only [hnr] at h)) <;> (try (exfalso; omega))))
        have yc := dS; first | refine goC_call [.r, .r, .r] yc ?_ | refine goOC_call [.r, .r, .r] yc ?_
        repeat' (first | simp -implicitDefEqProofs (maxSteps := 1000000) (disch := (first | omega | (simp only [go_sem] <;> omega) | fail)) only [go_sem, ints, bools, mat] | ((first | apply goIf_b | apply goG_b | apply goTG_b | apply goOG_b) <;> intro h <;> ((try simp only [hnq] at h); (try simp only [h]); (try simp only [hnr] at h)) <;> (try (exfalso; omega))))
        have yc := d4; first | refine goC_call [.bm, .r] yc ?_ | refine goOC_call [.bm, .r] yc ?_
        repeat' (first | simp -implicitDefEqProofs (maxSteps := 1000000) (disch := (first | omega | (simp only [go_sem] <;> omega) | fail)) only [go_sem, ints, bools, mat] | ((first | apply goIf_b | apply goG_b | apply goTG_b | apply goOG_b) <;> intro h <;> ((try simp only [hnq] at h); (try simp only [h]); (try simp only [hnr] at h)) <;> (try (exfalso; omega))))
        have yc := d5; first | refine goC_call [.bm, .r] yc ?_ | refine goOC_call [.bm, .r] yc ?_
        repeat' (first | simp -implicitDefEqProofs (maxSteps := 1000000) (disch := (first | omega | (simp only [go_sem] <;> omega) | fail)) only [go_sem, ints, bools, mat] | ((first | apply goIf_b | apply goG_b | apply goTG_b | apply goOG_b) <;> intro h <;> ((try simp only [hnq] at h); (try simp only [h]); (try simp only [hnr] at h)) <;> (try (exfalso; omega))))
        have yc := d6; first | refine goC_call [.bm, .r] yc ?_ | refine goOC_call [.bm, .r] yc ?_
        repeat' (first | simp -implicitDefEqProofs (maxSteps := 1000000) (disch := (first | omega | (simp only [go_sem] <;> omega) | fail)) only [go_sem, ints, bools, mat] | ((first | apply goIf_b | apply goG_b | apply goTG_b | apply goOG_b) <;> intro h <;> ((try simp only [hnq] at h); (try simp only [h]); (try simp only [hnr] at h)) <;> (try (exfalso; omega))))
        have yc := e7; first | refine goC_call [.bm] yc ?_ | refine goOC_call [.bm] yc ?_
        repeat' (first | simp -implicitDefEqProofs (maxSteps := 1000000) (disch := (first | omega | (simp only [go_sem] <;> omega) | fail)) only [go_sem, ints, bools, mat] | ((first | apply goIf_b | apply goG_b | apply goTG_b | apply goOG_b) <;> intro h <;> ((try simp only [hnq] at h); (try simp only [h]); (try simp only [hnr] at h)) <;> (try (exfalso; omega))))
        have yc := d8; first | refine goC_call [.bm, .r] yc ?_ | refine goOC_call [.bm, .r] yc ?_
        repeat' (first | simp -implicitDefEqProofs (maxSteps := 1000000) (disch := (first | omega | (simp only [go_sem] <;> omega) | fail)) only [go_sem, ints, bools, mat] | ((first | apply goIf_b | apply goG_b | apply goTG_b | apply goOG_b) <;> intro h <;> ((try simp only [hnq] at h); (try simp only [h]); (try simp only [hnr] at h)) <;> (try (exfalso; omega))))
        have yc := d9; first | refine goC_call [.bm, .r, .r] yc ?_ | refine goOC_call [.bm, .r, .r] yc ?_
        exact go_e0
      · obtain ⟨X, o, s8, hs8, hX, d8⟩ := ex_bad H hs6 hx
        obtain ⟨c, s9, hs9, hcl, hci, d9⟩ := ex_badCode H hs8 hx (c := c1) (by omega) (inC_in64 hx hsi)
        refine ⟨X, o, c, c1.getD a 0, i, hX, hcl, hwi, hi, den_go [] l_spec_DrawBundleOf ?_⟩
        repeat' (first | simp -implicitDefEqProofs (maxSteps := 1000000) (disch := (first | omega | (simp only [go_sem] <;> omega) | fail)) only [go_sem, ints, bools, mat, c_spec_DrawBundleOf, srcR] | ((first | apply goIf_b | apply goG_b | apply goTG_b | apply goOG_b) <;> intro h <;> ((try simp only [hnq] at h); (try simp only [h]); (try simp only [hnr] at h)) <;> (try (exfalso; omega))))
        have yc := d0; first | refine goC_call [.r] yc ?_ | refine goOC_call [.r] yc ?_
        repeat' (first | simp -implicitDefEqProofs (maxSteps := 1000000) (disch := (first | omega | (simp only [go_sem] <;> omega) | fail)) only [go_sem, ints, bools, mat] | ((first | apply goIf_b | apply goG_b | apply goTG_b | apply goOG_b) <;> intro h <;> ((try simp only [hnq] at h); (try simp only [h]); (try simp only [hnr] at h)) <;> (try (exfalso; omega))))
        have yc := d1; first | refine goC_call [.bm, .f] yc ?_ | refine goOC_call [.bm, .f] yc ?_
        repeat' (first | simp -implicitDefEqProofs (maxSteps := 1000000) (disch := (first | omega | (simp only [go_sem] <;> omega) | fail)) only [go_sem, ints, bools, mat] | ((first | apply goIf_b | apply goG_b | apply goTG_b | apply goOG_b) <;> intro h <;> ((try simp only [hnq] at h); (try simp only [h]); (try simp only [hnr] at h)) <;> (try (exfalso; omega))))
        have yc := dH; first | refine goC_call [.r, .r] yc ?_ | refine goOC_call [.r, .r] yc ?_
        repeat' (first | simp -implicitDefEqProofs (maxSteps := 1000000) (disch := (first | omega | (simp only [go_sem] <;> omega) | fail)) only [go_sem, ints, bools, mat] | ((first | apply goIf_b | apply goG_b | apply goTG_b | apply goOG_b) <;> intro h <;> ((try simp only [hnq] at h); (try simp only [h]); (try simp only [hnr] at h)) <;> (try (exfalso; omega))))
        have yc := d2; first | refine goC_call [.bm, .r] yc ?_ | refine goOC_call [.bm, .r] yc ?_
        repeat' (first | simp -implicitDefEqProofs (maxSteps := 1000000) (disch := (first | omega | (simp only [go_sem] <;> omega) | fail)) only [go_sem, ints, bools, mat] | ((first | apply goIf_b | apply goG_b | apply goTG_b | apply goOG_b) <;> intro h <;> ((try simp only [hnq] at h); (try simp only [h]); (try simp only [hnr] at h)) <;> (try (exfalso; omega))))
        have yc := dN; first | refine goC_call [.r] yc ?_ | refine goOC_call [.r] yc ?_
        repeat' (first | simp -implicitDefEqProofs (maxSteps := 1000000) (disch := (first | omega | (simp only [go_sem] <;> omega) | fail)) only [go_sem, ints, bools, mat] | ((first | apply goIf_b | apply goG_b | apply goTG_b | apply goOG_b) <;> intro h <;> ((try simp only [hnq] at h); (try simp only [h]); (try simp only [hnr] at h)) <;> (try (exfalso; omega))))
        have yc := d3; first | refine goC_call [.bm, .r] yc ?_ | refine goOC_call [.bm, .r] yc ?_
        repeat' (first | simp -implicitDefEqProofs (maxSteps := 1000000) (disch := (first | omega | (simp only [go_sem] <;> omega) | fail)) only [go_sem, ints, bools, mat] | ((first | apply goIf_b | apply goG_b | apply goTG_b | apply goOG_b) <;> intro h <;> ((try simp only [hnq] at h); (try simp only [h]); (try simp only [hnr] at h)) <;> (try (exfalso; omega))))
        have yc := dS; first | refine goC_call [.r, .r, .r] yc ?_ | refine goOC_call [.r, .r, .r] yc ?_
        repeat' (first | simp -implicitDefEqProofs (maxSteps := 1000000) (disch := (first | omega | (simp only [go_sem] <;> omega) | fail)) only [go_sem, ints, bools, mat] | ((first | apply goIf_b | apply goG_b | apply goTG_b | apply goOG_b) <;> intro h <;> ((try simp only [hnq] at h); (try simp only [h]); (try simp only [hnr] at h)) <;> (try (exfalso; omega))))
        have yc := d4; first | refine goC_call [.bm, .r] yc ?_ | refine goOC_call [.bm, .r] yc ?_
        repeat' (first | simp -implicitDefEqProofs (maxSteps := 1000000) (disch := (first | omega | (simp only [go_sem] <;> omega) | fail)) only [go_sem, ints, bools, mat] | ((first | apply goIf_b | apply goG_b | apply goTG_b | apply goOG_b) <;> intro h <;> ((try simp only [hnq] at h); (try simp only [h]); (try simp only [hnr] at h)) <;> (try (exfalso; omega))))
        have yc := d5; first | refine goC_call [.bm, .r] yc ?_ | refine goOC_call [.bm, .r] yc ?_
        repeat' (first | simp -implicitDefEqProofs (maxSteps := 1000000) (disch := (first | omega | (simp only [go_sem] <;> omega) | fail)) only [go_sem, ints, bools, mat] | ((first | apply goIf_b | apply goG_b | apply goTG_b | apply goOG_b) <;> intro h <;> ((try simp only [hnq] at h); (try simp only [h]); (try simp only [hnr] at h)) <;> (try (exfalso; omega))))
        have yc := d6; first | refine goC_call [.bm, .r] yc ?_ | refine goOC_call [.bm, .r] yc ?_
        repeat' (first | simp -implicitDefEqProofs (maxSteps := 1000000) (disch := (first | omega | (simp only [go_sem] <;> omega) | fail)) only [go_sem, ints, bools, mat] | ((first | apply goIf_b | apply goG_b | apply goTG_b | apply goOG_b) <;> intro h <;> ((try simp only [hnq] at h); (try simp only [h]); (try simp only [hnr] at h)) <;> (try (exfalso; omega))))
        have yc := d8; first | refine goC_call [.bm, .r] yc ?_ | refine goOC_call [.bm, .r] yc ?_
        repeat' (first | simp -implicitDefEqProofs (maxSteps := 1000000) (disch := (first | omega | (simp only [go_sem] <;> omega) | fail)) only [go_sem, ints, bools, mat] | ((first | apply goIf_b | apply goG_b | apply goTG_b | apply goOG_b) <;> intro h <;> ((try simp only [hnq] at h); (try simp only [h]); (try simp only [hnr] at h)) <;> (try (exfalso; omega))))
        have yc := d9; first | refine goC_call [.bm, .r, .r] yc ?_ | refine goOC_call [.bm, .r, .r] yc ?_
        exact go_e0
  · obtain ⟨a, s4, hs4, a1, a2, d4⟩ := ex_nxt H hs2 (q := c0.length) (by omega)
    obtain ⟨a, rfl⟩ : ∃ a' : Nat, a = (a' : Int) := ⟨a.toNat, by omega⟩
    obtain ⟨i, s5, hs5, hi, d5⟩ := ex_near H hs4 (most := (x.length : Int) - 1) (by omega) (by omega)
    obtain ⟨k, s6, hs6, k1, k2, d6⟩ := ex_nxt H hs5 (q := 12) (by omega)
    have hwi : in64 (c0.getD a 0) := inC_in64 hx ht.1 _ (getD_mem (by omega))
    by_cases hk0 : k = 0
    · subst hk0
      obtain ⟨w, s7, hs7, hw, d7⟩ := ex_near H hs6 (most := prodM x - 1) (by omega) (by omega)
      obtain ⟨X, o, s8, hs8, hX, d8⟩ := ex_bad H hs7 hx
      obtain ⟨c, s9, hs9, hcl, hci, d9⟩ := ex_badCode H hs8 hx (c := c0) (by omega) (inC_in64 hx ht.1)
      refine ⟨X, o, c, w, i, hX, hcl, hw, hi, den_go [] l_spec_DrawBundleOf ?_⟩
      repeat' (first | simp -implicitDefEqProofs (maxSteps := 1000000) (disch := (first | omega | (simp only [go_sem] <;> omega) | fail)) only [go_sem, ints, bools, mat, c_spec_DrawBundleOf, srcR] | ((first | apply goIf_b | apply goG_b | apply goTG_b | apply goOG_b) <;> intro h <;> ((try simp only [hnq] at h); (try simp only [h]); (try simp only [hnr] at h)) <;> (try (exfalso; omega))))
      have yc := d0; first | refine goC_call [.r] yc ?_ | refine goOC_call [.r] yc ?_
      repeat' (first | simp -implicitDefEqProofs (maxSteps := 1000000) (disch := (first | omega | (simp only [go_sem] <;> omega) | fail)) only [go_sem, ints, bools, mat] | ((first | apply goIf_b | apply goG_b | apply goTG_b | apply goOG_b) <;> intro h <;> ((try simp only [hnq] at h); (try simp only [h]); (try simp only [hnr] at h)) <;> (try (exfalso; omega))))
      have yc := d1; first | refine goC_call [.bm, .f] yc ?_ | refine goOC_call [.bm, .f] yc ?_
      repeat' (first | simp -implicitDefEqProofs (maxSteps := 1000000) (disch := (first | omega | (simp only [go_sem] <;> omega) | fail)) only [go_sem, ints, bools, mat] | ((first | apply goIf_b | apply goG_b | apply goTG_b | apply goOG_b) <;> intro h <;> ((try simp only [hnq] at h); (try simp only [h]); (try simp only [hnr] at h)) <;> (try (exfalso; omega))))
      have yc := dH; first | refine goC_call [.r, .r] yc ?_ | refine goOC_call [.r, .r] yc ?_
      repeat' (first | simp -implicitDefEqProofs (maxSteps := 1000000) (disch := (first | omega | (simp only [go_sem] <;> omega) | fail)) only [go_sem, ints, bools, mat] | ((first | apply goIf_b | apply goG_b | apply goTG_b | apply goOG_b) <;> intro h <;> ((try simp only [hnq] at h); (try simp only [h]); (try simp only [hnr] at h)) <;> (try (exfalso; omega))))
      have yc := d2; first | refine goC_call [.bm, .r] yc ?_ | refine goOC_call [.bm, .r] yc ?_
      repeat' (first | simp -implicitDefEqProofs (maxSteps := 1000000) (disch := (first | omega | (simp only [go_sem] <;> omega) | fail)) only [go_sem, ints, bools, mat] | ((first | apply goIf_b | apply goG_b | apply goTG_b | apply goOG_b) <;> intro h <;> ((try simp only [hnq] at h); (try simp only [h]); (try simp only [hnr] at h)) <;> (try (exfalso; omega))))
      have yc := d4; first | refine goC_call [.bm, .r] yc ?_ | refine goOC_call [.bm, .r] yc ?_
      repeat' (first | simp -implicitDefEqProofs (maxSteps := 1000000) (disch := (first | omega | (simp only [go_sem] <;> omega) | fail)) only [go_sem, ints, bools, mat] | ((first | apply goIf_b | apply goG_b | apply goTG_b | apply goOG_b) <;> intro h <;> ((try simp only [hnq] at h); (try simp only [h]); (try simp only [hnr] at h)) <;> (try (exfalso; omega))))
      have yc := d5; first | refine goC_call [.bm, .r] yc ?_ | refine goOC_call [.bm, .r] yc ?_
      repeat' (first | simp -implicitDefEqProofs (maxSteps := 1000000) (disch := (first | omega | (simp only [go_sem] <;> omega) | fail)) only [go_sem, ints, bools, mat] | ((first | apply goIf_b | apply goG_b | apply goTG_b | apply goOG_b) <;> intro h <;> ((try simp only [hnq] at h); (try simp only [h]); (try simp only [hnr] at h)) <;> (try (exfalso; omega))))
      have yc := d6; first | refine goC_call [.bm, .r] yc ?_ | refine goOC_call [.bm, .r] yc ?_
      repeat' (first | simp -implicitDefEqProofs (maxSteps := 1000000) (disch := (first | omega | (simp only [go_sem] <;> omega) | fail)) only [go_sem, ints, bools, mat] | ((first | apply goIf_b | apply goG_b | apply goTG_b | apply goOG_b) <;> intro h <;> ((try simp only [hnq] at h); (try simp only [h]); (try simp only [hnr] at h)) <;> (try (exfalso; omega))))
      have yc := dN; first | refine goC_call [.r] yc ?_ | refine goOC_call [.r] yc ?_
      repeat' (first | simp -implicitDefEqProofs (maxSteps := 1000000) (disch := (first | omega | (simp only [go_sem] <;> omega) | fail)) only [go_sem, ints, bools, mat] | ((first | apply goIf_b | apply goG_b | apply goTG_b | apply goOG_b) <;> intro h <;> ((try simp only [hnq] at h); (try simp only [h]); (try simp only [hnr] at h)) <;> (try (exfalso; omega))))
      have yc := d7; first | refine goC_call [.bm, .r] yc ?_ | refine goOC_call [.bm, .r] yc ?_
      repeat' (first | simp -implicitDefEqProofs (maxSteps := 1000000) (disch := (first | omega | (simp only [go_sem] <;> omega) | fail)) only [go_sem, ints, bools, mat] | ((first | apply goIf_b | apply goG_b | apply goTG_b | apply goOG_b) <;> intro h <;> ((try simp only [hnq] at h); (try simp only [h]); (try simp only [hnr] at h)) <;> (try (exfalso; omega))))
      have yc := d8; first | refine goC_call [.bm, .r] yc ?_ | refine goOC_call [.bm, .r] yc ?_
      repeat' (first | simp -implicitDefEqProofs (maxSteps := 1000000) (disch := (first | omega | (simp only [go_sem] <;> omega) | fail)) only [go_sem, ints, bools, mat] | ((first | apply goIf_b | apply goG_b | apply goTG_b | apply goOG_b) <;> intro h <;> ((try simp only [hnq] at h); (try simp only [h]); (try simp only [hnr] at h)) <;> (try (exfalso; omega))))
      have yc := d9; first | refine goC_call [.bm, .r, .r] yc ?_ | refine goOC_call [.bm, .r, .r] yc ?_
      exact go_e0
    · by_cases hk1 : k = 1
      · subst hk1
        obtain ⟨y, cy, r, s7, hs7, hy, hcy, hcyl, r0, r8, d7⟩ := ex_perfect H hs6
        have e7 := d7.le (.tup (.cons .refl (.cons .frz (.cons .refl .nil))))
        obtain ⟨X, o, s8, hs8, hX, d8⟩ := ex_bad H hs7 hy
        obtain ⟨c, s9, hs9, hcl, hci, d9⟩ := ex_badCode H hs8 hy (c := cy) (by omega) (inC_in64 hy hcy)
        refine ⟨X, o, c, 0, i, hX, hcl, by unfold in64; omega, hi, den_go [] l_spec_DrawBundleOf ?_⟩
        repeat' (first | simp -implicitDefEqProofs (maxSteps := 1000000) (disch := (first | omega | (simp only [go_sem] <;> omega) | fail)) only [go_sem, ints, bools, mat, c_spec_DrawBundleOf, srcR] | ((first | apply goIf_b | apply goG_b | apply goTG_b | apply goOG_b) <;> intro h <;> ((try simp only [hnq] at h); (try simp only [h]); (try simp only [hnr] at h)) <;> (try (exfalso; omega))))
        have yc := d0; first | refine goC_call [.r] yc ?_ | refine goOC_call [.r] yc ?_
        repeat' (first | simp -implicitDefEqProofs (maxSteps := 1000000) (disch := (first | omega | (simp only [go_sem] <;> omega) | fail)) only [go_sem, ints, bools, mat] | ((first | apply goIf_b | apply goG_b | apply goTG_b | apply goOG_b) <;> intro h <;> ((try simp only [hnq] at h); (try simp only [h]); (try simp only [hnr] at h)) <;> (try (exfalso; omega))))
        have yc := d1; first | refine goC_call [.bm, .f] yc ?_ | refine goOC_call [.bm, .f] yc ?_
        repeat' (first | simp -implicitDefEqProofs (maxSteps := 1000000) (disch := (first | omega | (simp only [go_sem] <;> omega) | fail)) only [go_sem, ints, bools, mat] | ((first | apply goIf_b | apply goG_b | apply goTG_b | apply goOG_b) <;> intro h <;> ((try simp only [hnq] at h); (try simp only [h]); (try simp only [hnr] at h)) <;> (try (exfalso; omega))))
        have yc := dH; first | refine goC_call [.r, .r] yc ?_ | refine goOC_call [.r, .r] yc ?_
        repeat' (first | simp -implicitDefEqProofs (maxSteps := 1000000) (disch := (first | omega | (simp only [go_sem] <;> omega) | fail)) only [go_sem, ints, bools, mat] | ((first | apply goIf_b | apply goG_b | apply goTG_b | apply goOG_b) <;> intro h <;> ((try simp only [hnq] at h); (try simp only [h]); (try simp only [hnr] at h)) <;> (try (exfalso; omega))))
        have yc := d2; first | refine goC_call [.bm, .r] yc ?_ | refine goOC_call [.bm, .r] yc ?_
        repeat' (first | simp -implicitDefEqProofs (maxSteps := 1000000) (disch := (first | omega | (simp only [go_sem] <;> omega) | fail)) only [go_sem, ints, bools, mat] | ((first | apply goIf_b | apply goG_b | apply goTG_b | apply goOG_b) <;> intro h <;> ((try simp only [hnq] at h); (try simp only [h]); (try simp only [hnr] at h)) <;> (try (exfalso; omega))))
        have yc := d4; first | refine goC_call [.bm, .r] yc ?_ | refine goOC_call [.bm, .r] yc ?_
        repeat' (first | simp -implicitDefEqProofs (maxSteps := 1000000) (disch := (first | omega | (simp only [go_sem] <;> omega) | fail)) only [go_sem, ints, bools, mat] | ((first | apply goIf_b | apply goG_b | apply goTG_b | apply goOG_b) <;> intro h <;> ((try simp only [hnq] at h); (try simp only [h]); (try simp only [hnr] at h)) <;> (try (exfalso; omega))))
        have yc := d5; first | refine goC_call [.bm, .r] yc ?_ | refine goOC_call [.bm, .r] yc ?_
        repeat' (first | simp -implicitDefEqProofs (maxSteps := 1000000) (disch := (first | omega | (simp only [go_sem] <;> omega) | fail)) only [go_sem, ints, bools, mat] | ((first | apply goIf_b | apply goG_b | apply goTG_b | apply goOG_b) <;> intro h <;> ((try simp only [hnq] at h); (try simp only [h]); (try simp only [hnr] at h)) <;> (try (exfalso; omega))))
        have yc := d6; first | refine goC_call [.bm, .r] yc ?_ | refine goOC_call [.bm, .r] yc ?_
        repeat' (first | simp -implicitDefEqProofs (maxSteps := 1000000) (disch := (first | omega | (simp only [go_sem] <;> omega) | fail)) only [go_sem, ints, bools, mat] | ((first | apply goIf_b | apply goG_b | apply goTG_b | apply goOG_b) <;> intro h <;> ((try simp only [hnq] at h); (try simp only [h]); (try simp only [hnr] at h)) <;> (try (exfalso; omega))))
        have yc := e7; first | refine goC_call [.bm] yc ?_ | refine goOC_call [.bm] yc ?_
        repeat' (first | simp -implicitDefEqProofs (maxSteps := 1000000) (disch := (first | omega | (simp only [go_sem] <;> omega) | fail)) only [go_sem, ints, bools, mat] | ((first | apply goIf_b | apply goG_b | apply goTG_b | apply goOG_b) <;> intro h <;> ((try simp only [hnq] at h); (try simp only [h]); (try simp only [hnr] at h)) <;> (try (exfalso; omega))))
        have yc := d8; first | refine goC_call [.bm, .r] yc ?_ | refine goOC_call [.bm, .r] yc ?_
        repeat' (first | simp -implicitDefEqProofs (maxSteps := 1000000) (disch := (first | omega | (simp only [go_sem] <;> omega) | fail)) only [go_sem, ints, bools, mat] | ((first | apply goIf_b | apply goG_b | apply goTG_b | apply goOG_b) <;> intro h <;> ((try simp only [hnq] at h); (try simp only [h]); (try simp only [hnr] at h)) <;> (try (exfalso; omega))))
        have yc := d9; first | refine goC_call [.bm, .r, .r] yc ?_ | refine goOC_call [.bm, .r, .r] yc ?_
        exact go_e0
      · obtain ⟨X, o, s8, hs8, hX, d8⟩ := ex_bad H hs6 hx
        obtain ⟨c, s9, hs9, hcl, hci, d9⟩ := ex_badCode H hs8 hx (c := c0) (by omega) (inC_in64 hx ht.1)
        refine ⟨X, o, c, c0.getD a 0, i, hX, hcl, hwi, hi, den_go [] l_spec_DrawBundleOf ?_⟩
        repeat' (first | simp -implicitDefEqProofs (maxSteps := 1000000) (disch := (first | omega | (simp only [go_sem] <;> omega) | fail)) only [go_sem, ints, bools, mat, c_spec_DrawBundleOf, srcR] | ((first | apply goIf_b | apply goG_b | apply goTG_b | apply goOG_b) <;> intro h <;> ((try simp only [hnq] at h); (try simp only [h]); (try simp only [hnr] at h)) <;> (try (exfalso; omega))))
        have yc := d0; first | refine goC_call [.r] yc ?_ | refine goOC_call [.r] yc ?_
        repeat' (first | simp -implicitDefEqProofs (maxSteps := 1000000) (disch := (first | omega | (simp only [go_sem] <;> omega) | fail)) only [go_sem, ints, bools, mat] | ((first | apply goIf_b | apply goG_b | apply goTG_b | apply goOG_b) <;> intro h <;> ((try simp only [hnq] at h); (try simp only [h]); (try simp only [hnr] at h)) <;> (try (exfalso; omega))))
        have yc := d1; first | refine goC_call [.bm, .f] yc ?_ | refine goOC_call [.bm, .f] yc ?_
        repeat' (first | simp -implicitDefEqProofs (maxSteps := 1000000) (disch := (first | omega | (simp only [go_sem] <;> omega) | fail)) only [go_sem, ints, bools, mat] | ((first | apply goIf_b | apply goG_b | apply goTG_b | apply goOG_b) <;> intro h <;> ((try simp only [hnq] at h); (try simp only [h]); (try simp only [hnr] at h)) <;> (try (exfalso; omega))))
        have yc := dH; first | refine goC_call [.r, .r] yc ?_ | refine goOC_call [.r, .r] yc ?_
        repeat' (first | simp -implicitDefEqProofs (maxSteps := 1000000) (disch := (first | omega | (simp only [go_sem] <;> omega) | fail)) only [go_sem, ints, bools, mat] | ((first | apply goIf_b | apply goG_b | apply goTG_b | apply goOG_b) <;> intro h <;> ((try simp only [hnq] at h); (try simp only [h]); (try simp only [hnr] at h)) <;> (try (exfalso; omega))))
        have yc := d2; first | refine goC_call [.bm, .r] yc ?_ | refine goOC_call [.bm, .r] yc ?_
        repeat' (first | simp -implicitDefEqProofs (maxSteps := 1000000) (disch := (first | omega | (simp only [go_sem] <;> omega) | fail)) only [go_sem, ints, bools, mat] | ((first | apply goIf_b | apply goG_b | apply goTG_b | apply goOG_b) <;> intro h <;> ((try simp only [hnq] at h); (try simp only [h]); (try simp only [hnr] at h)) <;> (try (exfalso; omega))))
        have yc := d4; first | refine goC_call [.bm, .r] yc ?_ | refine goOC_call [.bm, .r] yc ?_
        repeat' (first | simp -implicitDefEqProofs (maxSteps := 1000000) (disch := (first | omega | (simp only [go_sem] <;> omega) | fail)) only [go_sem, ints, bools, mat] | ((first | apply goIf_b | apply goG_b | apply goTG_b | apply goOG_b) <;> intro h <;> ((try simp only [hnq] at h); (try simp only [h]); (try simp only [hnr] at h)) <;> (try (exfalso; omega))))
        have yc := d5; first | refine goC_call [.bm, .r] yc ?_ | refine goOC_call [.bm, .r] yc ?_
        repeat' (first | simp -implicitDefEqProofs (maxSteps := 1000000) (disch := (first | omega | (simp only [go_sem] <;> omega) | fail)) only [go_sem, ints, bools, mat] | ((first | apply goIf_b | apply goG_b | apply goTG_b | apply goOG_b) <;> intro h <;> ((try simp only [hnq] at h); (try simp only [h]); (try simp only [hnr] at h)) <;> (try (exfalso; omega))))
        have yc := d6; first | refine goC_call [.bm, .r] yc ?_ | refine goOC_call [.bm, .r] yc ?_
        repeat' (first | simp -implicitDefEqProofs (maxSteps := 1000000) (disch := (first | omega | (simp only [go_sem] <;> omega) | fail)) only [go_sem, ints, bools, mat] | ((first | apply goIf_b | apply goG_b | apply goTG_b | apply goOG_b) <;> intro h <;> ((try simp only [hnq] at h); (try simp only [h]); (try simp only [hnr] at h)) <;> (try (exfalso; omega))))
        have yc := d8; first | refine goC_call [.bm, .r] yc ?_ | refine goOC_call [.bm, .r] yc ?_
        repeat' (first | simp -implicitDefEqProofs (maxSteps := 1000000) (disch := (first | omega | (simp only [go_sem] <;> omega) | fail)) only [go_sem, ints, bools, mat] | ((first | apply goIf_b | apply goG_b | apply goTG_b | apply goOG_b) <;> intro h <;> ((try simp only [hnq] at h); (try simp only [h]); (try simp only [hnr] at h)) <;> (try (exfalso; omega))))
        have yc := d9; first | refine goC_call [.bm, .r, .r] yc ?_ | refine goOC_call [.bm, .r, .r] yc ?_
        exact go_e0
theorem ex_switch {cd : D} {l : List Int} (H : SrcH cd l) : ∃ (X : D) (o c : List Int) (w i : Int), drL X o ∧ c.length < 1048577 ∧ in64 w ∧ in64 i ∧ Den PA f_spec_DrawSwitchBundle [.d cd] [.any] (.tup [.d (.agg [X]), .own 1 (c.map di), .d (di w), .d (di i)]) := by
  obtain ⟨X, o, c, w, i, hX, hc, hw, hi, d0⟩ := ex_bundle H
  refine ⟨X, o, c, w, i, hX, hc, hw, hi, den_go [] l_spec_DrawSwitchBundle ?_⟩
  have y1 := kc [.r] d0; exact go_e0
structure FsF (X : D) (c T : List Int) (n : Int) : Prop where
  tl : T.length < 1048577
  f1 : Den PA f_impl_FirstShifts [.d (.agg [X]), .d (ints c)] [.any, .any] (.tup [.own 1 (T.map di), .d (di 0)])
  f2 : Den PA f_spec_FirstShifts [.d (.agg [X]), .d (ints c)] [.any, .any] (.tup [.own 1 (T.map di), .d (di 0)])
  dp : Den PA f_impl_DoPart [.d (.agg [X]), .d (ints c), .d (ints T)] [.any, .any, .any] (.tup [.d (db true), .d (di 0)])
  cw : Den PA f_impl_CountWords [.d (.agg [X])] [.any] (.tup [.d (di n), .d (di 0)])
  en : (T.length : Int) * (c.length : Int) = n
  nb : n ≤ 1024
structure FsN (X : D) (c : List Int) (e : Int) : Prop where
  f1 : Den PA f_impl_FirstShifts [.d (.agg [X]), .d (ints c)] [.any, .any] (.tup [.d nil, .d (di e)])
  f2 : Den PA f_spec_FirstShifts [.d (.agg [X]), .d (ints c)] [.any, .any] (.tup [.d nil, .d (di e)])
theorem fs_facts {X : D} {o c : List Int} (hX : drL X o) (hc : c.length < 1048577) : (∃ T n, FsF X c T n) ∨ ∃ e, e ≠ 0 ∧ FsN X c e := by
  obtain ⟨hX1, hX2, hX3⟩ := hX
  rcases hX1 with rfl | ⟨rfl, rfl⟩
  · have h1 := d_impl_FirstShifts o c hX2 hc
    have h2 := d_spec_FirstShifts o c hX2 hc
    by_cases h : fsE o c = 0
    · obtain ⟨k1, k2, k3, hs, k4⟩ := sh_facts h
      have h3 := d_impl_DoPart o c (fsV o c) hX2 hc (by omega)
      have h4 := d_impl_CountWords o hs
      have hpr := isSpaceM_prod hs
      rw [lstR_ok h] at h1 h2
      rw [doR, k1, k2] at h3
      exact .inl ⟨_, _, ⟨by omega, h1, h2, h3, h4, by rw [← Int.natCast_mul]; exact k3, hpr⟩⟩
    · rw [lstR_no h] at h1 h2
      exact .inr ⟨_, h, ⟨h1, h2⟩⟩
  · exact .inr ⟨1, by decide, ⟨d_nil_impl_FirstShifts c, d_nil_spec_FirstShifts c⟩⟩
theorem dp_facts {X : D} {o c t : List Int} (hX : drL X o) (hc : c.length < 1048577) (ht : t.length < 1048577) : ∃ (p : Bool) (e : Int), Den PA f_impl_DoPart [.d (.agg [X]), .d (ints c), .d (ints t)] [.any, .any, .any] (.tup [.d (db p), .d (di e)]) ∧ Den PA f_spec_DoPart [.d (.agg [X]), .d (ints c), .d (ints t)] [.any, .any, .any] (.tup [.d (db p), .d (di e)]) := by
  obtain ⟨hX1, hX2, hX3⟩ := hX
  rcases hX1 with rfl | ⟨rfl, rfl⟩
  · exact ⟨_, _, d_impl_DoPart o c t hX2 hc ht, d_spec_DoPart o c t hX2 hc ht⟩
  · exact ⟨false, 1, d_nil_impl_DoPart c t, d_nil_spec_DoPart c t⟩
structure PfF (X : D) (r : Int) (F : List Int) (n : Int) : Prop where
  fl : F.length < 1048577
  f1 : Den PA f_impl_FirstPerfect [.d (.agg [X]), .d (di r)] [.any, .any] (.tup [.own 1 (F.map di), .d (di 0)])
  f2 : Den PA f_spec_FirstPerfect [.d (.agg [X]), .d (di r)] [.any, .any] (.tup [.d (ints F), .d (di 0)])
  c1 : Den PA f_impl_CountPerfect [.d (.agg [X]), .d (di r)] [.any, .any] (.tup [.d (di n), .d (di 0)])
  c2 : Den PA f_spec_CountPerfect [.d (.agg [X]), .d (di r)] [.any, .any] (.tup [.d (di n), .d (di 0)])
  ip : Den PA f_impl_IsPerfect [.d (.agg [X]), .d (ints F), .d (di r)] [.any, .any, .any] (.tup [.d (db true), .d (di 0)])
  np : 0 < n
structure PfN (X : D) (r e e4 : Int) : Prop where
  f1 : Den PA f_impl_FirstPerfect [.d (.agg [X]), .d (di r)] [.any, .any] (.tup [.d nil, .d (di e)])
  f2 : Den PA f_spec_FirstPerfect [.d (.agg [X]), .d (di r)] [.any, .any] (.tup [.d nil, .d (di e)])
  c1 : Den PA f_impl_CountPerfect [.d (.agg [X]), .d (di r)] [.any, .any] (.tup [.d (di 0), .d (di e4)])
  c2 : Den PA f_spec_CountPerfect [.d (.agg [X]), .d (di r)] [.any, .any] (.tup [.d (di 0), .d (di e4)])
theorem pf_facts {X : D} {o : List Int} (r : Int) (hX : drL X o) : (∃ F n, PfF X r F n) ∨ ∃ e e4, e ≠ 0 ∧ PfN X r e e4 := by
  obtain ⟨hX1, hX2, hX3⟩ := hX
  rcases hX1 with rfl | ⟨rfl, rfl⟩
  · have h1 := d_impl_FirstPerfect o r hX2
    have h2 := d_spec_FirstPerfect o r hX2
    have h3 := d_impl_CountPerfect o r hX2
    have h4 := d_spec_CountPerfect o r hX2
    by_cases h : fpE o r = 0
    · obtain ⟨k1, k2⟩ := fp_facts h
      obtain ⟨q1, q2⟩ := fpE_ok h
      have hl := fpM_len h
      have h5 := d_impl_IsPerfect o (fpM o r) r hX2 hl
      rw [lstR_ok h] at h1
      rw [lstF, if_pos h] at h2
      rw [perfR, k1, k2] at h5
      rw [cpR, if_pos q1, q1] at h3 h4
      exact .inl ⟨_, _, ⟨hl, h1, h2, h3, h4, h5, by have := List.length_pos_iff.2 q2; omega⟩⟩
    · rw [lstR_no h] at h1
      rw [lstF, if_neg h] at h2
      by_cases hp : pfE o r = 0
      · have hn : allP o r = [] := by
          by_cases ha : allP o r = []
          · exact ha
          · exact absurd (by rw [fpE, if_pos hp, if_neg ha]) h
        rw [cpR, if_pos hp, hn] at h3 h4
        exact .inr ⟨_, _, h, ⟨h1, h2, h3, h4⟩⟩
      · rw [cpR, if_neg hp] at h3 h4
        exact .inr ⟨_, _, h, ⟨h1, h2, h3, h4⟩⟩
  · exact .inr ⟨1, 1, by decide, ⟨d_nil_impl_FirstPerfect r, d_nil_spec_FirstPerfect r, d_nil_impl_CountPerfect r, d_nil_spec_CountPerfect r⟩⟩
structure BuF (X : D) (c : List Int) (w i : Int) (B O : List Int) : Prop where
  bl : B.length < 1048577
  ol : O.length < 1048577
  b1 : Den PA f_impl_BundleOf [.d (.agg [X]), .d (ints c), .d (di w), .d (di i)] [.any, .any, .any, .any] (.tup [.own 1 (B.map di), .d (di 0)])
  b2 : Den PA f_spec_BundleOf [.d (.agg [X]), .d (ints c), .d (di w), .d (di i)] [.any, .any, .any, .any] (.tup [.own 1 (B.map di), .d (di 0)])
  s1 : Den PA f_impl_SwitchBundle [.d (.agg [X]), .d (ints c), .d (di w), .d (di i)] [.any, .any, .any, .any] (.tup [.own 1 (O.map di), .d (di 0)])
  s2 : Den PA f_spec_SwitchBundle [.d (.agg [X]), .d (ints c), .d (di w), .d (di i)] [.any, .any, .any, .any] (.tup [.own 1 (O.map di), .d (di 0)])
  ip : Den PA f_impl_IsPerfect [.d (.agg [X]), .d (ints O), .d (di 1)] [.any, .any, .any] (.tup [.d (db true), .d (di 0)])
  mw : w ∈ B
  le : O.length = c.length
structure BuN (X : D) (c : List Int) (w i e : Int) : Prop where
  b1 : Den PA f_impl_BundleOf [.d (.agg [X]), .d (ints c), .d (di w), .d (di i)] [.any, .any, .any, .any] (.tup [.d nil, .d (di e)])
  b2 : Den PA f_spec_BundleOf [.d (.agg [X]), .d (ints c), .d (di w), .d (di i)] [.any, .any, .any, .any] (.tup [.d nil, .d (di e)])
  s1 : Den PA f_impl_SwitchBundle [.d (.agg [X]), .d (ints c), .d (di w), .d (di i)] [.any, .any, .any, .any] (.tup [.d nil, .d (di e)])
  s2 : Den PA f_spec_SwitchBundle [.d (.agg [X]), .d (ints c), .d (di w), .d (di i)] [.any, .any, .any, .any] (.tup [.d nil, .d (di e)])
theorem bu_facts {X : D} {o c : List Int} (w i : Int) (hX : drL X o) (hc : c.length < 1048577) : (∃ B O, BuF X c w i B O) ∨ ∃ e, e ≠ 0 ∧ BuN X c w i e := by
  obtain ⟨hX1, hX2, hX3⟩ := hX
  rcases hX1 with rfl | ⟨rfl, rfl⟩
  · have h1 := d_impl_BundleOf o c w i hX2 hc
    have h2 := d_spec_BundleOf o c w i hX2 hc
    have h3 := d_impl_SwitchBundle o c w i hX2 hc
    have h4 := d_spec_SwitchBundle o c w i hX2 hc
    by_cases h : buM o c w i = 0
    · obtain ⟨k1, k2, k3, k4⟩ := sw_facts h
      have hbl := bn_len h
      have h5 := d_impl_IsPerfect o (swM o c w i) 1 hX2 (by omega)
      rw [lstR_ok h] at h1 h2 h3 h4
      rw [perfR, k1, k2] at h5
      exact .inl ⟨_, _, ⟨by omega, by omega, h1, h2, h3, h4, h5, k4, k3⟩⟩
    · rw [lstR_no h] at h1 h2 h3 h4
      exact .inr ⟨_, h, ⟨h1, h2, h3, h4⟩⟩
  · exact .inr ⟨1, by decide, ⟨d_nil_impl_BundleOf c w i, d_nil_spec_BundleOf c w i, d_nil_impl_SwitchBundle c w i, d_nil_spec_SwitchBundle c w i⟩⟩
def gcL (cv : List Bool) (S : List Int) : List Bool := S.foldl (fun c u => c.set u.toNat true) cv
@[go_sem] theorem gcL_len (cv : List Bool) : ∀ S : List Int, (gcL cv S).length = cv.length := fun S => by
  induction S generalizing cv with
  | nil => rfl
  | cons u S ih => rw [gcL, List.foldl_cons]; exact (ih (cv.set u.toNat true)).trans (by rw [List.length_set])
theorem getB_set {cv : List Bool} {i j : Nat} (hi : i < cv.length) (v : Bool) : (cv.set j v).getD i false = if j = i then v else cv.getD i false := by
  rw [List.getD_eq_getElem?_getD, List.getElem?_set]
  split
  · rename_i e; subst e; rw [if_pos hi]; rfl
  · rw [List.getD_eq_getElem?_getD]
theorem gcL_get {i : Nat} : ∀ {S : List Int} {cv : List Bool}, (∀ u, u ∈ S → 0 ≤ u) → i < cv.length → ((gcL cv S).getD i false = true ↔ cv.getD i false = true ∨ (i : Int) ∈ S)
  | [], cv, _, _ => by simp [gcL]
  | u :: S, cv, h, hi => by
    have hu := h u List.mem_cons_self
    have ih := gcL_get (i := i) (S := S) (cv := cv.set u.toNat true) (fun v hv => h v (List.mem_cons_of_mem _ hv)) (by rw [List.length_set]; exact hi)
    rw [show gcL cv (u :: S) = gcL (cv.set u.toNat true) S from rfl, ih, getB_set hi, List.mem_cons]
    by_cases e : u.toNat = i
    · rw [if_pos e]
      have : (i : Int) = u := by omega
      simp [this]
    · rw [if_neg e]
      have : ¬ (i : Int) = u := by omega
      simp [this]
def gnC (l : List Int) (r : Int) (cv : List Bool) (w : Int) : Int := (((allW l).filter fun u => !(cv.getD u.toNat false) && decide (distM l w u ≤ r)).length : Int)
def mxG (l : List Int) (A B : Int → Int) (p : Int → Bool) : List Int := (allW l).map fun w => if p w = true then A w else B w
@[go_sem] theorem mxG_len (l : List Int) (A B : Int → Int) (p : Int → Bool) : (mxG l A B p).length = (prodM l).toNat := by rw [mxG, List.length_map, allW_len]
abbrev gnL (l : List Int) (r : Int) (cv : List Bool) : List Int := mxG l (gnC l r cv) (gnC l r cv) (fun _ => true)
theorem mxG_get {l : List Int} (A B : Int → Int) (p : Int → Bool) {j : Nat} (hj : j < (prodM l).toNat) : (mxG l A B p).getD j 0 = if p j = true then A j else B j := by
  have h : j < (allW l).length := by rw [allW_len]; exact hj
  have e := allW_get l hj
  rw [List.getD_eq_getElem?_getD, List.getElem?_eq_getElem h, Option.getD_some] at e
  rw [mxG, List.getD_eq_getElem?_getD, List.getElem?_map, List.getElem?_eq_getElem h, Option.map_some, Option.getD_some, e]
def bsx (G : List Int) : Nat → Nat
  | 0 => 0
  | j + 1 => if G.getD (bsx G j) 0 < G.getD j 0 then j else bsx G j
theorem bsx_lt (G : List Int) : ∀ j, bsx G j < j ∨ bsx G j = 0
  | 0 => .inr rfl
  | j + 1 => by
    have := bsx_lt G j
    rw [bsx]; split
    · exact .inl (by omega)
    · omega
theorem bsx_max (G : List Int) : ∀ j i, i < j → G.getD i 0 ≤ G.getD (bsx G j) 0
  | 0, i, h => by omega
  | j + 1, i, h => by
    rw [bsx]
    by_cases e : i = j
    · subst e; split <;> omega
    · have := bsx_max G j i (by omega)
      split <;> omega
abbrev bst (l : List Int) (r : Int) (cv : List Bool) : Nat := bsx (gnL l r cv) (prodM l).toNat
structure GrJ (l : List Int) (r : Int) (cv : List Bool) (K : List Int) : Prop where
  len : cv.length = (prodM l).toNat
  inc : inC l K
  nod : K.Nodup
  cov : ∀ i : Nat, i < (prodM l).toNat → (cv.getD i false = true ↔ ∃ k, k ∈ K ∧ distM l k i ≤ r)
theorem bst_lt {l : List Int} (hs : isSpaceM l = true) (r : Int) (cv : List Bool) : bst l r cv < (prodM l).toNat := by
  have h1 := bsx_lt (gnL l r cv) (prodM l).toNat
  have h2 := prodM_pos (isSpaceM_szs hs)
  show bsx (gnL l r cv) (prodM l).toNat < _
  omega
theorem bst_get {l : List Int} (hs : isSpaceM l = true) (r : Int) (cv : List Bool) : (gnL l r cv).getD (bst l r cv) 0 = gnC l r cv (bst l r cv) := by
  rw [mxG_get _ _ _ (bst_lt hs r cv), if_pos rfl]
theorem GrJ.next {l : List Int} {r : Int} {cv : List Bool} {K : List Int} (hs : isSpaceM l = true) (h : GrJ l r cv K) (hg : (gnL l r cv).getD (bst l r cv) 0 ≠ 0) : GrJ l r (gcL cv (ballM l (bst l r cv) r)) (K ++ [(bst l r cv : Int)]) := by
  have hb := bst_lt hs r cv
  have hp1 := prodM_pos (isSpaceM_szs hs)
  rw [bst_get hs] at hg
  generalize bst l r cv = b at *
  have hcv : ∀ i : Nat, i < (prodM l).toNat → ((gcL cv (ballM l b r)).getD i false = true ↔ cv.getD i false = true ∨ distM l (b : Int) i ≤ r) := fun i hi => by
    rw [gcL_get (fun u hu => ((ballM_mem l _ r u).1 hu).1.1) (by rw [h.len]; exact hi), ballM_mem, distM_comm l (i : Int)]
    constructor
    · rintro (h | h)
      · exact .inl h
      · exact .inr h.2
    · rintro (h | h)
      · exact .inl h
      · exact .inr ⟨by omega, h⟩
  have hnb : (b : Int) ∉ K := fun hK => by
    apply hg
    unfold gnC
    rw [List.filter_eq_nil_iff.2]
    · rfl
    · intro u hu hx
      obtain ⟨h0, h1⟩ := (allW_mem l u).1 hu
      simp only [Bool.and_eq_true, Bool.not_eq_true', decide_eq_true_eq] at hx
      have := (h.cov u.toNat (by omega)).2 ⟨b, hK, by rw [show ((u.toNat : Nat) : Int) = u by omega]; exact hx.2⟩
      rw [hx.1] at this; cases this
  refine ⟨by rw [gcL_len, h.len], inC_app h.inc fun u hu => by simp only [List.mem_singleton] at hu; omega, ?_, fun i hi => ?_⟩
  · rw [List.nodup_append]
    refine ⟨h.nod, by simp, fun x hx y hy e => ?_⟩
    simp only [List.mem_singleton] at hy
    subst hy; subst e; exact hnb hx
  · rw [hcv i hi, h.cov i hi]
    constructor
    · rintro (⟨k, hk, hd⟩ | hd)
      · exact ⟨k, List.mem_append_left _ hk, hd⟩
      · exact ⟨b, List.mem_append_right _ (by simp), hd⟩
    · rintro ⟨k, hk, hd⟩
      rcases List.mem_append.1 hk with hk | hk
      · exact .inl ⟨k, hk, hd⟩
      · simp only [List.mem_singleton] at hk; subst hk; exact .inr hd
theorem GrJ.all {l : List Int} {r : Int} {cv : List Bool} {K : List Int} (hs : isSpaceM l = true) (hr : 0 ≤ r) (h : GrJ l r cv K) (hg : (gnL l r cv).getD (bst l r cv) 0 = 0) : ∀ i : Nat, i < (prodM l).toNat → ∃ k, k ∈ K ∧ distM l k i ≤ r := fun i hi => by
  refine (h.cov i hi).1 ?_
  have h1 := bsx_max (gnL l r cv) (prodM l).toNat i hi
  rw [show bsx (gnL l r cv) (prodM l).toNat = bst l r cv from rfl, hg, mxG_get _ _ _ hi, if_pos rfl] at h1
  cases hc : cv.getD i false with
  | true => rfl
  | false =>
    exfalso
    have hm : (i : Int) ∈ (allW l).filter fun u => !(cv.getD u.toNat false) && decide (distM l i u ≤ r) := by
      refine List.mem_filter.2 ⟨(allW_mem l _).2 (by omega), ?_⟩
      rw [Int.toNat_natCast, hc, distM_self]
      simp [hr]
    have := List.length_pos_of_mem hm
    unfold gnC at h1
    omega
def gcB (l : List Int) (r : Int) (cv : List Bool) (b j : Nat) : List Bool := gcL cv (((allW l).take j).filter fun u => decide (distM l u b ≤ r))
@[go_sem] theorem gcB_len (l : List Int) (r : Int) (cv : List Bool) (b j : Nat) : (gcB l r cv b j).length = cv.length := gcL_len _ _
def nB (cv : List Bool) : List Bool := cv.map Bool.not
@[go_sem] theorem nB_len (cv : List Bool) : (nB cv).length = cv.length := by simp [nB]
def gcK (l : List Int) (r : Int) (cv : List Bool) (b k : Nat) : List Bool := gcL cv ((ballM l b r).take k)
@[go_sem] theorem gcK_len (l : List Int) (r : Int) (cv : List Bool) (b k : Nat) : (gcK l r cv b k).length = cv.length := gcL_len _ _
theorem sh_end {P : Prop} (h : P := by (repeat' (first | simp -implicitDefEqProofs (maxSteps := 1000000) (disch := (first | omega | (simp only [go_sem] <;> omega) | fail)) only [go_sem, ints, bools, mat] | ((first | apply goIf_b | apply goG_b | apply goTG_b | apply goOG_b) <;> intro h <;> ((try simp only [hnq] at h); (try simp only [h]); (try simp only [hnr] at h)) <;> (try (exfalso; omega))) | ((first | refine goC_k y1 ?_ | refine goOC_k y1 ?_); simp -implicitDefEqProofs (maxSteps := 1000000) (disch := (first | omega | (simp only [go_sem] <;> omega) | fail)) only [go_sem, ints, bools, mat]; fail_if_success (with_reducible show chk _ _)) | ((first | refine goC_k y2 ?_ | refine goOC_k y2 ?_); simp -implicitDefEqProofs (maxSteps := 1000000) (disch := (first | omega | (simp only [go_sem] <;> omega) | fail)) only [go_sem, ints, bools, mat]; fail_if_success (with_reducible show chk _ _)) | ((first | refine goC_k y3 ?_ | refine goOC_k y3 ?_); simp -implicitDefEqProofs (maxSteps := 1000000) (disch := (first | omega | (simp only [go_sem] <;> omega) | fail)) only [go_sem, ints, bools, mat]; fail_if_success (with_reducible show chk _ _)) | ((first | refine goC_k y4 ?_ | refine goOC_k y4 ?_); simp -implicitDefEqProofs (maxSteps := 1000000) (disch := (first | omega | (simp only [go_sem] <;> omega) | fail)) only [go_sem, ints, bools, mat]; fail_if_success (with_reducible show chk _ _)) | ((first | refine goC_k y5 ?_ | refine goOC_k y5 ?_); simp -implicitDefEqProofs (maxSteps := 1000000) (disch := (first | omega | (simp only [go_sem] <;> omega) | fail)) only [go_sem, ints, bools, mat]; fail_if_success (with_reducible show chk _ _)) | ((first | refine goC_k y6 ?_ | refine goOC_k y6 ?_); simp -implicitDefEqProofs (maxSteps := 1000000) (disch := (first | omega | (simp only [go_sem] <;> omega) | fail)) only [go_sem, ints, bools, mat]; fail_if_success (with_reducible show chk _ _)) | ((first | refine goC_k y7 ?_ | refine goOC_k y7 ?_); simp -implicitDefEqProofs (maxSteps := 1000000) (disch := (first | omega | (simp only [go_sem] <;> omega) | fail)) only [go_sem, ints, bools, mat]; fail_if_success (with_reducible show chk _ _)) | ((first | refine goC_k y8 ?_ | refine goOC_k y8 ?_); simp -implicitDefEqProofs (maxSteps := 1000000) (disch := (first | omega | (simp only [go_sem] <;> omega) | fail)) only [go_sem, ints, bools, mat]; fail_if_success (with_reducible show chk _ _)) | ((first | refine goC_k y9 ?_ | refine goOC_k y9 ?_); simp -implicitDefEqProofs (maxSteps := 1000000) (disch := (first | omega | (simp only [go_sem] <;> omega) | fail)) only [go_sem, ints, bools, mat]; fail_if_success (with_reducible show chk _ _)) | ((first | refine goC_k y10 ?_ | refine goOC_k y10 ?_); simp -implicitDefEqProofs (maxSteps := 1000000) (disch := (first | omega | (simp only [go_sem] <;> omega) | fail)) only [go_sem, ints, bools, mat]; fail_if_success (with_reducible show chk _ _)) | ((first | refine goC_k y11 ?_ | refine goOC_k y11 ?_); simp -implicitDefEqProofs (maxSteps := 1000000) (disch := (first | omega | (simp only [go_sem] <;> omega) | fail)) only [go_sem, ints, bools, mat]; fail_if_success (with_reducible show chk _ _)) | ((first | refine goC_k y12 ?_ | refine goOC_k y12 ?_); simp -implicitDefEqProofs (maxSteps := 1000000) (disch := (first | omega | (simp only [go_sem] <;> omega) | fail)) only [go_sem, ints, bools, mat]; fail_if_success (with_reducible show chk _ _)) | ((first | refine goC_k y13 ?_ | refine goOC_k y13 ?_); simp -implicitDefEqProofs (maxSteps := 1000000) (disch := (first | omega | (simp only [go_sem] <;> omega) | fail)) only [go_sem, ints, bools, mat]; fail_if_success (with_reducible show chk _ _)) | ((first | refine goC_k y14 ?_ | refine goOC_k y14 ?_); simp -implicitDefEqProofs (maxSteps := 1000000) (disch := (first | omega | (simp only [go_sem] <;> omega) | fail)) only [go_sem, ints, bools, mat]; fail_if_success (with_reducible show chk _ _)) | ((first | refine goC_k y15 ?_ | refine goOC_k y15 ?_); simp -implicitDefEqProofs (maxSteps := 1000000) (disch := (first | omega | (simp only [go_sem] <;> omega) | fail)) only [go_sem, ints, bools, mat]; fail_if_success (with_reducible show chk _ _)) | ((first | refine goC_k y16 ?_ | refine goOC_k y16 ?_); simp -implicitDefEqProofs (maxSteps := 1000000) (disch := (first | omega | (simp only [go_sem] <;> omega) | fail)) only [go_sem, ints, bools, mat]; fail_if_success (with_reducible show chk _ _)) | ((first | refine goC_k y17 ?_ | refine goOC_k y17 ?_); simp -implicitDefEqProofs (maxSteps := 1000000) (disch := (first | omega | (simp only [go_sem] <;> omega) | fail)) only [go_sem, ints, bools, mat]; fail_if_success (with_reducible show chk _ _)) | ((first | refine goC_k y18 ?_ | refine goOC_k y18 ?_); simp -implicitDefEqProofs (maxSteps := 1000000) (disch := (first | omega | (simp only [go_sem] <;> omega) | fail)) only [go_sem, ints, bools, mat]; fail_if_success (with_reducible show chk _ _)) | ((first | refine goC_k y19 ?_ | refine goOC_k y19 ?_); simp -implicitDefEqProofs (maxSteps := 1000000) (disch := (first | omega | (simp only [go_sem] <;> omega) | fail)) only [go_sem, ints, bools, mat]; fail_if_success (with_reducible show chk _ _)) | ((first | refine goC_k y20 ?_ | refine goOC_k y20 ?_); simp -implicitDefEqProofs (maxSteps := 1000000) (disch := (first | omega | (simp only [go_sem] <;> omega) | fail)) only [go_sem, ints, bools, mat]; fail_if_success (with_reducible show chk _ _)) | ((first | refine goC_k y21 ?_ | refine goOC_k y21 ?_); simp -implicitDefEqProofs (maxSteps := 1000000) (disch := (first | omega | (simp only [go_sem] <;> omega) | fail)) only [go_sem, ints, bools, mat]; fail_if_success (with_reducible show chk _ _)) | ((first | refine goC_k y22 ?_ | refine goOC_k y22 ?_); simp -implicitDefEqProofs (maxSteps := 1000000) (disch := (first | omega | (simp only [go_sem] <;> omega) | fail)) only [go_sem, ints, bools, mat]; fail_if_success (with_reducible show chk _ _)) | ((first | refine goC_k y23 ?_ | refine goOC_k y23 ?_); simp -implicitDefEqProofs (maxSteps := 1000000) (disch := (first | omega | (simp only [go_sem] <;> omega) | fail)) only [go_sem, ints, bools, mat]; fail_if_success (with_reducible show chk _ _)) | ((first | refine goC_k y24 ?_ | refine goOC_k y24 ?_); simp -implicitDefEqProofs (maxSteps := 1000000) (disch := (first | omega | (simp only [go_sem] <;> omega) | fail)) only [go_sem, ints, bools, mat]; fail_if_success (with_reducible show chk _ _)) | ((first | refine goC_k y25 ?_ | refine goOC_k y25 ?_); simp -implicitDefEqProofs (maxSteps := 1000000) (disch := (first | omega | (simp only [go_sem] <;> omega) | fail)) only [go_sem, ints, bools, mat]; fail_if_success (with_reducible show chk _ _)) | ((first | refine goC_k y26 ?_ | refine goOC_k y26 ?_); simp -implicitDefEqProofs (maxSteps := 1000000) (disch := (first | omega | (simp only [go_sem] <;> omega) | fail)) only [go_sem, ints, bools, mat]; fail_if_success (with_reducible show chk _ _)) | ((first | refine goC_k y27 ?_ | refine goOC_k y27 ?_); simp -implicitDefEqProofs (maxSteps := 1000000) (disch := (first | omega | (simp only [go_sem] <;> omega) | fail)) only [go_sem, ints, bools, mat]; fail_if_success (with_reducible show chk _ _)) | ((first | refine goC_k y28 ?_ | refine goOC_k y28 ?_); simp -implicitDefEqProofs (maxSteps := 1000000) (disch := (first | omega | (simp only [go_sem] <;> omega) | fail)) only [go_sem, ints, bools, mat]; fail_if_success (with_reducible show chk _ _)) | ((first | refine goC_k y29 ?_ | refine goOC_k y29 ?_); simp -implicitDefEqProofs (maxSteps := 1000000) (disch := (first | omega | (simp only [go_sem] <;> omega) | fail)) only [go_sem, ints, bools, mat]; fail_if_success (with_reducible show chk _ _)) | ((first | refine goC_k y30 ?_ | refine goOC_k y30 ?_); simp -implicitDefEqProofs (maxSteps := 1000000) (disch := (first | omega | (simp only [go_sem] <;> omega) | fail)) only [go_sem, ints, bools, mat]; fail_if_success (with_reducible show chk _ _)))); all_goals (first | exact absurd (decide_eq_true F2.np).symm (by assumption) | (rw [hw1, beq_self_eq_true]) | exact absurd (by assumption) h2)) : P := h
end Go.Proofs.YtgmocipfgfnolacGreat.Va
