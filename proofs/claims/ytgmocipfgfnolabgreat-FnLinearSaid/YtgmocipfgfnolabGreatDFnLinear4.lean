/- Contracts of the functions that FnLinear reaches (part 4). Condition: none. -/
import Derived.Test.YtgmocipfgfnolabGreatDFnLinear3
set_option linter.all false
set_option linter.unusedSimpArgs false
set_option linter.unusedVariables false
namespace Go.Proofs.YtgmocipfgfnolabGreat.Va
open Go
set_option maxHeartbeats 4000000
set_option maxRecDepth 100000
theorem w_linear110 {x0 X1 X2 X3 : D} {w : Int} {ws c2 c3 : List Int} (hbig : Den PA f_laws_big [.d x0] [.any] (.d (db false)))
    (D1 : Den PA f_spec_DrawSpanOf [.d x0] [.any] (.tup [.d (.agg [X1]), .own 1 (ws.map di)])) (D2 : Den PA f_spec_DrawIsLinear [.d x0] [.any] (.tup [.d (.agg [X2]), .own 1 (c2.map di)]))
    (D3 : Den PA f_spec_DrawSyndromeOf [.d x0] [.any] (.tup [.d (.agg [X3]), .own 1 (c3.map di), .d (di w)])) (hw : ws.length < 1048577) (hc2 : c2.length < 1048577) (hc3 : c3.length < 1048577)
    {C E Ba W : List Int} {n : Int} (F1 : LiF X1 ws C E Ba W n)
    {B2 E2 W2 : List Int} {b2 : Bool} {e3 k : Int} (F2 : LnF X2 c2 B2 E2 W2 b2 e3 k)
    {e5 : Int} (k3 : Den PA f_impl_SyndromeOf [.d (.agg [X3]), .d (ints c3), .d (di w)] [.any, .any, .any] (.tup [.d nil, .d (di e5)])) (k4 : Den PA f_spec_SyndromeOf [.d (.agg [X3]), .d (ints c3), .d (di w)] [.any, .any, .any] (.tup [.d nil, .d (di e5)])) :
    Den PA f_laws_FnLinear [.d x0] [.any] (.d (db true)) := by
  have hL0 := d_laws_likeInts_nil
  have hD1 := D1.le (.tup (.cons .refl (.cons .frz .nil)))
  have hsp := F1.sp.le (.tup (.cons .frz (.cons .refl .nil)))
  have hdu := F1.du.le (.tup (.cons .frz (.cons .refl .nil)))
  have hL1 := d_laws_likeInts C C F1.cl
  rw [decide_eq_true rfl] at hL1
  have hL2 := d_laws_likeInts W W F1.wl
  rw [decide_eq_true rfl] at hL2
  have hsz := F1.sz
  have hnb := F1.nb
  have hcl := F1.cl
  have hel := F1.el
  have hw1 : IntKind.wrap .i64 ((C.length : Int) * (E.length : Int)) = n := by
    rw [hsz]; exact wrap64 (by rw [← hsz, ← Int.natCast_mul]; omega) (by omega)
  have hL3 := d_laws_likeInts B2 B2 F2.bl
  rw [decide_eq_true rfl] at hL3
  have hL4 := d_laws_likeInts E2 E2 F2.el
  rw [decide_eq_true rfl] at hL4
  have hL5 := d_laws_likeInts W2 W2 F2.wl
  rw [decide_eq_true rfl] at hL5
  refine den_go [] l_laws_FnLinear ?_
  refine go_c0 ?_
  repeat' (first | simp -implicitDefEqProofs (maxSteps := 1000000) (disch := (first | omega | (simp only [go_sem] <;> omega) | fail)) only [go_sem, ints, bools, mat, hw1] | ((first | apply goIf_b | apply goG_b | apply goTG_b | apply goOG_b) <;> intro h <;> ((try simp only [hnq] at h); (try simp only [h]); (try simp only [hnr] at h)) <;> (try (exfalso; omega))) | ((first | refine goC_call [.r] (hbig) ?_ | refine goOC_call [.r] (hbig) ?_); simp -implicitDefEqProofs (maxSteps := 1000000) (disch := (first | omega | (simp only [go_sem] <;> omega) | fail)) only [go_sem, ints, bools, mat, hw1]; fail_if_success (with_reducible show chk _ _)) | ((first | refine goC_call [.r] (hD1) ?_ | refine goOC_call [.r] (hD1) ?_); simp -implicitDefEqProofs (maxSteps := 1000000) (disch := (first | omega | (simp only [go_sem] <;> omega) | fail)) only [go_sem, ints, bools, mat, hw1]; fail_if_success (with_reducible show chk _ _)) | ((first | refine goC_call [.r, .r] (hsp) ?_ | refine goOC_call [.r, .r] (hsp) ?_); simp -implicitDefEqProofs (maxSteps := 1000000) (disch := (first | omega | (simp only [go_sem] <;> omega) | fail)) only [go_sem, ints, bools, mat, hw1]; fail_if_success (with_reducible show chk _ _)) | ((first | refine goC_call [.r, .r] (F1.st) ?_ | refine goOC_call [.r, .r] (F1.st) ?_); simp -implicitDefEqProofs (maxSteps := 1000000) (disch := (first | omega | (simp only [go_sem] <;> omega) | fail)) only [go_sem, ints, bools, mat, hw1]; fail_if_success (with_reducible show chk _ _)) | ((first | refine goC_call [.r] (F1.pl) ?_ | refine goOC_call [.r] (F1.pl) ?_); simp -implicitDefEqProofs (maxSteps := 1000000) (disch := (first | omega | (simp only [go_sem] <;> omega) | fail)) only [go_sem, ints, bools, mat, hw1]; fail_if_success (with_reducible show chk _ _)) | ((first | refine goC_call [.r] (F1.pt) ?_ | refine goOC_call [.r] (F1.pt) ?_); simp -implicitDefEqProofs (maxSteps := 1000000) (disch := (first | omega | (simp only [go_sem] <;> omega) | fail)) only [go_sem, ints, bools, mat, hw1]; fail_if_success (with_reducible show chk _ _)) | ((first | refine goC_call [.r, .r] (hL1) ?_ | refine goOC_call [.r, .r] (hL1) ?_); simp -implicitDefEqProofs (maxSteps := 1000000) (disch := (first | omega | (simp only [go_sem] <;> omega) | fail)) only [go_sem, ints, bools, mat, hw1]; fail_if_success (with_reducible show chk _ _)) | ((first | refine goC_call [.r, .r] (hL2) ?_ | refine goOC_call [.r, .r] (hL2) ?_); simp -implicitDefEqProofs (maxSteps := 1000000) (disch := (first | omega | (simp only [go_sem] <;> omega) | fail)) only [go_sem, ints, bools, mat, hw1]; fail_if_success (with_reducible show chk _ _)) | ((first | refine goC_call [.r, .r] (F1.li) ?_ | refine goOC_call [.r, .r] (F1.li) ?_); simp -implicitDefEqProofs (maxSteps := 1000000) (disch := (first | omega | (simp only [go_sem] <;> omega) | fail)) only [go_sem, ints, bools, mat, hw1]; fail_if_success (with_reducible show chk _ _)) | ((first | refine goC_call [.r, .r] (hdu) ?_ | refine goOC_call [.r, .r] (hdu) ?_); simp -implicitDefEqProofs (maxSteps := 1000000) (disch := (first | omega | (simp only [go_sem] <;> omega) | fail)) only [go_sem, ints, bools, mat, hw1]; fail_if_success (with_reducible show chk _ _)) | ((first | refine goC_call [.r, .r] (F1.dd) ?_ | refine goOC_call [.r, .r] (F1.dd) ?_); simp -implicitDefEqProofs (maxSteps := 1000000) (disch := (first | omega | (simp only [go_sem] <;> omega) | fail)) only [go_sem, ints, bools, mat, hw1]; fail_if_success (with_reducible show chk _ _)) | ((first | refine goC_call [.r, .r] (F1.ba) ?_ | refine goOC_call [.r, .r] (F1.ba) ?_); simp -implicitDefEqProofs (maxSteps := 1000000) (disch := (first | omega | (simp only [go_sem] <;> omega) | fail)) only [go_sem, ints, bools, mat, hw1]; fail_if_success (with_reducible show chk _ _)) | ((first | refine goC_call [.r, .r] (F1.ag) ?_ | refine goOC_call [.r, .r] (F1.ag) ?_); simp -implicitDefEqProofs (maxSteps := 1000000) (disch := (first | omega | (simp only [go_sem] <;> omega) | fail)) only [go_sem, ints, bools, mat, hw1]; fail_if_success (with_reducible show chk _ _)) | ((first | refine goC_call [.r, .r] (F1.dm) ?_ | refine goOC_call [.r, .r] (F1.dm) ?_); simp -implicitDefEqProofs (maxSteps := 1000000) (disch := (first | omega | (simp only [go_sem] <;> omega) | fail)) only [go_sem, ints, bools, mat, hw1]; fail_if_success (with_reducible show chk _ _)) | ((first | refine goC_call [.r, .r] (F1.co) ?_ | refine goOC_call [.r, .r] (F1.co) ?_); simp -implicitDefEqProofs (maxSteps := 1000000) (disch := (first | omega | (simp only [go_sem] <;> omega) | fail)) only [go_sem, ints, bools, mat, hw1]; fail_if_success (with_reducible show chk _ _)) | ((first | refine goC_call [.r, .r] (F1.wc) ?_ | refine goOC_call [.r, .r] (F1.wc) ?_); simp -implicitDefEqProofs (maxSteps := 1000000) (disch := (first | omega | (simp only [go_sem] <;> omega) | fail)) only [go_sem, ints, bools, mat, hw1]; fail_if_success (with_reducible show chk _ _)) | ((first | refine goC_call [.r] (F1.cn) ?_ | refine goOC_call [.r] (F1.cn) ?_); simp -implicitDefEqProofs (maxSteps := 1000000) (disch := (first | omega | (simp only [go_sem] <;> omega) | fail)) only [go_sem, ints, bools, mat, hw1]; fail_if_success (with_reducible show chk _ _)))
  refine go_loop (fun (k : Nat) => ⟨[(0, .d x0), (3, .ref 0 0), (4, .d (ints ws)), (5, .d (ints C)), (15, .d (ints E)), (242, .d (di ws.length)), (243, .d (di k))], [some (.var [X1])]⟩) (fun k => k ≤ ws.length) (fun k => ws.length - k) 0 ?_ ?_ ?_
  · exact go_r0
  · exact Nat.zero_le _
  · rintro j hj J hJ
    by_cases hjl : j < ws.length
    · have hh := d_laws_hasInt C (ws.getD j 0) F1.cl
      rw [decide_eq_true (F1.has j hjl)] at hh
      have hsy := F1.sy j hjl
      have hsu := sum_rep (E.take 20).length (by rw [List.length_take]; omega)
      have hck := d_laws_checks5 E F1.el
      repeat' (first | simp -implicitDefEqProofs (maxSteps := 1000000) (disch := (first | omega | (simp only [go_sem] <;> omega) | fail)) only [go_sem, ints, bools, mat] | ((first | apply goIf_b | apply goG_b | apply goTG_b | apply goOG_b) <;> intro h <;> ((try simp only [hnq] at h); (try simp only [h]); (try simp only [hnr] at h)) <;> (try (exfalso; omega))) | ((first | refine goC_call [.r, .r] (hh) ?_ | refine goOC_call [.r, .r] (hh) ?_); simp -implicitDefEqProofs (maxSteps := 1000000) (disch := (first | omega | (simp only [go_sem] <;> omega) | fail)) only [go_sem, ints, bools, mat]; fail_if_success (with_reducible show chk _ _)) | ((first | refine goC_call [.r] (hck) ?_ | refine goOC_call [.r] (hck) ?_); simp -implicitDefEqProofs (maxSteps := 1000000) (disch := (first | omega | (simp only [go_sem] <;> omega) | fail)) only [go_sem, ints, bools, mat]; fail_if_success (with_reducible show chk _ _)) | ((first | refine goC_call [.r, .r, .r] (hsy) ?_ | refine goOC_call [.r, .r, .r] (hsy) ?_); simp -implicitDefEqProofs (maxSteps := 1000000) (disch := (first | omega | (simp only [go_sem] <;> omega) | fail)) only [go_sem, ints, bools, mat]; fail_if_success (with_reducible show chk _ _)) | ((first | refine goC_call [.r] (hsu) ?_ | refine goOC_call [.r] (hsu) ?_); simp -implicitDefEqProofs (maxSteps := 1000000) (disch := (first | omega | (simp only [go_sem] <;> omega) | fail)) only [go_sem, ints, bools, mat]; fail_if_success (with_reducible show chk _ _)))
      refine hJ (j + 1) (by omega) (by omega) _ go_r0
    · have e : j = ws.length := by omega
      subst e
      have y1 := kc [.r] D2; have y2 := kc [.r, .r] F2.li; have y3 := kc [.r, .r] F2.lt; have y4 := kc [.r, .r] F2.ba; have y5 := kc [.r, .r] F2.bt; have y6 := kc [.r, .r] F2.du; have y7 := kc [.r, .r] F2.dt; have y8 := kc [.r, .r] F2.co; have y9 := kc [.r, .r] F2.ct; have y10 := kc [.r, .r] F2.dm; have y11 := kc [.r, .r] F2.dn; have y12 := kc [.r, .r] hL3; have y13 := kc [.r, .r] hL4; have y14 := kc [.r, .r] hL5; have y15 := kc [.r] D3; have y16 := kc [.r, .r, .r] k3; have y17 := kc [.r, .r, .r] k4; have y18 := kc [.r, .r] hL0; exact go_e0
end Go.Proofs.YtgmocipfgfnolabGreat.Va
