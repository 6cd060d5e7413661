/- Contracts of the functions that FnShiftsAndBundles reaches (part 0). Condition: none. -/
import Derived.Test.YtgmocipfgfnolacGreatCFnShiftsAndBundles
set_option linter.all false
set_option linter.unusedSimpArgs false
set_option linter.unusedVariables false
namespace Go.Proofs.YtgmocipfgfnolacGreat.Va
open Go
set_option maxHeartbeats 4000000
set_option maxRecDepth 100000
attribute [go_sem_proc] reduceIte Nat.reduceEqDiff Nat.reduceAdd Nat.reduceBEq Nat.reduceMul Nat.reduceLeDiff Nat.reduceLT Nat.reduceMod Nat.reduceDiv Nat.reduceSub reduceCtorEq
theorem hnq : (∀ {b : Bool}, ((!b) = true) = (b = false)) ∧ (∀ {b : Bool}, ((!b) = false) = (b = true)) := ⟨by intro b; cases b <;> simp, by intro b; cases b <;> simp⟩
theorem hnr : (∀ {p : Prop} [Decidable p], (decide p = true) = p) ∧ (∀ {p : Prop} [Decidable p], (decide p = false) = ¬p) ∧ (∀ {α : Type} [BEq α] [LawfulBEq α] {a b : α}, ((a != b) = true) ↔ a ≠ b) ∧ (∀ {α : Type} [BEq α] [LawfulBEq α] {a b : α}, ((a != b) = false) ↔ a = b) ∧
  (∀ {α : Type} [BEq α] [LawfulBEq α] {a b : α}, ((a == b) = true) ↔ a = b) ∧ (∀ {α : Type} [BEq α] [LawfulBEq α] {a b : α}, ((a == b) = false) ↔ a ≠ b) ∧ (∀ {α : Type} {a b : α}, (a ≠ b) = ¬ a = b) ∧ (∀ {a b : Int}, ¬ a < b ↔ b ≤ a) ∧ (∀ {a b : Int}, ¬ a ≤ b ↔ b < a) ∧
  (∀ {a b : Bool}, ((a && b) = true) = (a = true ∧ b = true)) ∧ (∀ {a b : Bool}, ((a && b) = false) = (a = false ∨ b = false)) ∧ (∀ {a b : Bool}, ((a || b) = true) = (a = true ∨ b = true)) ∧ (∀ {a b : Bool}, ((a || b) = false) = (a = false ∧ b = false)) :=
  ⟨decide_eq_true_eq, decide_eq_false_iff_not .. |> propext, bne_iff_ne, bne_eq_false_iff_eq, beq_iff_eq, beq_eq_false_iff_ne, rfl, Int.not_lt, Int.not_le, by simp, by simp, by simp, by simp⟩
structure Kc (ms : List M) (f : FuncId) (rs rs' : List R) (res : R) : Prop where
  d : Den PA f rs rs' res
theorem kc (ms : List M) {f : FuncId} {rs rs' : List R} {res : R} (h : Den PA f rs rs' res) : Kc ms f rs rs' res := ⟨h⟩
theorem goC_k {f : FuncId} {xs : List AV} {d : Option Nat} {r : List AQ} {ks : List Fr} {tm : List (Nat × AV)} {sto : Sto} {post : X → ASt → Prop} {ms : List M} {rs rs' : List R} {res : R} (y : Kc ms f rs rs' res)
    (h : goCC PA (giveL sto ms xs) ms rs rs' res xs d r ks tm sto post) : goC PA f xs d r ks tm sto post := goC_call ms y.d h
theorem goOC_k {f : FuncId} {xs : List AV} {d : Option Nat} {s : ASch} {H : Hld} {ks : List Fr} {tm : List (Nat × AV)} {sto : Sto} {post : X → ASt → Prop} {ms : List M} {rs rs' : List R} {res : R} (y : Kc ms f rs rs' res)
    (h : goOCC PA (giveL sto ms xs) ms rs rs' res xs d s H ks tm sto post) : goOC PA f xs d s H ks tm sto post := goOC_call ms y.d h
structure Wr (Q : Prop) : Prop where
  q : Q
theorem go_e0 {P : Prop} (h : P := by repeat' (first | simp -implicitDefEqProofs (maxSteps := 1000000) (disch := (first | omega | (simp only [go_sem] <;> omega) | fail)) only [go_sem, ints, bools, mat] | ((first | apply goIf_b | apply goG_b | apply goTG_b | apply goOG_b) <;> intro h <;> ((try simp only [hnq] at h); (try simp only [h]); (try simp only [hnr] at h)) <;> (try (exfalso; omega))) | ((first | refine goC_k y1 ?_ | refine goOC_k y1 ?_); simp -implicitDefEqProofs (maxSteps := 1000000) (disch := (first | omega | (simp only [go_sem] <;> omega) | fail)) only [go_sem, ints, bools, mat]; fail_if_success (with_reducible show chk _ _)) | ((first | refine goC_k y2 ?_ | refine goOC_k y2 ?_); simp -implicitDefEqProofs (maxSteps := 1000000) (disch := (first | omega | (simp only [go_sem] <;> omega) | fail)) only [go_sem, ints, bools, mat]; fail_if_success (with_reducible show chk _ _)) | ((first | refine goC_k y3 ?_ | refine goOC_k y3 ?_); simp -implicitDefEqProofs (maxSteps := 1000000) (disch := (first | omega | (simp only [go_sem] <;> omega) | fail)) only [go_sem, ints, bools, mat]; fail_if_success (with_reducible show chk _ _)) | ((first | refine goC_k y4 ?_ | refine goOC_k y4 ?_); simp -implicitDefEqProofs (maxSteps := 1000000) (disch := (first | omega | (simp only [go_sem] <;> omega) | fail)) only [go_sem, ints, bools, mat]; fail_if_success (with_reducible show chk _ _)) | ((first | refine goC_k y5 ?_ | refine goOC_k y5 ?_); simp -implicitDefEqProofs (maxSteps := 1000000) (disch := (first | omega | (simp only [go_sem] <;> omega) | fail)) only [go_sem, ints, bools, mat]; fail_if_success (with_reducible show chk _ _)) | ((first | refine goC_k y6 ?_ | refine goOC_k y6 ?_); simp -implicitDefEqProofs (maxSteps := 1000000) (disch := (first | omega | (simp only [go_sem] <;> omega) | fail)) only [go_sem, ints, bools, mat]; fail_if_success (with_reducible show chk _ _)) | ((first | refine goC_k y7 ?_ | refine goOC_k y7 ?_); simp -implicitDefEqProofs (maxSteps := 1000000) (disch := (first | omega | (simp only [go_sem] <;> omega) | fail)) only [go_sem, ints, bools, mat]; fail_if_success (with_reducible show chk _ _)) | ((first | refine goC_k y8 ?_ | refine goOC_k y8 ?_); simp -implicitDefEqProofs (maxSteps := 1000000) (disch := (first | omega | (simp only [go_sem] <;> omega) | fail)) only [go_sem, ints, bools, mat]; fail_if_success (with_reducible show chk _ _)) | ((first | refine goC_k y9 ?_ | refine goOC_k y9 ?_); simp -implicitDefEqProofs (maxSteps := 1000000) (disch := (first | omega | (simp only [go_sem] <;> omega) | fail)) only [go_sem, ints, bools, mat]; fail_if_success (with_reducible show chk _ _)) | ((first | refine goC_k y10 ?_ | refine goOC_k y10 ?_); simp -implicitDefEqProofs (maxSteps := 1000000) (disch := (first | omega | (simp only [go_sem] <;> omega) | fail)) only [go_sem, ints, bools, mat]; fail_if_success (with_reducible show chk _ _)) | ((first | refine goC_k y11 ?_ | refine goOC_k y11 ?_); simp -implicitDefEqProofs (maxSteps := 1000000) (disch := (first | omega | (simp only [go_sem] <;> omega) | fail)) only [go_sem, ints, bools, mat]; fail_if_success (with_reducible show chk _ _)) | ((first | refine goC_k y12 ?_ | refine goOC_k y12 ?_); simp -implicitDefEqProofs (maxSteps := 1000000) (disch := (first | omega | (simp only [go_sem] <;> omega) | fail)) only [go_sem, ints, bools, mat]; fail_if_success (with_reducible show chk _ _)) | ((first | refine goC_k y13 ?_ | refine goOC_k y13 ?_); simp -implicitDefEqProofs (maxSteps := 1000000) (disch := (first | omega | (simp only [go_sem] <;> omega) | fail)) only [go_sem, ints, bools, mat]; fail_if_success (with_reducible show chk _ _)) | ((first | refine goC_k y14 ?_ | refine goOC_k y14 ?_); simp -implicitDefEqProofs (maxSteps := 1000000) (disch := (first | omega | (simp only [go_sem] <;> omega) | fail)) only [go_sem, ints, bools, mat]; fail_if_success (with_reducible show chk _ _)) | ((first | refine goC_k y15 ?_ | refine goOC_k y15 ?_); simp -implicitDefEqProofs (maxSteps := 1000000) (disch := (first | omega | (simp only [go_sem] <;> omega) | fail)) only [go_sem, ints, bools, mat]; fail_if_success (with_reducible show chk _ _)) | ((first | refine goC_k y16 ?_ | refine goOC_k y16 ?_); simp -implicitDefEqProofs (maxSteps := 1000000) (disch := (first | omega | (simp only [go_sem] <;> omega) | fail)) only [go_sem, ints, bools, mat]; fail_if_success (with_reducible show chk _ _)) | ((first | refine goC_k y17 ?_ | refine goOC_k y17 ?_); simp -implicitDefEqProofs (maxSteps := 1000000) (disch := (first | omega | (simp only [go_sem] <;> omega) | fail)) only [go_sem, ints, bools, mat]; fail_if_success (with_reducible show chk _ _)) | ((first | refine goC_k y18 ?_ | refine goOC_k y18 ?_); simp -implicitDefEqProofs (maxSteps := 1000000) (disch := (first | omega | (simp only [go_sem] <;> omega) | fail)) only [go_sem, ints, bools, mat]; fail_if_success (with_reducible show chk _ _)) | ((first | refine goC_k y19 ?_ | refine goOC_k y19 ?_); simp -implicitDefEqProofs (maxSteps := 1000000) (disch := (first | omega | (simp only [go_sem] <;> omega) | fail)) only [go_sem, ints, bools, mat]; fail_if_success (with_reducible show chk _ _)) | ((first | refine goC_k y20 ?_ | refine goOC_k y20 ?_); simp -implicitDefEqProofs (maxSteps := 1000000) (disch := (first | omega | (simp only [go_sem] <;> omega) | fail)) only [go_sem, ints, bools, mat]; fail_if_success (with_reducible show chk _ _)) | ((first | refine goC_k y21 ?_ | refine goOC_k y21 ?_); simp -implicitDefEqProofs (maxSteps := 1000000) (disch := (first | omega | (simp only [go_sem] <;> omega) | fail)) only [go_sem, ints, bools, mat]; fail_if_success (with_reducible show chk _ _)) | ((first | refine goC_k y22 ?_ | refine goOC_k y22 ?_); simp -implicitDefEqProofs (maxSteps := 1000000) (disch := (first | omega | (simp only [go_sem] <;> omega) | fail)) only [go_sem, ints, bools, mat]; fail_if_success (with_reducible show chk _ _)) | ((first | refine goC_k y23 ?_ | refine goOC_k y23 ?_); simp -implicitDefEqProofs (maxSteps := 1000000) (disch := (first | omega | (simp only [go_sem] <;> omega) | fail)) only [go_sem, ints, bools, mat]; fail_if_success (with_reducible show chk _ _)) | ((first | refine goC_k y24 ?_ | refine goOC_k y24 ?_); simp -implicitDefEqProofs (maxSteps := 1000000) (disch := (first | omega | (simp only [go_sem] <;> omega) | fail)) only [go_sem, ints, bools, mat]; fail_if_success (with_reducible show chk _ _)) | ((first | refine goC_k y25 ?_ | refine goOC_k y25 ?_); simp -implicitDefEqProofs (maxSteps := 1000000) (disch := (first | omega | (simp only [go_sem] <;> omega) | fail)) only [go_sem, ints, bools, mat]; fail_if_success (with_reducible show chk _ _)) | ((first | refine goC_k y26 ?_ | refine goOC_k y26 ?_); simp -implicitDefEqProofs (maxSteps := 1000000) (disch := (first | omega | (simp only [go_sem] <;> omega) | fail)) only [go_sem, ints, bools, mat]; fail_if_success (with_reducible show chk _ _)) | ((first | refine goC_k y27 ?_ | refine goOC_k y27 ?_); simp -implicitDefEqProofs (maxSteps := 1000000) (disch := (first | omega | (simp only [go_sem] <;> omega) | fail)) only [go_sem, ints, bools, mat]; fail_if_success (with_reducible show chk _ _)) | ((first | refine goC_k y28 ?_ | refine goOC_k y28 ?_); simp -implicitDefEqProofs (maxSteps := 1000000) (disch := (first | omega | (simp only [go_sem] <;> omega) | fail)) only [go_sem, ints, bools, mat]; fail_if_success (with_reducible show chk _ _)) | ((first | refine goC_k y29 ?_ | refine goOC_k y29 ?_); simp -implicitDefEqProofs (maxSteps := 1000000) (disch := (first | omega | (simp only [go_sem] <;> omega) | fail)) only [go_sem, ints, bools, mat]; fail_if_success (with_reducible show chk _ _)) | ((first | refine goC_k y30 ?_ | refine goOC_k y30 ?_); simp -implicitDefEqProofs (maxSteps := 1000000) (disch := (first | omega | (simp only [go_sem] <;> omega) | fail)) only [go_sem, ints, bools, mat]; fail_if_success (with_reducible show chk _ _)) | ((first | refine goC_k y31 ?_ | refine goOC_k y31 ?_); simp -implicitDefEqProofs (maxSteps := 1000000) (disch := (first | omega | (simp only [go_sem] <;> omega) | fail)) only [go_sem, ints, bools, mat]; fail_if_success (with_reducible show chk _ _)) | ((first | refine goC_k y32 ?_ | refine goOC_k y32 ?_); simp -implicitDefEqProofs (maxSteps := 1000000) (disch := (first | omega | (simp only [go_sem] <;> omega) | fail)) only [go_sem, ints, bools, mat]; fail_if_success (with_reducible show chk _ _)) | ((first | refine goC_k y33 ?_ | refine goOC_k y33 ?_); simp -implicitDefEqProofs (maxSteps := 1000000) (disch := (first | omega | (simp only [go_sem] <;> omega) | fail)) only [go_sem, ints, bools, mat]; fail_if_success (with_reducible show chk _ _)) | ((first | refine goC_k y34 ?_ | refine goOC_k y34 ?_); simp -implicitDefEqProofs (maxSteps := 1000000) (disch := (first | omega | (simp only [go_sem] <;> omega) | fail)) only [go_sem, ints, bools, mat]; fail_if_success (with_reducible show chk _ _)) | ((first | refine goC_k y35 ?_ | refine goOC_k y35 ?_); simp -implicitDefEqProofs (maxSteps := 1000000) (disch := (first | omega | (simp only [go_sem] <;> omega) | fail)) only [go_sem, ints, bools, mat]; fail_if_success (with_reducible show chk _ _)) | ((first | refine goC_k y36 ?_ | refine goOC_k y36 ?_); simp -implicitDefEqProofs (maxSteps := 1000000) (disch := (first | omega | (simp only [go_sem] <;> omega) | fail)) only [go_sem, ints, bools, mat]; fail_if_success (with_reducible show chk _ _)))) : P := h
theorem go_c0 {P Q : Prop} (k : Q) (h : Wr Q → P := by intro yq; repeat' (first | simp -implicitDefEqProofs (maxSteps := 1000000) (disch := (first | omega | (simp only [go_sem] <;> omega) | fail)) only [go_sem, ints, bools, mat] | ((first | apply goIf_b | apply goG_b | apply goTG_b | apply goOG_b) <;> intro h <;> ((try simp only [hnq] at h); (try simp only [h]); (try simp only [hnr] at h)) <;> (try (exfalso; omega))) | ((first | refine goC_k y1 ?_ | refine goOC_k y1 ?_); simp -implicitDefEqProofs (maxSteps := 1000000) (disch := (first | omega | (simp only [go_sem] <;> omega) | fail)) only [go_sem, ints, bools, mat]; fail_if_success (with_reducible show chk _ _)) | ((first | refine goC_k y2 ?_ | refine goOC_k y2 ?_); simp -implicitDefEqProofs (maxSteps := 1000000) (disch := (first | omega | (simp only [go_sem] <;> omega) | fail)) only [go_sem, ints, bools, mat]; fail_if_success (with_reducible show chk _ _)) | ((first | refine goC_k y3 ?_ | refine goOC_k y3 ?_); simp -implicitDefEqProofs (maxSteps := 1000000) (disch := (first | omega | (simp only [go_sem] <;> omega) | fail)) only [go_sem, ints, bools, mat]; fail_if_success (with_reducible show chk _ _)) | ((first | refine goC_k y4 ?_ | refine goOC_k y4 ?_); simp -implicitDefEqProofs (maxSteps := 1000000) (disch := (first | omega | (simp only [go_sem] <;> omega) | fail)) only [go_sem, ints, bools, mat]; fail_if_success (with_reducible show chk _ _)) | ((first | refine goC_k y5 ?_ | refine goOC_k y5 ?_); simp -implicitDefEqProofs (maxSteps := 1000000) (disch := (first | omega | (simp only [go_sem] <;> omega) | fail)) only [go_sem, ints, bools, mat]; fail_if_success (with_reducible show chk _ _)) | ((first | refine goC_k y6 ?_ | refine goOC_k y6 ?_); simp -implicitDefEqProofs (maxSteps := 1000000) (disch := (first | omega | (simp only [go_sem] <;> omega) | fail)) only [go_sem, ints, bools, mat]; fail_if_success (with_reducible show chk _ _)) | ((first | refine goC_k y7 ?_ | refine goOC_k y7 ?_); simp -implicitDefEqProofs (maxSteps := 1000000) (disch := (first | omega | (simp only [go_sem] <;> omega) | fail)) only [go_sem, ints, bools, mat]; fail_if_success (with_reducible show chk _ _)) | ((first | refine goC_k y8 ?_ | refine goOC_k y8 ?_); simp -implicitDefEqProofs (maxSteps := 1000000) (disch := (first | omega | (simp only [go_sem] <;> omega) | fail)) only [go_sem, ints, bools, mat]; fail_if_success (with_reducible show chk _ _)) | ((first | refine goC_k y9 ?_ | refine goOC_k y9 ?_); simp -implicitDefEqProofs (maxSteps := 1000000) (disch := (first | omega | (simp only [go_sem] <;> omega) | fail)) only [go_sem, ints, bools, mat]; fail_if_success (with_reducible show chk _ _)) | ((first | refine goC_k y10 ?_ | refine goOC_k y10 ?_); simp -implicitDefEqProofs (maxSteps := 1000000) (disch := (first | omega | (simp only [go_sem] <;> omega) | fail)) only [go_sem, ints, bools, mat]; fail_if_success (with_reducible show chk _ _)) | ((first | refine goC_k y11 ?_ | refine goOC_k y11 ?_); simp -implicitDefEqProofs (maxSteps := 1000000) (disch := (first | omega | (simp only [go_sem] <;> omega) | fail)) only [go_sem, ints, bools, mat]; fail_if_success (with_reducible show chk _ _)) | ((first | refine goC_k y12 ?_ | refine goOC_k y12 ?_); simp -implicitDefEqProofs (maxSteps := 1000000) (disch := (first | omega | (simp only [go_sem] <;> omega) | fail)) only [go_sem, ints, bools, mat]; fail_if_success (with_reducible show chk _ _)) | ((first | refine goC_k y13 ?_ | refine goOC_k y13 ?_); simp -implicitDefEqProofs (maxSteps := 1000000) (disch := (first | omega | (simp only [go_sem] <;> omega) | fail)) only [go_sem, ints, bools, mat]; fail_if_success (with_reducible show chk _ _)) | ((first | refine goC_k y14 ?_ | refine goOC_k y14 ?_); simp -implicitDefEqProofs (maxSteps := 1000000) (disch := (first | omega | (simp only [go_sem] <;> omega) | fail)) only [go_sem, ints, bools, mat]; fail_if_success (with_reducible show chk _ _)) | ((first | refine goC_k y15 ?_ | refine goOC_k y15 ?_); simp -implicitDefEqProofs (maxSteps := 1000000) (disch := (first | omega | (simp only [go_sem] <;> omega) | fail)) only [go_sem, ints, bools, mat]; fail_if_success (with_reducible show chk _ _)) | ((first | refine goC_k y16 ?_ | refine goOC_k y16 ?_); simp -implicitDefEqProofs (maxSteps := 1000000) (disch := (first | omega | (simp only [go_sem] <;> omega) | fail)) only [go_sem, ints, bools, mat]; fail_if_success (with_reducible show chk _ _)) | ((first | refine goC_k y17 ?_ | refine goOC_k y17 ?_); simp -implicitDefEqProofs (maxSteps := 1000000) (disch := (first | omega | (simp only [go_sem] <;> omega) | fail)) only [go_sem, ints, bools, mat]; fail_if_success (with_reducible show chk _ _)) | ((first | refine goC_k y18 ?_ | refine goOC_k y18 ?_); simp -implicitDefEqProofs (maxSteps := 1000000) (disch := (first | omega | (simp only [go_sem] <;> omega) | fail)) only [go_sem, ints, bools, mat]; fail_if_success (with_reducible show chk _ _)) | ((first | refine goC_k y19 ?_ | refine goOC_k y19 ?_); simp -implicitDefEqProofs (maxSteps := 1000000) (disch := (first | omega | (simp only [go_sem] <;> omega) | fail)) only [go_sem, ints, bools, mat]; fail_if_success (with_reducible show chk _ _)) | ((first | refine goC_k y20 ?_ | refine goOC_k y20 ?_); simp -implicitDefEqProofs (maxSteps := 1000000) (disch := (first | omega | (simp only [go_sem] <;> omega) | fail)) only [go_sem, ints, bools, mat]; fail_if_success (with_reducible show chk _ _)) | ((first | refine goC_k y21 ?_ | refine goOC_k y21 ?_); simp -implicitDefEqProofs (maxSteps := 1000000) (disch := (first | omega | (simp only [go_sem] <;> omega) | fail)) only [go_sem, ints, bools, mat]; fail_if_success (with_reducible show chk _ _)) | ((first | refine goC_k y22 ?_ | refine goOC_k y22 ?_); simp -implicitDefEqProofs (maxSteps := 1000000) (disch := (first | omega | (simp only [go_sem] <;> omega) | fail)) only [go_sem, ints, bools, mat]; fail_if_success (with_reducible show chk _ _)) | ((first | refine goC_k y23 ?_ | refine goOC_k y23 ?_); simp -implicitDefEqProofs (maxSteps := 1000000) (disch := (first | omega | (simp only [go_sem] <;> omega) | fail)) only [go_sem, ints, bools, mat]; fail_if_success (with_reducible show chk _ _)) | ((first | refine goC_k y24 ?_ | refine goOC_k y24 ?_); simp -implicitDefEqProofs (maxSteps := 1000000) (disch := (first | omega | (simp only [go_sem] <;> omega) | fail)) only [go_sem, ints, bools, mat]; fail_if_success (with_reducible show chk _ _)) | ((first | refine goC_k y25 ?_ | refine goOC_k y25 ?_); simp -implicitDefEqProofs (maxSteps := 1000000) (disch := (first | omega | (simp only [go_sem] <;> omega) | fail)) only [go_sem, ints, bools, mat]; fail_if_success (with_reducible show chk _ _)) | ((first | refine goC_k y26 ?_ | refine goOC_k y26 ?_); simp -implicitDefEqProofs (maxSteps := 1000000) (disch := (first | omega | (simp only [go_sem] <;> omega) | fail)) only [go_sem, ints, bools, mat]; fail_if_success (with_reducible show chk _ _)) | ((first | refine goC_k y27 ?_ | refine goOC_k y27 ?_); simp -implicitDefEqProofs (maxSteps := 1000000) (disch := (first | omega | (simp only [go_sem] <;> omega) | fail)) only [go_sem, ints, bools, mat]; fail_if_success (with_reducible show chk _ _)) | ((first | refine goC_k y28 ?_ | refine goOC_k y28 ?_); simp -implicitDefEqProofs (maxSteps := 1000000) (disch := (first | omega | (simp only [go_sem] <;> omega) | fail)) only [go_sem, ints, bools, mat]; fail_if_success (with_reducible show chk _ _)) | ((first | refine goC_k y29 ?_ | refine goOC_k y29 ?_); simp -implicitDefEqProofs (maxSteps := 1000000) (disch := (first | omega | (simp only [go_sem] <;> omega) | fail)) only [go_sem, ints, bools, mat]; fail_if_success (with_reducible show chk _ _)) | ((first | refine goC_k y30 ?_ | refine goOC_k y30 ?_); simp -implicitDefEqProofs (maxSteps := 1000000) (disch := (first | omega | (simp only [go_sem] <;> omega) | fail)) only [go_sem, ints, bools, mat]; fail_if_success (with_reducible show chk _ _)) | ((first | refine goC_k y31 ?_ | refine goOC_k y31 ?_); simp -implicitDefEqProofs (maxSteps := 1000000) (disch := (first | omega | (simp only [go_sem] <;> omega) | fail)) only [go_sem, ints, bools, mat]; fail_if_success (with_reducible show chk _ _)) | ((first | refine goC_k y32 ?_ | refine goOC_k y32 ?_); simp -implicitDefEqProofs (maxSteps := 1000000) (disch := (first | omega | (simp only [go_sem] <;> omega) | fail)) only [go_sem, ints, bools, mat]; fail_if_success (with_reducible show chk _ _)) | ((first | refine goC_k y33 ?_ | refine goOC_k y33 ?_); simp -implicitDefEqProofs (maxSteps := 1000000) (disch := (first | omega | (simp only [go_sem] <;> omega) | fail)) only [go_sem, ints, bools, mat]; fail_if_success (with_reducible show chk _ _)) | ((first | refine goC_k y34 ?_ | refine goOC_k y34 ?_); simp -implicitDefEqProofs (maxSteps := 1000000) (disch := (first | omega | (simp only [go_sem] <;> omega) | fail)) only [go_sem, ints, bools, mat]; fail_if_success (with_reducible show chk _ _)) | ((first | refine goC_k y35 ?_ | refine goOC_k y35 ?_); simp -implicitDefEqProofs (maxSteps := 1000000) (disch := (first | omega | (simp only [go_sem] <;> omega) | fail)) only [go_sem, ints, bools, mat]; fail_if_success (with_reducible show chk _ _)) | ((first | refine goC_k y36 ?_ | refine goOC_k y36 ?_); simp -implicitDefEqProofs (maxSteps := 1000000) (disch := (first | omega | (simp only [go_sem] <;> omega) | fail)) only [go_sem, ints, bools, mat]; fail_if_success (with_reducible show chk _ _)) | exact yq.q)) : P := h ⟨k⟩
theorem go_r0 {P : Prop} (h : P := by simp -implicitDefEqProofs (maxSteps := 1000000) (disch := (first | omega | (simp only [go_sem] <;> omega) | fail)) only [go_sem, ints, bools, mat] <;> rfl) : P := h
theorem go_a0 {P : Prop} (h : P := by simp -implicitDefEqProofs (maxSteps := 1000000) (disch := (first | omega | (simp only [go_sem] <;> omega) | fail)) only [go_sem, ints, bools, mat]) : P := h
theorem go_e1 {P : Prop} (h : P := by repeat' (first | simp -implicitDefEqProofs (maxSteps := 1000000) (disch := (first | omega | (simp only [go_sem] <;> omega) | fail)) only [go_sem, ints, bools, mat, z1] | ((first | apply goIf_b | apply goG_b | apply goTG_b | apply goOG_b) <;> intro h <;> ((try simp only [hnq] at h); (try simp only [h]); (try simp only [hnr] at h)) <;> (try (exfalso; omega))) | ((first | refine goC_k y1 ?_ | refine goOC_k y1 ?_); simp -implicitDefEqProofs (maxSteps := 1000000) (disch := (first | omega | (simp only [go_sem] <;> omega) | fail)) only [go_sem, ints, bools, mat, z1]; fail_if_success (with_reducible show chk _ _)) | ((first | refine goC_k y2 ?_ | refine goOC_k y2 ?_); simp -implicitDefEqProofs (maxSteps := 1000000) (disch := (first | omega | (simp only [go_sem] <;> omega) | fail)) only [go_sem, ints, bools, mat, z1]; fail_if_success (with_reducible show chk _ _)) | ((first | refine goC_k y3 ?_ | refine goOC_k y3 ?_); simp -implicitDefEqProofs (maxSteps := 1000000) (disch := (first | omega | (simp only [go_sem] <;> omega) | fail)) only [go_sem, ints, bools, mat, z1]; fail_if_success (with_reducible show chk _ _)) | ((first | refine goC_k y4 ?_ | refine goOC_k y4 ?_); simp -implicitDefEqProofs (maxSteps := 1000000) (disch := (first | omega | (simp only [go_sem] <;> omega) | fail)) only [go_sem, ints, bools, mat, z1]; fail_if_success (with_reducible show chk _ _)) | ((first | refine goC_k y5 ?_ | refine goOC_k y5 ?_); simp -implicitDefEqProofs (maxSteps := 1000000) (disch := (first | omega | (simp only [go_sem] <;> omega) | fail)) only [go_sem, ints, bools, mat, z1]; fail_if_success (with_reducible show chk _ _)) | ((first | refine goC_k y6 ?_ | refine goOC_k y6 ?_); simp -implicitDefEqProofs (maxSteps := 1000000) (disch := (first | omega | (simp only [go_sem] <;> omega) | fail)) only [go_sem, ints, bools, mat, z1]; fail_if_success (with_reducible show chk _ _)) | ((first | refine goC_k y7 ?_ | refine goOC_k y7 ?_); simp -implicitDefEqProofs (maxSteps := 1000000) (disch := (first | omega | (simp only [go_sem] <;> omega) | fail)) only [go_sem, ints, bools, mat, z1]; fail_if_success (with_reducible show chk _ _)) | ((first | refine goC_k y8 ?_ | refine goOC_k y8 ?_); simp -implicitDefEqProofs (maxSteps := 1000000) (disch := (first | omega | (simp only [go_sem] <;> omega) | fail)) only [go_sem, ints, bools, mat, z1]; fail_if_success (with_reducible show chk _ _)) | ((first | refine goC_k y9 ?_ | refine goOC_k y9 ?_); simp -implicitDefEqProofs (maxSteps := 1000000) (disch := (first | omega | (simp only [go_sem] <;> omega) | fail)) only [go_sem, ints, bools, mat, z1]; fail_if_success (with_reducible show chk _ _)) | ((first | refine goC_k y10 ?_ | refine goOC_k y10 ?_); simp -implicitDefEqProofs (maxSteps := 1000000) (disch := (first | omega | (simp only [go_sem] <;> omega) | fail)) only [go_sem, ints, bools, mat, z1]; fail_if_success (with_reducible show chk _ _)))) : P := h
theorem go_c1 {P Q : Prop} (k : Q) (h : Wr Q → P := by intro yq; repeat' (first | simp -implicitDefEqProofs (maxSteps := 1000000) (disch := (first | omega | (simp only [go_sem] <;> omega) | fail)) only [go_sem, ints, bools, mat, z1] | ((first | apply goIf_b | apply goG_b | apply goTG_b | apply goOG_b) <;> intro h <;> ((try simp only [hnq] at h); (try simp only [h]); (try simp only [hnr] at h)) <;> (try (exfalso; omega))) | ((first | refine goC_k y1 ?_ | refine goOC_k y1 ?_); simp -implicitDefEqProofs (maxSteps := 1000000) (disch := (first | omega | (simp only [go_sem] <;> omega) | fail)) only [go_sem, ints, bools, mat, z1]; fail_if_success (with_reducible show chk _ _)) | ((first | refine goC_k y2 ?_ | refine goOC_k y2 ?_); simp -implicitDefEqProofs (maxSteps := 1000000) (disch := (first | omega | (simp only [go_sem] <;> omega) | fail)) only [go_sem, ints, bools, mat, z1]; fail_if_success (with_reducible show chk _ _)) | ((first | refine goC_k y3 ?_ | refine goOC_k y3 ?_); simp -implicitDefEqProofs (maxSteps := 1000000) (disch := (first | omega | (simp only [go_sem] <;> omega) | fail)) only [go_sem, ints, bools, mat, z1]; fail_if_success (with_reducible show chk _ _)) | ((first | refine goC_k y4 ?_ | refine goOC_k y4 ?_); simp -implicitDefEqProofs (maxSteps := 1000000) (disch := (first | omega | (simp only [go_sem] <;> omega) | fail)) only [go_sem, ints, bools, mat, z1]; fail_if_success (with_reducible show chk _ _)) | ((first | refine goC_k y5 ?_ | refine goOC_k y5 ?_); simp -implicitDefEqProofs (maxSteps := 1000000) (disch := (first | omega | (simp only [go_sem] <;> omega) | fail)) only [go_sem, ints, bools, mat, z1]; fail_if_success (with_reducible show chk _ _)) | ((first | refine goC_k y6 ?_ | refine goOC_k y6 ?_); simp -implicitDefEqProofs (maxSteps := 1000000) (disch := (first | omega | (simp only [go_sem] <;> omega) | fail)) only [go_sem, ints, bools, mat, z1]; fail_if_success (with_reducible show chk _ _)) | ((first | refine goC_k y7 ?_ | refine goOC_k y7 ?_); simp -implicitDefEqProofs (maxSteps := 1000000) (disch := (first | omega | (simp only [go_sem] <;> omega) | fail)) only [go_sem, ints, bools, mat, z1]; fail_if_success (with_reducible show chk _ _)) | ((first | refine goC_k y8 ?_ | refine goOC_k y8 ?_); simp -implicitDefEqProofs (maxSteps := 1000000) (disch := (first | omega | (simp only [go_sem] <;> omega) | fail)) only [go_sem, ints, bools, mat, z1]; fail_if_success (with_reducible show chk _ _)) | ((first | refine goC_k y9 ?_ | refine goOC_k y9 ?_); simp -implicitDefEqProofs (maxSteps := 1000000) (disch := (first | omega | (simp only [go_sem] <;> omega) | fail)) only [go_sem, ints, bools, mat, z1]; fail_if_success (with_reducible show chk _ _)) | ((first | refine goC_k y10 ?_ | refine goOC_k y10 ?_); simp -implicitDefEqProofs (maxSteps := 1000000) (disch := (first | omega | (simp only [go_sem] <;> omega) | fail)) only [go_sem, ints, bools, mat, z1]; fail_if_success (with_reducible show chk _ _)) | exact yq.q)) : P := h ⟨k⟩
theorem go_r1 {P : Prop} (h : P := by simp -implicitDefEqProofs (maxSteps := 1000000) (disch := (first | omega | (simp only [go_sem] <;> omega) | fail)) only [go_sem, ints, bools, mat, z1] <;> rfl) : P := h
theorem go_a1 {P : Prop} (h : P := by simp -implicitDefEqProofs (maxSteps := 1000000) (disch := (first | omega | (simp only [go_sem] <;> omega) | fail)) only [go_sem, ints, bools, mat, z1]) : P := h
theorem go_e2 {P : Prop} (h : P := by repeat' (first | simp -implicitDefEqProofs (maxSteps := 1000000) (disch := (first | omega | (simp only [go_sem] <;> omega) | fail)) only [go_sem, ints, bools, mat, z1, z2] | ((first | apply goIf_b | apply goG_b | apply goTG_b | apply goOG_b) <;> intro h <;> ((try simp only [hnq] at h); (try simp only [h]); (try simp only [hnr] at h)) <;> (try (exfalso; omega))) | ((first | refine goC_k y1 ?_ | refine goOC_k y1 ?_); simp -implicitDefEqProofs (maxSteps := 1000000) (disch := (first | omega | (simp only [go_sem] <;> omega) | fail)) only [go_sem, ints, bools, mat, z1, z2]; fail_if_success (with_reducible show chk _ _)) | ((first | refine goC_k y2 ?_ | refine goOC_k y2 ?_); simp -implicitDefEqProofs (maxSteps := 1000000) (disch := (first | omega | (simp only [go_sem] <;> omega) | fail)) only [go_sem, ints, bools, mat, z1, z2]; fail_if_success (with_reducible show chk _ _)) | ((first | refine goC_k y3 ?_ | refine goOC_k y3 ?_); simp -implicitDefEqProofs (maxSteps := 1000000) (disch := (first | omega | (simp only [go_sem] <;> omega) | fail)) only [go_sem, ints, bools, mat, z1, z2]; fail_if_success (with_reducible show chk _ _)) | ((first | refine goC_k y4 ?_ | refine goOC_k y4 ?_); simp -implicitDefEqProofs (maxSteps := 1000000) (disch := (first | omega | (simp only [go_sem] <;> omega) | fail)) only [go_sem, ints, bools, mat, z1, z2]; fail_if_success (with_reducible show chk _ _)) | ((first | refine goC_k y5 ?_ | refine goOC_k y5 ?_); simp -implicitDefEqProofs (maxSteps := 1000000) (disch := (first | omega | (simp only [go_sem] <;> omega) | fail)) only [go_sem, ints, bools, mat, z1, z2]; fail_if_success (with_reducible show chk _ _)) | ((first | refine goC_k y6 ?_ | refine goOC_k y6 ?_); simp -implicitDefEqProofs (maxSteps := 1000000) (disch := (first | omega | (simp only [go_sem] <;> omega) | fail)) only [go_sem, ints, bools, mat, z1, z2]; fail_if_success (with_reducible show chk _ _)) | ((first | refine goC_k y7 ?_ | refine goOC_k y7 ?_); simp -implicitDefEqProofs (maxSteps := 1000000) (disch := (first | omega | (simp only [go_sem] <;> omega) | fail)) only [go_sem, ints, bools, mat, z1, z2]; fail_if_success (with_reducible show chk _ _)) | ((first | refine goC_k y8 ?_ | refine goOC_k y8 ?_); simp -implicitDefEqProofs (maxSteps := 1000000) (disch := (first | omega | (simp only [go_sem] <;> omega) | fail)) only [go_sem, ints, bools, mat, z1, z2]; fail_if_success (with_reducible show chk _ _)) | ((first | refine goC_k y9 ?_ | refine goOC_k y9 ?_); simp -implicitDefEqProofs (maxSteps := 1000000) (disch := (first | omega | (simp only [go_sem] <;> omega) | fail)) only [go_sem, ints, bools, mat, z1, z2]; fail_if_success (with_reducible show chk _ _)) | ((first | refine goC_k y10 ?_ | refine goOC_k y10 ?_); simp -implicitDefEqProofs (maxSteps := 1000000) (disch := (first | omega | (simp only [go_sem] <;> omega) | fail)) only [go_sem, ints, bools, mat, z1, z2]; fail_if_success (with_reducible show chk _ _)))) : P := h
theorem go_c2 {P Q : Prop} (k : Q) (h : Wr Q → P := by intro yq; repeat' (first | simp -implicitDefEqProofs (maxSteps := 1000000) (disch := (first | omega | (simp only [go_sem] <;> omega) | fail)) only [go_sem, ints, bools, mat, z1, z2] | ((first | apply goIf_b | apply goG_b | apply goTG_b | apply goOG_b) <;> intro h <;> ((try simp only [hnq] at h); (try simp only [h]); (try simp only [hnr] at h)) <;> (try (exfalso; omega))) | ((first | refine goC_k y1 ?_ | refine goOC_k y1 ?_); simp -implicitDefEqProofs (maxSteps := 1000000) (disch := (first | omega | (simp only [go_sem] <;> omega) | fail)) only [go_sem, ints, bools, mat, z1, z2]; fail_if_success (with_reducible show chk _ _)) | ((first | refine goC_k y2 ?_ | refine goOC_k y2 ?_); simp -implicitDefEqProofs (maxSteps := 1000000) (disch := (first | omega | (simp only [go_sem] <;> omega) | fail)) only [go_sem, ints, bools, mat, z1, z2]; fail_if_success (with_reducible show chk _ _)) | ((first | refine goC_k y3 ?_ | refine goOC_k y3 ?_); simp -implicitDefEqProofs (maxSteps := 1000000) (disch := (first | omega | (simp only [go_sem] <;> omega) | fail)) only [go_sem, ints, bools, mat, z1, z2]; fail_if_success (with_reducible show chk _ _)) | ((first | refine goC_k y4 ?_ | refine goOC_k y4 ?_); simp -implicitDefEqProofs (maxSteps := 1000000) (disch := (first | omega | (simp only [go_sem] <;> omega) | fail)) only [go_sem, ints, bools, mat, z1, z2]; fail_if_success (with_reducible show chk _ _)) | ((first | refine goC_k y5 ?_ | refine goOC_k y5 ?_); simp -implicitDefEqProofs (maxSteps := 1000000) (disch := (first | omega | (simp only [go_sem] <;> omega) | fail)) only [go_sem, ints, bools, mat, z1, z2]; fail_if_success (with_reducible show chk _ _)) | ((first | refine goC_k y6 ?_ | refine goOC_k y6 ?_); simp -implicitDefEqProofs (maxSteps := 1000000) (disch := (first | omega | (simp only [go_sem] <;> omega) | fail)) only [go_sem, ints, bools, mat, z1, z2]; fail_if_success (with_reducible show chk _ _)) | ((first | refine goC_k y7 ?_ | refine goOC_k y7 ?_); simp -implicitDefEqProofs (maxSteps := 1000000) (disch := (first | omega | (simp only [go_sem] <;> omega) | fail)) only [go_sem, ints, bools, mat, z1, z2]; fail_if_success (with_reducible show chk _ _)) | ((first | refine goC_k y8 ?_ | refine goOC_k y8 ?_); simp -implicitDefEqProofs (maxSteps := 1000000) (disch := (first | omega | (simp only [go_sem] <;> omega) | fail)) only [go_sem, ints, bools, mat, z1, z2]; fail_if_success (with_reducible show chk _ _)) | ((first | refine goC_k y9 ?_ | refine goOC_k y9 ?_); simp -implicitDefEqProofs (maxSteps := 1000000) (disch := (first | omega | (simp only [go_sem] <;> omega) | fail)) only [go_sem, ints, bools, mat, z1, z2]; fail_if_success (with_reducible show chk _ _)) | ((first | refine goC_k y10 ?_ | refine goOC_k y10 ?_); simp -implicitDefEqProofs (maxSteps := 1000000) (disch := (first | omega | (simp only [go_sem] <;> omega) | fail)) only [go_sem, ints, bools, mat, z1, z2]; fail_if_success (with_reducible show chk _ _)) | exact yq.q)) : P := h ⟨k⟩
theorem go_r2 {P : Prop} (h : P := by simp -implicitDefEqProofs (maxSteps := 1000000) (disch := (first | omega | (simp only [go_sem] <;> omega) | fail)) only [go_sem, ints, bools, mat, z1, z2] <;> rfl) : P := h
theorem go_a2 {P : Prop} (h : P := by simp -implicitDefEqProofs (maxSteps := 1000000) (disch := (first | omega | (simp only [go_sem] <;> omega) | fail)) only [go_sem, ints, bools, mat, z1, z2]) : P := h
theorem go_e3 {P : Prop} (h : P := by repeat' (first | simp -implicitDefEqProofs (maxSteps := 1000000) (disch := (first | omega | (simp only [go_sem] <;> omega) | fail)) only [go_sem, ints, bools, mat, z1, z2, z3] | ((first | apply goIf_b | apply goG_b | apply goTG_b | apply goOG_b) <;> intro h <;> ((try simp only [hnq] at h); (try simp only [h]); (try simp only [hnr] at h)) <;> (try (exfalso; omega))) | ((first | refine goC_k y1 ?_ | refine goOC_k y1 ?_); simp -implicitDefEqProofs (maxSteps := 1000000) (disch := (first | omega | (simp only [go_sem] <;> omega) | fail)) only [go_sem, ints, bools, mat, z1, z2, z3]; fail_if_success (with_reducible show chk _ _)) | ((first | refine goC_k y2 ?_ | refine goOC_k y2 ?_); simp -implicitDefEqProofs (maxSteps := 1000000) (disch := (first | omega | (simp only [go_sem] <;> omega) | fail)) only [go_sem, ints, bools, mat, z1, z2, z3]; fail_if_success (with_reducible show chk _ _)) | ((first | refine goC_k y3 ?_ | refine goOC_k y3 ?_); simp -implicitDefEqProofs (maxSteps := 1000000) (disch := (first | omega | (simp only [go_sem] <;> omega) | fail)) only [go_sem, ints, bools, mat, z1, z2, z3]; fail_if_success (with_reducible show chk _ _)) | ((first | refine goC_k y4 ?_ | refine goOC_k y4 ?_); simp -implicitDefEqProofs (maxSteps := 1000000) (disch := (first | omega | (simp only [go_sem] <;> omega) | fail)) only [go_sem, ints, bools, mat, z1, z2, z3]; fail_if_success (with_reducible show chk _ _)) | ((first | refine goC_k y5 ?_ | refine goOC_k y5 ?_); simp -implicitDefEqProofs (maxSteps := 1000000) (disch := (first | omega | (simp only [go_sem] <;> omega) | fail)) only [go_sem, ints, bools, mat, z1, z2, z3]; fail_if_success (with_reducible show chk _ _)) | ((first | refine goC_k y6 ?_ | refine goOC_k y6 ?_); simp -implicitDefEqProofs (maxSteps := 1000000) (disch := (first | omega | (simp only [go_sem] <;> omega) | fail)) only [go_sem, ints, bools, mat, z1, z2, z3]; fail_if_success (with_reducible show chk _ _)) | ((first | refine goC_k y7 ?_ | refine goOC_k y7 ?_); simp -implicitDefEqProofs (maxSteps := 1000000) (disch := (first | omega | (simp only [go_sem] <;> omega) | fail)) only [go_sem, ints, bools, mat, z1, z2, z3]; fail_if_success (with_reducible show chk _ _)) | ((first | refine goC_k y8 ?_ | refine goOC_k y8 ?_); simp -implicitDefEqProofs (maxSteps := 1000000) (disch := (first | omega | (simp only [go_sem] <;> omega) | fail)) only [go_sem, ints, bools, mat, z1, z2, z3]; fail_if_success (with_reducible show chk _ _)) | ((first | refine goC_k y9 ?_ | refine goOC_k y9 ?_); simp -implicitDefEqProofs (maxSteps := 1000000) (disch := (first | omega | (simp only [go_sem] <;> omega) | fail)) only [go_sem, ints, bools, mat, z1, z2, z3]; fail_if_success (with_reducible show chk _ _)) | ((first | refine goC_k y10 ?_ | refine goOC_k y10 ?_); simp -implicitDefEqProofs (maxSteps := 1000000) (disch := (first | omega | (simp only [go_sem] <;> omega) | fail)) only [go_sem, ints, bools, mat, z1, z2, z3]; fail_if_success (with_reducible show chk _ _)))) : P := h
theorem go_c3 {P Q : Prop} (k : Q) (h : Wr Q → P := by intro yq; repeat' (first | simp -implicitDefEqProofs (maxSteps := 1000000) (disch := (first | omega | (simp only [go_sem] <;> omega) | fail)) only [go_sem, ints, bools, mat, z1, z2, z3] | ((first | apply goIf_b | apply goG_b | apply goTG_b | apply goOG_b) <;> intro h <;> ((try simp only [hnq] at h); (try simp only [h]); (try simp only [hnr] at h)) <;> (try (exfalso; omega))) | ((first | refine goC_k y1 ?_ | refine goOC_k y1 ?_); simp -implicitDefEqProofs (maxSteps := 1000000) (disch := (first | omega | (simp only [go_sem] <;> omega) | fail)) only [go_sem, ints, bools, mat, z1, z2, z3]; fail_if_success (with_reducible show chk _ _)) | ((first | refine goC_k y2 ?_ | refine goOC_k y2 ?_); simp -implicitDefEqProofs (maxSteps := 1000000) (disch := (first | omega | (simp only [go_sem] <;> omega) | fail)) only [go_sem, ints, bools, mat, z1, z2, z3]; fail_if_success (with_reducible show chk _ _)) | ((first | refine goC_k y3 ?_ | refine goOC_k y3 ?_); simp -implicitDefEqProofs (maxSteps := 1000000) (disch := (first | omega | (simp only [go_sem] <;> omega) | fail)) only [go_sem, ints, bools, mat, z1, z2, z3]; fail_if_success (with_reducible show chk _ _)) | ((first | refine goC_k y4 ?_ | refine goOC_k y4 ?_); simp -implicitDefEqProofs (maxSteps := 1000000) (disch := (first | omega | (simp only [go_sem] <;> omega) | fail)) only [go_sem, ints, bools, mat, z1, z2, z3]; fail_if_success (with_reducible show chk _ _)) | ((first | refine goC_k y5 ?_ | refine goOC_k y5 ?_); simp -implicitDefEqProofs (maxSteps := 1000000) (disch := (first | omega | (simp only [go_sem] <;> omega) | fail)) only [go_sem, ints, bools, mat, z1, z2, z3]; fail_if_success (with_reducible show chk _ _)) | ((first | refine goC_k y6 ?_ | refine goOC_k y6 ?_); simp -implicitDefEqProofs (maxSteps := 1000000) (disch := (first | omega | (simp only [go_sem] <;> omega) | fail)) only [go_sem, ints, bools, mat, z1, z2, z3]; fail_if_success (with_reducible show chk _ _)) | ((first | refine goC_k y7 ?_ | refine goOC_k y7 ?_); simp -implicitDefEqProofs (maxSteps := 1000000) (disch := (first | omega | (simp only [go_sem] <;> omega) | fail)) only [go_sem, ints, bools, mat, z1, z2, z3]; fail_if_success (with_reducible show chk _ _)) | ((first | refine goC_k y8 ?_ | refine goOC_k y8 ?_); simp -implicitDefEqProofs (maxSteps := 1000000) (disch := (first | omega | (simp only [go_sem] <;> omega) | fail)) only [go_sem, ints, bools, mat, z1, z2, z3]; fail_if_success (with_reducible show chk _ _)) | ((first | refine goC_k y9 ?_ | refine goOC_k y9 ?_); simp -implicitDefEqProofs (maxSteps := 1000000) (disch := (first | omega | (simp only [go_sem] <;> omega) | fail)) only [go_sem, ints, bools, mat, z1, z2, z3]; fail_if_success (with_reducible show chk _ _)) | ((first | refine goC_k y10 ?_ | refine goOC_k y10 ?_); simp -implicitDefEqProofs (maxSteps := 1000000) (disch := (first | omega | (simp only [go_sem] <;> omega) | fail)) only [go_sem, ints, bools, mat, z1, z2, z3]; fail_if_success (with_reducible show chk _ _)) | exact yq.q)) : P := h ⟨k⟩
theorem go_r3 {P : Prop} (h : P := by simp -implicitDefEqProofs (maxSteps := 1000000) (disch := (first | omega | (simp only [go_sem] <;> omega) | fail)) only [go_sem, ints, bools, mat, z1, z2, z3] <;> rfl) : P := h
theorem go_a3 {P : Prop} (h : P := by simp -implicitDefEqProofs (maxSteps := 1000000) (disch := (first | omega | (simp only [go_sem] <;> omega) | fail)) only [go_sem, ints, bools, mat, z1, z2, z3]) : P := h
theorem d_spec_l01In (a lo hi : Int) : Den PA f_spec_l01In [.d (di a), .d (di lo), .d (di hi)] [.any, .any, .any] (.d (db (decide (lo ≤ a) && decide (a ≤ hi)))) := by
  refine den_go [] l_spec_l01In ?_
  exact go_e0
def prodM (l : List Int) : Int := l.foldl (· * ·) 1
theorem take_one (l : List Int) {j : Nat} (h : j < l.length) : l.take (j + 1) = l.take j ++ [l.getD j 0] := by
  rw [List.take_add_one]; simp [h]
theorem prodM_step (l : List Int) {j : Nat} (h : j < l.length) : prodM (l.take (j + 1)) = prodM (l.take j) * l.getD j 0 := by
  rw [take_one l h]; simp [prodM]
theorem prodM_bnd (l : List Int) : ∀ j, j ≤ l.length → (∀ i, i < j → 2 ≤ l.getD i 0 ∧ l.getD i 0 ≤ 4) → 1 ≤ prodM (l.take j) ∧ prodM (l.take j) ≤ 4 ^ j
  | 0, _, _ => by simp [prodM]
  | j + 1, hj, h => by
    obtain ⟨h1, h2⟩ := prodM_bnd l j (by omega) (fun i hi => h i (by omega))
    obtain ⟨h3, h4⟩ := h j (by omega)
    rw [prodM_step l (by omega)]
    constructor
    · have := Int.mul_le_mul h1 (show (1 : Int) ≤ l.getD j 0 by omega) (by omega) (by omega)
      simpa using this
    · rw [Int.pow_succ]
      exact Int.mul_le_mul h2 h4 (by omega) (by omega)
theorem pow4 {j : Nat} (h : j ≤ 8) : (4 : Int) ^ j ≤ 65536 := by
  exact (by decide : ∀ j : Fin 9, (4 : Int) ^ (j : Nat) ≤ 65536) ⟨j, by omega⟩
theorem prodM_small (l : List Int) {j : Nat} (h8 : j ≤ 8) (hj : j ≤ l.length) (h : ∀ i, i < j → 2 ≤ l.getD i 0 ∧ l.getD i 0 ≤ 4) : 1 ≤ prodM (l.take j) ∧ prodM (l.take j) ≤ 65536 := by
  obtain ⟨h1, h2⟩ := prodM_bnd l j hj h
  exact ⟨h1, Int.le_trans h2 (pow4 h8)⟩
def isSpaceM (l : List Int) : Bool := decide (1 ≤ l.length) && decide (l.length ≤ 8) && l.all (fun n => decide (2 ≤ n) && decide (n ≤ 4)) && decide (prodM l ≤ 1024)
theorem isSpaceM_ok (l : List Int) : isSpaceM l = true ↔ (1 ≤ l.length ∧ l.length ≤ 8) ∧ (∀ j, j < l.length → 2 ≤ l.getD j 0 ∧ l.getD j 0 ≤ 4) ∧ prodM l ≤ 1024 := by
  simp only [isSpaceM, Bool.and_eq_true, decide_eq_true_eq, all_getD, and_assoc]
theorem d_spec_l01N (l : List Int) (h8 : l.length ≤ 8) (h : ∀ i, i < l.length → 2 ≤ l.getD i 0 ∧ l.getD i 0 ≤ 4) :
    Den PA f_spec_l01N [.d (.agg [ints l])] [.any] (.d (di (prodM l))) := by
  refine den_go [] l_spec_l01N ?_
  simp -implicitDefEqProofs (maxSteps := 1000000) (disch := (first | omega | (simp only [go_sem] <;> omega) | fail)) only [go_sem, ints, bools, mat, c_spec_l01N]
  refine go_loop (fun (j : Nat) => ⟨[(1, .ref 0 0), (3, .d (di (prodM (l.take j)))), (4, .d (di j))], [some (.var [ints l])]⟩) (fun j => j ≤ l.length) (fun j => l.length - j) 0 ?_ ?_ ?_
  · simp -implicitDefEqProofs (maxSteps := 1000000) (disch := (first | omega | (simp only [go_sem] <;> omega) | fail)) only [go_sem, ints, bools, mat]; rfl
  · simp
  · rintro j hj J hJ
    have hb := prodM_small l (j := j) (by omega) hj (fun i hi => h i (by omega))
    have hb' := fun hj' => prodM_small l (j := j + 1) (by omega) hj' (fun i hi => h i (by omega))
    have hs := fun hj' => prodM_step l (j := j) hj'
    repeat' (first | simp -implicitDefEqProofs (maxSteps := 1000000) (disch := (first | omega | (simp only [go_sem] <;> omega) | fail)) only [go_sem, ints, bools, mat] | ((first | apply goIf_b | apply goG_b | apply goTG_b | apply goOG_b) <;> intro h <;> ((try simp only [hnq] at h); (try simp only [h]); (try simp only [hnr] at h))))
    · rename_i hlt
      have hlt : j < l.length := by omega
      have h1 := hb' (by omega)
      rw [hs hlt] at h1
      refine hJ (j + 1) (by omega) (by omega) _ ?_
      simp -implicitDefEqProofs (maxSteps := 1000000) (disch := (first | omega | (simp only [go_sem] <;> omega) | fail)) only [go_sem, ints, bools, mat]
      rw [hs hlt]; rfl
theorem d_spec_l01Is (l : List Int) (hl : l.length < 1048577) :
    Den PA f_spec_l01Is [.d (.agg [ints l])] [.any] (.d (db (isSpaceM l))) := by
  have e := isSpaceM_ok l
  refine den_go [] l_spec_l01Is ?_
  simp -implicitDefEqProofs (maxSteps := 1000000) (disch := (first | omega | (simp only [go_sem] <;> omega) | fail)) only [go_sem, ints, bools, mat, c_spec_l01Is]
  have yc := d_spec_l01In l.length 1 8; first | refine goC_call [.r, .r, .r] yc ?_ | refine goOC_call [.r, .r, .r] yc ?_
  repeat' (first | simp -implicitDefEqProofs (maxSteps := 1000000) (disch := (first | omega | (simp only [go_sem] <;> omega) | fail)) only [go_sem, ints, bools, mat] | ((first | apply goIf_b | apply goG_b | apply goTG_b | apply goOG_b) <;> intro h <;> ((try simp only [hnq] at h); (try simp only [h]); (try simp only [hnr] at h))))
  rotate_left
  · exact dbF fun h' => by have := (e.1 h').1; omega
  refine go_loop (fun (j : Nat) => ⟨[(1, .ref 0 0), (3, .d (di j))], [some (.var [ints l])]⟩) (fun j => j ≤ l.length ∧ ∀ i, i < j → 2 ≤ l.getD i 0 ∧ l.getD i 0 ≤ 4) (fun j => l.length - j) 0 ?_ ?_ ?_
  · simp -implicitDefEqProofs (maxSteps := 1000000) (disch := (first | omega | (simp only [go_sem] <;> omega) | fail)) only [go_sem, ints, bools, mat]; rfl
  · simp
  · rintro j ⟨hj, hi⟩ J hJ
    repeat' (first | simp -implicitDefEqProofs (maxSteps := 1000000) (disch := (first | omega | (simp only [go_sem] <;> omega) | fail)) only [go_sem, ints, bools, mat] | ((first | apply goIf_b | apply goG_b | apply goTG_b | apply goOG_b) <;> intro h <;> ((try simp only [hnq] at h); (try simp only [h]); (try simp only [hnr] at h))))
    · have yc := d_spec_l01In (l.getD j 0) 2 4; first | refine goC_call [.r, .r, .r] yc ?_ | refine goOC_call [.r, .r, .r] yc ?_
      repeat' (first | simp -implicitDefEqProofs (maxSteps := 1000000) (disch := (first | omega | (simp only [go_sem] <;> omega) | fail)) only [go_sem, ints, bools, mat] | ((first | apply goIf_b | apply goG_b | apply goTG_b | apply goOG_b) <;> intro h <;> ((try simp only [hnq] at h); (try simp only [h]); (try simp only [hnr] at h))))
      · refine hJ (j + 1) ⟨by omega, fun i hi' => ?_⟩ (by omega) _ (by simp -implicitDefEqProofs (maxSteps := 1000000) (disch := (first | omega | (simp only [go_sem] <;> omega) | fail)) only [go_sem, ints, bools, mat]; rfl)
        rcases Nat.lt_or_ge i j with h' | h'
        · exact hi i h'
        · have : i = j := by omega
          subst this; assumption
      · exact dbF fun h' => by have := (e.1 h').2.1 j (by omega); omega
    · have hj' : j = l.length := by omega
      subst hj'
      have y1 := kc [.r] (d_spec_l01N l (by omega) hi); refine go_c0 ?_
      refine dbv ?_
      cases hm : isSpaceM l with
      | true => exact decide_eq_true (e.1 hm).2.2
      | false =>
        refine decide_eq_false fun hp => ?_
        have := e.2 ⟨by omega, hi, hp⟩
        rw [hm] at this; cases this
theorem d_impl_IsSpace (l : List Int) (hl : l.length < 1048577) :
    Den PA f_impl_IsSpace [.d (.agg [ints l])] [.any] (.d (db (isSpaceM l))) := by
  have e := isSpaceM_ok l
  refine den_go [] l_impl_IsSpace ?_
  repeat' (first | simp -implicitDefEqProofs (maxSteps := 1000000) (disch := (first | omega | (simp only [go_sem] <;> omega) | fail)) only [go_sem, ints, bools, mat, c_impl_IsSpace] | ((first | apply goIf_b | apply goG_b | apply goTG_b | apply goOG_b) <;> intro h <;> ((try simp only [hnq] at h); (try simp only [h]); (try simp only [hnr] at h))))
  · exact dbF fun h' => by have := (e.1 h').1; omega
  · refine go_loop (fun (j : Nat) => ⟨[(3, .d (di (prodM (l.take j)))), (17, .d (ints l)), (18, .d (di l.length)), (19, .d (di j))], []⟩) (fun j => j ≤ l.length ∧ ∀ i, i < j → 2 ≤ l.getD i 0 ∧ l.getD i 0 ≤ 4) (fun j => l.length - j) 0 ?_ ?_ ?_
    · simp -implicitDefEqProofs (maxSteps := 1000000) (disch := (first | omega | (simp only [go_sem] <;> omega) | fail)) only [go_sem, ints, bools, mat]; rfl
    · simp
    · rintro j ⟨hj, hi⟩ J hJ
      have hb := prodM_small l (j := j) (by omega) hj hi
      repeat' (first | simp -implicitDefEqProofs (maxSteps := 1000000) (disch := (first | omega | (simp only [go_sem] <;> omega) | fail)) only [go_sem, ints, bools, mat] | ((first | apply goIf_b | apply goG_b | apply goTG_b | apply goOG_b) <;> intro h <;> ((try simp only [hnq] at h); (try simp only [h]); (try simp only [hnr] at h))))
      · exact dbF fun h' => by have := (e.1 h').2.1 j (by omega); omega
      · have hi' : ∀ i, i < j + 1 → 2 ≤ l.getD i 0 ∧ l.getD i 0 ≤ 4 := fun i hi' => by
          rcases Nat.lt_or_ge i j with h' | h'
          · exact hi i h'
          · have : i = j := by omega
            subst this; exact ⟨by assumption, by assumption⟩
        have hb' := prodM_small l (j := j + 1) (by omega) (by omega) hi'
        have hs := prodM_step l (j := j) (by omega)
        rw [hs] at hb'
        refine hJ (j + 1) ⟨by omega, hi'⟩ (by omega) _ ?_
        simp -implicitDefEqProofs (maxSteps := 1000000) (disch := (first | omega | (simp only [go_sem] <;> omega) | fail)) only [go_sem, ints, bools, mat]
        rw [hs]; rfl
      · exact dbF fun h' => by have := (e.1 h').2.1 j (by omega); omega
      · have hj' : j = l.length := by omega
        subst hj'
        refine dbv ?_
        cases hm : isSpaceM l with
        | true => exact decide_eq_true (e.1 hm).2.2
        | false =>
          refine decide_eq_false fun hp => ?_
          have := e.2 ⟨by omega, hi, hp⟩
          rw [hm] at this; cases this
  · exact dbF fun h' => by have := (e.1 h').1; omega
theorem d_slices_IndexFunc (l : List Int) (p : Int → Bool) (g : List D → Value → Prop) (hg : ∀ n, g [di n] (.bool (p n))) (hl : l.length < 1048577) :
    Den PA f_slices_IndexFunc___int64_int64_ [.d (ints l), .pfn g] [.any, .any] (.d (di (match l.findIdx? p with | some j => j | none => -1))) := by
  refine den_go [] l_slices_IndexFunc___int64_int64_ ?_
  refine go_c0 ?_
  refine go_loop (fun (j : Nat) => ⟨[(0, .d (ints l)), (1, .pfn g), (7, .d (di l.length)), (8, .d (di j))], []⟩) (fun j => j ≤ l.length ∧ ∀ i, i < j → p (l.getD i 0) = false) (fun j => l.length - j) 0 ?_ ?_ ?_
  · simp -implicitDefEqProofs (maxSteps := 1000000) (disch := (first | omega | (simp only [go_sem] <;> omega) | fail)) only [go_sem, ints, bools, mat]; rfl
  · simp
  · rintro j ⟨hj, hi⟩ J hJ
    repeat' (first | simp -implicitDefEqProofs (maxSteps := 1000000) (disch := (first | omega | (simp only [go_sem] <;> omega) | fail)) only [go_sem, ints, bools, mat] | ((first | apply goIf_b | apply goG_b | apply goTG_b | apply goOG_b) <;> intro h <;> ((try simp only [hnq] at h); (try simp only [h]); (try simp only [hnr] at h))))
    · refine goV_pfn [di (l.getD j 0)] (.bool (p (l.getD j 0))) (by simp -implicitDefEqProofs (maxSteps := 1000000) (disch := (first | omega | (simp only [go_sem] <;> omega) | fail)) only [go_sem, ints, bools, mat]) rfl (hg _) ?_
      repeat' (first | simp -implicitDefEqProofs (maxSteps := 1000000) (disch := (first | omega | (simp only [go_sem] <;> omega) | fail)) only [go_sem, ints, bools, mat] | ((first | apply goIf_b | apply goG_b | apply goTG_b | apply goOG_b) <;> intro h <;> ((try simp only [hnq] at h); (try simp only [h]); (try simp only [hnr] at h))))
      · rw [findIdx_at (by omega) h hi]
      · refine hJ (j + 1) ⟨by omega, fun i hi' => ?_⟩ (by omega) _ (by simp -implicitDefEqProofs (maxSteps := 1000000) (disch := (first | omega | (simp only [go_sem] <;> omega) | fail)) only [go_sem, ints, bools, mat]; rfl)
        rcases Nat.lt_or_ge i j with h' | h'
        · exact hi i h'
        · have : i = j := by omega
          subst this; assumption
    · rw [findIdx_no fun i hi' => hi i (by omega)]
theorem d_slices_ContainsFunc (l : List Int) (p : Int → Bool) (g : List D → Value → Prop) (hg : ∀ n, g [di n] (.bool (p n))) (hl : l.length < 1048577) :
    Den PA f_slices_ContainsFunc___int64_int64_ [.d (ints l), .pfn g] [.any, .any] (.d (db (l.any p))) := by
  refine den_go [] l_slices_ContainsFunc___int64_int64_ ?_
  refine go_c0 ?_
  first | refine goC_of [.r, .g g] (d_slices_IndexFunc l p g hg hl) (by first | (simp -implicitDefEqProofs (maxSteps := 1000000) (disch := (first | omega | (simp only [go_sem] <;> omega) | fail)) only [go_sem, ints, bools, mat] <;> rfl) | rfl) (by first | (simp -implicitDefEqProofs (maxSteps := 1000000) (disch := (first | omega | (simp only [go_sem] <;> omega) | fail)) only [go_sem, ints, bools, mat] <;> rfl) | rfl) (⟨trivial, fun _ _ h => h, trivial⟩) (by first | (simp -implicitDefEqProofs (maxSteps := 1000000) (disch := (first | omega | (simp only [go_sem] <;> omega) | fail)) only [go_sem, ints, bools, mat] <;> rfl) | rfl) ?_ | refine goOC_of [.r, .g g] (d_slices_IndexFunc l p g hg hl) (by first | (simp -implicitDefEqProofs (maxSteps := 1000000) (disch := (first | omega | (simp only [go_sem] <;> omega) | fail)) only [go_sem, ints, bools, mat] <;> rfl) | rfl) (by first | (simp -implicitDefEqProofs (maxSteps := 1000000) (disch := (first | omega | (simp only [go_sem] <;> omega) | fail)) only [go_sem, ints, bools, mat] <;> rfl) | rfl) (by first | (simp -implicitDefEqProofs (maxSteps := 1000000) (disch := (first | omega | (simp only [go_sem] <;> omega) | fail)) only [go_sem, ints, bools, mat] <;> rfl) | rfl) (⟨trivial, fun _ _ h => h, trivial⟩) (by first | (simp -implicitDefEqProofs (maxSteps := 1000000) (disch := (first | omega | (simp only [go_sem] <;> omega) | fail)) only [go_sem, ints, bools, mat] <;> rfl) | rfl) ?_
  refine go_c0 ?_
  refine dbv ?_
  cases h : l.findIdx? p with
  | none =>
    rw [List.findIdx?_eq_none_iff] at h
    symm
    simpa using h
  | some j =>
    obtain ⟨hj, h1, _⟩ := List.findIdx?_eq_some_iff_getElem.1 h
    symm
    simpa using ⟨l[j], List.getElem_mem hj, h1⟩
theorem isSpaceM_q {l : List Int} (h : isSpaceM l = true) : ∀ j, j < l.length → 2 ≤ l.getD j 0 ∧ l.getD j 0 ≤ 4 := ((isSpaceM_ok l).1 h).2.1
theorem isSpaceM_n {l : List Int} (h : isSpaceM l = true) : 1 ≤ l.length ∧ l.length ≤ 8 := ((isSpaceM_ok l).1 h).1
abbrev nil : D := .v (.slice none 0 0)
def markL (n : Nat) (k : Int) : List Int := (List.range n).map fun (i : Nat) => k + (i : Int)
@[go_sem] theorem markL_len (n : Nat) (k : Int) : (markL n k).length = n := by simp [markL]
@[go_sem] theorem take_markL (n : Nat) (k : Int) : (markL n k).take n = markL n k := List.take_of_length_le (by rw [markL_len]; exact Nat.le_refl _)
@[go_sem] theorem cast_succ_sub (i : Nat) : ((i + 1 : Nat) : Int) - 1 = (i : Int) := by omega
@[go_sem] theorem cast_zero0 : ((0 : Nat) : Int) = 0 := rfl
theorem foldl_mul (l : List Int) : ∀ a : Int, l.foldl (· * ·) a = a * l.foldl (· * ·) 1 := by
  induction l with
  | nil => intro a; simp
  | cons q r ih => intro a; simp only [List.foldl_cons]; rw [ih (a * q), ih (1 * q), Int.one_mul, Int.mul_assoc]
theorem prodM_cons (q : Int) (r : List Int) : prodM (q :: r) = q * prodM r := by
  simp only [prodM, List.foldl_cons]; rw [foldl_mul, Int.one_mul]
theorem prodM_nil : prodM [] = 1 := rfl
def digM : List Int → Int → List Int
  | [], _ => []
  | q :: r, w => (w / prodM r) % q :: digM r w
theorem digM_len : ∀ (l : List Int) (w : Int), (digM l w).length = l.length
  | [], _ => rfl
  | _ :: r, w => by simp [digM, digM_len r w]
theorem drop_cons1 {l : List Int} {i : Nat} (h : i < l.length) : l.drop i = l.getD i 0 :: l.drop (i + 1) := by
  rw [List.drop_eq_getElem_cons h]; simp [h]
theorem digM_drop {l : List Int} (w : Int) {i : Nat} (h : i < l.length) : digM (l.drop i) w = (w / prodM (l.drop (i + 1))) % l.getD i 0 :: digM (l.drop (i + 1)) w := by
  rw [drop_cons1 h]; rfl
theorem prodM_drop {l : List Int} {i : Nat} (h : i < l.length) : prodM (l.drop i) = l.getD i 0 * prodM (l.drop (i + 1)) := by
  rw [drop_cons1 h, prodM_cons]
def szs (l : List Int) : Prop := ∀ j, j < l.length → 2 ≤ l.getD j 0 ∧ l.getD j 0 ≤ 4
theorem szs_tail {q : Int} {r : List Int} (h : szs (q :: r)) : szs r := fun j hj => by simpa using h (j + 1) (by simpa using hj)
theorem prodM_pos : ∀ {l : List Int}, szs l → 1 ≤ prodM l
  | [], _ => by simp [prodM]
  | q :: r, h => by
    have h1 := prodM_pos (szs_tail h)
    have h2 := h 0 (by simp)
    simp at h2
    rw [prodM_cons]
    have := Int.mul_le_mul (show (1 : Int) ≤ q by omega) h1 (by omega) (by omega)
    simpa using this
theorem szs_drop {l : List Int} (h : szs l) (k : Nat) : szs (l.drop k) := fun j hj => by
  have := h (k + j) (by simp at hj; omega)
  simpa [List.getD_eq_getElem?_getD, List.getElem?_drop] using this
theorem div_le_self {w p : Int} (h : 0 ≤ w) (hp : 1 ≤ p) : 0 ≤ w / p ∧ w / p ≤ w := by
  refine ⟨Int.ediv_nonneg h (by omega), Int.ediv_le_self _ h⟩
theorem div_step {l : List Int} {w : Int} {i : Nat} (hs : szs l) (h : i < l.length) : w / prodM (l.drop (i + 1)) / l.getD i 0 = w / prodM (l.drop i) := by
  rw [prodM_drop h, Int.mul_comm, Int.ediv_ediv_of_nonneg (by have := prodM_pos (szs_drop hs (i + 1)); omega)]
theorem mod_bnd {x q : Int} (h : 2 ≤ q ∧ q ≤ 4) : 0 ≤ x % q ∧ x % q < q ∧ x % q < 4 := by
  have h1 := Int.emod_nonneg x (show q ≠ 0 by omega)
  have h2 := Int.emod_lt_of_pos x (show 0 < q by omega)
  omega
def pad8 (ds : List Int) : List Int := (ds ++ List.replicate 8 0).take 8
@[go_sem] theorem pad8_len (ds : List Int) : (pad8 ds).length = 8 := by simp [pad8]
theorem pad8_eq {ds : List Int} (h : ds.length ≤ 8) : pad8 ds = ds ++ List.replicate (8 - ds.length) 0 := by
  rw [pad8, List.take_append, List.take_of_length_le h, List.take_replicate]
  congr 2; omega
abbrev dig (ds : List Int) : D := .agg ((pad8 ds).map dy)
theorem set_rep {i : Nat} (v : Int) (r : List Int) : (List.replicate (i + 1) 0 ++ r).set i v = List.replicate i 0 ++ v :: r := by
  rw [List.replicate_succ', List.append_assoc, List.set_append_right _ _ (by simp)]
  simp
theorem isSpaceM_szs {l : List Int} (h : isSpaceM l = true) : szs l := isSpaceM_q h
theorem isSpaceM_prod {l : List Int} (h : isSpaceM l = true) : prodM l ≤ 1024 := ((isSpaceM_ok l).1 h).2.2
theorem d_impl_count (l : List Int) (hs : isSpaceM l = true) : Den PA f_impl_count [.d (.agg [ints l])] [.any] (.d (di (prodM l))) := by
  have hn := isSpaceM_n hs
  refine den_go [] l_impl_count ?_
  refine go_c0 ?_
  refine go_loop (fun (j : Nat) => ⟨[(3, .d (di (prodM (l.take j)))), (7, .d (ints l)), (8, .d (di l.length)), (9, .d (di j))], []⟩) (fun j => j ≤ l.length) (fun j => l.length - j) 0 ?_ ?_ ?_
  · exact go_r0
  · simp
  · rintro j hj J hJ
    have hb := prodM_small l (j := j) (by omega) hj (fun i hi => isSpaceM_q hs i (by omega))
    have hb' := fun hj' => prodM_small l (j := j + 1) (by omega) hj' (fun i hi => isSpaceM_q hs i (by omega))
    have hst := fun hj' => prodM_step l (j := j) hj'
    repeat' (first | simp -implicitDefEqProofs (maxSteps := 1000000) (disch := (first | omega | (simp only [go_sem] <;> omega) | fail)) only [go_sem, ints, bools, mat] | ((first | apply goIf_b | apply goG_b | apply goTG_b | apply goOG_b) <;> intro h <;> ((try simp only [hnq] at h); (try simp only [h]); (try simp only [hnr] at h))))
    · have h1 := hb' (by omega)
      rw [hst (by omega)] at h1
      refine hJ (j + 1) (by omega) (by omega) _ ?_
      simp -implicitDefEqProofs (maxSteps := 1000000) (disch := (first | omega | (simp only [go_sem] <;> omega) | fail)) only [go_sem, ints, bools, mat]
      rw [hst (by omega)]; rfl
theorem d_impl_places (l : List Int) (hl : l.length < 1048577) : Den PA f_impl_places [.d (.agg [ints l])] [.any] (.d (di l.length)) := by
  refine den_go [] l_impl_places ?_
  exact go_e0
def inW (l : List Int) (w : Int) : Bool := decide (0 ≤ w) && decide (w < prodM l)
def areW (l ws : List Int) : Bool := ws.all (inW l)
theorem areW_ok (l ws : List Int) : areW l ws = true ↔ ∀ j, j < ws.length → 0 ≤ ws.getD j 0 ∧ ws.getD j 0 < prodM l := by
  simp only [areW, all_getD, inW, Bool.and_eq_true, decide_eq_true_eq]
theorem d_impl_areWords (l : List Int) (hs : isSpaceM l = true) (x : D) (ws : List Int) (hx : IsInts x ws) (hw : ws.length < 1048577) : Den PA f_impl_areWords [.d (.agg [ints l]), .d x] [.any, .any] (.d (db (areW l ws))) := by
  have e := areW_ok l ws
  refine den_go [] l_impl_areWords ?_
  simp -implicitDefEqProofs (maxSteps := 1000000) (disch := (first | omega | (simp only [go_sem] <;> omega) | fail)) only [go_sem, ints, bools, mat, c_impl_areWords]
  have yc := d_impl_count l hs; first | refine goC_call [.r] yc ?_ | refine goOC_call [.r] yc ?_
  rcases hx with rfl | ⟨rfl, rfl⟩
  · refine go_c0 ?_
    refine go_loop (fun (j : Nat) => ⟨[(5, .d (di (prodM l))), (10, .d (ints ws)), (11, .d (di ws.length)), (12, .d (di j))], []⟩) (fun j => j ≤ ws.length ∧ ∀ i, i < j → 0 ≤ ws.getD i 0 ∧ ws.getD i 0 < prodM l) (fun j => ws.length - j) 0 ?_ ?_ ?_
    · exact go_r0
    · simp
    · rintro j ⟨hj, hi⟩ J hJ
      repeat' (first | simp -implicitDefEqProofs (maxSteps := 1000000) (disch := (first | omega | (simp only [go_sem] <;> omega) | fail)) only [go_sem, ints, bools, mat] | ((first | apply goIf_b | apply goG_b | apply goTG_b | apply goOG_b) <;> intro h <;> ((try simp only [hnq] at h); (try simp only [h]); (try simp only [hnr] at h))))
      · exact dbF fun h' => by have := e.1 h' j (by omega); omega
      · refine hJ (j + 1) ⟨by omega, all_ext hi (by omega)⟩ (by omega) _ go_r0
      · exact dbF fun h' => by have := e.1 h' j (by omega); omega
      · exact dbT (e.2 fun i hi' => hi i (by omega))
  · refine go_c0 ?_
    refine go_loop (fun (_ : Unit) => ⟨[(5, .d (di (prodM l))), (10, .d nil), (11, .d (di 0)), (12, .d (di 0))], []⟩) (fun _ => True) (fun _ => 0) () ?_ trivial ?_
    · exact go_r0
    · intro _ _ J _
      refine go_c0 ?_
      exact dbT rfl
abbrev wcM (l ws : List Int) : Int := if isSpaceM l then (if areW l ws then 0 else 2) else 1
theorem d_impl_wordCode (l : List Int) (hl : l.length < 1048577) (x : D) (ws : List Int) (hx : IsInts x ws) (hw : ws.length < 1048577) : Den PA f_impl_wordCode [.d (.agg [ints l]), .d x] [.any, .any] (.d (di (wcM l ws))) := by
  refine den_go [] l_impl_wordCode ?_
  simp -implicitDefEqProofs (maxSteps := 1000000) (disch := (first | omega | (simp only [go_sem] <;> omega) | fail)) only [go_sem, ints, bools, mat, c_impl_wordCode, wcM]
  have yc := d_impl_IsSpace l hl; first | refine goC_call [.r] yc ?_ | refine goOC_call [.r] yc ?_
  repeat' (first | simp -implicitDefEqProofs (maxSteps := 1000000) (disch := (first | omega | (simp only [go_sem] <;> omega) | fail)) only [go_sem, ints, bools, mat] | ((first | apply goIf_b | apply goG_b | apply goTG_b | apply goOG_b) <;> intro h <;> ((try simp only [hnq] at h); (try simp only [h]); (try simp only [hnr] at h))))
  have yc := d_impl_areWords l h x ws hx hw; first | refine goC_call [.r, .r] yc ?_ | refine goOC_call [.r, .r] yc ?_
  exact go_e0
theorem d_impl_digitsOf (l : List Int) (hs : isSpaceM l = true) (w : Int) (hw : 0 ≤ w) (hw2 : w < 1000000000000) : Den PA f_impl_digitsOf [.d (.agg [ints l]), .d (di w)] [.any, .any] (.d (dig (digM l w))) := by
  have hn := isSpaceM_n hs
  have hz := isSpaceM_szs hs
  refine den_go [] l_impl_digitsOf ?_
  refine go_c0 ?_
  refine go_loop (fun (k : Nat) => ⟨[(1, .d (di (w / prodM (l.drop k)))), (2, .ref 0 0), (4, .ref 1 0), (5, .ref 2 0), (6, .d (di ((k : Int) - 1)))], [some (.var [ints l]), some (.var [dy 0, dy 0, dy 0, dy 0, dy 0, dy 0, dy 0, dy 0]), some (.var ((List.replicate k 0 ++ (digM (l.drop k) w ++ List.replicate (8 - l.length) 0)).map dy))]⟩) (fun k => k ≤ l.length) (fun k => k) l.length ?_ ?_ ?_
  · simp -implicitDefEqProofs (maxSteps := 1000000) (disch := (first | omega | (simp only [go_sem] <;> omega) | fail)) only [go_sem, ints, bools, mat]
    have e1 : l.drop l.length = [] := by simp
    have e2 : List.replicate l.length (0 : Int) ++ List.replicate (8 - l.length) 0 = List.replicate 8 0 := by
      rw [List.replicate_append_replicate]; congr 1; omega
    rw [e1, digM, List.nil_append, e2, prodM_nil, Int.ediv_one]; rfl
  · simp
  · intro k hk J hJ
    rcases k with _ | i
    · have hdl := digM_len l w
      refine go_c0 ?_
      simp [dig, pad8_eq (ds := digM l w) (by rw [digM_len]; omega), digM_len]
    · have hq := hz i (by omega)
      have hp := prodM_pos (szs_drop hz (i + 1))
      have hw' := div_le_self hw hp
      have hm := mod_bnd (x := w / prodM (l.drop (i + 1))) hq
      have hd := div_step (w := w) hz (i := i) (by omega)
      have hp' := prodM_pos (szs_drop hz i)
      have hw'' := div_le_self hw hp'
      have hlen : (List.replicate (i + 1) (0 : Int) ++ (digM (l.drop (i + 1)) w ++ List.replicate (8 - l.length) 0)).length = 8 := by simp [digM_len]; omega
      rw [← hd] at hw''
      refine go_c0 ?_
      refine hJ i (by omega) (by omega) _ ?_
      simp -implicitDefEqProofs (maxSteps := 1000000) (disch := (first | omega | (simp only [go_sem] <;> omega) | fail)) only [go_sem, ints, bools, mat]
      rw [set_rep, hd, digM_drop w (i := i) (by omega)]; rfl
theorem d_spec_l01Digits (l : List Int) (hs : isSpaceM l = true) (w : Int) (hw : 0 ≤ w) (hw2 : w < 1000000000000) : Den PA f_spec_l01Digits [.d (.agg [ints l]), .d (di w)] [.any, .any] (.own 1 ((digM l w).map di)) := by
  have hn := isSpaceM_n hs
  have hz := isSpaceM_szs hs
  refine den_go [] l_spec_l01Digits ?_
  refine go_c0 ?_
  refine go_loop (fun (k : Nat) => ⟨[(1, .d (di (w / prodM (l.drop k)))), (2, .ref 0 0), (5, .sl 1 0 l.length 1), (6, .d (di ((k : Int) - 1)))], [some (.var [ints l]), some (.dat 1 ((List.replicate k 0 ++ digM (l.drop k) w).map di))]⟩) (fun k => k ≤ l.length) (fun k => k) l.length ?_ ?_ ?_
  · simp -implicitDefEqProofs (maxSteps := 1000000) (disch := (first | omega | (simp only [go_sem] <;> omega) | fail)) only [go_sem, ints, bools, mat]
    have e1 : l.drop l.length = [] := by simp
    rw [e1, digM, List.append_nil, prodM_nil, Int.ediv_one]
  · simp
  · intro k hk J hJ
    rcases k with _ | i
    · have := digM_len l w
      refine go_c0 ?_
      simp
    · have hq := hz i (by omega)
      have hp := prodM_pos (szs_drop hz (i + 1))
      have hw' := div_le_self hw hp
      have hm := mod_bnd (x := w / prodM (l.drop (i + 1))) hq
      have hd := div_step (w := w) hz (i := i) (by omega)
      have hp' := prodM_pos (szs_drop hz i)
      have hw'' := div_le_self hw hp'
      have hlen : (List.replicate (i + 1) (0 : Int) ++ digM (l.drop (i + 1)) w).length = l.length := by simp [digM_len]; omega
      rw [← hd] at hw''
      refine go_c0 ?_
      refine hJ i (by omega) (by omega) _ ?_
      simp -implicitDefEqProofs (maxSteps := 1000000) (disch := (first | omega | (simp only [go_sem] <;> omega) | fail)) only [go_sem, ints, bools, mat]
      rw [set_rep, hd, digM_drop w (i := i) (by omega)]
def farM : List Int → List Int → Int
  | a :: r, b :: s => (if a = b then 0 else 1) + farM r s
  | _, _ => 0
def farN (a b : List Int) : Nat → Int
  | 0 => 0
  | j + 1 => farN a b j + (if a.getD j 0 = b.getD j 0 then 0 else 1)
abbrev distM (l : List Int) (u w : Int) : Int := farM (digM l u) (digM l w)
theorem farN_cons (x y : Int) (a b : List Int) : ∀ j, farN (x :: a) (y :: b) (j + 1) = (if x = y then 0 else 1) + farN a b j
  | 0 => by simp [farN]
  | j + 1 => by rw [farN, farN_cons x y a b j, farN, Int.add_assoc]; rfl
theorem farN_nn (a b : List Int) : ∀ j : Nat, 0 ≤ farN a b j ∧ farN a b j ≤ j
  | 0 => by simp [farN]
  | j + 1 => by have := farN_nn a b j; simp only [farN]; split <;> omega
theorem farN_farM : ∀ (a b z : List Int) (k : Nat), a.length = b.length → k = a.length + z.length → farN (a ++ z) (b ++ z) k = farM a b
  | [], [], z, k, _, hk => by
    simp only [List.nil_append, farM]
    clear hk
    induction k with
    | zero => rfl
    | succ k ih => simp [farN, ih]
  | x :: a, y :: b, z, k, h, hk => by
    rcases k with _ | k
    · simp only [List.length_cons] at hk; omega
    · rw [List.cons_append, List.cons_append, farN_cons, farN_farM a b z k (by simpa using h) (by simp at hk; omega)]; rfl
  | [], _ :: _, _, _, h, _ => by simp at h
  | _ :: _, [], _, _, h, _ => by simp at h
theorem farM_bnd : ∀ (a b : List Int), 0 ≤ farM a b ∧ farM a b ≤ a.length
  | [], _ => by simp [farM]
  | _ :: _, [] => by simp [farM]; omega
  | x :: a, y :: b => by have := farM_bnd a b; simp only [farM, List.length_cons]; split <;> omega
theorem distM_bnd (l : List Int) (u w : Int) : 0 ≤ distM l u w ∧ distM l u w ≤ l.length := by
  have := farM_bnd (digM l u) (digM l w); rwa [digM_len] at this
theorem d_impl_far (a b : List Int) (ha : a.length = b.length) (h8 : a.length ≤ 8) : Den PA f_impl_far [.d (dig a), .d (dig b)] [.any, .any] (.d (di (farM a b))) := by
  have e := farN_farM a b (List.replicate (8 - a.length) 0) 8 ha (by simp; omega)
  have ea := pad8_len a
  have eb := pad8_len b
  have e' : farN (pad8 a) (pad8 b) 8 = farM a b := by rw [← e, pad8_eq h8, pad8_eq (ds := b) (by omega)]; simp only [ha]
  refine den_go [] l_impl_far ?_
  refine go_c0 ?_
  refine go_loop (fun (j : Nat) => ⟨[(3, .ref 0 0), (5, .d (di (farN (pad8 a) (pad8 b) j))), (8, .d (dig a)), (9, .d (di j))], [some (.var ((pad8 b).map dy))]⟩) (fun j => j ≤ 8) (fun j => 8 - j) 0 ?_ ?_ ?_
  · exact go_r0
  · simp
  · rintro j hj J hJ
    have hb := farN_nn (pad8 a) (pad8 b) j
    repeat' (first | simp -implicitDefEqProofs (maxSteps := 1000000) (disch := (first | omega | (simp only [go_sem] <;> omega) | fail)) only [go_sem, ints, bools, mat] | ((first | apply goIf_b | apply goG_b | apply goTG_b | apply goOG_b) <;> intro h <;> ((try simp only [hnq] at h); (try simp only [h]); (try simp only [hnr] at h)) <;> (try (exfalso; omega))))
    · refine hJ (j + 1) (by omega) (by omega) _ ?_
      simp -implicitDefEqProofs (maxSteps := 1000000) (disch := (first | omega | (simp only [go_sem] <;> omega) | fail)) only [go_sem, ints, bools, mat]
      rw [farN, if_neg (by assumption)]; rfl
    · refine hJ (j + 1) (by omega) (by omega) _ ?_
      simp -implicitDefEqProofs (maxSteps := 1000000) (disch := (first | omega | (simp only [go_sem] <;> omega) | fail)) only [go_sem, ints, bools, mat]
      rw [farN, if_pos (by assumption), Int.add_zero]; rfl
    · have : j = 8 := by omega
      subst this; rw [e']
theorem d_spec_l01Distance (l : List Int) (hs : isSpaceM l = true) (u w : Int) (hu : 0 ≤ u) (hu2 : u < 1000000000000) (hw : 0 ≤ w) (hw2 : w < 1000000000000) : Den PA f_spec_l01Distance [.d (.agg [ints l]), .d (di u), .d (di w)] [.any, .any, .any] (.d (di (distM l u w))) := by
  have hn := isSpaceM_n hs
  have hz := isSpaceM_szs hs
  refine den_go [] l_spec_l01Distance ?_
  refine go_c0 ?_
  refine go_loop (fun (k : Nat) => ⟨[(1, .d (di (u / prodM (l.drop k)))), (2, .d (di (w / prodM (l.drop k)))), (3, .ref 0 0), (7, .d (di (farM (digM (l.drop k) u) (digM (l.drop k) w)))), (8, .d (di ((k : Int) - 1)))], [some (.var [ints l])]⟩) (fun k => k ≤ l.length) (fun k => k) l.length ?_ ?_ ?_
  · simp -implicitDefEqProofs (maxSteps := 1000000) (disch := (first | omega | (simp only [go_sem] <;> omega) | fail)) only [go_sem, ints, bools, mat]
    have e1 : l.drop l.length = [] := by simp
    rw [e1, digM, digM, farM, prodM_nil, Int.ediv_one, Int.ediv_one]
    intros; simp_all
  · simp
  · intro k hk J hJ
    rcases k with _ | i
    · exact go_e0
    · have hq := hz i (by omega)
      have hp := prodM_pos (szs_drop hz (i + 1))
      have hw' := div_le_self hw hp
      have hu' := div_le_self hu hp
      have hd := div_step (w := w) hz (i := i) (by omega)
      have hd2 := div_step (w := u) hz (i := i) (by omega)
      have hp' := prodM_pos (szs_drop hz i)
      have hw'' := div_le_self hw hp'
      have hu'' := div_le_self hu hp'
      have hf := farM_bnd (digM (l.drop (i + 1)) u) (digM (l.drop (i + 1)) w)
      rw [digM_len, List.length_drop] at hf
      rw [← hd] at hw''
      rw [← hd2] at hu''
      repeat' (first | simp -implicitDefEqProofs (maxSteps := 1000000) (disch := (first | omega | (simp only [go_sem] <;> omega) | fail)) only [go_sem, ints, bools, mat] | ((first | apply goIf_b | apply goG_b | apply goTG_b | apply goOG_b) <;> intro h <;> ((try simp only [hnq] at h); (try simp only [h]); (try simp only [hnr] at h)) <;> (try (exfalso; omega))))
      · refine hJ i (by omega) (by omega) _ ?_
        simp -implicitDefEqProofs (maxSteps := 1000000) (disch := (first | omega | (simp only [go_sem] <;> omega) | fail)) only [go_sem, ints, bools, mat]
        rw [hd, hd2, digM_drop w (i := i) (by omega), digM_drop u (i := i) (by omega), farM, if_neg h, Int.add_comm]
      · refine hJ i (by omega) (by omega) _ ?_
        simp -implicitDefEqProofs (maxSteps := 1000000) (disch := (first | omega | (simp only [go_sem] <;> omega) | fail)) only [go_sem, ints, bools, mat]
        rw [hd, hd2, digM_drop w (i := i) (by omega), digM_drop u (i := i) (by omega), farM, if_pos h, Int.zero_add]
@[go_sem] theorem and1_norm {x : Int} (h : 0 ≤ x) : ((x.toNat &&& (1 : Int).toNat : Nat) : Int) = x % 2 := by
  rw [show (1 : Int).toNat = 1 from rfl, and_one_toNat]; omega
def isCodeM (l c : List Int) : Bool := areW l c && (List.range (c.length - 1)).all fun j => decide (c.getD j 0 < c.getD (j + 1) 0)
theorem isCodeM_ok (l c : List Int) : isCodeM l c = true ↔ (∀ j, j < c.length → 0 ≤ c.getD j 0 ∧ c.getD j 0 < prodM l) ∧ ∀ j, j + 1 < c.length → c.getD j 0 < c.getD (j + 1) 0 := by
  simp only [isCodeM, Bool.and_eq_true, areW_ok, List.all_eq_true, List.mem_range, decide_eq_true_eq]
  constructor
  · rintro ⟨h1, h2⟩; exact ⟨h1, fun j hj => h2 j (by omega)⟩
  · rintro ⟨h1, h2⟩; exact ⟨h1, fun j hj => h2 j (by omega)⟩
theorem isCodeM_ge {l c : List Int} (h : isCodeM l c = true) : ∀ j : Nat, j < c.length → (j : Int) ≤ c.getD j 0
  | 0, hj => by have := ((isCodeM_ok l c).1 h).1 0 hj; simpa using this.1
  | j + 1, hj => by have := isCodeM_ge h j (by omega); have := ((isCodeM_ok l c).1 h).2 j hj; omega
theorem isCodeM_len {l c : List Int} (h : isCodeM l c = true) : (c.length : Int) ≤ prodM l ∨ c.length = 0 := by
  rcases Nat.eq_zero_or_pos c.length with h0 | h0
  · exact .inr h0
  · have h1 := isCodeM_ge h (c.length - 1) (by omega)
    have h2 := ((isCodeM_ok l c).1 h).1 (c.length - 1) (by omega)
    left; omega
theorem d_impl_isCode (l : List Int) (hs : isSpaceM l = true) (c : List Int) (hc : c.length < 1048577) : Den PA f_impl_isCode [.d (.agg [ints l]), .d (ints c)] [.any, .any] (.d (db (isCodeM l c))) := by
  have e := isCodeM_ok l c
  have hp1 := prodM_pos (isSpaceM_szs hs)
  refine den_go [] l_impl_isCode ?_
  simp -implicitDefEqProofs (maxSteps := 1000000) (disch := (first | omega | (simp only [go_sem] <;> omega) | fail)) only [go_sem, ints, bools, mat, c_impl_isCode]
  have yc := d_impl_count l hs; first | refine goC_call [.r] yc ?_ | refine goOC_call [.r] yc ?_
  repeat' (first | simp -implicitDefEqProofs (maxSteps := 1000000) (disch := (first | omega | (simp only [go_sem] <;> omega) | fail)) only [go_sem, ints, bools, mat] | ((first | apply goIf_b | apply goG_b | apply goTG_b | apply goOG_b) <;> intro h <;> ((try simp only [hnq] at h); (try simp only [h]); (try simp only [hnr] at h))))
  rotate_left
  · exact dbF fun h' => by have := isCodeM_len (l := l) (c := c) h'; omega
  have yc := d_impl_areWords l hs _ c (.inl rfl) hc; first | refine goC_call [.r, .r] yc ?_ | refine goOC_call [.r, .r] yc ?_
  repeat' (first | simp -implicitDefEqProofs (maxSteps := 1000000) (disch := (first | omega | (simp only [go_sem] <;> omega) | fail)) only [go_sem, ints, bools, mat] | ((first | apply goIf_b | apply goG_b | apply goTG_b | apply goOG_b) <;> intro h <;> ((try simp only [hnq] at h); (try simp only [h]); (try simp only [hnr] at h))))
  rotate_left
  · refine dbF fun h' => ?_
    have := (areW_ok l c).2 (e.1 h').1
    rw [h] at this; cases this
  have hw := (areW_ok l c).1 h
  refine go_loop (fun (j : Nat) => ⟨[(1, .d (ints c)), (5, .d (di ((j + 1 : Nat) : Int)))], []⟩) (fun j => (j + 1 ≤ c.length ∨ j = 0) ∧ ∀ i, i < j → c.getD i 0 < c.getD (i + 1) 0) (fun j => c.length - j) 0 ?_ ?_ ?_
  · exact go_r0
  · simp
  · rintro j ⟨hj, hi⟩ J hJ
    repeat' (first | simp -implicitDefEqProofs (maxSteps := 1000000) (disch := (first | omega | (simp only [go_sem] <;> omega) | fail)) only [go_sem, ints, bools, mat] | ((first | apply goIf_b | apply goG_b | apply goTG_b | apply goOG_b) <;> intro h <;> ((try simp only [hnq] at h); (try simp only [h]); (try simp only [hnr] at h)) <;> (try (exfalso; omega))))
    · exact dbF fun h' => by have := (e.1 h').2 j (by omega); omega
    · refine hJ (j + 1) ⟨.inl (by omega), all_ext hi (by omega)⟩ (by omega) _ go_r0
    · exact dbT (e.2 ⟨hw, fun i hi' => hi i (by omega)⟩)
theorem d_spec_l01Code (l : List Int) (hs : isSpaceM l = true) (c : List Int) (hc : c.length < 1048577) : Den PA f_spec_l01Code [.d (.agg [ints l]), .d (ints c)] [.any, .any] (.d (db (isCodeM l c))) := by
  have e := isCodeM_ok l c
  have hp := isSpaceM_prod hs
  have hp1 := prodM_pos (isSpaceM_szs hs)
  have hn := isSpaceM_n hs
  refine den_go [] l_spec_l01Code ?_
  simp -implicitDefEqProofs (maxSteps := 1000000) (disch := (first | omega | (simp only [go_sem] <;> omega) | fail)) only [go_sem, ints, bools, mat, c_spec_l01Code]
  refine go_loop (fun (j : Nat) => ⟨[(1, .d (ints c)), (2, .ref 0 0), (5, .d (di j))], [some (.var [ints l])]⟩) (fun j => j ≤ c.length ∧ (∀ i, i < j → 0 ≤ c.getD i 0 ∧ c.getD i 0 < prodM l) ∧ ∀ i, i + 1 < j → c.getD i 0 < c.getD (i + 1) 0) (fun j => c.length - j) 0 ?_ ?_ ?_
  · exact go_r0
  · simp
  · rintro j ⟨hj, hi, hk⟩ J hJ
    rcases j with _ | j
    · repeat' (first | simp -implicitDefEqProofs (maxSteps := 1000000) (disch := (first | omega | (simp only [go_sem] <;> omega) | fail)) only [go_sem, ints, bools, mat] | ((first | apply goIf_b | apply goG_b | apply goTG_b | apply goOG_b) <;> intro h <;> ((try simp only [hnq] at h); (try simp only [h]); (try simp only [hnr] at h)) <;> (try (exfalso; omega))))
      · have yc := d_spec_l01N l (by omega) (isSpaceM_q hs); first | refine goC_call [.r] yc ?_ | refine goOC_call [.r] yc ?_
        repeat' (first | simp -implicitDefEqProofs (maxSteps := 1000000) (disch := (first | omega | (simp only [go_sem] <;> omega) | fail)) only [go_sem, ints, bools, mat] | ((first | apply goIf_b | apply goG_b | apply goTG_b | apply goOG_b) <;> intro h <;> ((try simp only [hnq] at h); (try simp only [h]); (try simp only [hnr] at h)) <;> (try (exfalso; omega))))
        have yc := d_spec_l01In (c.getD 0 0) 0 (prodM l - 1); first | refine goC_call [.r, .r, .r] yc ?_ | refine goOC_call [.r, .r, .r] yc ?_
        repeat' (first | simp -implicitDefEqProofs (maxSteps := 1000000) (disch := (first | omega | (simp only [go_sem] <;> omega) | fail)) only [go_sem, ints, bools, mat] | ((first | apply goIf_b | apply goG_b | apply goTG_b | apply goOG_b) <;> intro h <;> ((try simp only [hnq] at h); (try simp only [h]); (try simp only [hnr] at h)) <;> (try (exfalso; omega))))
        · refine hJ 1 ⟨by omega, all_ext hi (by omega), fun i hi => by omega⟩ (by omega) _ go_r0
        · exact dbF fun h' => by have := (e.1 h').1 0 (by omega); omega
      · exact dbT (e.2 ⟨fun i hi' => by omega, fun i hi' => by omega⟩)
    · repeat' (first | simp -implicitDefEqProofs (maxSteps := 1000000) (disch := (first | omega | (simp only [go_sem] <;> omega) | fail)) only [go_sem, ints, bools, mat] | ((first | apply goIf_b | apply goG_b | apply goTG_b | apply goOG_b) <;> intro h <;> ((try simp only [hnq] at h); (try simp only [h]); (try simp only [hnr] at h)) <;> (try (exfalso; omega))))
      · have yc := d_spec_l01N l (by omega) (isSpaceM_q hs); first | refine goC_call [.r] yc ?_ | refine goOC_call [.r] yc ?_
        repeat' (first | simp -implicitDefEqProofs (maxSteps := 1000000) (disch := (first | omega | (simp only [go_sem] <;> omega) | fail)) only [go_sem, ints, bools, mat] | ((first | apply goIf_b | apply goG_b | apply goTG_b | apply goOG_b) <;> intro h <;> ((try simp only [hnq] at h); (try simp only [h]); (try simp only [hnr] at h)) <;> (try (exfalso; omega))))
        have yc := d_spec_l01In (c.getD (j + 1) 0) 0 (prodM l - 1); first | refine goC_call [.r, .r, .r] yc ?_ | refine goOC_call [.r, .r, .r] yc ?_
        repeat' (first | simp -implicitDefEqProofs (maxSteps := 1000000) (disch := (first | omega | (simp only [go_sem] <;> omega) | fail)) only [go_sem, ints, bools, mat] | ((first | apply goIf_b | apply goG_b | apply goTG_b | apply goOG_b) <;> intro h <;> ((try simp only [hnq] at h); (try simp only [h]); (try simp only [hnr] at h)) <;> (try (exfalso; omega))))
        · exact dbF fun h' => by have := (e.1 h').2 j (by omega); omega
        · refine hJ (j + 2) ⟨by omega, all_ext hi (by omega), fun i hi' => ?_⟩ (by omega) _ go_r0
          rcases Nat.lt_or_ge (i + 1) (j + 1) with h3 | h3
          · exact hk i h3
          · have : i = j := by omega
            subst this; assumption
        · exact dbF fun h' => by have := (e.1 h').1 (j + 1) (by omega); omega
      · exact dbT (e.2 ⟨fun i hi' => hi i (by omega), fun i hi' => hk i (by omega)⟩)
abbrev gcM (l c ws : List Int) : Int := if wcM l ws = 0 then (if isCodeM l c then 0 else 2) else wcM l ws
theorem wcM_space {l ws : List Int} (h : wcM l ws = 0) : isSpaceM l = true ∧ areW l ws = true := by
  unfold wcM at h
  split at h
  · rename_i hs
    split at h
    · rename_i hw; exact ⟨hs, hw⟩
    · cases h
  · cases h
theorem gcM_ok {l c ws : List Int} (h : gcM l c ws = 0) : isSpaceM l = true ∧ areW l ws = true ∧ isCodeM l c = true := by
  unfold gcM at h
  split at h
  · rename_i hw
    split at h
    · rename_i hc; exact ⟨(wcM_space hw).1, (wcM_space hw).2, hc⟩
    · cases h
  · rename_i hw; exact (hw h).elim
theorem d_impl_codeCode (l : List Int) (hl : l.length < 1048577) (c : List Int) (hc : c.length < 1048577) (x : D) (ws : List Int) (hx : IsInts x ws) (hw : ws.length < 1048577) :
    Den PA f_impl_codeCode [.d (.agg [ints l]), .d (ints c), .d x] [.any, .any, .any] (.d (di (gcM l c ws))) := by
  refine den_go [] l_impl_codeCode ?_
  simp -implicitDefEqProofs (maxSteps := 1000000) (disch := (first | omega | (simp only [go_sem] <;> omega) | fail)) only [go_sem, ints, bools, mat, c_impl_codeCode, gcM]
  have yc := d_impl_wordCode l hl x ws hx hw; first | refine goC_call [.r, .r] yc ?_ | refine goOC_call [.r, .r] yc ?_
  by_cases h : wcM l ws = 0
  · rw [h]
    have y1 := kc [.r, .r] (d_impl_isCode l (wcM_space h).1 c hc); exact go_e0
  · rw [if_neg h]
    generalize wcM l ws = a at h
    repeat' (first | simp -implicitDefEqProofs (maxSteps := 1000000) (disch := (first | omega | (simp only [go_sem] <;> omega) | fail)) only [go_sem, ints, bools, mat] | ((first | apply goIf_b | apply goG_b | apply goTG_b | apply goOG_b) <;> intro h <;> ((try simp only [hnq] at h); (try simp only [h]); (try simp only [hnr] at h))))
    omega
theorem wcM_nil (l : List Int) : wcM l [] = if isSpaceM l then 0 else 1 := by simp [wcM, areW]
abbrev ggM (l c : List Int) : Int := if isSpaceM l then (if isCodeM l c then 0 else 2) else 1
theorem gcM_nil (l c : List Int) : gcM l c [] = ggM l c := by
  simp only [gcM, wcM_nil]
  by_cases h : isSpaceM l = true
  · simp [h]
  · simp [h]
theorem ggM_ok {l c : List Int} (h : ggM l c = 0) : isSpaceM l = true ∧ isCodeM l c = true := by
  rw [← gcM_nil] at h; exact ⟨(gcM_ok h).1, (gcM_ok h).2.2⟩
theorem d_spec_l01Given (l : List Int) (hl : l.length < 1048577) (c : List Int) (hc : c.length < 1048577) :
    Den PA f_spec_l01Given [.d (.agg [ints l]), .d (ints c)] [.any, .any] (.d (di (ggM l c))) := by
  refine den_go [] l_spec_l01Given ?_
  simp -implicitDefEqProofs (maxSteps := 1000000) (disch := (first | omega | (simp only [go_sem] <;> omega) | fail)) only [go_sem, ints, bools, mat, c_spec_l01Given, ggM]
  have yc := d_spec_l01Is l hl; first | refine goC_call [.r] yc ?_ | refine goOC_call [.r] yc ?_
  repeat' (first | simp -implicitDefEqProofs (maxSteps := 1000000) (disch := (first | omega | (simp only [go_sem] <;> omega) | fail)) only [go_sem, ints, bools, mat] | ((first | apply goIf_b | apply goG_b | apply goTG_b | apply goOG_b) <;> intro h <;> ((try simp only [hnq] at h); (try simp only [h]); (try simp only [hnr] at h))))
  have yc := d_spec_l01Code l h c hc; first | refine goC_call [.r, .r] yc ?_ | refine goOC_call [.r, .r] yc ?_
  exact go_e0
theorem d_impl_isRadius (r : Int) : Den PA f_impl_isRadius [.d (di r)] [.any] (.d (db (decide (0 ≤ r) && decide (r ≤ 8)))) := by
  refine den_go [] l_impl_isRadius ?_
  exact go_e0
abbrev scM5 (l c ws : List Int) : Int := if gcM l c ws = 0 then (if c.length = 0 then 5 else 0) else gcM l c ws
theorem d_impl_someCode (l : List Int) (hl : l.length < 1048577) (c : List Int) (hc : c.length < 1048577) (x : D) (ws : List Int) (hx : IsInts x ws) (hw : ws.length < 1048577) :
    Den PA f_impl_someCode [.d (.agg [ints l]), .d (ints c), .d x] [.any, .any, .any] (.d (di (scM5 l c ws))) := by
  refine den_go [] l_impl_someCode ?_
  simp -implicitDefEqProofs (maxSteps := 1000000) (disch := (first | omega | (simp only [go_sem] <;> omega) | fail)) only [go_sem, ints, bools, mat, c_impl_someCode, scM5]
  have yc := d_impl_codeCode l hl c hc x ws hx hw; first | refine goC_call [.r, .r, .r] yc ?_ | refine goOC_call [.r, .r, .r] yc ?_
  by_cases h : gcM l c ws = 0
  · rw [h]
    repeat' (first | simp -implicitDefEqProofs (maxSteps := 1000000) (disch := (first | omega | (simp only [go_sem] <;> omega) | fail)) only [go_sem, ints, bools, mat] | ((first | apply goIf_b | apply goG_b | apply goTG_b | apply goOG_b) <;> intro h <;> ((try simp only [hnq] at h); (try simp only [h]); (try simp only [hnr] at h))))
    · rw [if_pos (by omega)]
    · rw [if_neg (by omega)]
  · rw [if_neg h]
    generalize gcM l c ws = a at h
    repeat' (first | simp -implicitDefEqProofs (maxSteps := 1000000) (disch := (first | omega | (simp only [go_sem] <;> omega) | fail)) only [go_sem, ints, bools, mat] | ((first | apply goIf_b | apply goG_b | apply goTG_b | apply goOG_b) <;> intro h <;> ((try simp only [hnq] at h); (try simp only [h]); (try simp only [hnr] at h))))
    all_goals (exfalso; omega)
theorem flat_dig (ds : List (List Int)) : flat (ds.map fun d => D.agg ((pad8 d).map dy)) = ds.flatMap fun d => (pad8 d).map dy := by
  induction ds with
  | nil => rfl
  | cons d r ih => simp only [flat, List.map_cons, List.flatMap_cons] at ih ⊢; rw [ih]; rfl
theorem drop_dig (ds : List (List Int)) : ∀ i, i < ds.length → ((ds.flatMap fun d => (pad8 d).map dy).drop (i * 8)).take 8 = (pad8 (ds.getD i [])).map dy := by
  induction ds with
  | nil => intro i hi; simp at hi
  | cons d r ih =>
    intro i hi
    rcases i with _ | i
    · rw [List.flatMap_cons, Nat.zero_mul, List.drop_zero, List.take_left' (by simp [pad8_len])]; rfl
    · rw [List.flatMap_cons, Nat.succ_mul, Nat.add_comm, ← List.drop_drop, List.drop_left' (by simp [pad8_len]), ih i (by simpa using hi)]; rfl
theorem len_dig (ds : List (List Int)) : (ds.flatMap fun d => (pad8 d).map dy).length = ds.length * 8 := by
  induction ds with
  | nil => rfl
  | cons d r ih => simp [List.flatMap_cons, ih, Nat.succ_mul, Nat.add_comm, pad8_len]
abbrev digs (ds : List (List Int)) : List D := ds.map fun d => D.agg ((pad8 d).map dy)
@[go_sem] theorem ldC_dig {ds : List (List Int)} {i : Nat} (h : i < ds.length) : ldC true 8 (flat (ds.map fun d => D.agg ((pad8 d).map dy))) (i * 8) = some (.d (.agg ((pad8 (ds.getD i [])).map dy))) := by
  rw [flat_dig]
  have h1 := drop_dig ds i h
  have h2 := len_dig ds
  unfold ldC
  rw [if_pos rfl]
  split
  · rename_i hc
    rw [hc.1, List.drop_zero, List.take_of_length_le (by omega)] at h1
    rw [h1]
  · rw [if_pos (by omega), h1]
@[go_sem] theorem get_dig {ds : List (List Int)} {i : Nat} (h : i < ds.length) : (ds.map fun d => D.agg ((pad8 d).map dy))[i]? = some (D.agg ((pad8 (ds.getD i [])).map dy)) := by simp [h]
@[go_sem] theorem app_dig (ds : List (List Int)) (d : List Int) : (ds.map fun d => D.agg ((pad8 d).map dy)) ++ [D.agg ((pad8 d).map dy)] = (ds ++ [d]).map fun d => D.agg ((pad8 d).map dy) := by simp
@[go_sem] theorem mul_mod8 (i : Nat) : i * 8 % 8 = 0 := Nat.mul_mod_left i 8
@[go_sem] theorem mul_div8 (i : Nat) : i * 8 / 8 = i := by omega
def digsM (l c : List Int) : List (List Int) := c.map (digM l)
@[go_sem] theorem digsM_len (l c : List Int) : (digsM l c).length = c.length := by simp [digsM]
theorem digsM_get (l c : List Int) {i : Nat} (h : i < c.length) : (digsM l c).getD i [] = digM l (c.getD i 0) := by simp [digsM, h]
theorem digsM_step (l c : List Int) {j : Nat} (h : j < c.length) : digsM l (c.take (j + 1)) = digsM l (c.take j) ++ [digM l (c.getD j 0)] := by
  rw [take_one c h]; simp [digsM]
theorem d_impl_digitsOfAll (l : List Int) (hs : isSpaceM l = true) (c : List Int) (hc : c.length < 1048577) (hz : ∀ j, j < c.length → 0 ≤ c.getD j 0 ∧ c.getD j 0 < 1000000000000) :
    Den PA f_impl_digitsOfAll [.d (.agg [ints l]), .d (ints c)] [.any, .any] (.own 8 (digs (digsM l c))) := by
  refine den_go [] l_impl_digitsOfAll ?_
  refine go_c0 ?_
  refine go_loop (fun (j : Nat) => ⟨[(2, .ref 0 0), (5, .sl 1 0 j 8), (9, .d (ints c)), (10, .d (di c.length)), (11, .d (di j))], [some (.var [ints l]), some (.dat 8 (digs (digsM l (c.take j))))]⟩) (fun j => j ≤ c.length) (fun j => c.length - j) 0 ?_ ?_ ?_
  · exact go_r0
  · simp
  · rintro j hj J hJ
    have hst := fun h => digsM_step l c (j := j) h
    have hlen : (c.take j).length = j := by simp; omega
    have hlen2 : (digsM l (c.take j)).length = j := by rw [digsM_len]; exact hlen
    repeat' (first | simp -implicitDefEqProofs (maxSteps := 1000000) (disch := (first | omega | (simp only [go_sem] <;> omega) | fail)) only [go_sem, ints, bools, mat] | ((first | apply goIf_b | apply goG_b | apply goTG_b | apply goOG_b) <;> intro h <;> ((try simp only [hnq] at h); (try simp only [h]); (try simp only [hnr] at h))))
    · have y1 := kc [.r, .r] (d_impl_digitsOf l hs (c.getD j 0) (hz j (by omega)).1 (hz j (by omega)).2); refine go_c0 ?_
      refine hJ (j + 1) (by omega) (by omega) _ ?_
      simp -implicitDefEqProofs (maxSteps := 1000000) (disch := (first | omega | (simp only [go_sem] <;> omega) | fail)) only [go_sem, ints, bools, mat]
      rw [hst (by omega)]; rfl
def allW (l : List Int) : List Int := (List.range (prodM l).toNat).map fun (w : Nat) => (w : Int)
@[go_sem] theorem allW_len (l : List Int) : (allW l).length = (prodM l).toNat := by simp [allW]
theorem allW_get (l : List Int) {i : Nat} (h : i < (prodM l).toNat) : (allW l).getD i 0 = i := by simp [allW, h]
theorem take_allW (l : List Int) {j : Nat} (h : j < (prodM l).toNat) : (allW l).take (j + 1) = (allW l).take j ++ [(j : Int)] := by
  rw [take_one _ (by rw [allW_len]; exact h), allW_get l h]
theorem d_impl_allDigits (l : List Int) (hs : isSpaceM l = true) : Den PA f_impl_allDigits [.d (.agg [ints l])] [.any] (.own 8 (digs (digsM l (allW l)))) := by
  have hn := isSpaceM_n hs
  have hp := isSpaceM_prod hs
  have hp1 := prodM_pos (isSpaceM_szs hs)
  refine den_go [] l_impl_allDigits ?_
  have y1 := kc [.r] (d_impl_count l hs); refine go_c0 ?_
  refine go_loop (fun (j : Nat) => ⟨[(1, .ref 0 0), (3, .sl 1 0 j 8), (7, .d (di (prodM l))), (8, .d (di j))], [some (.var [ints l]), some (.dat 8 (digs (digsM l ((allW l).take j))))]⟩) (fun j => j ≤ (prodM l).toNat) (fun j => (prodM l).toNat - j) 0 ?_ ?_ ?_
  · exact go_r0
  · simp
  · rintro j hj J hJ
    have hal := allW_len l
    have hlen2 : (digsM l ((allW l).take j)).length = j := by rw [digsM_len, List.length_take, hal]; omega
    have hlen3 : (digsM l (allW l)).length = (prodM l).toNat := by rw [digsM_len, hal]
    repeat' (first | simp -implicitDefEqProofs (maxSteps := 1000000) (disch := (first | omega | (simp only [go_sem] <;> omega) | fail)) only [go_sem, ints, bools, mat] | ((first | apply goIf_b | apply goG_b | apply goTG_b | apply goOG_b) <;> intro h <;> ((try simp only [hnq] at h); (try simp only [h]); (try simp only [hnr] at h))))
    · have y1 := kc [.r, .r] (d_impl_digitsOf l hs j (by omega) (by omega)); refine go_c0 ?_
      refine hJ (j + 1) (by omega) (by omega) _ ?_
      simp -implicitDefEqProofs (maxSteps := 1000000) (disch := (first | omega | (simp only [go_sem] <;> omega) | fail)) only [go_sem, ints, bools, mat]
      rw [digsM_step _ _ (by rw [hal]; omega), allW_get l (by omega)]; rfl
abbrev lstR (b : Int) (v : List Int) : R := if b = 0 then .tup [.own 1 (v.map di), .d (di 0)] else .tup [.d nil, .d (di b)]
theorem lstR_ok {b : Int} {v : List Int} (h : b = 0) : lstR b v = .tup [.own 1 (v.map di), .d (di 0)] := by simp [lstR, h]
theorem lstR_no {b : Int} {v : List Int} (h : ¬ b = 0) : lstR b v = .tup [.d nil, .d (di b)] := by simp [lstR, h]
def histS (o : List Int) (d : Int) : List Int := o.set d.toNat (o.getD d.toNat 0 + 1)
def hist (n : Nat) (ds : List Int) : List Int := ds.foldl histS (List.replicate n 0)
theorem foldl_hist_len (ds : List Int) : ∀ o : List Int, (ds.foldl histS o).length = o.length := by
  induction ds with
  | nil => intro o; rfl
  | cons d r ih => intro o; rw [List.foldl_cons, ih]; simp [histS]
@[go_sem] theorem hist_len (n : Nat) (ds : List Int) : (hist n ds).length = n := by rw [hist, foldl_hist_len]; simp
theorem foldl_hist_bnd (ds : List Int) : ∀ (o : List Int) (b : Int), (∀ i, 0 ≤ o.getD i 0 ∧ o.getD i 0 ≤ b) → 0 ≤ b → ∀ i, 0 ≤ (ds.foldl histS o).getD i 0 ∧ (ds.foldl histS o).getD i 0 ≤ b + ds.length := by
  induction ds with
  | nil => intro o b h hb i; simpa using h i
  | cons d r ih =>
    intro o b h hb i
    rw [List.foldl_cons]
    have := ih (histS o d) (b + 1) (fun i => by
      have h1 := h d.toNat
      have h2 := h i
      simp only [histS, List.getD_eq_getElem?_getD, List.getElem?_set] at h1 h2 ⊢
      split
      · split
        · simp; omega
        · simp; omega
      · omega) (by omega) i
    simp only [List.length_cons]; omega
theorem gcM_eq (l c ws : List Int) : (if wcM l ws = 0 then ggM l c else wcM l ws) = gcM l c ws := by
  by_cases h : wcM l ws = 0
  · rw [if_pos h, gcM, if_pos h, ggM, if_pos (wcM_space h).1]
  · rw [if_neg h, gcM, if_neg h]
theorem isCodeM_get {l c : List Int} (h : isCodeM l c = true) {j : Nat} (hj : j < c.length) : 0 ≤ c.getD j 0 ∧ c.getD j 0 < prodM l := ((isCodeM_ok l c).1 h).1 j hj
theorem d_impl_codeCode0 (l : List Int) (hl : l.length < 1048577) (c : List Int) (hc : c.length < 1048577) :
    Den PA f_impl_codeCode [.d (.agg [ints l]), .d (ints c), .d nil] [.any, .any, .any] (.d (di (ggM l c))) := by
  rw [← gcM_nil]; exact d_impl_codeCode l hl c hc nil [] (.inr ⟨rfl, rfl⟩) (by simp)
theorem farM_comm : ∀ (a b : List Int), farM a b = farM b a
  | [], [] => rfl
  | [], _ :: _ => rfl
  | _ :: _, [] => rfl
  | x :: a, y :: b => by
    simp only [farM, farM_comm a b]
    by_cases h : x = y
    · simp [h]
    · rw [if_neg h, if_neg (fun e => h e.symm)]
theorem distM_comm (l : List Int) (u w : Int) : distM l u w = distM l w u := farM_comm _ _
attribute [go_sem] Nat.sub_zero
def mn2 (a b : Int) : Int := if b < a then b else a
@[go_sem] theorem mnA_mn2 (a b : Int) : mnA (.d (di a)) (.d (di b)) = some (.d (di (mn2 a b))) := rfl
def mx2 (a b : Int) : Int := if a < b then b else a
@[go_sem] theorem mxA_mx2 (a b : Int) : mxA (.d (di a)) (.d (di b)) = some (.d (di (mx2 a b))) := rfl
theorem scM5_eq (l c ws : List Int) : scM5 l c ws = if wcM l ws = 0 then (if ggM l c = 0 then (if c.length = 0 then 5 else 0) else ggM l c) else wcM l ws := by
  unfold scM5
  rw [← gcM_eq]
  by_cases h : wcM l ws = 0
  · rw [if_pos h, if_pos h]
  · rw [if_neg h, if_neg h, if_neg h]
theorem chk_intro {c p : Prop} (h : c) (k : p) : chk c p := ⟨h, k⟩
theorem fnOK_mk {P : Program} {sto : Sto} {f : FuncId} {caps : List AV} {g : List D → Value → Prop} (h : okF P f) (boxes : List (List D)) (hb : caps.map (boxR sto) = boxes.map some) (hg : ∀ ds r, g ds r → ∃ rs', Den P f (ds.map .d ++ boxes.map .box) rs' (.d (.v r))) :
    FnOK P sto (.fn f caps) g := ⟨h, boxes, hb, hg⟩
def fnD (n : Nat) (p : List Int → Bool) : List D → Value → Prop := fun ds r => ∃ a : List Int, a.length = n ∧ (∀ i, 0 ≤ a.getD i 0 ∧ a.getD i 0 < 4) ∧ ds = [D.agg ((pad8 a).map dy)] ∧ r = .bool (p a)
theorem digM_bnd : ∀ {l : List Int} (w : Int), szs l → ∀ i, 0 ≤ (digM l w).getD i 0 ∧ (digM l w).getD i 0 < 4
  | [], w, h, i => by simp [digM]
  | q :: r, w, h, 0 => by
    have h2 := h 0 (by simp)
    simp at h2
    have := mod_bnd (x := w / prodM r) h2
    simp [digM]; omega
  | q :: r, w, h, i + 1 => by simpa [digM] using digM_bnd w (szs_tail h) i
theorem fnD_mk {l : List Int} (hs : isSpaceM l = true) (p : List Int → Bool) (w : Int) : fnD l.length p [D.agg ((pad8 (digM l w)).map dy)] (.bool (p (digM l w))) := ⟨digM l w, digM_len l w, digM_bnd w (isSpaceM_szs hs), rfl, rfl⟩
def thoseM (l : List Int) (p : List Int → Bool) : List Int := (allW l).filter fun w => p (digM l w)
theorem filter_len_le {α : Type} (p : α → Bool) (l : List α) (n : Nat) (h : l.length ≤ n) : (l.filter p).length ≤ n := Nat.le_trans (List.length_filter_le p l) h
theorem d_impl_those (l : List Int) (hs : isSpaceM l = true) (p : List Int → Bool) (g : List D → Value → Prop) (hg : ∀ w, g [D.agg ((pad8 (digM l w)).map dy)] (.bool (p (digM l w)))) :
    Den PA f_impl_those [.d (.agg [ints l]), .pfn g] [.any, .any] (.own 1 ((thoseM l p).map di)) := by
  have hn := isSpaceM_n hs
  have hp := isSpaceM_prod hs
  have hp1 := prodM_pos (isSpaceM_szs hs)
  have hal := allW_len l
  refine den_go [] l_impl_those ?_
  have y1 := kc [.r] (d_impl_allDigits l hs); refine go_c0 ?_
  refine go_loop (fun (j : Nat) => ⟨[(1, .pfn g), (5, .sl 0 0 (((allW l).take j).filter fun w => p (digM l w)).length 1), (10, .sl 1 0 (prodM l).toNat 8), (11, .d (di (prodM l).toNat)), (12, .d (di j))], [some (.dat 1 ((((allW l).take j).filter fun w => p (digM l w)).map di)), some (.dat 8 (digs (digsM l (allW l))))]⟩) (fun j => j ≤ (prodM l).toNat) (fun j => (prodM l).toNat - j) 0 ?_ ?_ ?_
  · exact go_r0
  · simp
  · rintro j hj J hJ
    have hgd := fun h => digsM_get l (allW l) (i := j) h
    have hw := fun h => allW_get l (i := j) h
    have hfl := filter_len_le (fun w => p (digM l w)) ((allW l).take j) j (by simp; omega)
    repeat' (first | simp -implicitDefEqProofs (maxSteps := 1000000) (disch := (first | omega | (simp only [go_sem] <;> omega) | fail)) only [go_sem, ints, bools, mat] | ((first | apply goIf_b | apply goG_b | apply goTG_b | apply goOG_b) <;> intro h <;> ((try simp only [hnq] at h); (try simp only [h]); (try simp only [hnr] at h))))
    · rw [hgd (by omega), hw (by omega)]
      refine goV_pfn [D.agg ((pad8 (digM l j)).map dy)] (.bool (p (digM l j))) (by simp -implicitDefEqProofs (maxSteps := 1000000) (disch := (first | omega | (simp only [go_sem] <;> omega) | fail)) only [go_sem, ints, bools, mat]) rfl (hg _) ?_
      repeat' (first | simp -implicitDefEqProofs (maxSteps := 1000000) (disch := (first | omega | (simp only [go_sem] <;> omega) | fail)) only [go_sem, ints, bools, mat] | ((first | apply goIf_b | apply goG_b | apply goTG_b | apply goOG_b) <;> intro h <;> ((try simp only [hnq] at h); (try simp only [h]); (try simp only [hnr] at h))))
      · refine hJ (j + 1) (by omega) (by omega) _ ?_
        simp -implicitDefEqProofs (maxSteps := 1000000) (disch := (first | omega | (simp only [go_sem] <;> omega) | fail)) only [go_sem, ints, bools, mat]
        rw [take_allW l (by omega), List.filter_append]; simp [h]
      · refine hJ (j + 1) (by omega) (by omega) _ ?_
        simp -implicitDefEqProofs (maxSteps := 1000000) (disch := (first | omega | (simp only [go_sem] <;> omega) | fail)) only [go_sem, ints, bools, mat]
        rw [take_allW l (by omega), List.filter_append]; simp [h]
    · have : j = (prodM l).toNat := by omega
      subst this
      refine go_c0 ?_
      rfl
theorem d_spec_l04Code (l : List Int) (hl : l.length < 1048577) (d lo hi : Int) : Den PA f_spec_l04Code [.d (.agg [ints l]), .d (di d), .d (di lo), .d (di hi)] [.any, .any, .any, .any] (.d (di (if isSpaceM l then (if lo ≤ d ∧ d ≤ hi then 0 else 2) else 1))) := by
  refine den_go [] l_spec_l04Code ?_
  simp -implicitDefEqProofs (maxSteps := 1000000) (disch := (first | omega | (simp only [go_sem] <;> omega) | fail)) only [go_sem, ints, bools, mat, c_spec_l04Code]
  have yc := d_spec_l01Is l hl; first | refine goC_call [.r] yc ?_ | refine goOC_call [.r] yc ?_
  repeat' (first | simp -implicitDefEqProofs (maxSteps := 1000000) (disch := (first | omega | (simp only [go_sem] <;> omega) | fail)) only [go_sem, ints, bools, mat] | ((first | apply goIf_b | apply goG_b | apply goTG_b | apply goOG_b) <;> intro h <;> ((try simp only [hnq] at h); (try simp only [h]); (try simp only [hnr] at h))))
  have yc := d_spec_l01In d lo hi; first | refine goC_call [.r, .r, .r] yc ?_ | refine goOC_call [.r, .r, .r] yc ?_
  repeat' (first | simp -implicitDefEqProofs (maxSteps := 1000000) (disch := (first | omega | (simp only [go_sem] <;> omega) | fail)) only [go_sem, ints, bools, mat] | ((first | apply goIf_b | apply goG_b | apply goTG_b | apply goOG_b) <;> intro h <;> ((try simp only [hnq] at h); (try simp only [h]); (try simp only [hnr] at h))))
  · rw [if_pos (by omega)]
  · rw [if_neg (by omega)]
theorem pad8_get {ds : List Int} (h : ds.length ≤ 8) (i : Nat) : (pad8 ds).getD i 0 = ds.getD i 0 := by
  rw [pad8_eq h, List.getD_eq_getElem?_getD, List.getElem?_append]
  split
  · rw [← List.getD_eq_getElem?_getD]
  · rename_i hge
    rw [List.getElem?_replicate]
    have : ds.getD i 0 = 0 := by simp [List.getD_eq_getElem?_getD, show ds[i]? = none by simp; omega]
    rw [this]; split <;> simp
def or2 (x d : Int) : Int := ((x.toNat ||| (2 ^ d.toNat : Int).toNat : Nat) : Int)
def orN (t a : List Int) : Nat → List Int
  | 0 => t
  | j + 1 => (orN t a j).set j (or2 ((orN t a j).getD j 0) (a.getD j 0))
@[go_sem] theorem orN_len (t a : List Int) : ∀ j, (orN t a j).length = t.length
  | 0 => rfl
  | j + 1 => by rw [orN, List.length_set, orN_len t a j]
def lsN (l c : List Int) : Nat → List Int
  | 0 => List.replicate l.length 0
  | j + 1 => orN (lsN l c j) (digM l (c.getD j 0)) l.length
@[go_sem] theorem lsN_len (l c : List Int) : ∀ j, (lsN l c j).length = l.length
  | 0 => by simp [lsN]
  | j + 1 => by rw [lsN, orN_len, lsN_len l c j]
abbrev sgM (l c : List Int) : Int := if ggM l c = 0 then (if c.length = 0 then 5 else 0) else ggM l c
theorem scM5_nil (l c : List Int) : scM5 l c [] = sgM l c := by simp only [scM5, gcM_nil]
theorem sgM_ok {l c : List Int} (h : sgM l c = 0) : isSpaceM l = true ∧ isCodeM l c = true ∧ c.length ≠ 0 := by
  unfold sgM at h
  split at h
  · rename_i hg
    split at h
    · cases h
    · rename_i hc; exact ⟨(ggM_ok hg).1, (ggM_ok hg).2, hc⟩
  · rename_i hg; exact (hg h).elim
theorem d_impl_someCode0 (l : List Int) (hl : l.length < 1048577) (c : List Int) (hc : c.length < 1048577) :
    Den PA f_impl_someCode [.d (.agg [ints l]), .d (ints c), .d nil] [.any, .any, .any] (.d (di (sgM l c))) := by
  rw [← scM5_nil]; exact d_impl_someCode l hl c hc nil [] (.inr ⟨rfl, rfl⟩) (by simp)
def cntN (l c : List Int) (r u : Int) : Nat → Int
  | 0 => 0
  | j + 1 => cntN l c r u j + (if distM l (c.getD j 0) u ≤ r then 1 else 0)
theorem cntN_bnd (l c : List Int) (r u : Int) : ∀ j : Nat, 0 ≤ cntN l c r u j ∧ cntN l c r u j ≤ j
  | 0 => by simp [cntN]
  | j + 1 => by have := cntN_bnd l c r u j; rw [cntN]; split <;> omega
def mixT (l c : List Int) (r : Int) (j k : Nat) : List Int := (List.range (prodM l).toNat).map fun (i : Nat) => cntN l c r i (if i < k then j + 1 else j)
@[go_sem] theorem mixT_len (l c : List Int) (r : Int) (j k : Nat) : (mixT l c r j k).length = (prodM l).toNat := by simp [mixT]
theorem mixT_get {l : List Int} (c : List Int) (r : Int) (j k : Nat) {i : Nat} (h : i < (prodM l).toNat) : (mixT l c r j k).getD i 0 = cntN l c r i (if i < k then j + 1 else j) := by simp [mixT, h]
theorem mixT_step (l c : List Int) (r : Int) (j k : Nat) (h : k < (prodM l).toNat) : (mixT l c r j k).set k (cntN l c r k (j + 1)) = mixT l c r j (k + 1) := by
  apply List.ext_getElem
  · simp [mixT]
  · intro i h1 h2
    simp [mixT] at h1 h2
    rw [List.getElem_set]
    split
    · subst_vars; simp [mixT]
    · simp only [mixT, List.getElem_map, List.getElem_range]
      congr 1
      by_cases hi : i < k
      · rw [if_pos hi, if_pos (by omega)]
      · rw [if_neg hi, if_neg (by omega)]
theorem mixT_same (l c : List Int) (r : Int) (j k : Nat) (h : k < (prodM l).toNat) (hd : ¬ distM l (c.getD j 0) k ≤ r) : mixT l c r j k = mixT l c r j (k + 1) := by
  unfold mixT
  apply List.map_congr_left
  intro i hi
  by_cases h1 : i < k
  · rw [if_pos h1, if_pos (by omega)]
  · by_cases h2 : i = k
    · subst h2; rw [if_neg h1, if_pos (by omega), cntN, if_neg hd, Int.add_zero]
    · rw [if_neg h1, if_neg (by omega)]
def timesN (l c : List Int) (r : Int) (j : Nat) : List Int := mixT l c r j 0
theorem mixT_full (l c : List Int) (r : Int) (j : Nat) : mixT l c r j (prodM l).toNat = timesN l c r (j + 1) := by
  unfold timesN mixT
  apply List.map_congr_left
  intro i hi
  rw [if_pos (List.mem_range.1 hi), if_neg (by omega)]
abbrev timesM (l c : List Int) (r : Int) : List Int := timesN l c r c.length
@[go_sem] theorem timesN_len (l c : List Int) (r : Int) (j : Nat) : (timesN l c r j).length = (prodM l).toNat := mixT_len _ _ _ _ _
theorem timesN_get {l : List Int} (c : List Int) (r : Int) (j : Nat) {i : Nat} (h : i < (prodM l).toNat) : (timesN l c r j).getD i 0 = cntN l c r i j := by
  rw [timesN, mixT_get c r j 0 h, if_neg (by omega)]
theorem timesN_zero (l c : List Int) (r : Int) : timesN l c r 0 = List.replicate (prodM l).toNat 0 := by
  apply List.ext_getElem
  · simp [timesN, mixT]
  · intro i h1 h2; simp [timesN, mixT, cntN]
theorem d_impl_times (l c : List Int) (r : Int) (hs : isSpaceM l = true) (hcc : isCodeM l c = true) (hc : c.length < 1048577) :
    Den PA f_impl_times [.d (.agg [ints l]), .d (ints c), .d (di r)] [.any, .any, .any] (.own 1 ((timesM l c r).map di)) := by
  have hn := isSpaceM_n hs
  have hp := isSpaceM_prod hs
  have hp1 := prodM_pos (isSpaceM_szs hs)
  have hal := allW_len l
  refine den_go [] l_impl_times ?_
  have y1 := kc [.r] (d_impl_allDigits l hs); have y2 := kc [.r] (d_impl_count l hs); refine go_c0 ?_
  refine go_loop (fun (j : Nat) => ⟨[(2, .d (di r)), (7, .sl 0 0 (prodM l).toNat 8), (8, .sl 1 0 (prodM l).toNat 1), (18, .d (ints c)), (19, .d (di c.length)), (20, .d (di j))], [some (.dat 8 (digs (digsM l (allW l)))), some (.dat 1 ((timesN l c r j).map di))]⟩) (fun j => j ≤ c.length) (fun j => c.length - j) 0 ?_ ?_ ?_
  · simp -implicitDefEqProofs (maxSteps := 1000000) (disch := (first | omega | (simp only [go_sem] <;> omega) | fail)) only [go_sem, ints, bools, mat]
    rw [timesN_zero]
  · simp
  · rintro j hj J hJ
    have hg0 := fun h => isCodeM_get hcc (j := j) h
    repeat' (first | simp -implicitDefEqProofs (maxSteps := 1000000) (disch := (first | omega | (simp only [go_sem] <;> omega) | fail)) only [go_sem, ints, bools, mat] | ((first | apply goIf_b | apply goG_b | apply goTG_b | apply goOG_b) <;> intro h <;> ((try simp only [hnq] at h); (try simp only [h]); (try simp only [hnr] at h))))
    · refine go_loop (fun (k : Nat) => ⟨[(2, .d (di r)), (7, .sl 0 0 (prodM l).toNat 8), (8, .sl 1 0 (prodM l).toNat 1), (10, .d (di (c.getD j 0))), (18, .d (ints c)), (19, .d (di c.length)), (20, .d (di j)), (24, .sl 0 0 (prodM l).toNat 8), (25, .d (di (prodM l).toNat)), (26, .d (di k))], [some (.dat 8 (digs (digsM l (allW l)))), some (.dat 1 ((mixT l c r j k).map di))]⟩) (fun k => k ≤ (prodM l).toNat) (fun k => (prodM l).toNat - k) 0 ?_ ?_ ?_
      · exact go_r0
      · simp
      · rintro k hk K hK
        have hg1 := fun h => digsM_get l (allW l) (i := k) h
        have hw1 := fun h => allW_get l (i := k) h
        have hg2 := fun h => digsM_get l (allW l) (i := (c.getD j 0).toNat) h
        have hw2 := fun h => allW_get l (i := (c.getD j 0).toNat) h
        have hb := cntN_bnd l c r k j
        have hmg := fun h => mixT_get (l := l) c r j k (i := k) h
        repeat' (first | simp -implicitDefEqProofs (maxSteps := 1000000) (disch := (first | omega | (simp only [go_sem] <;> omega) | fail)) only [go_sem, ints, bools, mat] | ((first | apply goIf_b | apply goG_b | apply goTG_b | apply goOG_b) <;> intro h <;> ((try simp only [hnq] at h); (try simp only [h]); (try simp only [hnr] at h))))
        · have e2 : (((c.getD j 0).toNat : Nat) : Int) = c.getD j 0 := by omega
          rw [hg1 (by omega), hw1 (by omega), hg2 (by omega), hw2 (by omega), e2]
          have hmg := hmg (by omega)
          rw [if_neg (by omega)] at hmg
          have yc := d_impl_far (digM l (c.getD j 0)) (digM l k) (by rw [digM_len, digM_len]) (by rw [digM_len]; omega); first | refine goC_call [.r, .r] yc ?_ | refine goOC_call [.r, .r] yc ?_
          repeat' (first | simp -implicitDefEqProofs (maxSteps := 1000000) (disch := (first | omega | (simp only [go_sem] <;> omega) | fail)) only [go_sem, ints, bools, mat] | ((first | apply goIf_b | apply goG_b | apply goTG_b | apply goOG_b) <;> intro h <;> ((try simp only [hnq] at h); (try simp only [h]); (try simp only [hnr] at h))))
          · refine hK (k + 1) (by omega) (by omega) _ ?_
            simp -implicitDefEqProofs (maxSteps := 1000000) (disch := (first | omega | (simp only [go_sem] <;> omega) | fail)) only [go_sem, ints, bools, mat]
            rw [hmg, ← mixT_step l c r j k (by omega), cntN, if_pos (by assumption)]; rfl
          · refine hK (k + 1) (by omega) (by omega) _ ?_
            simp -implicitDefEqProofs (maxSteps := 1000000) (disch := (first | omega | (simp only [go_sem] <;> omega) | fail)) only [go_sem, ints, bools, mat]
            rw [mixT_same l c r j k (by omega) (by simp only [distM]; omega)]; rfl
        · have : k = (prodM l).toNat := by omega
          subst this
          refine hJ (j + 1) (by omega) (by omega) _ ?_
          simp -implicitDefEqProofs (maxSteps := 1000000) (disch := (first | omega | (simp only [go_sem] <;> omega) | fail)) only [go_sem, ints, bools, mat]
          rw [mixT_full]; rfl
    · have : j = c.length := by omega
      subst this
      exact go_e0
def ballM (l : List Int) (w r : Int) : List Int := (allW l).filter fun u => decide (distM l u w ≤ r)
theorem d_spec_l01Ball (l : List Int) (hs : isSpaceM l = true) (w r : Int) (hw : 0 ≤ w) (hw2 : w < 1000000000000) : Den PA f_spec_l01Ball [.d (.agg [ints l]), .d (di w), .d (di r)] [.any, .any, .any] (.own 1 ((ballM l w r).map di)) := by
  have hn := isSpaceM_n hs
  have hp := isSpaceM_prod hs
  have hp1 := prodM_pos (isSpaceM_szs hs)
  have hal := allW_len l
  refine den_go [] l_spec_l01Ball ?_
  refine go_c0 ?_
  refine go_loop (fun (j : Nat) => ⟨[(1, .d (di w)), (2, .d (di r)), (3, .ref 0 0), (7, .sl 1 0 (((allW l).take j).filter fun u => decide (distM l u w ≤ r)).length 1), (8, .d (di j))], [some (.var [ints l]), some (.dat 1 ((((allW l).take j).filter fun u => decide (distM l u w ≤ r)).map di))]⟩) (fun j => j ≤ (prodM l).toNat) (fun j => (prodM l).toNat - j) 0 ?_ ?_ ?_
  · exact go_r0
  · simp
  · rintro j hj J hJ
    have hfl := filter_len_le (fun u => decide (distM l u w ≤ r)) ((allW l).take j) j (by simp; omega)
    repeat' (first | simp -implicitDefEqProofs (maxSteps := 1000000) (disch := (first | omega | (simp only [go_sem] <;> omega) | fail)) only [go_sem, ints, bools, mat] | ((first | apply goIf_b | apply goG_b | apply goTG_b | apply goOG_b) <;> intro h <;> ((try simp only [hnq] at h); (try simp only [h]); (try simp only [hnr] at h))))
    have yc := d_spec_l01N l (by omega) (isSpaceM_q hs); first | refine goC_call [.r] yc ?_ | refine goOC_call [.r] yc ?_
    repeat' (first | simp -implicitDefEqProofs (maxSteps := 1000000) (disch := (first | omega | (simp only [go_sem] <;> omega) | fail)) only [go_sem, ints, bools, mat] | ((first | apply goIf_b | apply goG_b | apply goTG_b | apply goOG_b) <;> intro h <;> ((try simp only [hnq] at h); (try simp only [h]); (try simp only [hnr] at h))))
    · have yc := d_spec_l01Distance l hs j w (by omega) (by omega) hw hw2; first | refine goC_call [.r, .r, .r] yc ?_ | refine goOC_call [.r, .r, .r] yc ?_
      repeat' (first | simp -implicitDefEqProofs (maxSteps := 1000000) (disch := (first | omega | (simp only [go_sem] <;> omega) | fail)) only [go_sem, ints, bools, mat] | ((first | apply goIf_b | apply goG_b | apply goTG_b | apply goOG_b) <;> intro h <;> ((try simp only [hnq] at h); (try simp only [h]); (try simp only [hnr] at h))))
      · refine hJ (j + 1) (by omega) (by omega) _ ?_
        simp -implicitDefEqProofs (maxSteps := 1000000) (disch := (first | omega | (simp only [go_sem] <;> omega) | fail)) only [go_sem, ints, bools, mat]
        rw [take_allW l (by omega), List.filter_append]; simp [h]
      · refine hJ (j + 1) (by omega) (by omega) _ ?_
        simp -implicitDefEqProofs (maxSteps := 1000000) (disch := (first | omega | (simp only [go_sem] <;> omega) | fail)) only [go_sem, ints, bools, mat]
        rw [take_allW l (by omega), List.filter_append]; simp [show ¬ distM l j w ≤ r by omega]
    · have : j = (prodM l).toNat := by omega
      subst this
      refine go_c0 ?_
      rfl
theorem allW_nodup (l : List Int) : (allW l).Nodup := by
  unfold allW
  refine List.Pairwise.map _ ?_ (List.nodup_range (n := (prodM l).toNat))
  intro a b h e
  exact h (by omega)
theorem allW_mem (l : List Int) (u : Int) : u ∈ allW l ↔ 0 ≤ u ∧ u < (prodM l).toNat := by
  unfold allW
  rw [List.mem_map]
  constructor
  · rintro ⟨i, hi, rfl⟩; have := List.mem_range.1 hi; omega
  · rintro ⟨h1, h2⟩; exact ⟨u.toNat, List.mem_range.2 (by omega), by omega⟩
theorem foldl_hist_get (ds : List Int) : ∀ (o : List Int) (i : Nat), i < o.length → (∀ d, d ∈ ds → 0 ≤ d) → (ds.foldl histS o).getD i 0 = o.getD i 0 + (ds.count (i : Int) : Nat) := by
  induction ds with
  | nil => intro o i hi h; simp
  | cons d r ih =>
    intro o i hi h
    have hd := h d (by simp)
    rw [List.foldl_cons, ih (histS o d) i (by simp [histS]; exact hi) (fun x hx => h x (by simp [hx])), List.count_cons]
    simp only [histS, List.getD_eq_getElem?_getD, List.getElem?_set]
    by_cases e : d = (i : Int)
    · subst e; simp [hi]; omega
    · rw [if_neg (by omega)]
      simp [e]
theorem ballM_nodup (l : List Int) (w r : Int) : (ballM l w r).Nodup := (allW_nodup l).filter _
theorem ballM_mem (l : List Int) (w r u : Int) : u ∈ ballM l w r ↔ (0 ≤ u ∧ u < (prodM l).toNat) ∧ distM l u w ≤ r := by
  unfold ballM; rw [List.mem_filter, allW_mem]; simp
theorem ball_times (l c : List Int) (r : Int) (j : Nat) : (ballM l (c.getD j 0) r).foldl histS (timesN l c r j) = timesN l c r (j + 1) := by
  apply eq_getD
  · rw [foldl_hist_len, timesN_len, timesN_len]
  · intro i hi
    rw [foldl_hist_len, timesN_len] at hi
    rw [foldl_hist_get _ _ i (by rw [timesN_len]; exact hi) (fun d hd => ((ballM_mem l _ r d).1 hd).1.1), timesN_get c r j hi, timesN_get c r (j + 1) hi, cntN, (ballM_nodup l _ r).count]
    rw [distM_comm l (c.getD j 0)]
    by_cases hb : distM l i (c.getD j 0) ≤ r
    · rw [if_pos hb, if_pos ((ballM_mem l _ r _).2 ⟨⟨by omega, by omega⟩, hb⟩)]; rfl
    · rw [if_neg hb, if_neg (fun h => hb ((ballM_mem l _ r _).1 h).2)]; rfl
theorem getD_mem {l : List Int} {i : Nat} (h : i < l.length) : l.getD i 0 ∈ l := mem_getD h
theorem foldl_take_step (o ds : List Int) {k : Nat} (h : k < ds.length) : (ds.take (k + 1)).foldl histS o = histS ((ds.take k).foldl histS o) (ds.getD k 0) := by
  rw [take_one ds h, List.foldl_append]; rfl
theorem d_spec_l02Times (l c : List Int) (r : Int) (hs : isSpaceM l = true) (hcc : isCodeM l c = true) (hc : c.length < 1048577) :
    Den PA f_spec_l02Times [.d (.agg [ints l]), .d (ints c), .d (di r)] [.any, .any, .any] (.own 1 ((timesM l c r).map di)) := by
  have hn := isSpaceM_n hs
  have hp := isSpaceM_prod hs
  have hp1 := prodM_pos (isSpaceM_szs hs)
  refine den_go [] l_spec_l02Times ?_
  have y1 := kc [.r] (d_spec_l01N l (by omega) (isSpaceM_q hs)); refine go_c0 ?_
  refine go_loop (fun (j : Nat) => ⟨[(1, .d (ints c)), (2, .d (di r)), (3, .ref 0 0), (7, .sl 1 0 (prodM l).toNat 1), (8, .d (di j))], [some (.var [ints l]), some (.dat 1 ((timesN l c r j).map di))]⟩) (fun j => j ≤ c.length) (fun j => c.length - j) 0 ?_ ?_ ?_
  · simp -implicitDefEqProofs (maxSteps := 1000000) (disch := (first | omega | (simp only [go_sem] <;> omega) | fail)) only [go_sem, ints, bools, mat]
    rw [timesN_zero]
  · simp
  · rintro j hj J hJ
    have hg0 := fun h => isCodeM_get hcc (j := j) h
    repeat' (first | simp -implicitDefEqProofs (maxSteps := 1000000) (disch := (first | omega | (simp only [go_sem] <;> omega) | fail)) only [go_sem, ints, bools, mat] | ((first | apply goIf_b | apply goG_b | apply goTG_b | apply goOG_b) <;> intro h <;> ((try simp only [hnq] at h); (try simp only [h]); (try simp only [hnr] at h))))
    · have y1 := kc [.r, .r, .r] (d_spec_l01Ball l hs (c.getD j 0) r (by omega) (by omega)); refine go_c0 ?_
      generalize hB : ballM l (c.getD j 0) r = B
      have hmem : ∀ k, k < B.length → 0 ≤ B.getD k 0 ∧ B.getD k 0 < (prodM l).toNat := fun k hk => by
        have := (ballM_mem l (c.getD j 0) r (B.getD k 0)).1 (by rw [hB]; exact mem_getD hk)
        exact this.1
      have hBl : B.length ≤ (prodM l).toNat := by
        rw [← hB]; exact filter_len_le _ _ _ (by rw [allW_len]; exact Nat.le_refl _)
      refine go_loop (fun (k : Nat) => ⟨[(1, .d (ints c)), (2, .d (di r)), (3, .ref 0 0), (7, .sl 1 0 (prodM l).toNat 1), (8, .d (di j)), (9, .sl 2 0 B.length 1), (10, .d (di k))], [some (.var [ints l]), some (.dat 1 (((B.take k).foldl histS (timesN l c r j)).map di)), some (.dat 1 (B.map di))]⟩) (fun k => k ≤ B.length) (fun k => B.length - k) 0 ?_ ?_ ?_
      · exact go_r0
      · simp
      · rintro k hk K hK
        have hm := hmem k
        have hlen : ((B.take k).foldl histS (timesN l c r j)).length = (prodM l).toNat := by rw [foldl_hist_len, timesN_len]
        have hb := foldl_hist_bnd (B.take k) (timesN l c r j) j (fun i => by
          by_cases hi : i < (prodM l).toNat
          · rw [timesN_get c r j hi]; exact cntN_bnd l c r i j
          · have : (timesN l c r j).getD i 0 = 0 := by
              rw [List.getD_eq_getElem?_getD, List.getElem?_eq_none (by rw [timesN_len]; omega)]; rfl
            rw [this]; omega) (by omega) (B.getD k 0).toNat
        have hlt : (B.take k).length = k := by simp; omega
        repeat' (first | simp -implicitDefEqProofs (maxSteps := 1000000) (disch := (first | omega | (simp only [go_sem] <;> omega) | fail)) only [go_sem, ints, bools, mat] | ((first | apply goIf_b | apply goG_b | apply goTG_b | apply goOG_b) <;> intro h <;> ((try simp only [hnq] at h); (try simp only [h]); (try simp only [hnr] at h))))
        · refine hK (k + 1) (by omega) (by omega) _ ?_
          simp -implicitDefEqProofs (maxSteps := 1000000) (disch := (first | omega | (simp only [go_sem] <;> omega) | fail)) only [go_sem, ints, bools, mat]
          rw [foldl_take_step _ _ (by omega), histS]; rfl
        · have : k = B.length := by omega
          subst this
          refine hJ (j + 1) (by omega) (by omega) _ ?_
          simp -implicitDefEqProofs (maxSteps := 1000000) (disch := (first | omega | (simp only [go_sem] <;> omega) | fail)) only [go_sem, ints, bools, mat]
          rw [← ball_times, hB]; rfl
    · have : j = c.length := by omega
      subst this
      exact go_e0
abbrev ccM (l c : List Int) (r : Int) : Int := if ggM l c = 0 then (if 0 ≤ r ∧ r ≤ 8 then 0 else 2) else ggM l c
theorem ccM_ok {l c : List Int} {r : Int} (h : ccM l c r = 0) : isSpaceM l = true ∧ isCodeM l c = true ∧ 0 ≤ r ∧ r ≤ 8 := by
  unfold ccM at h
  split at h
  · rename_i hg
    split at h
    · rename_i hd; exact ⟨(ggM_ok hg).1, (ggM_ok hg).2, hd⟩
    · cases h
  · rename_i hg; exact (hg h).elim
theorem d_impl_coverCode (l c : List Int) (hl : l.length < 1048577) (hc : c.length < 1048577) (r : Int) : Den PA f_impl_coverCode [.d (.agg [ints l]), .d (ints c), .d (di r)] [.any, .any, .any] (.d (di (ccM l c r))) := by
  refine den_go [] l_impl_coverCode ?_
  simp -implicitDefEqProofs (maxSteps := 1000000) (disch := (first | omega | (simp only [go_sem] <;> omega) | fail)) only [go_sem, ints, bools, mat, c_impl_coverCode]
  have yc := d_impl_codeCode0 l hl c hc; first | refine goC_call [.r, .r, .r] yc ?_ | refine goOC_call [.r, .r, .r] yc ?_
  by_cases h : ggM l c = 0
  · rw [ccM, if_pos h, h]
    repeat' (first | simp -implicitDefEqProofs (maxSteps := 1000000) (disch := (first | omega | (simp only [go_sem] <;> omega) | fail)) only [go_sem, ints, bools, mat] | ((first | apply goIf_b | apply goG_b | apply goTG_b | apply goOG_b) <;> intro h <;> ((try simp only [hnq] at h); (try simp only [h]); (try simp only [hnr] at h))))
    have yc := d_impl_isRadius r; first | refine goC_call [.r] yc ?_ | refine goOC_call [.r] yc ?_
    repeat' (first | simp -implicitDefEqProofs (maxSteps := 1000000) (disch := (first | omega | (simp only [go_sem] <;> omega) | fail)) only [go_sem, ints, bools, mat] | ((first | apply goIf_b | apply goG_b | apply goTG_b | apply goOG_b) <;> intro h <;> ((try simp only [hnq] at h); (try simp only [h]); (try simp only [hnr] at h))))
    · rw [if_pos (by omega)]
    · rw [if_neg (by omega)]
  · rw [ccM, if_neg h]
    generalize ggM l c = b at h
    repeat' (first | simp -implicitDefEqProofs (maxSteps := 1000000) (disch := (first | omega | (simp only [go_sem] <;> omega) | fail)) only [go_sem, ints, bools, mat] | ((first | apply goIf_b | apply goG_b | apply goTG_b | apply goOG_b) <;> intro h <;> ((try simp only [hnq] at h); (try simp only [h]); (try simp only [hnr] at h))))
    all_goals (exfalso; omega)
def perfB (l c : List Int) (r : Int) : Bool := (timesM l c r).all fun n => n == 1
theorem d_impl_isPerfect_1 (n : Int) : Den PA f_impl_isPerfect_1 [.d (di n)] [.any] (.d (db (n != 1))) := by
  refine den_go [] l_impl_isPerfect_1 ?_
  exact go_e0
theorem d_impl_isPerfect (l c : List Int) (r : Int) (hs : isSpaceM l = true) (hcc : isCodeM l c = true) (hc : c.length < 1048577) :
    Den PA f_impl_isPerfect [.d (.agg [ints l]), .d (ints c), .d (di r)] [.any, .any, .any] (.d (db (perfB l c r))) := by
  have hp := isSpaceM_prod hs
  refine den_go [] l_impl_isPerfect ?_
  repeat' (first | simp -implicitDefEqProofs (maxSteps := 1000000) (disch := (first | omega | (simp only [go_sem] <;> omega) | fail)) only [go_sem, ints, bools, mat, c_impl_isPerfect] | ((first | apply goIf_b | apply goG_b | apply goTG_b | apply goOG_b) <;> intro h <;> ((try simp only [hnq] at h); (try simp only [h]); (try simp only [hnr] at h))))
  have yc := d_impl_times l c r hs hcc hc; first | refine goC_call [.r, .r, .r] yc ?_ | refine goOC_call [.r, .r, .r] yc ?_
  repeat' (first | simp -implicitDefEqProofs (maxSteps := 1000000) (disch := (first | omega | (simp only [go_sem] <;> omega) | fail)) only [go_sem, ints, bools, mat] | ((first | apply goIf_b | apply goG_b | apply goTG_b | apply goOG_b) <;> intro h <;> ((try simp only [hnq] at h); (try simp only [h]); (try simp only [hnr] at h))))
  have yc := d_slices_ContainsFunc (timesM l c r) (fun n => n != 1) _ (fn1_mk _) (by rw [timesN_len]; omega); first | refine goC_call [.r, .g (fn1 fun n => n != 1)] yc ?_ | refine goOC_call [.r, .g (fn1 fun n => n != 1)] yc ?_
  repeat' (first | simp -implicitDefEqProofs (maxSteps := 1000000) (disch := (first | omega | (simp only [go_sem] <;> omega) | fail)) only [go_sem, ints, bools, mat] | ((first | apply goIf_b | apply goG_b | apply goTG_b | apply goOG_b) <;> intro h <;> ((try simp only [hnq] at h); (try simp only [h]); (try simp only [hnr] at h))))
  refine chk_intro (fnOK_mk (d_impl_isPerfect_1 0).1 [] rfl fun ds r hg => ?_) ?_
  · obtain ⟨n, rfl, rfl⟩ := hg
    exact ⟨_, d_impl_isPerfect_1 n⟩
  refine go_c0 ?_
  refine dbv ?_
  unfold perfB
  rw [Bool.eq_iff_iff, Bool.not_eq_true', List.any_eq_false, List.all_eq_true]
  simp
theorem all_one {t : List Int} : (t.all fun n => n == 1) = true ↔ ∀ j, j < t.length → t.getD j 0 = 1 := by
  simp only [all_getD, beq_iff_eq]
theorem d_spec_l06Is (l c : List Int) (r : Int) (hs : isSpaceM l = true) (hcc : isCodeM l c = true) (hc : c.length < 1048577) :
    Den PA f_spec_l06Is [.d (.agg [ints l]), .d (ints c), .d (di r)] [.any, .any, .any] (.d (db (perfB l c r))) := by
  have hp := isSpaceM_prod hs
  have hp1 := prodM_pos (isSpaceM_szs hs)
  have e := all_one (t := timesM l c r)
  rw [timesN_len] at e
  refine den_go [] l_spec_l06Is ?_
  have y1 := kc [.r, .r, .r] (d_spec_l02Times l c r hs hcc hc); refine go_c0 ?_
  refine go_loop (fun (j : Nat) => ⟨[(7, .sl 0 0 (prodM l).toNat 1), (14, .d (di (prodM l).toNat)), (15, .d (di j))], [some (.dat 1 ((timesM l c r).map di))]⟩) (fun j => j ≤ (prodM l).toNat ∧ ∀ i, i < j → (timesM l c r).getD i 0 = 1) (fun j => (prodM l).toNat - j) 0 ?_ ?_ ?_
  · exact go_r0
  · simp
  · rintro j ⟨hj, hi⟩ J hJ
    repeat' (first | simp -implicitDefEqProofs (maxSteps := 1000000) (disch := (first | omega | (simp only [go_sem] <;> omega) | fail)) only [go_sem, ints, bools, mat] | ((first | apply goIf_b | apply goG_b | apply goTG_b | apply goOG_b) <;> intro h <;> ((try simp only [hnq] at h); (try simp only [h]); (try simp only [hnr] at h))))
    · exact dbF fun h' => h (e.1 h' j (by omega))
    · refine hJ (j + 1) ⟨by omega, all_ext hi h⟩ (by omega) _ go_r0
    · exact dbT (e.2 fun i hi' => hi i (by omega))
abbrev perfR (l c : List Int) (r : Int) : R := .tup [.d (db (decide (ccM l c r = 0) && perfB l c r)), .d (di (ccM l c r))]
theorem d_impl_IsPerfect (l c : List Int) (r : Int) (hl : l.length < 1048577) (hc : c.length < 1048577) : Den PA f_impl_IsPerfect [.d (.agg [ints l]), .d (ints c), .d (di r)] [.any, .any, .any] (perfR l c r) := by
  refine den_go [] l_impl_IsPerfect ?_
  simp -implicitDefEqProofs (maxSteps := 1000000) (disch := (first | omega | (simp only [go_sem] <;> omega) | fail)) only [go_sem, ints, bools, mat, c_impl_IsPerfect]
  have yc := d_impl_coverCode l c hl hc r; first | refine goC_call [.r, .r, .r] yc ?_ | refine goOC_call [.r, .r, .r] yc ?_
  by_cases h : ccM l c r = 0
  · rw [perfR, h]
    obtain ⟨hs, hcc, hd⟩ := ccM_ok h
    have y1 := kc [.r, .r, .r] (d_impl_isPerfect l c r hs hcc hc); exact go_e0
  · rw [perfR]
    generalize ccM l c r = b at h
    repeat' (first | simp -implicitDefEqProofs (maxSteps := 1000000) (disch := (first | omega | (simp only [go_sem] <;> omega) | fail)) only [go_sem, ints, bools, mat] | ((first | apply goIf_b | apply goG_b | apply goTG_b | apply goOG_b) <;> intro h <;> ((try simp only [hnq] at h); (try simp only [h]); (try simp only [hnr] at h))))
    all_goals (first | (exfalso; omega) | skip)
    exact dbF fun h' => by simp at h'; exact h h'.1
attribute [go_sem] isnA List.drop_length
def and2 (x y : Int) : Int := ((x.toNat &&& y.toNat : Nat) : Int)
def andM (t u : List Int) : List Int := (List.range t.length).map fun (i : Nat) => and2 (t.getD i 0) (u.getD i 0)
@[go_sem] theorem andM_len (t u : List Int) : (andM t u).length = t.length := by simp [andM]
theorem mixS_step {α : Type} {A t : List α} (d : α) {j : Nat} (h : A.length = t.length) (hj : j < t.length) : (A.take j ++ t.drop j).set j (A.getD j d) = A.take (j + 1) ++ t.drop (j + 1) := by
  apply List.ext_getElem
  · simp; omega
  · intro i h1 h2
    simp at h1 h2
    rw [List.getElem_set]
    split
    · subst_vars; simp [List.getElem_append, h, hj]
      intro; omega
    · simp only [List.getElem_append, List.length_take]
      split <;> split
      · simp
      · omega
      · omega
      · simp only [List.getElem_drop]; congr 1; omega
theorem mixS_get {α : Type} {A t : List α} (d : α) {j : Nat} (h : A.length = t.length) (hj : j < t.length) : (A.take j ++ t.drop j).getD j d = t.getD j d := by
  rw [List.getD_eq_getElem?_getD, List.getElem?_append, if_neg (by simp; omega), List.getElem?_drop, List.getD_eq_getElem?_getD]
  congr 2; simp; omega
def sN (a b : List Int) : Nat → Int
  | 0 => 0
  | j + 1 => sN a b j + a.getD j 0 * b.getD j 0
def in4 (a : List Int) : Prop := ∀ i, 0 ≤ a.getD i 0 ∧ a.getD i 0 < 4
theorem in4_pad {a : List Int} (h8 : a.length ≤ 8) (h : in4 a) : in4 (pad8 a) := fun i => by rw [pad8_get h8]; exact h i
def synM (l c : List Int) (w : Int) : List Int := c.map fun u => sN (digM l w) (digM l u) l.length % l.getD 0 0
@[go_sem] theorem synM_len (l c : List Int) (w : Int) : (synM l c w).length = c.length := by simp [synM]
def fnI (q : Int → Prop) (p : Int → Bool) : List D → Value → Prop := fun ds r => ∃ n, q n ∧ ds = [di n] ∧ r = .bool (p n)
theorem d_slices_IndexFunc_in (l : List Int) (p : Int → Bool) (g : List D → Value → Prop) (hg : ∀ i, i < l.length → g [di (l.getD i 0)] (.bool (p (l.getD i 0)))) (hl : l.length < 1048577) :
    Den PA f_slices_IndexFunc___int64_int64_ [.d (ints l), .pfn g] [.any, .any] (.d (di (match l.findIdx? p with | some j => j | none => -1))) := by
  refine den_go [] l_slices_IndexFunc___int64_int64_ ?_
  refine go_c0 ?_
  refine go_loop (fun (j : Nat) => ⟨[(0, .d (ints l)), (1, .pfn g), (7, .d (di l.length)), (8, .d (di j))], []⟩) (fun j => j ≤ l.length ∧ ∀ i, i < j → p (l.getD i 0) = false) (fun j => l.length - j) 0 ?_ ?_ ?_
  · exact go_r0
  · simp
  · rintro j ⟨hj, hi⟩ J hJ
    repeat' (first | simp -implicitDefEqProofs (maxSteps := 1000000) (disch := (first | omega | (simp only [go_sem] <;> omega) | fail)) only [go_sem, ints, bools, mat] | ((first | apply goIf_b | apply goG_b | apply goTG_b | apply goOG_b) <;> intro h <;> ((try simp only [hnq] at h); (try simp only [h]); (try simp only [hnr] at h))))
    · refine goV_pfn [di (l.getD j 0)] (.bool (p (l.getD j 0))) (by simp -implicitDefEqProofs (maxSteps := 1000000) (disch := (first | omega | (simp only [go_sem] <;> omega) | fail)) only [go_sem, ints, bools, mat]) rfl (hg j (by omega)) ?_
      repeat' (first | simp -implicitDefEqProofs (maxSteps := 1000000) (disch := (first | omega | (simp only [go_sem] <;> omega) | fail)) only [go_sem, ints, bools, mat] | ((first | apply goIf_b | apply goG_b | apply goTG_b | apply goOG_b) <;> intro h <;> ((try simp only [hnq] at h); (try simp only [h]); (try simp only [hnr] at h))))
      · rw [findIdx_at (by omega) h hi]
      · refine hJ (j + 1) ⟨by omega, all_ext hi h⟩ (by omega) _ go_r0
    · rw [findIdx_no fun i hi' => hi i (by omega)]
def sumM (l a b : List Int) : List Int := (List.range l.length).map fun (i : Nat) => (a.getD i 0 + b.getD i 0) % l.getD i 0
@[go_sem] theorem sumM_len (l a b : List Int) : (sumM l a b).length = l.length := by simp [sumM]
theorem sumM_get {l : List Int} (a b : List Int) {i : Nat} (h : i < l.length) : (sumM l a b).getD i 0 = (a.getD i 0 + b.getD i 0) % l.getD i 0 := by simp [sumM, h]
theorem pad8_set {S : List Int} {j : Nat} (h8 : S.length ≤ 8) (hj : j < S.length) : (pad8 (S.take j)).set j (S.getD j 0) = pad8 (S.take (j + 1)) := by
  apply eq_getD
  · simp [pad8_len]
  · intro i hi
    rw [List.length_set, pad8_len] at hi
    rw [pad8_get (by simp; omega), List.getD_eq_getElem?_getD, List.getElem?_set]
    split
    · subst_vars
      rw [if_pos (by rw [pad8_len]; omega)]
      simp [List.getD_eq_getElem?_getD, List.getElem?_take]
    · rw [← List.getD_eq_getElem?_getD, pad8_get (by simp; omega), List.getD_eq_getElem?_getD, List.getD_eq_getElem?_getD, List.getElem?_take, List.getElem?_take]
      by_cases h1 : i < j
      · rw [if_pos h1, if_pos (by omega)]
      · rw [if_neg h1, if_neg (by omega)]
theorem d_impl_sumOf (l a b : List Int) (hs : isSpaceM l = true) (ha8 : a.length ≤ 8) (hb8 : b.length ≤ 8) (ha : in4 a) (hb : in4 b) :
    Den PA f_impl_sumOf [.d (.agg [ints l]), .d (dig a), .d (dig b)] [.any, .any, .any] (.d (dig (sumM l a b))) := by
  have hn := isSpaceM_n hs
  have hz := isSpaceM_szs hs
  have ea := pad8_len a
  have eb := pad8_len b
  refine den_go [] l_impl_sumOf ?_
  refine go_c0 ?_
  refine go_loop (fun (j : Nat) => ⟨[(4, .ref 0 0), (5, .ref 1 0), (6, .ref 2 0), (7, .ref 3 0), (12, .d (ints l)), (13, .d (di l.length)), (14, .d (di j))], [some (.var ((pad8 a).map dy)), some (.var ((pad8 b).map dy)), some (.var [dy 0, dy 0, dy 0, dy 0, dy 0, dy 0, dy 0, dy 0]), some (.var ((pad8 ((sumM l a b).take j)).map dy))]⟩) (fun j => j ≤ l.length) (fun j => l.length - j) 0 ?_ ?_ ?_
  · exact go_r0
  · simp
  · rintro j hj J hJ
    have hx := in4_pad ha8 ha j
    have hy := in4_pad hb8 hb j
    have hq := hz j
    have hm := fun h => mod_bnd (x := (pad8 a).getD j 0 + (pad8 b).getD j 0) (hz j h)
    have hst := fun h => pad8_set (S := sumM l a b) (j := j) (by rw [sumM_len]; omega) h
    have hsg := fun h => sumM_get (l := l) a b (i := j) h
    repeat' (first | simp -implicitDefEqProofs (maxSteps := 1000000) (disch := (first | omega | (simp only [go_sem] <;> omega) | fail)) only [go_sem, ints, bools, mat] | ((first | apply goIf_b | apply goG_b | apply goTG_b | apply goOG_b) <;> intro h <;> ((try simp only [hnq] at h); (try simp only [h]); (try simp only [hnr] at h))))
    · refine hJ (j + 1) (by omega) (by omega) _ ?_
      simp -implicitDefEqProofs (maxSteps := 1000000) (disch := (first | omega | (simp only [go_sem] <;> omega) | fail)) only [go_sem, ints, bools, mat]
      rw [← hst (by rw [sumM_len]; omega), hsg (by omega), pad8_get ha8, pad8_get hb8]; rfl
def wordN (l d : List Int) : Nat → Int
  | 0 => 0
  | j + 1 => wordN l d j * l.getD j 0 + d.getD j 0
theorem wordN_bnd {l d : List Int} (hs : szs l) (hd : ∀ i, i < l.length → 0 ≤ d.getD i 0 ∧ d.getD i 0 < l.getD i 0) : ∀ j, j ≤ l.length → 0 ≤ wordN l d j ∧ wordN l d j < prodM (l.take j)
  | 0, _ => by simp [wordN, prodM]
  | j + 1, h => by
    have ih := wordN_bnd hs hd j (by omega)
    have h1 := hd j (by omega)
    have h2 := hs j (by omega)
    rw [wordN, prodM_step l (by omega)]
    have h3 := Int.mul_nonneg ih.1 (show 0 ≤ l.getD j 0 by omega)
    have h4 : (wordN l d j + 1) * l.getD j 0 ≤ prodM (l.take j) * l.getD j 0 := Int.mul_le_mul_of_nonneg_right (by omega) (by omega)
    rw [Int.add_mul, Int.one_mul] at h4
    omega
theorem wordN_mul {l d : List Int} (hs : isSpaceM l = true) (hd : ∀ i, i < l.length → 0 ≤ d.getD i 0 ∧ d.getD i 0 < l.getD i 0) {j : Nat} (h : j < l.length) : 0 ≤ wordN l d j * l.getD j 0 ∧ wordN l d j * l.getD j 0 ≤ 65536 := by
  have h1 := wordN_bnd (isSpaceM_szs hs) hd (j + 1) (by omega)
  have hn := isSpaceM_n hs
  have h2 := prodM_small l (j := j + 1) (by omega) (by omega) (fun i hi => isSpaceM_q hs i (by omega))
  have h3 := hd j h
  have h0 := wordN_bnd (isSpaceM_szs hs) hd j (by omega)
  have h4 := isSpaceM_q hs j h
  have h5 := Int.mul_nonneg h0.1 (show 0 ≤ l.getD j 0 by omega)
  rw [wordN] at h1
  omega
theorem d_impl_wordOf (l d : List Int) (hs : isSpaceM l = true) (h8 : d.length ≤ 8) (hd : ∀ i, i < l.length → 0 ≤ d.getD i 0 ∧ d.getD i 0 < l.getD i 0) :
    Den PA f_impl_wordOf [.d (.agg [ints l]), .d (dig d)] [.any, .any] (.d (di (wordN l d l.length))) := by
  have hn := isSpaceM_n hs
  have ed := pad8_len d
  refine den_go [] l_impl_wordOf ?_
  refine go_c0 ?_
  refine go_loop (fun (j : Nat) => ⟨[(3, .ref 0 0), (5, .d (di (wordN l d j))), (9, .d (ints l)), (10, .d (di l.length)), (11, .d (di j))], [some (.var ((pad8 d).map dy))]⟩) (fun j => j ≤ l.length) (fun j => l.length - j) 0 ?_ ?_ ?_
  · exact go_r0
  · simp
  · rintro j hj J hJ
    have hm := fun h => wordN_mul hs hd (j := j) h
    have hdj := hd j
    have hq := isSpaceM_q hs j
    have hpd := pad8_get h8 j
    rw [← hpd] at hdj
    repeat' (first | simp -implicitDefEqProofs (maxSteps := 1000000) (disch := (first | omega | (simp only [go_sem] <;> omega) | fail)) only [go_sem, ints, bools, mat] | ((first | apply goIf_b | apply goG_b | apply goTG_b | apply goOG_b) <;> intro h <;> ((try simp only [hnq] at h); (try simp only [h]); (try simp only [hnr] at h))))
    · refine hJ (j + 1) (by omega) (by omega) _ ?_
      simp -implicitDefEqProofs (maxSteps := 1000000) (disch := (first | omega | (simp only [go_sem] <;> omega) | fail)) only [go_sem, ints, bools, mat]
      rw [wordN, ← hpd]; rfl
    · have : j = l.length := by omega
      subst this; rfl
theorem d_spec_l01Word (l d : List Int) (hs : isSpaceM l = true) (hl : d.length = l.length) (hd : ∀ i, i < l.length → 0 ≤ d.getD i 0 ∧ d.getD i 0 < l.getD i 0) :
    Den PA f_spec_l01Word [.d (.agg [ints l]), .d (ints d)] [.any, .any] (.d (di (wordN l d l.length))) := by
  have hn := isSpaceM_n hs
  refine den_go [] l_spec_l01Word ?_
  refine go_c0 ?_
  refine go_loop (fun (j : Nat) => ⟨[(1, .d (ints d)), (2, .ref 0 0), (5, .d (di (wordN l d j))), (6, .d (di j))], [some (.var [ints l])]⟩) (fun j => j ≤ l.length) (fun j => l.length - j) 0 ?_ ?_ ?_
  · exact go_r0
  · simp
  · rintro j hj J hJ
    have hm := fun h => wordN_mul hs hd (j := j) h
    have hdj := hd j
    have hq := isSpaceM_q hs j
    repeat' (first | simp -implicitDefEqProofs (maxSteps := 1000000) (disch := (first | omega | (simp only [go_sem] <;> omega) | fail)) only [go_sem, ints, bools, mat] | ((first | apply goIf_b | apply goG_b | apply goTG_b | apply goOG_b) <;> intro h <;> ((try simp only [hnq] at h); (try simp only [h]); (try simp only [hnr] at h))))
    · refine hJ (j + 1) (by omega) (by omega) _ ?_
      simp -implicitDefEqProofs (maxSteps := 1000000) (disch := (first | omega | (simp only [go_sem] <;> omega) | fail)) only [go_sem, ints, bools, mat]
      rw [wordN]; rfl
    · have : j = l.length := by omega
      subst this; rfl
def sumW (l : List Int) (u w : Int) : Int := wordN l (sumM l (digM l u) (digM l w)) l.length
theorem sumM_lt {l : List Int} (hs : szs l) (a b : List Int) : ∀ i, i < l.length → 0 ≤ (sumM l a b).getD i 0 ∧ (sumM l a b).getD i 0 < l.getD i 0 := fun i hi => by
  rw [sumM_get a b hi]
  have h := hs i hi
  have := mod_bnd (x := a.getD i 0 + b.getD i 0) h
  omega
theorem sumW_bnd {l : List Int} (hs : isSpaceM l = true) (u w : Int) : 0 ≤ sumW l u w ∧ sumW l u w < prodM l := by
  have := wordN_bnd (isSpaceM_szs hs) (sumM_lt (isSpaceM_szs hs) (digM l u) (digM l w)) l.length (Nat.le_refl _)
  rwa [List.take_length] at this
theorem d_spec_l01Sum (l : List Int) (hs : isSpaceM l = true) (u w : Int) (hu : 0 ≤ u) (hu2 : u < 1000000000000) (hw : 0 ≤ w) (hw2 : w < 1000000000000) :
    Den PA f_spec_l01Sum [.d (.agg [ints l]), .d (di u), .d (di w)] [.any, .any, .any] (.d (di (sumW l u w))) := by
  have hn := isSpaceM_n hs
  have hz := isSpaceM_szs hs
  have ea := digM_len l u
  have eb := digM_len l w
  refine den_go [] l_spec_l01Sum ?_
  have y1 := kc [.r, .r] (d_spec_l01Digits l hs u hu hu2); have y2 := kc [.r, .r] (d_spec_l01Digits l hs w hw hw2); refine go_c0 ?_
  refine go_loop (fun (j : Nat) => ⟨[(3, .ref 0 0), (7, .sl 1 0 l.length 1), (8, .sl 2 0 l.length 1), (17, .d (di l.length)), (18, .d (di j))], [some (.var [ints l]), some (.dat 1 (((sumM l (digM l u) (digM l w)).take j ++ (digM l u).drop j).map di)), some (.dat 1 ((digM l w).map di))]⟩) (fun j => j ≤ l.length) (fun j => l.length - j) 0 ?_ ?_ ?_
  · simp -implicitDefEqProofs (maxSteps := 1000000) (disch := (first | omega | (simp only [go_sem] <;> omega) | fail)) only [go_sem, ints, bools, mat]
    rw [ea, eb]
  · simp
  · rintro j hj J hJ
    have hA : (sumM l (digM l u) (digM l w)).length = (digM l u).length := by rw [sumM_len, ea]
    have hm := fun h => mixS_get (A := sumM l (digM l u) (digM l w)) (t := digM l u) (0 : Int) (j := j) hA h
    have hst := fun h => mixS_step (A := sumM l (digM l u) (digM l w)) (t := digM l u) (0 : Int) (j := j) hA h
    have hsg := fun h => sumM_get (l := l) (digM l u) (digM l w) (i := j) h
    have hx := digM_bnd u hz j
    have hy := digM_bnd w hz j
    have hln : ((sumM l (digM l u) (digM l w)).take j ++ (digM l u).drop j).length = l.length := by simp [sumM_len, ea]; omega
    have hq := hz j
    by_cases hjl : j < l.length
    · have hm := hm (by omega)
      have hmb := mod_bnd (x := (digM l u).getD j 0 + (digM l w).getD j 0) (hz j hjl)
      rw [hsg hjl] at hst
      generalize (sumM l (digM l u) (digM l w)).take j ++ (digM l u).drop j = M at hm hst hln
      rw [← hm] at hx hmb
      refine go_c0 ?_
      refine hJ (j + 1) (by omega) (by omega) _ ?_
      simp -implicitDefEqProofs (maxSteps := 1000000) (disch := (first | omega | (simp only [go_sem] <;> omega) | fail)) only [go_sem, ints, bools, mat]
      rw [hm, hst (by omega)]; rfl
    · have : j = l.length := by omega
      subst this
      have e1 : (sumM l (digM l u) (digM l w)).take l.length = sumM l (digM l u) (digM l w) := List.take_of_length_le (by rw [sumM_len]; exact Nat.le_refl _)
      have e2 : (digM l u).drop l.length = [] := by rw [← ea]; simp
      rw [e1, e2, List.append_nil]
      have e3 := sumM_len l (digM l u) (digM l w)
      have y1 := kc [.r, .r] (d_spec_l01Word l (sumM l (digM l u) (digM l w)) hs e3 (sumM_lt hz _ _)); refine go_c0 ?_
      rfl
def setN (N : Nat) (c : List Int) : Nat → List Bool
  | 0 => List.replicate N false
  | j + 1 => (setN N c j).set (c.getD j 0).toNat true
@[go_sem] theorem setN_len (N : Nat) (c : List Int) : ∀ j, (setN N c j).length = N
  | 0 => by simp [setN]
  | j + 1 => by rw [setN, List.length_set, setN_len N c j]
theorem setN_get (N : Nat) (c : List Int) (hc : ∀ j, j < c.length → 0 ≤ c.getD j 0) {i : Nat} (hi : i < N) : ∀ j, j ≤ c.length → ((setN N c j).getD i false = true ↔ ∃ k, k < j ∧ c.getD k 0 = (i : Int))
  | 0, _ => by simp [setN, hi]
  | j + 1, hj => by
    have ih := setN_get N c hc hi j (by omega)
    have h0 := hc j (by omega)
    rw [setN, List.getD_eq_getElem?_getD, List.getElem?_set]
    split
    · rename_i e
      rw [if_pos (by rw [setN_len]; omega)]
      simp only [Option.getD_some, true_iff]
      exact ⟨j, by omega, by omega⟩
    · rename_i e
      rw [← List.getD_eq_getElem?_getD, ih]
      constructor
      · rintro ⟨k, hk, h⟩; exact ⟨k, by omega, h⟩
      · rintro ⟨k, hk, h⟩
        rcases Nat.lt_or_ge k j with h1 | h1
        · exact ⟨k, h1, h⟩
        · have : k = j := by omega
          subst this; omega
abbrev setM (l c : List Int) : List Bool := setN (prodM l).toNat c c.length
def cntB (l c : List Int) (M b : Int) : Nat → Nat
  | 0 => 0
  | j + 1 => if distM l b (c.getD j 0) ≤ M then cntB l c M b j + 1 else cntB l c M b j
def lastB (l c : List Int) (M b : Int) : Nat → Nat
  | 0 => 0
  | j + 1 => if distM l b (c.getD j 0) ≤ M then j else lastB l c M b j
def needN (l c : List Int) (M : Int) (B : List Int) : Nat → List Bool
  | 0 => List.replicate c.length false
  | j + 1 => if cntB l c M (B.getD j 0) c.length = 1 then (needN l c M B j).set (lastB l c M (B.getD j 0) c.length) true else needN l c M B j
@[go_sem] theorem needN_len (l c : List Int) (M : Int) (B : List Int) : ∀ j, (needN l c M B j).length = c.length
  | 0 => by simp [needN]
  | j + 1 => by rw [needN]; split <;> simp [needN_len l c M B j]
@[go_sem] theorem toNat_succ (j : Nat) : ((j : Int) + 1).toNat = j + 1 := by omega
@[go_sem] theorem all_lf_digs (ds : List (List Int)) : (digs ds).all lfD = true := by
  rw [List.all_eq_true]; intro x hx
  obtain ⟨d, _, rfl⟩ := List.mem_map.1 hx
  rw [lfD, lfDs_all, List.all_eq_true]; intro y hy
  obtain ⟨i, _, rfl⟩ := List.mem_map.1 hy
  rfl
theorem d_spec_l01Own (t : List Int) (h : t.length < 1048577) : Den PA f_spec_l01Own [.d (ints t)] [.any] (.own 1 (t.map di)) := by
  refine den_go [] l_spec_l01Own ?_
  exact go_e0
theorem d_cmp_isNaN (x : Int) : Den PA f_cmp_isNaN_int64_ [.d (di x)] [.any] (.d (db false)) := by
  refine den_go [] l_cmp_isNaN_int64_ ?_
  exact go_e0
@[go_sem] theorem toNat_pred {j : Nat} : ((j : Int) - 1).toNat = j - 1 := by omega
abbrev sortI (l : List Int) : List Int := l.mergeSort (fun x y => decide (x ≤ y))
@[go_sem] theorem sortI_len (l : List Int) : (sortI l).length = l.length := List.length_mergeSort l
theorem d_slices_Clone_ints (t : List Int) (h : t.length < 1048577) : Den PA f_slices_Clone___int64_int64_ [.d (ints t)] [.any] (.own 1 (t.map di)) := by
  refine den_go [] l_slices_Clone___int64_int64_ ?_
  exact go_e0
theorem digM_get : ∀ (l : List Int) (w : Int) (i : Nat), i < l.length → (digM l w).getD i 0 = (w / prodM (l.drop (i + 1))) % l.getD i 0
  | q :: r, w, 0, _ => by simp [digM]
  | q :: r, w, i + 1, h => by
    have := digM_get r w i (by simpa using h)
    simpa [digM] using this
theorem wordN_div {l d : List Int} (hz : szs l) (hd : ∀ i, i < l.length → 0 ≤ d.getD i 0 ∧ d.getD i 0 < l.getD i 0) : ∀ (k i : Nat), i + k = l.length → wordN l d l.length / prodM (l.drop i) = wordN l d i
  | 0, i, h => by
    have : i = l.length := by omega
    subst this; rw [List.drop_length, prodM_nil, Int.ediv_one]
  | k + 1, i, h => by
    rw [← div_step hz (show i < l.length by omega), wordN_div hz hd k (i + 1) (by omega), wordN]
    have h1 := hd i (by omega)
    rw [Int.add_comm, Int.add_mul_ediv_right _ _ (by omega), Int.ediv_eq_zero_of_lt h1.1 h1.2, Int.zero_add]
theorem digM_word {l d : List Int} (hz : szs l) (hl : d.length = l.length) (hd : ∀ i, i < l.length → 0 ≤ d.getD i 0 ∧ d.getD i 0 < l.getD i 0) : digM l (wordN l d l.length) = d := by
  apply eq_getD
  · rw [digM_len, hl]
  · intro i hi
    rw [digM_len] at hi
    rw [digM_get l _ i hi, wordN_div hz hd (l.length - (i + 1)) (i + 1) (by omega), wordN]
    have h1 := hd i hi
    rw [Int.add_comm, Int.add_mul_emod_self_right, Int.emod_eq_of_lt h1.1 h1.2]
theorem word_digM {l : List Int} {w : Int} (hz : szs l) (h0 : 0 ≤ w) (h1 : w < prodM l) : ∀ j, j ≤ l.length → wordN l (digM l w) j = w / prodM (l.drop j)
  | 0, _ => by rw [wordN, List.drop_zero, Int.ediv_eq_zero_of_lt h0 h1]
  | j + 1, h => by
    rw [wordN, word_digM hz h0 h1 j (by omega), digM_get l w j (by omega), ← div_step hz (show j < l.length by omega)]
    exact Int.ediv_mul_add_emod _ _
theorem word_eq {l : List Int} {u v : Int} (hz : szs l) (hu : 0 ≤ u ∧ u < prodM l) (hv : 0 ≤ v ∧ v < prodM l) (h : ∀ i, i < l.length → (digM l u).getD i 0 = (digM l v).getD i 0) : u = v := by
  have e : digM l u = digM l v := eq_getD (by rw [digM_len, digM_len]) (fun i hi => h i (by rw [digM_len] at hi; exact hi))
  have a := word_digM hz hu.1 hu.2 l.length (Nat.le_refl _)
  have b := word_digM hz hv.1 hv.2 l.length (Nat.le_refl _)
  rw [List.drop_length, prodM_nil, Int.ediv_one] at a b
  rw [← a, ← b, e]
theorem sumW_dig {l : List Int} (hz : szs l) (u v : Int) {i : Nat} (h : i < l.length) : (digM l (sumW l u v)).getD i 0 = ((digM l u).getD i 0 + (digM l v).getD i 0) % l.getD i 0 := by
  rw [sumW, digM_word hz (sumM_len _ _ _) (sumM_lt hz _ _), sumM_get _ _ h]
theorem sumW_comm (l : List Int) (u v : Int) : sumW l u v = sumW l v u := by
  have e : sumM l (digM l u) (digM l v) = sumM l (digM l v) (digM l u) := by
    unfold sumM; congr 1; funext i; rw [Int.add_comm]
  rw [sumW, sumW, e]
theorem code_mem {l c : List Int} (hcc : isCodeM l c = true) {u : Int} (hu : u ∈ c) : 0 ≤ u ∧ u < prodM l := by
  obtain ⟨i, hi, rfl⟩ := List.mem_iff_getElem.1 hu
  have := isCodeM_get hcc hi
  simpa [hi] using this
theorem dig_lt {l : List Int} (hz : szs l) (w : Int) {i : Nat} (h : i < l.length) : 0 ≤ (digM l w).getD i 0 ∧ (digM l w).getD i 0 < l.getD i 0 := by
  rw [digM_get l w i h]
  have := mod_bnd (x := w / prodM (l.drop (i + 1))) (hz i h)
  omega
def fdB (d : List Int) (i : Nat) : Bool := (d.getD i 0 != 0) && (List.range i).all fun j => d.getD j 0 == 0
def pvB (l c : List Int) (j i : Nat) : Bool := (List.range j).any fun k => fdB (digM l (c.getD k 0)) i
theorem code_nodup {l c : List Int} (hcc : isCodeM l c = true) : ∀ i k, i < k → k < c.length → c.getD i 0 < c.getD k 0 := by
  intro i k hik hk
  induction k with
  | zero => omega
  | succ k ih =>
    have h1 := ((isCodeM_ok l c).1 hcc).2 k hk
    by_cases e : i = k
    · subst e; exact h1
    · have := ih (by omega) (by omega); omega
@[go_sem] theorem flat_dy (l : List Int) : flat (l.map dy) = l.map dy := flat_one _ l
@[go_sem] theorem all_one_dy (l : List Int) : (l.map dy).all isOne = true := by rw [List.all_map]; simp [isOne]
attribute [go_sem] slaM
def firN (l c : List Int) (n j : Nat) : List Bool := (List.range n).map fun i => pvB l c j i
@[go_sem] theorem firN_len (l c : List Int) (n j : Nat) : (firN l c n j).length = n := by simp [firN]
@[go_sem] theorem getB2 {l : List Bool} {j : Nat} (h : j < l.length) : (l.map db)[j]? = some (db (l.getD j false)) := by simp [h]
@[go_sem] theorem mask32 {x : Int} (h : 0 ≤ x) (h' : x < 4294967296) : binA .and (.d (.v (.int .u64 x))) (.d (.v (.int .u64 4294967295))) = some (.d (.v (.int .u64 x))) := by
  have e : (BitVec.ofInt 64 x &&& BitVec.ofInt 64 4294967295).toNat = x.toNat := by
    rw [BitVec.toNat_and, ofInt_nat h (by omega), ofInt_nat (by omega) (by omega)]
    have := Nat.and_two_pow_sub_one_eq_mod x.toNat 32
    rw [show (4294967295 : Int).toNat = 2 ^ 32 - 1 from rfl, this]
    exact Nat.mod_eq_of_lt (by omega)
  have e2 : binI .and .u64 x 4294967295 = some (.int .u64 (IntKind.wrap .u64 ((BitVec.ofInt 64 x &&& BitVec.ofInt 64 4294967295).toNat : Nat))) := rfl
  simp only [binA, e2, BinOp.isShift, or_true, if_true, e, Option.map_some]
  rw [wrap_u64 (by omega) (by omega), Int.toNat_of_nonneg h]
@[go_sem] theorem shr32 {x : Int} (h : 0 ≤ x) (h' : x < 4294967296) : binA .shr (.d (.v (.int .u64 x))) (.d (.v (.int .u64 32))) = some (.d (.v (.int .u64 0))) := by
  have e : min (32 : Int).toNat 64 = 32 := rfl
  have h1 : (0 : Int) ≤ 2 ^ 32 := by decide
  simp only [binA, binI, BinOp.isShift, true_or, if_true, if_neg (show ¬ (32 : Int) < 0 by omega), IntKind.bits, e, Option.map_some, Int.fdiv_eq_ediv_of_nonneg _ h1]
  rw [Int.ediv_eq_zero_of_lt h (by exact h')]
@[go_sem] theorem cast_one1 : ((1 : Nat) : Int) = 1 := rfl
theorem d_spec_l01Has (c : List Int) (x : Int) (hc : c.length < 1048577) : Den PA f_spec_l01Has [.d (ints c), .d (di x)] [.any, .any] (.d (db (c.any fun y => y == x))) := by
  refine den_go [] l_spec_l01Has ?_
  refine go_c0 ?_
  refine go_loop (fun (j : Nat) => ⟨[(0, .d (ints c)), (1, .d (di x)), (5, .d (di j))], []⟩) (fun j => j ≤ c.length ∧ ∀ i, i < j → c.getD i 0 ≠ x) (fun j => c.length - j) 0 ?_ ?_ ?_
  · exact go_r0
  · simp
  · rintro j ⟨hj, hi⟩ J hJ
    repeat' (first | simp -implicitDefEqProofs (maxSteps := 1000000) (disch := (first | omega | (simp only [go_sem] <;> omega) | fail)) only [go_sem, ints, bools, mat] | ((first | apply goIf_b | apply goG_b | apply goTG_b | apply goOG_b) <;> intro h <;> ((try simp only [hnq] at h); (try simp only [h]); (try simp only [hnr] at h))))
    · refine dbT (List.any_eq_true.2 ⟨_, mem_getD (l := c) (j := j) (by omega), ?_⟩)
      rw [beq_iff_eq]; assumption
    · refine hJ (j + 1) ⟨by omega, all_ext hi (by assumption)⟩ (by omega) _ go_r0
    · refine dbF fun h' => ?_
      obtain ⟨y, hy, e⟩ := List.any_eq_true.1 h'
      obtain ⟨k, hk, rfl⟩ := List.mem_iff_getElem.1 hy
      refine hi k (by omega) ?_
      rw [beq_iff_eq] at e; simp [hk, e]
def vecs : List Int → List (List Int)
  | [] => [[]]
  | q :: r => (List.range q.toNat).flatMap fun (d : Nat) => (vecs r).map fun v => (d : Int) :: v
theorem range_mul (b : Nat) : ∀ a : Nat, List.range (a * b) = (List.range a).flatMap fun i => (List.range b).map fun j => i * b + j
  | 0 => by simp
  | a + 1 => by
    rw [Nat.add_mul, Nat.one_mul, List.range_add, range_mul b a, List.range_succ, List.flatMap_append]
    simp
theorem digM_per : ∀ {r : List Int}, szs r → ∀ (w d : Int), digM r (w + d * prodM r) = digM r w
  | [], _, _, _ => rfl
  | q :: r, h, w, d => by
    have hp := prodM_pos (szs_tail h)
    rw [digM, digM, prodM_cons, ← Int.mul_assoc, digM_per (szs_tail h), Int.add_mul_ediv_right _ _ (by omega), Int.add_mul_emod_self_right]
theorem vecs_ok : ∀ {l : List Int}, szs l → (allW l).map (digM l) = vecs l
  | [], _ => by simp [allW, prodM_nil, vecs, digM, List.range_succ]
  | q :: r, h => by
    have hp := prodM_pos (szs_tail h)
    have hq := h 0 (by simp)
    simp at hq
    have ih := vecs_ok (szs_tail h)
    rw [vecs, ← ih]
    have e : (prodM (q :: r)).toNat = q.toNat * (prodM r).toNat := by rw [prodM_cons, Int.toNat_mul (by omega) (by omega)]
    have fc : ∀ (L : List Nat) (f g : Nat → List (List Int)), (∀ a, a ∈ L → f a = g a) → L.flatMap f = L.flatMap g := fun L f g hh => by
      induction L with
      | nil => rfl
      | cons x L ih => rw [List.flatMap_cons, List.flatMap_cons, hh x List.mem_cons_self, ih fun a ha => hh a (List.mem_cons_of_mem _ ha)]
    rw [allW, e, range_mul, List.map_flatMap, List.map_flatMap]
    refine fc _ _ _ fun d hd => ?_
    have hd := List.mem_range.1 hd
    rw [allW, List.map_map, List.map_map, List.map_map, List.map_map]
    refine List.map_congr_left fun j hj => ?_
    have hj := List.mem_range.1 hj
    simp only [Function.comp]
    have e2 : ((d * (prodM r).toNat + j : Nat) : Int) = (j : Int) + (d : Int) * prodM r := by
      rw [Int.natCast_add, Int.natCast_mul, Int.toNat_of_nonneg (by omega)]; omega
    rw [e2, digM, digM_per (szs_tail h), Int.add_mul_ediv_right _ _ (by omega), Int.ediv_eq_zero_of_lt (by omega) (by omega), Int.zero_add, Int.emod_eq_of_lt (by omega) (by omega)]
def dn (f : Nat → Int) (k : Nat) : Int := if k = 0 then 0 else f (k - 1)
def mulB (b : Int) (f : Nat → Int) (k : Nat) : Int := f k + b * dn f k
theorem getD_set (o : List Int) (i j : Nat) (v : Int) (hi : i < o.length) : (o.set i v).getD j 0 = if i = j then v else o.getD j 0 := by
  rw [List.getD_eq_getElem?_getD, List.getElem?_set]
  split
  · first | rfl | (rename_i e; subst e; simp [hi])
  · rw [List.getD_eq_getElem?_getD]
def FL (n : Nat) (f : Nat → Int) : List Int := (List.range (n + 1)).map f
@[go_sem] theorem FL_len (n : Nat) (f : Nat → Int) : (FL n f).length = n + 1 := by simp [FL]
theorem mulB_comm (a b : Int) (f : Nat → Int) : mulB a (mulB b f) = mulB b (mulB a f) := by
  funext k
  simp only [mulB, dn]
  split
  · omega
  · split
    · simp only [Int.mul_zero, Int.add_zero]; omega
    · simp only [Int.mul_add]
      rw [Int.mul_left_comm]; omega
@[go_sem] theorem tn1 (f r : Nat) : ((f : Int) + (2 * (r : Int) + 1)).toNat = f + (2 * r + 1) := by omega
@[go_sem] theorem tn2 (f r : Nat) : ((f : Int) + (2 * (r : Int) + 1) + 1).toNat = f + (2 * r + 2) := by omega
@[go_sem] theorem tn3 (f r : Nat) : ((f : Int) + (2 * (r : Int) + 1 + 1)).toNat = f + (2 * r + 2) := by omega
@[go_sem] theorem tn4 (f r : Nat) : ((f : Int) + (r : Int)).toNat = f + r := by omega
theorem half (a b : Nat) (h : a ≤ b) : ((b : Int) - (a : Int) - 1).tdiv 2 = (((b - a - 1) / 2 : Nat) : Int) := by
  by_cases e : a = b
  · subst e
    rw [show (a : Int) - (a : Int) - 1 = -1 by omega, show a - a - 1 = 0 by omega]; rfl
  · rw [show (b : Int) - (a : Int) - 1 = ((b - a - 1 : Nat) : Int) by omega]; rfl
theorem d_slices_Sort (l : List Int) (h : l.length < 4611686018427387904) : Den PA f_slices_Sort___int64_int64_ [.own 1 (l.map di)] [.own 1 ((sortI l).map di)] (.tup []) := den_sort (okF_low l_slices_Sort___int64_int64_) sort_calls l h
def cpN (l : List Int) : Nat → List Int
  | 0 => []
  | m + 1 => if m = 0 ∨ l.getD m 0 ≠ l.getD (m - 1) 0 then cpN l m ++ [l.getD m 0] else cpN l m
abbrev cpM (l : List Int) : List Int := cpN l l.length
theorem cpN_len (l : List Int) : ∀ m, (cpN l m).length ≤ m
  | 0 => Nat.le_refl _
  | m + 1 => by
    have := cpN_len l m
    rw [cpN]; split
    · simp; omega
    · omega
theorem cpN_take {l : List Int} : ∀ k, k ≤ l.length → (∀ i, 1 ≤ i → i < k → l.getD i 0 ≠ l.getD (i - 1) 0) → cpN l k = l.take k
  | 0, _, _ => by simp [cpN]
  | k + 1, h, hd => by
    rw [cpN, cpN_take k (by omega) (fun i a b => hd i a (by omega)), if_pos, List.take_add_one]
    · simp [show k < l.length by omega]
    · rcases Nat.eq_zero_or_pos k with h0 | h0
      · exact .inl h0
      · exact .inr (hd k h0 (by omega))
theorem take_set_snoc {l : List Int} {k : Nat} (v : Int) (h : k < l.length) : (l.set k v).take (k + 1) = l.take k ++ [v] := by
  rw [List.take_add_one, List.take_set_of_le (Nat.le_refl k)]; simp [h]
theorem leaS_part {i n : Nat} {es : List D} {s : Sto} (h : n ≤ es.length) : leaS (some (some (.dat 1 es))) i 0 n 1 s = (.own 1 (es.take n), s.set i none) := by
  simp [leaS, h]
theorem leaS_sub {i c n : Nat} {es : List D} {s : Sto} (h : c + n ≤ es.length) : leaS (some (some (.dat 1 es))) i c n 1 s = (.own 1 ((es.drop c).take n), s.set i none) := by
  simp [leaS, h, Nat.mod_one]
theorem d_slices_Compact (l : List Int) (hl : l.length < 1048577) : Den PA f_slices_Compact___int64_int64_ [.own 1 (l.map di)] [.any] (.own 1 ((cpM l).map di)) := by
  refine den_go [] l_slices_Compact___int64_int64_ ?_
  repeat' (first | simp -implicitDefEqProofs (maxSteps := 1000000) (disch := (first | omega | (simp only [go_sem] <;> omega) | fail)) only [go_sem, ints, bools, mat, c_slices_Compact___int64_int64_] | ((first | apply goIf_b | apply goG_b | apply goTG_b | apply goOG_b) <;> intro h <;> ((try simp only [hnq] at h); (try simp only [h]); (try simp only [hnr] at h)) <;> (try (exfalso; omega))))
  · have e : cpM l = l := by
      rw [cpM, cpN_take l.length (Nat.le_refl _) (fun i a b => by omega)]; simp
    rw [e]
  · refine go_loop (fun (k : Nat) => ⟨[(0, .sl 0 0 l.length 1), (3, .d (di k)), (61, .any)], [some (.dat 1 (l.map di))]⟩) (fun k => 1 ≤ k ∧ k ≤ l.length ∧ ∀ i, 1 ≤ i → i < k → l.getD i 0 ≠ l.getD (i - 1) 0) (fun k => l.length - k) 1 ?_ ?_ ?_
    · exact go_r0
    · exact ⟨Nat.le_refl _, by omega, fun i a b => by omega⟩
    · rintro k ⟨h1, h2, h3⟩ J hJ
      repeat' (first | simp -implicitDefEqProofs (maxSteps := 1000000) (disch := (first | omega | (simp only [go_sem] <;> omega) | fail)) only [go_sem, ints, bools, mat] | ((first | apply goIf_b | apply goG_b | apply goTG_b | apply goOG_b) <;> intro h <;> ((try simp only [hnq] at h); (try simp only [h]); (try simp only [hnr] at h)) <;> (try (exfalso; omega))))
      · have hk := cpN_take k (by omega) h3
        refine go_loop (fun (p : Nat × List Int) => ⟨[(0, .sl 0 0 l.length 1), (3, .d (di (cpN l (k + p.1)).length)), (4, .sl 0 k (l.length - k) 1), (5, .d (di p.1)), (61, .any)], [some (.dat 1 (p.2.map di))]⟩) (fun p => 1 ≤ p.1 ∧ k + p.1 ≤ l.length ∧ p.2.length = l.length ∧ p.2.take (cpN l (k + p.1)).length = cpN l (k + p.1) ∧ (cpN l (k + p.1)).length < k + p.1 ∧ ∀ j, k + p.1 - 1 ≤ j → j < l.length → p.2.getD j 0 = l.getD j 0) (fun p => l.length - p.1) (1, l) ?_ ?_ ?_
        · have hc : cpN l (k + 1) = l.take k := by rw [cpN, if_neg, hk]; omega
          simp -implicitDefEqProofs (maxSteps := 1000000) (disch := (first | omega | (simp only [go_sem] <;> omega) | fail)) only [go_sem, ints, bools, mat]
          rw [hc, List.length_take, Nat.min_eq_left h2]
        · have hc : cpN l (k + 1) = l.take k := by rw [cpN, if_neg, hk]; omega
          refine ⟨Nat.le_refl _, by omega, rfl, ?_, ?_, fun j a b => rfl⟩
          · rw [hc, List.length_take, Nat.min_eq_left h2]
          · rw [hc, List.length_take, Nat.min_eq_left h2]; omega
        · rintro ⟨m, X⟩ ⟨g1, g2, g3, g4, g5, g6⟩ J' hJ'
          have ge1 := g6 (k + m - 1) (Nat.le_refl _)
          have ge2 := g6 (k + m) (by omega)
          have hlt := cpN_len l (k + m)
          dsimp only at g1 g2 g3 g4 g5 g6 ge1 ge2 ⊢
          repeat' (first | simp -implicitDefEqProofs (maxSteps := 1000000) (disch := (first | omega | (simp only [go_sem] <;> omega) | fail)) only [go_sem, ints, bools, mat, clrM, leaS_part] | ((first | apply goIf_b | apply goG_b | apply goTG_b | apply goOG_b) <;> intro h <;> ((try simp only [hnq] at h); (try simp only [h]); (try simp only [hnr] at h)) <;> (try (exfalso; omega))))
          · have hne := h
            rw [ge2 (by omega)] at hne
            rw [show k + (m - 1) = k + m - 1 by omega, ge1 (by omega)] at hne
            have hc : cpN l (k + (m + 1)) = cpN l (k + m) ++ [l.getD (k + m) 0] := by
              rw [← Nat.add_assoc, cpN, if_pos (.inr hne)]
            refine hJ' (m + 1, X.set (cpN l (k + m)).length (X.getD (k + m) 0)) ⟨by omega, by omega, by simpa using g3, ?_, ?_, fun j a b => ?_⟩ (by dsimp only; omega) _ ?_
            · dsimp only
              rw [hc, List.length_append, List.length_singleton, take_set_snoc _ (by omega), g4, ge2 (by omega)]
            · dsimp only; rw [hc]; simp; omega
            · dsimp only at a ⊢
              rw [getD_set _ _ _ _ (by omega), if_neg (by omega)]; exact g6 j (by omega) b
            · dsimp only
              simp -implicitDefEqProofs (maxSteps := 1000000) (disch := (first | omega | (simp only [go_sem] <;> omega) | fail)) only [go_sem, ints, bools, mat]
              rw [hc]; simp
          · have hne := h
            rw [ge2 (by omega)] at hne
            rw [show k + (m - 1) = k + m - 1 by omega, ge1 (by omega)] at hne
            have hc : cpN l (k + (m + 1)) = cpN l (k + m) := by
              rw [← Nat.add_assoc, cpN, if_neg]; omega
            refine hJ' (m + 1, X) ⟨by omega, by omega, g3, ?_, ?_, fun j a b => ?_⟩ (by dsimp only; omega) _ ?_
            · dsimp only; rw [hc]; exact g4
            · dsimp only; rw [hc]; omega
            · dsimp only at a ⊢
              exact g6 j (by omega) b
            · dsimp only
              simp -implicitDefEqProofs (maxSteps := 1000000) (disch := (first | omega | (simp only [go_sem] <;> omega) | fail)) only [go_sem, ints, bools, mat]
              rw [hc]; rfl
          · have hkm : k + m = l.length := by omega
            congr 1
            rw [List.append_assoc, List.take_append_of_le_length (by rw [List.length_take]; omega), List.take_take, Nat.min_self, g4, hkm]
      · refine hJ (k + 1) ⟨by omega, by omega, fun i a b => ?_⟩ (by omega) _ go_r0
        rcases Nat.lt_or_ge i k with c | c
        · exact h3 i a c
        · have : i = k := by omega
          subst this; omega
      · have e : cpM l = l := by
          rw [cpM, cpN_take l.length (Nat.le_refl _) (fun i a b => h3 i a (by omega))]; simp
        rw [e]
abbrev Asc (l : List Int) : Prop := l.Pairwise (· < ·)
theorem asc_ext : ∀ {a b : List Int}, Asc a → Asc b → (∀ x, x ∈ a ↔ x ∈ b) → a = b
  | [], [], _, _, _ => rfl
  | [], y :: s, _, _, h => by have := (h y).2 (by simp); simp at this
  | x :: r, [], _, _, h => by have := (h x).1 (by simp); simp at this
  | x :: r, y :: s, ha, hb, h => by
    obtain ⟨a1, a2⟩ := List.pairwise_cons.1 ha
    obtain ⟨b1, b2⟩ := List.pairwise_cons.1 hb
    have hxy : x = y := by
      have h1 := (h x).1 (by simp)
      have h2 := (h y).2 (by simp)
      simp only [List.mem_cons] at h1 h2
      rcases h1 with h1 | h1
      · exact h1
      · rcases h2 with h2 | h2
        · exact h2.symm
        · have := b1 x h1; have := a1 y h2; omega
    subst hxy
    rw [asc_ext a2 b2 fun z => ?_]
    have := h z
    simp only [List.mem_cons] at this
    constructor
    · intro hz
      rcases this.1 (.inr hz) with e | e
      · have := a1 z hz; omega
      · exact e
    · intro hz
      rcases this.2 (.inr hz) with e | e
      · have := b1 z hz; omega
      · exact e
theorem asc_snoc {l : List Int} {x : Int} (h : Asc l) (hx : ∀ y, y ∈ l → y < x) : Asc (l ++ [x]) := by
  refine List.pairwise_append.2 ⟨h, by simp, fun a ha b hb => ?_⟩
  simp at hb; subst hb; exact hx a ha
theorem cpN_ok {l : List Int} (hs : l.Pairwise (· ≤ ·)) : ∀ m, m ≤ l.length → Asc (cpN l m) ∧ (∀ x, x ∈ cpN l m ↔ x ∈ l.take m)
  | 0, _ => by simp [cpN, Asc]
  | m + 1, h => by
    obtain ⟨h1, h2⟩ := cpN_ok hs m (by omega)
    have hm : ∀ x, x ∈ l.take m → x ≤ l.getD m 0 := fun x hx => by
      obtain ⟨i, hi, rfl⟩ := List.mem_iff_getElem.1 hx
      simp at hi
      have := List.pairwise_iff_getElem.1 hs i m (by omega) (by omega) (by omega)
      simpa [show m < l.length by omega] using this
    have ht : l.take (m + 1) = l.take m ++ [l.getD m 0] := by rw [List.take_add_one]; simp [show m < l.length by omega]
    rw [cpN, ht]
    split
    · rename_i hc
      refine ⟨asc_snoc h1 fun y hy => ?_, fun x => by simp only [List.mem_append, h2]⟩
      rw [h2] at hy
      rcases hc with rfl | hc
      · simp at hy
      · obtain ⟨i, hi, rfl⟩ := List.mem_iff_getElem.1 hy
        simp at hi
        have e1 : (l.take m)[i] ≤ l.getD (m - 1) 0 := by
          rcases Nat.lt_or_ge i (m - 1) with hlt | hge
          · have := List.pairwise_iff_getElem.1 hs i (m - 1) (by omega) (by omega) hlt
            simpa [show m - 1 < l.length by omega] using this
          · have : i = m - 1 := by omega
            subst this; simp [show m - 1 < l.length by omega]
        have e2 : l.getD (m - 1) 0 ≤ l.getD m 0 := by
          have := List.pairwise_iff_getElem.1 hs (m - 1) m (by omega) (by omega) (by omega)
          simpa [show m - 1 < l.length by omega, show m < l.length by omega] using this
        omega
    · rename_i hc
      refine ⟨h1, fun x => ?_⟩
      rw [h2, List.mem_append]
      constructor
      · exact .inl
      · rintro (hx | hx)
        · exact hx
        · simp only [List.mem_singleton] at hx
          have hm0 : m ≠ 0 := fun e => hc (.inl e)
          have he : l.getD m 0 = l.getD (m - 1) 0 := Decidable.not_not.1 fun e => hc (.inr e)
          rw [hx, he]
          refine List.mem_iff_getElem.2 ⟨m - 1, by simp; omega, ?_⟩
          simp [show m - 1 < l.length by omega]
theorem sortI_sorted (l : List Int) : (sortI l).Pairwise (· ≤ ·) := by
  have := List.pairwise_mergeSort (le := fun x y : Int => decide (x ≤ y)) (fun a b c h1 h2 => by simp at *; omega) (fun a b => by simp; omega) l
  exact this.imp fun h => by simpa using h
theorem sortI_mem (l : List Int) (x : Int) : x ∈ sortI l ↔ x ∈ l := List.mem_mergeSort
abbrev setI (l : List Int) : List Int := cpM (sortI l)
theorem setI_asc (l : List Int) : Asc (setI l) := (cpN_ok (sortI_sorted l) _ (Nat.le_refl _)).1
theorem setI_mem (l : List Int) (x : Int) : x ∈ setI l ↔ x ∈ l := by
  rw [(cpN_ok (sortI_sorted l) _ (Nat.le_refl _)).2, List.take_length, sortI_mem]
theorem setI_len (l : List Int) : (setI l).length ≤ l.length := by
  exact Nat.le_trans (cpN_len (sortI l) (sortI l).length) (Nat.le_of_eq (List.length_mergeSort l))
theorem setI_eq {l m : List Int} (h : Asc m) (hm : ∀ x, x ∈ m ↔ x ∈ l) : setI l = m := asc_ext (setI_asc l) h fun x => by rw [setI_mem, hm]
theorem setI_self {l : List Int} (h : Asc l) : setI l = l := setI_eq h fun _ => Iff.rfl
theorem asc_nodup {l : List Int} (h : Asc l) : l.Nodup := h.imp fun h => Int.ne_of_lt h
theorem sortI_nodup {l : List Int} (h : l.Nodup) : sortI l = setI l := by
  refine asc_ext ?_ (setI_asc l) fun x => by rw [setI_mem, sortI_mem]
  have h1 : (sortI l).Nodup := (List.mergeSort_perm l _).nodup_iff.2 h
  have h2 := sortI_sorted l
  have := List.pairwise_iff_getElem.1 h2
  refine List.pairwise_iff_getElem.2 fun i j hi hj hij => ?_
  have a := this i j hi hj hij
  have b := List.pairwise_iff_getElem.1 h1 i j hi hj hij
  omega
def ptN (l : List Int) (x : Int) : Nat → Nat
  | 0 => 0
  | n + 1 => if x < l.getD n 0 then ptN l x n else n + 1
def putI (l : List Int) (x : Int) : List Int :=
  let a := ptN l x l.length
  if 0 < a ∧ l.getD (a - 1) 0 = x then l else l.take a ++ [x] ++ l.drop a
theorem ptN_le (l : List Int) (x : Int) : ∀ n, ptN l x n ≤ n
  | 0 => Nat.le_refl _
  | n + 1 => by
    have := ptN_le l x n
    rw [ptN]; split <;> omega
theorem ptN_gt (l : List Int) (x : Int) : ∀ n i, ptN l x n ≤ i → i < n → x < l.getD i 0
  | 0, i, h1, h2 => by omega
  | n + 1, i, h1, h2 => by
    rw [ptN] at h1
    split at h1
    · by_cases e : i = n
      · subst e; assumption
      · exact ptN_gt l x n i h1 (by omega)
    · omega
theorem ptN_at (l : List Int) (x : Int) : ∀ n, 0 < ptN l x n → l.getD (ptN l x n - 1) 0 ≤ x
  | 0, h => by simp [ptN] at h
  | n + 1, h => by
    rw [ptN] at h ⊢
    split at h
    · rename_i hx
      rw [if_pos hx]; exact ptN_at l x n h
    · rename_i hx
      rw [if_neg hx]; simp only [Nat.add_sub_cancel]; omega
theorem putI_len (l : List Int) (x : Int) : (putI l x).length ≤ l.length + 1 := by
  have := ptN_le l x l.length
  simp only [putI]
  split
  · omega
  · simp; omega
theorem putI_mem {l : List Int} {x : Int} (y : Int) : y ∈ putI l x ↔ y ∈ l ∨ y = x := by
  have hl := ptN_le l x l.length
  simp only [putI]
  split
  · rename_i h
    constructor
    · exact .inl
    · rintro (h1 | rfl)
      · exact h1
      · rw [← h.2]; exact mem_getD (by omega)
  · simp only [List.mem_append, List.mem_singleton]
    conv => rhs; rw [← List.take_append_drop (ptN l x l.length) l, List.mem_append]
    constructor
    · rintro ((h | h) | h)
      · exact .inl (.inl h)
      · exact .inr h
      · exact .inl (.inr h)
    · rintro ((h | h) | h)
      · exact .inl (.inl h)
      · exact .inr h
      · exact .inl (.inr h)
theorem putI_asc {l : List Int} (h : Asc l) (x : Int) : Asc (putI l x) := by
  have hl := ptN_le l x l.length
  have hg := ptN_gt l x l.length
  have ha := ptN_at l x l.length
  simp only [putI]
  generalize ptN l x l.length = a at *
  split
  · exact h
  · rename_i hn
    have h1 : ∀ y, y ∈ l.take a → y < x := fun y hy => by
      obtain ⟨i, hi, rfl⟩ := List.mem_iff_getElem.1 hy
      simp at hi
      have h3 := ha (by omega)
      have h4 : l.getD (a - 1) 0 ≠ x := fun e => hn ⟨by omega, e⟩
      have h5 : (l.take a)[i] ≤ l.getD (a - 1) 0 := by
        rcases Nat.lt_or_ge i (a - 1) with hlt | hge
        · have := List.pairwise_iff_getElem.1 h i (a - 1) (by omega) (by omega) hlt
          simp [show a - 1 < l.length by omega]; omega
        · have : i = a - 1 := by omega
          subst this; simp [show a - 1 < l.length by omega]
      omega
    have h2 : ∀ y, y ∈ l.drop a → x < y := fun y hy => by
      obtain ⟨i, hi, rfl⟩ := List.mem_iff_getElem.1 hy
      simp at hi
      have := hg (a + i) (by omega) (by omega)
      simpa [show a + i < l.length by omega] using this
    rw [List.append_assoc]
    have hh := List.pairwise_append.1 (show Asc (l.take a ++ l.drop a) by rw [List.take_append_drop]; exact h)
    refine List.pairwise_append.2 ⟨hh.1, List.pairwise_cons.2 ⟨fun y hy => h2 y hy, hh.2.1⟩, fun y hy z hz => ?_⟩
    simp only [List.singleton_append, List.mem_cons] at hz
    rcases hz with rfl | hz
    · exact h1 y hy
    · have := h1 y hy; have := h2 z hz; omega
def putsN (f : Nat → Int) : Nat → List Int
  | 0 => []
  | j + 1 => putI (putsN f j) (f j)
theorem putsN_asc (f : Nat → Int) : ∀ j, Asc (putsN f j)
  | 0 => by simp [putsN]
  | j + 1 => putI_asc (putsN_asc f j) _
theorem putsN_mem (f : Nat → Int) (x : Int) : ∀ j, x ∈ putsN f j ↔ ∃ i, i < j ∧ x = f i
  | 0 => by simp [putsN]
  | j + 1 => by
    rw [putsN, putI_mem, putsN_mem f x j]
    constructor
    · rintro (⟨i, h1, h2⟩ | h)
      · exact ⟨i, by omega, h2⟩
      · exact ⟨j, by omega, h⟩
    · rintro ⟨i, h1, h2⟩
      by_cases e : i = j
      · subst e; exact .inr h2
      · exact .inl ⟨i, by omega, h2⟩
theorem putsN_len (f : Nat → Int) : ∀ j, (putsN f j).length ≤ j
  | 0 => Nat.le_refl _
  | j + 1 => by
    have := putsN_len f j
    have := putI_len (putsN f j) (f j)
    rw [putsN]; omega
theorem putsN_map (l : List Int) (g : Int → Int) : putsN (fun i => g (l.getD i 0)) l.length = setI (l.map g) := by
  refine asc_ext (putsN_asc _ _) (setI_asc _) fun x => ?_
  rw [putsN_mem, setI_mem, List.mem_map]
  constructor
  · rintro ⟨i, h1, rfl⟩; exact ⟨_, mem_getD h1, rfl⟩
  · rintro ⟨y, hy, rfl⟩
    obtain ⟨i, hi, rfl⟩ := List.mem_iff_getElem.1 hy
    exact ⟨i, hi, by simp [hi]⟩
@[go_sem] theorem setI_len_le (l : List Int) : (sortI l).length = l.length := List.length_mergeSort l
def fnT (c : List Int) (t : Int → Int) : List D → Value → Prop := fun ds r => ∃ u, u ∈ c ∧ ds = [di u] ∧ r = .int .i64 (t u)
theorem fnT_mk {c : List Int} (t : Int → Int) {j : Nat} (h : j < c.length) : fnT c t [di (c.getD j 0)] (.int .i64 (t (c.getD j 0))) := ⟨_, mem_getD h, rfl, rfl⟩
theorem d_impl_mapped (c : List Int) (t : Int → Int) (hc : c.length < 1048577) :
    Den PA f_impl_mapped [.d (ints c), .pfn (fnT c t)] [.any, .any] (.own 1 ((setI (c.map t)).map di)) := by
  refine den_go [] l_impl_mapped ?_
  refine go_c0 ?_
  refine go_loop (fun (j : Nat) => ⟨[(1, .pfn (fnT c t)), (5, .sl 0 0 j 1), (9, .d (ints c)), (10, .d (di c.length)), (11, .d (di j)), (26, .any)], [some (.dat 1 (((c.map t).take j).map di))]⟩) (fun j => j ≤ c.length) (fun j => c.length - j) 0 ?_ ?_ ?_
  · exact go_r0
  · simp
  · rintro j hj J hJ
    repeat' (first | simp -implicitDefEqProofs (maxSteps := 1000000) (disch := (first | omega | (simp only [go_sem] <;> omega) | fail)) only [go_sem, ints, bools, mat] | ((first | apply goIf_b | apply goG_b | apply goTG_b | apply goOG_b) <;> intro h <;> ((try simp only [hnq] at h); (try simp only [h]); (try simp only [hnr] at h))))
    · refine goV_pfn [di (c.getD j 0)] (.int .i64 (t (c.getD j 0))) (by simp -implicitDefEqProofs (maxSteps := 1000000) (disch := (first | omega | (simp only [go_sem] <;> omega) | fail)) only [go_sem, ints, bools, mat]) rfl (fnT_mk t (by omega)) ?_
      refine go_c0 ?_
      refine hJ (j + 1) (by omega) (by omega) _ ?_
      simp -implicitDefEqProofs (maxSteps := 1000000) (disch := (first | omega | (simp only [go_sem] <;> omega) | fail)) only [go_sem, ints, bools, mat]
      rw [List.take_add_one]; simp [show j < c.length by omega]
    · have : j = c.length := by omega
      subst this
      have y1 := kc [.o] (d_slices_Sort (c.map t) (by simp; omega)); have y2 := kc [.o] (d_slices_Compact (sortI (c.map t)) (by simp; omega)); exact go_e0
theorem d_spec_l01Put (l : List Int) (x : Int) (hl : l.length < 1048576) : Den PA f_spec_l01Put [.own 1 (l.map di), .d (di x)] [.any, .any] (.own 1 ((putI l x).map di)) := by
  have hle := ptN_le l x l.length
  refine den_go [] l_spec_l01Put ?_
  refine go_c0 ?_
  refine go_loop (fun (a : Nat) => ⟨[(0, .sl 0 0 l.length 1), (1, .d (di x)), (5, .d (di a))], [some (.dat 1 (l.map di))]⟩) (fun a => a ≤ l.length ∧ ptN l x l.length = ptN l x a) (fun a => a) l.length ?_ ?_ ?_
  · exact go_r0
  · exact ⟨Nat.le_refl _, rfl⟩
  · rintro a ⟨h1, h2⟩ J hJ
    cases a with
    | zero =>
      have e : putI l x = [x] ++ l := by simp [putI, h2, ptN]
      have y1 := kc [.r] (d_spec_l01Own [] (by simp)); refine go_c0 ?_
      rw [e]; rfl
    | succ a =>
      repeat' (first | simp -implicitDefEqProofs (maxSteps := 1000000) (disch := (first | omega | (simp only [go_sem] <;> omega) | fail)) only [go_sem, ints, bools, mat] | ((first | apply goIf_b | apply goG_b | apply goTG_b | apply goOG_b) <;> intro h <;> ((try simp only [hnq] at h); (try simp only [h]); (try simp only [hnr] at h)) <;> (try (exfalso; omega))))
      · refine hJ a ⟨by omega, ?_⟩ (by omega) _ ?_
        · rw [h2, ptN, if_pos (by simpa using h)]
        · exact go_r0
      · have hx : ptN l x (a + 1) = a + 1 := by rw [ptN, if_neg (by omega)]
        rw [putI, h2, hx, if_pos ⟨by omega, by simpa using h⟩]
      · have hx : ptN l x (a + 1) = a + 1 := by rw [ptN, if_neg (by omega)]
        have y1 := kc [.r] (d_spec_l01Own (l.take (a + 1)) (by simp; omega)); refine go_c0 ?_
        rw [putI, h2, hx, if_neg (fun hc => h (by simpa using hc.2))]
abbrev inC (l c : List Int) : Prop := ∀ u, u ∈ c → 0 ≤ u ∧ u < prodM l
theorem inC_get {l c : List Int} (h : inC l c) : ∀ j, j < c.length → 0 ≤ c.getD j 0 ∧ c.getD j 0 < prodM l := fun j hj => h _ (mem_getD hj)
theorem inC_big {l c : List Int} (hs : isSpaceM l = true) (h : inC l c) : ∀ j, j < c.length → 0 ≤ c.getD j 0 ∧ c.getD j 0 < 1000000000000 := fun j hj => by
  have := inC_get h j hj; have := isSpaceM_prod hs; omega
theorem inC_code {l c : List Int} (hcc : isCodeM l c = true) : inC l c := fun u hu => code_mem hcc hu
theorem d_impl_shifted_1 (l : List Int) (hs : isSpaceM l = true) (u w : Int) (hu : 0 ≤ u) (hu2 : u < 1000000000000) :
    Den PA f_impl_shifted_1 [.d (di u), .box [ints l], .box ((pad8 (digM l w)).map dy)] [.any, .any, .any] (.d (di (sumW l u w))) := by
  have hn := isSpaceM_n hs
  have hz := isSpaceM_szs hs
  have ea := digM_len l u
  have eb := digM_len l w
  refine den_go [] l_impl_shifted_1 ?_
  have y1 := kc [.r, .r] (d_impl_digitsOf l hs u hu hu2); have y2 := kc [.r, .r, .r] (d_impl_sumOf l (digM l u) (digM l w) hs (by omega) (by omega) (digM_bnd u hz) (digM_bnd w hz)); have y3 := kc [.r, .r] (d_impl_wordOf l (sumM l (digM l u) (digM l w)) hs (by rw [sumM_len]; omega) (sumM_lt hz _ _)); refine go_c0 ?_
  rfl
abbrev shM (l c : List Int) (w : Int) : List Int := setI (c.map fun u => sumW l u w)
theorem shM_len (l c : List Int) (w : Int) : (shM l c w).length ≤ c.length := Nat.le_trans (setI_len _) (by simp)
theorem shM_in {l : List Int} (hs : isSpaceM l = true) (c : List Int) (w : Int) : inC l (shM l c w) := fun u hu => by
  rw [setI_mem, List.mem_map] at hu
  obtain ⟨v, _, rfl⟩ := hu
  exact sumW_bnd hs v w
theorem d_impl_shifted (l c : List Int) (hs : isSpaceM l = true) (hc : c.length < 1048577) (hcw : inC l c) (w : Int) (hw : 0 ≤ w) (hw2 : w < 1000000000000) :
    Den PA f_impl_shifted [.d (.agg [ints l]), .d (ints c), .d (di w)] [.any, .any, .any] (.own 1 ((shM l c w).map di)) := by
  have hn := isSpaceM_n hs
  have hz := isSpaceM_szs hs
  have hp := isSpaceM_prod hs
  refine den_go [] l_impl_shifted ?_
  repeat' (first | simp -implicitDefEqProofs (maxSteps := 1000000) (disch := (first | omega | (simp only [go_sem] <;> omega) | fail)) only [go_sem, ints, bools, mat, c_impl_shifted] | ((first | apply goIf_b | apply goG_b | apply goTG_b | apply goOG_b) <;> intro h <;> ((try simp only [hnq] at h); (try simp only [h]); (try simp only [hnr] at h))))
  have yc := d_impl_digitsOf l hs w hw hw2; first | refine goC_call [.r, .r] yc ?_ | refine goOC_call [.r, .r] yc ?_
  repeat' (first | simp -implicitDefEqProofs (maxSteps := 1000000) (disch := (first | omega | (simp only [go_sem] <;> omega) | fail)) only [go_sem, ints, bools, mat] | ((first | apply goIf_b | apply goG_b | apply goTG_b | apply goOG_b) <;> intro h <;> ((try simp only [hnq] at h); (try simp only [h]); (try simp only [hnr] at h))))
  have yc := d_impl_mapped c (fun u => sumW l u w) hc; first | refine goC_call [.r, .g (fnT c fun u => sumW l u w)] yc ?_ | refine goOC_call [.r, .g (fnT c fun u => sumW l u w)] yc ?_
  repeat' (first | simp -implicitDefEqProofs (maxSteps := 1000000) (disch := (first | omega | (simp only [go_sem] <;> omega) | fail)) only [go_sem, ints, bools, mat] | ((first | apply goIf_b | apply goG_b | apply goTG_b | apply goOG_b) <;> intro h <;> ((try simp only [hnq] at h); (try simp only [h]); (try simp only [hnr] at h))))
  refine chk_intro (fnOK_mk (d_impl_shifted_1 l hs 0 w (by omega) (by omega)).1 [[ints l], (pad8 (digM l w)).map dy] (by simp -implicitDefEqProofs (maxSteps := 1000000) (disch := (first | omega | (simp only [go_sem] <;> omega) | fail)) only [go_sem, ints, bools, mat]) fun ds r hgg => ?_) ?_
  · obtain ⟨u, hu, rfl, rfl⟩ := hgg
    have := hcw u hu
    exact ⟨_, d_impl_shifted_1 l hs u w (by omega) (by omega)⟩
  exact go_e0
theorem d_spec_l01Shifted (l c : List Int) (hs : isSpaceM l = true) (hc : c.length < 1048577) (hcw : inC l c) (w : Int) (hw : 0 ≤ w) (hw2 : w < 1000000000000) :
    Den PA f_spec_l01Shifted [.d (.agg [ints l]), .d (ints c), .d (di w)] [.any, .any, .any] (.own 1 ((shM l c w).map di)) := by
  have hb := inC_big hs hcw
  rw [show shM l c w = _ from (putsN_map c fun u => sumW l u w).symm]
  refine den_go [] l_spec_l01Shifted ?_
  refine go_c0 ?_
  refine go_loop (fun (j : Nat) => ⟨[(1, .d (ints c)), (2, .d (di w)), (3, .ref 0 0), (7, .sl 1 0 (putsN (fun i => sumW l (c.getD i 0) w) j).length 1), (11, .d (di c.length)), (12, .d (di j))], [some (.var [ints l]), some (.dat 1 ((putsN (fun i => sumW l (c.getD i 0) w) j).map di))]⟩) (fun j => j ≤ c.length) (fun j => c.length - j) 0 ?_ ?_ ?_
  · exact go_r0
  · simp
  · rintro j hj J hJ
    have hpl := putsN_len (fun i => sumW l (c.getD i 0) w) j
    have hbj := hb j
    repeat' (first | simp -implicitDefEqProofs (maxSteps := 1000000) (disch := (first | omega | (simp only [go_sem] <;> omega) | fail)) only [go_sem, ints, bools, mat] | ((first | apply goIf_b | apply goG_b | apply goTG_b | apply goOG_b) <;> intro h <;> ((try simp only [hnq] at h); (try simp only [h]); (try simp only [hnr] at h))))
    · have y1 := kc [.r, .r, .r] (d_spec_l01Sum l hs (c.getD j 0) w (by omega) (by omega) hw hw2); have y2 := kc [.o, .r] (d_spec_l01Put (putsN (fun i => sumW l (c.getD i 0) w) j) (sumW l (c.getD j 0) w) (by omega)); refine go_c0 ?_
      refine hJ (j + 1) (by omega) (by omega) _ ?_
      simp -implicitDefEqProofs (maxSteps := 1000000) (disch := (first | omega | (simp only [go_sem] <;> omega) | fail)) only [go_sem, ints, bools, mat]
      rfl
    · have : j = c.length := by omega
      subst this
      exact go_e0
theorem q_cases {l : List Int} (hz : szs l) {i : Nat} (h : i < l.length) : l.getD i 0 = 2 ∨ l.getD i 0 = 3 ∨ l.getD i 0 = 4 := by
  have := hz i h; omega
theorem sumW_inj {l : List Int} (hs : isSpaceM l = true) {u v : Int} (hu : 0 ≤ u ∧ u < prodM l) (hv : 0 ≤ v ∧ v < prodM l) (w : Int) (h : sumW l u w = sumW l v w) : u = v := by
  have hz := isSpaceM_szs hs
  refine word_eq hz hu hv fun i hi => ?_
  have e := congrArg (fun x => (digM l x).getD i 0) h
  simp only [sumW_dig hz _ _ hi] at e
  have h1 := dig_lt hz u hi
  have h2 := dig_lt hz v hi
  rcases q_cases hz hi with hq | hq | hq <;> rw [hq] at h1 h2 e <;> omega
def oppD (l a : List Int) : List Int := (List.range l.length).map fun (i : Nat) => (l.getD i 0 - a.getD i 0) % l.getD i 0
@[go_sem] theorem oppD_len (l a : List Int) : (oppD l a).length = l.length := by simp [oppD]
theorem oppD_get {l : List Int} (a : List Int) {i : Nat} (h : i < l.length) : (oppD l a).getD i 0 = (l.getD i 0 - a.getD i 0) % l.getD i 0 := by simp [oppD, h]
theorem oppD_lt {l : List Int} (hz : szs l) (a : List Int) : ∀ i, i < l.length → 0 ≤ (oppD l a).getD i 0 ∧ (oppD l a).getD i 0 < l.getD i 0 := fun i hi => by
  rw [oppD_get a hi]
  have h := hz i hi
  have := mod_bnd (x := l.getD i 0 - a.getD i 0) h
  omega
theorem oppD_bnd {l : List Int} (hz : szs l) (a : List Int) : in4 (oppD l a) := fun i => by
  by_cases h : i < l.length
  · have := oppD_lt hz a i h; have := hz i h; omega
  · rw [List.getD_eq_getElem?_getD, List.getElem?_eq_none (by rw [oppD_len]; omega)]; simp
def oppW (l : List Int) (u : Int) : Int := wordN l (oppD l (digM l u)) l.length
theorem oppW_digs {l : List Int} (hz : szs l) (u : Int) : digM l (oppW l u) = oppD l (digM l u) := digM_word hz (oppD_len _ _) (oppD_lt hz _)
theorem oppW_dig {l : List Int} (hz : szs l) (u : Int) {i : Nat} (h : i < l.length) : (digM l (oppW l u)).getD i 0 = (l.getD i 0 - (digM l u).getD i 0) % l.getD i 0 := by
  rw [oppW_digs hz, oppD_get _ h]
abbrev difW (l : List Int) (u w : Int) : Int := sumW l u (oppW l w)
theorem difW_bnd {l : List Int} (hs : isSpaceM l = true) (u w : Int) : 0 ≤ difW l u w ∧ difW l u w < prodM l := sumW_bnd hs _ _
theorem dif_sum {l : List Int} (hs : isSpaceM l = true) {u : Int} (hu : 0 ≤ u ∧ u < prodM l) (w : Int) : sumW l (difW l u w) w = u := by
  have hz := isSpaceM_szs hs
  refine word_eq hz (sumW_bnd hs _ _) hu fun i hi => ?_
  simp only [sumW_dig hz _ _ hi, oppW_dig hz _ hi]
  have h1 := dig_lt hz u hi
  have h2 := dig_lt hz w hi
  rcases q_cases hz hi with hq | hq | hq <;> rw [hq] at h1 h2 ⊢ <;> omega
theorem sum_dif {l : List Int} (hs : isSpaceM l = true) {u : Int} (hu : 0 ≤ u ∧ u < prodM l) (w : Int) : difW l (sumW l u w) w = u := by
  have hz := isSpaceM_szs hs
  refine word_eq hz (sumW_bnd hs _ _) hu fun i hi => ?_
  simp only [sumW_dig hz _ _ hi, oppW_dig hz _ hi]
  have h1 := dig_lt hz u hi
  have h2 := dig_lt hz w hi
  rcases q_cases hz hi with hq | hq | hq <;> rw [hq] at h1 h2 ⊢ <;> omega
theorem code_asc {l c : List Int} (hcc : isCodeM l c = true) : Asc c := List.pairwise_iff_getElem.2 fun i k hi hk hik => by
  have := code_nodup hcc i k hik hk
  simpa [hi, hk] using this
theorem map_nodup {c : List Int} {f : Int → Int} (hc : c.Nodup) (hf : ∀ u v, u ∈ c → v ∈ c → f u = f v → u = v) : (c.map f).Nodup := by
  induction c with
  | nil => simp
  | cons x r ih =>
    obtain ⟨h1, h2⟩ := List.nodup_cons.1 hc
    rw [List.map_cons, List.nodup_cons]
    refine ⟨fun hm => ?_, ih h2 fun u v hu hv => hf u v (by simp [hu]) (by simp [hv])⟩
    obtain ⟨y, hy, e⟩ := List.mem_map.1 hm
    have := hf y x (by simp [hy]) (by simp) e
    subst this; exact h1 hy
theorem setI_len_nodup {l : List Int} (h : l.Nodup) : (setI l).length = l.length := by rw [← sortI_nodup h]; exact List.length_mergeSort l
theorem shM_count {l c : List Int} (hs : isSpaceM l = true) (hc : Asc c) (hcw : inC l c) (w : Int) : (shM l c w).length = c.length := by
  rw [shM, setI_len_nodup (map_nodup (asc_nodup hc) fun u v hu hv h => sumW_inj hs (hcw u hu) (hcw v hv) w h), List.length_map]
theorem shM_mem {l c : List Int} {w x : Int} : x ∈ shM l c w ↔ ∃ u, u ∈ c ∧ sumW l u w = x := by rw [setI_mem, List.mem_map]
theorem shM_asc (l c : List Int) (w : Int) : Asc (shM l c w) := setI_asc _
theorem setN_congr {N : Nat} {a b : List Int} : ∀ j, (∀ i, i < j → a.getD i 0 = b.getD i 0) → setN N a j = setN N b j
  | 0, _ => rfl
  | j + 1, h => by rw [setN, setN, setN_congr j (fun i hi => h i (by omega)), h j (by omega)]
theorem setM_snoc (l c : List Int) (u : Int) : setM l (c ++ [u]) = (setM l c).set u.toNat true := by
  show setN _ (c ++ [u]) (c ++ [u]).length = _
  rw [List.length_append, List.length_singleton, setN, setN_congr (b := c) c.length fun i hi => by simp [List.getD_eq_getElem?_getD, List.getElem?_append, hi]]
  congr 2
  simp
theorem setM_get {l c : List Int} (hc : inC l c) {i : Nat} (hi : i < (prodM l).toNat) : (setM l c).getD i false = decide ((i : Int) ∈ c) := by
  have h := setN_get (prodM l).toNat c (fun j hj => (inC_get hc j hj).1) hi c.length (Nat.le_refl _)
  rw [Bool.eq_iff_iff, h, decide_eq_true_eq]
  constructor
  · rintro ⟨k, hk, e⟩; rw [← e]; exact mem_getD hk
  · intro hm
    obtain ⟨k, hk, e⟩ := List.mem_iff_getElem.1 hm
    exact ⟨k, hk, by simp [hk, e]⟩
theorem setM_getI {l c : List Int} (hc : inC l c) {u : Int} (hu : 0 ≤ u ∧ u < prodM l) : (setM l c).getD u.toNat false = decide (u ∈ c) := by
  rw [setM_get hc (by omega), Int.toNat_of_nonneg hu.1]
theorem inC_app {l a b : List Int} (ha : inC l a) (hb : inC l b) : inC l (a ++ b) := fun u hu => by
  rcases List.mem_append.1 hu with h | h
  · exact ha u h
  · exact hb u h
theorem allW_asc (l : List Int) : Asc (allW l) := by
  unfold allW
  exact List.Pairwise.map _ (fun a b h => by omega) List.pairwise_lt_range
theorem allW_mem' {l : List Int} (hs : isSpaceM l = true) (u : Int) : u ∈ allW l ↔ 0 ≤ u ∧ u < prodM l := by
  have := prodM_pos (isSpaceM_szs hs)
  rw [allW_mem]; omega
theorem setI_filter {l c : List Int} (hs : isSpaceM l = true) (hc : inC l c) : setI c = (allW l).filter fun u => decide (u ∈ c) := by
  refine setI_eq ((allW_asc l).filter _) fun x => ?_
  rw [List.mem_filter, allW_mem' hs, decide_eq_true_eq]
  exact ⟨fun h => h.2, fun h => ⟨hc x h, h⟩⟩
theorem nodup_full {l c : List Int} (hs : isSpaceM l = true) (hc : inC l c) (hn : c.Nodup) : (∀ i, i < (prodM l).toNat → (i : Int) ∈ c) ↔ c.length = (prodM l).toNat := by
  have e : c.length = ((allW l).filter fun u => decide (u ∈ c)).length := by rw [← setI_filter hs hc, setI_len_nodup hn]
  have h2 := allW_len l
  rw [e, ← h2, List.length_filter_eq_length_iff]
  constructor
  · intro h u hu
    have := (allW_mem l u).1 hu
    have := h u.toNat (by omega)
    rw [Int.toNat_of_nonneg (by omega)] at this
    exact decide_eq_true this
  · intro h i hi
    exact of_decide_eq_true (h i ((allW_mem l _).2 ⟨by omega, by omega⟩))
theorem nodup_small {l c : List Int} (hs : isSpaceM l = true) (hc : inC l c) (hn : c.Nodup) : c.length ≤ (prodM l).toNat := by
  have e : c.length = ((allW l).filter fun u => decide (u ∈ c)).length := by rw [← setI_filter hs hc, setI_len_nodup hn]
  rw [e, ← allW_len l]; exact List.length_filter_le _ _
theorem d_slices_Index_bool (l : List Bool) (v : Bool) (hl : l.length < 1048577) : Den PA f_slices_Index___bool_bool_ [.d (bools l), .d (db v)] [.any, .any] (.d (di (match l.findIdx? (fun x => v == x) with | some j => j | none => -1))) := by
  refine den_go [] l_slices_Index___bool_bool_ ?_
  refine go_c0 ?_
  refine go_loop (fun (j : Nat) => ⟨[(0, .d (bools l)), (1, .d (db v)), (7, .d (di l.length)), (8, .d (di j))], []⟩) (fun j => j ≤ l.length ∧ ∀ i, i < j → (v == l.getD i false) = false) (fun j => l.length - j) 0 ?_ ?_ ?_
  · exact go_r0
  · simp
  · rintro j ⟨hj, hi⟩ J hJ
    repeat' (first | simp -implicitDefEqProofs (maxSteps := 1000000) (disch := (first | omega | (simp only [go_sem] <;> omega) | fail)) only [go_sem, ints, bools, mat] | ((first | apply goIf_b | apply goG_b | apply goTG_b | apply goOG_b) <;> intro h <;> ((try simp only [hnq] at h); (try simp only [h]); (try simp only [hnr] at h))))
    · have e : l.findIdx? (fun x => v == x) = some j := by
        rw [List.findIdx?_eq_some_iff_getElem]
        refine ⟨by omega, by simpa [show j < l.length by omega] using h, fun i hi' => ?_⟩
        have := hi i hi'
        simpa [show i < l.length by omega] using this
      rw [e]
    · refine hJ (j + 1) ⟨by omega, all_ext hi (by simpa using h)⟩ (by omega) _ go_r0
    · have e : l.findIdx? (fun x => v == x) = none := by
        rw [List.findIdx?_eq_none_iff]
        intro x hx
        obtain ⟨i, hi', rfl⟩ := List.mem_iff_getElem.1 hx
        have := hi i (by omega)
        simpa [hi'] using this
      rw [e]
theorem d_slices_Contains_bool (l : List Bool) (v : Bool) (hl : l.length < 1048577) : Den PA f_slices_Contains___bool_bool_ [.d (bools l), .d (db v)] [.any, .any] (.d (db (l.contains v))) := by
  refine den_go [] l_slices_Contains___bool_bool_ ?_
  have y1 := kc [.r, .r] (d_slices_Index_bool l v hl); refine go_c0 ?_
  refine dbv ?_
  cases h : l.findIdx? (fun x => v == x) with
  | none =>
    rw [List.findIdx?_eq_none_iff] at h
    have e : l.contains v = false := by
      rw [← Bool.not_eq_true, List.contains_iff_mem]
      intro hm
      have := h v hm
      simp at this
    rw [e]; rfl
  | some j =>
    obtain ⟨hj, h1, _⟩ := List.findIdx?_eq_some_iff_getElem.1 h
    symm
    simp at h1
    simp only [List.contains_iff_mem]
    rw [h1]; simp
theorem d_spec_l02Full (l : List Int) (hl : l.length < 1048577) (c : List Int) (hc : c.length < 1048577) :
    Den PA f_spec_l02Full [.d (.agg [ints l]), .d (ints c)] [.any, .any] (.d (di (sgM l c))) := by
  refine den_go [] l_spec_l02Full ?_
  refine go_c0 ?_
  have yc := d_spec_l01Given l hl c hc; first | refine goC_call [.r, .r] yc ?_ | refine goOC_call [.r, .r] yc ?_
  by_cases hb : ggM l c = 0
  · have e : sgM l c = if c.length = 0 then 5 else 0 := by unfold sgM; rw [if_pos hb]
    rw [hb, e]
    repeat' (first | simp -implicitDefEqProofs (maxSteps := 1000000) (disch := (first | omega | (simp only [go_sem] <;> omega) | fail)) only [go_sem, ints, bools, mat] | ((first | apply goIf_b | apply goG_b | apply goTG_b | apply goOG_b) <;> intro h <;> ((try simp only [hnq] at h); (try simp only [h]); (try simp only [hnr] at h))))
    · rw [if_pos (by omega)]
    · rw [if_neg (by omega)]
  · have e : sgM l c = ggM l c := by unfold sgM; rw [if_neg hb]
    rw [e]
    generalize ggM l c = b at hb
    repeat' (first | simp -implicitDefEqProofs (maxSteps := 1000000) (disch := (first | omega | (simp only [go_sem] <;> omega) | fail)) only [go_sem, ints, bools, mat] | ((first | apply goIf_b | apply goG_b | apply goTG_b | apply goOG_b) <;> intro h <;> ((try simp only [hnq] at h); (try simp only [h]); (try simp only [hnr] at h))))
    all_goals (exfalso; omega)
def catN (l c sh : List Int) : Nat → List Int
  | 0 => []
  | j + 1 => catN l c sh j ++ shM l c (sh.getD j 0)
theorem catN_in {l : List Int} (hs : isSpaceM l = true) (c sh : List Int) : ∀ j, inC l (catN l c sh j)
  | 0 => fun u hu => by simp [catN] at hu
  | j + 1 => inC_app (catN_in hs c sh j) (shM_in hs c _)
theorem catN_len {l c : List Int} (hs : isSpaceM l = true) (hc : Asc c) (hcw : inC l c) (sh : List Int) : ∀ j, (catN l c sh j).length = j * c.length
  | 0 => by simp [catN]
  | j + 1 => by rw [catN, List.length_append, catN_len hs hc hcw sh j, shM_count hs hc hcw, Nat.succ_mul]
def freB (l c sh : List Int) (j : Nat) : Bool := (shM l c (sh.getD j 0)).all fun u => !decide (u ∈ catN l c sh j)
theorem freB_ok {l c sh : List Int} {j : Nat} : freB l c sh j = true ↔ ∀ u, u ∈ shM l c (sh.getD j 0) → u ∉ catN l c sh j := by
  simp [freB, List.all_eq_true]
theorem catN_nodup {l c sh : List Int} : ∀ j, (∀ i, i < j → freB l c sh i = true) → (catN l c sh j).Nodup
  | 0, _ => by simp [catN]
  | j + 1, h => by
    rw [catN]
    refine List.nodup_append.2 ⟨catN_nodup j fun i hi => h i (by omega), asc_nodup (shM_asc _ _ _), fun a ha b hb e => ?_⟩
    subst e
    exact freB_ok.1 (h j (by omega)) a hb ha
def parB (l c sh : List Int) : Bool := ((List.range sh.length).all fun j => freB l c sh j) && decide (((sh.length * c.length : Nat) : Int) = prodM l)
theorem parB_no {l c sh : List Int} {j : Nat} (hj : j < sh.length) (h : freB l c sh j = false) : parB l c sh = false := by
  rw [parB, Bool.and_eq_false_iff]; left
  rw [List.all_eq_false]
  exact ⟨j, List.mem_range.2 hj, by rw [h]; simp⟩
theorem parB_yes {l c sh : List Int} (h : ∀ i, i < sh.length → freB l c sh i = true) : parB l c sh = decide (((sh.length * c.length : Nat) : Int) = prodM l) := by
  rw [parB, List.all_eq_true.2 fun i hi => h i (List.mem_range.1 hi), Bool.true_and]
theorem parB_full {l c sh : List Int} (hs : isSpaceM l = true) (hc : Asc c) (hcw : inC l c) (h : ∀ i, i < sh.length → freB l c sh i = true) : (!(setM l (catN l c sh sh.length)).contains false) = parB l c sh := by
  have hp1 := prodM_pos (isSpaceM_szs hs)
  have hin := catN_in hs c sh sh.length
  have hf := nodup_full hs hin (catN_nodup _ h)
  rw [catN_len hs hc hcw] at hf
  rw [parB_yes h, Bool.eq_iff_iff, decide_eq_true_eq, Bool.not_eq_true', ← Bool.not_eq_true, List.contains_iff_mem]
  have e : (((sh.length * c.length : Nat) : Int) = prodM l) ↔ sh.length * c.length = (prodM l).toNat := by omega
  rw [e, ← hf]
  constructor
  · intro hn i hi
    have hg := setM_get hin hi
    by_cases hm : (i : Int) ∈ catN l c sh sh.length
    · exact hm
    · rw [decide_eq_false hm] at hg
      refine (hn ?_).elim
      rw [← hg]
      have hl2 : i < (setM l (catN l c sh sh.length)).length := by rw [setN_len]; exact hi
      refine List.mem_iff_getElem.2 ⟨i, hl2, ?_⟩
      simp [List.getD_eq_getElem?_getD, hl2]
  · intro hn hm
    obtain ⟨i, hi, e⟩ := List.mem_iff_getElem.1 hm
    have hi' := hi
    rw [setN_len] at hi'
    have hg := setM_get hin hi'
    rw [decide_eq_true (hn i hi')] at hg
    rw [List.getD_eq_getElem?_getD, List.getElem?_eq_getElem hi, Option.getD_some, e] at hg
    cases hg
theorem mark_get {l c X : List Int} (hs : isSpaceM l = true) (hX : inC l X) (w : Int) {k : Nat} (hk : k < (shM l c w).length) :
    (setM l (X ++ (shM l c w).take k)).getD ((shM l c w).getD k 0).toNat false = decide ((shM l c w).getD k 0 ∈ X) := by
  have hin := shM_in hs c w
  have hm := mem_getD hk
  rw [setM_getI (inC_app hX fun u hu => hin u (List.mem_of_mem_take hu)) (hin _ hm)]
  congr 1
  rw [List.mem_append]
  refine propext ⟨fun h => h.elim id fun h => ?_, .inl⟩
  obtain ⟨i, hi, e⟩ := List.mem_iff_getElem.1 h
  simp at hi
  have := List.pairwise_iff_getElem.1 (shM_asc l c w) i k (by omega) hk (by omega)
  simp [hk] at e
  omega
abbrev freR (l c X : List Int) (w : Int) : Bool := (shM l c w).all fun u => !decide (u ∈ X)
theorem d_spec_l06Mark (l c X : List Int) (hs : isSpaceM l = true) (hc : c.length < 1048577) (hcw : inC l c) (hX : inC l X) (w : Int) (hw : 0 ≤ w) (hw2 : w < 1000000000000) :
    Den PA f_spec_l06Mark [.d (.agg [ints l]), .d (ints c), .d (di w), .own 1 ((setM l X).map db)] [.any, .any, .any, .own 1 ((setM l (if freR l c X w then X ++ shM l c w else X)).map db)] (.d (db (freR l c X w))) := by
  have hp := isSpaceM_prod hs
  have hp1 := prodM_pos (isSpaceM_szs hs)
  have hsl := shM_len l c w
  have hin := inC_get (shM_in hs c w)
  refine den_go [3] l_spec_l06Mark ?_
  have y1 := kc [.r, .r, .r] (d_spec_l01Shifted l c hs hc hcw w hw hw2); refine go_c0 ?_
  refine go_loop (fun (j : Nat) => ⟨[(3, .sl 0 0 (prodM l).toNat 1), (9, .sl 1 0 (shM l c w).length 1), (10, .d (di j)), (44, .sl 0 0 (prodM l).toNat 1)], [some (.dat 1 ((setM l X).map db)), some (.dat 1 ((shM l c w).map di))]⟩) (fun j => j ≤ (shM l c w).length ∧ ∀ i, i < j → (!decide ((shM l c w).getD i 0 ∈ X)) = true) (fun j => (shM l c w).length - j) 0 ?_ ?_ ?_
  · exact go_r0
  · exact ⟨by omega, fun i hi => by omega⟩
  · rintro j ⟨hj, hi⟩ J hJ
    have hg := fun h => setM_getI hX (hin j h)
    have hjn := hin j
    repeat' (first | simp -implicitDefEqProofs (maxSteps := 1000000) (disch := (first | omega | (simp only [go_sem] <;> omega) | fail)) only [go_sem, ints, bools, mat] | ((first | apply goIf_b | apply goG_b | apply goTG_b | apply goOG_b) <;> intro h <;> ((try simp only [hnq] at h); (try simp only [h]); (try simp only [hnr] at h))))
    · have hf : freR l c X w = false := by
        rw [List.all_eq_false]
        rw [hg (by omega)] at h
        exact ⟨_, mem_getD (j := j) (l := shM l c w) (by omega), by rw [h]; simp⟩
      rw [hf]; exact ⟨rfl, rfl⟩
    · refine hJ (j + 1) ⟨by omega, all_ext hi ?_⟩ (by omega) _ go_r0
      rw [← hg (by omega), h]; rfl
    · have : j = (shM l c w).length := by omega
      subst this
      have hf : freR l c X w = true := by
        rw [List.all_eq_true]
        intro u hu
        obtain ⟨i, hi', rfl⟩ := List.mem_iff_getElem.1 hu
        have := hi i hi'
        simpa [hi'] using this
      rw [hf, if_pos rfl]
      refine go_loop (fun (j : Nat) => ⟨[(3, .sl 0 0 (prodM l).toNat 1), (9, .sl 1 0 (shM l c w).length 1), (11, .d (di j)), (44, .sl 0 0 (prodM l).toNat 1)], [some (.dat 1 ((setM l (X ++ (shM l c w).take j)).map db)), some (.dat 1 ((shM l c w).map di))]⟩) (fun j => j ≤ (shM l c w).length) (fun j => (shM l c w).length - j) 0 ?_ ?_ ?_
      · (simp -implicitDefEqProofs (maxSteps := 1000000) (disch := (first | omega | (simp only [go_sem] <;> omega) | fail)) only [go_sem, ints, bools, mat, List.append_nil] <;> rfl)
      · omega
      · rintro j hj J hJ
        have hjn := hin j
        repeat' (first | simp -implicitDefEqProofs (maxSteps := 1000000) (disch := (first | omega | (simp only [go_sem] <;> omega) | fail)) only [go_sem, ints, bools, mat] | ((first | apply goIf_b | apply goG_b | apply goTG_b | apply goOG_b) <;> intro h <;> ((try simp only [hnq] at h); (try simp only [h]); (try simp only [hnr] at h))))
        refine hJ (j + 1) (by omega) (by omega) _ ?_
        simp -implicitDefEqProofs (maxSteps := 1000000) (disch := (first | omega | (simp only [go_sem] <;> omega) | fail)) only [go_sem, ints, bools, mat]
        rw [take_one _ (by omega), ← List.append_assoc, setM_snoc]; rfl
theorem freR_cat {l c sh : List Int} {j : Nat} : freR l c (catN l c sh j) (sh.getD j 0) = freB l c sh j := rfl
abbrev doR (l c sh : List Int) : R := .tup [.d (db (decide (scM5 l c sh = 0) && parB l c sh)), .d (di (scM5 l c sh))]
theorem scM5_ok {l c ws : List Int} (h : scM5 l c ws = 0) : isSpaceM l = true ∧ isCodeM l c = true ∧ c.length ≠ 0 ∧ ∀ j, j < ws.length → 0 ≤ ws.getD j 0 ∧ ws.getD j 0 < prodM l := by
  unfold scM5 at h
  split at h
  · rename_i hg
    obtain ⟨a, b, d⟩ := gcM_ok hg
    split at h
    · cases h
    · rename_i hc; exact ⟨a, d, hc, (areW_ok l ws).1 b⟩
  · rename_i hg; exact (hg h).elim
theorem d_impl_DoPart (l c sh : List Int) (hl : l.length < 1048577) (hc : c.length < 1048577) (hsh : sh.length < 1048577) :
    Den PA f_impl_DoPart [.d (.agg [ints l]), .d (ints c), .d (ints sh)] [.any, .any, .any] (doR l c sh) := by
  refine den_go [] l_impl_DoPart ?_
  refine go_c0 ?_
  have yc := d_impl_someCode l hl c hc _ sh (.inl rfl) hsh; first | refine goC_call [.r, .r, .r] yc ?_ | refine goOC_call [.r, .r, .r] yc ?_
  by_cases h : scM5 l c sh = 0
  · obtain ⟨hs, hcc, hc0, hsw⟩ := scM5_ok h
    rw [doR, h]
    have hcw := inC_code hcc
    have hca := code_asc hcc
    have hp := isSpaceM_prod hs
    have hp1 := prodM_pos (isSpaceM_szs hs)
    have y1 := kc [.r] (d_impl_count l hs); refine go_c0 ?_
    refine go_loop (fun (j : Nat) => ⟨[(1, .d (ints c)), (3, .ref 0 0), (9, .sl 1 0 (prodM l).toNat 1), (24, .d (ints sh)), (25, .d (di sh.length)), (26, .d (di j))], [some (.var [ints l]), some (.dat 1 ((setM l (catN l c sh j)).map db))]⟩) (fun j => j ≤ sh.length ∧ ∀ i, i < j → freB l c sh i = true) (fun j => sh.length - j) 0 ?_ ?_ ?_
    · exact go_r0
    · exact ⟨by omega, fun i hi => by omega⟩
    · rintro j ⟨hj, hi⟩ J hJ
      have hsj := hsw j
      repeat' (first | simp -implicitDefEqProofs (maxSteps := 1000000) (disch := (first | omega | (simp only [go_sem] <;> omega) | fail)) only [go_sem, ints, bools, mat] | ((first | apply goIf_b | apply goG_b | apply goTG_b | apply goOG_b) <;> intro h <;> ((try simp only [hnq] at h); (try simp only [h]); (try simp only [hnr] at h))))
      · have yc := d_impl_shifted l c hs hc hcw (sh.getD j 0) (by omega) (by omega); first | refine goC_call [.r, .r, .r] yc ?_ | refine goOC_call [.r, .r, .r] yc ?_
        have hsl := shM_len l c (sh.getD j 0)
        have hin := inC_get (shM_in hs c (sh.getD j 0))
        refine go_c0 ?_
        refine go_loop (fun (k : Nat) => ⟨[(1, .d (ints c)), (3, .ref 0 0), (9, .sl 1 0 (prodM l).toNat 1), (24, .d (ints sh)), (25, .d (di sh.length)), (26, .d (di j)), (33, .sl 2 0 (shM l c (sh.getD j 0)).length 1), (34, .d (di (shM l c (sh.getD j 0)).length)), (35, .d (di k))], [some (.var [ints l]), some (.dat 1 ((setM l (catN l c sh j ++ (shM l c (sh.getD j 0)).take k)).map db)), some (.dat 1 ((shM l c (sh.getD j 0)).map di))]⟩) (fun k => k ≤ (shM l c (sh.getD j 0)).length ∧ ∀ i, i < k → (!decide ((shM l c (sh.getD j 0)).getD i 0 ∈ catN l c sh j)) = true) (fun k => (shM l c (sh.getD j 0)).length - k) 0 ?_ ?_ ?_
        · (simp -implicitDefEqProofs (maxSteps := 1000000) (disch := (first | omega | (simp only [go_sem] <;> omega) | fail)) only [go_sem, ints, bools, mat, List.append_nil] <;> rfl)
        · exact ⟨by omega, fun i hi => by omega⟩
        · rintro k ⟨hk, hki⟩ J' hJ'
          have hg := fun h => mark_get (c := c) hs (catN_in hs c sh j) (sh.getD j 0) (k := k) h
          have hjn := hin k
          repeat' (first | simp -implicitDefEqProofs (maxSteps := 1000000) (disch := (first | omega | (simp only [go_sem] <;> omega) | fail)) only [go_sem, ints, bools, mat] | ((first | apply goIf_b | apply goG_b | apply goTG_b | apply goOG_b) <;> intro h <;> ((try simp only [hnq] at h); (try simp only [h]); (try simp only [hnr] at h))))
          · rw [hg (by omega)] at h
            have hf : freB l c sh j = false := by
              rw [freB, List.all_eq_false]
              exact ⟨_, mem_getD (j := k) (l := shM l c (sh.getD j 0)) (by omega), by rw [h]; simp⟩
            rw [parB_no (by omega) hf]
          · rw [hg (by omega)] at h
            refine hJ' (k + 1) ⟨by omega, all_ext hki (by rw [h]; rfl)⟩ (by omega) _ ?_
            simp -implicitDefEqProofs (maxSteps := 1000000) (disch := (first | omega | (simp only [go_sem] <;> omega) | fail)) only [go_sem, ints, bools, mat]
            rw [take_one _ (by omega), ← List.append_assoc, setM_snoc]; rfl
          · have : k = (shM l c (sh.getD j 0)).length := by omega
            subst this
            refine hJ (j + 1) ⟨by omega, all_ext hi ?_⟩ (by omega) _ ?_
            · rw [freB, all_getD]; exact hki
            · simp -implicitDefEqProofs (maxSteps := 1000000) (disch := (first | omega | (simp only [go_sem] <;> omega) | fail)) only [go_sem, ints, bools, mat]
              rw [catN]; rfl
      · have : j = sh.length := by omega
        subst this
        have y1 := kc [.r, .r] (d_slices_Contains_bool (setM l (catN l c sh sh.length)) false (by rw [setN_len]; omega)); refine go_c0 ?_
        rw [parB_full hs hca hcw hi]
  · rw [doR]
    generalize scM5 l c sh = b at h
    repeat' (first | simp -implicitDefEqProofs (maxSteps := 1000000) (disch := (first | omega | (simp only [go_sem] <;> omega) | fail)) only [go_sem, ints, bools, mat] | ((first | apply goIf_b | apply goG_b | apply goTG_b | apply goOG_b) <;> intro h <;> ((try simp only [hnq] at h); (try simp only [h]); (try simp only [hnr] at h))))
    all_goals (first | (exfalso; omega) | skip)
    exact dbF fun h' => by simp at h'; exact h h'.1
def bdN (b : Int) (l sh : List Int) : Nat → Int
  | 0 => b
  | j + 1 => if 0 ≤ sh.getD j 0 ∧ sh.getD j 0 ≤ prodM l - 1 then bdN b l sh j else 2
theorem bdN_ok {b : Int} {l sh : List Int} : ∀ j, bdN b l sh j = if ∀ i, i < j → 0 ≤ sh.getD i 0 ∧ sh.getD i 0 < prodM l then b else 2
  | 0 => by rw [bdN, if_pos fun i hi => by omega]
  | j + 1 => by
    rw [bdN, bdN_ok j]
    by_cases h : ∀ i, i < j → 0 ≤ sh.getD i 0 ∧ sh.getD i 0 < prodM l
    · rw [if_pos h]
      by_cases h2 : 0 ≤ sh.getD j 0 ∧ sh.getD j 0 ≤ prodM l - 1
      · rw [if_pos h2, if_pos fun i hi => by
          by_cases e : i = j
          · subst e; omega
          · exact h i (by omega)]
      · rw [if_neg h2, if_neg fun (h3 : ∀ i, i < j + 1 → 0 ≤ sh.getD i 0 ∧ sh.getD i 0 < prodM l) => h2 (by have := h3 j (by omega); omega)]
    · rw [if_neg h, ite_self, if_neg fun (h3 : ∀ i, i < j + 1 → 0 ≤ sh.getD i 0 ∧ sh.getD i 0 < prodM l) => h fun i hi => h3 i (by omega)]
theorem bdN_scM {l c sh : List Int} (hs : isSpaceM l = true) (hg : ggM l c = 0) : bdN (if c.length = 0 then 5 else 0) l sh sh.length = scM5 l c sh := by
  rw [bdN_ok, scM5_eq, hg]
  simp only [wcM, hs, if_true]
  by_cases hw : areW l sh = true
  · rw [if_pos ((areW_ok l sh).1 hw)]; simp [hw]
  · rw [if_neg fun h => hw ((areW_ok l sh).2 h)]; simp [hw]
theorem d_spec_DoPart (l c sh : List Int) (hl : l.length < 1048577) (hc : c.length < 1048577) (hsh : sh.length < 1048577) :
    Den PA f_spec_DoPart [.d (.agg [ints l]), .d (ints c), .d (ints sh)] [.any, .any, .any] (doR l c sh) := by
  refine den_go [] l_spec_DoPart ?_
  refine go_c0 ?_
  have yc := d_spec_l02Full l hl c hc; first | refine goC_call [.r, .r] yc ?_ | refine goOC_call [.r, .r] yc ?_
  by_cases hg : ggM l c = 0
  · obtain ⟨hs, hcc⟩ := ggM_ok hg
    have e0 : sgM l c = if c.length = 0 then 5 else 0 := by unfold sgM; rw [if_pos hg]
    have hcw := inC_code hcc
    have hca := code_asc hcc
    have hn := isSpaceM_n hs
    have hp := isSpaceM_prod hs
    have hp1 := prodM_pos (isSpaceM_szs hs)
    have e5 := bdN_scM (sh := sh) hs hg
    by_cases hc0 : c.length = 0
    · rw [if_pos hc0] at e5 e0
      rw [e0]
      refine go_c0 ?_
      refine go_loop (fun (j : Nat) => ⟨[(1, .d (ints c)), (2, .d (ints sh)), (3, .ref 0 0), (8, .d (di (bdN 5 l sh j))), (9, .d (di j))], [some (.var [ints l])]⟩) (fun j => j ≤ sh.length) (fun j => sh.length - j) 0 ?_ ?_ ?_
      · (simp -implicitDefEqProofs (maxSteps := 1000000) (disch := (first | omega | (simp only [go_sem] <;> omega) | fail)) only [go_sem, ints, bools, mat, bdN] <;> rfl)
      · simp
      · rintro j hj J hJ
        by_cases hjl : j < sh.length
        · repeat' (first | simp -implicitDefEqProofs (maxSteps := 1000000) (disch := (first | omega | (simp only [go_sem] <;> omega) | fail)) only [go_sem, ints, bools, mat] | ((first | apply goIf_b | apply goG_b | apply goTG_b | apply goOG_b) <;> intro h <;> ((try simp only [hnq] at h); (try simp only [h]); (try simp only [hnr] at h)) <;> (try (exfalso; omega))))
          have yc := d_spec_l01N l (by omega) (isSpaceM_q hs); first | refine goC_call [.r] yc ?_ | refine goOC_call [.r] yc ?_
          repeat' (first | simp -implicitDefEqProofs (maxSteps := 1000000) (disch := (first | omega | (simp only [go_sem] <;> omega) | fail)) only [go_sem, ints, bools, mat] | ((first | apply goIf_b | apply goG_b | apply goTG_b | apply goOG_b) <;> intro h <;> ((try simp only [hnq] at h); (try simp only [h]); (try simp only [hnr] at h)) <;> (try (exfalso; omega))))
          have yc := d_spec_l01In (sh.getD j 0) 0 (prodM l - 1); first | refine goC_call [.r, .r, .r] yc ?_ | refine goOC_call [.r, .r, .r] yc ?_
          repeat' (first | simp -implicitDefEqProofs (maxSteps := 1000000) (disch := (first | omega | (simp only [go_sem] <;> omega) | fail)) only [go_sem, ints, bools, mat] | ((first | apply goIf_b | apply goG_b | apply goTG_b | apply goOG_b) <;> intro h <;> ((try simp only [hnq] at h); (try simp only [h]); (try simp only [hnr] at h)) <;> (try (exfalso; omega))))
          · refine hJ (j + 1) (by omega) (by omega) _ ?_
            simp -implicitDefEqProofs (maxSteps := 1000000) (disch := (first | omega | (simp only [go_sem] <;> omega) | fail)) only [go_sem, ints, bools, mat]
            rw [bdN, if_pos (by omega)]; rfl
          · refine hJ (j + 1) (by omega) (by omega) _ ?_
            simp -implicitDefEqProofs (maxSteps := 1000000) (disch := (first | omega | (simp only [go_sem] <;> omega) | fail)) only [go_sem, ints, bools, mat]
            rw [bdN, if_neg (by omega)]; rfl
        · have : j = sh.length := by omega
          subst this
          rw [e5]
          have h5 : scM5 l c sh ≠ 0 := by rw [← e5, bdN_ok]; split <;> decide
          rw [doR]
          generalize scM5 l c sh = b at h5
          refine go_c0 ?_
          exact dbF fun h' => by simp at h'; exact h5 h'.1
    · rw [if_neg hc0] at e5 e0
      rw [e0]
      refine go_c0 ?_
      refine go_loop (fun (j : Nat) => ⟨[(1, .d (ints c)), (2, .d (ints sh)), (3, .ref 0 0), (8, .d (di (bdN 0 l sh j))), (9, .d (di j))], [some (.var [ints l])]⟩) (fun j => j ≤ sh.length) (fun j => sh.length - j) 0 ?_ ?_ ?_
      · (simp -implicitDefEqProofs (maxSteps := 1000000) (disch := (first | omega | (simp only [go_sem] <;> omega) | fail)) only [go_sem, ints, bools, mat, bdN] <;> rfl)
      · simp
      · rintro j hj J hJ
        by_cases hjl : j < sh.length
        · repeat' (first | simp -implicitDefEqProofs (maxSteps := 1000000) (disch := (first | omega | (simp only [go_sem] <;> omega) | fail)) only [go_sem, ints, bools, mat] | ((first | apply goIf_b | apply goG_b | apply goTG_b | apply goOG_b) <;> intro h <;> ((try simp only [hnq] at h); (try simp only [h]); (try simp only [hnr] at h)) <;> (try (exfalso; omega))))
          have yc := d_spec_l01N l (by omega) (isSpaceM_q hs); first | refine goC_call [.r] yc ?_ | refine goOC_call [.r] yc ?_
          repeat' (first | simp -implicitDefEqProofs (maxSteps := 1000000) (disch := (first | omega | (simp only [go_sem] <;> omega) | fail)) only [go_sem, ints, bools, mat] | ((first | apply goIf_b | apply goG_b | apply goTG_b | apply goOG_b) <;> intro h <;> ((try simp only [hnq] at h); (try simp only [h]); (try simp only [hnr] at h)) <;> (try (exfalso; omega))))
          have yc := d_spec_l01In (sh.getD j 0) 0 (prodM l - 1); first | refine goC_call [.r, .r, .r] yc ?_ | refine goOC_call [.r, .r, .r] yc ?_
          repeat' (first | simp -implicitDefEqProofs (maxSteps := 1000000) (disch := (first | omega | (simp only [go_sem] <;> omega) | fail)) only [go_sem, ints, bools, mat] | ((first | apply goIf_b | apply goG_b | apply goTG_b | apply goOG_b) <;> intro h <;> ((try simp only [hnq] at h); (try simp only [h]); (try simp only [hnr] at h)) <;> (try (exfalso; omega))))
          · refine hJ (j + 1) (by omega) (by omega) _ ?_
            simp -implicitDefEqProofs (maxSteps := 1000000) (disch := (first | omega | (simp only [go_sem] <;> omega) | fail)) only [go_sem, ints, bools, mat]
            rw [bdN, if_pos (by omega)]; rfl
          · refine hJ (j + 1) (by omega) (by omega) _ ?_
            simp -implicitDefEqProofs (maxSteps := 1000000) (disch := (first | omega | (simp only [go_sem] <;> omega) | fail)) only [go_sem, ints, bools, mat]
            rw [bdN, if_neg (by omega)]; rfl
        · have : j = sh.length := by omega
          subst this
          rw [e5]
          by_cases h5 : scM5 l c sh = 0
          · obtain ⟨_, _, _, hsw⟩ := scM5_ok h5
            rw [doR, h5]
            have y1 := kc [.r] (d_spec_l01N l (by omega) (isSpaceM_q hs)); refine go_c0 ?_
            refine go_loop (fun (j : Nat) => ⟨[(1, .d (ints c)), (2, .d (ints sh)), (3, .ref 0 0), (10, .sl 1 0 (prodM l).toNat 1), (11, .d (di j))], [some (.var [ints l]), some (.dat 1 ((setM l (catN l c sh j)).map db))]⟩) (fun j => j ≤ sh.length ∧ ∀ i, i < j → freB l c sh i = true) (fun j => sh.length - j) 0 ?_ ?_ ?_
            · exact go_r0
            · exact ⟨by omega, fun i hi => by omega⟩
            · rintro j ⟨hj, hi⟩ J hJ
              have hsj := hsw j
              by_cases hjl : j < sh.length
              · refine go_c0 ?_
                have yc := d_spec_l06Mark l c (catN l c sh j) hs hc hcw (catN_in hs c sh j) (sh.getD j 0) (by omega) (by omega); first | refine goC_call [.r, .r, .r, .o] yc ?_ | refine goOC_call [.r, .r, .r, .o] yc ?_
                rw [freR_cat]
                by_cases hf : freB l c sh j = true
                · rw [hf, if_pos rfl]
                  refine go_c0 ?_
                  refine hJ (j + 1) ⟨by omega, all_ext hi hf⟩ (by omega) _ ?_
                  simp -implicitDefEqProofs (maxSteps := 1000000) (disch := (first | omega | (simp only [go_sem] <;> omega) | fail)) only [go_sem, ints, bools, mat]
                  rfl
                · have hf' : freB l c sh j = false := by simpa using hf
                  rw [hf', if_neg (by simp)]
                  refine go_c0 ?_
                  rw [parB_no (by omega) hf']
              · have : j = sh.length := by omega
                subst this
                have hm : sh.length * c.length ≤ 1048576 * 1048576 := Nat.mul_le_mul (by omega) (by omega)
                repeat' (first | simp -implicitDefEqProofs (maxSteps := 1000000) (disch := (first | omega | (simp only [go_sem] <;> omega) | fail)) only [go_sem, ints, bools, mat, ← Int.natCast_mul] | ((first | apply goIf_b | apply goG_b | apply goTG_b | apply goOG_b) <;> intro h <;> ((try simp only [hnq] at h); (try simp only [h]); (try simp only [hnr] at h)) <;> (try (exfalso; omega))))
                have y1 := kc [.r] (d_spec_l01N l (by omega) (isSpaceM_q hs)); refine go_c0 ?_
                rw [parB_yes hi]
                exact dbv (by rw [Bool.eq_iff_iff]; simp)
          · rw [doR]
            generalize scM5 l c sh = b at h5
            refine go_c0 ?_
            exact dbF fun h' => by simp at h'; exact h5 h'.1
  · have e0 : sgM l c = ggM l c := by unfold sgM; rw [if_neg hg]
    have e5 : scM5 l c sh = ggM l c := by
      rw [scM5_eq]
      unfold ggM at hg ⊢
      by_cases hs : isSpaceM l = true
      · simp only [wcM, hs, if_true] at hg ⊢
        by_cases hw : areW l sh = true
        · simp only [hw, if_true]; rw [if_neg hg]
        · simp only [hw, if_false]
          split at hg
          · exact (hg rfl).elim
          · rename_i h2; simp [h2]
      · simp [wcM, hs]
    rw [e0, doR, e5]
    have hb : ggM l c = 1 ∨ ggM l c = 2 := by
      unfold ggM at hg ⊢
      split
      · rename_i h1; rw [if_pos h1] at hg; split
        · rename_i h2; rw [if_pos h2] at hg; exact (hg rfl).elim
        · exact .inr rfl
      · exact .inl rfl
    generalize ggM l c = b at hg hb
    refine go_c0 ?_
    exact dbF fun h' => by simp at h'; exact hg h'.1
@[go_sem] theorem binA_shru1 {a : Int} (h : 0 ≤ a) (h' : a < 18446744073709551616) : binA .shr (.d (.v (.int .u64 a))) (.d (.v (.int .u64 1))) = some (.d (.v (.int .u64 (a / 2)))) := by
  have e : min (1 : Int).toNat 64 = 1 := rfl
  have h1 : (0 : Int) ≤ 2 ^ 1 := by decide
  simp only [binA, binI, BinOp.isShift, true_or, if_true, if_neg (show ¬ (1 : Int) < 0 by omega), IntKind.bits, e, Option.map_some, Int.fdiv_eq_ediv_of_nonneg _ h1]
  rfl
theorem asc_lt {c : List Int} (h : Asc c) {i k : Nat} (hik : i < k) (hk : k < c.length) : c.getD i 0 < c.getD k 0 := by
  have := List.pairwise_iff_getElem.1 h i k (by omega) hk hik
  simpa [show i < c.length by omega, hk] using this
@[go_sem] theorem capA_nil : capA (.d nil) = some (.d (di 0)) := rfl
@[go_sem] theorem capA_nil' : capA (.d (.v (.slice none 0 0))) = some (.d (di 0)) := rfl
abbrev wtM (l : List Int) (x : Int) : Int := distM l 0 x
def bstN (l L : List Int) : Nat → Int
  | 0 => L.getD 0 0
  | k + 1 => if wtM l (L.getD k 0) < wtM l (bstN l L k) then L.getD k 0 else bstN l L k
def ldW (l c : List Int) (w : Int) : Int := bstN l (shM l c w) (shM l c w).length
def kltB (l : List Int) (t w : Int) (x : Int) : Bool := decide (wtM l x < t ∨ (wtM l x = t ∧ x < w))
def ldL (l c : List Int) (t w : Int) : List Int := (allW l).map fun u => if kltB l t w (ldW l c u) then ldW l c u else -1
@[go_sem] theorem ldL_len (l c : List Int) (t w : Int) : (ldL l c t w).length = (prodM l).toNat := by simp [ldL, allW_len]
def stN (X L : List Int) (v : Int) : Nat → List Int
  | 0 => X
  | k + 1 => (stN X L v k).set (L.getD k 0).toNat v
@[go_sem] theorem stN_len (X L : List Int) (v : Int) : ∀ k, (stN X L v k).length = X.length
  | 0 => rfl
  | k + 1 => by rw [stN, List.length_set, stN_len X L v k]
theorem d_impl_oppositeOf (l a : List Int) (hs : isSpaceM l = true) (ha8 : a.length ≤ 8) (ha : in4 a) (hd : ∀ i, i < l.length → a.getD i 0 < l.getD i 0) :
    Den PA f_impl_oppositeOf [.d (.agg [ints l]), .d (dig a)] [.any, .any] (.d (dig (oppD l a))) := by
  have hn := isSpaceM_n hs
  have hz := isSpaceM_szs hs
  have ea := pad8_len a
  refine den_go [] l_impl_oppositeOf ?_
  refine go_c0 ?_
  refine go_loop (fun (j : Nat) => ⟨[(3, .ref 0 0), (4, .ref 1 0), (5, .ref 2 0), (10, .d (ints l)), (11, .d (di l.length)), (12, .d (di j))], [some (.var ((pad8 a).map dy)), some (.var [dy 0, dy 0, dy 0, dy 0, dy 0, dy 0, dy 0, dy 0]), some (.var ((pad8 ((oppD l a).take j)).map dy))]⟩) (fun j => j ≤ l.length) (fun j => l.length - j) 0 ?_ ?_ ?_
  · exact go_r0
  · simp
  · rintro j hj J hJ
    have hx := in4_pad ha8 ha j
    have hq := hz j
    have hm := fun h => mod_bnd (x := l.getD j 0 - (pad8 a).getD j 0) (hz j h)
    have hst := fun h => pad8_set (S := oppD l a) (j := j) (by rw [oppD_len]; omega) h
    have hsg := fun h => oppD_get (l := l) a (i := j) h
    by_cases hjl : j < l.length
    · have hdj := hd j hjl
      have hpg : (pad8 a).getD j 0 = a.getD j 0 := pad8_get ha8 j
      refine go_c0 ?_
      refine hJ (j + 1) (by omega) (by omega) _ ?_
      simp -implicitDefEqProofs (maxSteps := 1000000) (disch := (first | omega | (simp only [go_sem] <;> omega) | fail)) only [go_sem, ints, bools, mat]
      rw [← hst (by rw [oppD_len]; omega), hsg (by omega), hpg]; rfl
    · have : j = l.length := by omega
      subst this
      exact go_e0
theorem sum_opp {l : List Int} (hz : szs l) (w u : Int) : wordN l (sumM l (digM l w) (oppD l (digM l u))) l.length = difW l w u := by
  unfold difW sumW; rw [oppW_digs hz]
theorem d_slices_ContainsFunc_in (l : List Int) (p : Int → Bool) (g : List D → Value → Prop) (hg : ∀ i, i < l.length → g [di (l.getD i 0)] (.bool (p (l.getD i 0)))) (hl : l.length < 1048577) :
    Den PA f_slices_ContainsFunc___int64_int64_ [.d (ints l), .pfn g] [.any, .any] (.d (db (l.any p))) := by
  refine den_go [] l_slices_ContainsFunc___int64_int64_ ?_
  refine go_c0 ?_
  first | refine goC_of [.r, .g g] (d_slices_IndexFunc_in l p g hg hl) (by first | (simp -implicitDefEqProofs (maxSteps := 1000000) (disch := (first | omega | (simp only [go_sem] <;> omega) | fail)) only [go_sem, ints, bools, mat] <;> rfl) | rfl) (by first | (simp -implicitDefEqProofs (maxSteps := 1000000) (disch := (first | omega | (simp only [go_sem] <;> omega) | fail)) only [go_sem, ints, bools, mat] <;> rfl) | rfl) (⟨trivial, fun _ _ h => h, trivial⟩) (by first | (simp -implicitDefEqProofs (maxSteps := 1000000) (disch := (first | omega | (simp only [go_sem] <;> omega) | fail)) only [go_sem, ints, bools, mat] <;> rfl) | rfl) ?_ | refine goOC_of [.r, .g g] (d_slices_IndexFunc_in l p g hg hl) (by first | (simp -implicitDefEqProofs (maxSteps := 1000000) (disch := (first | omega | (simp only [go_sem] <;> omega) | fail)) only [go_sem, ints, bools, mat] <;> rfl) | rfl) (by first | (simp -implicitDefEqProofs (maxSteps := 1000000) (disch := (first | omega | (simp only [go_sem] <;> omega) | fail)) only [go_sem, ints, bools, mat] <;> rfl) | rfl) (by first | (simp -implicitDefEqProofs (maxSteps := 1000000) (disch := (first | omega | (simp only [go_sem] <;> omega) | fail)) only [go_sem, ints, bools, mat] <;> rfl) | rfl) (⟨trivial, fun _ _ h => h, trivial⟩) (by first | (simp -implicitDefEqProofs (maxSteps := 1000000) (disch := (first | omega | (simp only [go_sem] <;> omega) | fail)) only [go_sem, ints, bools, mat] <;> rfl) | rfl) ?_
  refine go_c0 ?_
  refine dbv ?_
  cases h : l.findIdx? p with
  | none =>
    rw [List.findIdx?_eq_none_iff] at h
    symm
    simpa using h
  | some j =>
    obtain ⟨hj, h1, _⟩ := List.findIdx?_eq_some_iff_getElem.1 h
    symm
    simpa using ⟨l[j], List.getElem_mem hj, h1⟩
def cndB (l c : List Int) (w : Int) (X : List Int) (v : Int) : Bool := decide (w ∈ shM l c v) && freR l c X v
def fsT (l c : List Int) (p : List Int × List Int) : Option Int → Option (List Int × List Int)
  | none => none
  | some v => some (p.1 ++ shM l c v, p.2 ++ [v])
def fsC : Option (List Int × List Int) → Int
  | none => 4
  | some _ => 0
def fsO : Option (List Int × List Int) → List Int
  | none => []
  | some p => p.2
def fsS (l c : List Int) (w : Int) : Option (List Int × List Int) → Option (List Int × List Int)
  | none => none
  | some p => if w ∈ p.1 then some p else fsT l c p ((allW l).find? (cndB l c w p.1))
def fsN (l c : List Int) : Nat → Option (List Int × List Int)
  | 0 => some ([], [])
  | j + 1 => fsS l c j (fsN l c j)
theorem fs_none {l c : List Int} {j : Nat} (h : fsN l c j = none) : ∀ k, fsN l c (j + k) = none
  | 0 => h
  | k + 1 => by rw [← Nat.add_assoc, fsN, fs_none h k]; rfl
theorem fs_skip {l c : List Int} {j : Nat} {p : List Int × List Int} (h : fsN l c j = some p) : ∀ k, (∀ i, j ≤ i → i < j + k → (i : Int) ∈ p.1) → fsN l c (j + k) = some p
  | 0, _ => h
  | k + 1, hi => by rw [← Nat.add_assoc, fsN, fs_skip h k fun i a b => hi i a (by omega), fsS, if_pos (hi (j + k) (by omega) (by omega))]
theorem cnd_word {l c X : List Int} {w v : Int} (h : (allW l).find? (cndB l c w X) = some v) (hs : isSpaceM l = true) : (0 ≤ v ∧ v < prodM l) ∧ w ∈ shM l c v ∧ freR l c X v = true := by
  have h1 := List.find?_some h
  rw [cndB, Bool.and_eq_true, decide_eq_true_eq] at h1
  exact ⟨(allW_mem' hs v).1 (List.mem_of_find?_eq_some h), h1.1, h1.2⟩
theorem fs_ok {l c : List Int} (hs : isSpaceM l = true) : ∀ (j : Nat) (X O : List Int), fsN l c j = some (X, O) → inC l X ∧ (∀ i : Nat, i < j → (i : Int) ∈ X) ∧ O.length ≤ j
  | 0, X, O, h => by cases h; exact ⟨fun u hu => by simp at hu, fun i hi => by omega, Nat.le_refl _⟩
  | j + 1, X, O, h => by
    rw [fsN] at h
    cases hj : fsN l c j with
    | none => rw [hj] at h; cases h
    | some p =>
      obtain ⟨X0, O0⟩ := p
      obtain ⟨h1, h2, h3⟩ := fs_ok hs j X0 O0 hj
      rw [hj, fsS] at h
      split at h
      · rename_i hm
        cases h
        exact ⟨h1, fun i hi => by
          by_cases e : i = j
          · subst e; exact hm
          · exact h2 i (by omega), by omega⟩
      · cases hv : (allW l).find? (cndB l c j (X0, O0).1) with
        | none => rw [hv] at h; cases h
        | some v =>
          rw [hv] at h
          cases h
          obtain ⟨_, h4, _⟩ := cnd_word hv hs
          refine ⟨inC_app h1 (shM_in hs c v), fun i hi => ?_, by simp; omega⟩
          by_cases e : i = j
          · subst e; exact List.mem_append_right _ h4
          · exact List.mem_append_left _ (h2 i (by omega))
abbrev fsE (l c : List Int) : Int := if sgM l c = 0 then fsC (fsN l c (prodM l).toNat) else sgM l c
abbrev fsV (l c : List Int) : List Int := fsO (fsN l c (prodM l).toNat)
abbrev cndL (l c : List Int) (w : Int) : List Int := setI (c.map fun u => difW l w u)
theorem cndL_eq {l c : List Int} (hs : isSpaceM l = true) (hc : inC l c) {w : Int} (hw : 0 ≤ w ∧ w < prodM l) : cndL l c w = (allW l).filter fun v => decide (w ∈ shM l c v) := by
  refine setI_eq ((allW_asc l).filter _) fun v => ?_
  rw [List.mem_filter, allW_mem' hs, decide_eq_true_eq, List.mem_map, shM_mem]
  constructor
  · rintro ⟨hv, u, hu, e⟩
    refine ⟨u, hu, ?_⟩
    rw [← e, sumW_comm l u v]; exact sum_dif hs hv u
  · rintro ⟨u, hu, e⟩
    refine ⟨by rw [← e]; exact difW_bnd hs _ _, u, hu, ?_⟩
    rw [← e, sumW_comm]; exact dif_sum hs hw u
theorem cnd_find {l c : List Int} (hs : isSpaceM l = true) (hc : inC l c) {w : Int} (hw : 0 ≤ w ∧ w < prodM l) (X : List Int) : (allW l).find? (cndB l c w X) = (cndL l c w).find? (freR l c X) := by
  rw [cndL_eq hs hc hw, List.find?_filter]
  congr 1; funext v
  rw [cndB, Bool.eq_iff_iff]; simp
def atO (L : List Int) : Option Nat → Option Int
  | none => none
  | some i => some (L.getD i 0)
theorem find_idx {L : List Int} {p : Int → Bool} : L.find? p = atO L (L.findIdx? p) := by
  cases h : L.findIdx? p with
  | none =>
    rw [List.findIdx?_eq_none_iff] at h
    show L.find? p = none
    rw [List.find?_eq_none]; intro x hx; rw [h x hx]; simp
  | some i =>
    obtain ⟨hi, h1, h2⟩ := List.findIdx?_eq_some_iff_getElem.1 h
    have e : L.getD i 0 = L[i] := by simp [hi]
    show L.find? p = some (L.getD i 0)
    rw [List.find?_eq_some_iff_getElem, e]
    exact ⟨h1, i, hi, rfl, fun j hj => by simpa using h2 j hj⟩
theorem d_impl_FirstShifts_1 (l : List Int) (hs : isSpaceM l = true) (u w : Int) (hu : 0 ≤ u) (hu2 : u < 1000000000000) (hw : 0 ≤ w) (hw2 : w < 1000000000000) :
    Den PA f_impl_FirstShifts_1 [.d (di u), .box [ints l], .box [di w]] [.any, .any, .any] (.d (di (difW l w u))) := by
  have hn := isSpaceM_n hs
  have hz := isSpaceM_szs hs
  have eu := digM_len l u
  have ew := digM_len l w
  have eo := oppD_len l (digM l u)
  refine den_go [] l_impl_FirstShifts_1 ?_
  repeat' (first | simp -implicitDefEqProofs (maxSteps := 1000000) (disch := (first | omega | (simp only [go_sem] <;> omega) | fail)) only [go_sem, ints, bools, mat, c_impl_FirstShifts_1] | ((first | apply goIf_b | apply goG_b | apply goTG_b | apply goOG_b) <;> intro h <;> ((try simp only [hnq] at h); (try simp only [h]); (try simp only [hnr] at h)) <;> (try (exfalso; omega))) | ((first | refine goC_call [.r, .r] (d_impl_digitsOf l hs w hw hw2) ?_ | refine goOC_call [.r, .r] (d_impl_digitsOf l hs w hw hw2) ?_); simp -implicitDefEqProofs (maxSteps := 1000000) (disch := (first | omega | (simp only [go_sem] <;> omega) | fail)) only [go_sem, ints, bools, mat, c_impl_FirstShifts_1]; fail_if_success (with_reducible show chk _ _)) | ((first | refine goC_call [.r, .r] (d_impl_digitsOf l hs u hu hu2) ?_ | refine goOC_call [.r, .r] (d_impl_digitsOf l hs u hu hu2) ?_); simp -implicitDefEqProofs (maxSteps := 1000000) (disch := (first | omega | (simp only [go_sem] <;> omega) | fail)) only [go_sem, ints, bools, mat, c_impl_FirstShifts_1]; fail_if_success (with_reducible show chk _ _)) | ((first | refine goC_call [.r, .r] (d_impl_oppositeOf l (digM l u) hs (by omega) (digM_bnd _ hz) (fun i hi => (dig_lt hz _ hi).2)) ?_ | refine goOC_call [.r, .r] (d_impl_oppositeOf l (digM l u) hs (by omega) (digM_bnd _ hz) (fun i hi => (dig_lt hz _ hi).2)) ?_); simp -implicitDefEqProofs (maxSteps := 1000000) (disch := (first | omega | (simp only [go_sem] <;> omega) | fail)) only [go_sem, ints, bools, mat, c_impl_FirstShifts_1]; fail_if_success (with_reducible show chk _ _)) | ((first | refine goC_call [.r, .r, .r] (d_impl_sumOf l (digM l w) (oppD l (digM l u)) hs (by omega) (by omega) (digM_bnd _ hz) (oppD_bnd hz _)) ?_ | refine goOC_call [.r, .r, .r] (d_impl_sumOf l (digM l w) (oppD l (digM l u)) hs (by omega) (by omega) (digM_bnd _ hz) (oppD_bnd hz _)) ?_); simp -implicitDefEqProofs (maxSteps := 1000000) (disch := (first | omega | (simp only [go_sem] <;> omega) | fail)) only [go_sem, ints, bools, mat, c_impl_FirstShifts_1]; fail_if_success (with_reducible show chk _ _)) | ((first | refine goC_call [.r, .r] (d_impl_wordOf l (sumM l (digM l w) (oppD l (digM l u))) hs (by rw [sumM_len]; omega) (sumM_lt hz _ _)) ?_ | refine goOC_call [.r, .r] (d_impl_wordOf l (sumM l (digM l w) (oppD l (digM l u))) hs (by rw [sumM_len]; omega) (sumM_lt hz _ _)) ?_); simp -implicitDefEqProofs (maxSteps := 1000000) (disch := (first | omega | (simp only [go_sem] <;> omega) | fail)) only [go_sem, ints, bools, mat, c_impl_FirstShifts_1]; fail_if_success (with_reducible show chk _ _)) | (rw [goS_two]; refine ⟨?_, ?_⟩))
  rw [sum_opp hz]
theorem d_impl_FirstShifts_2_1 (Y : List Bool) (u : Int) (hu : 0 ≤ u) (hu2 : u < Y.length) (hY : Y.length < 1048577) :
    Den PA f_impl_FirstShifts_2_1 [.d (di u), .box [bools Y]] [.any, .any] (.d (db (Y.getD u.toNat false))) := by
  refine den_go [] l_impl_FirstShifts_2_1 ?_
  exact go_e0
theorem d_impl_FirstShifts_2 (l c X : List Int) (hs : isSpaceM l = true) (hc : c.length < 1048577) (hcw : inC l c) (hX : inC l X) (v : Int) (hv : 0 ≤ v ∧ v < prodM l) :
    Den PA f_impl_FirstShifts_2 [.d (di v), .box [ints l], .box [ints c], .box [bools (setM l X)]] [.any, .any, .any, .any] (.d (db (freR l c X v))) := by
  have hpr := isSpaceM_prod hs
  have hp1 := prodM_pos (isSpaceM_szs hs)
  have hsl := shM_len l c v
  have hin := inC_get (shM_in hs c v)
  refine den_go [] l_impl_FirstShifts_2 ?_
  repeat' (first | simp -implicitDefEqProofs (maxSteps := 1000000) (disch := (first | omega | (simp only [go_sem] <;> omega) | fail)) only [go_sem, ints, bools, mat, c_impl_FirstShifts_2] | ((first | apply goIf_b | apply goG_b | apply goTG_b | apply goOG_b) <;> intro h <;> ((try simp only [hnq] at h); (try simp only [h]); (try simp only [hnr] at h)) <;> (try (exfalso; omega))))
  have yc := d_impl_shifted l c hs hc hcw v hv.1 (by omega); first | refine goC_call [.r, .r, .r] yc ?_ | refine goOC_call [.r, .r, .r] yc ?_
  repeat' (first | simp -implicitDefEqProofs (maxSteps := 1000000) (disch := (first | omega | (simp only [go_sem] <;> omega) | fail)) only [go_sem, ints, bools, mat] | ((first | apply goIf_b | apply goG_b | apply goTG_b | apply goOG_b) <;> intro h <;> ((try simp only [hnq] at h); (try simp only [h]); (try simp only [hnr] at h)) <;> (try (exfalso; omega))))
  have yc := d_slices_ContainsFunc_in (shM l c v) (fun u => (setM l X).getD u.toNat false) (fnI (fun u => 0 ≤ u ∧ u < prodM l) fun u => (setM l X).getD u.toNat false) (fun i hi => ⟨_, hin i hi, rfl, rfl⟩) (by omega); first | refine goC_call [.r, .g (fnI (fun u => 0 ≤ u ∧ u < prodM l) fun u => (setM l X).getD u.toNat false)] yc ?_ | refine goOC_call [.r, .g (fnI (fun u => 0 ≤ u ∧ u < prodM l) fun u => (setM l X).getD u.toNat false)] yc ?_
  repeat' (first | simp -implicitDefEqProofs (maxSteps := 1000000) (disch := (first | omega | (simp only [go_sem] <;> omega) | fail)) only [go_sem, ints, bools, mat] | ((first | apply goIf_b | apply goG_b | apply goTG_b | apply goOG_b) <;> intro h <;> ((try simp only [hnq] at h); (try simp only [h]); (try simp only [hnr] at h)) <;> (try (exfalso; omega))))
  refine chk_intro (fnOK_mk (d_impl_FirstShifts_2_1 [false] 0 (by omega) (by simp) (by simp)).1 [[bools (setM l X)]] (by simp -implicitDefEqProofs (maxSteps := 1000000) (disch := (first | omega | (simp only [go_sem] <;> omega) | fail)) only [go_sem, ints, bools, mat]) fun ds r hgg => ?_) ?_
  · obtain ⟨u, hu, rfl, rfl⟩ := hgg
    exact ⟨_, d_impl_FirstShifts_2_1 (setM l X) u hu.1 (by rw [setN_len]; omega) (by rw [setN_len]; omega)⟩
  refine go_c0 ?_
  refine dbv ?_
  rw [Bool.eq_iff_iff, Bool.not_eq_true', List.any_eq_false, List.all_eq_true]
  constructor
  · intro h u hu
    have := h u hu
    rw [setM_getI hX (shM_in hs c v u hu)] at this
    simpa using this
  · intro h u hu
    have := h u hu
    rw [setM_getI hX (shM_in hs c v u hu)]
    simpa using this
theorem d_impl_FirstShifts (l c : List Int) (hl : l.length < 1048577) (hc : c.length < 1048577) : Den PA f_impl_FirstShifts [.d (.agg [ints l]), .d (ints c)] [.any, .any] (lstR (fsE l c) (fsV l c)) := by
  refine den_go [] l_impl_FirstShifts ?_
  refine go_c0 ?_
  have yc := d_impl_someCode0 l hl c hc; first | refine goC_call [.r, .r, .r] yc ?_ | refine goOC_call [.r, .r, .r] yc ?_
  by_cases h : sgM l c = 0
  · obtain ⟨hs, hcc, hc0⟩ := sgM_ok h
    have hcw := inC_code hcc
    have hn := isSpaceM_n hs
    have hpr := isSpaceM_prod hs
    have hp1 := prodM_pos (isSpaceM_szs hs)
    rw [h]
    have e1 : fsE l c = fsC (fsN l c (prodM l).toNat) := by unfold fsE; rw [if_pos h]
    have y1 := kc [.r] (d_impl_count l hs); refine go_c0 ?_
    refine go_loop (fun (p : Nat × List Int × List Int) => ⟨[(2, .ref 0 0), (3, .ref 1 0), (7, .ref 2 0), (8, .sl 3 0 p.2.2.length 1)], [some (.var [ints l]), some (.var [ints c]), some (.mix [.sl 4 0 (prodM l).toNat 1]), some (.dat 1 (p.2.2.map di)), some (.dat 1 ((setM l p.2.1).map db))]⟩) (fun p => p.1 ≤ (prodM l).toNat ∧ fsN l c p.1 = some p.2) (fun p => (prodM l).toNat - p.1) (0, [], []) ?_ ?_ ?_
    · exact go_r0
    · exact ⟨Nat.zero_le _, rfl⟩
    · rintro ⟨j, X, O⟩ ⟨h1, h2⟩ J hJ
      dsimp only at h1 h2 ⊢
      obtain ⟨hX, hj, hO⟩ := fs_ok hs j X O h2
      refine go_c0 ?_
      have yc := d_slices_Index_bool (setM l X) false (by rw [setN_len]; omega); first | refine goC_call [.r, .r] yc ?_ | refine goOC_call [.r, .r] yc ?_
      cases hf : (setM l X).findIdx? (fun x => false == x) with
      | none =>
        have hall : fsN l c (prodM l).toNat = some (X, O) := by
          have := fs_skip h2 ((prodM l).toNat - j) fun i a b => by
            rw [List.findIdx?_eq_none_iff] at hf
            have hi : i < (setM l X).length := by rw [setN_len]; omega
            have := hf _ (List.getElem_mem hi)
            have hg := setM_get hX (i := i) (by omega)
            rw [List.getD_eq_getElem?_getD, List.getElem?_eq_getElem hi, Option.getD_some] at hg
            rw [hg] at this
            simpa using this
          rwa [show j + ((prodM l).toNat - j) = (prodM l).toNat by omega] at this
        have e2 : fsE l c = 0 := by rw [e1, hall]; rfl
        have e3 : fsV l c = O := by unfold fsV; rw [hall]; rfl
        rw [e3, e2, lstR_ok rfl]
        exact go_e0
      | some w =>
        obtain ⟨hw1, hw2, hw3⟩ := List.findIdx?_eq_some_iff_getElem.1 hf
        rw [setN_len] at hw1
        have hwb : (0 : Int) ≤ w ∧ (w : Int) < prodM l := by omega
        have hgw := fun (i : Nat) (hi : i < (prodM l).toNat) => (show (setM l X)[i]'(by rw [setN_len]; exact hi) = decide ((i : Int) ∈ X) by
          have hg := setM_get hX hi
          rwa [List.getD_eq_getElem?_getD, List.getElem?_eq_getElem (by rw [setN_len]; exact hi), Option.getD_some] at hg)
        have hwX : (w : Int) ∉ X := by
          rw [hgw w hw1] at hw2; simpa using hw2
        have hjw : j ≤ w := by
          rcases Nat.lt_or_ge w j with q | q
          · exact (hwX (hj w q)).elim
          · exact q
        have h3 : fsN l c w = some (X, O) := by
          have := fs_skip h2 (w - j) fun i a b => by
            have := hw3 i (by omega)
            rw [hgw i (by omega)] at this
            simpa using this
          rwa [show j + (w - j) = w by omega] at this
        have h4 : fsN l c (w + 1) = fsT l c (X, O) ((cndL l c w).find? (freR l c X)) := by
          rw [fsN, h3, fsS, if_neg hwX, cnd_find hs hcw hwb]
        rw [find_idx] at h4
        have hcl : (cndL l c w).length ≤ c.length := Nat.le_trans (setI_len _) (by simp)
        have hcm : ∀ i, i < (cndL l c w).length → 0 ≤ (cndL l c w).getD i 0 ∧ (cndL l c w).getD i 0 < prodM l := fun i hi => by
          have hm := mem_getD hi
          rw [setI_mem, List.mem_map] at hm
          obtain ⟨u, _, e⟩ := hm
          rw [← e]; exact difW_bnd hs _ _
        repeat' (first | simp -implicitDefEqProofs (maxSteps := 1000000) (disch := (first | omega | (simp only [go_sem] <;> omega) | fail)) only [go_sem, ints, bools, mat] | ((first | apply goIf_b | apply goG_b | apply goTG_b | apply goOG_b) <;> intro h <;> ((try simp only [hnq] at h); (try simp only [h]); (try simp only [hnr] at h)) <;> (try (exfalso; omega))))
        have yc := d_impl_mapped c (fun u => difW l w u) hc; first | refine goC_call [.r, .g (fnT c fun u => difW l w u)] yc ?_ | refine goOC_call [.r, .g (fnT c fun u => difW l w u)] yc ?_
        repeat' (first | simp -implicitDefEqProofs (maxSteps := 1000000) (disch := (first | omega | (simp only [go_sem] <;> omega) | fail)) only [go_sem, ints, bools, mat] | ((first | apply goIf_b | apply goG_b | apply goTG_b | apply goOG_b) <;> intro h <;> ((try simp only [hnq] at h); (try simp only [h]); (try simp only [hnr] at h)) <;> (try (exfalso; omega))))
        refine chk_intro (fnOK_mk (d_impl_FirstShifts_1 l hs 0 0 (by omega) (by omega) (by omega) (by omega)).1 [[ints l], [di w]] (by simp -implicitDefEqProofs (maxSteps := 1000000) (disch := (first | omega | (simp only [go_sem] <;> omega) | fail)) only [go_sem, ints, bools, mat]) fun ds r hgg => ?_) ?_
        · obtain ⟨u, hu, rfl, rfl⟩ := hgg
          have := hcw u hu
          exact ⟨_, d_impl_FirstShifts_1 l hs u w (by omega) (by omega) (by omega) (by omega)⟩
        repeat' (first | simp -implicitDefEqProofs (maxSteps := 1000000) (disch := (first | omega | (simp only [go_sem] <;> omega) | fail)) only [go_sem, ints, bools, mat] | ((first | apply goIf_b | apply goG_b | apply goTG_b | apply goOG_b) <;> intro h <;> ((try simp only [hnq] at h); (try simp only [h]); (try simp only [hnr] at h)) <;> (try (exfalso; omega))))
        have yc := d_slices_IndexFunc_in (cndL l c w) (freR l c X) (fnI (fun u => 0 ≤ u ∧ u < prodM l) (freR l c X)) (fun i hi => ⟨_, hcm i hi, rfl, rfl⟩) (by omega); first | refine goC_call [.r, .g (fnI (fun u => 0 ≤ u ∧ u < prodM l) (freR l c X))] yc ?_ | refine goOC_call [.r, .g (fnI (fun u => 0 ≤ u ∧ u < prodM l) (freR l c X))] yc ?_
        repeat' (first | simp -implicitDefEqProofs (maxSteps := 1000000) (disch := (first | omega | (simp only [go_sem] <;> omega) | fail)) only [go_sem, ints, bools, mat] | ((first | apply goIf_b | apply goG_b | apply goTG_b | apply goOG_b) <;> intro h <;> ((try simp only [hnq] at h); (try simp only [h]); (try simp only [hnr] at h)) <;> (try (exfalso; omega))))
        refine chk_intro (fnOK_mk (d_impl_FirstShifts_2 l c X hs hc hcw hX 0 (by omega)).1 [[ints l], [ints c], [bools (setM l X)]] (by simp -implicitDefEqProofs (maxSteps := 1000000) (disch := (first | omega | (simp only [go_sem] <;> omega) | fail)) only [go_sem, ints, bools, mat]) fun ds r hgg => ?_) ?_
        · obtain ⟨u, hu, rfl, rfl⟩ := hgg
          exact ⟨_, d_impl_FirstShifts_2 l c X hs hc hcw hX u hu⟩
        cases hi : (cndL l c w).findIdx? (freR l c X) with
        | none =>
          rw [hi] at h4
          have hall : fsN l c (prodM l).toNat = none := by
            have := fs_none h4 ((prodM l).toNat - (w + 1))
            rwa [show w + 1 + ((prodM l).toNat - (w + 1)) = (prodM l).toNat by omega] at this
          have e2 : fsE l c = 4 := by rw [e1, hall]; rfl
          rw [lstR_no (by rw [e2]; decide), e2]
          exact go_e0
        | some i =>
          rw [hi] at h4
          obtain ⟨hil, _, _⟩ := List.findIdx?_eq_some_iff_getElem.1 hi
          have hci := hcm i hil
          have hil2 : i < (setI (List.map (fun u => difW l (w : Int) u) c)).length := hil
          refine go_c0 ?_
          have yc := d_impl_shifted l c hs hc hcw ((cndL l c w).getD i 0) hci.1 (by omega); first | refine goC_call [.r, .r, .r] yc ?_ | refine goOC_call [.r, .r, .r] yc ?_
          have hsl := shM_len l c ((cndL l c w).getD i 0)
          have hin := inC_get (shM_in hs c ((cndL l c w).getD i 0))
          refine go_c0 ?_
          refine go_loop (fun (k : Nat) => ⟨[(2, .ref 0 0), (3, .ref 1 0), (7, .ref 2 0), (8, .sl 3 0 (O.length + 1) 1), (50, .sl 4 0 (shM l c ((cndL l c w).getD i 0)).length 1), (51, .d (di (shM l c ((cndL l c w).getD i 0)).length)), (52, .d (di k))], [some (.var [ints l]), some (.var [ints c]), some (.mix [.sl 5 0 (prodM l).toNat 1]), some (.dat 1 ((O ++ [(cndL l c w).getD i 0]).map di)), some (.dat 1 ((shM l c ((cndL l c w).getD i 0)).map di)), some (.dat 1 ((setM l (X ++ (shM l c ((cndL l c w).getD i 0)).take k)).map db))]⟩) (fun k => k ≤ (shM l c ((cndL l c w).getD i 0)).length) (fun k => (shM l c ((cndL l c w).getD i 0)).length - k) 0 ?_ ?_ ?_
          · simp -implicitDefEqProofs (maxSteps := 1000000) (disch := (first | omega | (simp only [go_sem] <;> omega) | fail)) only [go_sem, ints, bools, mat, List.append_nil]
          · simp
          · rintro k hk J2 hJ2
            have hink := hin k
            by_cases hkl : k < (shM l c ((cndL l c w).getD i 0)).length
            · refine go_c0 ?_
              refine hJ2 (k + 1) (by omega) (by omega) _ ?_
              simp -implicitDefEqProofs (maxSteps := 1000000) (disch := (first | omega | (simp only [go_sem] <;> omega) | fail)) only [go_sem, ints, bools, mat]
              rw [take_one _ hkl, ← List.append_assoc, setM_snoc]; rfl
            · have : k = (shM l c ((cndL l c w).getD i 0)).length := by omega
              subst this
              refine go_c0 ?_
              refine hJ (w + 1, X ++ shM l c ((cndL l c w).getD i 0), O ++ [(cndL l c w).getD i 0]) ⟨by dsimp only; omega, h4⟩ (by dsimp only; omega) _ ?_
              exact go_a0
  · have e1 : fsE l c = sgM l c := by unfold fsE; rw [if_neg h]
    rw [e1, lstR_no h]
    generalize sgM l c = b at h
    repeat' (first | simp -implicitDefEqProofs (maxSteps := 1000000) (disch := (first | omega | (simp only [go_sem] <;> omega) | fail)) only [go_sem, ints, bools, mat] | ((first | apply goIf_b | apply goG_b | apply goTG_b | apply goOG_b) <;> intro h <;> ((try simp only [hnq] at h); (try simp only [h]); (try simp only [hnr] at h)) <;> (try (exfalso; omega))))
    all_goals (exfalso; omega)
end Go.Proofs.YtgmocipfgfnolacGreat.Va
