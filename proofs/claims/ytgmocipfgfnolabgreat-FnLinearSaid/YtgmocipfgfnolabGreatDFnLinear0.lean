/- Contracts of the functions that FnLinear reaches (part 0). Condition: none. -/
import Derived.Test.YtgmocipfgfnolabGreatCFnLinear
set_option linter.all false
set_option linter.unusedSimpArgs false
set_option linter.unusedVariables false
namespace Go.Proofs.YtgmocipfgfnolabGreat.Va
open Go
set_option maxHeartbeats 4000000
set_option maxRecDepth 100000
attribute [go_sem_proc] reduceIte Nat.reduceEqDiff Nat.reduceAdd Nat.reduceBEq Nat.reduceMul Nat.reduceLeDiff Nat.reduceLT Nat.reduceMod Nat.reduceDiv Nat.reduceSub reduceCtorEq
theorem hnq : (∀ {b : Bool}, ((!b) = true) = (b = false)) ∧ (∀ {b : Bool}, ((!b) = false) = (b = true)) := ⟨by intro b; cases b <;> simp, by intro b; cases b <;> simp⟩
theorem hnr : (∀ {p : Prop} [Decidable p], (decide p = true) = p) ∧ (∀ {p : Prop} [Decidable p], (decide p = false) = ¬p) ∧ (∀ {α : Type} [BEq α] [LawfulBEq α] {a b : α}, ((a != b) = true) ↔ a ≠ b) ∧ (∀ {α : Type} [BEq α] [LawfulBEq α] {a b : α}, ((a != b) = false) ↔ a = b) ∧
  (∀ {α : Type} [BEq α] [LawfulBEq α] {a b : α}, ((a == b) = true) ↔ a = b) ∧ (∀ {α : Type} [BEq α] [LawfulBEq α] {a b : α}, ((a == b) = false) ↔ a ≠ b) ∧ (∀ {α : Type} {a b : α}, (a ≠ b) = ¬ a = b) ∧ (∀ {a b : Int}, ¬ a < b ↔ b ≤ a) ∧ (∀ {a b : Int}, ¬ a ≤ b ↔ b < a) ∧
  (∀ {a b : Bool}, ((a && b) = true) = (a = true ∧ b = true)) ∧ (∀ {a b : Bool}, ((a && b) = false) = (a = false ∨ b = false)) ∧ (∀ {a b : Bool}, ((a || b) = true) = (a = true ∨ b = true)) ∧ (∀ {a b : Bool}, ((a || b) = false) = (a = false ∧ b = false)) :=
  ⟨decide_eq_true_eq, decide_eq_false_iff_not .. |> propext, bne_iff_ne, bne_eq_false_iff_eq, beq_iff_eq, beq_eq_false_iff_ne, rfl, Int.not_lt, Int.not_le, by simp, by simp, by simp, by simp⟩
structure Kc (ms : List M) (f : FuncId) (rs rs' : List R) (res : R) : Prop where
  d : Den PA f rs rs' res
theorem kc (ms : List M) {f : FuncId} {rs rs' : List R} {res : R} (h : Den PA f rs rs' res) : Kc ms f rs rs' res := ⟨h⟩
theorem goC_k {f : FuncId} {xs : List AV} {d : Option Nat} {r : List AQ} {ks : List Fr} {tm : List (Nat × AV)} {sto : Sto} {post : X → ASt → Prop} {ms : List M} {rs rs' : List R} {res : R} (y : Kc ms f rs rs' res)
    (h : goCC PA (giveL sto ms xs) ms rs rs' res xs d r ks tm sto post) : goC PA f xs d r ks tm sto post := goC_call ms y.d h
theorem goOC_k {f : FuncId} {xs : List AV} {d : Option Nat} {s : ASch} {H : Hld} {ks : List Fr} {tm : List (Nat × AV)} {sto : Sto} {post : X → ASt → Prop} {ms : List M} {rs rs' : List R} {res : R} (y : Kc ms f rs rs' res)
    (h : goOCC PA (giveL sto ms xs) ms rs rs' res xs d s H ks tm sto post) : goOC PA f xs d s H ks tm sto post := goOC_call ms y.d h
structure Wr (Q : Prop) : Prop where
  q : Q
theorem go_e0 {P : Prop} (h : P := by repeat' (first | simp -implicitDefEqProofs (maxSteps := 1000000) (disch := (first | omega | (simp only [go_sem] <;> omega) | fail)) only [go_sem, ints, bools, mat] | ((first | apply goIf_b | apply goG_b | apply goTG_b | apply goOG_b) <;> intro h <;> ((try simp only [hnq] at h); (try simp only [h]); (try simp only [hnr] at h)) <;> (try (exfalso; omega))) | ((first | refine goC_k y1 ?_ | refine goOC_k y1 ?_); simp -implicitDefEqProofs (maxSteps := 1000000) (disch := (first | omega | (simp only [go_sem] <;> omega) | fail)) only [go_sem, ints, bools, mat]; fail_if_success (with_reducible show chk _ _)) | ((first | refine goC_k y2 ?_ | refine goOC_k y2 ?_); simp -implicitDefEqProofs (maxSteps := 1000000) (disch := (first | omega | (simp only [go_sem] <;> omega) | fail)) only [go_sem, ints, bools, mat]; fail_if_success (with_reducible show chk _ _)) | ((first | refine goC_k y3 ?_ | refine goOC_k y3 ?_); simp -implicitDefEqProofs (maxSteps := 1000000) (disch := (first | omega | (simp only [go_sem] <;> omega) | fail)) only [go_sem, ints, bools, mat]; fail_if_success (with_reducible show chk _ _)) | ((first | refine goC_k y4 ?_ | refine goOC_k y4 ?_); simp -implicitDefEqProofs (maxSteps := 1000000) (disch := (first | omega | (simp only [go_sem] <;> omega) | fail)) only [go_sem, ints, bools, mat]; fail_if_success (with_reducible show chk _ _)) | ((first | refine goC_k y5 ?_ | refine goOC_k y5 ?_); simp -implicitDefEqProofs (maxSteps := 1000000) (disch := (first | omega | (simp only [go_sem] <;> omega) | fail)) only [go_sem, ints, bools, mat]; fail_if_success (with_reducible show chk _ _)) | ((first | refine goC_k y6 ?_ | refine goOC_k y6 ?_); simp -implicitDefEqProofs (maxSteps := 1000000) (disch := (first | omega | (simp only [go_sem] <;> omega) | fail)) only [go_sem, ints, bools, mat]; fail_if_success (with_reducible show chk _ _)) | ((first | refine goC_k y7 ?_ | refine goOC_k y7 ?_); simp -implicitDefEqProofs (maxSteps := 1000000) (disch := (first | omega | (simp only [go_sem] <;> omega) | fail)) only [go_sem, ints, bools, mat]; fail_if_success (with_reducible show chk _ _)) | ((first | refine goC_k y8 ?_ | refine goOC_k y8 ?_); simp -implicitDefEqProofs (maxSteps := 1000000) (disch := (first | omega | (simp only [go_sem] <;> omega) | fail)) only [go_sem, ints, bools, mat]; fail_if_success (with_reducible show chk _ _)) | ((first | refine goC_k y9 ?_ | refine goOC_k y9 ?_); simp -implicitDefEqProofs (maxSteps := 1000000) (disch := (first | omega | (simp only [go_sem] <;> omega) | fail)) only [go_sem, ints, bools, mat]; fail_if_success (with_reducible show chk _ _)) | ((first | refine goC_k y10 ?_ | refine goOC_k y10 ?_); simp -implicitDefEqProofs (maxSteps := 1000000) (disch := (first | omega | (simp only [go_sem] <;> omega) | fail)) only [go_sem, ints, bools, mat]; fail_if_success (with_reducible show chk _ _)) | ((first | refine goC_k y11 ?_ | refine goOC_k y11 ?_); simp -implicitDefEqProofs (maxSteps := 1000000) (disch := (first | omega | (simp only [go_sem] <;> omega) | fail)) only [go_sem, ints, bools, mat]; fail_if_success (with_reducible show chk _ _)) | ((first | refine goC_k y12 ?_ | refine goOC_k y12 ?_); simp -implicitDefEqProofs (maxSteps := 1000000) (disch := (first | omega | (simp only [go_sem] <;> omega) | fail)) only [go_sem, ints, bools, mat]; fail_if_success (with_reducible show chk _ _)) | ((first | refine goC_k y13 ?_ | refine goOC_k y13 ?_); simp -implicitDefEqProofs (maxSteps := 1000000) (disch := (first | omega | (simp only [go_sem] <;> omega) | fail)) only [go_sem, ints, bools, mat]; fail_if_success (with_reducible show chk _ _)) | ((first | refine goC_k y14 ?_ | refine goOC_k y14 ?_); simp -implicitDefEqProofs (maxSteps := 1000000) (disch := (first | omega | (simp only [go_sem] <;> omega) | fail)) only [go_sem, ints, bools, mat]; fail_if_success (with_reducible show chk _ _)) | ((first | refine goC_k y15 ?_ | refine goOC_k y15 ?_); simp -implicitDefEqProofs (maxSteps := 1000000) (disch := (first | omega | (simp only [go_sem] <;> omega) | fail)) only [go_sem, ints, bools, mat]; fail_if_success (with_reducible show chk _ _)) | ((first | refine goC_k y16 ?_ | refine goOC_k y16 ?_); simp -implicitDefEqProofs (maxSteps := 1000000) (disch := (first | omega | (simp only [go_sem] <;> omega) | fail)) only [go_sem, ints, bools, mat]; fail_if_success (with_reducible show chk _ _)) | ((first | refine goC_k y17 ?_ | refine goOC_k y17 ?_); simp -implicitDefEqProofs (maxSteps := 1000000) (disch := (first | omega | (simp only [go_sem] <;> omega) | fail)) only [go_sem, ints, bools, mat]; fail_if_success (with_reducible show chk _ _)) | ((first | refine goC_k y18 ?_ | refine goOC_k y18 ?_); simp -implicitDefEqProofs (maxSteps := 1000000) (disch := (first | omega | (simp only [go_sem] <;> omega) | fail)) only [go_sem, ints, bools, mat]; fail_if_success (with_reducible show chk _ _)) | ((first | refine goC_k y19 ?_ | refine goOC_k y19 ?_); simp -implicitDefEqProofs (maxSteps := 1000000) (disch := (first | omega | (simp only [go_sem] <;> omega) | fail)) only [go_sem, ints, bools, mat]; fail_if_success (with_reducible show chk _ _)) | ((first | refine goC_k y20 ?_ | refine goOC_k y20 ?_); simp -implicitDefEqProofs (maxSteps := 1000000) (disch := (first | omega | (simp only [go_sem] <;> omega) | fail)) only [go_sem, ints, bools, mat]; fail_if_success (with_reducible show chk _ _)) | ((first | refine goC_k y21 ?_ | refine goOC_k y21 ?_); simp -implicitDefEqProofs (maxSteps := 1000000) (disch := (first | omega | (simp only [go_sem] <;> omega) | fail)) only [go_sem, ints, bools, mat]; fail_if_success (with_reducible show chk _ _)) | ((first | refine goC_k y22 ?_ | refine goOC_k y22 ?_); simp -implicitDefEqProofs (maxSteps := 1000000) (disch := (first | omega | (simp only [go_sem] <;> omega) | fail)) only [go_sem, ints, bools, mat]; fail_if_success (with_reducible show chk _ _)) | ((first | refine goC_k y23 ?_ | refine goOC_k y23 ?_); simp -implicitDefEqProofs (maxSteps := 1000000) (disch := (first | omega | (simp only [go_sem] <;> omega) | fail)) only [go_sem, ints, bools, mat]; fail_if_success (with_reducible show chk _ _)) | ((first | refine goC_k y24 ?_ | refine goOC_k y24 ?_); simp -implicitDefEqProofs (maxSteps := 1000000) (disch := (first | omega | (simp only [go_sem] <;> omega) | fail)) only [go_sem, ints, bools, mat]; fail_if_success (with_reducible show chk _ _)) | ((first | refine goC_k y25 ?_ | refine goOC_k y25 ?_); simp -implicitDefEqProofs (maxSteps := 1000000) (disch := (first | omega | (simp only [go_sem] <;> omega) | fail)) only [go_sem, ints, bools, mat]; fail_if_success (with_reducible show chk _ _)) | ((first | refine goC_k y26 ?_ | refine goOC_k y26 ?_); simp -implicitDefEqProofs (maxSteps := 1000000) (disch := (first | omega | (simp only [go_sem] <;> omega) | fail)) only [go_sem, ints, bools, mat]; fail_if_success (with_reducible show chk _ _)) | ((first | refine goC_k y27 ?_ | refine goOC_k y27 ?_); simp -implicitDefEqProofs (maxSteps := 1000000) (disch := (first | omega | (simp only [go_sem] <;> omega) | fail)) only [go_sem, ints, bools, mat]; fail_if_success (with_reducible show chk _ _)) | ((first | refine goC_k y28 ?_ | refine goOC_k y28 ?_); simp -implicitDefEqProofs (maxSteps := 1000000) (disch := (first | omega | (simp only [go_sem] <;> omega) | fail)) only [go_sem, ints, bools, mat]; fail_if_success (with_reducible show chk _ _)) | ((first | refine goC_k y29 ?_ | refine goOC_k y29 ?_); simp -implicitDefEqProofs (maxSteps := 1000000) (disch := (first | omega | (simp only [go_sem] <;> omega) | fail)) only [go_sem, ints, bools, mat]; fail_if_success (with_reducible show chk _ _)) | ((first | refine goC_k y30 ?_ | refine goOC_k y30 ?_); simp -implicitDefEqProofs (maxSteps := 1000000) (disch := (first | omega | (simp only [go_sem] <;> omega) | fail)) only [go_sem, ints, bools, mat]; fail_if_success (with_reducible show chk _ _)) | ((first | refine goC_k y31 ?_ | refine goOC_k y31 ?_); simp -implicitDefEqProofs (maxSteps := 1000000) (disch := (first | omega | (simp only [go_sem] <;> omega) | fail)) only [go_sem, ints, bools, mat]; fail_if_success (with_reducible show chk _ _)) | ((first | refine goC_k y32 ?_ | refine goOC_k y32 ?_); simp -implicitDefEqProofs (maxSteps := 1000000) (disch := (first | omega | (simp only [go_sem] <;> omega) | fail)) only [go_sem, ints, bools, mat]; fail_if_success (with_reducible show chk _ _)) | ((first | refine goC_k y33 ?_ | refine goOC_k y33 ?_); simp -implicitDefEqProofs (maxSteps := 1000000) (disch := (first | omega | (simp only [go_sem] <;> omega) | fail)) only [go_sem, ints, bools, mat]; fail_if_success (with_reducible show chk _ _)) | ((first | refine goC_k y34 ?_ | refine goOC_k y34 ?_); simp -implicitDefEqProofs (maxSteps := 1000000) (disch := (first | omega | (simp only [go_sem] <;> omega) | fail)) only [go_sem, ints, bools, mat]; fail_if_success (with_reducible show chk _ _)) | ((first | refine goC_k y35 ?_ | refine goOC_k y35 ?_); simp -implicitDefEqProofs (maxSteps := 1000000) (disch := (first | omega | (simp only [go_sem] <;> omega) | fail)) only [go_sem, ints, bools, mat]; fail_if_success (with_reducible show chk _ _)) | ((first | refine goC_k y36 ?_ | refine goOC_k y36 ?_); simp -implicitDefEqProofs (maxSteps := 1000000) (disch := (first | omega | (simp only [go_sem] <;> omega) | fail)) only [go_sem, ints, bools, mat]; fail_if_success (with_reducible show chk _ _)))) : P := h
theorem go_c0 {P Q : Prop} (k : Q) (h : Wr Q → P := by intro yq; repeat' (first | simp -implicitDefEqProofs (maxSteps := 1000000) (disch := (first | omega | (simp only [go_sem] <;> omega) | fail)) only [go_sem, ints, bools, mat] | ((first | apply goIf_b | apply goG_b | apply goTG_b | apply goOG_b) <;> intro h <;> ((try simp only [hnq] at h); (try simp only [h]); (try simp only [hnr] at h)) <;> (try (exfalso; omega))) | ((first | refine goC_k y1 ?_ | refine goOC_k y1 ?_); simp -implicitDefEqProofs (maxSteps := 1000000) (disch := (first | omega | (simp only [go_sem] <;> omega) | fail)) only [go_sem, ints, bools, mat]; fail_if_success (with_reducible show chk _ _)) | ((first | refine goC_k y2 ?_ | refine goOC_k y2 ?_); simp -implicitDefEqProofs (maxSteps := 1000000) (disch := (first | omega | (simp only [go_sem] <;> omega) | fail)) only [go_sem, ints, bools, mat]; fail_if_success (with_reducible show chk _ _)) | ((first | refine goC_k y3 ?_ | refine goOC_k y3 ?_); simp -implicitDefEqProofs (maxSteps := 1000000) (disch := (first | omega | (simp only [go_sem] <;> omega) | fail)) only [go_sem, ints, bools, mat]; fail_if_success (with_reducible show chk _ _)) | ((first | refine goC_k y4 ?_ | refine goOC_k y4 ?_); simp -implicitDefEqProofs (maxSteps := 1000000) (disch := (first | omega | (simp only [go_sem] <;> omega) | fail)) only [go_sem, ints, bools, mat]; fail_if_success (with_reducible show chk _ _)) | ((first | refine goC_k y5 ?_ | refine goOC_k y5 ?_); simp -implicitDefEqProofs (maxSteps := 1000000) (disch := (first | omega | (simp only [go_sem] <;> omega) | fail)) only [go_sem, ints, bools, mat]; fail_if_success (with_reducible show chk _ _)) | ((first | refine goC_k y6 ?_ | refine goOC_k y6 ?_); simp -implicitDefEqProofs (maxSteps := 1000000) (disch := (first | omega | (simp only [go_sem] <;> omega) | fail)) only [go_sem, ints, bools, mat]; fail_if_success (with_reducible show chk _ _)) | ((first | refine goC_k y7 ?_ | refine goOC_k y7 ?_); simp -implicitDefEqProofs (maxSteps := 1000000) (disch := (first | omega | (simp only [go_sem] <;> omega) | fail)) only [go_sem, ints, bools, mat]; fail_if_success (with_reducible show chk _ _)) | ((first | refine goC_k y8 ?_ | refine goOC_k y8 ?_); simp -implicitDefEqProofs (maxSteps := 1000000) (disch := (first | omega | (simp only [go_sem] <;> omega) | fail)) only [go_sem, ints, bools, mat]; fail_if_success (with_reducible show chk _ _)) | ((first | refine goC_k y9 ?_ | refine goOC_k y9 ?_); simp -implicitDefEqProofs (maxSteps := 1000000) (disch := (first | omega | (simp only [go_sem] <;> omega) | fail)) only [go_sem, ints, bools, mat]; fail_if_success (with_reducible show chk _ _)) | ((first | refine goC_k y10 ?_ | refine goOC_k y10 ?_); simp -implicitDefEqProofs (maxSteps := 1000000) (disch := (first | omega | (simp only [go_sem] <;> omega) | fail)) only [go_sem, ints, bools, mat]; fail_if_success (with_reducible show chk _ _)) | ((first | refine goC_k y11 ?_ | refine goOC_k y11 ?_); simp -implicitDefEqProofs (maxSteps := 1000000) (disch := (first | omega | (simp only [go_sem] <;> omega) | fail)) only [go_sem, ints, bools, mat]; fail_if_success (with_reducible show chk _ _)) | ((first | refine goC_k y12 ?_ | refine goOC_k y12 ?_); simp -implicitDefEqProofs (maxSteps := 1000000) (disch := (first | omega | (simp only [go_sem] <;> omega) | fail)) only [go_sem, ints, bools, mat]; fail_if_success (with_reducible show chk _ _)) | ((first | refine goC_k y13 ?_ | refine goOC_k y13 ?_); simp -implicitDefEqProofs (maxSteps := 1000000) (disch := (first | omega | (simp only [go_sem] <;> omega) | fail)) only [go_sem, ints, bools, mat]; fail_if_success (with_reducible show chk _ _)) | ((first | refine goC_k y14 ?_ | refine goOC_k y14 ?_); simp -implicitDefEqProofs (maxSteps := 1000000) (disch := (first | omega | (simp only [go_sem] <;> omega) | fail)) only [go_sem, ints, bools, mat]; fail_if_success (with_reducible show chk _ _)) | ((first | refine goC_k y15 ?_ | refine goOC_k y15 ?_); simp -implicitDefEqProofs (maxSteps := 1000000) (disch := (first | omega | (simp only [go_sem] <;> omega) | fail)) only [go_sem, ints, bools, mat]; fail_if_success (with_reducible show chk _ _)) | ((first | refine goC_k y16 ?_ | refine goOC_k y16 ?_); simp -implicitDefEqProofs (maxSteps := 1000000) (disch := (first | omega | (simp only [go_sem] <;> omega) | fail)) only [go_sem, ints, bools, mat]; fail_if_success (with_reducible show chk _ _)) | ((first | refine goC_k y17 ?_ | refine goOC_k y17 ?_); simp -implicitDefEqProofs (maxSteps := 1000000) (disch := (first | omega | (simp only [go_sem] <;> omega) | fail)) only [go_sem, ints, bools, mat]; fail_if_success (with_reducible show chk _ _)) | ((first | refine goC_k y18 ?_ | refine goOC_k y18 ?_); simp -implicitDefEqProofs (maxSteps := 1000000) (disch := (first | omega | (simp only [go_sem] <;> omega) | fail)) only [go_sem, ints, bools, mat]; fail_if_success (with_reducible show chk _ _)) | ((first | refine goC_k y19 ?_ | refine goOC_k y19 ?_); simp -implicitDefEqProofs (maxSteps := 1000000) (disch := (first | omega | (simp only [go_sem] <;> omega) | fail)) only [go_sem, ints, bools, mat]; fail_if_success (with_reducible show chk _ _)) | ((first | refine goC_k y20 ?_ | refine goOC_k y20 ?_); simp -implicitDefEqProofs (maxSteps := 1000000) (disch := (first | omega | (simp only [go_sem] <;> omega) | fail)) only [go_sem, ints, bools, mat]; fail_if_success (with_reducible show chk _ _)) | ((first | refine goC_k y21 ?_ | refine goOC_k y21 ?_); simp -implicitDefEqProofs (maxSteps := 1000000) (disch := (first | omega | (simp only [go_sem] <;> omega) | fail)) only [go_sem, ints, bools, mat]; fail_if_success (with_reducible show chk _ _)) | ((first | refine goC_k y22 ?_ | refine goOC_k y22 ?_); simp -implicitDefEqProofs (maxSteps := 1000000) (disch := (first | omega | (simp only [go_sem] <;> omega) | fail)) only [go_sem, ints, bools, mat]; fail_if_success (with_reducible show chk _ _)) | ((first | refine goC_k y23 ?_ | refine goOC_k y23 ?_); simp -implicitDefEqProofs (maxSteps := 1000000) (disch := (first | omega | (simp only [go_sem] <;> omega) | fail)) only [go_sem, ints, bools, mat]; fail_if_success (with_reducible show chk _ _)) | ((first | refine goC_k y24 ?_ | refine goOC_k y24 ?_); simp -implicitDefEqProofs (maxSteps := 1000000) (disch := (first | omega | (simp only [go_sem] <;> omega) | fail)) only [go_sem, ints, bools, mat]; fail_if_success (with_reducible show chk _ _)) | ((first | refine goC_k y25 ?_ | refine goOC_k y25 ?_); simp -implicitDefEqProofs (maxSteps := 1000000) (disch := (first | omega | (simp only [go_sem] <;> omega) | fail)) only [go_sem, ints, bools, mat]; fail_if_success (with_reducible show chk _ _)) | ((first | refine goC_k y26 ?_ | refine goOC_k y26 ?_); simp -implicitDefEqProofs (maxSteps := 1000000) (disch := (first | omega | (simp only [go_sem] <;> omega) | fail)) only [go_sem, ints, bools, mat]; fail_if_success (with_reducible show chk _ _)) | ((first | refine goC_k y27 ?_ | refine goOC_k y27 ?_); simp -implicitDefEqProofs (maxSteps := 1000000) (disch := (first | omega | (simp only [go_sem] <;> omega) | fail)) only [go_sem, ints, bools, mat]; fail_if_success (with_reducible show chk _ _)) | ((first | refine goC_k y28 ?_ | refine goOC_k y28 ?_); simp -implicitDefEqProofs (maxSteps := 1000000) (disch := (first | omega | (simp only [go_sem] <;> omega) | fail)) only [go_sem, ints, bools, mat]; fail_if_success (with_reducible show chk _ _)) | ((first | refine goC_k y29 ?_ | refine goOC_k y29 ?_); simp -implicitDefEqProofs (maxSteps := 1000000) (disch := (first | omega | (simp only [go_sem] <;> omega) | fail)) only [go_sem, ints, bools, mat]; fail_if_success (with_reducible show chk _ _)) | ((first | refine goC_k y30 ?_ | refine goOC_k y30 ?_); simp -implicitDefEqProofs (maxSteps := 1000000) (disch := (first | omega | (simp only [go_sem] <;> omega) | fail)) only [go_sem, ints, bools, mat]; fail_if_success (with_reducible show chk _ _)) | ((first | refine goC_k y31 ?_ | refine goOC_k y31 ?_); simp -implicitDefEqProofs (maxSteps := 1000000) (disch := (first | omega | (simp only [go_sem] <;> omega) | fail)) only [go_sem, ints, bools, mat]; fail_if_success (with_reducible show chk _ _)) | ((first | refine goC_k y32 ?_ | refine goOC_k y32 ?_); simp -implicitDefEqProofs (maxSteps := 1000000) (disch := (first | omega | (simp only [go_sem] <;> omega) | fail)) only [go_sem, ints, bools, mat]; fail_if_success (with_reducible show chk _ _)) | ((first | refine goC_k y33 ?_ | refine goOC_k y33 ?_); simp -implicitDefEqProofs (maxSteps := 1000000) (disch := (first | omega | (simp only [go_sem] <;> omega) | fail)) only [go_sem, ints, bools, mat]; fail_if_success (with_reducible show chk _ _)) | ((first | refine goC_k y34 ?_ | refine goOC_k y34 ?_); simp -implicitDefEqProofs (maxSteps := 1000000) (disch := (first | omega | (simp only [go_sem] <;> omega) | fail)) only [go_sem, ints, bools, mat]; fail_if_success (with_reducible show chk _ _)) | ((first | refine goC_k y35 ?_ | refine goOC_k y35 ?_); simp -implicitDefEqProofs (maxSteps := 1000000) (disch := (first | omega | (simp only [go_sem] <;> omega) | fail)) only [go_sem, ints, bools, mat]; fail_if_success (with_reducible show chk _ _)) | ((first | refine goC_k y36 ?_ | refine goOC_k y36 ?_); simp -implicitDefEqProofs (maxSteps := 1000000) (disch := (first | omega | (simp only [go_sem] <;> omega) | fail)) only [go_sem, ints, bools, mat]; fail_if_success (with_reducible show chk _ _)) | exact yq.q)) : P := h ⟨k⟩
theorem go_r0 {P : Prop} (h : P := by simp -implicitDefEqProofs (maxSteps := 1000000) (disch := (first | omega | (simp only [go_sem] <;> omega) | fail)) only [go_sem, ints, bools, mat] <;> rfl) : P := h
theorem go_a0 {P : Prop} (h : P := by simp -implicitDefEqProofs (maxSteps := 1000000) (disch := (first | omega | (simp only [go_sem] <;> omega) | fail)) only [go_sem, ints, bools, mat]) : P := h
theorem go_e1 {P : Prop} (h : P := by repeat' (first | simp -implicitDefEqProofs (maxSteps := 1000000) (disch := (first | omega | (simp only [go_sem] <;> omega) | fail)) only [go_sem, ints, bools, mat, z1] | ((first | apply goIf_b | apply goG_b | apply goTG_b | apply goOG_b) <;> intro h <;> ((try simp only [hnq] at h); (try simp only [h]); (try simp only [hnr] at h)) <;> (try (exfalso; omega))) | ((first | refine goC_k y1 ?_ | refine goOC_k y1 ?_); simp -implicitDefEqProofs (maxSteps := 1000000) (disch := (first | omega | (simp only [go_sem] <;> omega) | fail)) only [go_sem, ints, bools, mat, z1]; fail_if_success (with_reducible show chk _ _)) | ((first | refine goC_k y2 ?_ | refine goOC_k y2 ?_); simp -implicitDefEqProofs (maxSteps := 1000000) (disch := (first | omega | (simp only [go_sem] <;> omega) | fail)) only [go_sem, ints, bools, mat, z1]; fail_if_success (with_reducible show chk _ _)) | ((first | refine goC_k y3 ?_ | refine goOC_k y3 ?_); simp -implicitDefEqProofs (maxSteps := 1000000) (disch := (first | omega | (simp only [go_sem] <;> omega) | fail)) only [go_sem, ints, bools, mat, z1]; fail_if_success (with_reducible show chk _ _)) | ((first | refine goC_k y4 ?_ | refine goOC_k y4 ?_); simp -implicitDefEqProofs (maxSteps := 1000000) (disch := (first | omega | (simp only [go_sem] <;> omega) | fail)) only [go_sem, ints, bools, mat, z1]; fail_if_success (with_reducible show chk _ _)) | ((first | refine goC_k y5 ?_ | refine goOC_k y5 ?_); simp -implicitDefEqProofs (maxSteps := 1000000) (disch := (first | omega | (simp only [go_sem] <;> omega) | fail)) only [go_sem, ints, bools, mat, z1]; fail_if_success (with_reducible show chk _ _)) | ((first | refine goC_k y6 ?_ | refine goOC_k y6 ?_); simp -implicitDefEqProofs (maxSteps := 1000000) (disch := (first | omega | (simp only [go_sem] <;> omega) | fail)) only [go_sem, ints, bools, mat, z1]; fail_if_success (with_reducible show chk _ _)) | ((first | refine goC_k y7 ?_ | refine goOC_k y7 ?_); simp -implicitDefEqProofs (maxSteps := 1000000) (disch := (first | omega | (simp only [go_sem] <;> omega) | fail)) only [go_sem, ints, bools, mat, z1]; fail_if_success (with_reducible show chk _ _)) | ((first | refine goC_k y8 ?_ | refine goOC_k y8 ?_); simp -implicitDefEqProofs (maxSteps := 1000000) (disch := (first | omega | (simp only [go_sem] <;> omega) | fail)) only [go_sem, ints, bools, mat, z1]; fail_if_success (with_reducible show chk _ _)) | ((first | refine goC_k y9 ?_ | refine goOC_k y9 ?_); simp -implicitDefEqProofs (maxSteps := 1000000) (disch := (first | omega | (simp only [go_sem] <;> omega) | fail)) only [go_sem, ints, bools, mat, z1]; fail_if_success (with_reducible show chk _ _)) | ((first | refine goC_k y10 ?_ | refine goOC_k y10 ?_); simp -implicitDefEqProofs (maxSteps := 1000000) (disch := (first | omega | (simp only [go_sem] <;> omega) | fail)) only [go_sem, ints, bools, mat, z1]; fail_if_success (with_reducible show chk _ _)))) : P := h
theorem go_c1 {P Q : Prop} (k : Q) (h : Wr Q → P := by intro yq; repeat' (first | simp -implicitDefEqProofs (maxSteps := 1000000) (disch := (first | omega | (simp only [go_sem] <;> omega) | fail)) only [go_sem, ints, bools, mat, z1] | ((first | apply goIf_b | apply goG_b | apply goTG_b | apply goOG_b) <;> intro h <;> ((try simp only [hnq] at h); (try simp only [h]); (try simp only [hnr] at h)) <;> (try (exfalso; omega))) | ((first | refine goC_k y1 ?_ | refine goOC_k y1 ?_); simp -implicitDefEqProofs (maxSteps := 1000000) (disch := (first | omega | (simp only [go_sem] <;> omega) | fail)) only [go_sem, ints, bools, mat, z1]; fail_if_success (with_reducible show chk _ _)) | ((first | refine goC_k y2 ?_ | refine goOC_k y2 ?_); simp -implicitDefEqProofs (maxSteps := 1000000) (disch := (first | omega | (simp only [go_sem] <;> omega) | fail)) only [go_sem, ints, bools, mat, z1]; fail_if_success (with_reducible show chk _ _)) | ((first | refine goC_k y3 ?_ | refine goOC_k y3 ?_); simp -implicitDefEqProofs (maxSteps := 1000000) (disch := (first | omega | (simp only [go_sem] <;> omega) | fail)) only [go_sem, ints, bools, mat, z1]; fail_if_success (with_reducible show chk _ _)) | ((first | refine goC_k y4 ?_ | refine goOC_k y4 ?_); simp -implicitDefEqProofs (maxSteps := 1000000) (disch := (first | omega | (simp only [go_sem] <;> omega) | fail)) only [go_sem, ints, bools, mat, z1]; fail_if_success (with_reducible show chk _ _)) | ((first | refine goC_k y5 ?_ | refine goOC_k y5 ?_); simp -implicitDefEqProofs (maxSteps := 1000000) (disch := (first | omega | (simp only [go_sem] <;> omega) | fail)) only [go_sem, ints, bools, mat, z1]; fail_if_success (with_reducible show chk _ _)) | ((first | refine goC_k y6 ?_ | refine goOC_k y6 ?_); simp -implicitDefEqProofs (maxSteps := 1000000) (disch := (first | omega | (simp only [go_sem] <;> omega) | fail)) only [go_sem, ints, bools, mat, z1]; fail_if_success (with_reducible show chk _ _)) | ((first | refine goC_k y7 ?_ | refine goOC_k y7 ?_); simp -implicitDefEqProofs (maxSteps := 1000000) (disch := (first | omega | (simp only [go_sem] <;> omega) | fail)) only [go_sem, ints, bools, mat, z1]; fail_if_success (with_reducible show chk _ _)) | ((first | refine goC_k y8 ?_ | refine goOC_k y8 ?_); simp -implicitDefEqProofs (maxSteps := 1000000) (disch := (first | omega | (simp only [go_sem] <;> omega) | fail)) only [go_sem, ints, bools, mat, z1]; fail_if_success (with_reducible show chk _ _)) | ((first | refine goC_k y9 ?_ | refine goOC_k y9 ?_); simp -implicitDefEqProofs (maxSteps := 1000000) (disch := (first | omega | (simp only [go_sem] <;> omega) | fail)) only [go_sem, ints, bools, mat, z1]; fail_if_success (with_reducible show chk _ _)) | ((first | refine goC_k y10 ?_ | refine goOC_k y10 ?_); simp -implicitDefEqProofs (maxSteps := 1000000) (disch := (first | omega | (simp only [go_sem] <;> omega) | fail)) only [go_sem, ints, bools, mat, z1]; fail_if_success (with_reducible show chk _ _)) | exact yq.q)) : P := h ⟨k⟩
theorem go_r1 {P : Prop} (h : P := by simp -implicitDefEqProofs (maxSteps := 1000000) (disch := (first | omega | (simp only [go_sem] <;> omega) | fail)) only [go_sem, ints, bools, mat, z1] <;> rfl) : P := h
theorem go_a1 {P : Prop} (h : P := by simp -implicitDefEqProofs (maxSteps := 1000000) (disch := (first | omega | (simp only [go_sem] <;> omega) | fail)) only [go_sem, ints, bools, mat, z1]) : P := h
theorem go_e2 {P : Prop} (h : P := by repeat' (first | simp -implicitDefEqProofs (maxSteps := 1000000) (disch := (first | omega | (simp only [go_sem] <;> omega) | fail)) only [go_sem, ints, bools, mat, z1, z2] | ((first | apply goIf_b | apply goG_b | apply goTG_b | apply goOG_b) <;> intro h <;> ((try simp only [hnq] at h); (try simp only [h]); (try simp only [hnr] at h)) <;> (try (exfalso; omega))) | ((first | refine goC_k y1 ?_ | refine goOC_k y1 ?_); simp -implicitDefEqProofs (maxSteps := 1000000) (disch := (first | omega | (simp only [go_sem] <;> omega) | fail)) only [go_sem, ints, bools, mat, z1, z2]; fail_if_success (with_reducible show chk _ _)) | ((first | refine goC_k y2 ?_ | refine goOC_k y2 ?_); simp -implicitDefEqProofs (maxSteps := 1000000) (disch := (first | omega | (simp only [go_sem] <;> omega) | fail)) only [go_sem, ints, bools, mat, z1, z2]; fail_if_success (with_reducible show chk _ _)) | ((first | refine goC_k y3 ?_ | refine goOC_k y3 ?_); simp -implicitDefEqProofs (maxSteps := 1000000) (disch := (first | omega | (simp only [go_sem] <;> omega) | fail)) only [go_sem, ints, bools, mat, z1, z2]; fail_if_success (with_reducible show chk _ _)) | ((first | refine goC_k y4 ?_ | refine goOC_k y4 ?_); simp -implicitDefEqProofs (maxSteps := 1000000) (disch := (first | omega | (simp only [go_sem] <;> omega) | fail)) only [go_sem, ints, bools, mat, z1, z2]; fail_if_success (with_reducible show chk _ _)) | ((first | refine goC_k y5 ?_ | refine goOC_k y5 ?_); simp -implicitDefEqProofs (maxSteps := 1000000) (disch := (first | omega | (simp only [go_sem] <;> omega) | fail)) only [go_sem, ints, bools, mat, z1, z2]; fail_if_success (with_reducible show chk _ _)) | ((first | refine goC_k y6 ?_ | refine goOC_k y6 ?_); simp -implicitDefEqProofs (maxSteps := 1000000) (disch := (first | omega | (simp only [go_sem] <;> omega) | fail)) only [go_sem, ints, bools, mat, z1, z2]; fail_if_success (with_reducible show chk _ _)) | ((first | refine goC_k y7 ?_ | refine goOC_k y7 ?_); simp -implicitDefEqProofs (maxSteps := 1000000) (disch := (first | omega | (simp only [go_sem] <;> omega) | fail)) only [go_sem, ints, bools, mat, z1, z2]; fail_if_success (with_reducible show chk _ _)) | ((first | refine goC_k y8 ?_ | refine goOC_k y8 ?_); simp -implicitDefEqProofs (maxSteps := 1000000) (disch := (first | omega | (simp only [go_sem] <;> omega) | fail)) only [go_sem, ints, bools, mat, z1, z2]; fail_if_success (with_reducible show chk _ _)) | ((first | refine goC_k y9 ?_ | refine goOC_k y9 ?_); simp -implicitDefEqProofs (maxSteps := 1000000) (disch := (first | omega | (simp only [go_sem] <;> omega) | fail)) only [go_sem, ints, bools, mat, z1, z2]; fail_if_success (with_reducible show chk _ _)) | ((first | refine goC_k y10 ?_ | refine goOC_k y10 ?_); simp -implicitDefEqProofs (maxSteps := 1000000) (disch := (first | omega | (simp only [go_sem] <;> omega) | fail)) only [go_sem, ints, bools, mat, z1, z2]; fail_if_success (with_reducible show chk _ _)))) : P := h
theorem go_c2 {P Q : Prop} (k : Q) (h : Wr Q → P := by intro yq; repeat' (first | simp -implicitDefEqProofs (maxSteps := 1000000) (disch := (first | omega | (simp only [go_sem] <;> omega) | fail)) only [go_sem, ints, bools, mat, z1, z2] | ((first | apply goIf_b | apply goG_b | apply goTG_b | apply goOG_b) <;> intro h <;> ((try simp only [hnq] at h); (try simp only [h]); (try simp only [hnr] at h)) <;> (try (exfalso; omega))) | ((first | refine goC_k y1 ?_ | refine goOC_k y1 ?_); simp -implicitDefEqProofs (maxSteps := 1000000) (disch := (first | omega | (simp only [go_sem] <;> omega) | fail)) only [go_sem, ints, bools, mat, z1, z2]; fail_if_success (with_reducible show chk _ _)) | ((first | refine goC_k y2 ?_ | refine goOC_k y2 ?_); simp -implicitDefEqProofs (maxSteps := 1000000) (disch := (first | omega | (simp only [go_sem] <;> omega) | fail)) only [go_sem, ints, bools, mat, z1, z2]; fail_if_success (with_reducible show chk _ _)) | ((first | refine goC_k y3 ?_ | refine goOC_k y3 ?_); simp -implicitDefEqProofs (maxSteps := 1000000) (disch := (first | omega | (simp only [go_sem] <;> omega) | fail)) only [go_sem, ints, bools, mat, z1, z2]; fail_if_success (with_reducible show chk _ _)) | ((first | refine goC_k y4 ?_ | refine goOC_k y4 ?_); simp -implicitDefEqProofs (maxSteps := 1000000) (disch := (first | omega | (simp only [go_sem] <;> omega) | fail)) only [go_sem, ints, bools, mat, z1, z2]; fail_if_success (with_reducible show chk _ _)) | ((first | refine goC_k y5 ?_ | refine goOC_k y5 ?_); simp -implicitDefEqProofs (maxSteps := 1000000) (disch := (first | omega | (simp only [go_sem] <;> omega) | fail)) only [go_sem, ints, bools, mat, z1, z2]; fail_if_success (with_reducible show chk _ _)) | ((first | refine goC_k y6 ?_ | refine goOC_k y6 ?_); simp -implicitDefEqProofs (maxSteps := 1000000) (disch := (first | omega | (simp only [go_sem] <;> omega) | fail)) only [go_sem, ints, bools, mat, z1, z2]; fail_if_success (with_reducible show chk _ _)) | ((first | refine goC_k y7 ?_ | refine goOC_k y7 ?_); simp -implicitDefEqProofs (maxSteps := 1000000) (disch := (first | omega | (simp only [go_sem] <;> omega) | fail)) only [go_sem, ints, bools, mat, z1, z2]; fail_if_success (with_reducible show chk _ _)) | ((first | refine goC_k y8 ?_ | refine goOC_k y8 ?_); simp -implicitDefEqProofs (maxSteps := 1000000) (disch := (first | omega | (simp only [go_sem] <;> omega) | fail)) only [go_sem, ints, bools, mat, z1, z2]; fail_if_success (with_reducible show chk _ _)) | ((first | refine goC_k y9 ?_ | refine goOC_k y9 ?_); simp -implicitDefEqProofs (maxSteps := 1000000) (disch := (first | omega | (simp only [go_sem] <;> omega) | fail)) only [go_sem, ints, bools, mat, z1, z2]; fail_if_success (with_reducible show chk _ _)) | ((first | refine goC_k y10 ?_ | refine goOC_k y10 ?_); simp -implicitDefEqProofs (maxSteps := 1000000) (disch := (first | omega | (simp only [go_sem] <;> omega) | fail)) only [go_sem, ints, bools, mat, z1, z2]; fail_if_success (with_reducible show chk _ _)) | exact yq.q)) : P := h ⟨k⟩
theorem go_r2 {P : Prop} (h : P := by simp -implicitDefEqProofs (maxSteps := 1000000) (disch := (first | omega | (simp only [go_sem] <;> omega) | fail)) only [go_sem, ints, bools, mat, z1, z2] <;> rfl) : P := h
theorem go_a2 {P : Prop} (h : P := by simp -implicitDefEqProofs (maxSteps := 1000000) (disch := (first | omega | (simp only [go_sem] <;> omega) | fail)) only [go_sem, ints, bools, mat, z1, z2]) : P := h
theorem go_e3 {P : Prop} (h : P := by repeat' (first | simp -implicitDefEqProofs (maxSteps := 1000000) (disch := (first | omega | (simp only [go_sem] <;> omega) | fail)) only [go_sem, ints, bools, mat, z1, z2, z3] | ((first | apply goIf_b | apply goG_b | apply goTG_b | apply goOG_b) <;> intro h <;> ((try simp only [hnq] at h); (try simp only [h]); (try simp only [hnr] at h)) <;> (try (exfalso; omega))) | ((first | refine goC_k y1 ?_ | refine goOC_k y1 ?_); simp -implicitDefEqProofs (maxSteps := 1000000) (disch := (first | omega | (simp only [go_sem] <;> omega) | fail)) only [go_sem, ints, bools, mat, z1, z2, z3]; fail_if_success (with_reducible show chk _ _)) | ((first | refine goC_k y2 ?_ | refine goOC_k y2 ?_); simp -implicitDefEqProofs (maxSteps := 1000000) (disch := (first | omega | (simp only [go_sem] <;> omega) | fail)) only [go_sem, ints, bools, mat, z1, z2, z3]; fail_if_success (with_reducible show chk _ _)) | ((first | refine goC_k y3 ?_ | refine goOC_k y3 ?_); simp -implicitDefEqProofs (maxSteps := 1000000) (disch := (first | omega | (simp only [go_sem] <;> omega) | fail)) only [go_sem, ints, bools, mat, z1, z2, z3]; fail_if_success (with_reducible show chk _ _)) | ((first | refine goC_k y4 ?_ | refine goOC_k y4 ?_); simp -implicitDefEqProofs (maxSteps := 1000000) (disch := (first | omega | (simp only [go_sem] <;> omega) | fail)) only [go_sem, ints, bools, mat, z1, z2, z3]; fail_if_success (with_reducible show chk _ _)) | ((first | refine goC_k y5 ?_ | refine goOC_k y5 ?_); simp -implicitDefEqProofs (maxSteps := 1000000) (disch := (first | omega | (simp only [go_sem] <;> omega) | fail)) only [go_sem, ints, bools, mat, z1, z2, z3]; fail_if_success (with_reducible show chk _ _)) | ((first | refine goC_k y6 ?_ | refine goOC_k y6 ?_); simp -implicitDefEqProofs (maxSteps := 1000000) (disch := (first | omega | (simp only [go_sem] <;> omega) | fail)) only [go_sem, ints, bools, mat, z1, z2, z3]; fail_if_success (with_reducible show chk _ _)) | ((first | refine goC_k y7 ?_ | refine goOC_k y7 ?_); simp -implicitDefEqProofs (maxSteps := 1000000) (disch := (first | omega | (simp only [go_sem] <;> omega) | fail)) only [go_sem, ints, bools, mat, z1, z2, z3]; fail_if_success (with_reducible show chk _ _)) | ((first | refine goC_k y8 ?_ | refine goOC_k y8 ?_); simp -implicitDefEqProofs (maxSteps := 1000000) (disch := (first | omega | (simp only [go_sem] <;> omega) | fail)) only [go_sem, ints, bools, mat, z1, z2, z3]; fail_if_success (with_reducible show chk _ _)) | ((first | refine goC_k y9 ?_ | refine goOC_k y9 ?_); simp -implicitDefEqProofs (maxSteps := 1000000) (disch := (first | omega | (simp only [go_sem] <;> omega) | fail)) only [go_sem, ints, bools, mat, z1, z2, z3]; fail_if_success (with_reducible show chk _ _)) | ((first | refine goC_k y10 ?_ | refine goOC_k y10 ?_); simp -implicitDefEqProofs (maxSteps := 1000000) (disch := (first | omega | (simp only [go_sem] <;> omega) | fail)) only [go_sem, ints, bools, mat, z1, z2, z3]; fail_if_success (with_reducible show chk _ _)))) : P := h
theorem go_c3 {P Q : Prop} (k : Q) (h : Wr Q → P := by intro yq; repeat' (first | simp -implicitDefEqProofs (maxSteps := 1000000) (disch := (first | omega | (simp only [go_sem] <;> omega) | fail)) only [go_sem, ints, bools, mat, z1, z2, z3] | ((first | apply goIf_b | apply goG_b | apply goTG_b | apply goOG_b) <;> intro h <;> ((try simp only [hnq] at h); (try simp only [h]); (try simp only [hnr] at h)) <;> (try (exfalso; omega))) | ((first | refine goC_k y1 ?_ | refine goOC_k y1 ?_); simp -implicitDefEqProofs (maxSteps := 1000000) (disch := (first | omega | (simp only [go_sem] <;> omega) | fail)) only [go_sem, ints, bools, mat, z1, z2, z3]; fail_if_success (with_reducible show chk _ _)) | ((first | refine goC_k y2 ?_ | refine goOC_k y2 ?_); simp -implicitDefEqProofs (maxSteps := 1000000) (disch := (first | omega | (simp only [go_sem] <;> omega) | fail)) only [go_sem, ints, bools, mat, z1, z2, z3]; fail_if_success (with_reducible show chk _ _)) | ((first | refine goC_k y3 ?_ | refine goOC_k y3 ?_); simp -implicitDefEqProofs (maxSteps := 1000000) (disch := (first | omega | (simp only [go_sem] <;> omega) | fail)) only [go_sem, ints, bools, mat, z1, z2, z3]; fail_if_success (with_reducible show chk _ _)) | ((first | refine goC_k y4 ?_ | refine goOC_k y4 ?_); simp -implicitDefEqProofs (maxSteps := 1000000) (disch := (first | omega | (simp only [go_sem] <;> omega) | fail)) only [go_sem, ints, bools, mat, z1, z2, z3]; fail_if_success (with_reducible show chk _ _)) | ((first | refine goC_k y5 ?_ | refine goOC_k y5 ?_); simp -implicitDefEqProofs (maxSteps := 1000000) (disch := (first | omega | (simp only [go_sem] <;> omega) | fail)) only [go_sem, ints, bools, mat, z1, z2, z3]; fail_if_success (with_reducible show chk _ _)) | ((first | refine goC_k y6 ?_ | refine goOC_k y6 ?_); simp -implicitDefEqProofs (maxSteps := 1000000) (disch := (first | omega | (simp only [go_sem] <;> omega) | fail)) only [go_sem, ints, bools, mat, z1, z2, z3]; fail_if_success (with_reducible show chk _ _)) | ((first | refine goC_k y7 ?_ | refine goOC_k y7 ?_); simp -implicitDefEqProofs (maxSteps := 1000000) (disch := (first | omega | (simp only [go_sem] <;> omega) | fail)) only [go_sem, ints, bools, mat, z1, z2, z3]; fail_if_success (with_reducible show chk _ _)) | ((first | refine goC_k y8 ?_ | refine goOC_k y8 ?_); simp -implicitDefEqProofs (maxSteps := 1000000) (disch := (first | omega | (simp only [go_sem] <;> omega) | fail)) only [go_sem, ints, bools, mat, z1, z2, z3]; fail_if_success (with_reducible show chk _ _)) | ((first | refine goC_k y9 ?_ | refine goOC_k y9 ?_); simp -implicitDefEqProofs (maxSteps := 1000000) (disch := (first | omega | (simp only [go_sem] <;> omega) | fail)) only [go_sem, ints, bools, mat, z1, z2, z3]; fail_if_success (with_reducible show chk _ _)) | ((first | refine goC_k y10 ?_ | refine goOC_k y10 ?_); simp -implicitDefEqProofs (maxSteps := 1000000) (disch := (first | omega | (simp only [go_sem] <;> omega) | fail)) only [go_sem, ints, bools, mat, z1, z2, z3]; fail_if_success (with_reducible show chk _ _)) | exact yq.q)) : P := h ⟨k⟩
theorem go_r3 {P : Prop} (h : P := by simp -implicitDefEqProofs (maxSteps := 1000000) (disch := (first | omega | (simp only [go_sem] <;> omega) | fail)) only [go_sem, ints, bools, mat, z1, z2, z3] <;> rfl) : P := h
theorem go_a3 {P : Prop} (h : P := by simp -implicitDefEqProofs (maxSteps := 1000000) (disch := (first | omega | (simp only [go_sem] <;> omega) | fail)) only [go_sem, ints, bools, mat, z1, z2, z3]) : P := h
theorem d_spec_l01In (a lo hi : Int) : Den PA f_spec_l01In [.d (di a), .d (di lo), .d (di hi)] [.any, .any, .any] (.d (db (decide (lo ≤ a) && decide (a ≤ hi)))) := by
  refine den_go [] l_spec_l01In ?_
  exact go_e0
def prodM (l : List Int) : Int := l.foldl (· * ·) 1
theorem take_one (l : List Int) {j : Nat} (h : j < l.length) : l.take (j + 1) = l.take j ++ [l.getD j 0] := by
  rw [List.take_add_one]; simp [h]
theorem prodM_step (l : List Int) {j : Nat} (h : j < l.length) : prodM (l.take (j + 1)) = prodM (l.take j) * l.getD j 0 := by
  rw [take_one l h]; simp [prodM]
theorem prodM_bnd (l : List Int) : ∀ j, j ≤ l.length → (∀ i, i < j → 2 ≤ l.getD i 0 ∧ l.getD i 0 ≤ 4) → 1 ≤ prodM (l.take j) ∧ prodM (l.take j) ≤ 4 ^ j
  | 0, _, _ => by simp [prodM]
  | j + 1, hj, h => by
    obtain ⟨h1, h2⟩ := prodM_bnd l j (by omega) (fun i hi => h i (by omega))
    obtain ⟨h3, h4⟩ := h j (by omega)
    rw [prodM_step l (by omega)]
    constructor
    · have := Int.mul_le_mul h1 (show (1 : Int) ≤ l.getD j 0 by omega) (by omega) (by omega)
      simpa using this
    · rw [Int.pow_succ]
      exact Int.mul_le_mul h2 h4 (by omega) (by omega)
theorem pow4 {j : Nat} (h : j ≤ 8) : (4 : Int) ^ j ≤ 65536 := by
  exact (by decide : ∀ j : Fin 9, (4 : Int) ^ (j : Nat) ≤ 65536) ⟨j, by omega⟩
theorem prodM_small (l : List Int) {j : Nat} (h8 : j ≤ 8) (hj : j ≤ l.length) (h : ∀ i, i < j → 2 ≤ l.getD i 0 ∧ l.getD i 0 ≤ 4) : 1 ≤ prodM (l.take j) ∧ prodM (l.take j) ≤ 65536 := by
  obtain ⟨h1, h2⟩ := prodM_bnd l j hj h
  exact ⟨h1, Int.le_trans h2 (pow4 h8)⟩
def isSpaceM (l : List Int) : Bool := decide (1 ≤ l.length) && decide (l.length ≤ 8) && l.all (fun n => decide (2 ≤ n) && decide (n ≤ 4)) && decide (prodM l ≤ 1024)
theorem isSpaceM_ok (l : List Int) : isSpaceM l = true ↔ (1 ≤ l.length ∧ l.length ≤ 8) ∧ (∀ j, j < l.length → 2 ≤ l.getD j 0 ∧ l.getD j 0 ≤ 4) ∧ prodM l ≤ 1024 := by
  simp only [isSpaceM, Bool.and_eq_true, decide_eq_true_eq, all_getD, and_assoc]
theorem d_spec_l01N (l : List Int) (h8 : l.length ≤ 8) (h : ∀ i, i < l.length → 2 ≤ l.getD i 0 ∧ l.getD i 0 ≤ 4) :
    Den PA f_spec_l01N [.d (.agg [ints l])] [.any] (.d (di (prodM l))) := by
  refine den_go [] l_spec_l01N ?_
  simp -implicitDefEqProofs (maxSteps := 1000000) (disch := (first | omega | (simp only [go_sem] <;> omega) | fail)) only [go_sem, ints, bools, mat, c_spec_l01N]
  refine go_loop (fun (j : Nat) => ⟨[(1, .ref 0 0), (3, .d (di (prodM (l.take j)))), (4, .d (di j))], [some (.var [ints l])]⟩) (fun j => j ≤ l.length) (fun j => l.length - j) 0 ?_ ?_ ?_
  · simp -implicitDefEqProofs (maxSteps := 1000000) (disch := (first | omega | (simp only [go_sem] <;> omega) | fail)) only [go_sem, ints, bools, mat]; rfl
  · simp
  · rintro j hj J hJ
    have hb := prodM_small l (j := j) (by omega) hj (fun i hi => h i (by omega))
    have hb' := fun hj' => prodM_small l (j := j + 1) (by omega) hj' (fun i hi => h i (by omega))
    have hs := fun hj' => prodM_step l (j := j) hj'
    repeat' (first | simp -implicitDefEqProofs (maxSteps := 1000000) (disch := (first | omega | (simp only [go_sem] <;> omega) | fail)) only [go_sem, ints, bools, mat] | ((first | apply goIf_b | apply goG_b | apply goTG_b | apply goOG_b) <;> intro h <;> ((try simp only [hnq] at h); (try simp only [h]); (try simp only [hnr] at h))))
    · rename_i hlt
      have hlt : j < l.length := by omega
      have h1 := hb' (by omega)
      rw [hs hlt] at h1
      refine hJ (j + 1) (by omega) (by omega) _ ?_
      simp -implicitDefEqProofs (maxSteps := 1000000) (disch := (first | omega | (simp only [go_sem] <;> omega) | fail)) only [go_sem, ints, bools, mat]
      rw [hs hlt]; rfl
theorem d_spec_l01Is (l : List Int) (hl : l.length < 1048577) :
    Den PA f_spec_l01Is [.d (.agg [ints l])] [.any] (.d (db (isSpaceM l))) := by
  have e := isSpaceM_ok l
  refine den_go [] l_spec_l01Is ?_
  simp -implicitDefEqProofs (maxSteps := 1000000) (disch := (first | omega | (simp only [go_sem] <;> omega) | fail)) only [go_sem, ints, bools, mat, c_spec_l01Is]
  have yc := d_spec_l01In l.length 1 8; first | refine goC_call [.r, .r, .r] yc ?_ | refine goOC_call [.r, .r, .r] yc ?_
  repeat' (first | simp -implicitDefEqProofs (maxSteps := 1000000) (disch := (first | omega | (simp only [go_sem] <;> omega) | fail)) only [go_sem, ints, bools, mat] | ((first | apply goIf_b | apply goG_b | apply goTG_b | apply goOG_b) <;> intro h <;> ((try simp only [hnq] at h); (try simp only [h]); (try simp only [hnr] at h))))
  rotate_left
  · exact dbF fun h' => by have := (e.1 h').1; omega
  refine go_loop (fun (j : Nat) => ⟨[(1, .ref 0 0), (3, .d (di j))], [some (.var [ints l])]⟩) (fun j => j ≤ l.length ∧ ∀ i, i < j → 2 ≤ l.getD i 0 ∧ l.getD i 0 ≤ 4) (fun j => l.length - j) 0 ?_ ?_ ?_
  · simp -implicitDefEqProofs (maxSteps := 1000000) (disch := (first | omega | (simp only [go_sem] <;> omega) | fail)) only [go_sem, ints, bools, mat]; rfl
  · simp
  · rintro j ⟨hj, hi⟩ J hJ
    repeat' (first | simp -implicitDefEqProofs (maxSteps := 1000000) (disch := (first | omega | (simp only [go_sem] <;> omega) | fail)) only [go_sem, ints, bools, mat] | ((first | apply goIf_b | apply goG_b | apply goTG_b | apply goOG_b) <;> intro h <;> ((try simp only [hnq] at h); (try simp only [h]); (try simp only [hnr] at h))))
    · have yc := d_spec_l01In (l.getD j 0) 2 4; first | refine goC_call [.r, .r, .r] yc ?_ | refine goOC_call [.r, .r, .r] yc ?_
      repeat' (first | simp -implicitDefEqProofs (maxSteps := 1000000) (disch := (first | omega | (simp only [go_sem] <;> omega) | fail)) only [go_sem, ints, bools, mat] | ((first | apply goIf_b | apply goG_b | apply goTG_b | apply goOG_b) <;> intro h <;> ((try simp only [hnq] at h); (try simp only [h]); (try simp only [hnr] at h))))
      · refine hJ (j + 1) ⟨by omega, fun i hi' => ?_⟩ (by omega) _ (by simp -implicitDefEqProofs (maxSteps := 1000000) (disch := (first | omega | (simp only [go_sem] <;> omega) | fail)) only [go_sem, ints, bools, mat]; rfl)
        rcases Nat.lt_or_ge i j with h' | h'
        · exact hi i h'
        · have : i = j := by omega
          subst this; assumption
      · exact dbF fun h' => by have := (e.1 h').2.1 j (by omega); omega
    · have hj' : j = l.length := by omega
      subst hj'
      have y1 := kc [.r] (d_spec_l01N l (by omega) hi); refine go_c0 ?_
      refine dbv ?_
      cases hm : isSpaceM l with
      | true => exact decide_eq_true (e.1 hm).2.2
      | false =>
        refine decide_eq_false fun hp => ?_
        have := e.2 ⟨by omega, hi, hp⟩
        rw [hm] at this; cases this
theorem d_impl_IsSpace (l : List Int) (hl : l.length < 1048577) :
    Den PA f_impl_IsSpace [.d (.agg [ints l])] [.any] (.d (db (isSpaceM l))) := by
  have e := isSpaceM_ok l
  refine den_go [] l_impl_IsSpace ?_
  repeat' (first | simp -implicitDefEqProofs (maxSteps := 1000000) (disch := (first | omega | (simp only [go_sem] <;> omega) | fail)) only [go_sem, ints, bools, mat, c_impl_IsSpace] | ((first | apply goIf_b | apply goG_b | apply goTG_b | apply goOG_b) <;> intro h <;> ((try simp only [hnq] at h); (try simp only [h]); (try simp only [hnr] at h))))
  · exact dbF fun h' => by have := (e.1 h').1; omega
  · refine go_loop (fun (j : Nat) => ⟨[(3, .d (di (prodM (l.take j)))), (17, .d (ints l)), (18, .d (di l.length)), (19, .d (di j))], []⟩) (fun j => j ≤ l.length ∧ ∀ i, i < j → 2 ≤ l.getD i 0 ∧ l.getD i 0 ≤ 4) (fun j => l.length - j) 0 ?_ ?_ ?_
    · simp -implicitDefEqProofs (maxSteps := 1000000) (disch := (first | omega | (simp only [go_sem] <;> omega) | fail)) only [go_sem, ints, bools, mat]; rfl
    · simp
    · rintro j ⟨hj, hi⟩ J hJ
      have hb := prodM_small l (j := j) (by omega) hj hi
      repeat' (first | simp -implicitDefEqProofs (maxSteps := 1000000) (disch := (first | omega | (simp only [go_sem] <;> omega) | fail)) only [go_sem, ints, bools, mat] | ((first | apply goIf_b | apply goG_b | apply goTG_b | apply goOG_b) <;> intro h <;> ((try simp only [hnq] at h); (try simp only [h]); (try simp only [hnr] at h))))
      · exact dbF fun h' => by have := (e.1 h').2.1 j (by omega); omega
      · have hi' : ∀ i, i < j + 1 → 2 ≤ l.getD i 0 ∧ l.getD i 0 ≤ 4 := fun i hi' => by
          rcases Nat.lt_or_ge i j with h' | h'
          · exact hi i h'
          · have : i = j := by omega
            subst this; exact ⟨by assumption, by assumption⟩
        have hb' := prodM_small l (j := j + 1) (by omega) (by omega) hi'
        have hs := prodM_step l (j := j) (by omega)
        rw [hs] at hb'
        refine hJ (j + 1) ⟨by omega, hi'⟩ (by omega) _ ?_
        simp -implicitDefEqProofs (maxSteps := 1000000) (disch := (first | omega | (simp only [go_sem] <;> omega) | fail)) only [go_sem, ints, bools, mat]
        rw [hs]; rfl
      · exact dbF fun h' => by have := (e.1 h').2.1 j (by omega); omega
      · have hj' : j = l.length := by omega
        subst hj'
        refine dbv ?_
        cases hm : isSpaceM l with
        | true => exact decide_eq_true (e.1 hm).2.2
        | false =>
          refine decide_eq_false fun hp => ?_
          have := e.2 ⟨by omega, hi, hp⟩
          rw [hm] at this; cases this
  · exact dbF fun h' => by have := (e.1 h').1; omega
def plainM (l : List Int) : Bool := l.all fun n => n == l.getD 0 0 && decide (n ≤ 3)
theorem plainM_ok (l : List Int) : plainM l = true ↔ ∀ j, j < l.length → l.getD j 0 = l.getD 0 0 ∧ l.getD j 0 ≤ 3 := by
  simp only [plainM, all_getD, Bool.and_eq_true, beq_iff_eq, decide_eq_true_eq]
theorem d_spec_l05Plain (l : List Int) (hl : l.length < 1048577) : Den PA f_spec_l05Plain [.d (.agg [ints l])] [.any] (.d (db (plainM l))) := by
  have e := plainM_ok l
  refine den_go [] l_spec_l05Plain ?_
  simp -implicitDefEqProofs (maxSteps := 1000000) (disch := (first | omega | (simp only [go_sem] <;> omega) | fail)) only [go_sem, ints, bools, mat, c_spec_l05Plain]
  refine go_loop (fun (j : Nat) => ⟨[(1, .ref 0 0), (6, .d (di l.length)), (7, .d (di j))], [some (.var [ints l])]⟩) (fun j => j ≤ l.length ∧ ∀ i, i < j → l.getD i 0 = l.getD 0 0 ∧ l.getD i 0 ≤ 3) (fun j => l.length - j) 0 ?_ ?_ ?_
  · simp -implicitDefEqProofs (maxSteps := 1000000) (disch := (first | omega | (simp only [go_sem] <;> omega) | fail)) only [go_sem, ints, bools, mat]; rfl
  · simp
  · rintro j ⟨hj, hi⟩ J hJ
    repeat' (first | simp -implicitDefEqProofs (maxSteps := 1000000) (disch := (first | omega | (simp only [go_sem] <;> omega) | fail)) only [go_sem, ints, bools, mat] | ((first | apply goIf_b | apply goG_b | apply goTG_b | apply goOG_b) <;> intro h <;> ((try simp only [hnq] at h); (try simp only [h]); (try simp only [hnr] at h))))
    · exact dbF fun hp => by have := e.1 hp j (by omega); omega
    · refine hJ (j + 1) ⟨by omega, fun i hi' => ?_⟩ (by omega) _ (by simp -implicitDefEqProofs (maxSteps := 1000000) (disch := (first | omega | (simp only [go_sem] <;> omega) | fail)) only [go_sem, ints, bools, mat]; rfl)
      rcases Nat.lt_or_ge i j with h' | h'
      · exact hi i h'
      · have : i = j := by omega
        subst this; exact ⟨by assumption, by assumption⟩
    · exact dbF fun hp => by have := e.1 hp j (by omega); omega
    · exact dbT (e.2 fun i hi' => hi i (by omega))
theorem d_impl_isPlain_1 (n q : Int) : Den PA f_impl_isPlain_1 [.d (di n), .box [di q]] [.any, .any] (.d (db (n != q))) := by
  refine den_go [] l_impl_isPlain_1 ?_
  exact go_e0
theorem d_slices_IndexFunc (l : List Int) (p : Int → Bool) (g : List D → Value → Prop) (hg : ∀ n, g [di n] (.bool (p n))) (hl : l.length < 1048577) :
    Den PA f_slices_IndexFunc___int64_int64_ [.d (ints l), .pfn g] [.any, .any] (.d (di (match l.findIdx? p with | some j => j | none => -1))) := by
  refine den_go [] l_slices_IndexFunc___int64_int64_ ?_
  refine go_c0 ?_
  refine go_loop (fun (j : Nat) => ⟨[(0, .d (ints l)), (1, .pfn g), (7, .d (di l.length)), (8, .d (di j))], []⟩) (fun j => j ≤ l.length ∧ ∀ i, i < j → p (l.getD i 0) = false) (fun j => l.length - j) 0 ?_ ?_ ?_
  · simp -implicitDefEqProofs (maxSteps := 1000000) (disch := (first | omega | (simp only [go_sem] <;> omega) | fail)) only [go_sem, ints, bools, mat]; rfl
  · simp
  · rintro j ⟨hj, hi⟩ J hJ
    repeat' (first | simp -implicitDefEqProofs (maxSteps := 1000000) (disch := (first | omega | (simp only [go_sem] <;> omega) | fail)) only [go_sem, ints, bools, mat] | ((first | apply goIf_b | apply goG_b | apply goTG_b | apply goOG_b) <;> intro h <;> ((try simp only [hnq] at h); (try simp only [h]); (try simp only [hnr] at h))))
    · refine goV_pfn [di (l.getD j 0)] (.bool (p (l.getD j 0))) (by simp -implicitDefEqProofs (maxSteps := 1000000) (disch := (first | omega | (simp only [go_sem] <;> omega) | fail)) only [go_sem, ints, bools, mat]) rfl (hg _) ?_
      repeat' (first | simp -implicitDefEqProofs (maxSteps := 1000000) (disch := (first | omega | (simp only [go_sem] <;> omega) | fail)) only [go_sem, ints, bools, mat] | ((first | apply goIf_b | apply goG_b | apply goTG_b | apply goOG_b) <;> intro h <;> ((try simp only [hnq] at h); (try simp only [h]); (try simp only [hnr] at h))))
      · rw [findIdx_at (by omega) h hi]
      · refine hJ (j + 1) ⟨by omega, fun i hi' => ?_⟩ (by omega) _ (by simp -implicitDefEqProofs (maxSteps := 1000000) (disch := (first | omega | (simp only [go_sem] <;> omega) | fail)) only [go_sem, ints, bools, mat]; rfl)
        rcases Nat.lt_or_ge i j with h' | h'
        · exact hi i h'
        · have : i = j := by omega
          subst this; assumption
    · rw [findIdx_no fun i hi' => hi i (by omega)]
theorem d_slices_ContainsFunc (l : List Int) (p : Int → Bool) (g : List D → Value → Prop) (hg : ∀ n, g [di n] (.bool (p n))) (hl : l.length < 1048577) :
    Den PA f_slices_ContainsFunc___int64_int64_ [.d (ints l), .pfn g] [.any, .any] (.d (db (l.any p))) := by
  refine den_go [] l_slices_ContainsFunc___int64_int64_ ?_
  refine go_c0 ?_
  first | refine goC_of [.r, .g g] (d_slices_IndexFunc l p g hg hl) (by first | (simp -implicitDefEqProofs (maxSteps := 1000000) (disch := (first | omega | (simp only [go_sem] <;> omega) | fail)) only [go_sem, ints, bools, mat] <;> rfl) | rfl) (by first | (simp -implicitDefEqProofs (maxSteps := 1000000) (disch := (first | omega | (simp only [go_sem] <;> omega) | fail)) only [go_sem, ints, bools, mat] <;> rfl) | rfl) (⟨trivial, fun _ _ h => h, trivial⟩) (by first | (simp -implicitDefEqProofs (maxSteps := 1000000) (disch := (first | omega | (simp only [go_sem] <;> omega) | fail)) only [go_sem, ints, bools, mat] <;> rfl) | rfl) ?_ | refine goOC_of [.r, .g g] (d_slices_IndexFunc l p g hg hl) (by first | (simp -implicitDefEqProofs (maxSteps := 1000000) (disch := (first | omega | (simp only [go_sem] <;> omega) | fail)) only [go_sem, ints, bools, mat] <;> rfl) | rfl) (by first | (simp -implicitDefEqProofs (maxSteps := 1000000) (disch := (first | omega | (simp only [go_sem] <;> omega) | fail)) only [go_sem, ints, bools, mat] <;> rfl) | rfl) (by first | (simp -implicitDefEqProofs (maxSteps := 1000000) (disch := (first | omega | (simp only [go_sem] <;> omega) | fail)) only [go_sem, ints, bools, mat] <;> rfl) | rfl) (⟨trivial, fun _ _ h => h, trivial⟩) (by first | (simp -implicitDefEqProofs (maxSteps := 1000000) (disch := (first | omega | (simp only [go_sem] <;> omega) | fail)) only [go_sem, ints, bools, mat] <;> rfl) | rfl) ?_
  refine go_c0 ?_
  refine dbv ?_
  cases h : l.findIdx? p with
  | none =>
    rw [List.findIdx?_eq_none_iff] at h
    symm
    simpa using h
  | some j =>
    obtain ⟨hj, h1, _⟩ := List.findIdx?_eq_some_iff_getElem.1 h
    symm
    simpa using ⟨l[j], List.getElem_mem hj, h1⟩
theorem d_impl_isPlain (l : List Int) (h0 : 0 < l.length) (hl : l.length < 1048577) : Den PA f_impl_isPlain [.d (.agg [ints l])] [.any] (.d (db (plainM l))) := by
  have e := plainM_ok l
  have e2 := any_plain l
  refine den_go [] l_impl_isPlain ?_
  repeat' (first | simp -implicitDefEqProofs (maxSteps := 1000000) (disch := (first | omega | (simp only [go_sem] <;> omega) | fail)) only [go_sem, ints, bools, mat, c_impl_isPlain] | ((first | apply goIf_b | apply goG_b | apply goTG_b | apply goOG_b) <;> intro h <;> ((try simp only [hnq] at h); (try simp only [h]); (try simp only [hnr] at h))))
  · first | refine goC_of [.r, .g (fn1 fun n => n != l.getD 0 0)] (d_slices_ContainsFunc l (fun n => n != l.getD 0 0) _ (fn1_mk _) hl) (by first | (simp -implicitDefEqProofs (maxSteps := 1000000) (disch := (first | omega | (simp only [go_sem] <;> omega) | fail)) only [go_sem, ints, bools, mat] <;> rfl) | rfl) (by first | (simp -implicitDefEqProofs (maxSteps := 1000000) (disch := (first | omega | (simp only [go_sem] <;> omega) | fail)) only [go_sem, ints, bools, mat] <;> rfl) | rfl) (⟨trivial, ⟨(d_impl_isPlain_1 0 0).1, [[di (l.getD 0 0)]], rfl, fun ds r hg => by obtain ⟨n, rfl, rfl⟩ := hg; exact ⟨_, d_impl_isPlain_1 n _⟩⟩, trivial⟩) (by first | (simp -implicitDefEqProofs (maxSteps := 1000000) (disch := (first | omega | (simp only [go_sem] <;> omega) | fail)) only [go_sem, ints, bools, mat] <;> rfl) | rfl) ?_ | refine goOC_of [.r, .g (fn1 fun n => n != l.getD 0 0)] (d_slices_ContainsFunc l (fun n => n != l.getD 0 0) _ (fn1_mk _) hl) (by first | (simp -implicitDefEqProofs (maxSteps := 1000000) (disch := (first | omega | (simp only [go_sem] <;> omega) | fail)) only [go_sem, ints, bools, mat] <;> rfl) | rfl) (by first | (simp -implicitDefEqProofs (maxSteps := 1000000) (disch := (first | omega | (simp only [go_sem] <;> omega) | fail)) only [go_sem, ints, bools, mat] <;> rfl) | rfl) (by first | (simp -implicitDefEqProofs (maxSteps := 1000000) (disch := (first | omega | (simp only [go_sem] <;> omega) | fail)) only [go_sem, ints, bools, mat] <;> rfl) | rfl) (⟨trivial, ⟨(d_impl_isPlain_1 0 0).1, [[di (l.getD 0 0)]], rfl, fun ds r hg => by obtain ⟨n, rfl, rfl⟩ := hg; exact ⟨_, d_impl_isPlain_1 n _⟩⟩, trivial⟩) (by first | (simp -implicitDefEqProofs (maxSteps := 1000000) (disch := (first | omega | (simp only [go_sem] <;> omega) | fail)) only [go_sem, ints, bools, mat] <;> rfl) | rfl) ?_
    refine go_c0 ?_
    refine dbv ?_
    cases hm : plainM l with
    | true => exact e2.2 fun j hj => ((e.1 hm) j hj).1
    | false =>
      refine Bool.eq_false_iff.2 fun hp => ?_
      have := e.2 fun j hj => ⟨e2.1 hp j hj, by rw [e2.1 hp j hj]; exact h⟩
      rw [hm] at this; cases this
  · exact dbF fun hp => by have := (e.1 hp 0 h0).2; omega
abbrev isPlainR (l : List Int) : R := .tup [.d (db (isSpaceM l && plainM l)), .d (di (if isSpaceM l then 0 else 1))]
theorem d_spec_IsPlain (l : List Int) (hl : l.length < 1048577) : Den PA f_spec_IsPlain [.d (.agg [ints l])] [.any] (isPlainR l) := by
  refine den_go [] l_spec_IsPlain ?_
  simp -implicitDefEqProofs (maxSteps := 1000000) (disch := (first | omega | (simp only [go_sem] <;> omega) | fail)) only [go_sem, ints, bools, mat, c_spec_IsPlain, isPlainR]
  have yc := d_spec_l01Is l hl; first | refine goC_call [.r] yc ?_ | refine goOC_call [.r] yc ?_
  repeat' (first | simp -implicitDefEqProofs (maxSteps := 1000000) (disch := (first | omega | (simp only [go_sem] <;> omega) | fail)) only [go_sem, ints, bools, mat] | ((first | apply goIf_b | apply goG_b | apply goTG_b | apply goOG_b) <;> intro h <;> ((try simp only [hnq] at h); (try simp only [h]); (try simp only [hnr] at h))))
  · have y1 := kc [.r] (d_spec_l05Plain l hl); exact go_e0
theorem d_impl_IsPlain (l : List Int) (hl : l.length < 1048577) : Den PA f_impl_IsPlain [.d (.agg [ints l])] [.any] (isPlainR l) := by
  refine den_go [] l_impl_IsPlain ?_
  simp -implicitDefEqProofs (maxSteps := 1000000) (disch := (first | omega | (simp only [go_sem] <;> omega) | fail)) only [go_sem, ints, bools, mat, c_impl_IsPlain, isPlainR]
  have yc := d_impl_IsSpace l hl; first | refine goC_call [.r] yc ?_ | refine goOC_call [.r] yc ?_
  repeat' (first | simp -implicitDefEqProofs (maxSteps := 1000000) (disch := (first | omega | (simp only [go_sem] <;> omega) | fail)) only [go_sem, ints, bools, mat] | ((first | apply goIf_b | apply goG_b | apply goTG_b | apply goOG_b) <;> intro h <;> ((try simp only [hnq] at h); (try simp only [h]); (try simp only [hnr] at h))))
  · have y1 := kc [.r] (d_impl_isPlain l (by have := (isSpaceM_ok l).1 h; omega) hl); exact go_e0
theorem isSpaceM_q {l : List Int} (h : isSpaceM l = true) : ∀ j, j < l.length → 2 ≤ l.getD j 0 ∧ l.getD j 0 ≤ 4 := ((isSpaceM_ok l).1 h).2.1
theorem isSpaceM_n {l : List Int} (h : isSpaceM l = true) : 1 ≤ l.length ∧ l.length ≤ 8 := ((isSpaceM_ok l).1 h).1
abbrev nil : D := .v (.slice none 0 0)
def markL (n : Nat) (k : Int) : List Int := (List.range n).map fun (i : Nat) => k + (i : Int)
@[go_sem] theorem markL_len (n : Nat) (k : Int) : (markL n k).length = n := by simp [markL]
@[go_sem] theorem take_markL (n : Nat) (k : Int) : (markL n k).take n = markL n k := List.take_of_length_le (by rw [markL_len]; exact Nat.le_refl _)
@[go_sem] theorem cast_succ_sub (i : Nat) : ((i + 1 : Nat) : Int) - 1 = (i : Int) := by omega
@[go_sem] theorem cast_zero0 : ((0 : Nat) : Int) = 0 := rfl
theorem foldl_mul (l : List Int) : ∀ a : Int, l.foldl (· * ·) a = a * l.foldl (· * ·) 1 := by
  induction l with
  | nil => intro a; simp
  | cons q r ih => intro a; simp only [List.foldl_cons]; rw [ih (a * q), ih (1 * q), Int.one_mul, Int.mul_assoc]
theorem prodM_cons (q : Int) (r : List Int) : prodM (q :: r) = q * prodM r := by
  simp only [prodM, List.foldl_cons]; rw [foldl_mul, Int.one_mul]
theorem prodM_nil : prodM [] = 1 := rfl
def digM : List Int → Int → List Int
  | [], _ => []
  | q :: r, w => (w / prodM r) % q :: digM r w
theorem digM_len : ∀ (l : List Int) (w : Int), (digM l w).length = l.length
  | [], _ => rfl
  | _ :: r, w => by simp [digM, digM_len r w]
theorem drop_cons1 {l : List Int} {i : Nat} (h : i < l.length) : l.drop i = l.getD i 0 :: l.drop (i + 1) := by
  rw [List.drop_eq_getElem_cons h]; simp [h]
theorem digM_drop {l : List Int} (w : Int) {i : Nat} (h : i < l.length) : digM (l.drop i) w = (w / prodM (l.drop (i + 1))) % l.getD i 0 :: digM (l.drop (i + 1)) w := by
  rw [drop_cons1 h]; rfl
theorem prodM_drop {l : List Int} {i : Nat} (h : i < l.length) : prodM (l.drop i) = l.getD i 0 * prodM (l.drop (i + 1)) := by
  rw [drop_cons1 h, prodM_cons]
def szs (l : List Int) : Prop := ∀ j, j < l.length → 2 ≤ l.getD j 0 ∧ l.getD j 0 ≤ 4
theorem szs_tail {q : Int} {r : List Int} (h : szs (q :: r)) : szs r := fun j hj => by simpa using h (j + 1) (by simpa using hj)
theorem prodM_pos : ∀ {l : List Int}, szs l → 1 ≤ prodM l
  | [], _ => by simp [prodM]
  | q :: r, h => by
    have h1 := prodM_pos (szs_tail h)
    have h2 := h 0 (by simp)
    simp at h2
    rw [prodM_cons]
    have := Int.mul_le_mul (show (1 : Int) ≤ q by omega) h1 (by omega) (by omega)
    simpa using this
theorem szs_drop {l : List Int} (h : szs l) (k : Nat) : szs (l.drop k) := fun j hj => by
  have := h (k + j) (by simp at hj; omega)
  simpa [List.getD_eq_getElem?_getD, List.getElem?_drop] using this
theorem div_le_self {w p : Int} (h : 0 ≤ w) (hp : 1 ≤ p) : 0 ≤ w / p ∧ w / p ≤ w := by
  refine ⟨Int.ediv_nonneg h (by omega), Int.ediv_le_self _ h⟩
theorem div_step {l : List Int} {w : Int} {i : Nat} (hs : szs l) (h : i < l.length) : w / prodM (l.drop (i + 1)) / l.getD i 0 = w / prodM (l.drop i) := by
  rw [prodM_drop h, Int.mul_comm, Int.ediv_ediv_of_nonneg (by have := prodM_pos (szs_drop hs (i + 1)); omega)]
theorem mod_bnd {x q : Int} (h : 2 ≤ q ∧ q ≤ 4) : 0 ≤ x % q ∧ x % q < q ∧ x % q < 4 := by
  have h1 := Int.emod_nonneg x (show q ≠ 0 by omega)
  have h2 := Int.emod_lt_of_pos x (show 0 < q by omega)
  omega
def pad8 (ds : List Int) : List Int := (ds ++ List.replicate 8 0).take 8
@[go_sem] theorem pad8_len (ds : List Int) : (pad8 ds).length = 8 := by simp [pad8]
theorem pad8_eq {ds : List Int} (h : ds.length ≤ 8) : pad8 ds = ds ++ List.replicate (8 - ds.length) 0 := by
  rw [pad8, List.take_append, List.take_of_length_le h, List.take_replicate]
  congr 2; omega
abbrev dig (ds : List Int) : D := .agg ((pad8 ds).map dy)
theorem set_rep {i : Nat} (v : Int) (r : List Int) : (List.replicate (i + 1) 0 ++ r).set i v = List.replicate i 0 ++ v :: r := by
  rw [List.replicate_succ', List.append_assoc, List.set_append_right _ _ (by simp)]
  simp
theorem isSpaceM_szs {l : List Int} (h : isSpaceM l = true) : szs l := isSpaceM_q h
theorem isSpaceM_prod {l : List Int} (h : isSpaceM l = true) : prodM l ≤ 1024 := ((isSpaceM_ok l).1 h).2.2
theorem d_impl_count (l : List Int) (hs : isSpaceM l = true) : Den PA f_impl_count [.d (.agg [ints l])] [.any] (.d (di (prodM l))) := by
  have hn := isSpaceM_n hs
  refine den_go [] l_impl_count ?_
  refine go_c0 ?_
  refine go_loop (fun (j : Nat) => ⟨[(3, .d (di (prodM (l.take j)))), (7, .d (ints l)), (8, .d (di l.length)), (9, .d (di j))], []⟩) (fun j => j ≤ l.length) (fun j => l.length - j) 0 ?_ ?_ ?_
  · exact go_r0
  · simp
  · rintro j hj J hJ
    have hb := prodM_small l (j := j) (by omega) hj (fun i hi => isSpaceM_q hs i (by omega))
    have hb' := fun hj' => prodM_small l (j := j + 1) (by omega) hj' (fun i hi => isSpaceM_q hs i (by omega))
    have hst := fun hj' => prodM_step l (j := j) hj'
    repeat' (first | simp -implicitDefEqProofs (maxSteps := 1000000) (disch := (first | omega | (simp only [go_sem] <;> omega) | fail)) only [go_sem, ints, bools, mat] | ((first | apply goIf_b | apply goG_b | apply goTG_b | apply goOG_b) <;> intro h <;> ((try simp only [hnq] at h); (try simp only [h]); (try simp only [hnr] at h))))
    · have h1 := hb' (by omega)
      rw [hst (by omega)] at h1
      refine hJ (j + 1) (by omega) (by omega) _ ?_
      simp -implicitDefEqProofs (maxSteps := 1000000) (disch := (first | omega | (simp only [go_sem] <;> omega) | fail)) only [go_sem, ints, bools, mat]
      rw [hst (by omega)]; rfl
theorem d_impl_places (l : List Int) (hl : l.length < 1048577) : Den PA f_impl_places [.d (.agg [ints l])] [.any] (.d (di l.length)) := by
  refine den_go [] l_impl_places ?_
  exact go_e0
def inW (l : List Int) (w : Int) : Bool := decide (0 ≤ w) && decide (w < prodM l)
def areW (l ws : List Int) : Bool := ws.all (inW l)
theorem areW_ok (l ws : List Int) : areW l ws = true ↔ ∀ j, j < ws.length → 0 ≤ ws.getD j 0 ∧ ws.getD j 0 < prodM l := by
  simp only [areW, all_getD, inW, Bool.and_eq_true, decide_eq_true_eq]
theorem d_impl_areWords (l : List Int) (hs : isSpaceM l = true) (x : D) (ws : List Int) (hx : IsInts x ws) (hw : ws.length < 1048577) : Den PA f_impl_areWords [.d (.agg [ints l]), .d x] [.any, .any] (.d (db (areW l ws))) := by
  have e := areW_ok l ws
  refine den_go [] l_impl_areWords ?_
  simp -implicitDefEqProofs (maxSteps := 1000000) (disch := (first | omega | (simp only [go_sem] <;> omega) | fail)) only [go_sem, ints, bools, mat, c_impl_areWords]
  have yc := d_impl_count l hs; first | refine goC_call [.r] yc ?_ | refine goOC_call [.r] yc ?_
  rcases hx with rfl | ⟨rfl, rfl⟩
  · refine go_c0 ?_
    refine go_loop (fun (j : Nat) => ⟨[(5, .d (di (prodM l))), (10, .d (ints ws)), (11, .d (di ws.length)), (12, .d (di j))], []⟩) (fun j => j ≤ ws.length ∧ ∀ i, i < j → 0 ≤ ws.getD i 0 ∧ ws.getD i 0 < prodM l) (fun j => ws.length - j) 0 ?_ ?_ ?_
    · exact go_r0
    · simp
    · rintro j ⟨hj, hi⟩ J hJ
      repeat' (first | simp -implicitDefEqProofs (maxSteps := 1000000) (disch := (first | omega | (simp only [go_sem] <;> omega) | fail)) only [go_sem, ints, bools, mat] | ((first | apply goIf_b | apply goG_b | apply goTG_b | apply goOG_b) <;> intro h <;> ((try simp only [hnq] at h); (try simp only [h]); (try simp only [hnr] at h))))
      · exact dbF fun h' => by have := e.1 h' j (by omega); omega
      · refine hJ (j + 1) ⟨by omega, all_ext hi (by omega)⟩ (by omega) _ go_r0
      · exact dbF fun h' => by have := e.1 h' j (by omega); omega
      · exact dbT (e.2 fun i hi' => hi i (by omega))
  · refine go_c0 ?_
    refine go_loop (fun (_ : Unit) => ⟨[(5, .d (di (prodM l))), (10, .d nil), (11, .d (di 0)), (12, .d (di 0))], []⟩) (fun _ => True) (fun _ => 0) () ?_ trivial ?_
    · exact go_r0
    · intro _ _ J _
      refine go_c0 ?_
      exact dbT rfl
abbrev wcM (l ws : List Int) : Int := if isSpaceM l then (if areW l ws then 0 else 2) else 1
theorem d_impl_wordCode (l : List Int) (hl : l.length < 1048577) (x : D) (ws : List Int) (hx : IsInts x ws) (hw : ws.length < 1048577) : Den PA f_impl_wordCode [.d (.agg [ints l]), .d x] [.any, .any] (.d (di (wcM l ws))) := by
  refine den_go [] l_impl_wordCode ?_
  simp -implicitDefEqProofs (maxSteps := 1000000) (disch := (first | omega | (simp only [go_sem] <;> omega) | fail)) only [go_sem, ints, bools, mat, c_impl_wordCode, wcM]
  have yc := d_impl_IsSpace l hl; first | refine goC_call [.r] yc ?_ | refine goOC_call [.r] yc ?_
  repeat' (first | simp -implicitDefEqProofs (maxSteps := 1000000) (disch := (first | omega | (simp only [go_sem] <;> omega) | fail)) only [go_sem, ints, bools, mat] | ((first | apply goIf_b | apply goG_b | apply goTG_b | apply goOG_b) <;> intro h <;> ((try simp only [hnq] at h); (try simp only [h]); (try simp only [hnr] at h))))
  have yc := d_impl_areWords l h x ws hx hw; first | refine goC_call [.r, .r] yc ?_ | refine goOC_call [.r, .r] yc ?_
  exact go_e0
theorem d_spec_l01Words (l : List Int) (hl : l.length < 1048577) (ws : List Int) (hw : ws.length < 1048577) : Den PA f_spec_l01Words [.d (.agg [ints l]), .d (ints ws)] [.any, .any] (.d (di (wcM l ws))) := by
  have e := areW_ok l ws
  refine den_go [] l_spec_l01Words ?_
  simp -implicitDefEqProofs (maxSteps := 1000000) (disch := (first | omega | (simp only [go_sem] <;> omega) | fail)) only [go_sem, ints, bools, mat, c_spec_l01Words, wcM]
  have yc := d_spec_l01Is l hl; first | refine goC_call [.r] yc ?_ | refine goOC_call [.r] yc ?_
  repeat' (first | simp -implicitDefEqProofs (maxSteps := 1000000) (disch := (first | omega | (simp only [go_sem] <;> omega) | fail)) only [go_sem, ints, bools, mat] | ((first | apply goIf_b | apply goG_b | apply goTG_b | apply goOG_b) <;> intro h <;> ((try simp only [hnq] at h); (try simp only [h]); (try simp only [hnr] at h))))
  have hs := h
  have hp := isSpaceM_prod hs
  have hp1 := prodM_pos (isSpaceM_szs hs)
  have hn := isSpaceM_n hs
  refine go_loop (fun (j : Nat) => ⟨[(1, .d (ints ws)), (2, .ref 0 0), (5, .d (di j))], [some (.var [ints l])]⟩) (fun j => j ≤ ws.length ∧ ∀ i, i < j → 0 ≤ ws.getD i 0 ∧ ws.getD i 0 < prodM l) (fun j => ws.length - j) 0 ?_ ?_ ?_
  · exact go_r0
  · simp
  · rintro j ⟨hj, hi⟩ J hJ
    repeat' (first | simp -implicitDefEqProofs (maxSteps := 1000000) (disch := (first | omega | (simp only [go_sem] <;> omega) | fail)) only [go_sem, ints, bools, mat] | ((first | apply goIf_b | apply goG_b | apply goTG_b | apply goOG_b) <;> intro h <;> ((try simp only [hnq] at h); (try simp only [h]); (try simp only [hnr] at h)) <;> (try (exfalso; omega))) | ((first | refine goC_call [.r] (d_spec_l01N l (by omega) (isSpaceM_q hs)) ?_ | refine goOC_call [.r] (d_spec_l01N l (by omega) (isSpaceM_q hs)) ?_); simp -implicitDefEqProofs (maxSteps := 1000000) (disch := (first | omega | (simp only [go_sem] <;> omega) | fail)) only [go_sem, ints, bools, mat]; fail_if_success (with_reducible show chk _ _)) | ((first | refine goC_call [.r, .r, .r] (d_spec_l01In (ws.getD j 0) 0 (prodM l - 1)) ?_ | refine goOC_call [.r, .r, .r] (d_spec_l01In (ws.getD j 0) 0 (prodM l - 1)) ?_); simp -implicitDefEqProofs (maxSteps := 1000000) (disch := (first | omega | (simp only [go_sem] <;> omega) | fail)) only [go_sem, ints, bools, mat]; fail_if_success (with_reducible show chk _ _)))
    · refine hJ (j + 1) ⟨by omega, all_ext hi (by omega)⟩ (by omega) _ go_r0
    · rw [if_neg]
      exact fun h' => by have := e.1 h' j (by omega); omega
    · rw [if_pos]
      exact e.2 fun i hi' => hi i (by omega)
theorem d_impl_digitsOf (l : List Int) (hs : isSpaceM l = true) (w : Int) (hw : 0 ≤ w) (hw2 : w < 1000000000000) : Den PA f_impl_digitsOf [.d (.agg [ints l]), .d (di w)] [.any, .any] (.d (dig (digM l w))) := by
  have hn := isSpaceM_n hs
  have hz := isSpaceM_szs hs
  refine den_go [] l_impl_digitsOf ?_
  refine go_c0 ?_
  refine go_loop (fun (k : Nat) => ⟨[(1, .d (di (w / prodM (l.drop k)))), (2, .ref 0 0), (4, .ref 1 0), (5, .ref 2 0), (6, .d (di ((k : Int) - 1)))], [some (.var [ints l]), some (.var [dy 0, dy 0, dy 0, dy 0, dy 0, dy 0, dy 0, dy 0]), some (.var ((List.replicate k 0 ++ (digM (l.drop k) w ++ List.replicate (8 - l.length) 0)).map dy))]⟩) (fun k => k ≤ l.length) (fun k => k) l.length ?_ ?_ ?_
  · simp -implicitDefEqProofs (maxSteps := 1000000) (disch := (first | omega | (simp only [go_sem] <;> omega) | fail)) only [go_sem, ints, bools, mat]
    have e1 : l.drop l.length = [] := by simp
    have e2 : List.replicate l.length (0 : Int) ++ List.replicate (8 - l.length) 0 = List.replicate 8 0 := by
      rw [List.replicate_append_replicate]; congr 1; omega
    rw [e1, digM, List.nil_append, e2, prodM_nil, Int.ediv_one]; rfl
  · simp
  · intro k hk J hJ
    rcases k with _ | i
    · have hdl := digM_len l w
      refine go_c0 ?_
      simp [dig, pad8_eq (ds := digM l w) (by rw [digM_len]; omega), digM_len]
    · have hq := hz i (by omega)
      have hp := prodM_pos (szs_drop hz (i + 1))
      have hw' := div_le_self hw hp
      have hm := mod_bnd (x := w / prodM (l.drop (i + 1))) hq
      have hd := div_step (w := w) hz (i := i) (by omega)
      have hp' := prodM_pos (szs_drop hz i)
      have hw'' := div_le_self hw hp'
      have hlen : (List.replicate (i + 1) (0 : Int) ++ (digM (l.drop (i + 1)) w ++ List.replicate (8 - l.length) 0)).length = 8 := by simp [digM_len]; omega
      rw [← hd] at hw''
      refine go_c0 ?_
      refine hJ i (by omega) (by omega) _ ?_
      simp -implicitDefEqProofs (maxSteps := 1000000) (disch := (first | omega | (simp only [go_sem] <;> omega) | fail)) only [go_sem, ints, bools, mat]
      rw [set_rep, hd, digM_drop w (i := i) (by omega)]; rfl
theorem d_spec_l01Digits (l : List Int) (hs : isSpaceM l = true) (w : Int) (hw : 0 ≤ w) (hw2 : w < 1000000000000) : Den PA f_spec_l01Digits [.d (.agg [ints l]), .d (di w)] [.any, .any] (.own 1 ((digM l w).map di)) := by
  have hn := isSpaceM_n hs
  have hz := isSpaceM_szs hs
  refine den_go [] l_spec_l01Digits ?_
  refine go_c0 ?_
  refine go_loop (fun (k : Nat) => ⟨[(1, .d (di (w / prodM (l.drop k)))), (2, .ref 0 0), (5, .sl 1 0 l.length 1), (6, .d (di ((k : Int) - 1)))], [some (.var [ints l]), some (.dat 1 ((List.replicate k 0 ++ digM (l.drop k) w).map di))]⟩) (fun k => k ≤ l.length) (fun k => k) l.length ?_ ?_ ?_
  · simp -implicitDefEqProofs (maxSteps := 1000000) (disch := (first | omega | (simp only [go_sem] <;> omega) | fail)) only [go_sem, ints, bools, mat]
    have e1 : l.drop l.length = [] := by simp
    rw [e1, digM, List.append_nil, prodM_nil, Int.ediv_one]
  · simp
  · intro k hk J hJ
    rcases k with _ | i
    · have := digM_len l w
      refine go_c0 ?_
      simp
    · have hq := hz i (by omega)
      have hp := prodM_pos (szs_drop hz (i + 1))
      have hw' := div_le_self hw hp
      have hm := mod_bnd (x := w / prodM (l.drop (i + 1))) hq
      have hd := div_step (w := w) hz (i := i) (by omega)
      have hp' := prodM_pos (szs_drop hz i)
      have hw'' := div_le_self hw hp'
      have hlen : (List.replicate (i + 1) (0 : Int) ++ digM (l.drop (i + 1)) w).length = l.length := by simp [digM_len]; omega
      rw [← hd] at hw''
      refine go_c0 ?_
      refine hJ i (by omega) (by omega) _ ?_
      simp -implicitDefEqProofs (maxSteps := 1000000) (disch := (first | omega | (simp only [go_sem] <;> omega) | fail)) only [go_sem, ints, bools, mat]
      rw [set_rep, hd, digM_drop w (i := i) (by omega)]
def farM : List Int → List Int → Int
  | a :: r, b :: s => (if a = b then 0 else 1) + farM r s
  | _, _ => 0
def farN (a b : List Int) : Nat → Int
  | 0 => 0
  | j + 1 => farN a b j + (if a.getD j 0 = b.getD j 0 then 0 else 1)
abbrev distM (l : List Int) (u w : Int) : Int := farM (digM l u) (digM l w)
theorem farN_cons (x y : Int) (a b : List Int) : ∀ j, farN (x :: a) (y :: b) (j + 1) = (if x = y then 0 else 1) + farN a b j
  | 0 => by simp [farN]
  | j + 1 => by rw [farN, farN_cons x y a b j, farN, Int.add_assoc]; rfl
theorem farN_nn (a b : List Int) : ∀ j : Nat, 0 ≤ farN a b j ∧ farN a b j ≤ j
  | 0 => by simp [farN]
  | j + 1 => by have := farN_nn a b j; simp only [farN]; split <;> omega
theorem farN_farM : ∀ (a b z : List Int) (k : Nat), a.length = b.length → k = a.length + z.length → farN (a ++ z) (b ++ z) k = farM a b
  | [], [], z, k, _, hk => by
    simp only [List.nil_append, farM]
    clear hk
    induction k with
    | zero => rfl
    | succ k ih => simp [farN, ih]
  | x :: a, y :: b, z, k, h, hk => by
    rcases k with _ | k
    · simp only [List.length_cons] at hk; omega
    · rw [List.cons_append, List.cons_append, farN_cons, farN_farM a b z k (by simpa using h) (by simp at hk; omega)]; rfl
  | [], _ :: _, _, _, h, _ => by simp at h
  | _ :: _, [], _, _, h, _ => by simp at h
theorem farM_bnd : ∀ (a b : List Int), 0 ≤ farM a b ∧ farM a b ≤ a.length
  | [], _ => by simp [farM]
  | _ :: _, [] => by simp [farM]; omega
  | x :: a, y :: b => by have := farM_bnd a b; simp only [farM, List.length_cons]; split <;> omega
theorem distM_bnd (l : List Int) (u w : Int) : 0 ≤ distM l u w ∧ distM l u w ≤ l.length := by
  have := farM_bnd (digM l u) (digM l w); rwa [digM_len] at this
theorem d_impl_far (a b : List Int) (ha : a.length = b.length) (h8 : a.length ≤ 8) : Den PA f_impl_far [.d (dig a), .d (dig b)] [.any, .any] (.d (di (farM a b))) := by
  have e := farN_farM a b (List.replicate (8 - a.length) 0) 8 ha (by simp; omega)
  have ea := pad8_len a
  have eb := pad8_len b
  have e' : farN (pad8 a) (pad8 b) 8 = farM a b := by rw [← e, pad8_eq h8, pad8_eq (ds := b) (by omega)]; simp only [ha]
  refine den_go [] l_impl_far ?_
  refine go_c0 ?_
  refine go_loop (fun (j : Nat) => ⟨[(3, .ref 0 0), (5, .d (di (farN (pad8 a) (pad8 b) j))), (8, .d (dig a)), (9, .d (di j))], [some (.var ((pad8 b).map dy))]⟩) (fun j => j ≤ 8) (fun j => 8 - j) 0 ?_ ?_ ?_
  · exact go_r0
  · simp
  · rintro j hj J hJ
    have hb := farN_nn (pad8 a) (pad8 b) j
    repeat' (first | simp -implicitDefEqProofs (maxSteps := 1000000) (disch := (first | omega | (simp only [go_sem] <;> omega) | fail)) only [go_sem, ints, bools, mat] | ((first | apply goIf_b | apply goG_b | apply goTG_b | apply goOG_b) <;> intro h <;> ((try simp only [hnq] at h); (try simp only [h]); (try simp only [hnr] at h)) <;> (try (exfalso; omega))))
    · refine hJ (j + 1) (by omega) (by omega) _ ?_
      simp -implicitDefEqProofs (maxSteps := 1000000) (disch := (first | omega | (simp only [go_sem] <;> omega) | fail)) only [go_sem, ints, bools, mat]
      rw [farN, if_neg (by assumption)]; rfl
    · refine hJ (j + 1) (by omega) (by omega) _ ?_
      simp -implicitDefEqProofs (maxSteps := 1000000) (disch := (first | omega | (simp only [go_sem] <;> omega) | fail)) only [go_sem, ints, bools, mat]
      rw [farN, if_pos (by assumption), Int.add_zero]; rfl
    · have : j = 8 := by omega
      subst this; rw [e']
theorem d_spec_l01Distance (l : List Int) (hs : isSpaceM l = true) (u w : Int) (hu : 0 ≤ u) (hu2 : u < 1000000000000) (hw : 0 ≤ w) (hw2 : w < 1000000000000) : Den PA f_spec_l01Distance [.d (.agg [ints l]), .d (di u), .d (di w)] [.any, .any, .any] (.d (di (distM l u w))) := by
  have hn := isSpaceM_n hs
  have hz := isSpaceM_szs hs
  refine den_go [] l_spec_l01Distance ?_
  refine go_c0 ?_
  refine go_loop (fun (k : Nat) => ⟨[(1, .d (di (u / prodM (l.drop k)))), (2, .d (di (w / prodM (l.drop k)))), (3, .ref 0 0), (7, .d (di (farM (digM (l.drop k) u) (digM (l.drop k) w)))), (8, .d (di ((k : Int) - 1)))], [some (.var [ints l])]⟩) (fun k => k ≤ l.length) (fun k => k) l.length ?_ ?_ ?_
  · simp -implicitDefEqProofs (maxSteps := 1000000) (disch := (first | omega | (simp only [go_sem] <;> omega) | fail)) only [go_sem, ints, bools, mat]
    have e1 : l.drop l.length = [] := by simp
    rw [e1, digM, digM, farM, prodM_nil, Int.ediv_one, Int.ediv_one]
    intros; simp_all
  · simp
  · intro k hk J hJ
    rcases k with _ | i
    · exact go_e0
    · have hq := hz i (by omega)
      have hp := prodM_pos (szs_drop hz (i + 1))
      have hw' := div_le_self hw hp
      have hu' := div_le_self hu hp
      have hd := div_step (w := w) hz (i := i) (by omega)
      have hd2 := div_step (w := u) hz (i := i) (by omega)
      have hp' := prodM_pos (szs_drop hz i)
      have hw'' := div_le_self hw hp'
      have hu'' := div_le_self hu hp'
      have hf := farM_bnd (digM (l.drop (i + 1)) u) (digM (l.drop (i + 1)) w)
      rw [digM_len, List.length_drop] at hf
      rw [← hd] at hw''
      rw [← hd2] at hu''
      repeat' (first | simp -implicitDefEqProofs (maxSteps := 1000000) (disch := (first | omega | (simp only [go_sem] <;> omega) | fail)) only [go_sem, ints, bools, mat] | ((first | apply goIf_b | apply goG_b | apply goTG_b | apply goOG_b) <;> intro h <;> ((try simp only [hnq] at h); (try simp only [h]); (try simp only [hnr] at h)) <;> (try (exfalso; omega))))
      · refine hJ i (by omega) (by omega) _ ?_
        simp -implicitDefEqProofs (maxSteps := 1000000) (disch := (first | omega | (simp only [go_sem] <;> omega) | fail)) only [go_sem, ints, bools, mat]
        rw [hd, hd2, digM_drop w (i := i) (by omega), digM_drop u (i := i) (by omega), farM, if_neg h, Int.add_comm]
      · refine hJ i (by omega) (by omega) _ ?_
        simp -implicitDefEqProofs (maxSteps := 1000000) (disch := (first | omega | (simp only [go_sem] <;> omega) | fail)) only [go_sem, ints, bools, mat]
        rw [hd, hd2, digM_drop w (i := i) (by omega), digM_drop u (i := i) (by omega), farM, if_pos h, Int.zero_add]
@[go_sem] theorem and1_norm {x : Int} (h : 0 ≤ x) : ((x.toNat &&& (1 : Int).toNat : Nat) : Int) = x % 2 := by
  rw [show (1 : Int).toNat = 1 from rfl, and_one_toNat]; omega
def isCodeM (l c : List Int) : Bool := areW l c && (List.range (c.length - 1)).all fun j => decide (c.getD j 0 < c.getD (j + 1) 0)
theorem isCodeM_ok (l c : List Int) : isCodeM l c = true ↔ (∀ j, j < c.length → 0 ≤ c.getD j 0 ∧ c.getD j 0 < prodM l) ∧ ∀ j, j + 1 < c.length → c.getD j 0 < c.getD (j + 1) 0 := by
  simp only [isCodeM, Bool.and_eq_true, areW_ok, List.all_eq_true, List.mem_range, decide_eq_true_eq]
  constructor
  · rintro ⟨h1, h2⟩; exact ⟨h1, fun j hj => h2 j (by omega)⟩
  · rintro ⟨h1, h2⟩; exact ⟨h1, fun j hj => h2 j (by omega)⟩
theorem isCodeM_ge {l c : List Int} (h : isCodeM l c = true) : ∀ j : Nat, j < c.length → (j : Int) ≤ c.getD j 0
  | 0, hj => by have := ((isCodeM_ok l c).1 h).1 0 hj; simpa using this.1
  | j + 1, hj => by have := isCodeM_ge h j (by omega); have := ((isCodeM_ok l c).1 h).2 j hj; omega
theorem isCodeM_len {l c : List Int} (h : isCodeM l c = true) : (c.length : Int) ≤ prodM l ∨ c.length = 0 := by
  rcases Nat.eq_zero_or_pos c.length with h0 | h0
  · exact .inr h0
  · have h1 := isCodeM_ge h (c.length - 1) (by omega)
    have h2 := ((isCodeM_ok l c).1 h).1 (c.length - 1) (by omega)
    left; omega
theorem d_impl_isCode (l : List Int) (hs : isSpaceM l = true) (c : List Int) (hc : c.length < 1048577) : Den PA f_impl_isCode [.d (.agg [ints l]), .d (ints c)] [.any, .any] (.d (db (isCodeM l c))) := by
  have e := isCodeM_ok l c
  have hp1 := prodM_pos (isSpaceM_szs hs)
  refine den_go [] l_impl_isCode ?_
  simp -implicitDefEqProofs (maxSteps := 1000000) (disch := (first | omega | (simp only [go_sem] <;> omega) | fail)) only [go_sem, ints, bools, mat, c_impl_isCode]
  have yc := d_impl_count l hs; first | refine goC_call [.r] yc ?_ | refine goOC_call [.r] yc ?_
  repeat' (first | simp -implicitDefEqProofs (maxSteps := 1000000) (disch := (first | omega | (simp only [go_sem] <;> omega) | fail)) only [go_sem, ints, bools, mat] | ((first | apply goIf_b | apply goG_b | apply goTG_b | apply goOG_b) <;> intro h <;> ((try simp only [hnq] at h); (try simp only [h]); (try simp only [hnr] at h))))
  rotate_left
  · exact dbF fun h' => by have := isCodeM_len (l := l) (c := c) h'; omega
  have yc := d_impl_areWords l hs _ c (.inl rfl) hc; first | refine goC_call [.r, .r] yc ?_ | refine goOC_call [.r, .r] yc ?_
  repeat' (first | simp -implicitDefEqProofs (maxSteps := 1000000) (disch := (first | omega | (simp only [go_sem] <;> omega) | fail)) only [go_sem, ints, bools, mat] | ((first | apply goIf_b | apply goG_b | apply goTG_b | apply goOG_b) <;> intro h <;> ((try simp only [hnq] at h); (try simp only [h]); (try simp only [hnr] at h))))
  rotate_left
  · refine dbF fun h' => ?_
    have := (areW_ok l c).2 (e.1 h').1
    rw [h] at this; cases this
  have hw := (areW_ok l c).1 h
  refine go_loop (fun (j : Nat) => ⟨[(1, .d (ints c)), (5, .d (di ((j + 1 : Nat) : Int)))], []⟩) (fun j => (j + 1 ≤ c.length ∨ j = 0) ∧ ∀ i, i < j → c.getD i 0 < c.getD (i + 1) 0) (fun j => c.length - j) 0 ?_ ?_ ?_
  · exact go_r0
  · simp
  · rintro j ⟨hj, hi⟩ J hJ
    repeat' (first | simp -implicitDefEqProofs (maxSteps := 1000000) (disch := (first | omega | (simp only [go_sem] <;> omega) | fail)) only [go_sem, ints, bools, mat] | ((first | apply goIf_b | apply goG_b | apply goTG_b | apply goOG_b) <;> intro h <;> ((try simp only [hnq] at h); (try simp only [h]); (try simp only [hnr] at h)) <;> (try (exfalso; omega))))
    · exact dbF fun h' => by have := (e.1 h').2 j (by omega); omega
    · refine hJ (j + 1) ⟨.inl (by omega), all_ext hi (by omega)⟩ (by omega) _ go_r0
    · exact dbT (e.2 ⟨hw, fun i hi' => hi i (by omega)⟩)
theorem d_spec_l01Code (l : List Int) (hs : isSpaceM l = true) (c : List Int) (hc : c.length < 1048577) : Den PA f_spec_l01Code [.d (.agg [ints l]), .d (ints c)] [.any, .any] (.d (db (isCodeM l c))) := by
  have e := isCodeM_ok l c
  have hp := isSpaceM_prod hs
  have hp1 := prodM_pos (isSpaceM_szs hs)
  have hn := isSpaceM_n hs
  refine den_go [] l_spec_l01Code ?_
  simp -implicitDefEqProofs (maxSteps := 1000000) (disch := (first | omega | (simp only [go_sem] <;> omega) | fail)) only [go_sem, ints, bools, mat, c_spec_l01Code]
  refine go_loop (fun (j : Nat) => ⟨[(1, .d (ints c)), (2, .ref 0 0), (5, .d (di j))], [some (.var [ints l])]⟩) (fun j => j ≤ c.length ∧ (∀ i, i < j → 0 ≤ c.getD i 0 ∧ c.getD i 0 < prodM l) ∧ ∀ i, i + 1 < j → c.getD i 0 < c.getD (i + 1) 0) (fun j => c.length - j) 0 ?_ ?_ ?_
  · exact go_r0
  · simp
  · rintro j ⟨hj, hi, hk⟩ J hJ
    rcases j with _ | j
    · repeat' (first | simp -implicitDefEqProofs (maxSteps := 1000000) (disch := (first | omega | (simp only [go_sem] <;> omega) | fail)) only [go_sem, ints, bools, mat] | ((first | apply goIf_b | apply goG_b | apply goTG_b | apply goOG_b) <;> intro h <;> ((try simp only [hnq] at h); (try simp only [h]); (try simp only [hnr] at h)) <;> (try (exfalso; omega))))
      · have yc := d_spec_l01N l (by omega) (isSpaceM_q hs); first | refine goC_call [.r] yc ?_ | refine goOC_call [.r] yc ?_
        repeat' (first | simp -implicitDefEqProofs (maxSteps := 1000000) (disch := (first | omega | (simp only [go_sem] <;> omega) | fail)) only [go_sem, ints, bools, mat] | ((first | apply goIf_b | apply goG_b | apply goTG_b | apply goOG_b) <;> intro h <;> ((try simp only [hnq] at h); (try simp only [h]); (try simp only [hnr] at h)) <;> (try (exfalso; omega))))
        have yc := d_spec_l01In (c.getD 0 0) 0 (prodM l - 1); first | refine goC_call [.r, .r, .r] yc ?_ | refine goOC_call [.r, .r, .r] yc ?_
        repeat' (first | simp -implicitDefEqProofs (maxSteps := 1000000) (disch := (first | omega | (simp only [go_sem] <;> omega) | fail)) only [go_sem, ints, bools, mat] | ((first | apply goIf_b | apply goG_b | apply goTG_b | apply goOG_b) <;> intro h <;> ((try simp only [hnq] at h); (try simp only [h]); (try simp only [hnr] at h)) <;> (try (exfalso; omega))))
        · refine hJ 1 ⟨by omega, all_ext hi (by omega), fun i hi => by omega⟩ (by omega) _ go_r0
        · exact dbF fun h' => by have := (e.1 h').1 0 (by omega); omega
      · exact dbT (e.2 ⟨fun i hi' => by omega, fun i hi' => by omega⟩)
    · repeat' (first | simp -implicitDefEqProofs (maxSteps := 1000000) (disch := (first | omega | (simp only [go_sem] <;> omega) | fail)) only [go_sem, ints, bools, mat] | ((first | apply goIf_b | apply goG_b | apply goTG_b | apply goOG_b) <;> intro h <;> ((try simp only [hnq] at h); (try simp only [h]); (try simp only [hnr] at h)) <;> (try (exfalso; omega))))
      · have yc := d_spec_l01N l (by omega) (isSpaceM_q hs); first | refine goC_call [.r] yc ?_ | refine goOC_call [.r] yc ?_
        repeat' (first | simp -implicitDefEqProofs (maxSteps := 1000000) (disch := (first | omega | (simp only [go_sem] <;> omega) | fail)) only [go_sem, ints, bools, mat] | ((first | apply goIf_b | apply goG_b | apply goTG_b | apply goOG_b) <;> intro h <;> ((try simp only [hnq] at h); (try simp only [h]); (try simp only [hnr] at h)) <;> (try (exfalso; omega))))
        have yc := d_spec_l01In (c.getD (j + 1) 0) 0 (prodM l - 1); first | refine goC_call [.r, .r, .r] yc ?_ | refine goOC_call [.r, .r, .r] yc ?_
        repeat' (first | simp -implicitDefEqProofs (maxSteps := 1000000) (disch := (first | omega | (simp only [go_sem] <;> omega) | fail)) only [go_sem, ints, bools, mat] | ((first | apply goIf_b | apply goG_b | apply goTG_b | apply goOG_b) <;> intro h <;> ((try simp only [hnq] at h); (try simp only [h]); (try simp only [hnr] at h)) <;> (try (exfalso; omega))))
        · exact dbF fun h' => by have := (e.1 h').2 j (by omega); omega
        · refine hJ (j + 2) ⟨by omega, all_ext hi (by omega), fun i hi' => ?_⟩ (by omega) _ go_r0
          rcases Nat.lt_or_ge (i + 1) (j + 1) with h3 | h3
          · exact hk i h3
          · have : i = j := by omega
            subst this; assumption
        · exact dbF fun h' => by have := (e.1 h').1 (j + 1) (by omega); omega
      · exact dbT (e.2 ⟨fun i hi' => hi i (by omega), fun i hi' => hk i (by omega)⟩)
abbrev gcM (l c ws : List Int) : Int := if wcM l ws = 0 then (if isCodeM l c then 0 else 2) else wcM l ws
theorem wcM_space {l ws : List Int} (h : wcM l ws = 0) : isSpaceM l = true ∧ areW l ws = true := by
  unfold wcM at h
  split at h
  · rename_i hs
    split at h
    · rename_i hw; exact ⟨hs, hw⟩
    · cases h
  · cases h
theorem gcM_ok {l c ws : List Int} (h : gcM l c ws = 0) : isSpaceM l = true ∧ areW l ws = true ∧ isCodeM l c = true := by
  unfold gcM at h
  split at h
  · rename_i hw
    split at h
    · rename_i hc; exact ⟨(wcM_space hw).1, (wcM_space hw).2, hc⟩
    · cases h
  · rename_i hw; exact (hw h).elim
theorem d_impl_codeCode (l : List Int) (hl : l.length < 1048577) (c : List Int) (hc : c.length < 1048577) (x : D) (ws : List Int) (hx : IsInts x ws) (hw : ws.length < 1048577) :
    Den PA f_impl_codeCode [.d (.agg [ints l]), .d (ints c), .d x] [.any, .any, .any] (.d (di (gcM l c ws))) := by
  refine den_go [] l_impl_codeCode ?_
  simp -implicitDefEqProofs (maxSteps := 1000000) (disch := (first | omega | (simp only [go_sem] <;> omega) | fail)) only [go_sem, ints, bools, mat, c_impl_codeCode, gcM]
  have yc := d_impl_wordCode l hl x ws hx hw; first | refine goC_call [.r, .r] yc ?_ | refine goOC_call [.r, .r] yc ?_
  by_cases h : wcM l ws = 0
  · rw [h]
    have y1 := kc [.r, .r] (d_impl_isCode l (wcM_space h).1 c hc); exact go_e0
  · rw [if_neg h]
    generalize wcM l ws = a at h
    repeat' (first | simp -implicitDefEqProofs (maxSteps := 1000000) (disch := (first | omega | (simp only [go_sem] <;> omega) | fail)) only [go_sem, ints, bools, mat] | ((first | apply goIf_b | apply goG_b | apply goTG_b | apply goOG_b) <;> intro h <;> ((try simp only [hnq] at h); (try simp only [h]); (try simp only [hnr] at h))))
    omega
theorem areW_nil (l : List Int) : areW l [] = true := rfl
theorem wcM_nil (l : List Int) : wcM l [] = if isSpaceM l then 0 else 1 := by simp [wcM, areW]
abbrev ggM (l c : List Int) : Int := if isSpaceM l then (if isCodeM l c then 0 else 2) else 1
theorem gcM_nil (l c : List Int) : gcM l c [] = ggM l c := by
  simp only [gcM, wcM_nil]
  by_cases h : isSpaceM l = true
  · simp [h]
  · simp [h]
theorem ggM_ok {l c : List Int} (h : ggM l c = 0) : isSpaceM l = true ∧ isCodeM l c = true := by
  rw [← gcM_nil] at h; exact ⟨(gcM_ok h).1, (gcM_ok h).2.2⟩
theorem d_spec_l01Given (l : List Int) (hl : l.length < 1048577) (c : List Int) (hc : c.length < 1048577) :
    Den PA f_spec_l01Given [.d (.agg [ints l]), .d (ints c)] [.any, .any] (.d (di (ggM l c))) := by
  refine den_go [] l_spec_l01Given ?_
  simp -implicitDefEqProofs (maxSteps := 1000000) (disch := (first | omega | (simp only [go_sem] <;> omega) | fail)) only [go_sem, ints, bools, mat, c_spec_l01Given, ggM]
  have yc := d_spec_l01Is l hl; first | refine goC_call [.r] yc ?_ | refine goOC_call [.r] yc ?_
  repeat' (first | simp -implicitDefEqProofs (maxSteps := 1000000) (disch := (first | omega | (simp only [go_sem] <;> omega) | fail)) only [go_sem, ints, bools, mat] | ((first | apply goIf_b | apply goG_b | apply goTG_b | apply goOG_b) <;> intro h <;> ((try simp only [hnq] at h); (try simp only [h]); (try simp only [hnr] at h))))
  have yc := d_spec_l01Code l h c hc; first | refine goC_call [.r, .r] yc ?_ | refine goOC_call [.r, .r] yc ?_
  exact go_e0
theorem flat_dig (ds : List (List Int)) : flat (ds.map fun d => D.agg ((pad8 d).map dy)) = ds.flatMap fun d => (pad8 d).map dy := by
  induction ds with
  | nil => rfl
  | cons d r ih => simp only [flat, List.map_cons, List.flatMap_cons] at ih ⊢; rw [ih]; rfl
theorem drop_dig (ds : List (List Int)) : ∀ i, i < ds.length → ((ds.flatMap fun d => (pad8 d).map dy).drop (i * 8)).take 8 = (pad8 (ds.getD i [])).map dy := by
  induction ds with
  | nil => intro i hi; simp at hi
  | cons d r ih =>
    intro i hi
    rcases i with _ | i
    · rw [List.flatMap_cons, Nat.zero_mul, List.drop_zero, List.take_left' (by simp [pad8_len])]; rfl
    · rw [List.flatMap_cons, Nat.succ_mul, Nat.add_comm, ← List.drop_drop, List.drop_left' (by simp [pad8_len]), ih i (by simpa using hi)]; rfl
theorem len_dig (ds : List (List Int)) : (ds.flatMap fun d => (pad8 d).map dy).length = ds.length * 8 := by
  induction ds with
  | nil => rfl
  | cons d r ih => simp [List.flatMap_cons, ih, Nat.succ_mul, Nat.add_comm, pad8_len]
abbrev digs (ds : List (List Int)) : List D := ds.map fun d => D.agg ((pad8 d).map dy)
@[go_sem] theorem ldC_dig {ds : List (List Int)} {i : Nat} (h : i < ds.length) : ldC true 8 (flat (ds.map fun d => D.agg ((pad8 d).map dy))) (i * 8) = some (.d (.agg ((pad8 (ds.getD i [])).map dy))) := by
  rw [flat_dig]
  have h1 := drop_dig ds i h
  have h2 := len_dig ds
  unfold ldC
  rw [if_pos rfl]
  split
  · rename_i hc
    rw [hc.1, List.drop_zero, List.take_of_length_le (by omega)] at h1
    rw [h1]
  · rw [if_pos (by omega), h1]
@[go_sem] theorem get_dig {ds : List (List Int)} {i : Nat} (h : i < ds.length) : (ds.map fun d => D.agg ((pad8 d).map dy))[i]? = some (D.agg ((pad8 (ds.getD i [])).map dy)) := by simp [h]
@[go_sem] theorem app_dig (ds : List (List Int)) (d : List Int) : (ds.map fun d => D.agg ((pad8 d).map dy)) ++ [D.agg ((pad8 d).map dy)] = (ds ++ [d]).map fun d => D.agg ((pad8 d).map dy) := by simp
@[go_sem] theorem mul_mod8 (i : Nat) : i * 8 % 8 = 0 := Nat.mul_mod_left i 8
@[go_sem] theorem mul_div8 (i : Nat) : i * 8 / 8 = i := by omega
def digsM (l c : List Int) : List (List Int) := c.map (digM l)
@[go_sem] theorem digsM_len (l c : List Int) : (digsM l c).length = c.length := by simp [digsM]
theorem digsM_get (l c : List Int) {i : Nat} (h : i < c.length) : (digsM l c).getD i [] = digM l (c.getD i 0) := by simp [digsM, h]
theorem digsM_step (l c : List Int) {j : Nat} (h : j < c.length) : digsM l (c.take (j + 1)) = digsM l (c.take j) ++ [digM l (c.getD j 0)] := by
  rw [take_one c h]; simp [digsM]
theorem d_impl_digitsOfAll (l : List Int) (hs : isSpaceM l = true) (c : List Int) (hc : c.length < 1048577) (hz : ∀ j, j < c.length → 0 ≤ c.getD j 0 ∧ c.getD j 0 < 1000000000000) :
    Den PA f_impl_digitsOfAll [.d (.agg [ints l]), .d (ints c)] [.any, .any] (.own 8 (digs (digsM l c))) := by
  refine den_go [] l_impl_digitsOfAll ?_
  refine go_c0 ?_
  refine go_loop (fun (j : Nat) => ⟨[(2, .ref 0 0), (5, .sl 1 0 j 8), (9, .d (ints c)), (10, .d (di c.length)), (11, .d (di j))], [some (.var [ints l]), some (.dat 8 (digs (digsM l (c.take j))))]⟩) (fun j => j ≤ c.length) (fun j => c.length - j) 0 ?_ ?_ ?_
  · exact go_r0
  · simp
  · rintro j hj J hJ
    have hst := fun h => digsM_step l c (j := j) h
    have hlen : (c.take j).length = j := by simp; omega
    have hlen2 : (digsM l (c.take j)).length = j := by rw [digsM_len]; exact hlen
    repeat' (first | simp -implicitDefEqProofs (maxSteps := 1000000) (disch := (first | omega | (simp only [go_sem] <;> omega) | fail)) only [go_sem, ints, bools, mat] | ((first | apply goIf_b | apply goG_b | apply goTG_b | apply goOG_b) <;> intro h <;> ((try simp only [hnq] at h); (try simp only [h]); (try simp only [hnr] at h))))
    · have y1 := kc [.r, .r] (d_impl_digitsOf l hs (c.getD j 0) (hz j (by omega)).1 (hz j (by omega)).2); refine go_c0 ?_
      refine hJ (j + 1) (by omega) (by omega) _ ?_
      simp -implicitDefEqProofs (maxSteps := 1000000) (disch := (first | omega | (simp only [go_sem] <;> omega) | fail)) only [go_sem, ints, bools, mat]
      rw [hst (by omega)]; rfl
def allW (l : List Int) : List Int := (List.range (prodM l).toNat).map fun (w : Nat) => (w : Int)
@[go_sem] theorem allW_len (l : List Int) : (allW l).length = (prodM l).toNat := by simp [allW]
theorem allW_get (l : List Int) {i : Nat} (h : i < (prodM l).toNat) : (allW l).getD i 0 = i := by simp [allW, h]
theorem take_allW (l : List Int) {j : Nat} (h : j < (prodM l).toNat) : (allW l).take (j + 1) = (allW l).take j ++ [(j : Int)] := by
  rw [take_one _ (by rw [allW_len]; exact h), allW_get l h]
theorem d_impl_allDigits (l : List Int) (hs : isSpaceM l = true) : Den PA f_impl_allDigits [.d (.agg [ints l])] [.any] (.own 8 (digs (digsM l (allW l)))) := by
  have hn := isSpaceM_n hs
  have hp := isSpaceM_prod hs
  have hp1 := prodM_pos (isSpaceM_szs hs)
  refine den_go [] l_impl_allDigits ?_
  have y1 := kc [.r] (d_impl_count l hs); refine go_c0 ?_
  refine go_loop (fun (j : Nat) => ⟨[(1, .ref 0 0), (3, .sl 1 0 j 8), (7, .d (di (prodM l))), (8, .d (di j))], [some (.var [ints l]), some (.dat 8 (digs (digsM l ((allW l).take j))))]⟩) (fun j => j ≤ (prodM l).toNat) (fun j => (prodM l).toNat - j) 0 ?_ ?_ ?_
  · exact go_r0
  · simp
  · rintro j hj J hJ
    have hal := allW_len l
    have hlen2 : (digsM l ((allW l).take j)).length = j := by rw [digsM_len, List.length_take, hal]; omega
    have hlen3 : (digsM l (allW l)).length = (prodM l).toNat := by rw [digsM_len, hal]
    repeat' (first | simp -implicitDefEqProofs (maxSteps := 1000000) (disch := (first | omega | (simp only [go_sem] <;> omega) | fail)) only [go_sem, ints, bools, mat] | ((first | apply goIf_b | apply goG_b | apply goTG_b | apply goOG_b) <;> intro h <;> ((try simp only [hnq] at h); (try simp only [h]); (try simp only [hnr] at h))))
    · have y1 := kc [.r, .r] (d_impl_digitsOf l hs j (by omega) (by omega)); refine go_c0 ?_
      refine hJ (j + 1) (by omega) (by omega) _ ?_
      simp -implicitDefEqProofs (maxSteps := 1000000) (disch := (first | omega | (simp only [go_sem] <;> omega) | fail)) only [go_sem, ints, bools, mat]
      rw [digsM_step _ _ (by rw [hal]; omega), allW_get l (by omega)]; rfl
abbrev lstR (b : Int) (v : List Int) : R := if b = 0 then .tup [.own 1 (v.map di), .d (di 0)] else .tup [.d nil, .d (di b)]
theorem lstR_ok {b : Int} {v : List Int} (h : b = 0) : lstR b v = .tup [.own 1 (v.map di), .d (di 0)] := by simp [lstR, h]
theorem lstR_no {b : Int} {v : List Int} (h : ¬ b = 0) : lstR b v = .tup [.d nil, .d (di b)] := by simp [lstR, h]
def histS (o : List Int) (d : Int) : List Int := o.set d.toNat (o.getD d.toNat 0 + 1)
def hist (n : Nat) (ds : List Int) : List Int := ds.foldl histS (List.replicate n 0)
theorem foldl_hist_len (ds : List Int) : ∀ o : List Int, (ds.foldl histS o).length = o.length := by
  induction ds with
  | nil => intro o; rfl
  | cons d r ih => intro o; rw [List.foldl_cons, ih]; simp [histS]
@[go_sem] theorem hist_len (n : Nat) (ds : List Int) : (hist n ds).length = n := by rw [hist, foldl_hist_len]; simp
theorem foldl_hist_bnd (ds : List Int) : ∀ (o : List Int) (b : Int), (∀ i, 0 ≤ o.getD i 0 ∧ o.getD i 0 ≤ b) → 0 ≤ b → ∀ i, 0 ≤ (ds.foldl histS o).getD i 0 ∧ (ds.foldl histS o).getD i 0 ≤ b + ds.length := by
  induction ds with
  | nil => intro o b h hb i; simpa using h i
  | cons d r ih =>
    intro o b h hb i
    rw [List.foldl_cons]
    have := ih (histS o d) (b + 1) (fun i => by
      have h1 := h d.toNat
      have h2 := h i
      simp only [histS, List.getD_eq_getElem?_getD, List.getElem?_set] at h1 h2 ⊢
      split
      · split
        · simp; omega
        · simp; omega
      · omega) (by omega) i
    simp only [List.length_cons]; omega
theorem hist_bnd (n : Nat) (ds : List Int) (i : Nat) : 0 ≤ (hist n ds).getD i 0 ∧ (hist n ds).getD i 0 ≤ ds.length := by
  have := foldl_hist_bnd ds (List.replicate n 0) 0 (fun i => by
    rw [List.getD_eq_getElem?_getD, List.getElem?_replicate]; split <;> simp) (by omega) i
  simpa [hist] using this
theorem hist_step (n : Nat) (ds : List Int) (d : Int) : hist n (ds ++ [d]) = (hist n ds).set d.toNat ((hist n ds).getD d.toNat 0 + 1) := by
  simp only [hist, List.foldl_append, List.foldl_cons, List.foldl_nil, histS]
theorem areW_get {l ws : List Int} (h : areW l ws = true) {j : Nat} (hj : j < ws.length) : 0 ≤ ws.getD j 0 ∧ ws.getD j 0 < prodM l := (areW_ok l ws).1 h j hj
theorem isCodeM_get {l c : List Int} (h : isCodeM l c = true) {j : Nat} (hj : j < c.length) : 0 ≤ c.getD j 0 ∧ c.getD j 0 < prodM l := ((isCodeM_ok l c).1 h).1 j hj
theorem d_impl_codeCode0 (l : List Int) (hl : l.length < 1048577) (c : List Int) (hc : c.length < 1048577) :
    Den PA f_impl_codeCode [.d (.agg [ints l]), .d (ints c), .d nil] [.any, .any, .any] (.d (di (ggM l c))) := by
  rw [← gcM_nil]; exact d_impl_codeCode l hl c hc nil [] (.inr ⟨rfl, rfl⟩) (by simp)
theorem farM_comm : ∀ (a b : List Int), farM a b = farM b a
  | [], [] => rfl
  | [], _ :: _ => rfl
  | _ :: _, [] => rfl
  | x :: a, y :: b => by
    simp only [farM, farM_comm a b]
    by_cases h : x = y
    · simp [h]
    · rw [if_neg h, if_neg (fun e => h e.symm)]
theorem digM_zero : ∀ l : List Int, digM l 0 = List.replicate l.length 0
  | [] => rfl
  | q :: r => by simp [digM, digM_zero r, List.replicate_succ]
theorem pad8_zero {l : List Int} (h : l.length ≤ 8) : pad8 (digM l 0) = [0, 0, 0, 0, 0, 0, 0, 0] := by
  rw [digM_zero, pad8_eq (by simpa using h), List.length_replicate, List.replicate_append_replicate, show l.length + (8 - l.length) = 8 by omega]; rfl
theorem d_impl_far0 (l : List Int) (w : Int) (h8 : l.length ≤ 8) : Den PA f_impl_far [.d (dig (digM l w)), .d (.agg [dy 0, dy 0, dy 0, dy 0, dy 0, dy 0, dy 0, dy 0])] [.any, .any] (.d (di (distM l 0 w))) := by
  have := d_impl_far (digM l w) (digM l 0) (by rw [digM_len, digM_len]) (by rw [digM_len]; omega)
  rw [dig, dig, pad8_zero h8, farM_comm] at this
  exact this
def wcountM (l c : List Int) : List Int := hist (l.length + 1) (c.map fun w => distM l 0 w)
theorem code_small {l c : List Int} (hs : isSpaceM l = true) (hcc : isCodeM l c = true) : ∀ j, j < c.length → 0 ≤ c.getD j 0 ∧ c.getD j 0 < 1000000000000 := fun j hj => by
  have := isCodeM_get hcc hj; have := isSpaceM_prod hs; omega
theorem d_impl_weightCounts (l c : List Int) (hs : isSpaceM l = true) (hc : c.length < 1048577) (hz : ∀ j, j < c.length → 0 ≤ c.getD j 0 ∧ c.getD j 0 < 1000000000000) : Den PA f_impl_weightCounts [.d (.agg [ints l]), .d (ints c)] [.any, .any] (.own 1 ((wcountM l c).map di)) := by
  have hn := isSpaceM_n hs
  refine den_go [] l_impl_weightCounts ?_
  have y1 := kc [.r] (d_impl_places l (by omega)); have y2 := kc [.r, .r] (d_impl_digitsOfAll l hs c hc hz); refine go_c0 ?_
  refine go_loop (fun (j : Nat) => ⟨[(5, .sl 0 0 (l.length + 1) 1), (14, .sl 1 0 c.length 8), (15, .d (di c.length)), (16, .d (di j))], [some (.dat 1 ((hist (l.length + 1) ((c.take j).map fun w => distM l 0 w)).map di)), some (.dat 8 (digs (digsM l c)))]⟩) (fun j => j ≤ c.length) (fun j => c.length - j) 0 ?_ ?_ ?_
  · exact go_r0
  · simp
  · rintro j hj J hJ
    have hd := distM_bnd l 0 (c.getD j 0)
    have hb := hist_bnd (l.length + 1) ((c.take j).map fun w => distM l 0 w) (distM l 0 (c.getD j 0)).toNat
    have hln : ((c.take j).map fun w => distM l 0 w).length = j := by simp; omega
    have hg := fun h => digsM_get l c (i := j) h
    repeat' (first | simp -implicitDefEqProofs (maxSteps := 1000000) (disch := (first | omega | (simp only [go_sem] <;> omega) | fail)) only [go_sem, ints, bools, mat] | ((first | apply goIf_b | apply goG_b | apply goTG_b | apply goOG_b) <;> intro h <;> ((try simp only [hnq] at h); (try simp only [h]); (try simp only [hnr] at h))))
    · rw [hg (by omega)]
      have y1 := kc [.r, .r] (d_impl_far0 l (c.getD j 0) (by omega)); refine go_c0 ?_
      refine hJ (j + 1) (by omega) (by omega) _ ?_
      simp -implicitDefEqProofs (maxSteps := 1000000) (disch := (first | omega | (simp only [go_sem] <;> omega) | fail)) only [go_sem, ints, bools, mat]
      rw [take_one c (by omega), List.map_append, List.map_cons, List.map_nil, hist_step]; rfl
    · have : j = c.length := by omega
      subst this
      refine go_c0 ?_
      rfl
theorem d_spec_l05Counts (l c : List Int) (hs : isSpaceM l = true) (hc : c.length < 1048577) (hz : ∀ j, j < c.length → 0 ≤ c.getD j 0 ∧ c.getD j 0 < 1000000000000) : Den PA f_spec_l05Counts [.d (.agg [ints l]), .d (ints c)] [.any, .any] (.own 1 ((wcountM l c).map di)) := by
  have hn := isSpaceM_n hs
  refine den_go [] l_spec_l05Counts ?_
  refine go_c0 ?_
  refine go_loop (fun (j : Nat) => ⟨[(1, .d (ints c)), (2, .ref 0 0), (5, .sl 1 0 (l.length + 1) 1), (13, .d (di c.length)), (14, .d (di j))], [some (.var [ints l]), some (.dat 1 ((hist (l.length + 1) ((c.take j).map fun w => distM l 0 w)).map di))]⟩) (fun j => j ≤ c.length) (fun j => c.length - j) 0 ?_ ?_ ?_
  · exact go_r0
  · simp
  · rintro j hj J hJ
    have hd := distM_bnd l 0 (c.getD j 0)
    have hb := hist_bnd (l.length + 1) ((c.take j).map fun w => distM l 0 w) (distM l 0 (c.getD j 0)).toNat
    have hln : ((c.take j).map fun w => distM l 0 w).length = j := by simp; omega
    have hg := hz j
    repeat' (first | simp -implicitDefEqProofs (maxSteps := 1000000) (disch := (first | omega | (simp only [go_sem] <;> omega) | fail)) only [go_sem, ints, bools, mat] | ((first | apply goIf_b | apply goG_b | apply goTG_b | apply goOG_b) <;> intro h <;> ((try simp only [hnq] at h); (try simp only [h]); (try simp only [hnr] at h))))
    · have y1 := kc [.r, .r, .r] (d_spec_l01Distance l hs 0 (c.getD j 0) (by omega) (by omega) (by omega) (by omega)); refine go_c0 ?_
      refine hJ (j + 1) (by omega) (by omega) _ ?_
      simp -implicitDefEqProofs (maxSteps := 1000000) (disch := (first | omega | (simp only [go_sem] <;> omega) | fail)) only [go_sem, ints, bools, mat]
      rw [take_one c (by omega), List.map_append, List.map_cons, List.map_nil, hist_step]; rfl
    · have : j = c.length := by omega
      subst this
      refine go_c0 ?_
      rfl
theorem d_impl_WeightCounts (l c : List Int) (hl : l.length < 1048577) (hc : c.length < 1048577) : Den PA f_impl_WeightCounts [.d (.agg [ints l]), .d (ints c)] [.any, .any] (lstR (ggM l c) (wcountM l c)) := by
  refine den_go [] l_impl_WeightCounts ?_
  refine go_c0 ?_
  have yc := d_impl_codeCode0 l hl c hc; first | refine goC_call [.r, .r, .r] yc ?_ | refine goOC_call [.r, .r, .r] yc ?_
  by_cases h : ggM l c = 0
  · rw [lstR_ok h, h]
    obtain ⟨hs, hcc⟩ := ggM_ok h
    have y1 := kc [.r, .r] (d_impl_weightCounts l c hs hc (code_small hs hcc)); exact go_e0
  · rw [lstR_no h]
    generalize ggM l c = b at h
    repeat' (first | simp -implicitDefEqProofs (maxSteps := 1000000) (disch := (first | omega | (simp only [go_sem] <;> omega) | fail)) only [go_sem, ints, bools, mat] | ((first | apply goIf_b | apply goG_b | apply goTG_b | apply goOG_b) <;> intro h <;> ((try simp only [hnq] at h); (try simp only [h]); (try simp only [hnr] at h))))
    all_goals (exfalso; omega)
attribute [go_sem] Nat.sub_zero
def mn2 (a b : Int) : Int := if b < a then b else a
@[go_sem] theorem mnA_mn2 (a b : Int) : mnA (.d (di a)) (.d (di b)) = some (.d (di (mn2 a b))) := rfl
def mx2 (a b : Int) : Int := if a < b then b else a
@[go_sem] theorem mxA_mx2 (a b : Int) : mxA (.d (di a)) (.d (di b)) = some (.d (di (mx2 a b))) := rfl
theorem chk_intro {c p : Prop} (h : c) (k : p) : chk c p := ⟨h, k⟩
theorem fnOK_mk {P : Program} {sto : Sto} {f : FuncId} {caps : List AV} {g : List D → Value → Prop} (h : okF P f) (boxes : List (List D)) (hb : caps.map (boxR sto) = boxes.map some) (hg : ∀ ds r, g ds r → ∃ rs', Den P f (ds.map .d ++ boxes.map .box) rs' (.d (.v r))) :
    FnOK P sto (.fn f caps) g := ⟨h, boxes, hb, hg⟩
def fnD (n : Nat) (p : List Int → Bool) : List D → Value → Prop := fun ds r => ∃ a : List Int, a.length = n ∧ (∀ i, 0 ≤ a.getD i 0 ∧ a.getD i 0 < 4) ∧ ds = [D.agg ((pad8 a).map dy)] ∧ r = .bool (p a)
theorem digM_bnd : ∀ {l : List Int} (w : Int), szs l → ∀ i, 0 ≤ (digM l w).getD i 0 ∧ (digM l w).getD i 0 < 4
  | [], w, h, i => by simp [digM]
  | q :: r, w, h, 0 => by
    have h2 := h 0 (by simp)
    simp at h2
    have := mod_bnd (x := w / prodM r) h2
    simp [digM]; omega
  | q :: r, w, h, i + 1 => by simpa [digM] using digM_bnd w (szs_tail h) i
theorem fnD_mk {l : List Int} (hs : isSpaceM l = true) (p : List Int → Bool) (w : Int) : fnD l.length p [D.agg ((pad8 (digM l w)).map dy)] (.bool (p (digM l w))) := ⟨digM l w, digM_len l w, digM_bnd w (isSpaceM_szs hs), rfl, rfl⟩
def thoseM (l : List Int) (p : List Int → Bool) : List Int := (allW l).filter fun w => p (digM l w)
theorem filter_len_le {α : Type} (p : α → Bool) (l : List α) (n : Nat) (h : l.length ≤ n) : (l.filter p).length ≤ n := Nat.le_trans (List.length_filter_le p l) h
theorem d_impl_those (l : List Int) (hs : isSpaceM l = true) (p : List Int → Bool) (g : List D → Value → Prop) (hg : ∀ w, g [D.agg ((pad8 (digM l w)).map dy)] (.bool (p (digM l w)))) :
    Den PA f_impl_those [.d (.agg [ints l]), .pfn g] [.any, .any] (.own 1 ((thoseM l p).map di)) := by
  have hn := isSpaceM_n hs
  have hp := isSpaceM_prod hs
  have hp1 := prodM_pos (isSpaceM_szs hs)
  have hal := allW_len l
  refine den_go [] l_impl_those ?_
  have y1 := kc [.r] (d_impl_allDigits l hs); refine go_c0 ?_
  refine go_loop (fun (j : Nat) => ⟨[(1, .pfn g), (5, .sl 0 0 (((allW l).take j).filter fun w => p (digM l w)).length 1), (10, .sl 1 0 (prodM l).toNat 8), (11, .d (di (prodM l).toNat)), (12, .d (di j))], [some (.dat 1 ((((allW l).take j).filter fun w => p (digM l w)).map di)), some (.dat 8 (digs (digsM l (allW l))))]⟩) (fun j => j ≤ (prodM l).toNat) (fun j => (prodM l).toNat - j) 0 ?_ ?_ ?_
  · exact go_r0
  · simp
  · rintro j hj J hJ
    have hgd := fun h => digsM_get l (allW l) (i := j) h
    have hw := fun h => allW_get l (i := j) h
    have hfl := filter_len_le (fun w => p (digM l w)) ((allW l).take j) j (by simp; omega)
    repeat' (first | simp -implicitDefEqProofs (maxSteps := 1000000) (disch := (first | omega | (simp only [go_sem] <;> omega) | fail)) only [go_sem, ints, bools, mat] | ((first | apply goIf_b | apply goG_b | apply goTG_b | apply goOG_b) <;> intro h <;> ((try simp only [hnq] at h); (try simp only [h]); (try simp only [hnr] at h))))
    · rw [hgd (by omega), hw (by omega)]
      refine goV_pfn [D.agg ((pad8 (digM l j)).map dy)] (.bool (p (digM l j))) (by simp -implicitDefEqProofs (maxSteps := 1000000) (disch := (first | omega | (simp only [go_sem] <;> omega) | fail)) only [go_sem, ints, bools, mat]) rfl (hg _) ?_
      repeat' (first | simp -implicitDefEqProofs (maxSteps := 1000000) (disch := (first | omega | (simp only [go_sem] <;> omega) | fail)) only [go_sem, ints, bools, mat] | ((first | apply goIf_b | apply goG_b | apply goTG_b | apply goOG_b) <;> intro h <;> ((try simp only [hnq] at h); (try simp only [h]); (try simp only [hnr] at h))))
      · refine hJ (j + 1) (by omega) (by omega) _ ?_
        simp -implicitDefEqProofs (maxSteps := 1000000) (disch := (first | omega | (simp only [go_sem] <;> omega) | fail)) only [go_sem, ints, bools, mat]
        rw [take_allW l (by omega), List.filter_append]; simp [h]
      · refine hJ (j + 1) (by omega) (by omega) _ ?_
        simp -implicitDefEqProofs (maxSteps := 1000000) (disch := (first | omega | (simp only [go_sem] <;> omega) | fail)) only [go_sem, ints, bools, mat]
        rw [take_allW l (by omega), List.filter_append]; simp [h]
    · have : j = (prodM l).toNat := by omega
      subst this
      refine go_c0 ?_
      rfl
theorem d_slices_IndexFunc_dig (ds : List (List Int)) (p : List Int → Bool) (g : List D → Value → Prop) (hg : ∀ i, i < ds.length → g [D.agg ((pad8 (ds.getD i [])).map dy)] (.bool (p (ds.getD i [])))) (hl : ds.length < 1048577) :
    Den PA f_slices_IndexFunc___impl_digits_impl_digits_ [.d (.lst 8 (digs ds)), .pfn g] [.any, .any] (.d (di (match ds.findIdx? p with | some j => j | none => -1))) := by
  refine den_go [] l_slices_IndexFunc___impl_digits_impl_digits_ ?_
  refine go_c0 ?_
  refine go_loop (fun (j : Nat) => ⟨[(0, .d (.lst 8 (digs ds))), (1, .pfn g), (7, .d (di ds.length)), (8, .d (di j))], []⟩) (fun j => j ≤ ds.length ∧ ∀ i, i < j → p (ds.getD i []) = false) (fun j => ds.length - j) 0 ?_ ?_ ?_
  · exact go_r0
  · simp
  · rintro j ⟨hj, hi⟩ J hJ
    repeat' (first | simp -implicitDefEqProofs (maxSteps := 1000000) (disch := (first | omega | (simp only [go_sem] <;> omega) | fail)) only [go_sem, ints, bools, mat] | ((first | apply goIf_b | apply goG_b | apply goTG_b | apply goOG_b) <;> intro h <;> ((try simp only [hnq] at h); (try simp only [h]); (try simp only [hnr] at h))))
    · refine goV_pfn [D.agg ((pad8 (ds.getD j [])).map dy)] (.bool (p (ds.getD j []))) (by simp -implicitDefEqProofs (maxSteps := 1000000) (disch := (first | omega | (simp only [go_sem] <;> omega) | fail)) only [go_sem, ints, bools, mat]) rfl (hg j (by omega)) ?_
      repeat' (first | simp -implicitDefEqProofs (maxSteps := 1000000) (disch := (first | omega | (simp only [go_sem] <;> omega) | fail)) only [go_sem, ints, bools, mat] | ((first | apply goIf_b | apply goG_b | apply goTG_b | apply goOG_b) <;> intro h <;> ((try simp only [hnq] at h); (try simp only [h]); (try simp only [hnr] at h))))
      · have e : ds.findIdx? p = some j := by
          rw [List.findIdx?_eq_some_iff_getElem]
          refine ⟨by omega, by simpa [show j < ds.length by omega] using h, fun i hi' => ?_⟩
          have := hi i hi'
          simpa [show i < ds.length by omega] using this
        rw [e]
      · refine hJ (j + 1) ⟨by omega, all_ext hi h⟩ (by omega) _ go_r0
    · have e : ds.findIdx? p = none := by
        rw [List.findIdx?_eq_none_iff]
        intro x hx
        obtain ⟨i, hi', rfl⟩ := List.mem_iff_getElem.1 hx
        have := hi i (by omega)
        simpa [hi'] using this
      rw [e]
theorem d_slices_ContainsFunc_dig (ds : List (List Int)) (p : List Int → Bool) (g : List D → Value → Prop) (hg : ∀ i, i < ds.length → g [D.agg ((pad8 (ds.getD i [])).map dy)] (.bool (p (ds.getD i [])))) (hl : ds.length < 1048577) :
    Den PA f_slices_ContainsFunc___impl_digits_impl_digits_ [.d (.lst 8 (digs ds)), .pfn g] [.any, .any] (.d (db (ds.any p))) := by
  refine den_go [] l_slices_ContainsFunc___impl_digits_impl_digits_ ?_
  refine go_c0 ?_
  first | refine goC_of [.r, .g g] (d_slices_IndexFunc_dig ds p g hg hl) (by first | (simp -implicitDefEqProofs (maxSteps := 1000000) (disch := (first | omega | (simp only [go_sem] <;> omega) | fail)) only [go_sem, ints, bools, mat] <;> rfl) | rfl) (by first | (simp -implicitDefEqProofs (maxSteps := 1000000) (disch := (first | omega | (simp only [go_sem] <;> omega) | fail)) only [go_sem, ints, bools, mat] <;> rfl) | rfl) (⟨trivial, fun _ _ h => h, trivial⟩) (by first | (simp -implicitDefEqProofs (maxSteps := 1000000) (disch := (first | omega | (simp only [go_sem] <;> omega) | fail)) only [go_sem, ints, bools, mat] <;> rfl) | rfl) ?_ | refine goOC_of [.r, .g g] (d_slices_IndexFunc_dig ds p g hg hl) (by first | (simp -implicitDefEqProofs (maxSteps := 1000000) (disch := (first | omega | (simp only [go_sem] <;> omega) | fail)) only [go_sem, ints, bools, mat] <;> rfl) | rfl) (by first | (simp -implicitDefEqProofs (maxSteps := 1000000) (disch := (first | omega | (simp only [go_sem] <;> omega) | fail)) only [go_sem, ints, bools, mat] <;> rfl) | rfl) (by first | (simp -implicitDefEqProofs (maxSteps := 1000000) (disch := (first | omega | (simp only [go_sem] <;> omega) | fail)) only [go_sem, ints, bools, mat] <;> rfl) | rfl) (⟨trivial, fun _ _ h => h, trivial⟩) (by first | (simp -implicitDefEqProofs (maxSteps := 1000000) (disch := (first | omega | (simp only [go_sem] <;> omega) | fail)) only [go_sem, ints, bools, mat] <;> rfl) | rfl) ?_
  refine go_c0 ?_
  refine dbv ?_
  cases h : ds.findIdx? p with
  | none =>
    rw [List.findIdx?_eq_none_iff] at h
    symm
    simpa using h
  | some j =>
    obtain ⟨hj, h1, _⟩ := List.findIdx?_eq_some_iff_getElem.1 h
    symm
    simpa using ⟨ds[j], List.getElem_mem hj, h1⟩
theorem pad8_get {ds : List Int} (h : ds.length ≤ 8) (i : Nat) : (pad8 ds).getD i 0 = ds.getD i 0 := by
  rw [pad8_eq h, List.getD_eq_getElem?_getD, List.getElem?_append]
  split
  · rw [← List.getD_eq_getElem?_getD]
  · rename_i hge
    rw [List.getElem?_replicate]
    have : ds.getD i 0 = 0 := by simp [List.getD_eq_getElem?_getD, show ds[i]? = none by simp; omega]
    rw [this]; split <;> simp
def or2 (x d : Int) : Int := ((x.toNat ||| (2 ^ d.toNat : Int).toNat : Nat) : Int)
def orN (t a : List Int) : Nat → List Int
  | 0 => t
  | j + 1 => (orN t a j).set j (or2 ((orN t a j).getD j 0) (a.getD j 0))
@[go_sem] theorem orN_len (t a : List Int) : ∀ j, (orN t a j).length = t.length
  | 0 => rfl
  | j + 1 => by rw [orN, List.length_set, orN_len t a j]
def lsN (l c : List Int) : Nat → List Int
  | 0 => List.replicate l.length 0
  | j + 1 => orN (lsN l c j) (digM l (c.getD j 0)) l.length
@[go_sem] theorem lsN_len (l c : List Int) : ∀ j, (lsN l c j).length = l.length
  | 0 => by simp [lsN]
  | j + 1 => by rw [lsN, orN_len, lsN_len l c j]
def cntN (l c : List Int) (r u : Int) : Nat → Int
  | 0 => 0
  | j + 1 => cntN l c r u j + (if distM l (c.getD j 0) u ≤ r then 1 else 0)
def mixT (l c : List Int) (r : Int) (j k : Nat) : List Int := (List.range (prodM l).toNat).map fun (i : Nat) => cntN l c r i (if i < k then j + 1 else j)
@[go_sem] theorem mixT_len (l c : List Int) (r : Int) (j k : Nat) : (mixT l c r j k).length = (prodM l).toNat := by simp [mixT]
def timesN (l c : List Int) (r : Int) (j : Nat) : List Int := mixT l c r j 0
@[go_sem] theorem timesN_len (l c : List Int) (r : Int) (j : Nat) : (timesN l c r j).length = (prodM l).toNat := mixT_len _ _ _ _ _
def ballM (l : List Int) (w r : Int) : List Int := (allW l).filter fun u => decide (distM l u w ≤ r)
theorem allW_nodup (l : List Int) : (allW l).Nodup := by
  unfold allW
  refine List.Pairwise.map _ ?_ (List.nodup_range (n := (prodM l).toNat))
  intro a b h e
  exact h (by omega)
theorem allW_mem (l : List Int) (u : Int) : u ∈ allW l ↔ 0 ≤ u ∧ u < (prodM l).toNat := by
  unfold allW
  rw [List.mem_map]
  constructor
  · rintro ⟨i, hi, rfl⟩; have := List.mem_range.1 hi; omega
  · rintro ⟨h1, h2⟩; exact ⟨u.toNat, List.mem_range.2 (by omega), by omega⟩
theorem ballM_mem (l : List Int) (w r u : Int) : u ∈ ballM l w r ↔ (0 ≤ u ∧ u < (prodM l).toNat) ∧ distM l u w ≤ r := by
  unfold ballM; rw [List.mem_filter, allW_mem]; simp
attribute [go_sem] isnA List.drop_length
def and2 (x y : Int) : Int := ((x.toNat &&& y.toNat : Nat) : Int)
def andM (t u : List Int) : List Int := (List.range t.length).map fun (i : Nat) => and2 (t.getD i 0) (u.getD i 0)
@[go_sem] theorem andM_len (t u : List Int) : (andM t u).length = t.length := by simp [andM]
theorem mixS_step {α : Type} {A t : List α} (d : α) {j : Nat} (h : A.length = t.length) (hj : j < t.length) : (A.take j ++ t.drop j).set j (A.getD j d) = A.take (j + 1) ++ t.drop (j + 1) := by
  apply List.ext_getElem
  · simp; omega
  · intro i h1 h2
    simp at h1 h2
    rw [List.getElem_set]
    split
    · subst_vars; simp [List.getElem_append, h, hj]
      intro; omega
    · simp only [List.getElem_append, List.length_take]
      split <;> split
      · simp
      · omega
      · omega
      · simp only [List.getElem_drop]; congr 1; omega
theorem mixS_get {α : Type} {A t : List α} (d : α) {j : Nat} (h : A.length = t.length) (hj : j < t.length) : (A.take j ++ t.drop j).getD j d = t.getD j d := by
  rw [List.getD_eq_getElem?_getD, List.getElem?_append, if_neg (by simp; omega), List.getElem?_drop, List.getD_eq_getElem?_getD]
  congr 2; simp; omega
def sN (a b : List Int) : Nat → Int
  | 0 => 0
  | j + 1 => sN a b j + a.getD j 0 * b.getD j 0
def in4 (a : List Int) : Prop := ∀ i, 0 ≤ a.getD i 0 ∧ a.getD i 0 < 4
theorem mul_small {x y : Int} (hx : 0 ≤ x ∧ x < 4) (hy : 0 ≤ y ∧ y < 4) : 0 ≤ x * y ∧ x * y ≤ 9 := by
  refine ⟨Int.mul_nonneg hx.1 hy.1, ?_⟩
  have := Int.mul_le_mul (show x ≤ 3 by omega) (show y ≤ 3 by omega) hy.1 (by omega)
  simpa using this
theorem sN_bnd {a b : List Int} (ha : in4 a) (hb : in4 b) : ∀ j : Nat, 0 ≤ sN a b j ∧ sN a b j ≤ 9 * j
  | 0 => by simp [sN]
  | j + 1 => by have := sN_bnd ha hb j; have := mul_small (ha j) (hb j); rw [sN]; omega
theorem sN_comm (a b : List Int) : ∀ j : Nat, sN a b j = sN b a j
  | 0 => rfl
  | j + 1 => by rw [sN, sN, sN_comm a b j, Int.mul_comm]
theorem sN_congr {a b c d : List Int} (h1 : ∀ i, a.getD i 0 = c.getD i 0) (h2 : ∀ i, b.getD i 0 = d.getD i 0) : ∀ j : Nat, sN a b j = sN c d j
  | 0 => rfl
  | j + 1 => by rw [sN, sN, sN_congr h1 h2 j, h1, h2]
theorem sN_more {a b : List Int} (k : Nat) : sN a b (a.length + k) = sN a b a.length := by
  induction k with
  | zero => rfl
  | succ k ih =>
    have : a.getD (a.length + k) 0 = 0 := by simp
    rw [← Nat.add_assoc, sN, ih, this, Int.zero_mul, Int.add_zero]
theorem in4_pad {a : List Int} (h8 : a.length ≤ 8) (h : in4 a) : in4 (pad8 a) := fun i => by rw [pad8_get h8]; exact h i
theorem d_impl_products (l a b : List Int) (hs : isSpaceM l = true) (ha8 : a.length ≤ 8) (hb8 : b.length ≤ 8) (ha : in4 a) (hb : in4 b) :
    Den PA f_impl_products [.d (.agg [ints l]), .d (dig a), .d (dig b)] [.any, .any, .any] (.d (di (sN a b a.length % l.getD 0 0))) := by
  have hn := isSpaceM_n hs
  have hq := isSpaceM_q hs 0 (by omega)
  have ea := pad8_len a
  have eb := pad8_len b
  have e8 : sN (pad8 a) (pad8 b) 8 = sN a b a.length := by
    rw [sN_congr (pad8_get ha8) (pad8_get hb8) 8, show 8 = a.length + (8 - a.length) by omega, sN_more]
  refine den_go [] l_impl_products ?_
  refine go_c0 ?_
  refine go_loop (fun (j : Nat) => ⟨[(3, .ref 0 0), (5, .ref 1 0), (7, .d (di (sN (pad8 a) (pad8 b) j))), (10, .d (dig a)), (11, .d (di j))], [some (.var [ints l]), some (.var ((pad8 b).map dy))]⟩) (fun j => j ≤ 8) (fun j => 8 - j) 0 ?_ ?_ ?_
  · exact go_r0
  · simp
  · rintro j hj J hJ
    have hs' := sN_bnd (in4_pad ha8 ha) (in4_pad hb8 hb) j
    have hx := in4_pad ha8 ha j
    have hy := in4_pad hb8 hb j
    have hm := mul_small hx hy
    repeat' (first | simp -implicitDefEqProofs (maxSteps := 1000000) (disch := (first | omega | (simp only [go_sem] <;> omega) | fail)) only [go_sem, ints, bools, mat] | ((first | apply goIf_b | apply goG_b | apply goTG_b | apply goOG_b) <;> intro h <;> ((try simp only [hnq] at h); (try simp only [h]); (try simp only [hnr] at h))))
    · refine hJ (j + 1) (by omega) (by omega) _ ?_
      simp -implicitDefEqProofs (maxSteps := 1000000) (disch := (first | omega | (simp only [go_sem] <;> omega) | fail)) only [go_sem, ints, bools, mat]
      rw [sN]; rfl
    · have : j = 8 := by omega
      subst this
      rw [e8]
theorem d_spec_l05Product (l : List Int) (hs : isSpaceM l = true) (u w : Int) (hu : 0 ≤ u) (hu2 : u < 1000000000000) (hw : 0 ≤ w) (hw2 : w < 1000000000000) :
    Den PA f_spec_l05Product [.d (.agg [ints l]), .d (di u), .d (di w)] [.any, .any, .any] (.d (di (sN (digM l u) (digM l w) l.length % l.getD 0 0))) := by
  have hn := isSpaceM_n hs
  have hz := isSpaceM_szs hs
  have hq := isSpaceM_q hs 0 (by omega)
  have ea := digM_len l u
  have eb := digM_len l w
  refine den_go [] l_spec_l05Product ?_
  have y1 := kc [.r, .r] (d_spec_l01Digits l hs u hu hu2); have y2 := kc [.r, .r] (d_spec_l01Digits l hs w hw hw2); refine go_c0 ?_
  refine go_loop (fun (j : Nat) => ⟨[(3, .ref 0 0), (7, .sl 1 0 l.length 1), (8, .sl 2 0 l.length 1), (9, .d (di (sN (digM l u) (digM l w) j))), (18, .d (di l.length)), (19, .d (di j))], [some (.var [ints l]), some (.dat 1 ((digM l u).map di)), some (.dat 1 ((digM l w).map di))]⟩) (fun j => j ≤ l.length) (fun j => l.length - j) 0 ?_ ?_ ?_
  · simp -implicitDefEqProofs (maxSteps := 1000000) (disch := (first | omega | (simp only [go_sem] <;> omega) | fail)) only [go_sem, ints, bools, mat]
    rw [ea, eb]; rfl
  · simp
  · rintro j hj J hJ
    have hs' := sN_bnd (fun i => digM_bnd u hz i) (fun i => digM_bnd w hz i) j
    have hm := mul_small (digM_bnd u hz j) (digM_bnd w hz j)
    repeat' (first | simp -implicitDefEqProofs (maxSteps := 1000000) (disch := (first | omega | (simp only [go_sem] <;> omega) | fail)) only [go_sem, ints, bools, mat] | ((first | apply goIf_b | apply goG_b | apply goTG_b | apply goOG_b) <;> intro h <;> ((try simp only [hnq] at h); (try simp only [h]); (try simp only [hnr] at h))))
    · refine hJ (j + 1) (by omega) (by omega) _ ?_
      simp -implicitDefEqProofs (maxSteps := 1000000) (disch := (first | omega | (simp only [go_sem] <;> omega) | fail)) only [go_sem, ints, bools, mat]
      rw [sN]; rfl
    · have : j = l.length := by omega
      subst this; rfl
abbrev pcM (l c ws : List Int) : Int := if isSpaceM l then (if c.length ≤ 20 ∧ areW l c = true ∧ areW l ws = true then (if plainM l then 0 else 5) else 2) else 1
theorem pcM_ok {l c ws : List Int} (h : pcM l c ws = 0) : isSpaceM l = true ∧ c.length ≤ 20 ∧ areW l c = true ∧ areW l ws = true ∧ plainM l = true := by
  unfold pcM at h
  split at h
  · rename_i hs
    split at h
    · rename_i hw
      split at h
      · rename_i hp; exact ⟨hs, hw.1, hw.2.1, hw.2.2, hp⟩
      · cases h
    · cases h
  · cases h
theorem d_impl_plainCode (l : List Int) (hl : l.length < 1048577) (c : List Int) (hc : c.length < 1048577) (x : D) (ws : List Int) (hx : IsInts x ws) (hw : ws.length < 1048577) :
    Den PA f_impl_plainCode [.d (.agg [ints l]), .d (ints c), .d x] [.any, .any, .any] (.d (di (pcM l c ws))) := by
  refine den_go [] l_impl_plainCode ?_
  simp -implicitDefEqProofs (maxSteps := 1000000) (disch := (first | omega | (simp only [go_sem] <;> omega) | fail)) only [go_sem, ints, bools, mat, c_impl_plainCode]
  have yc := d_impl_IsSpace l hl; first | refine goC_call [.r] yc ?_ | refine goOC_call [.r] yc ?_
  cases hs : isSpaceM l with
  | true =>
    have hn := isSpaceM_n hs
    by_cases h20 : c.length ≤ 20
    · refine go_c0 ?_
      have yc := d_impl_areWords l hs _ c (.inl rfl) hc; first | refine goC_call [.r, .r] yc ?_ | refine goOC_call [.r, .r] yc ?_
      cases hc2 : areW l c with
      | false =>
        have e : pcM l c ws = 2 := by simp [pcM, hs, hc2]
        rw [e]
        exact go_e0
      | true =>
        refine go_c0 ?_
        have yc := d_impl_areWords l hs x ws hx hw; first | refine goC_call [.r, .r] yc ?_ | refine goOC_call [.r, .r] yc ?_
        cases hw2 : areW l ws with
        | false =>
          have e : pcM l c ws = 2 := by simp [pcM, hs, hw2]
          rw [e]
          exact go_e0
        | true =>
          have e : pcM l c ws = if plainM l then 0 else 5 := by simp [pcM, hs, hc2, hw2, h20]
          rw [e]
          have y1 := kc [.r] (d_impl_isPlain l (by omega) hl); exact go_e0
    · have e : pcM l c ws = 2 := by simp [pcM, hs, h20]
      rw [e]
      exact go_e0
  | false =>
    have e : pcM l c ws = 1 := by simp [pcM, hs]
    rw [e]
    exact go_e0
theorem d_spec_l05Words (l : List Int) (hl : l.length < 1048577) (c : List Int) (hc : c.length < 1048577) :
    Den PA f_spec_l05Words [.d (.agg [ints l]), .d (ints c)] [.any, .any] (.d (di (pcM l c []))) := by
  refine den_go [] l_spec_l05Words ?_
  simp -implicitDefEqProofs (maxSteps := 1000000) (disch := (first | omega | (simp only [go_sem] <;> omega) | fail)) only [go_sem, ints, bools, mat, c_spec_l05Words]
  have yc := d_spec_l01Words l hl c hc; first | refine goC_call [.r, .r] yc ?_ | refine goOC_call [.r, .r] yc ?_
  cases hs : isSpaceM l with
  | true =>
    cases hc2 : areW l c with
    | false =>
      have e : pcM l c [] = 2 := by simp [pcM, hs, hc2]
      have e2 : wcM l c = 2 := by simp [wcM, hs, hc2]
      rw [e, e2]
      repeat' (first | simp -implicitDefEqProofs (maxSteps := 1000000) (disch := (first | omega | (simp only [go_sem] <;> omega) | fail)) only [go_sem, ints, bools, mat] | ((first | apply goIf_b | apply goG_b | apply goTG_b | apply goOG_b) <;> intro h <;> ((try simp only [hnq] at h); (try simp only [h]); (try simp only [hnr] at h)) <;> (try (exfalso; omega))))
      all_goals (first | done | (exfalso; omega))
    | true =>
      have e2 : wcM l c = 0 := by simp [wcM, hs, hc2]
      by_cases h20 : c.length ≤ 20
      · have e : pcM l c [] = if plainM l then 0 else 5 := by simp [pcM, hs, hc2, areW_nil, h20]
        rw [e, e2]
        have y1 := kc [.r] (d_spec_l05Plain l hl); exact go_e0
      · have e : pcM l c [] = 2 := by simp [pcM, hs, h20]
        rw [e, e2]
        exact go_e0
  | false =>
    have e : pcM l c [] = 1 := by simp [pcM, hs]
    have e2 : wcM l c = 1 := by simp [wcM, hs]
    rw [e, e2]
    exact go_e0
theorem pcM_eq (l c : List Int) (w : Int) : (if wcM l [w] = 0 then pcM l c [] else wcM l [w]) = pcM l c [w] := by
  by_cases hs : isSpaceM l = true
  · simp only [wcM, pcM, if_pos hs]
    cases hw : areW l [w] with
    | true => simp [areW_nil]
    | false => simp
  · simp only [wcM, pcM, if_neg hs]; simp
def synM (l c : List Int) (w : Int) : List Int := c.map fun u => sN (digM l w) (digM l u) l.length % l.getD 0 0
@[go_sem] theorem synM_len (l c : List Int) (w : Int) : (synM l c w).length = c.length := by simp [synM]
theorem synM_step (l c : List Int) (w : Int) {j : Nat} (h : j < c.length) : synM l (c.take (j + 1)) w = synM l (c.take j) w ++ [sN (digM l w) (digM l (c.getD j 0)) l.length % l.getD 0 0] := by
  rw [take_one c h]; simp [synM]
theorem d_impl_SyndromeOf (l c : List Int) (w : Int) (hl : l.length < 1048577) (hc : c.length < 1048577) : Den PA f_impl_SyndromeOf [.d (.agg [ints l]), .d (ints c), .d (di w)] [.any, .any, .any] (lstR (pcM l c [w]) (synM l c w)) := by
  refine den_go [] l_impl_SyndromeOf ?_
  refine go_c0 ?_
  have yc := d_impl_plainCode l hl c hc _ [w] (.inl rfl) (by simp); first | refine goC_call [.r, .r, .r] yc ?_ | refine goOC_call [.r, .r, .r] yc ?_
  by_cases h : pcM l c [w] = 0
  · rw [lstR_ok h, h]
    obtain ⟨hs, h20, hcw, hww, hpl⟩ := pcM_ok h
    have hn := isSpaceM_n hs
    have hp := isSpaceM_prod hs
    have hw := areW_get hww (j := 0) (by simp)
    simp only [List.getD_cons_zero] at hw
    have hz := isSpaceM_szs hs
    have y1 := kc [.r, .r] (d_impl_digitsOfAll l hs c hc (fun j hj => by have := areW_get hcw hj; omega)); refine go_c0 ?_
    refine go_loop (fun (j : Nat) => ⟨[(2, .d (di w)), (3, .ref 0 0), (9, .sl 1 0 j 1), (23, .sl 2 0 c.length 8), (24, .d (di c.length)), (25, .d (di j))], [some (.var [ints l]), some (.dat 1 ((synM l (c.take j) w).map di)), some (.dat 8 (digs (digsM l c)))]⟩) (fun j => j ≤ c.length) (fun j => c.length - j) 0 ?_ ?_ ?_
    · exact go_r0
    · simp
    · rintro j hj J hJ
      have hg := fun h => digsM_get l c (i := j) h
      have hln : (synM l (c.take j) w).length = j := by simp [synM]; omega
      repeat' (first | simp -implicitDefEqProofs (maxSteps := 1000000) (disch := (first | omega | (simp only [go_sem] <;> omega) | fail)) only [go_sem, ints, bools, mat] | ((first | apply goIf_b | apply goG_b | apply goTG_b | apply goOG_b) <;> intro h <;> ((try simp only [hnq] at h); (try simp only [h]); (try simp only [hnr] at h))))
      · rw [hg (by omega)]
        have y1 := kc [.r, .r] (d_impl_digitsOf l hs w (by omega) (by omega)); refine go_c0 ?_
        have yc := d_impl_products l (digM l w) (digM l (c.getD j 0)) hs (by rw [digM_len]; omega) (by rw [digM_len]; omega) (fun i => digM_bnd w hz i) (fun i => digM_bnd _ hz i); first | refine goC_call [.r, .r, .r] yc ?_ | refine goOC_call [.r, .r, .r] yc ?_
        rw [digM_len]
        refine go_c0 ?_
        refine hJ (j + 1) (by omega) (by omega) _ ?_
        simp -implicitDefEqProofs (maxSteps := 1000000) (disch := (first | omega | (simp only [go_sem] <;> omega) | fail)) only [go_sem, ints, bools, mat]
        rw [synM_step l c w (by omega)]; rfl
  · rw [lstR_no h]
    generalize pcM l c [w] = b at h
    repeat' (first | simp -implicitDefEqProofs (maxSteps := 1000000) (disch := (first | omega | (simp only [go_sem] <;> omega) | fail)) only [go_sem, ints, bools, mat] | ((first | apply goIf_b | apply goG_b | apply goTG_b | apply goOG_b) <;> intro h <;> ((try simp only [hnq] at h); (try simp only [h]); (try simp only [hnr] at h))))
    all_goals (exfalso; omega)
theorem d_spec_SyndromeOf (l c : List Int) (w : Int) (hl : l.length < 1048577) (hc : c.length < 1048577) : Den PA f_spec_SyndromeOf [.d (.agg [ints l]), .d (ints c), .d (di w)] [.any, .any, .any] (lstR (pcM l c [w]) (synM l c w)) := by
  rw [← pcM_eq]
  refine den_go [] l_spec_SyndromeOf ?_
  refine go_c0 ?_
  have yc := d_spec_l01Words l hl [w] (by simp); first | refine goC_call [.r, .r] yc ?_ | refine goOC_call [.r, .r] yc ?_
  by_cases h : wcM l [w] = 0
  · rw [if_pos h, h]
    have hw := areW_get (wcM_space h).2 (j := 0) (by simp)
    simp only [List.getD_cons_zero] at hw
    refine go_c0 ?_
    have yc := d_spec_l05Words l hl c hc; first | refine goC_call [.r, .r] yc ?_ | refine goOC_call [.r, .r] yc ?_
    by_cases h2 : pcM l c [] = 0
    · rw [lstR_ok h2, h2]
      obtain ⟨hs, h20, hcw, _, hpl⟩ := pcM_ok h2
      have hn := isSpaceM_n hs
      have hp := isSpaceM_prod hs
      have hz := isSpaceM_szs hs
      refine go_c0 ?_
      refine go_loop (fun (j : Nat) => ⟨[(1, .d (ints c)), (2, .d (di w)), (3, .ref 0 0), (9, .sl 1 0 j 1), (25, .d (di c.length)), (26, .d (di j))], [some (.var [ints l]), some (.dat 1 ((synM l (c.take j) w).map di))]⟩) (fun j => j ≤ c.length) (fun j => c.length - j) 0 ?_ ?_ ?_
      · exact go_r0
      · simp
      · rintro j hj J hJ
        have hln : (synM l (c.take j) w).length = j := by simp [synM]; omega
        have hcj := fun h => areW_get hcw (j := j) h
        repeat' (first | simp -implicitDefEqProofs (maxSteps := 1000000) (disch := (first | omega | (simp only [go_sem] <;> omega) | fail)) only [go_sem, ints, bools, mat] | ((first | apply goIf_b | apply goG_b | apply goTG_b | apply goOG_b) <;> intro h <;> ((try simp only [hnq] at h); (try simp only [h]); (try simp only [hnr] at h))))
        · have yc := d_spec_l05Product l hs (c.getD j 0) w (by omega) (by omega) (by omega) (by omega); first | refine goC_call [.r, .r, .r] yc ?_ | refine goOC_call [.r, .r, .r] yc ?_
          rw [sN_comm]
          refine go_c0 ?_
          refine hJ (j + 1) (by omega) (by omega) _ ?_
          simp -implicitDefEqProofs (maxSteps := 1000000) (disch := (first | omega | (simp only [go_sem] <;> omega) | fail)) only [go_sem, ints, bools, mat]
          rw [synM_step l c w (by omega)]; rfl
    · rw [lstR_no h2]
      generalize pcM l c [] = b at h2
      repeat' (first | simp -implicitDefEqProofs (maxSteps := 1000000) (disch := (first | omega | (simp only [go_sem] <;> omega) | fail)) only [go_sem, ints, bools, mat] | ((first | apply goIf_b | apply goG_b | apply goTG_b | apply goOG_b) <;> intro h <;> ((try simp only [hnq] at h); (try simp only [h]); (try simp only [hnr] at h))))
      all_goals (exfalso; omega)
  · rw [if_neg h, lstR_no h]
    generalize wcM l [w] = b at h
    repeat' (first | simp -implicitDefEqProofs (maxSteps := 1000000) (disch := (first | omega | (simp only [go_sem] <;> omega) | fail)) only [go_sem, ints, bools, mat] | ((first | apply goIf_b | apply goG_b | apply goTG_b | apply goOG_b) <;> intro h <;> ((try simp only [hnq] at h); (try simp only [h]); (try simp only [hnr] at h))))
    all_goals (exfalso; omega)
def sumM (l a b : List Int) : List Int := (List.range l.length).map fun (i : Nat) => (a.getD i 0 + b.getD i 0) % l.getD i 0
@[go_sem] theorem sumM_len (l a b : List Int) : (sumM l a b).length = l.length := by simp [sumM]
theorem sumM_get {l : List Int} (a b : List Int) {i : Nat} (h : i < l.length) : (sumM l a b).getD i 0 = (a.getD i 0 + b.getD i 0) % l.getD i 0 := by simp [sumM, h]
theorem pad8_set {S : List Int} {j : Nat} (h8 : S.length ≤ 8) (hj : j < S.length) : (pad8 (S.take j)).set j (S.getD j 0) = pad8 (S.take (j + 1)) := by
  apply eq_getD
  · simp [pad8_len]
  · intro i hi
    rw [List.length_set, pad8_len] at hi
    rw [pad8_get (by simp; omega), List.getD_eq_getElem?_getD, List.getElem?_set]
    split
    · subst_vars
      rw [if_pos (by rw [pad8_len]; omega)]
      simp [List.getD_eq_getElem?_getD, List.getElem?_take]
    · rw [← List.getD_eq_getElem?_getD, pad8_get (by simp; omega), List.getD_eq_getElem?_getD, List.getD_eq_getElem?_getD, List.getElem?_take, List.getElem?_take]
      by_cases h1 : i < j
      · rw [if_pos h1, if_pos (by omega)]
      · rw [if_neg h1, if_neg (by omega)]
theorem d_impl_sumOf (l a b : List Int) (hs : isSpaceM l = true) (ha8 : a.length ≤ 8) (hb8 : b.length ≤ 8) (ha : in4 a) (hb : in4 b) :
    Den PA f_impl_sumOf [.d (.agg [ints l]), .d (dig a), .d (dig b)] [.any, .any, .any] (.d (dig (sumM l a b))) := by
  have hn := isSpaceM_n hs
  have hz := isSpaceM_szs hs
  have ea := pad8_len a
  have eb := pad8_len b
  refine den_go [] l_impl_sumOf ?_
  refine go_c0 ?_
  refine go_loop (fun (j : Nat) => ⟨[(4, .ref 0 0), (5, .ref 1 0), (6, .ref 2 0), (7, .ref 3 0), (12, .d (ints l)), (13, .d (di l.length)), (14, .d (di j))], [some (.var ((pad8 a).map dy)), some (.var ((pad8 b).map dy)), some (.var [dy 0, dy 0, dy 0, dy 0, dy 0, dy 0, dy 0, dy 0]), some (.var ((pad8 ((sumM l a b).take j)).map dy))]⟩) (fun j => j ≤ l.length) (fun j => l.length - j) 0 ?_ ?_ ?_
  · exact go_r0
  · simp
  · rintro j hj J hJ
    have hx := in4_pad ha8 ha j
    have hy := in4_pad hb8 hb j
    have hq := hz j
    have hm := fun h => mod_bnd (x := (pad8 a).getD j 0 + (pad8 b).getD j 0) (hz j h)
    have hst := fun h => pad8_set (S := sumM l a b) (j := j) (by rw [sumM_len]; omega) h
    have hsg := fun h => sumM_get (l := l) a b (i := j) h
    repeat' (first | simp -implicitDefEqProofs (maxSteps := 1000000) (disch := (first | omega | (simp only [go_sem] <;> omega) | fail)) only [go_sem, ints, bools, mat] | ((first | apply goIf_b | apply goG_b | apply goTG_b | apply goOG_b) <;> intro h <;> ((try simp only [hnq] at h); (try simp only [h]); (try simp only [hnr] at h))))
    · refine hJ (j + 1) (by omega) (by omega) _ ?_
      simp -implicitDefEqProofs (maxSteps := 1000000) (disch := (first | omega | (simp only [go_sem] <;> omega) | fail)) only [go_sem, ints, bools, mat]
      rw [← hst (by rw [sumM_len]; omega), hsg (by omega), pad8_get ha8, pad8_get hb8]; rfl
def wordN (l d : List Int) : Nat → Int
  | 0 => 0
  | j + 1 => wordN l d j * l.getD j 0 + d.getD j 0
theorem wordN_bnd {l d : List Int} (hs : szs l) (hd : ∀ i, i < l.length → 0 ≤ d.getD i 0 ∧ d.getD i 0 < l.getD i 0) : ∀ j, j ≤ l.length → 0 ≤ wordN l d j ∧ wordN l d j < prodM (l.take j)
  | 0, _ => by simp [wordN, prodM]
  | j + 1, h => by
    have ih := wordN_bnd hs hd j (by omega)
    have h1 := hd j (by omega)
    have h2 := hs j (by omega)
    rw [wordN, prodM_step l (by omega)]
    have h3 := Int.mul_nonneg ih.1 (show 0 ≤ l.getD j 0 by omega)
    have h4 : (wordN l d j + 1) * l.getD j 0 ≤ prodM (l.take j) * l.getD j 0 := Int.mul_le_mul_of_nonneg_right (by omega) (by omega)
    rw [Int.add_mul, Int.one_mul] at h4
    omega
theorem wordN_mul {l d : List Int} (hs : isSpaceM l = true) (hd : ∀ i, i < l.length → 0 ≤ d.getD i 0 ∧ d.getD i 0 < l.getD i 0) {j : Nat} (h : j < l.length) : 0 ≤ wordN l d j * l.getD j 0 ∧ wordN l d j * l.getD j 0 ≤ 65536 := by
  have h1 := wordN_bnd (isSpaceM_szs hs) hd (j + 1) (by omega)
  have hn := isSpaceM_n hs
  have h2 := prodM_small l (j := j + 1) (by omega) (by omega) (fun i hi => isSpaceM_q hs i (by omega))
  have h3 := hd j h
  have h0 := wordN_bnd (isSpaceM_szs hs) hd j (by omega)
  have h4 := isSpaceM_q hs j h
  have h5 := Int.mul_nonneg h0.1 (show 0 ≤ l.getD j 0 by omega)
  rw [wordN] at h1
  omega
theorem d_impl_wordOf (l d : List Int) (hs : isSpaceM l = true) (h8 : d.length ≤ 8) (hd : ∀ i, i < l.length → 0 ≤ d.getD i 0 ∧ d.getD i 0 < l.getD i 0) :
    Den PA f_impl_wordOf [.d (.agg [ints l]), .d (dig d)] [.any, .any] (.d (di (wordN l d l.length))) := by
  have hn := isSpaceM_n hs
  have ed := pad8_len d
  refine den_go [] l_impl_wordOf ?_
  refine go_c0 ?_
  refine go_loop (fun (j : Nat) => ⟨[(3, .ref 0 0), (5, .d (di (wordN l d j))), (9, .d (ints l)), (10, .d (di l.length)), (11, .d (di j))], [some (.var ((pad8 d).map dy))]⟩) (fun j => j ≤ l.length) (fun j => l.length - j) 0 ?_ ?_ ?_
  · exact go_r0
  · simp
  · rintro j hj J hJ
    have hm := fun h => wordN_mul hs hd (j := j) h
    have hdj := hd j
    have hq := isSpaceM_q hs j
    have hpd := pad8_get h8 j
    rw [← hpd] at hdj
    repeat' (first | simp -implicitDefEqProofs (maxSteps := 1000000) (disch := (first | omega | (simp only [go_sem] <;> omega) | fail)) only [go_sem, ints, bools, mat] | ((first | apply goIf_b | apply goG_b | apply goTG_b | apply goOG_b) <;> intro h <;> ((try simp only [hnq] at h); (try simp only [h]); (try simp only [hnr] at h))))
    · refine hJ (j + 1) (by omega) (by omega) _ ?_
      simp -implicitDefEqProofs (maxSteps := 1000000) (disch := (first | omega | (simp only [go_sem] <;> omega) | fail)) only [go_sem, ints, bools, mat]
      rw [wordN, ← hpd]; rfl
    · have : j = l.length := by omega
      subst this; rfl
theorem d_spec_l01Word (l d : List Int) (hs : isSpaceM l = true) (hl : d.length = l.length) (hd : ∀ i, i < l.length → 0 ≤ d.getD i 0 ∧ d.getD i 0 < l.getD i 0) :
    Den PA f_spec_l01Word [.d (.agg [ints l]), .d (ints d)] [.any, .any] (.d (di (wordN l d l.length))) := by
  have hn := isSpaceM_n hs
  refine den_go [] l_spec_l01Word ?_
  refine go_c0 ?_
  refine go_loop (fun (j : Nat) => ⟨[(1, .d (ints d)), (2, .ref 0 0), (5, .d (di (wordN l d j))), (6, .d (di j))], [some (.var [ints l])]⟩) (fun j => j ≤ l.length) (fun j => l.length - j) 0 ?_ ?_ ?_
  · exact go_r0
  · simp
  · rintro j hj J hJ
    have hm := fun h => wordN_mul hs hd (j := j) h
    have hdj := hd j
    have hq := isSpaceM_q hs j
    repeat' (first | simp -implicitDefEqProofs (maxSteps := 1000000) (disch := (first | omega | (simp only [go_sem] <;> omega) | fail)) only [go_sem, ints, bools, mat] | ((first | apply goIf_b | apply goG_b | apply goTG_b | apply goOG_b) <;> intro h <;> ((try simp only [hnq] at h); (try simp only [h]); (try simp only [hnr] at h))))
    · refine hJ (j + 1) (by omega) (by omega) _ ?_
      simp -implicitDefEqProofs (maxSteps := 1000000) (disch := (first | omega | (simp only [go_sem] <;> omega) | fail)) only [go_sem, ints, bools, mat]
      rw [wordN]; rfl
    · have : j = l.length := by omega
      subst this; rfl
def sumW (l : List Int) (u w : Int) : Int := wordN l (sumM l (digM l u) (digM l w)) l.length
theorem sumM_lt {l : List Int} (hs : szs l) (a b : List Int) : ∀ i, i < l.length → 0 ≤ (sumM l a b).getD i 0 ∧ (sumM l a b).getD i 0 < l.getD i 0 := fun i hi => by
  rw [sumM_get a b hi]
  have h := hs i hi
  have := mod_bnd (x := a.getD i 0 + b.getD i 0) h
  omega
theorem sumW_bnd {l : List Int} (hs : isSpaceM l = true) (u w : Int) : 0 ≤ sumW l u w ∧ sumW l u w < prodM l := by
  have := wordN_bnd (isSpaceM_szs hs) (sumM_lt (isSpaceM_szs hs) (digM l u) (digM l w)) l.length (Nat.le_refl _)
  rwa [List.take_length] at this
theorem d_spec_l01Sum (l : List Int) (hs : isSpaceM l = true) (u w : Int) (hu : 0 ≤ u) (hu2 : u < 1000000000000) (hw : 0 ≤ w) (hw2 : w < 1000000000000) :
    Den PA f_spec_l01Sum [.d (.agg [ints l]), .d (di u), .d (di w)] [.any, .any, .any] (.d (di (sumW l u w))) := by
  have hn := isSpaceM_n hs
  have hz := isSpaceM_szs hs
  have ea := digM_len l u
  have eb := digM_len l w
  refine den_go [] l_spec_l01Sum ?_
  have y1 := kc [.r, .r] (d_spec_l01Digits l hs u hu hu2); have y2 := kc [.r, .r] (d_spec_l01Digits l hs w hw hw2); refine go_c0 ?_
  refine go_loop (fun (j : Nat) => ⟨[(3, .ref 0 0), (7, .sl 1 0 l.length 1), (8, .sl 2 0 l.length 1), (17, .d (di l.length)), (18, .d (di j))], [some (.var [ints l]), some (.dat 1 (((sumM l (digM l u) (digM l w)).take j ++ (digM l u).drop j).map di)), some (.dat 1 ((digM l w).map di))]⟩) (fun j => j ≤ l.length) (fun j => l.length - j) 0 ?_ ?_ ?_
  · simp -implicitDefEqProofs (maxSteps := 1000000) (disch := (first | omega | (simp only [go_sem] <;> omega) | fail)) only [go_sem, ints, bools, mat]
    rw [ea, eb]
  · simp
  · rintro j hj J hJ
    have hA : (sumM l (digM l u) (digM l w)).length = (digM l u).length := by rw [sumM_len, ea]
    have hm := fun h => mixS_get (A := sumM l (digM l u) (digM l w)) (t := digM l u) (0 : Int) (j := j) hA h
    have hst := fun h => mixS_step (A := sumM l (digM l u) (digM l w)) (t := digM l u) (0 : Int) (j := j) hA h
    have hsg := fun h => sumM_get (l := l) (digM l u) (digM l w) (i := j) h
    have hx := digM_bnd u hz j
    have hy := digM_bnd w hz j
    have hln : ((sumM l (digM l u) (digM l w)).take j ++ (digM l u).drop j).length = l.length := by simp [sumM_len, ea]; omega
    have hq := hz j
    by_cases hjl : j < l.length
    · have hm := hm (by omega)
      have hmb := mod_bnd (x := (digM l u).getD j 0 + (digM l w).getD j 0) (hz j hjl)
      rw [hsg hjl] at hst
      generalize (sumM l (digM l u) (digM l w)).take j ++ (digM l u).drop j = M at hm hst hln
      rw [← hm] at hx hmb
      refine go_c0 ?_
      refine hJ (j + 1) (by omega) (by omega) _ ?_
      simp -implicitDefEqProofs (maxSteps := 1000000) (disch := (first | omega | (simp only [go_sem] <;> omega) | fail)) only [go_sem, ints, bools, mat]
      rw [hm, hst (by omega)]; rfl
    · have : j = l.length := by omega
      subst this
      have e1 : (sumM l (digM l u) (digM l w)).take l.length = sumM l (digM l u) (digM l w) := List.take_of_length_le (by rw [sumM_len]; exact Nat.le_refl _)
      have e2 : (digM l u).drop l.length = [] := by rw [← ea]; simp
      rw [e1, e2, List.append_nil]
      have e3 := sumM_len l (digM l u) (digM l w)
      have y1 := kc [.r, .r] (d_spec_l01Word l (sumM l (digM l u) (digM l w)) hs e3 (sumM_lt hz _ _)); refine go_c0 ?_
      rfl
def setN (N : Nat) (c : List Int) : Nat → List Bool
  | 0 => List.replicate N false
  | j + 1 => (setN N c j).set (c.getD j 0).toNat true
@[go_sem] theorem setN_len (N : Nat) (c : List Int) : ∀ j, (setN N c j).length = N
  | 0 => by simp [setN]
  | j + 1 => by rw [setN, List.length_set, setN_len N c j]
theorem setN_get (N : Nat) (c : List Int) (hc : ∀ j, j < c.length → 0 ≤ c.getD j 0) {i : Nat} (hi : i < N) : ∀ j, j ≤ c.length → ((setN N c j).getD i false = true ↔ ∃ k, k < j ∧ c.getD k 0 = (i : Int))
  | 0, _ => by simp [setN, hi]
  | j + 1, hj => by
    have ih := setN_get N c hc hi j (by omega)
    have h0 := hc j (by omega)
    rw [setN, List.getD_eq_getElem?_getD, List.getElem?_set]
    split
    · rename_i e
      rw [if_pos (by rw [setN_len]; omega)]
      simp only [Option.getD_some, true_iff]
      exact ⟨j, by omega, by omega⟩
    · rename_i e
      rw [← List.getD_eq_getElem?_getD, ih]
      constructor
      · rintro ⟨k, hk, h⟩; exact ⟨k, by omega, h⟩
      · rintro ⟨k, hk, h⟩
        rcases Nat.lt_or_ge k j with h1 | h1
        · exact ⟨k, h1, h⟩
        · have : k = j := by omega
          subst this; omega
abbrev setM (l c : List Int) : List Bool := setN (prodM l).toNat c c.length
theorem d_impl_marks (l c : List Int) (hs : isSpaceM l = true) (hc : c.length < 1048577) (hcw : ∀ j, j < c.length → 0 ≤ c.getD j 0 ∧ c.getD j 0 < prodM l) :
    Den PA f_impl_marks [.d (.agg [ints l]), .d (ints c)] [.any, .any] (.own 1 ((setM l c).map db)) := by
  have hp := isSpaceM_prod hs
  have hp1 := prodM_pos (isSpaceM_szs hs)
  refine den_go [] l_impl_marks ?_
  have y1 := kc [.r] (d_impl_count l hs); refine go_c0 ?_
  refine go_loop (fun (j : Nat) => ⟨[(5, .sl 0 0 (prodM l).toNat 1), (11, .d (ints c)), (12, .d (di c.length)), (13, .d (di j))], [some (.dat 1 ((setN (prodM l).toNat c j).map db))]⟩) (fun j => j ≤ c.length) (fun j => c.length - j) 0 ?_ ?_ ?_
  · exact go_r0
  · simp
  · rintro j hj J hJ
    have hcj := hcw j
    repeat' (first | simp -implicitDefEqProofs (maxSteps := 1000000) (disch := (first | omega | (simp only [go_sem] <;> omega) | fail)) only [go_sem, ints, bools, mat] | ((first | apply goIf_b | apply goG_b | apply goTG_b | apply goOG_b) <;> intro h <;> ((try simp only [hnq] at h); (try simp only [h]); (try simp only [hnr] at h))))
    · refine hJ (j + 1) (by omega) (by omega) _ ?_
      simp -implicitDefEqProofs (maxSteps := 1000000) (disch := (first | omega | (simp only [go_sem] <;> omega) | fail)) only [go_sem, ints, bools, mat]
      rw [setN]; rfl
    · have : j = c.length := by omega
      subst this
      exact go_e0
theorem d_spec_l05Set (l c : List Int) (hs : isSpaceM l = true) (hc : c.length < 1048577) (hcw : ∀ j, j < c.length → 0 ≤ c.getD j 0 ∧ c.getD j 0 < prodM l) :
    Den PA f_spec_l05Set [.d (.agg [ints l]), .d (ints c)] [.any, .any] (.own 1 ((setM l c).map db)) := by
  have hp := isSpaceM_prod hs
  have hn := isSpaceM_n hs
  have hp1 := prodM_pos (isSpaceM_szs hs)
  refine den_go [] l_spec_l05Set ?_
  have y1 := kc [.r] (d_spec_l01N l (by omega) (isSpaceM_q hs)); refine go_c0 ?_
  refine go_loop (fun (j : Nat) => ⟨[(1, .d (ints c)), (5, .sl 0 0 (prodM l).toNat 1), (11, .d (di c.length)), (12, .d (di j))], [some (.dat 1 ((setN (prodM l).toNat c j).map db))]⟩) (fun j => j ≤ c.length) (fun j => c.length - j) 0 ?_ ?_ ?_
  · exact go_r0
  · simp
  · rintro j hj J hJ
    have hcj := hcw j
    repeat' (first | simp -implicitDefEqProofs (maxSteps := 1000000) (disch := (first | omega | (simp only [go_sem] <;> omega) | fail)) only [go_sem, ints, bools, mat] | ((first | apply goIf_b | apply goG_b | apply goTG_b | apply goOG_b) <;> intro h <;> ((try simp only [hnq] at h); (try simp only [h]); (try simp only [hnr] at h))))
    · refine hJ (j + 1) (by omega) (by omega) _ ?_
      simp -implicitDefEqProofs (maxSteps := 1000000) (disch := (first | omega | (simp only [go_sem] <;> omega) | fail)) only [go_sem, ints, bools, mat]
      rw [setN]; rfl
    · have : j = c.length := by omega
      subst this
      exact go_e0
def closB (l c : List Int) : Bool := (List.range c.length).all fun i => (List.range (i + 1)).all fun k => (setM l c).getD (sumW l (c.getD i 0) (c.getD k 0)).toNat false
theorem closB_ok (l c : List Int) : closB l c = true ↔ ∀ i, i < c.length → ∀ k, k < i + 1 → (setM l c).getD (sumW l (c.getD i 0) (c.getD k 0)).toNat false = true := by
  simp only [closB, List.all_eq_true, List.mem_range]
def linB (l c : List Int) : Bool := plainM l && (setM l c).getD 0 false && closB l c
theorem zero_in {l c : List Int} (hs : isSpaceM l = true) (hcc : isCodeM l c = true) : (setM l c).getD 0 false = true ↔ c.length ≠ 0 ∧ c.getD 0 0 = 0 := by
  have hp1 := prodM_pos (isSpaceM_szs hs)
  rw [setN_get (prodM l).toNat c (fun j hj => (isCodeM_get hcc hj).1) (i := 0) (by omega) c.length (Nat.le_refl _)]
  constructor
  · rintro ⟨k, hk, h⟩
    have := isCodeM_ge hcc k hk
    have hk0 : k = 0 := by omega
    subst hk0
    exact ⟨by omega, h⟩
  · rintro ⟨h1, h2⟩; exact ⟨0, by omega, h2⟩
theorem d_impl_isLinear (l c : List Int) (hs : isSpaceM l = true) (hcc : isCodeM l c = true) (hc : c.length < 1048577) :
    Den PA f_impl_isLinear [.d (.agg [ints l]), .d (ints c)] [.any, .any] (.d (db (linB l c))) := by
  have hn := isSpaceM_n hs
  have hz := isSpaceM_szs hs
  have hp := isSpaceM_prod hs
  have hp1 := prodM_pos hz
  have hsl := setN_len (prodM l).toNat c c.length
  refine den_go [] l_impl_isLinear ?_
  have y1 := kc [.r, .r] (d_impl_marks l c hs hc (fun j hj => isCodeM_get hcc hj)); refine go_c0 ?_
  have yc := d_impl_isPlain l (by omega) (by omega); first | refine goC_call [.r] yc ?_ | refine goOC_call [.r] yc ?_
  cases hpl : plainM l with
  | false =>
    refine go_c0 ?_
    exact dbF fun h' => by rw [linB, hpl] at h'; cases h'
  | true =>
    cases h0 : (setM l c).getD 0 false with
    | false =>
      have z1 := h0; refine go_c1 ?_
      exact dbF fun h' => by rw [linB, h0, Bool.and_false, Bool.false_and] at h'; cases h'
    | true =>
      have el : linB l c = closB l c := by rw [linB, hpl, h0]; rfl
      rw [el]
      have e := closB_ok l c
      have z1 := h0; have y1 := kc [.r, .r] (d_impl_digitsOfAll l hs c hc (code_small hs hcc)); refine go_c1 ?_
      refine go_loop (fun (j : Nat) => ⟨[(2, .ref 0 0), (5, .sl 1 0 (prodM l).toNat 1), (6, .sl 2 0 c.length 8), (26, .sl 2 0 c.length 8), (27, .d (di c.length)), (28, .d (di j))], [some (.var [ints l]), some (.dat 1 ((setM l c).map db)), some (.dat 8 (digs (digsM l c)))]⟩) (fun j => j ≤ c.length ∧ ∀ i, i < j → ∀ k, k < i + 1 → (setM l c).getD (sumW l (c.getD i 0) (c.getD k 0)).toNat false = true) (fun j => c.length - j) 0 ?_ ?_ ?_
      · exact go_r0
      · simp
      · rintro j ⟨hj, hi⟩ J hJ
        have hg := fun h => digsM_get l c (i := j) h
        repeat' (first | simp -implicitDefEqProofs (maxSteps := 1000000) (disch := (first | omega | (simp only [go_sem] <;> omega) | fail)) only [go_sem, ints, bools, mat] | ((first | apply goIf_b | apply goG_b | apply goTG_b | apply goOG_b) <;> intro h <;> ((try simp only [hnq] at h); (try simp only [h]); (try simp only [hnr] at h)) <;> (try (exfalso; omega))))
        · rw [hg (by omega)]
          refine go_loop (fun (k : Nat) => ⟨[(2, .ref 0 0), (5, .sl 1 0 (prodM l).toNat 1), (6, .sl 2 0 c.length 8), (8, .ref 3 0), (26, .sl 2 0 c.length 8), (27, .d (di c.length)), (28, .d (di j)), (36, .sl 2 0 (j + 1) 8), (37, .d (di ((j + 1 : Nat) : Int))), (38, .d (di k))], [some (.var [ints l]), some (.dat 1 ((setM l c).map db)), some (.dat 8 (digs (digsM l c))), some (.var ((pad8 (digM l (c.getD j 0))).map dy))]⟩) (fun k => k ≤ j + 1 ∧ ∀ m, m < k → (setM l c).getD (sumW l (c.getD j 0) (c.getD m 0)).toNat false = true) (fun k => j + 1 - k) 0 ?_ ?_ ?_
          · exact go_r0
          · simp
          · rintro k ⟨hk, hm⟩ K hK
            have hg2 := fun h => digsM_get l c (i := k) h
            repeat' (first | simp -implicitDefEqProofs (maxSteps := 1000000) (disch := (first | omega | (simp only [go_sem] <;> omega) | fail)) only [go_sem, ints, bools, mat] | ((first | apply goIf_b | apply goG_b | apply goTG_b | apply goOG_b) <;> intro h <;> ((try simp only [hnq] at h); (try simp only [h]); (try simp only [hnr] at h)) <;> (try (exfalso; omega))))
            · rw [hg2 (by omega)]
              have hb := sumW_bnd hs (c.getD j 0) (c.getD k 0)
              have y1 := kc [.r, .r, .r] (d_impl_sumOf l (digM l (c.getD j 0)) (digM l (c.getD k 0)) hs (by rw [digM_len]; omega) (by rw [digM_len]; omega) (fun i => digM_bnd _ hz i) (fun i => digM_bnd _ hz i)); refine go_c0 ?_
              have yc := d_impl_wordOf l (sumM l (digM l (c.getD j 0)) (digM l (c.getD k 0))) hs (by rw [sumM_len]; omega) (sumM_lt hz _ _); first | refine goC_call [.r, .r] yc ?_ | refine goOC_call [.r, .r] yc ?_
              rw [show wordN l (sumM l (digM l (c.getD j 0)) (digM l (c.getD k 0))) l.length = sumW l (c.getD j 0) (c.getD k 0) from rfl]
              cases hv : (setM l c).getD (sumW l (c.getD j 0) (c.getD k 0)).toNat false with
              | false =>
                have z1 := hv; refine go_c1 ?_
                exact dbF fun h' => by have := e.1 h' j (by omega) k (by omega); rw [hv] at this; cases this
              | true =>
                have z1 := hv; refine go_c1 ?_
                refine hK (k + 1) ⟨by omega, all_ext hm hv⟩ (by omega) _ go_r0
            · refine hJ (j + 1) ⟨by omega, all_ext hi fun m hm' => hm m (by omega)⟩ (by omega) _ go_r0
        · exact dbT (e.2 fun i hi' => hi i (by omega))
theorem d_spec_l05Linear (l c : List Int) (hs : isSpaceM l = true) (hcc : isCodeM l c = true) (hc : c.length < 1048577) :
    Den PA f_spec_l05Linear [.d (.agg [ints l]), .d (ints c)] [.any, .any] (.d (db (linB l c))) := by
  have hn := isSpaceM_n hs
  have hz := isSpaceM_szs hs
  have hp := isSpaceM_prod hs
  have hp1 := prodM_pos hz
  have hsl := setN_len (prodM l).toNat c c.length
  have h00 := zero_in hs hcc
  refine den_go [] l_spec_l05Linear ?_
  refine go_c0 ?_
  have yc := d_spec_l05Plain l (by omega); first | refine goC_call [.r] yc ?_ | refine goOC_call [.r] yc ?_
  cases hpl : plainM l with
  | false =>
    refine go_c0 ?_
    exact dbF fun h' => by rw [linB, hpl] at h'; cases h'
  | true =>
    by_cases hc0 : c.length = 0
    · refine go_c0 ?_
      exact dbF fun h' => by
        simp only [linB, Bool.and_eq_true] at h'
        exact (h00.1 h'.1.2).1 hc0
    · by_cases hz0 : c.getD 0 0 = 0
      · have h0 : (setM l c).getD 0 false = true := h00.2 ⟨hc0, hz0⟩
        have el : linB l c = closB l c := by rw [linB, hpl, h0]; rfl
        rw [el]
        have e := closB_ok l c
        have y1 := kc [.r, .r] (d_spec_l05Set l c hs hc (fun j hj => isCodeM_get hcc hj)); refine go_c0 ?_
        refine go_loop (fun (j : Nat) => ⟨[(1, .d (ints c)), (2, .ref 0 0), (5, .sl 1 0 (prodM l).toNat 1), (26, .d (di c.length)), (27, .d (di j))], [some (.var [ints l]), some (.dat 1 ((setM l c).map db))]⟩) (fun j => j ≤ c.length ∧ ∀ i, i < j → ∀ k, k < i + 1 → (setM l c).getD (sumW l (c.getD i 0) (c.getD k 0)).toNat false = true) (fun j => c.length - j) 0 ?_ ?_ ?_
        · exact go_r0
        · simp
        · rintro j ⟨hj, hi⟩ J hJ
          repeat' (first | simp -implicitDefEqProofs (maxSteps := 1000000) (disch := (first | omega | (simp only [go_sem] <;> omega) | fail)) only [go_sem, ints, bools, mat] | ((first | apply goIf_b | apply goG_b | apply goTG_b | apply goOG_b) <;> intro h <;> ((try simp only [hnq] at h); (try simp only [h]); (try simp only [hnr] at h)) <;> (try (exfalso; omega))))
          · refine go_loop (fun (k : Nat) => ⟨[(1, .d (ints c)), (2, .ref 0 0), (5, .sl 1 0 (prodM l).toNat 1), (6, .d (di j)), (7, .d (di k)), (26, .d (di c.length)), (27, .d (di j))], [some (.var [ints l]), some (.dat 1 ((setM l c).map db))]⟩) (fun k => k ≤ j + 1 ∧ ∀ m, m < k → (setM l c).getD (sumW l (c.getD j 0) (c.getD m 0)).toNat false = true) (fun k => j + 1 - k) 0 ?_ ?_ ?_
            · exact go_r0
            · simp
            · rintro k ⟨hk, hm⟩ K hK
              have hcj := code_small hs hcc j
              have hck := code_small hs hcc k
              repeat' (first | simp -implicitDefEqProofs (maxSteps := 1000000) (disch := (first | omega | (simp only [go_sem] <;> omega) | fail)) only [go_sem, ints, bools, mat] | ((first | apply goIf_b | apply goG_b | apply goTG_b | apply goOG_b) <;> intro h <;> ((try simp only [hnq] at h); (try simp only [h]); (try simp only [hnr] at h)) <;> (try (exfalso; omega))))
              · have hb := sumW_bnd hs (c.getD j 0) (c.getD k 0)
                have yc := d_spec_l01Sum l hs (c.getD j 0) (c.getD k 0) (by omega) (by omega) (by omega) (by omega); first | refine goC_call [.r, .r, .r] yc ?_ | refine goOC_call [.r, .r, .r] yc ?_
                cases hv : (setM l c).getD (sumW l (c.getD j 0) (c.getD k 0)).toNat false with
                | false =>
                  have z1 := hv; refine go_c1 ?_
                  exact dbF fun h' => by have := e.1 h' j (by omega) k (by omega); rw [hv] at this; cases this
                | true =>
                  have z1 := hv; refine go_c1 ?_
                  refine hK (k + 1) ⟨by omega, all_ext hm hv⟩ (by omega) _ go_r0
              · refine hJ (j + 1) ⟨by omega, all_ext hi fun m hm' => hm m (by omega)⟩ (by omega) _ go_r0
          · exact dbT (e.2 fun i hi' => hi i (by omega))
      · refine go_c0 ?_
        exact dbF fun h' => by
          simp only [linB, Bool.and_eq_true] at h'
          exact hz0 (h00.1 h'.1.2).2
abbrev linR (l c : List Int) : R := .tup [.d (db (decide (ggM l c = 0) && linB l c)), .d (di (ggM l c))]
theorem d_impl_IsLinear (l c : List Int) (hl : l.length < 1048577) (hc : c.length < 1048577) : Den PA f_impl_IsLinear [.d (.agg [ints l]), .d (ints c)] [.any, .any] (linR l c) := by
  refine den_go [] l_impl_IsLinear ?_
  simp -implicitDefEqProofs (maxSteps := 1000000) (disch := (first | omega | (simp only [go_sem] <;> omega) | fail)) only [go_sem, ints, bools, mat, c_impl_IsLinear]
  have yc := d_impl_codeCode0 l hl c hc; first | refine goC_call [.r, .r, .r] yc ?_ | refine goOC_call [.r, .r, .r] yc ?_
  by_cases h : ggM l c = 0
  · rw [linR, h]
    obtain ⟨hs, hcc⟩ := ggM_ok h
    have y1 := kc [.r, .r] (d_impl_isLinear l c hs hcc hc); exact go_e0
  · rw [linR]
    generalize ggM l c = b at h
    repeat' (first | simp -implicitDefEqProofs (maxSteps := 1000000) (disch := (first | omega | (simp only [go_sem] <;> omega) | fail)) only [go_sem, ints, bools, mat] | ((first | apply goIf_b | apply goG_b | apply goTG_b | apply goOG_b) <;> intro h <;> ((try simp only [hnq] at h); (try simp only [h]); (try simp only [hnr] at h))))
    all_goals (first | (exfalso; omega) | skip)
    exact dbF fun h' => by simp at h'; exact h h'.1
theorem d_spec_IsLinear (l c : List Int) (hl : l.length < 1048577) (hc : c.length < 1048577) : Den PA f_spec_IsLinear [.d (.agg [ints l]), .d (ints c)] [.any, .any] (linR l c) := by
  refine den_go [] l_spec_IsLinear ?_
  simp -implicitDefEqProofs (maxSteps := 1000000) (disch := (first | omega | (simp only [go_sem] <;> omega) | fail)) only [go_sem, ints, bools, mat, c_spec_IsLinear]
  have yc := d_spec_l01Given l hl c hc; first | refine goC_call [.r, .r] yc ?_ | refine goOC_call [.r, .r] yc ?_
  by_cases h : ggM l c = 0
  · rw [linR, h]
    obtain ⟨hs, hcc⟩ := ggM_ok h
    have y1 := kc [.r, .r] (d_spec_l05Linear l c hs hcc hc); exact go_e0
  · rw [linR]
    generalize ggM l c = b at h
    repeat' (first | simp -implicitDefEqProofs (maxSteps := 1000000) (disch := (first | omega | (simp only [go_sem] <;> omega) | fail)) only [go_sem, ints, bools, mat] | ((first | apply goIf_b | apply goG_b | apply goTG_b | apply goOG_b) <;> intro h <;> ((try simp only [hnq] at h); (try simp only [h]); (try simp only [hnr] at h))))
    all_goals (first | (exfalso; omega) | skip)
    exact dbF fun h' => by simp at h'; exact h h'.1
def cntB (l c : List Int) (M b : Int) : Nat → Nat
  | 0 => 0
  | j + 1 => if distM l b (c.getD j 0) ≤ M then cntB l c M b j + 1 else cntB l c M b j
def lastB (l c : List Int) (M b : Int) : Nat → Nat
  | 0 => 0
  | j + 1 => if distM l b (c.getD j 0) ≤ M then j else lastB l c M b j
def needN (l c : List Int) (M : Int) (B : List Int) : Nat → List Bool
  | 0 => List.replicate c.length false
  | j + 1 => if cntB l c M (B.getD j 0) c.length = 1 then (needN l c M B j).set (lastB l c M (B.getD j 0) c.length) true else needN l c M B j
@[go_sem] theorem needN_len (l c : List Int) (M : Int) (B : List Int) : ∀ j, (needN l c M B j).length = c.length
  | 0 => by simp [needN]
  | j + 1 => by rw [needN]; split <;> simp [needN_len l c M B j]
@[go_sem] theorem toNat_succ (j : Nat) : ((j : Int) + 1).toNat = j + 1 := by omega
@[go_sem] theorem all_lf_digs (ds : List (List Int)) : (digs ds).all lfD = true := by
  rw [List.all_eq_true]; intro x hx
  obtain ⟨d, _, rfl⟩ := List.mem_map.1 hx
  rw [lfD, lfDs_all, List.all_eq_true]; intro y hy
  obtain ⟨i, _, rfl⟩ := List.mem_map.1 hy
  rfl
theorem d_spec_l01Own (t : List Int) (h : t.length < 1048577) : Den PA f_spec_l01Own [.d (ints t)] [.any] (.own 1 (t.map di)) := by
  refine den_go [] l_spec_l01Own ?_
  exact go_e0
theorem d_cmp_isNaN (x : Int) : Den PA f_cmp_isNaN_int64_ [.d (di x)] [.any] (.d (db false)) := by
  refine den_go [] l_cmp_isNaN_int64_ ?_
  exact go_e0
theorem d_cmp_Less (x y : Int) : Den PA f_cmp_Less_int64_ [.d (di x), .d (di y)] [.any, .any] (.d (db (decide (x < y)))) := by
  refine den_go [] l_cmp_Less_int64_ ?_
  have y1 := kc [.r] (d_cmp_isNaN x); exact go_e0
@[go_sem] theorem toNat_pred {j : Nat} : ((j : Int) - 1).toNat = j - 1 := by omega
abbrev sortI (l : List Int) : List Int := l.mergeSort (fun x y => decide (x ≤ y))
@[go_sem] theorem sortI_len (l : List Int) : (sortI l).length = l.length := List.length_mergeSort l
theorem digM_get : ∀ (l : List Int) (w : Int) (i : Nat), i < l.length → (digM l w).getD i 0 = (w / prodM (l.drop (i + 1))) % l.getD i 0
  | q :: r, w, 0, _ => by simp [digM]
  | q :: r, w, i + 1, h => by
    have := digM_get r w i (by simpa using h)
    simpa [digM] using this
theorem wordN_div {l d : List Int} (hz : szs l) (hd : ∀ i, i < l.length → 0 ≤ d.getD i 0 ∧ d.getD i 0 < l.getD i 0) : ∀ (k i : Nat), i + k = l.length → wordN l d l.length / prodM (l.drop i) = wordN l d i
  | 0, i, h => by
    have : i = l.length := by omega
    subst this; rw [List.drop_length, prodM_nil, Int.ediv_one]
  | k + 1, i, h => by
    rw [← div_step hz (show i < l.length by omega), wordN_div hz hd k (i + 1) (by omega), wordN]
    have h1 := hd i (by omega)
    rw [Int.add_comm, Int.add_mul_ediv_right _ _ (by omega), Int.ediv_eq_zero_of_lt h1.1 h1.2, Int.zero_add]
theorem digM_word {l d : List Int} (hz : szs l) (hl : d.length = l.length) (hd : ∀ i, i < l.length → 0 ≤ d.getD i 0 ∧ d.getD i 0 < l.getD i 0) : digM l (wordN l d l.length) = d := by
  apply eq_getD
  · rw [digM_len, hl]
  · intro i hi
    rw [digM_len] at hi
    rw [digM_get l _ i hi, wordN_div hz hd (l.length - (i + 1)) (i + 1) (by omega), wordN]
    have h1 := hd i hi
    rw [Int.add_comm, Int.add_mul_emod_self_right, Int.emod_eq_of_lt h1.1 h1.2]
theorem word_digM {l : List Int} {w : Int} (hz : szs l) (h0 : 0 ≤ w) (h1 : w < prodM l) : ∀ j, j ≤ l.length → wordN l (digM l w) j = w / prodM (l.drop j)
  | 0, _ => by rw [wordN, List.drop_zero, Int.ediv_eq_zero_of_lt h0 h1]
  | j + 1, h => by
    rw [wordN, word_digM hz h0 h1 j (by omega), digM_get l w j (by omega), ← div_step hz (show j < l.length by omega)]
    exact Int.ediv_mul_add_emod _ _
theorem word_eq {l : List Int} {u v : Int} (hz : szs l) (hu : 0 ≤ u ∧ u < prodM l) (hv : 0 ≤ v ∧ v < prodM l) (h : ∀ i, i < l.length → (digM l u).getD i 0 = (digM l v).getD i 0) : u = v := by
  have e : digM l u = digM l v := eq_getD (by rw [digM_len, digM_len]) (fun i hi => h i (by rw [digM_len] at hi; exact hi))
  have a := word_digM hz hu.1 hu.2 l.length (Nat.le_refl _)
  have b := word_digM hz hv.1 hv.2 l.length (Nat.le_refl _)
  rw [List.drop_length, prodM_nil, Int.ediv_one] at a b
  rw [← a, ← b, e]
theorem sumW_dig {l : List Int} (hz : szs l) (u v : Int) {i : Nat} (h : i < l.length) : (digM l (sumW l u v)).getD i 0 = ((digM l u).getD i 0 + (digM l v).getD i 0) % l.getD i 0 := by
  rw [sumW, digM_word hz (sumM_len _ _ _) (sumM_lt hz _ _), sumM_get _ _ h]
theorem sumW_comm (l : List Int) (u v : Int) : sumW l u v = sumW l v u := by
  have e : sumM l (digM l u) (digM l v) = sumM l (digM l v) (digM l u) := by
    unfold sumM; congr 1; funext i; rw [Int.add_comm]
  rw [sumW, sumW, e]
theorem lin_clo {l c : List Int} (hs : isSpaceM l = true) (hcc : isCodeM l c = true) (hl : linB l c = true) {u v : Int} (hu : u ∈ c) (hv : v ∈ c) : sumW l u v ∈ c := by
  have hcl : closB l c = true := by rw [linB, Bool.and_eq_true] at hl; exact hl.2
  have key : ∀ i, i < c.length → ∀ k, k < i + 1 → sumW l (c.getD i 0) (c.getD k 0) ∈ c := fun i hi k hk => by
    have h := (closB_ok l c).1 hcl i hi k hk
    have hb := sumW_bnd hs (c.getD i 0) (c.getD k 0)
    rw [setN_get (prodM l).toNat c (fun j hj => (isCodeM_get hcc hj).1) (by omega) c.length (Nat.le_refl _)] at h
    obtain ⟨m, hm, e⟩ := h
    rw [Int.toNat_of_nonneg hb.1] at e
    rw [← e]; exact mem_getD hm
  obtain ⟨i, hi, rfl⟩ := List.mem_iff_getElem.1 hu
  obtain ⟨k, hk, rfl⟩ := List.mem_iff_getElem.1 hv
  have e1 : c[i] = c.getD i 0 := by simp [hi]
  have e2 : c[k] = c.getD k 0 := by simp [hk]
  rw [e1, e2]
  rcases Nat.lt_or_ge k (i + 1) with h | h
  · exact key i hi k h
  · rw [sumW_comm]; exact key k hk i (by omega)
theorem code_mem {l c : List Int} (hcc : isCodeM l c = true) {u : Int} (hu : u ∈ c) : 0 ≤ u ∧ u < prodM l := by
  obtain ⟨i, hi, rfl⟩ := List.mem_iff_getElem.1 hu
  have := isCodeM_get hcc hi
  simpa [hi] using this
def subW (l : List Int) (u v : Int) : Int := if l.getD 0 0 = 2 then sumW l u v else sumW l (sumW l u v) v
theorem lin_plain {l c : List Int} (hl : linB l c = true) : plainM l = true := by
  rw [linB, Bool.and_eq_true, Bool.and_eq_true] at hl; exact hl.1.1
theorem dig_lt {l : List Int} (hz : szs l) (w : Int) {i : Nat} (h : i < l.length) : 0 ≤ (digM l w).getD i 0 ∧ (digM l w).getD i 0 < l.getD i 0 := by
  rw [digM_get l w i h]
  have := mod_bnd (x := w / prodM (l.drop (i + 1))) (hz i h)
  omega
theorem subW_dig {l : List Int} (hz : szs l) (hp : plainM l = true) (u v : Int) {i : Nat} (h : i < l.length) : (digM l (subW l u v)).getD i 0 = 0 ↔ (digM l u).getD i 0 = (digM l v).getD i 0 := by
  have hq := (plainM_ok l).1 hp i h
  have hz0 := hz i h
  have hu := dig_lt hz u h
  have hv := dig_lt hz v h
  unfold subW
  split
  · rename_i h2
    rw [sumW_dig hz u v h, hq.1, h2]
    rw [hq.1, h2] at hu hv
    omega
  · have h3 : l.getD i 0 = 3 := by omega
    rw [sumW_dig hz _ v h, sumW_dig hz u v h, h3]
    rw [h3] at hu hv
    omega
theorem subW_in {l c : List Int} (hs : isSpaceM l = true) (hcc : isCodeM l c = true) (hl : linB l c = true) {u v : Int} (hu : u ∈ c) (hv : v ∈ c) : subW l u v ∈ c := by
  unfold subW
  split
  · exact lin_clo hs hcc hl hu hv
  · exact lin_clo hs hcc hl (lin_clo hs hcc hl hu hv) hv
def fdB (d : List Int) (i : Nat) : Bool := (d.getD i 0 != 0) && (List.range i).all fun j => d.getD j 0 == 0
theorem fdB_ok {d : List Int} {i : Nat} : fdB d i = true ↔ d.getD i 0 ≠ 0 ∧ ∀ j, j < i → d.getD j 0 = 0 := by
  simp only [fdB, Bool.and_eq_true, bne_iff_ne, List.all_eq_true, List.mem_range, beq_iff_eq]
def pvB (l c : List Int) (j i : Nat) : Bool := (List.range j).any fun k => fdB (digM l (c.getD k 0)) i
theorem pvB_step (l c : List Int) (j i : Nat) : pvB l c (j + 1) i = (pvB l c j i || fdB (digM l (c.getD j 0)) i) := by
  rw [pvB, List.range_succ, List.any_append]; simp [pvB]
theorem pvB_in {l c : List Int} {u : Int} {i : Nat} (hu : u ∈ c) (h : fdB (digM l u) i = true) : pvB l c c.length i = true := by
  obtain ⟨k, hk, rfl⟩ := List.mem_iff_getElem.1 hu
  rw [pvB, List.any_eq_true]
  refine ⟨k, List.mem_range.2 hk, ?_⟩
  rw [show c.getD k 0 = c[k] by simp [hk]]; exact h
theorem pvB_lt {l c : List Int} {j i : Nat} (h : pvB l c j i = true) : i < l.length := by
  rw [pvB, List.any_eq_true] at h
  obtain ⟨k, _, h⟩ := h
  have := (fdB_ok.1 h).1
  by_cases hi : i < l.length
  · exact hi
  · exfalso; apply this
    rw [List.getD_eq_getElem?_getD, List.getElem?_eq_none (by rw [digM_len]; omega)]; rfl
theorem lin_zero {l c : List Int} {w : Int} (hw : w ∈ c) (h : ∀ i, pvB l c c.length i = true → (digM l w).getD i 0 = 0) : ∀ i, (digM l w).getD i 0 = 0 := by
  intro i
  induction i using Nat.strongRecOn with
  | ind i ih =>
    by_cases e : (digM l w).getD i 0 = 0
    · exact e
    · exact h i (pvB_in hw (fdB_ok.2 ⟨e, ih⟩))
def finB (l c : List Int) (i k : Nat) (w : Int) : Bool := ((digM l w).getD i 0 == 1) && (List.range k).all fun j => !((decide (j < i) || (pvB l c c.length j && decide (j ≠ i))) && (digM l w).getD j 0 != 0)
theorem finB_ok {l c : List Int} {i k : Nat} {w : Int} : finB l c i k w = true ↔ (digM l w).getD i 0 = 1 ∧ ∀ j, j < k → (j < i ∨ (pvB l c c.length j = true ∧ j ≠ i)) → (digM l w).getD j 0 = 0 := by
  simp only [finB, Bool.and_eq_true, beq_iff_eq, List.all_eq_true, List.mem_range, Bool.not_eq_true', Bool.and_eq_false_iff, Bool.or_eq_false_iff, decide_eq_false_iff_not, bne_eq_false_iff_eq]
  constructor
  · rintro ⟨h1, h2⟩
    refine ⟨h1, fun j hj h => ?_⟩
    rcases h2 j hj with ⟨a, b⟩ | b
    · rcases h with h | ⟨h, h'⟩
      · exact (a h).elim
      · rcases b with b | b
        · rw [h] at b; cases b
        · exact (b h').elim
    · exact b
  · rintro ⟨h1, h2⟩
    refine ⟨h1, fun j hj => ?_⟩
    by_cases h : (j < i ∨ (pvB l c c.length j = true ∧ j ≠ i))
    · exact .inr (h2 j hj h)
    · left
      refine ⟨fun h' => h (.inl h'), ?_⟩
      by_cases hp : pvB l c c.length j = true
      · exact .inr fun h' => h (.inr ⟨hp, h'⟩)
      · exact .inl (by simpa using hp)
theorem fin_uni {l c : List Int} (hs : isSpaceM l = true) (hcc : isCodeM l c = true) (hl : linB l c = true) {i : Nat} (hi : i < l.length) {u v : Int} (hu : u ∈ c) (hv : v ∈ c) (h1 : finB l c i l.length u = true) (h2 : finB l c i l.length v = true) : u = v := by
  have hz := isSpaceM_szs hs
  obtain ⟨a1, a2⟩ := finB_ok.1 h1
  obtain ⟨b1, b2⟩ := finB_ok.1 h2
  have key := lin_zero (l := l) (subW_in hs hcc hl hu hv) (fun k hk => by
    have hkl := pvB_lt hk
    rw [subW_dig hz (lin_plain hl) u v hkl]
    by_cases e : k = i
    · subst e; rw [a1, b1]
    · rw [a2 k hkl (.inr ⟨hk, e⟩), b2 k hkl (.inr ⟨hk, e⟩)])
  exact word_eq hz (code_mem hcc hu) (code_mem hcc hv) fun j hj => (subW_dig hz (lin_plain hl) u v hj).1 (key j)
theorem filter_none {α : Type} {p : α → Bool} {c : List α} (h : ∀ x, x ∈ c → p x = false) : c.filter p = [] := by
  rw [List.filter_eq_nil_iff]; intro x hx; rw [h x hx]; simp
theorem code_nodup {l c : List Int} (hcc : isCodeM l c = true) : ∀ i k, i < k → k < c.length → c.getD i 0 < c.getD k 0 := by
  intro i k hik hk
  induction k with
  | zero => omega
  | succ k ih =>
    have h1 := ((isCodeM_ok l c).1 hcc).2 k hk
    by_cases e : i = k
    · subst e; exact h1
    · have := ih (by omega) (by omega); omega
def bsN (l c : List Int) : Nat → List Int
  | 0 => []
  | m + 1 => bsN l c m ++ (if pvB l c c.length m then c.filter (finB l c m l.length) else [])
abbrev bsM (l c : List Int) : List Int := bsN l c l.length
theorem fin_one {l c : List Int} (hs : isSpaceM l = true) (hcc : isCodeM l c = true) (hl : linB l c = true) {m k : Nat} (hm : m < l.length) (hk : k < c.length) (h : finB l c m l.length (c.getD k 0) = true) : c.filter (finB l c m l.length) = [c.getD k 0] := by
  have e : c = c.take k ++ (c.getD k 0 :: c.drop (k + 1)) := by rw [← drop_cons1 hk, List.take_append_drop]
  have no : ∀ x, x ∈ c → x ≠ c.getD k 0 → finB l c m l.length x = false := fun x hx hn => by
    cases hf : finB l c m l.length x with
    | false => rfl
    | true => exact (hn (fin_uni hs hcc hl hm hx (mem_getD hk) hf h)).elim
  have n1 : ∀ x, x ∈ c.take k → x ≠ c.getD k 0 := fun x hx => by
    obtain ⟨i, hi, rfl⟩ := List.mem_iff_getElem.1 hx
    simp at hi
    have := code_nodup hcc i k (by omega) hk
    rw [List.getElem_take]; rw [show c.getD i 0 = c[i] by simp [show i < c.length by omega]] at this; omega
  have n2 : ∀ x, x ∈ c.drop (k + 1) → x ≠ c.getD k 0 := fun x hx => by
    obtain ⟨i, hi, rfl⟩ := List.mem_iff_getElem.1 hx
    simp at hi
    have := code_nodup hcc k (k + 1 + i) (by omega) (by omega)
    rw [List.getElem_drop]; rw [show c.getD (k + 1 + i) 0 = c[k + 1 + i] by simp [show k + 1 + i < c.length by omega]] at this; omega
  conv => lhs; arg 2; rw [e]
  rw [List.filter_append, List.filter_cons, if_pos h, filter_none fun x hx => no x (List.mem_of_mem_take hx) (n1 x hx), filter_none fun x hx => no x (List.mem_of_mem_drop hx) (n2 x hx)]
  rfl
@[go_sem] theorem flat_dy (l : List Int) : flat (l.map dy) = l.map dy := flat_one _ l
@[go_sem] theorem all_one_dy (l : List Int) : (l.map dy).all isOne = true := by rw [List.all_map]; simp [isOne]
attribute [go_sem] slaM
def fdI (d : List Int) : Int := match d.findIdx? (fun x => x != 0) with | some j => j | none => -1
theorem fdI_spec (d : List Int) : (fdI d = -1 ∧ ∀ i, d.getD i 0 = 0) ∨ ∃ f : Nat, f < d.length ∧ fdI d = f ∧ fdB d f = true := by
  cases h : d.findIdx? (fun x => x != 0) with
  | none =>
    left
    rw [List.findIdx?_eq_none_iff] at h
    refine ⟨by unfold fdI; rw [List.findIdx?_eq_none_iff.2 h], fun i => ?_⟩
    by_cases hi : i < d.length
    · have := h _ (mem_getD hi); simpa using this
    · rw [List.getD_eq_getElem?_getD, List.getElem?_eq_none (by omega)]; rfl
  | some f =>
    right
    have e : fdI d = f := by unfold fdI; rw [h]
    rw [List.findIdx?_eq_some_iff_getElem] at h
    obtain ⟨hf, h1, h2⟩ := h
    refine ⟨f, hf, e, fdB_ok.2 ⟨by simpa [hf] using h1, fun j hj => ?_⟩⟩
    have := h2 j hj
    simpa [show j < d.length by omega] using this
theorem d_impl_firstDigit_1 (x : Int) : Den PA f_impl_firstDigit_1 [.d (dy x)] [.any] (.d (db (x != 0))) := by
  refine den_go [] l_impl_firstDigit_1 ?_
  exact go_e0
def fnY (p : Int → Bool) (ds : List D) (r : Value) : Prop := ∃ x : Int, ds = [dy x] ∧ r = .bool (p x)
theorem fnY_mk (p : Int → Bool) : ∀ x, fnY p [dy x] (.bool (p x)) := fun x => ⟨x, rfl, rfl⟩
theorem d_slices_IndexFunc_bytes (ds : List Int) (p : Int → Bool) (g : List D → Value → Prop) (hg : ∀ x, g [dy x] (.bool (p x))) (hl : ds.length < 1048577) :
    Den PA f_slices_IndexFunc___byte_byte_ [.d (.lst 1 (ds.map dy)), .pfn g] [.any, .any] (.d (di (match ds.findIdx? p with | some j => j | none => -1))) := by
  refine den_go [] l_slices_IndexFunc___byte_byte_ ?_
  refine go_c0 ?_
  refine go_loop (fun (j : Nat) => ⟨[(0, .d (.lst 1 (ds.map dy))), (1, .pfn g), (7, .d (di ds.length)), (8, .d (di j))], []⟩) (fun j => j ≤ ds.length ∧ ∀ i, i < j → p (ds.getD i 0) = false) (fun j => ds.length - j) 0 ?_ ?_ ?_
  · exact go_r0
  · simp
  · rintro j ⟨hj, hi⟩ J hJ
    repeat' (first | simp -implicitDefEqProofs (maxSteps := 1000000) (disch := (first | omega | (simp only [go_sem] <;> omega) | fail)) only [go_sem, ints, bools, mat] | ((first | apply goIf_b | apply goG_b | apply goTG_b | apply goOG_b) <;> intro h <;> ((try simp only [hnq] at h); (try simp only [h]); (try simp only [hnr] at h))))
    · refine goV_pfn [dy (ds.getD j 0)] (.bool (p (ds.getD j 0))) (by simp -implicitDefEqProofs (maxSteps := 1000000) (disch := (first | omega | (simp only [go_sem] <;> omega) | fail)) only [go_sem, ints, bools, mat]) rfl (hg _) ?_
      repeat' (first | simp -implicitDefEqProofs (maxSteps := 1000000) (disch := (first | omega | (simp only [go_sem] <;> omega) | fail)) only [go_sem, ints, bools, mat] | ((first | apply goIf_b | apply goG_b | apply goTG_b | apply goOG_b) <;> intro h <;> ((try simp only [hnq] at h); (try simp only [h]); (try simp only [hnr] at h))))
      · have e : ds.findIdx? p = some j := by
          rw [List.findIdx?_eq_some_iff_getElem]
          refine ⟨by omega, by simpa [show j < ds.length by omega] using h, fun i hi' => ?_⟩
          have := hi i hi'
          simpa [show i < ds.length by omega] using this
        rw [e]
      · refine hJ (j + 1) ⟨by omega, all_ext hi h⟩ (by omega) _ go_r0
    · have e : ds.findIdx? p = none := by
        rw [List.findIdx?_eq_none_iff]
        intro x hx
        obtain ⟨i, hi', rfl⟩ := List.mem_iff_getElem.1 hx
        have := hi i (by omega)
        simpa [hi'] using this
      rw [e]
theorem d_impl_firstDigit (a : List Int) : Den PA f_impl_firstDigit [.d (dig a)] [.any] (.d (di (fdI (pad8 a)))) := by
  have h8 := pad8_len a
  refine den_go [] l_impl_firstDigit ?_
  repeat' (first | simp -implicitDefEqProofs (maxSteps := 1000000) (disch := (first | omega | (simp only [go_sem] <;> omega) | fail)) only [go_sem, ints, bools, mat, c_impl_firstDigit] | ((first | apply goIf_b | apply goG_b | apply goTG_b | apply goOG_b) <;> intro h <;> ((try simp only [hnq] at h); (try simp only [h]); (try simp only [hnr] at h))))
  have yc := d_slices_IndexFunc_bytes (pad8 a) (fun x => x != 0) _ (fnY_mk _) (by omega); first | refine goC_call [.r, .g (fnY fun x => x != 0)] yc ?_ | refine goOC_call [.r, .g (fnY fun x => x != 0)] yc ?_
  repeat' (first | simp -implicitDefEqProofs (maxSteps := 1000000) (disch := (first | omega | (simp only [go_sem] <;> omega) | fail)) only [go_sem, ints, bools, mat] | ((first | apply goIf_b | apply goG_b | apply goTG_b | apply goOG_b) <;> intro h <;> ((try simp only [hnq] at h); (try simp only [h]); (try simp only [hnr] at h))))
  refine chk_intro (fnOK_mk (d_impl_firstDigit_1 0).1 [] rfl fun ds r hg => ?_) ?_
  · obtain ⟨x, rfl, rfl⟩ := hg
    exact ⟨_, d_impl_firstDigit_1 x⟩
  refine go_c0 ?_
  rfl
abbrev lnM (l c : List Int) : Int := if ggM l c = 0 then (if linB l c = true then 0 else 5) else ggM l c
theorem lnM_ok {l c : List Int} (h : lnM l c = 0) : isSpaceM l = true ∧ isCodeM l c = true ∧ linB l c = true := by
  by_cases h1 : ggM l c = 0
  · by_cases h2 : linB l c = true
    · exact ⟨(ggM_ok h1).1, (ggM_ok h1).2, h2⟩
    · rw [lnM, if_pos h1, if_neg h2] at h; exact absurd h (by decide)
  · rw [lnM, if_neg h1] at h; exact absurd h h1
theorem d_impl_linearCode0 (l c : List Int) (hl : l.length < 1048577) (hc : c.length < 1048577) : Den PA f_impl_linearCode [.d (.agg [ints l]), .d (ints c), .d nil] [.any, .any, .any] (.d (di (lnM l c))) := by
  refine den_go [] l_impl_linearCode ?_
  refine go_c0 ?_
  have yc := d_impl_codeCode0 l hl c hc; first | refine goC_call [.r, .r, .r] yc ?_ | refine goOC_call [.r, .r, .r] yc ?_
  by_cases h : ggM l c = 0
  · obtain ⟨hs, hcc⟩ := ggM_ok h
    rw [lnM, if_pos h, h]
    refine go_c0 ?_
    have yc := d_impl_isLinear l c hs hcc hc; first | refine goC_call [.r, .r] yc ?_ | refine goOC_call [.r, .r] yc ?_
    cases hq : linB l c with
    | true =>
      exact go_e0
    | false =>
      exact go_e0
  · rw [lnM, if_neg h]
    generalize ggM l c = b at h
    repeat' (first | simp -implicitDefEqProofs (maxSteps := 1000000) (disch := (first | omega | (simp only [go_sem] <;> omega) | fail)) only [go_sem, ints, bools, mat] | ((first | apply goIf_b | apply goG_b | apply goTG_b | apply goOG_b) <;> intro h <;> ((try simp only [hnq] at h); (try simp only [h]); (try simp only [hnr] at h))))
    all_goals (exfalso; omega)
theorem d_spec_l05Given (l c : List Int) (hl : l.length < 1048577) (hc : c.length < 1048577) : Den PA f_spec_l05Given [.d (.agg [ints l]), .d (ints c)] [.any, .any] (.d (di (lnM l c))) := by
  refine den_go [] l_spec_l05Given ?_
  refine go_c0 ?_
  have yc := d_spec_l01Given l hl c hc; first | refine goC_call [.r, .r] yc ?_ | refine goOC_call [.r, .r] yc ?_
  by_cases h : ggM l c = 0
  · obtain ⟨hs, hcc⟩ := ggM_ok h
    rw [lnM, if_pos h, h]
    refine go_c0 ?_
    have yc := d_spec_l05Linear l c hs hcc hc; first | refine goC_call [.r, .r] yc ?_ | refine goOC_call [.r, .r] yc ?_
    cases hq : linB l c with
    | true =>
      exact go_e0
    | false =>
      exact go_e0
  · rw [lnM, if_neg h]
    generalize ggM l c = b at h
    repeat' (first | simp -implicitDefEqProofs (maxSteps := 1000000) (disch := (first | omega | (simp only [go_sem] <;> omega) | fail)) only [go_sem, ints, bools, mat] | ((first | apply goIf_b | apply goG_b | apply goTG_b | apply goOG_b) <;> intro h <;> ((try simp only [hnq] at h); (try simp only [h]); (try simp only [hnr] at h))))
    all_goals (exfalso; omega)
def firN (l c : List Int) (n j : Nat) : List Bool := (List.range n).map fun i => pvB l c j i
@[go_sem] theorem firN_len (l c : List Int) (n j : Nat) : (firN l c n j).length = n := by simp [firN]
theorem firN_get (l c : List Int) {n i : Nat} (j : Nat) (h : i < n) : (firN l c n j).getD i false = pvB l c j i := by simp [firN, h]
theorem firN_zero (l c : List Int) (n : Nat) : firN l c n 0 = List.replicate n false := by
  apply List.ext_getElem
  · simp [firN]
  · intro i h1 h2; simp [firN, pvB]
theorem firN_same {l c : List Int} {n j : Nat} (h : ∀ i, (digM l (c.getD j 0)).getD i 0 = 0) : firN l c n (j + 1) = firN l c n j := by
  unfold firN; congr 1; funext i
  rw [pvB_step]
  have : fdB (digM l (c.getD j 0)) i = false := by
    cases e : fdB (digM l (c.getD j 0)) i with
    | false => rfl
    | true => exact ((fdB_ok.1 e).1 (h i)).elim
  rw [this, Bool.or_false]
theorem fdB_uni {d : List Int} {i f : Nat} (h1 : fdB d i = true) (h2 : fdB d f = true) : i = f := by
  obtain ⟨a1, a2⟩ := fdB_ok.1 h1
  obtain ⟨b1, b2⟩ := fdB_ok.1 h2
  rcases Nat.lt_trichotomy i f with h | h | h
  · exact (a1 (b2 i h)).elim
  · exact h
  · exact (b1 (a2 f h)).elim
theorem firN_set {l c : List Int} {n j f : Nat} (hf : f < n) (h : fdB (digM l (c.getD j 0)) f = true) : firN l c n (j + 1) = (firN l c n j).set f true := by
  apply List.ext_getElem
  · simp [firN]
  · intro i h1 h2
    rw [List.getElem_set]
    simp only [firN, List.getElem_map, List.getElem_range]
    rw [pvB_step]
    split
    · subst_vars; rw [h, Bool.or_true]
    · rename_i hne
      have : fdB (digM l (c.getD j 0)) i = false := by
        cases e : fdB (digM l (c.getD j 0)) i with
        | false => rfl
        | true => exact (hne (fdB_uni h e)).elim
      rw [this, Bool.or_false]
theorem fdB_pad {d : List Int} (h : d.length ≤ 8) (i : Nat) : fdB (pad8 d) i = fdB d i := by
  unfold fdB
  rw [pad8_get h]
  congr 1
  congr 1
  funext j
  rw [pad8_get h]
def finI (l c : List Int) (i : Nat) (w : Int) (k : Nat) : Bool := fdB (digM l w) i && ((digM l w).getD i 0 == 1) && (List.range k).all fun j => !pvB l c c.length j || decide (j = i) || (digM l w).getD j 0 == 0
theorem finI_fin {l c : List Int} (h8 : l.length ≤ 8) {i : Nat} (w : Int) (hi : i < l.length) : finI l c i w 8 = finB l c i l.length w := by
  have hiff : finI l c i w 8 = true ↔ finB l c i l.length w = true := by
    rw [finB_ok]
    simp only [finI, Bool.and_eq_true, List.all_eq_true, List.mem_range, beq_iff_eq, Bool.or_eq_true, Bool.not_eq_true', decide_eq_true_eq]
    constructor
    · rintro ⟨⟨h1, h2⟩, h3⟩
      refine ⟨h2, fun j hj h => ?_⟩
      rcases h with h | ⟨h, h'⟩
      · exact (fdB_ok.1 h1).2 j h
      · rcases h3 j (by omega) with (a | a) | a
        · rw [h] at a; cases a
        · exact (h' a).elim
        · exact a
    · rintro ⟨h1, h2⟩
      refine ⟨⟨fdB_ok.2 ⟨by rw [h1]; decide, fun j hj => h2 j (by omega) (.inl hj)⟩, h1⟩, fun j hj => ?_⟩
      by_cases hp : pvB l c c.length j = true
      · by_cases e : j = i
        · exact .inl (.inr e)
        · exact .inr (h2 j (pvB_lt hp) (.inr ⟨hp, e⟩))
      · exact .inl (.inl (by simpa using hp))
  cases h1 : finI l c i w 8 with
  | true => exact (hiff.1 h1).symm
  | false =>
    cases h2 : finB l c i l.length w with
    | false => rfl
    | true => rw [hiff.2 h2] at h1; cases h1
theorem finI_step (l c : List Int) (i : Nat) (w : Int) (k : Nat) : finI l c i w (k + 1) = (finI l c i w k && (!pvB l c c.length k || decide (k = i) || (digM l w).getD k 0 == 0)) := by
  rw [finI, finI, List.range_succ, List.all_append]; simp [Bool.and_assoc]
theorem finB_step (l c : List Int) (i k : Nat) (w : Int) : finB l c i (k + 1) w = (finB l c i k w && !((decide (k < i) || (pvB l c c.length k && decide (k ≠ i))) && (digM l w).getD k 0 != 0)) := by
  rw [finB, finB, List.range_succ, List.all_append]; simp [Bool.and_assoc]
theorem bsN_pad {l c : List Int} : ∀ m, l.length ≤ m → bsN l c m = bsM l c
  | 0, h => by rw [bsM, show l.length = 0 by omega]
  | m + 1, h => by
    by_cases e : l.length = m + 1
    · rw [bsM, e]
    · rw [bsN, bsN_pad m (by omega), if_neg, List.append_nil]
      intro hp; have := pvB_lt hp; omega
theorem fdI_eq {d : List Int} (h : d.length ≤ 8) (m : Nat) : (fdI (pad8 d) = (m : Int)) ↔ fdB d m = true := by
  rw [← fdB_pad h]
  rcases fdI_spec (pad8 d) with ⟨h1, h2⟩ | ⟨f, hf, h1, h2⟩
  · rw [h1]
    constructor
    · intro h; omega
    · intro h; exact ((fdB_ok.1 h).1 (h2 m)).elim
  · rw [h1]
    constructor
    · intro h; have : f = m := by omega
      rw [← this]; exact h2
    · intro h; rw [fdB_uni h2 h]
@[go_sem] theorem getB2 {l : List Bool} {j : Nat} (h : j < l.length) : (l.map db)[j]? = some (db (l.getD j false)) := by simp [h]
theorem bsN_len {l c : List Int} (hs : isSpaceM l = true) (hcc : isCodeM l c = true) (hl : linB l c = true) : ∀ m, (bsN l c m).length ≤ m
  | 0 => Nat.le_refl _
  | m + 1 => by
    have ih := bsN_len hs hcc hl m
    rw [bsN, List.length_append]
    split
    · rename_i hp
      have : (c.filter (finB l c m l.length)).length ≤ 1 := by
        cases hf : c.filter (finB l c m l.length) with
        | nil => simp
        | cons x r =>
          have hx : x ∈ c.filter (finB l c m l.length) := by rw [hf]; exact List.mem_cons_self
          obtain ⟨hx1, hx2⟩ := List.mem_filter.1 hx
          obtain ⟨k, hk, rfl⟩ := List.mem_iff_getElem.1 hx1
          have e : c[k] = c.getD k 0 := by simp [hk]
          rw [e] at hx2
          have := fin_one hs hcc hl (pvB_lt hp) hk hx2
          rw [hf] at this; rw [this]; simp
      omega
    · simp; omega
theorem d_impl_basis (l c : List Int) (hs : isSpaceM l = true) (hcc : isCodeM l c = true) (hl : linB l c = true) (hc : c.length < 1048577) : Den PA f_impl_basis [.d (.agg [ints l]), .d (ints c)] [.any, .any] (.own 1 ((bsM l c).map di)) := by
  have hn := isSpaceM_n hs
  have hz := isSpaceM_szs hs
  have hcs := code_small hs hcc
  have hd8 : ∀ w, (digM l w).length ≤ 8 := fun w => by rw [digM_len]; omega
  refine den_go [] l_impl_basis ?_
  have y1 := kc [.r, .r] (d_impl_digitsOfAll l hs c hc hcs); refine go_c0 ?_
  refine go_loop (fun (j : Nat) => ⟨[(1, .d (ints c)), (2, .ref 0 0), (5, .ref 1 0), (21, .sl 2 0 c.length 8), (22, .d (di c.length)), (23, .d (di j))], [some (.var [ints l]), some (.var ((firN l c 8 j).map db)), some (.dat 8 (digs (digsM l c)))]⟩) (fun j => j ≤ c.length) (fun j => c.length - j) 0 ?_ ?_ ?_
  · simp -implicitDefEqProofs (maxSteps := 1000000) (disch := (first | omega | (simp only [go_sem] <;> omega) | fail)) only [go_sem, ints, bools, mat]; rfl
  · simp
  · rintro j hj J hJ
    have hg := fun h => digsM_get l c (i := j) h
    repeat' (first | simp -implicitDefEqProofs (maxSteps := 1000000) (disch := (first | omega | (simp only [go_sem] <;> omega) | fail)) only [go_sem, ints, bools, mat] | ((first | apply goIf_b | apply goG_b | apply goTG_b | apply goOG_b) <;> intro h <;> ((try simp only [hnq] at h); (try simp only [h]); (try simp only [hnr] at h))))
    · rw [hg (by omega)]
      have hfs := fdI_spec (pad8 (digM l (c.getD j 0)))
      have yc := d_impl_firstDigit (digM l (c.getD j 0)); first | refine goC_call [.r] yc ?_ | refine goOC_call [.r] yc ?_
      rcases hfs with ⟨h1, h2⟩ | ⟨f, hf, h1, h2⟩
      · rw [h1]
        refine go_c0 ?_
        refine hJ (j + 1) (by omega) (by omega) _ ?_
        simp -implicitDefEqProofs (maxSteps := 1000000) (disch := (first | omega | (simp only [go_sem] <;> omega) | fail)) only [go_sem, ints, bools, mat]
        rw [firN_same fun i => by rw [← pad8_get (hd8 _)]; exact h2 i]
        rfl
      · rw [h1]
        rw [pad8_len] at hf
        rw [fdB_pad (hd8 _)] at h2
        have hset := firN_set (l := l) (c := c) hf h2
        refine go_c0 ?_
        refine hJ (j + 1) (by omega) (by omega) _ ?_
        simp -implicitDefEqProofs (maxSteps := 1000000) (disch := (first | omega | (simp only [go_sem] <;> omega) | fail)) only [go_sem, ints, bools, mat]
        rw [hset]; rfl
    · have : j = c.length := by omega
      subst this
      have hF := fun i h => firN_get l c (n := 8) (i := i) c.length h
      generalize hFe : firN l c 8 c.length = F at hF
      have hFl : F.length = 8 := by rw [← hFe]; exact firN_len _ _ _ _
      refine go_loop (fun (m : Nat) => ⟨[(1, .d (ints c)), (2, .ref 0 0), (5, .ref 1 0), (9, .sl 2 0 (bsN l c m).length 1), (35, .d (.agg (F.map db))), (36, .d (di m))], [some (.var [ints l]), some (.var (F.map db)), some (.dat 1 ((bsN l c m).map di))]⟩) (fun m => m ≤ 8) (fun m => 8 - m) 0 ?_ ?_ ?_
      · exact go_r0
      · simp
      · rintro m hm M hM
        have hbl := bsN_len hs hcc hl m
        repeat' (first | simp -implicitDefEqProofs (maxSteps := 1000000) (disch := (first | omega | (simp only [go_sem] <;> omega) | fail)) only [go_sem, ints, bools, mat] | ((first | apply goIf_b | apply goG_b | apply goTG_b | apply goOG_b) <;> intro h <;> ((try simp only [hnq] at h); (try simp only [h]); (try simp only [hnr] at h))))
        · have hpv : pvB l c c.length m = true := by rw [← hF m (by omega)]; assumption
          have hml := pvB_lt hpv
          have hbs : ∀ k, bsN l c m ++ (c.take k).filter (finB l c m l.length) = bsN l c m ++ (c.take k).filter (finB l c m l.length) := fun _ => rfl
          have hfl : ∀ k, ((c.take k).filter (finB l c m l.length)).length ≤ k := fun k => Nat.le_trans (List.length_filter_le _ _) (by simp; omega)
          refine go_loop (fun (k : Nat) => ⟨[(1, .d (ints c)), (2, .ref 0 0), (5, .ref 1 0), (9, .sl 2 0 (bsN l c m ++ (c.take k).filter (finB l c m l.length)).length 1), (10, .d (di m)), (35, .d (.agg (F.map db))), (36, .d (di m)), (42, .d (ints c)), (43, .d (di c.length)), (44, .d (di k))], [some (.var [ints l]), some (.var (F.map db)), some (.dat 1 ((bsN l c m ++ (c.take k).filter (finB l c m l.length)).map di))]⟩) (fun k => k ≤ c.length) (fun k => c.length - k) 0 ?_ ?_ ?_
          · simp -implicitDefEqProofs (maxSteps := 1000000) (disch := (first | omega | (simp only [go_sem] <;> omega) | fail)) only [go_sem, ints, bools, mat]; simp
          · simp
          · rintro k hk K hK
            have hfk := hfl k
            have hcw := hcs k
            have hfe := fdI_eq (hd8 (c.getD k 0)) m
            repeat' (first | simp -implicitDefEqProofs (maxSteps := 1000000) (disch := (first | omega | (simp only [go_sem] <;> omega) | fail)) only [go_sem, ints, bools, mat] | ((first | apply goIf_b | apply goG_b | apply goTG_b | apply goOG_b) <;> intro h <;> ((try simp only [hnq] at h); (try simp only [h]); (try simp only [hnr] at h))))
            · have y1 := kc [.r, .r] (d_impl_digitsOf l hs (c.getD k 0) (hcw (by omega)).1 (hcw (by omega)).2); refine go_c0 ?_
              have yc := d_impl_firstDigit (digM l (c.getD k 0)); first | refine goC_call [.r] yc ?_ | refine goOC_call [.r] yc ?_
              have hpg := fun h => pad8_get (hd8 (c.getD k 0)) h
              have hfs := finI_step l c m (c.getD k 0)
              have hff := finI_fin (c := c) (by omega) (c.getD k 0) hml
              have e0 : finI l c m (c.getD k 0) 0 = (fdB (digM l (c.getD k 0)) m && ((digM l (c.getD k 0)).getD m 0 == 1)) := by simp [finI]
              have hp8 := pad8_len (digM l (c.getD k 0))
              repeat' (first | simp -implicitDefEqProofs (maxSteps := 1000000) (disch := (first | omega | (simp only [go_sem] <;> omega) | fail)) only [go_sem, ints, bools, mat] | ((first | apply goIf_b | apply goG_b | apply goTG_b | apply goOG_b) <;> intro h <;> ((try simp only [hnq] at h); (try simp only [h]); (try simp only [hnr] at h))))
              all_goals refine go_loop (fun (n : Nat) => ⟨[(1, .d (ints c)), (2, .ref 0 0), (5, .ref 1 0), (9, .sl 2 0 (bsN l c m ++ (c.take k).filter (finB l c m l.length)).length 1), (10, .d (di m)), (13, .d (di (c.getD k 0))), (14, .ref 3 0), (15, .d (db (finI l c m (c.getD k 0) n))), (35, .d (.agg (F.map db))), (36, .d (di m)), (42, .d (ints c)), (43, .d (di c.length)), (44, .d (di k)), (61, .d (.agg (F.map db))), (62, .d (di n))], [some (.var [ints l]), some (.var (F.map db)), some (.dat 1 ((bsN l c m ++ (c.take k).filter (finB l c m l.length)).map di)), some (.var ((pad8 (digM l (c.getD k 0))).map dy))]⟩) (fun n => n ≤ 8) (fun n => 8 - n) 0 ?_ (Nat.zero_le _) ?_
              · simp -implicitDefEqProofs (maxSteps := 1000000) (disch := (first | omega | (simp only [go_sem] <;> omega) | fail)) only [go_sem, ints, bools, mat]
                rw [e0, hfe.1 (by assumption), hpg]; rfl
              rotate_left
              · simp -implicitDefEqProofs (maxSteps := 1000000) (disch := (first | omega | (simp only [go_sem] <;> omega) | fail)) only [go_sem, ints, bools, mat]
                rw [e0, show fdB (digM l (c.getD k 0)) m = false from by
                  cases hq : fdB (digM l (c.getD k 0)) m with
                  | false => rfl
                  | true => exact (absurd (hfe.2 hq) (by assumption))]; rfl
              all_goals
                rintro n hn8 N hN
                have hs1 := hfs n
                have hg2 := hpg n
                by_cases hn9 : n < 8
                · have hFn := hF n hn9
                  cases hfin : finI l c m (c.getD k 0) n with
                  | false =>
                    rw [hfin, Bool.false_and] at hs1
                    have z1 := hfin; refine go_c1 ?_
                    refine hN (n + 1) (by omega) (by omega) _ ?_
                    simp -implicitDefEqProofs (maxSteps := 1000000) (disch := (first | omega | (simp only [go_sem] <;> omega) | fail)) only [go_sem, ints, bools, mat]
                    rw [hs1]; rfl
                  | true =>
                    rw [hfin, Bool.true_and] at hs1
                    cases hb : F.getD n false with
                    | false =>
                      rw [← hFn, hb] at hs1
                      have z1 := hfin; have z2 := hb; refine go_c2 ?_
                      refine hN (n + 1) (by omega) (by omega) _ ?_
                      simp -implicitDefEqProofs (maxSteps := 1000000) (disch := (first | omega | (simp only [go_sem] <;> omega) | fail)) only [go_sem, ints, bools, mat]
                      rw [hs1]; rfl
                    | true =>
                      rw [← hFn, hb] at hs1
                      repeat' (first | simp -implicitDefEqProofs (maxSteps := 1000000) (disch := (first | omega | (simp only [go_sem] <;> omega) | fail)) only [go_sem, ints, bools, mat, hfin, hb] | ((first | apply goIf_b | apply goG_b | apply goTG_b | apply goOG_b) <;> intro h <;> ((try simp only [hnq] at h); (try simp only [h]); (try simp only [hnr] at h)) <;> (try (exfalso; omega))))
                      all_goals
                        refine hN (n + 1) (by omega) (by omega) _ ?_
                        simp -implicitDefEqProofs (maxSteps := 1000000) (disch := (first | omega | (simp only [go_sem] <;> omega) | fail)) only [go_sem, ints, bools, mat]
                        rw [hs1]
                        first | (rw [show decide (n = m) = true from decide_eq_true (by omega)]; rfl) | (rw [show decide (n = m) = false from decide_eq_false (by omega), hpg]; rfl)
                · have hn0 : n = 8 := by omega
                  subst hn0
                  rw [hff]
                  cases hfin : finB l c m l.length (c.getD k 0) with
                  | false =>
                    have z1 := hfin; refine go_c1 ?_
                    refine hK (k + 1) (by omega) (by omega) _ ?_
                    simp -implicitDefEqProofs (maxSteps := 1000000) (disch := (first | omega | (simp only [go_sem] <;> omega) | fail)) only [go_sem, ints, bools, mat]
                    rw [take_one c (by omega), List.filter_append]; simp [hfin, -List.getD_eq_getElem?_getD]; try omega
                  | true =>
                    have z1 := hfin; refine go_c1 ?_
                    refine hK (k + 1) (by omega) (by omega) _ ?_
                    simp -implicitDefEqProofs (maxSteps := 1000000) (disch := (first | omega | (simp only [go_sem] <;> omega) | fail)) only [go_sem, ints, bools, mat]
                    rw [take_one c (by omega), List.filter_append]; simp [hfin, -List.getD_eq_getElem?_getD]; try omega
            · have : k = c.length := by omega
              subst this
              refine hM (m + 1) (by omega) (by omega) _ ?_
              simp -implicitDefEqProofs (maxSteps := 1000000) (disch := (first | omega | (simp only [go_sem] <;> omega) | fail)) only [go_sem, ints, bools, mat]
              rw [bsN, if_pos hpv]; simp
        · have hpv : ¬ pvB l c c.length m = true := by rw [← hF m (by omega)]; simp_all
          refine hM (m + 1) (by omega) (by omega) _ ?_
          simp -implicitDefEqProofs (maxSteps := 1000000) (disch := (first | omega | (simp only [go_sem] <;> omega) | fail)) only [go_sem, ints, bools, mat]
          rw [bsN, if_neg hpv, List.append_nil]; rfl
        · have : m = 8 := by omega
          subst this
          rw [bsN_pad 8 (by omega)]
theorem d_impl_LeastBasis (l c : List Int) (hl : l.length < 1048577) (hc : c.length < 1048577) : Den PA f_impl_LeastBasis [.d (.agg [ints l]), .d (ints c)] [.any, .any] (lstR (lnM l c) (bsM l c)) := by
  refine den_go [] l_impl_LeastBasis ?_
  refine go_c0 ?_
  have yc := d_impl_linearCode0 l c hl hc; first | refine goC_call [.r, .r, .r] yc ?_ | refine goOC_call [.r, .r, .r] yc ?_
  by_cases h : lnM l c = 0
  · rw [lstR_ok h, h]
    obtain ⟨hs, hcc, hlin⟩ := lnM_ok h
    have y1 := kc [.r, .r] (d_impl_basis l c hs hcc hlin hc); exact go_e0
  · rw [lstR_no h]
    generalize lnM l c = b at h
    repeat' (first | simp -implicitDefEqProofs (maxSteps := 1000000) (disch := (first | omega | (simp only [go_sem] <;> omega) | fail)) only [go_sem, ints, bools, mat] | ((first | apply goIf_b | apply goG_b | apply goTG_b | apply goOG_b) <;> intro h <;> ((try simp only [hnq] at h); (try simp only [h]); (try simp only [hnr] at h))))
    all_goals (exfalso; omega)
theorem d_spec_LeastBasis (l c : List Int) (hl : l.length < 1048577) (hc : c.length < 1048577) : Den PA f_spec_LeastBasis [.d (.agg [ints l]), .d (ints c)] [.any, .any] (lstR (lnM l c) (bsM l c)) := by
  refine den_go [] l_spec_LeastBasis ?_
  refine go_c0 ?_
  have yc := d_spec_l05Given l c hl hc; first | refine goC_call [.r, .r] yc ?_ | refine goOC_call [.r, .r] yc ?_
  by_cases h : lnM l c = 0
  · rw [lstR_ok h, h]
    obtain ⟨hs, hcc, hlin⟩ := lnM_ok h
    have hn := isSpaceM_n hs
    have hz := isSpaceM_szs hs
    have hcs := code_small hs hcc
    have hfl := fun j => firN_len l c l.length j
    refine go_c0 ?_
    refine go_loop (fun (j : Nat) => ⟨[(1, .d (ints c)), (2, .ref 0 0), (7, .sl 1 0 l.length 1), (28, .d (di c.length)), (29, .d (di j))], [some (.var [ints l]), some (.dat 1 ((firN l c l.length j).map db))]⟩) (fun j => j ≤ c.length) (fun j => c.length - j) 0 ?_ ?_ ?_
    · simp -implicitDefEqProofs (maxSteps := 1000000) (disch := (first | omega | (simp only [go_sem] <;> omega) | fail)) only [go_sem, ints, bools, mat]; rw [firN_zero]
    · simp
    · rintro j hj J hJ
      have hdl := digM_len l (c.getD j 0)
      have hfj := hfl j
      repeat' (first | simp -implicitDefEqProofs (maxSteps := 1000000) (disch := (first | omega | (simp only [go_sem] <;> omega) | fail)) only [go_sem, ints, bools, mat] | ((first | apply goIf_b | apply goG_b | apply goTG_b | apply goOG_b) <;> intro h <;> ((try simp only [hnq] at h); (try simp only [h]); (try simp only [hnr] at h))))
      · have y1 := kc [.r, .r] (d_spec_l01Digits l hs (c.getD j 0) (hcs j (by omega)).1 (hcs j (by omega)).2); refine go_c0 ?_
        refine go_loop (fun (i : Nat) => ⟨[(1, .d (ints c)), (2, .ref 0 0), (7, .sl 1 0 l.length 1), (9, .sl 2 0 l.length 1), (28, .d (di c.length)), (29, .d (di j)), (39, .d (di l.length)), (40, .d (di i))], [some (.var [ints l]), some (.dat 1 ((firN l c l.length j).map db)), some (.dat 1 ((digM l (c.getD j 0)).map di))]⟩) (fun i => i ≤ l.length ∧ ∀ k, k < i → (digM l (c.getD j 0)).getD k 0 = 0) (fun i => l.length - i) 0 ?_ ?_ ?_
        · simp -implicitDefEqProofs (maxSteps := 1000000) (disch := (first | omega | (simp only [go_sem] <;> omega) | fail)) only [go_sem, ints, bools, mat]; rw [hdl]
        · simp
        · rintro i ⟨hi, hi2⟩ K hK
          repeat' (first | simp -implicitDefEqProofs (maxSteps := 1000000) (disch := (first | omega | (simp only [go_sem] <;> omega) | fail)) only [go_sem, ints, bools, mat] | ((first | apply goIf_b | apply goG_b | apply goTG_b | apply goOG_b) <;> intro h <;> ((try simp only [hnq] at h); (try simp only [h]); (try simp only [hnr] at h))))
          · have hset := firN_set (l := l) (c := c) (n := l.length) (j := j) (f := i) (by omega) (fdB_ok.2 ⟨by assumption, hi2⟩)
            refine hJ (j + 1) (by omega) (by omega) _ ?_
            simp -implicitDefEqProofs (maxSteps := 1000000) (disch := (first | omega | (simp only [go_sem] <;> omega) | fail)) only [go_sem, ints, bools, mat]
            rw [hset]; rfl
          · refine hK (i + 1) ⟨by omega, all_ext hi2 (by simp_all)⟩ (by omega) _ go_r0
          · have : i = l.length := by omega
            subst this
            refine hJ (j + 1) (by omega) (by omega) _ ?_
            simp -implicitDefEqProofs (maxSteps := 1000000) (disch := (first | omega | (simp only [go_sem] <;> omega) | fail)) only [go_sem, ints, bools, mat]
            rw [firN_same fun k => ?_]
            · rfl
            · by_cases hk : k < l.length
              · exact hi2 k hk
              · rw [List.getD_eq_getElem?_getD, List.getElem?_eq_none (by omega)]; rfl
      · have : j = c.length := by omega
        subst this
        have hF := fun i h => firN_get l c (n := l.length) (i := i) c.length h
        generalize hFe : firN l c l.length c.length = F at hF hfj
        refine go_c0 ?_
        refine go_loop (fun (m : Nat) => ⟨[(1, .d (ints c)), (2, .ref 0 0), (7, .sl 1 0 l.length 1), (11, .sl 2 0 (bsN l c m).length 1), (55, .d (di l.length)), (56, .d (di m))], [some (.var [ints l]), some (.dat 1 (F.map db)), some (.dat 1 ((bsN l c m).map di))]⟩) (fun m => m ≤ l.length) (fun m => l.length - m) 0 ?_ ?_ ?_
        · exact go_r0
        · simp
        · rintro m hm M hM
          have hbl := bsN_len hs hcc hlin m
          repeat' (first | simp -implicitDefEqProofs (maxSteps := 1000000) (disch := (first | omega | (simp only [go_sem] <;> omega) | fail)) only [go_sem, ints, bools, mat] | ((first | apply goIf_b | apply goG_b | apply goTG_b | apply goOG_b) <;> intro h <;> ((try simp only [hnq] at h); (try simp only [h]); (try simp only [hnr] at h))))
          · have hpv : pvB l c c.length m = true := by rw [← hF m (by omega)]; assumption
            refine go_loop (fun (k : Nat) => ⟨[(1, .d (ints c)), (2, .ref 0 0), (7, .sl 1 0 l.length 1), (11, .sl 2 0 (bsN l c m).length 1), (12, .d (di m)), (55, .d (di l.length)), (56, .d (di m)), (65, .d (di c.length)), (66, .d (di k))], [some (.var [ints l]), some (.dat 1 (F.map db)), some (.dat 1 ((bsN l c m).map di))]⟩) (fun k => k ≤ c.length ∧ ∀ j, j < k → finB l c m l.length (c.getD j 0) = false) (fun k => c.length - k) 0 ?_ ?_ ?_
            · exact go_r0
            · simp
            · rintro k ⟨hk, hk2⟩ K hK
              have hdk := digM_len l (c.getD k 0)
              repeat' (first | simp -implicitDefEqProofs (maxSteps := 1000000) (disch := (first | omega | (simp only [go_sem] <;> omega) | fail)) only [go_sem, ints, bools, mat] | ((first | apply goIf_b | apply goG_b | apply goTG_b | apply goOG_b) <;> intro h <;> ((try simp only [hnq] at h); (try simp only [h]); (try simp only [hnr] at h))))
              · have y1 := kc [.r, .r] (d_spec_l01Digits l hs (c.getD k 0) (hcs k (by omega)).1 (hcs k (by omega)).2); refine go_c0 ?_
                refine go_loop (fun (i : Nat) => ⟨[(1, .d (ints c)), (2, .ref 0 0), (7, .sl 1 0 l.length 1), (11, .sl 2 0 (bsN l c m).length 1), (12, .d (di m)), (13, .d (di k)), (14, .sl 3 0 l.length 1), (15, .d (db (finB l c m i (c.getD k 0)))), (55, .d (di l.length)), (56, .d (di m)), (65, .d (di c.length)), (66, .d (di k)), (81, .d (di l.length)), (82, .d (di i))], [some (.var [ints l]), some (.dat 1 (F.map db)), some (.dat 1 ((bsN l c m).map di)), some (.dat 1 ((digM l (c.getD k 0)).map di))]⟩) (fun i => i ≤ l.length) (fun i => l.length - i) 0 ?_ (Nat.zero_le _) ?_
                · simp -implicitDefEqProofs (maxSteps := 1000000) (disch := (first | omega | (simp only [go_sem] <;> omega) | fail)) only [go_sem, ints, bools, mat]; rw [hdk]; simp [finB, -List.getD_eq_getElem?_getD]
                · rintro i hi N hN
                  by_cases hi2 : i < l.length
                  · have hs1 := finB_step l c m i (c.getD k 0)
                    rw [← hF i hi2] at hs1
                    by_cases a1 : i < m <;> by_cases a4 : (digM l (c.getD k 0)).getD i 0 = 0 <;> by_cases a3 : i = m <;> cases hb : F.getD i false
                    all_goals first
                      | (exfalso; omega)
                      | (subst a3
                         simp [a4, hb, -List.getD_eq_getElem?_getD] at hs1
                         repeat' (first | simp -implicitDefEqProofs (maxSteps := 1000000) (disch := (first | omega | (simp only [go_sem] <;> omega) | fail)) only [go_sem, ints, bools, mat, hb] | ((first | apply goIf_b | apply goG_b | apply goTG_b | apply goOG_b) <;> intro h <;> ((try simp only [hnq] at h); (try simp only [h]); (try simp only [hnr] at h)) <;> (try (exfalso; omega))))
                         all_goals
                           refine hN (i + 1) (by omega) (by omega) _ ?_
                           simp -implicitDefEqProofs (maxSteps := 1000000) (disch := (first | omega | (simp only [go_sem] <;> omega) | fail)) only [go_sem, ints, bools, mat]
                           rw [hs1]; rfl)
                      | (simp [a1, a3, a4, hb, -List.getD_eq_getElem?_getD] at hs1
                         try rw [bne_iff_ne.2 a4, Bool.not_true, Bool.and_false] at hs1
                         repeat' (first | simp -implicitDefEqProofs (maxSteps := 1000000) (disch := (first | omega | (simp only [go_sem] <;> omega) | fail)) only [go_sem, ints, bools, mat, hb] | ((first | apply goIf_b | apply goG_b | apply goTG_b | apply goOG_b) <;> intro h <;> ((try simp only [hnq] at h); (try simp only [h]); (try simp only [hnr] at h)) <;> (try (exfalso; omega))))
                         all_goals
                           refine hN (i + 1) (by omega) (by omega) _ ?_
                           simp -implicitDefEqProofs (maxSteps := 1000000) (disch := (first | omega | (simp only [go_sem] <;> omega) | fail)) only [go_sem, ints, bools, mat]
                           rw [hs1]; rfl)
                  · have : i = l.length := by omega
                    subst this
                    cases hfin : finB l c m l.length (c.getD k 0) with
                    | false =>
                      have z1 := hfin; refine go_c1 ?_
                      refine hK (k + 1) ⟨by omega, all_ext hk2 hfin⟩ (by omega) _ go_r0
                    | true =>
                      have z1 := hfin; refine go_c1 ?_
                      refine hM (m + 1) (by omega) (by omega) _ ?_
                      simp -implicitDefEqProofs (maxSteps := 1000000) (disch := (first | omega | (simp only [go_sem] <;> omega) | fail)) only [go_sem, ints, bools, mat]
                      rw [bsN, if_pos hpv, fin_one hs hcc hlin (by omega) (by omega) hfin]; simp [-List.getD_eq_getElem?_getD]
              · have : k = c.length := by omega
                subst this
                refine hM (m + 1) (by omega) (by omega) _ ?_
                simp -implicitDefEqProofs (maxSteps := 1000000) (disch := (first | omega | (simp only [go_sem] <;> omega) | fail)) only [go_sem, ints, bools, mat]
                rw [bsN, if_pos hpv, filter_none, List.append_nil]
                · rfl
                · intro x hx
                  obtain ⟨j, hj, rfl⟩ := List.mem_iff_getElem.1 hx
                  have := hk2 j hj
                  simpa [hj] using this
          · have hpv : ¬ pvB l c c.length m = true := by rw [← hF m (by omega)]; simp_all
            refine hM (m + 1) (by omega) (by omega) _ ?_
            simp -implicitDefEqProofs (maxSteps := 1000000) (disch := (first | omega | (simp only [go_sem] <;> omega) | fail)) only [go_sem, ints, bools, mat]
            rw [bsN, if_neg hpv, List.append_nil]; rfl
          · have : m = l.length := by omega
            subst this
            rfl
  · rw [lstR_no h]
    generalize lnM l c = b at h
    repeat' (first | simp -implicitDefEqProofs (maxSteps := 1000000) (disch := (first | omega | (simp only [go_sem] <;> omega) | fail)) only [go_sem, ints, bools, mat] | ((first | apply goIf_b | apply goG_b | apply goTG_b | apply goOG_b) <;> intro h <;> ((try simp only [hnq] at h); (try simp only [h]); (try simp only [hnr] at h))))
    all_goals (exfalso; omega)
def addW (l : List Int) (u v : Int) : Nat → Int
  | 0 => u
  | m + 1 => sumW l (addW l u v m) v
theorem addW_dig {l : List Int} (hz : szs l) (u v : Int) {i : Nat} (h : i < l.length) : ∀ m : Nat, (digM l (addW l u v m)).getD i 0 = ((digM l u).getD i 0 + m * (digM l v).getD i 0) % l.getD i 0
  | 0 => by
    have := dig_lt hz u h
    rw [addW, Int.natCast_zero, Int.zero_mul, Int.add_zero, Int.emod_eq_of_lt this.1 this.2]
  | m + 1 => by
    rw [addW, sumW_dig hz _ v h, addW_dig hz u v h m, Int.emod_add_emod, Int.natCast_add, Int.natCast_one, Int.add_mul, Int.one_mul, Int.add_assoc]
theorem addW_in {l c : List Int} (hs : isSpaceM l = true) (hcc : isCodeM l c = true) (hl : linB l c = true) {u v : Int} (hu : u ∈ c) (hv : v ∈ c) : ∀ m, addW l u v m ∈ c
  | 0 => hu
  | m + 1 => lin_clo hs hcc hl (addW_in hs hcc hl hu hv m) hv
theorem pq {l c : List Int} (hs : isSpaceM l = true) (hl : linB l c = true) {i : Nat} (h : i < l.length) : l.getD i 0 = l.getD 0 0 ∧ 2 ≤ l.getD 0 0 ∧ l.getD 0 0 ≤ 3 := by
  have h1 := (plainM_ok l).1 (lin_plain hl) i h
  have h2 := isSpaceM_szs hs i h
  omega
theorem piv_one {l c : List Int} (hs : isSpaceM l = true) (hcc : isCodeM l c = true) (hl : linB l c = true) {t : Nat} (h : pvB l c c.length t = true) : ∃ b, b ∈ c ∧ (digM l b).getD t 0 = 1 ∧ ∀ j, j < t → (digM l b).getD j 0 = 0 := by
  have ht := pvB_lt h
  rw [pvB, List.any_eq_true] at h
  obtain ⟨k, hk, h⟩ := h
  have hk := List.mem_range.1 hk
  obtain ⟨h1, h2⟩ := fdB_ok.1 h
  have hu := mem_getD hk
  generalize c.getD k 0 = u at h1 h2 hu
  have hz := isSpaceM_szs hs
  have hd := dig_lt hz u ht
  have hq := pq hs hl ht
  by_cases e : (digM l u).getD t 0 = 1
  · exact ⟨u, hu, e, h2⟩
  · refine ⟨addW l u u 1, addW_in hs hcc hl hu hu 1, ?_, fun j hj => ?_⟩
    · have e2 : (digM l u).getD t 0 = 2 := by omega
      rw [addW_dig hz u u ht, e2, hq.1, show l.getD 0 0 = 3 by omega]; rfl
    · rw [addW_dig hz u u (by omega), h2 j hj, Int.mul_zero, Int.add_zero, Int.zero_emod]
theorem kill {l c : List Int} (hs : isSpaceM l = true) (hcc : isCodeM l c = true) (hl : linB l c = true) {t : Nat} (ht : t < l.length) {u b : Int} (hu : u ∈ c) (hb : b ∈ c) (h1 : (digM l b).getD t 0 = 1) (h2 : ∀ j, j < t → (digM l b).getD j 0 = 0) :
    ∃ m : Nat, addW l u b m ∈ c ∧ (digM l (addW l u b m)).getD t 0 = 0 ∧ ∀ j, j < t → (digM l (addW l u b m)).getD j 0 = (digM l u).getD j 0 := by
  have hz := isSpaceM_szs hs
  have hd := dig_lt hz u ht
  have hq := pq hs hl ht
  refine ⟨(l.getD t 0 - (digM l u).getD t 0).toNat, addW_in hs hcc hl hu hb _, ?_, fun j hj => ?_⟩
  · rw [addW_dig hz u b ht, h1, Int.mul_one, Int.toNat_of_nonneg (by omega), show (digM l u).getD t 0 + (l.getD t 0 - (digM l u).getD t 0) = l.getD t 0 by omega, Int.emod_self]
  · rw [addW_dig hz u b (by omega), h2 j hj, Int.mul_zero, Int.add_zero]
    have := dig_lt hz u (show j < l.length by omega)
    exact Int.emod_eq_of_lt this.1 this.2
theorem fin_ex {l c : List Int} (hs : isSpaceM l = true) (hcc : isCodeM l c = true) (hl : linB l c = true) {i : Nat} (h : pvB l c c.length i = true) : ∀ k, i + 1 + k ≤ l.length →
    ∃ w, w ∈ c ∧ (digM l w).getD i 0 = 1 ∧ (∀ j, j < i → (digM l w).getD j 0 = 0) ∧ ∀ j, i < j → j < i + 1 + k → pvB l c c.length j = true → (digM l w).getD j 0 = 0
  | 0, _ => by
    obtain ⟨b, h1, h2, h3⟩ := piv_one hs hcc hl h
    exact ⟨b, h1, h2, h3, fun j a b => by omega⟩
  | k + 1, hk => by
    obtain ⟨w, h1, h2, h3, h4⟩ := fin_ex hs hcc hl h k (by omega)
    by_cases hp : pvB l c c.length (i + 1 + k) = true
    · obtain ⟨b, b1, b2, b3⟩ := piv_one hs hcc hl hp
      obtain ⟨m, m1, m2, m3⟩ := kill hs hcc hl (by omega) h1 b1 b2 b3
      refine ⟨_, m1, by rw [m3 i (by omega)]; exact h2, fun j hj => by rw [m3 j (by omega)]; exact h3 j hj, fun j hj1 hj2 hjp => ?_⟩
      by_cases e : j = i + 1 + k
      · rw [e]; exact m2
      · rw [m3 j (by omega)]; exact h4 j hj1 (by omega) hjp
    · refine ⟨w, h1, h2, h3, fun j hj1 hj2 hjp => ?_⟩
      by_cases e : j = i + 1 + k
      · rw [e] at hjp; exact (hp hjp).elim
      · exact h4 j hj1 (by omega) hjp
theorem fin_ex2 {l c : List Int} (hs : isSpaceM l = true) (hcc : isCodeM l c = true) (hl : linB l c = true) {i : Nat} (h : pvB l c c.length i = true) : ∃ w, w ∈ c ∧ finB l c i l.length w = true := by
  have hi := pvB_lt h
  obtain ⟨w, h1, h2, h3, h4⟩ := fin_ex hs hcc hl h (l.length - (i + 1)) (by omega)
  refine ⟨w, h1, finB_ok.2 ⟨h2, fun j hj hh => ?_⟩⟩
  rcases hh with hh | ⟨hh, he⟩
  · exact h3 j hh
  · by_cases hji : j < i
    · exact h3 j hji
    · exact h4 j (by omega) (by omega) hh
theorem bsN_mem {l c : List Int} {x : Int} : ∀ m, x ∈ bsN l c m ↔ ∃ i, i < m ∧ pvB l c c.length i = true ∧ x ∈ c ∧ finB l c i l.length x = true
  | 0 => by simp [bsN]
  | m + 1 => by
    rw [bsN, List.mem_append, bsN_mem m]
    constructor
    · rintro (⟨i, a, b⟩ | h)
      · exact ⟨i, by omega, b⟩
      · split at h
        · rename_i hp; obtain ⟨a, b⟩ := List.mem_filter.1 h; exact ⟨m, by omega, hp, a, b⟩
        · cases h
    · rintro ⟨i, a, b, c1, d⟩
      by_cases e : i = m
      · subst e; right; rw [if_pos b]; exact List.mem_filter.2 ⟨c1, d⟩
      · exact .inl ⟨i, by omega, b, c1, d⟩
theorem mul_mod_l (x y q : Int) : ((x % q) * y) % q = (x * y) % q := by
  rw [Int.mul_emod, Int.emod_emod, ← Int.mul_emod]
theorem sN_lin {l : List Int} (hz : szs l) (q : Int) (hq : ∀ i, i < l.length → l.getD i 0 = q) (u b : Int) (m : Nat) (d : List Int) : ∀ n, n ≤ l.length → sN (digM l (addW l u b m)) d n % q = (sN (digM l u) d n + m * sN (digM l b) d n) % q
  | 0, _ => by simp [sN]
  | n + 1, h => by
    rw [sN, sN, sN, addW_dig hz u b (by omega), hq n (by omega), Int.add_emod, sN_lin hz q hq u b m d n (by omega), mul_mod_l, ← Int.add_emod]
    congr 1
    rw [Int.add_mul, Int.mul_add, Int.mul_assoc]; omega
theorem sN_zero {a b : List Int} : ∀ n, (∀ i, i < n → a.getD i 0 = 0) → sN a b n = 0
  | 0, _ => rfl
  | n + 1, h => by rw [sN, sN_zero n fun i hi => h i (by omega), h n (by omega), Int.zero_mul, Int.add_zero]
theorem orth_all {l c : List Int} (hs : isSpaceM l = true) (hcc : isCodeM l c = true) (hl : linB l c = true) (d : List Int) (hb : ∀ t, pvB l c c.length t = true → ∃ b, b ∈ c ∧ (digM l b).getD t 0 = 1 ∧ (∀ j, j < t → (digM l b).getD j 0 = 0) ∧ sN (digM l b) d l.length % l.getD 0 0 = 0) :
    ∀ k t, t + k = l.length → ∀ u, u ∈ c → (∀ j, j < t → (digM l u).getD j 0 = 0) → sN (digM l u) d l.length % l.getD 0 0 = 0
  | 0, t, h, u, hu, hj => by rw [sN_zero _ fun i hi => hj i (by omega), Int.zero_emod]
  | k + 1, t, h, u, hu, hj => by
    by_cases e : (digM l u).getD t 0 = 0
    · exact orth_all hs hcc hl d hb k (t + 1) (by omega) u hu (fun j hj' => by
        by_cases hjt : j = t
        · rw [hjt]; exact e
        · exact hj j (by omega))
    · obtain ⟨b, b1, b2, b3, b4⟩ := hb t (pvB_in hu (fdB_ok.2 ⟨e, hj⟩))
      obtain ⟨m, m1, m2, m3⟩ := kill hs hcc hl (by omega) hu b1 b2 b3
      have ih := orth_all hs hcc hl d hb k (t + 1) (by omega) _ m1 (fun j hj' => by
        by_cases hjt : j = t
        · rw [hjt]; exact m2
        · rw [m3 j (by omega)]; exact hj j (by omega))
      rw [sN_lin (isSpaceM_szs hs) (l.getD 0 0) (fun i hi => (pq hs hl hi).1) u b m d l.length (Nat.le_refl _)] at ih
      rw [← Int.dvd_iff_emod_eq_zero] at ih b4 ⊢
      exact (Int.dvd_add_left (Int.dvd_mul_of_dvd_right b4)).1 ih
def orB (l : List Int) (c : List Int) (w : Int) : Bool := c.all fun u => sN (digM l u) (digM l w) l.length % l.getD 0 0 == 0
abbrev duM (l c : List Int) : List Int := (allW l).filter (orB l c)
theorem orB_bs {l c : List Int} (hs : isSpaceM l = true) (hcc : isCodeM l c = true) (hl : linB l c = true) (w : Int) : orB l (bsM l c) w = orB l c w := by
  have hiff : orB l (bsM l c) w = true ↔ orB l c w = true := by
    simp only [orB, List.all_eq_true, beq_iff_eq]
    constructor
    · intro h u hu
      refine orth_all hs hcc hl (digM l w) (fun t ht => ?_) l.length 0 (by omega) u hu (fun j hj => by omega)
      obtain ⟨b, b1, b2⟩ := fin_ex2 hs hcc hl ht
      obtain ⟨e1, e2⟩ := finB_ok.1 b2
      exact ⟨b, b1, e1, fun j hj => e2 j (by have := pvB_lt ht; omega) (.inl hj), h b ((bsN_mem _).2 ⟨t, pvB_lt ht, ht, b1, b2⟩)⟩
    · intro h u hu
      obtain ⟨_, _, _, hc, _⟩ := (bsN_mem _).1 hu
      exact h u hc
  cases h1 : orB l (bsM l c) w with
  | true => exact (hiff.1 h1).symm
  | false =>
    cases h2 : orB l c w with
    | false => rfl
    | true => rw [hiff.2 h2] at h1; cases h1
theorem d_impl_dual_1_1 (l a b : List Int) (hs : isSpaceM l = true) (ha : a.length = l.length) (hb : b.length = l.length) (ha4 : in4 a) (hb4 : in4 b) :
    Den PA f_impl_dual_1_1 [.d (dig b), .box [ints l], .box ((pad8 a).map dy)] [.any, .any, .any] (.d (db (sN a b l.length % l.getD 0 0 != 0))) := by
  have hn := isSpaceM_n hs
  have ea := pad8_len a
  have eb := pad8_len b
  refine den_go [] l_impl_dual_1_1 ?_
  have y1 := kc [.r, .r, .r] (d_impl_products l a b hs (by omega) (by omega) ha4 hb4); refine go_c0 ?_
  rw [ha]
theorem d_impl_dual_1 (l a : List Int) (bs : List Int) (hs : isSpaceM l = true) (ha : a.length = l.length) (ha4 : in4 a) (hbs : bs.length < 1048577) :
    Den PA f_impl_dual_1 [.d (dig a), .box [.lst 8 (digs (digsM l bs))], .box [ints l]] [.any, .any, .any] (.d (db (!((digsM l bs).any fun b => sN a b l.length % l.getD 0 0 != 0)))) := by
  have hn := isSpaceM_n hs
  have ea := pad8_len a
  have hz := isSpaceM_szs hs
  refine den_go [] l_impl_dual_1 ?_
  repeat' (first | simp -implicitDefEqProofs (maxSteps := 1000000) (disch := (first | omega | (simp only [go_sem] <;> omega) | fail)) only [go_sem, ints, bools, mat, c_impl_dual_1] | ((first | apply goIf_b | apply goG_b | apply goTG_b | apply goOG_b) <;> intro h <;> ((try simp only [hnq] at h); (try simp only [h]); (try simp only [hnr] at h))))
  have yc := d_slices_ContainsFunc_dig (digsM l bs) (fun b => sN a b l.length % l.getD 0 0 != 0) _ (fun i hi => by rw [digsM_len] at hi; rw [digsM_get l _ hi]; exact fnD_mk hs (fun b => sN a b l.length % l.getD 0 0 != 0) _) (by rw [digsM_len]; omega); first | refine goC_call [.r, .g (fnD l.length fun b => sN a b l.length % l.getD 0 0 != 0)] yc ?_ | refine goOC_call [.r, .g (fnD l.length fun b => sN a b l.length % l.getD 0 0 != 0)] yc ?_
  repeat' (first | simp -implicitDefEqProofs (maxSteps := 1000000) (disch := (first | omega | (simp only [go_sem] <;> omega) | fail)) only [go_sem, ints, bools, mat] | ((first | apply goIf_b | apply goG_b | apply goTG_b | apply goOG_b) <;> intro h <;> ((try simp only [hnq] at h); (try simp only [h]); (try simp only [hnr] at h))))
  refine chk_intro (fnOK_mk (d_impl_dual_1_1 l a a hs ha ha ha4 ha4).1 [[ints l], (pad8 a).map dy] rfl fun ds r hgg => ?_) ?_
  · obtain ⟨b, hb, hb4, rfl, rfl⟩ := hgg
    exact ⟨_, d_impl_dual_1_1 l a b hs ha hb ha4 hb4⟩
  exact go_e0
def duP (l c a : List Int) : Bool := !((digsM l c).any fun b => sN a b l.length % l.getD 0 0 != 0)
theorem d_impl_dual_1p (l a : List Int) (bs : List Int) (hs : isSpaceM l = true) (ha : a.length = l.length) (ha4 : in4 a) (hbs : bs.length < 1048577) :
    Den PA f_impl_dual_1 [.d (dig a), .box [.lst 8 (digs (digsM l bs))], .box [ints l]] [.any, .any, .any] (.d (db (duP l bs a))) := d_impl_dual_1 l a bs hs ha ha4 hbs
theorem orB_any (l c : List Int) (w : Int) : (!((digsM l c).any fun b => sN (digM l w) b l.length % l.getD 0 0 != 0)) = orB l c w := by
  rw [Bool.eq_iff_iff]
  simp only [orB, Bool.not_eq_true', List.any_eq_false, List.all_eq_true, beq_iff_eq, bne_iff_ne, Decidable.not_not, digsM]
  constructor
  · intro h u hu
    rw [sN_comm]; exact h _ (List.mem_map.2 ⟨u, hu, rfl⟩)
  · intro h b hb
    obtain ⟨u, hu, rfl⟩ := List.mem_map.1 hb
    rw [sN_comm]; exact h u hu
theorem d_impl_dual (l c : List Int) (hs : isSpaceM l = true) (hcc : isCodeM l c = true) (hl : linB l c = true) (hc : c.length < 1048577) : Den PA f_impl_dual [.d (.agg [ints l]), .d (ints c)] [.any, .any] (.own 1 ((duM l c).map di)) := by
  have hn := isSpaceM_n hs
  have hz := isSpaceM_szs hs
  have hcs := code_small hs hcc
  have hbl : (bsM l c).length ≤ l.length := bsN_len hs hcc hl l.length
  have e : duM l c = thoseM l (duP l (bsM l c)) := by
    unfold duM thoseM
    congr 1; funext w
    rw [← orB_bs hs hcc hl]; exact (orB_any l (bsM l c) w).symm
  have hbm : ∀ j, j < (bsM l c).length → 0 ≤ (bsM l c).getD j 0 ∧ (bsM l c).getD j 0 < 1000000000000 := fun j hj => by
    obtain ⟨_, _, _, h, _⟩ := (bsN_mem _).1 (mem_getD hj)
    have h1 : 0 ≤ (bsM l c).getD j 0 ∧ (bsM l c).getD j 0 < prodM l := code_mem hcc h
    have h2 := isSpaceM_prod hs
    omega
  refine den_go [] l_impl_dual ?_
  repeat' (first | simp -implicitDefEqProofs (maxSteps := 1000000) (disch := (first | omega | (simp only [go_sem] <;> omega) | fail)) only [go_sem, ints, bools, mat, c_impl_dual] | ((first | apply goIf_b | apply goG_b | apply goTG_b | apply goOG_b) <;> intro h <;> ((try simp only [hnq] at h); (try simp only [h]); (try simp only [hnr] at h))))
  rw [goS_two]
  refine ⟨?_, ?_⟩
  · repeat' (first | simp -implicitDefEqProofs (maxSteps := 1000000) (disch := (first | omega | (simp only [go_sem] <;> omega) | fail)) only [go_sem, ints, bools, mat] | ((first | apply goIf_b | apply goG_b | apply goTG_b | apply goOG_b) <;> intro h <;> ((try simp only [hnq] at h); (try simp only [h]); (try simp only [hnr] at h))))
    have yc := d_impl_basis l c hs hcc hl hc; first | refine goC_call [.r, .r] yc ?_ | refine goOC_call [.r, .r] yc ?_
    repeat' (first | simp -implicitDefEqProofs (maxSteps := 1000000) (disch := (first | omega | (simp only [go_sem] <;> omega) | fail)) only [go_sem, ints, bools, mat] | ((first | apply goIf_b | apply goG_b | apply goTG_b | apply goOG_b) <;> intro h <;> ((try simp only [hnq] at h); (try simp only [h]); (try simp only [hnr] at h))))
    rw [goS_two]
    refine ⟨?_, ?_⟩
    · repeat' (first | simp -implicitDefEqProofs (maxSteps := 1000000) (disch := (first | omega | (simp only [go_sem] <;> omega) | fail)) only [go_sem, ints, bools, mat] | ((first | apply goIf_b | apply goG_b | apply goTG_b | apply goOG_b) <;> intro h <;> ((try simp only [hnq] at h); (try simp only [h]); (try simp only [hnr] at h))))
      have yc := d_impl_digitsOfAll l hs (bsM l c) (by omega) hbm; first | refine goC_call [.r, .r] yc ?_ | refine goOC_call [.r, .r] yc ?_
      repeat' (first | simp -implicitDefEqProofs (maxSteps := 1000000) (disch := (first | omega | (simp only [go_sem] <;> omega) | fail)) only [go_sem, ints, bools, mat] | ((first | apply goIf_b | apply goG_b | apply goTG_b | apply goOG_b) <;> intro h <;> ((try simp only [hnq] at h); (try simp only [h]); (try simp only [hnr] at h))))
      have yc := d_impl_those l hs (duP l (bsM l c)) _ (fnD_mk hs (duP l (bsM l c))); first | refine goC_call [.r, .g (fnD l.length (duP l (bsM l c)))] yc ?_ | refine goOC_call [.r, .g (fnD l.length (duP l (bsM l c)))] yc ?_
      repeat' (first | simp -implicitDefEqProofs (maxSteps := 1000000) (disch := (first | omega | (simp only [go_sem] <;> omega) | fail)) only [go_sem, ints, bools, mat] | ((first | apply goIf_b | apply goG_b | apply goTG_b | apply goOG_b) <;> intro h <;> ((try simp only [hnq] at h); (try simp only [h]); (try simp only [hnr] at h))))
      refine chk_intro (fnOK_mk (d_impl_dual_1 l (digM l 0) (bsM l c) hs (digM_len l 0) (digM_bnd 0 hz) (by omega)).1 [[.lst 8 (digs (digsM l (bsM l c)))], [ints l]] (by simp -implicitDefEqProofs (maxSteps := 1000000) (disch := (first | omega | (simp only [go_sem] <;> omega) | fail)) only [go_sem, ints, bools, mat]) fun ds r hgg => ?_) ?_
      · obtain ⟨a, ha, ha4, rfl, rfl⟩ := hgg
        exact ⟨_, d_impl_dual_1p l a (bsM l c) hs ha ha4 (by omega)⟩
      refine go_c0 ?_
      rw [e]
    · repeat' (first | simp -implicitDefEqProofs (maxSteps := 1000000) (disch := (first | omega | (simp only [go_sem] <;> omega) | fail)) only [go_sem, ints, bools, mat] | ((first | apply goIf_b | apply goG_b | apply goTG_b | apply goOG_b) <;> intro h <;> ((try simp only [hnq] at h); (try simp only [h]); (try simp only [hnr] at h))))
      have yc := d_impl_digitsOfAll l hs (bsM l c) (by omega) hbm; first | refine goC_call [.r, .r] yc ?_ | refine goOC_call [.r, .r] yc ?_
      repeat' (first | simp -implicitDefEqProofs (maxSteps := 1000000) (disch := (first | omega | (simp only [go_sem] <;> omega) | fail)) only [go_sem, ints, bools, mat] | ((first | apply goIf_b | apply goG_b | apply goTG_b | apply goOG_b) <;> intro h <;> ((try simp only [hnq] at h); (try simp only [h]); (try simp only [hnr] at h))))
      have yc := d_impl_those l hs (duP l (bsM l c)) _ (fnD_mk hs (duP l (bsM l c))); first | refine goC_call [.r, .g (fnD l.length (duP l (bsM l c)))] yc ?_ | refine goOC_call [.r, .g (fnD l.length (duP l (bsM l c)))] yc ?_
      repeat' (first | simp -implicitDefEqProofs (maxSteps := 1000000) (disch := (first | omega | (simp only [go_sem] <;> omega) | fail)) only [go_sem, ints, bools, mat] | ((first | apply goIf_b | apply goG_b | apply goTG_b | apply goOG_b) <;> intro h <;> ((try simp only [hnq] at h); (try simp only [h]); (try simp only [hnr] at h))))
      refine chk_intro (fnOK_mk (d_impl_dual_1 l (digM l 0) (bsM l c) hs (digM_len l 0) (digM_bnd 0 hz) (by omega)).1 [[.lst 8 (digs (digsM l (bsM l c)))], [ints l]] (by simp -implicitDefEqProofs (maxSteps := 1000000) (disch := (first | omega | (simp only [go_sem] <;> omega) | fail)) only [go_sem, ints, bools, mat]) fun ds r hgg => ?_) ?_
      · obtain ⟨a, ha, ha4, rfl, rfl⟩ := hgg
        exact ⟨_, d_impl_dual_1p l a (bsM l c) hs ha ha4 (by omega)⟩
      refine go_c0 ?_
      rw [e]
  · repeat' (first | simp -implicitDefEqProofs (maxSteps := 1000000) (disch := (first | omega | (simp only [go_sem] <;> omega) | fail)) only [go_sem, ints, bools, mat] | ((first | apply goIf_b | apply goG_b | apply goTG_b | apply goOG_b) <;> intro h <;> ((try simp only [hnq] at h); (try simp only [h]); (try simp only [hnr] at h))))
    have yc := d_impl_basis l c hs hcc hl hc; first | refine goC_call [.r, .r] yc ?_ | refine goOC_call [.r, .r] yc ?_
    repeat' (first | simp -implicitDefEqProofs (maxSteps := 1000000) (disch := (first | omega | (simp only [go_sem] <;> omega) | fail)) only [go_sem, ints, bools, mat] | ((first | apply goIf_b | apply goG_b | apply goTG_b | apply goOG_b) <;> intro h <;> ((try simp only [hnq] at h); (try simp only [h]); (try simp only [hnr] at h))))
    have yc := d_impl_digitsOfAll l hs (bsM l c) (by omega) hbm; first | refine goC_call [.r, .r] yc ?_ | refine goOC_call [.r, .r] yc ?_
    repeat' (first | simp -implicitDefEqProofs (maxSteps := 1000000) (disch := (first | omega | (simp only [go_sem] <;> omega) | fail)) only [go_sem, ints, bools, mat] | ((first | apply goIf_b | apply goG_b | apply goTG_b | apply goOG_b) <;> intro h <;> ((try simp only [hnq] at h); (try simp only [h]); (try simp only [hnr] at h))))
    have yc := d_impl_those l hs (duP l (bsM l c)) _ (fnD_mk hs (duP l (bsM l c))); first | refine goC_call [.r, .g (fnD l.length (duP l (bsM l c)))] yc ?_ | refine goOC_call [.r, .g (fnD l.length (duP l (bsM l c)))] yc ?_
    repeat' (first | simp -implicitDefEqProofs (maxSteps := 1000000) (disch := (first | omega | (simp only [go_sem] <;> omega) | fail)) only [go_sem, ints, bools, mat] | ((first | apply goIf_b | apply goG_b | apply goTG_b | apply goOG_b) <;> intro h <;> ((try simp only [hnq] at h); (try simp only [h]); (try simp only [hnr] at h))))
    refine chk_intro (fnOK_mk (d_impl_dual_1 l (digM l 0) (bsM l c) hs (digM_len l 0) (digM_bnd 0 hz) (by omega)).1 [[.lst 8 (digs (digsM l (bsM l c)))], [ints l]] (by simp -implicitDefEqProofs (maxSteps := 1000000) (disch := (first | omega | (simp only [go_sem] <;> omega) | fail)) only [go_sem, ints, bools, mat]) fun ds r hgg => ?_) ?_
    · obtain ⟨a, ha, ha4, rfl, rfl⟩ := hgg
      exact ⟨_, d_impl_dual_1p l a (bsM l c) hs ha ha4 (by omega)⟩
    refine go_c0 ?_
    rw [e]
theorem d_spec_l05Dual (l c : List Int) (hs : isSpaceM l = true) (hcc : isCodeM l c = true) (hc : c.length < 1048577) : Den PA f_spec_l05Dual [.d (.agg [ints l]), .d (ints c)] [.any, .any] (.own 1 ((duM l c).map di)) := by
  have hn := isSpaceM_n hs
  have hz := isSpaceM_szs hs
  have hcs := code_small hs hcc
  have hp := isSpaceM_prod hs
  have hp1 := prodM_pos hz
  have hal := allW_len l
  refine den_go [] l_spec_l05Dual ?_
  refine go_c0 ?_
  refine go_loop (fun (w : Nat) => ⟨[(1, .d (ints c)), (2, .ref 0 0), (5, .sl 1 0 (((allW l).take w).filter (orB l c)).length 1), (6, .d (di w))], [some (.var [ints l]), some (.dat 1 ((((allW l).take w).filter (orB l c)).map di))]⟩) (fun w => w ≤ (prodM l).toNat) (fun w => (prodM l).toNat - w) 0 ?_ ?_ ?_
  · exact go_r0
  · simp
  · rintro w hw J hJ
    have hfl := filter_len_le (orB l c) ((allW l).take w) w (by simp; omega)
    repeat' (first | simp -implicitDefEqProofs (maxSteps := 1000000) (disch := (first | omega | (simp only [go_sem] <;> omega) | fail)) only [go_sem, ints, bools, mat] | ((first | apply goIf_b | apply goG_b | apply goTG_b | apply goOG_b) <;> intro h <;> ((try simp only [hnq] at h); (try simp only [h]); (try simp only [hnr] at h))))
    have yc := d_spec_l01N l (by omega) (isSpaceM_q hs); first | refine goC_call [.r] yc ?_ | refine goOC_call [.r] yc ?_
    repeat' (first | simp -implicitDefEqProofs (maxSteps := 1000000) (disch := (first | omega | (simp only [go_sem] <;> omega) | fail)) only [go_sem, ints, bools, mat] | ((first | apply goIf_b | apply goG_b | apply goTG_b | apply goOG_b) <;> intro h <;> ((try simp only [hnq] at h); (try simp only [h]); (try simp only [hnr] at h))))
    · refine go_loop (fun (k : Nat) => ⟨[(1, .d (ints c)), (2, .ref 0 0), (5, .sl 1 0 (((allW l).take w).filter (orB l c)).length 1), (6, .d (di w)), (7, .d (db (orB l (c.take k) w))), (8, .d (di k))], [some (.var [ints l]), some (.dat 1 ((((allW l).take w).filter (orB l c)).map di))]⟩) (fun k => k ≤ c.length) (fun k => c.length - k) 0 ?_ ?_ ?_
      · simp -implicitDefEqProofs (maxSteps := 1000000) (disch := (first | omega | (simp only [go_sem] <;> omega) | fail)) only [go_sem, ints, bools, mat]; rfl
      · simp
      · rintro k hk K hK
        have hstep : k < c.length → orB l (c.take (k + 1)) w = (orB l (c.take k) w && (sN (digM l (c.getD k 0)) (digM l w) l.length % l.getD 0 0 == 0)) := fun h => by
          rw [take_one c h, orB, orB, List.all_append]; simp [-List.getD_eq_getElem?_getD]
        have hend : orB l (c.take k) w = false → orB l c w = false := fun h => by
          cases h2 : orB l c w with
          | false => rfl
          | true =>
            rw [orB, List.all_eq_true] at h2
            rw [orB, List.all_eq_false] at h
            obtain ⟨x, hx, h⟩ := h
            exact (h (h2 x (List.mem_of_mem_take hx))).elim
        have hcw := hcs k
        cases hb : orB l (c.take k) w with
        | false =>
          have hb2 := hend hb
          repeat' (first | simp -implicitDefEqProofs (maxSteps := 1000000) (disch := (first | omega | (simp only [go_sem] <;> omega) | fail)) only [go_sem, ints, bools, mat, hb] | ((first | apply goIf_b | apply goG_b | apply goTG_b | apply goOG_b) <;> intro h <;> ((try simp only [hnq] at h); (try simp only [h]); (try simp only [hnr] at h)) <;> (try (exfalso; omega))))
          all_goals
            refine hJ (w + 1) (by omega) (by omega) _ ?_
            simp -implicitDefEqProofs (maxSteps := 1000000) (disch := (first | omega | (simp only [go_sem] <;> omega) | fail)) only [go_sem, ints, bools, mat]
            rw [take_allW l (by omega), List.filter_append]; simp [hb2]
        | true =>
          repeat' (first | simp -implicitDefEqProofs (maxSteps := 1000000) (disch := (first | omega | (simp only [go_sem] <;> omega) | fail)) only [go_sem, ints, bools, mat, hb] | ((first | apply goIf_b | apply goG_b | apply goTG_b | apply goOG_b) <;> intro h <;> ((try simp only [hnq] at h); (try simp only [h]); (try simp only [hnr] at h)) <;> (try (exfalso; omega))))
          · have y1 := kc [.r, .r, .r] (d_spec_l05Product l hs (c.getD k 0) w (hcw (by omega)).1 (hcw (by omega)).2 (by omega) (by omega)); refine go_c0 ?_
            refine hK (k + 1) (by omega) (by omega) _ ?_
            simp -implicitDefEqProofs (maxSteps := 1000000) (disch := (first | omega | (simp only [go_sem] <;> omega) | fail)) only [go_sem, ints, bools, mat]
            rw [hstep (by omega), hb, Bool.true_and]
            rfl
          · have : k = c.length := by omega
            subst this
            rw [List.take_length] at hb
            refine hJ (w + 1) (by omega) (by omega) _ ?_
            simp -implicitDefEqProofs (maxSteps := 1000000) (disch := (first | omega | (simp only [go_sem] <;> omega) | fail)) only [go_sem, ints, bools, mat]
            rw [take_allW l (by omega), List.filter_append]; simp [hb]
theorem d_impl_DualCode (l c : List Int) (hl : l.length < 1048577) (hc : c.length < 1048577) : Den PA f_impl_DualCode [.d (.agg [ints l]), .d (ints c)] [.any, .any] (lstR (lnM l c) (duM l c)) := by
  refine den_go [] l_impl_DualCode ?_
  refine go_c0 ?_
  have yc := d_impl_linearCode0 l c hl hc; first | refine goC_call [.r, .r, .r] yc ?_ | refine goOC_call [.r, .r, .r] yc ?_
  by_cases h : lnM l c = 0
  · rw [lstR_ok h, h]
    obtain ⟨hs, hcc, hlin⟩ := lnM_ok h
    have y1 := kc [.r, .r] (d_impl_dual l c hs hcc hlin hc); exact go_e0
  · rw [lstR_no h]
    generalize lnM l c = b at h
    repeat' (first | simp -implicitDefEqProofs (maxSteps := 1000000) (disch := (first | omega | (simp only [go_sem] <;> omega) | fail)) only [go_sem, ints, bools, mat] | ((first | apply goIf_b | apply goG_b | apply goTG_b | apply goOG_b) <;> intro h <;> ((try simp only [hnq] at h); (try simp only [h]); (try simp only [hnr] at h))))
    all_goals (exfalso; omega)
theorem d_spec_DualCode (l c : List Int) (hl : l.length < 1048577) (hc : c.length < 1048577) : Den PA f_spec_DualCode [.d (.agg [ints l]), .d (ints c)] [.any, .any] (lstR (lnM l c) (duM l c)) := by
  refine den_go [] l_spec_DualCode ?_
  refine go_c0 ?_
  have yc := d_spec_l05Given l c hl hc; first | refine goC_call [.r, .r] yc ?_ | refine goOC_call [.r, .r] yc ?_
  by_cases h : lnM l c = 0
  · rw [lstR_ok h, h]
    obtain ⟨hs, hcc, hlin⟩ := lnM_ok h
    have y1 := kc [.r, .r] (d_spec_l05Dual l c hs hcc hc); exact go_e0
  · rw [lstR_no h]
    generalize lnM l c = b at h
    repeat' (first | simp -implicitDefEqProofs (maxSteps := 1000000) (disch := (first | omega | (simp only [go_sem] <;> omega) | fail)) only [go_sem, ints, bools, mat] | ((first | apply goIf_b | apply goG_b | apply goTG_b | apply goOG_b) <;> intro h <;> ((try simp only [hnq] at h); (try simp only [h]); (try simp only [hnr] at h))))
    all_goals (exfalso; omega)
theorem inj_len : ∀ {A B : List Int}, A.Nodup → ∀ (f : Int → Int), (∀ x, x ∈ A → f x ∈ B) → (∀ x, x ∈ A → ∀ y, y ∈ A → f x = f y → x = y) → A.length ≤ B.length
  | [], _, _, _, _, _ => Nat.zero_le _
  | a :: r, B, hA, f, hf, hi => by
    obtain ⟨h1, h2⟩ := List.nodup_cons.1 hA
    have h3 := inj_len (B := B.erase (f a)) h2 f (fun x hx => (List.mem_erase_of_ne (fun e => h1 (by
      have := hi x (List.mem_cons_of_mem _ hx) a List.mem_cons_self e; rw [← this]; exact hx))).2 (hf x (List.mem_cons_of_mem _ hx))) (fun x hx y hy => hi x (List.mem_cons_of_mem _ hx) y (List.mem_cons_of_mem _ hy))
    have h4 := hf a List.mem_cons_self
    rw [List.length_erase_of_mem h4] at h3
    have h5 := List.length_pos_of_mem h4
    simp only [List.length_cons]; omega
theorem part2 (d : Int → Int) : ∀ (A : List Int), (∀ x, x ∈ A → 0 ≤ d x ∧ d x < 2) → A.length = (A.filter fun x => d x == 0).length + (A.filter fun x => d x == 1).length
  | [], _ => rfl
  | a :: r, h => by
    have ih := part2 d r fun x hx => h x (List.mem_cons_of_mem _ hx)
    have ha := h a List.mem_cons_self
    rcases (show d a = 0 ∨ d a = 1 by omega) with e | e
    · rw [List.filter_cons, List.filter_cons, e]; simp; omega
    · rw [List.filter_cons, List.filter_cons, e]; simp; omega
theorem part3 (d : Int → Int) : ∀ (A : List Int), (∀ x, x ∈ A → 0 ≤ d x ∧ d x < 3) → A.length = (A.filter fun x => d x == 0).length + (A.filter fun x => d x == 1).length + (A.filter fun x => d x == 2).length
  | [], _ => rfl
  | a :: r, h => by
    have ih := part3 d r fun x hx => h x (List.mem_cons_of_mem _ hx)
    have ha := h a List.mem_cons_self
    rcases (show d a = 0 ∨ d a = 1 ∨ d a = 2 by omega) with e | e | e
    · rw [List.filter_cons, List.filter_cons, List.filter_cons, e]; simp; omega
    · rw [List.filter_cons, List.filter_cons, List.filter_cons, e]; simp; omega
    · rw [List.filter_cons, List.filter_cons, List.filter_cons, e]; simp; omega
theorem code_nd {l c : List Int} (hcc : isCodeM l c = true) : c.Nodup := by
  rw [List.Nodup, List.pairwise_iff_getElem]
  intro i j hi hj hij
  have := code_nodup hcc i j hij hj
  rw [show c.getD i 0 = c[i] by simp [hi], show c.getD j 0 = c[j] by simp [hj]] at this
  omega
end Go.Proofs.YtgmocipfgfnolabGreat.Va
