/- Contracts of the functions that FnCoverCounts reaches (part 1). Condition: none. -/
import Derived.Test.YtfgjfjgkoabfjabDFnCoverCounts0
set_option linter.all false
set_option linter.unusedSimpArgs false
set_option linter.unusedVariables false
namespace Go.Proofs.Ytfgjfjgkoabfjab.Va
open Go
set_option maxHeartbeats 4000000
set_option maxRecDepth 100000
theorem d_spec_l01Size (l : List Int) (hs : isSpaceM l = true) (r : Int) (hr : 0 ≤ r) (hr2 : r < 1000000) : Den PA f_spec_l01Size [.d (.agg [ints l]), .d (di r)] [.any, .any] (.d (di (bzM l r))) := by
  have hn := isSpaceM_n hs
  have hq := isSpaceM_q hs
  have hcb : ∀ i k, 0 ≤ cf (l.take i) k ∧ cf (l.take i) k ≤ 65536 := fun i k => by
    have h1 := cf_bnd (l.take i) (fun j hj => by
      simp at hj
      have := hq j (by omega)
      rwa [List.getD_eq_getElem?_getD, List.getElem?_take, if_pos (by omega), ← List.getD_eq_getElem?_getD]) k
    have h2 : (4 : Int) ^ (l.take i).length ≤ 65536 := pow4_le (by simp; omega)
    omega
  refine den_go [] l_spec_l01Size ?_
  repeat' (first | simp -implicitDefEqProofs (maxSteps := 1000000) (disch := (first | omega | (simp only [go_sem] <;> omega) | fail)) only [go_sem, ints, bools, mat, c_spec_l01Size] | ((first | apply goIf_b | apply goG_b | apply goTG_b | apply goOG_b) <;> intro h <;> ((try simp only [hnq] at h); (try simp only [h]); (try simp only [hnr] at h)) <;> (try (exfalso; omega))))
  rw [rowS_0]
  refine go_loop (fun (i : Nat) => ⟨[(1, .d (di r)), (2, .ref 0 0), (5, .sl 1 0 (l.length + 1) 1), (6, .d (di i))], [some (.var [ints l]), some (.dat 1 ((rowS l i (i + 1)).map di))]⟩) (fun i => i ≤ l.length) (fun i => l.length - i) 0 ?_ ?_ ?_
  · (simp -implicitDefEqProofs (maxSteps := 1000000) (disch := (first | omega | (simp only [go_sem] <;> omega) | fail)) only [go_sem, ints, bools, mat] <;> rfl)
  · omega
  · rintro i hi J hJ
    by_cases hil : i < l.length
    · repeat' (first | simp -implicitDefEqProofs (maxSteps := 1000000) (disch := (first | omega | (simp only [go_sem] <;> omega) | fail)) only [go_sem, ints, bools, mat] | ((first | apply goIf_b | apply goG_b | apply goTG_b | apply goOG_b) <;> intro h <;> ((try simp only [hnq] at h); (try simp only [h]); (try simp only [hnr] at h)) <;> (try (exfalso; omega))))
      have hqi := hq i hil
      refine go_loop (fun (k : Nat) => ⟨[(1, .d (di r)), (2, .ref 0 0), (5, .sl 1 0 (l.length + 1) 1), (6, .d (di i)), (7, .d (di k))], [some (.var [ints l]), some (.dat 1 ((rowS l i k).map di))]⟩) (fun k => k ≤ i + 1) (fun k => k) (i + 1) ?_ ?_ ?_
      · (simp -implicitDefEqProofs (maxSteps := 1000000) (disch := (first | omega | (simp only [go_sem] <;> omega) | fail)) only [go_sem, ints, bools, mat] <;> rfl)
      · omega
      · rintro k hk J2 hJ2
        rcases k with _ | k
        · repeat' (first | simp -implicitDefEqProofs (maxSteps := 1000000) (disch := (first | omega | (simp only [go_sem] <;> omega) | fail)) only [go_sem, ints, bools, mat] | ((first | apply goIf_b | apply goG_b | apply goTG_b | apply goOG_b) <;> intro h <;> ((try simp only [hnq] at h); (try simp only [h]); (try simp only [hnr] at h)) <;> (try (exfalso; omega))))
          refine hJ (i + 1) (by omega) (by omega) _ ?_
          simp -implicitDefEqProofs (maxSteps := 1000000) (disch := (first | omega | (simp only [go_sem] <;> omega) | fail)) only [go_sem, ints, bools, mat]
          rw [rowS_next l hil]
          rfl
        · have e1 := rowS_get l i (k + 1) (j := k + 1) (by omega)
          have e2 := rowS_get l i (k + 1) (j := k) (by omega)
          rw [if_neg (by omega)] at e1 e2
          have b1 := hcb i (k + 1)
          have b2 := hcb i k
          have b3 : cf (l.take i) k * (l.getD i 0 - 1) ≤ 65536 * 3 := Int.mul_le_mul b2.2 (by omega) (by omega) (by omega)
          have b4 : 0 ≤ cf (l.take i) k * (l.getD i 0 - 1) := Int.mul_nonneg b2.1 (by omega)
          have e3 := rowS_step l hil (k := k) (by omega)
          repeat' (first | simp -implicitDefEqProofs (maxSteps := 1000000) (disch := (first | omega | (simp only [go_sem] <;> omega) | fail)) only [go_sem, ints, bools, mat, e1, e2] | ((first | apply goIf_b | apply goG_b | apply goTG_b | apply goOG_b) <;> intro h <;> ((try simp only [hnq] at h); (try simp only [h]); (try simp only [hnr] at h)) <;> (try (exfalso; omega))))
          refine hJ2 k (by omega) (by omega) _ ?_
          simp -implicitDefEqProofs (maxSteps := 1000000) (disch := (first | omega | (simp only [go_sem] <;> omega) | fail)) only [go_sem, ints, bools, mat, e1, e2, e3]
    · have : i = l.length := by omega
      subst this
      repeat' (first | simp -implicitDefEqProofs (maxSteps := 1000000) (disch := (first | omega | (simp only [go_sem] <;> omega) | fail)) only [go_sem, ints, bools, mat] | ((first | apply goIf_b | apply goG_b | apply goTG_b | apply goOG_b) <;> intro h <;> ((try simp only [hnq] at h); (try simp only [h]); (try simp only [hnr] at h)) <;> (try (exfalso; omega))))
      refine go_loop (fun (k : Nat) => ⟨[(1, .d (di r)), (5, .sl 0 0 (l.length + 1) 1), (8, .d (di (sumN (cf l) k))), (9, .d (di k))], [some (.dat 1 ((rowS l l.length (l.length + 1)).map di))]⟩) (fun k => k ≤ l.length + 1 ∧ (k : Int) ≤ r + 1) (fun k => l.length + 1 - k) 0 ?_ ?_ ?_
      · (simp -implicitDefEqProofs (maxSteps := 1000000) (disch := (first | omega | (simp only [go_sem] <;> omega) | fail)) only [go_sem, ints, bools, mat] <;> rfl)
      · omega
      · rintro k ⟨hk, hkr⟩ J2 hJ2
        have b1 : 0 ≤ sumN (cf l) k ∧ sumN (cf l) k ≤ k * 65536 := sumN_bnd _ _ (fun j => by have := hcb l.length j; rwa [List.take_length] at this) k
        have b2 := hcb l.length k
        rw [List.take_length] at b2
        by_cases hc : k < l.length + 1 ∧ (k : Int) ≤ r
        · have e1 := rowS_end l hc.1
          obtain ⟨hc1, hc2⟩ := hc
          repeat' (first | simp -implicitDefEqProofs (maxSteps := 1000000) (disch := (first | omega | (simp only [go_sem] <;> omega) | fail)) only [go_sem, ints, bools, mat, e1] | ((first | apply goIf_b | apply goG_b | apply goTG_b | apply goOG_b) <;> intro h <;> ((try simp only [hnq] at h); (try simp only [h]); (try simp only [hnr] at h)) <;> (try (exfalso; omega))))
          refine hJ2 (k + 1) (by omega) (by omega) _ ?_
          simp -implicitDefEqProofs (maxSteps := 1000000) (disch := (first | omega | (simp only [go_sem] <;> omega) | fail)) only [go_sem, ints, bools, mat, e1]
          rfl
        · have e : sumN (cf l) k = bzM l r := by
            unfold bzM
            by_cases hk2 : k < l.length + 1
            · have : r.toNat + 1 = k := by omega
              rw [this]
            · have : k = l.length + 1 := by omega
              subst this
              exact (sumN_big (cf l) (fun j hj => cf_zero l j (by omega)) _ (by omega)).symm
          rw [e]
          repeat' (first | simp -implicitDefEqProofs (maxSteps := 1000000) (disch := (first | omega | (simp only [go_sem] <;> omega) | fail)) only [go_sem, ints, bools, mat] | ((first | apply goIf_b | apply goG_b | apply goTG_b | apply goOG_b) <;> intro h <;> ((try simp only [hnq] at h); (try simp only [h]); (try simp only [hnr] at h)) <;> (try (exfalso; omega))))
def cvL (l X : List Int) : List Bool := (allW l).map fun u => decide (u ∈ X)
@[go_sem] theorem cvL_len (l X : List Int) : (cvL l X).length = (prodM l).toNat := by simp [cvL, allW_len]
def muX (l X : List Int) : Nat := ((allW l).filter fun u => !decide (u ∈ X)).length
theorem distM_self (l : List Int) (w : Int) : distM l w w = 0 := by
  have key : ∀ a : List Int, farM a a = 0 := by
    intro a
    induction a with
    | nil => rfl
    | cons x a ih => rw [farM, if_pos rfl, ih]; rfl
  exact key _
theorem ball_self {l : List Int} {w r : Int} (hw : 0 ≤ w ∧ w < prodM l) (hr : 0 ≤ r) : w ∈ ballM l w r := by
  rw [ballM_mem, distM_self]; omega
def nearM (l : List Int) (r : Int) : List (List Int) := (allW l).map fun w => ballM l w r
@[go_sem] theorem nearM_len (l : List Int) (r : Int) : (nearM l r).length = (prodM l).toNat := by simp [nearM, allW_len]
theorem bz_pos {l : List Int} (hs : isSpaceM l = true) {r : Int} (hr : 0 ≤ r) : 1 ≤ bzM l r ∧ bzM l r ≤ prodM l := by
  have hp1 := prodM_pos (isSpaceM_szs hs)
  rw [← ball_len hs 0 hr]
  constructor
  · have := ball_self (l := l) (w := 0) (r := r) ⟨Int.le_refl _, by omega⟩ hr
    have := List.length_pos_of_mem this
    omega
  · have : (ballM l 0 r).length ≤ (prodM l).toNat := by unfold ballM; exact filter_len_le _ _ _ (by rw [allW_len]; exact Nat.le_refl _)
    omega
structure Pck (l : List Int) (r : Int) (X c : List Int) : Prop where
  nd : X.Nodup
  inX : inC l X
  len : (X.length : Int) = c.length * bzM l r
  sub : ∀ w, w ∈ c → w ∈ X
  cnd : c.Nodup
theorem muX_add {l X : List Int} {W : List Int} (hW : inC l W) (hn : W.Nodup) (hd : ∀ u, u ∈ W → u ∉ X) : muX l (X ++ W) + W.length = muX l X := by
  have key : ∀ (A : List Int), A.Nodup → (A.filter fun u => !decide (u ∈ X ++ W)).length + (A.filter fun u => decide (u ∈ W)).length = (A.filter fun u => !decide (u ∈ X)).length := by
    intro A _
    induction A with
    | nil => rfl
    | cons x A ih =>
      have ih := ih (by rename_i h; exact (List.nodup_cons.1 h).2)
      rw [List.filter_cons, List.filter_cons, List.filter_cons]
      by_cases h1 : x ∈ X
      · have h2 : x ∉ W := fun hw => hd x hw h1
        simp [h1, h2] at ih ⊢; exact ih
      · by_cases h2 : x ∈ W
        · simp [h1, h2] at ih ⊢; omega
        · simp [h1, h2] at ih ⊢; omega
  have h1 := key (allW l) (allW_nodup l)
  have h2 : ((allW l).filter fun u => decide (u ∈ W)).length = W.length := by
    apply List.Perm.length_eq
    apply (List.perm_ext_iff_of_nodup ((allW_nodup l).filter _) hn).2
    intro u
    rw [List.mem_filter, allW_mem, decide_eq_true_eq]
    exact ⟨fun h => h.2, fun h => ⟨by have := hW u h; omega, h⟩⟩
  unfold muX; omega
theorem Pck.mu {l X c : List Int} {r : Int} (h : Pck l r X c) : muX l X + X.length = (prodM l).toNat := by
  have := muX_add (l := l) (X := []) h.inX h.nd (fun u _ hu => by cases hu)
  rw [List.nil_append] at this
  rw [this]
  unfold muX
  rw [List.filter_eq_self.2 (fun u _ => by simp), allW_len]
theorem putI_setI (c : List Int) (w : Int) : putI (setI c) w = setI (c ++ [w]) := by
  symm
  refine setI_eq (putI_asc (setI_asc c) w) fun x => ?_
  rw [putI_mem, setI_mem, List.mem_append, List.mem_singleton]
theorem Pck.cl {l X c : List Int} {r : Int} (hs : isSpaceM l = true) (hr : 0 ≤ r) (h : Pck l r X c) : c.length + muX l X < 1048576 := by
  have hpr := isSpaceM_prod hs
  have hbz := bz_pos hs hr
  have h1 := h.mu
  have h2 := h.len
  have h3 : (c.length : Int) * 1 ≤ c.length * bzM l r := Int.mul_le_mul_of_nonneg_left (by omega) (by omega)
  omega
def mkL : List Bool → Nat
  | [] => 0
  | b :: r => (if b = true then 1 else 0) + 2 * mkL r
abbrev wsN (l X : List Int) : Nat := mkL (cvL l X)
def duN (n : Nat) : D := .v (.int .u64 n)
@[go_sem] theorem flat_du (l : List Nat) : flat (l.map duN) = l.map duN := flat_one _ l
@[go_sem] theorem getU {l : List Nat} {j : Nat} (h : j < l.length) : (l.map duN)[j]? = some (duN (l.getD j 0)) := by simp [h]
@[go_sem] theorem app_du1 (l : List Nat) (v : Nat) : l.map duN ++ [D.v (.int .u64 (v : Int))] = (l ++ [v]).map duN := by rw [List.map_append]; rfl
@[go_sem] theorem take_du (l : List Nat) (n : Nat) : (l.map duN).take n = (l.take n).map duN := by rw [List.map_take]
@[go_sem] theorem duN_v (n : Nat) : duN n = .v (.int .u64 n) := rfl
@[go_sem] theorem lf_own_du (z : Nat) (l : List Nat) : lfR (.own z (l.map duN)) = true := by simp [lfR, lfD, duN]
@[go_sem] theorem all_lf_du (l : List Nat) : (l.map duN).all lfD = true := by simp [lfD, duN]
def nearB (l : List Int) (r : Int) : List Nat := (allW l).map fun w => wsN l (ballM l w r)
@[go_sem] theorem nearB_len (l : List Int) (r : Int) : (nearB l r).length = (prodM l).toNat := by simp [nearB, allW_len]
def tmX (l X : List Int) : List Int := (allW l).map fun u => (X.count u : Int)
@[go_sem] theorem tmX_len (l X : List Int) : (tmX l X).length = (prodM l).toNat := by simp [tmX, allW_len]
abbrev cvB (l c : List Int) (r : Int) : Bool := !decide (0 ∈ timesM l c r)
abbrev cvsR (l c : List Int) (r : Int) : R := .tup [.d (db (if ccM l c r = 0 then cvB l c r else false)), .d (di (ccM l c r))]
theorem d_impl_covers (l c : List Int) (r : Int) (hs : isSpaceM l = true) (hcc : isCodeM l c = true) (hc : c.length < 1048577) :
    Den PA f_impl_covers [.d (.agg [ints l]), .d (ints c), .d (di r)] [.any, .any, .any] (.d (db (cvB l c r))) := by
  have hp := isSpaceM_prod hs
  refine den_go [] l_impl_covers ?_
  repeat' (first | simp -implicitDefEqProofs (maxSteps := 1000000) (disch := (first | omega | (simp only [go_sem] <;> omega) | fail)) only [go_sem, ints, bools, mat, c_impl_covers] | ((first | apply goIf_b | apply goG_b | apply goTG_b | apply goOG_b) <;> intro h <;> ((try simp only [hnq] at h); (try simp only [h]); (try simp only [hnr] at h)) <;> (try (exfalso; omega))))
  first | refine goC_call [.r, .r, .r] (d_impl_times l c r hs hcc hc) ?_ | refine goOC_call [.r, .r, .r] (d_impl_times l c r hs hcc hc) ?_
  repeat' (first | simp -implicitDefEqProofs (maxSteps := 1000000) (disch := (first | omega | (simp only [go_sem] <;> omega) | fail)) only [go_sem, ints, bools, mat] | ((first | apply goIf_b | apply goG_b | apply goTG_b | apply goOG_b) <;> intro h <;> ((try simp only [hnq] at h); (try simp only [h]); (try simp only [hnr] at h)) <;> (try (exfalso; omega))))
  first | refine goC_call [.r, .r] (d_slices_Contains_int (timesM l c r) 0 (by rw [timesN_len]; omega)) ?_ | refine goOC_call [.r, .r] (d_slices_Contains_int (timesM l c r) 0 (by rw [timesN_len]; omega)) ?_
  repeat' (first | simp -implicitDefEqProofs (maxSteps := 1000000) (disch := (first | omega | (simp only [go_sem] <;> omega) | fail)) only [go_sem, ints, bools, mat] | ((first | apply goIf_b | apply goG_b | apply goTG_b | apply goOG_b) <;> intro h <;> ((try simp only [hnq] at h); (try simp only [h]); (try simp only [hnr] at h)) <;> (try (exfalso; omega))))
theorem d_impl_CoversSpace (l c : List Int) (r : Int) (hl : l.length < 1048577) (hc : c.length < 1048577) : Den PA f_impl_CoversSpace [.d (.agg [ints l]), .d (ints c), .d (di r)] [.any, .any, .any] (cvsR l c r) := by
  refine den_go [] l_impl_CoversSpace ?_
  repeat' (first | simp -implicitDefEqProofs (maxSteps := 1000000) (disch := (first | omega | (simp only [go_sem] <;> omega) | fail)) only [go_sem, ints, bools, mat, c_impl_CoversSpace] | ((first | apply goIf_b | apply goG_b | apply goTG_b | apply goOG_b) <;> intro h <;> ((try simp only [hnq] at h); (try simp only [h]); (try simp only [hnr] at h)) <;> (try (exfalso; omega))))
  first | refine goC_call [.r, .r, .r] (d_impl_coverCode l c hl hc r) ?_ | refine goOC_call [.r, .r, .r] (d_impl_coverCode l c hl hc r) ?_
  by_cases h : ccM l c r = 0
  · obtain ⟨hs, hcc, _⟩ := ccM_ok h
    rw [cvsR, if_pos h, h]
    repeat' (first | simp -implicitDefEqProofs (maxSteps := 1000000) (disch := (first | omega | (simp only [go_sem] <;> omega) | fail)) only [go_sem, ints, bools, mat] | ((first | apply goIf_b | apply goG_b | apply goTG_b | apply goOG_b) <;> intro h <;> ((try simp only [hnq] at h); (try simp only [h]); (try simp only [hnr] at h)) <;> (try (exfalso; omega))))
    first | refine goC_call [.r, .r, .r] (d_impl_covers l c r hs hcc hc) ?_ | refine goOC_call [.r, .r, .r] (d_impl_covers l c r hs hcc hc) ?_
    repeat' (first | simp -implicitDefEqProofs (maxSteps := 1000000) (disch := (first | omega | (simp only [go_sem] <;> omega) | fail)) only [go_sem, ints, bools, mat] | ((first | apply goIf_b | apply goG_b | apply goTG_b | apply goOG_b) <;> intro h <;> ((try simp only [hnq] at h); (try simp only [h]); (try simp only [hnr] at h)) <;> (try (exfalso; omega))))
  · rw [cvsR, if_neg h]
    generalize ccM l c r = b at h
    repeat' (first | simp -implicitDefEqProofs (maxSteps := 1000000) (disch := (first | omega | (simp only [go_sem] <;> omega) | fail)) only [go_sem, ints, bools, mat] | ((first | apply goIf_b | apply goG_b | apply goTG_b | apply goOG_b) <;> intro h <;> ((try simp only [hnq] at h); (try simp only [h]); (try simp only [hnr] at h)) <;> (try (exfalso; omega))))
theorem cntN_pos {l c : List Int} {r u : Int} {k : Nat} (h : distM l (c.getD k 0) u ≤ r) : ∀ {j : Nat}, k < j → 1 ≤ cntN l c r u j
  | 0, hk => by omega
  | j + 1, hk => by
    rw [cntN]
    by_cases e : k = j
    · subst e; rw [if_pos h]; have := cntN_bnd l c r u k; omega
    · have := cntN_pos h (show k < j by omega); split <;> omega
theorem cvB_yes {l c : List Int} {r : Int} (h : ∀ w : Nat, w < (prodM l).toNat → ∃ k, k < c.length ∧ distM l (c.getD k 0) w ≤ r) : cvB l c r = true := by
  unfold cvB
  rw [Bool.not_eq_true', decide_eq_false_iff_not]
  intro hm
  obtain ⟨i, hi, e⟩ := List.mem_iff_getElem.1 hm
  have hi2 : i < (prodM l).toNat := by rw [← timesN_len l c r c.length]; exact hi
  obtain ⟨k, hk, hd⟩ := h i hi2
  have h1 := cntN_pos hd (j := c.length) hk
  have h2 := timesN_get c r c.length hi2
  have h3 : (timesN l c r c.length).getD i 0 = 0 := by rw [List.getD_eq_getElem?_getD, List.getElem?_eq_getElem hi, Option.getD_some]; exact e
  omega
theorem d_nil_impl_ballCode (w r : Int) : Den PA f_impl_ballCode [.d (.agg [nil]), .d (di w), .d (di r)] [.any, .any, .any] (.d (di 1)) := by
  refine den_go [] l_impl_ballCode ?_
  repeat' (first | simp -implicitDefEqProofs (maxSteps := 1000000) (disch := (first | omega | (simp only [go_sem] <;> omega) | fail)) only [go_sem, ints, bools, mat, c_impl_ballCode] | ((first | apply goIf_b | apply goG_b | apply goTG_b | apply goOG_b) <;> intro h <;> ((try simp only [hnq] at h); (try simp only [h]); (try simp only [hnr] at h)) <;> (try (exfalso; omega))))
  first | refine goC_call [.r, .r] (d_nil_impl_wordCode (ints [w])) ?_ | refine goOC_call [.r, .r] (d_nil_impl_wordCode (ints [w])) ?_
  repeat' (first | simp -implicitDefEqProofs (maxSteps := 1000000) (disch := (first | omega | (simp only [go_sem] <;> omega) | fail)) only [go_sem, ints, bools, mat] | ((first | apply goIf_b | apply goG_b | apply goTG_b | apply goOG_b) <;> intro h <;> ((try simp only [hnq] at h); (try simp only [h]); (try simp only [hnr] at h)) <;> (try (exfalso; omega))))
def sgS (f : Nat → Int) : Nat → Int
  | 0 => 0
  | n + 1 => sgS f n + f n
theorem sgS_add (f g : Nat → Int) : ∀ n, sgS (fun i => f i + g i) n = sgS f n + sgS g n
  | 0 => rfl
  | n + 1 => by rw [sgS, sgS, sgS, sgS_add f g n]; omega
theorem sgS_congr {f g : Nat → Int} : ∀ {n : Nat}, (∀ i, i < n → f i = g i) → sgS f n = sgS g n
  | 0, _ => rfl
  | n + 1, h => by rw [sgS, sgS, sgS_congr fun i hi => h i (by omega), h n (by omega)]
theorem sgS_zero : ∀ n, sgS (fun _ => 0) n = 0
  | 0 => rfl
  | n + 1 => by rw [sgS, sgS_zero n]; rfl
theorem sgS_ge {f : Nat → Int} : ∀ {n : Nat}, (∀ i, i < n → 1 ≤ f i) → (n : Int) ≤ sgS f n
  | 0, _ => Int.le_refl _
  | n + 1, h => by have h1 := sgS_ge (n := n) fun i hi => h i (by omega); have h2 := h n (by omega); rw [sgS]; omega
theorem sgS_flt (p : Int → Bool) (l : List Int) : ∀ {n : Nat}, n ≤ (prodM l).toNat → sgS (fun i => if p (i : Int) = true then 1 else 0) n = ((((allW l).take n).filter p).length : Int)
  | 0, _ => by simp [sgS]
  | n + 1, h => by
    rw [sgS, sgS_flt p l (n := n) (by omega), take_allW l (by omega), List.filter_append, List.length_append]
    by_cases hp : p (n : Int) = true
    · rw [if_pos hp]; simp [hp]
    · rw [if_neg hp]; simp [hp]
theorem cnt_sum {l : List Int} (hs : isSpaceM l = true) (c : List Int) {r : Int} (hr : 0 ≤ r) : ∀ j : Nat, sgS (fun i => cntN l c r i j) (prodM l).toNat = j * bzM l r
  | 0 => by simp only [cntN]; rw [sgS_zero]; simp
  | j + 1 => by
    have ih := cnt_sum hs c hr j
    have h1 := sgS_flt (fun u => decide (distM l u (c.getD j 0) ≤ r)) l (Nat.le_refl _)
    rw [← allW_len l, List.take_length, allW_len] at h1
    have h2 := ball_len hs (c.getD j 0) hr
    have h3 : sgS (fun i => cntN l c r i (j + 1)) (prodM l).toNat = sgS (fun i => cntN l c r i j + (if decide (distM l (i : Int) (c.getD j 0) ≤ r) = true then 1 else 0)) (prodM l).toNat :=
      sgS_congr fun i hi => by
        rw [cntN, distM_comm l (c.getD j 0)]
        by_cases h : distM l i (c.getD j 0) ≤ r
        · rw [if_pos h, if_pos (decide_eq_true h)]
        · rw [if_neg h, if_neg (by simpa using h)]
    rw [h3, sgS_add, ih, h1]
    unfold ballM at h2
    rw [h2, Int.natCast_add, Int.add_mul]; simp
def bbM (l : List Int) (r : Int) : Int := (prodM l + bzM l r - 1) / bzM l r
abbrev bbR (l : List Int) (r : Int) : R := .tup [.d (di (if rcM l r = 0 then bbM l r else 0)), .d (di (rcM l r))]
abbrev bsR1 (l : List Int) (r : Int) : R := .tup [.d (di (if rcM l r = 0 then bzM l r else 0)), .d (di (rcM l r))]
theorem rcM_ok' {l : List Int} {r : Int} (h : rcM l r = 0) : isSpaceM l = true ∧ 0 ≤ r ∧ r ≤ 8 := by
  unfold rcM at h
  split at h
  · rename_i h1
    split at h
    · rename_i h2; exact ⟨h1, h2⟩
    · cases h
  · cases h
theorem d_impl_upward (n b : Int) (hn : 0 ≤ n ∧ n ≤ 100000) (hb : 1 ≤ b ∧ b ≤ 100000) : Den PA f_impl_upward [.d (di n), .d (di b)] [.any, .any] (.d (di ((n + b - 1) / b))) := by
  have h0 : 0 ≤ (n + b - 1) / b := Int.ediv_nonneg (by omega) (by omega)
  have h1 : (n + b - 1) / b ≤ n + b - 1 := Int.ediv_le_self _ (by omega)
  refine den_go [] l_impl_upward ?_
  repeat' (first | simp -implicitDefEqProofs (maxSteps := 1000000) (disch := (first | omega | (simp only [go_sem] <;> omega) | fail)) only [go_sem, ints, bools, mat, c_impl_upward] | ((first | apply goIf_b | apply goG_b | apply goTG_b | apply goOG_b) <;> intro h <;> ((try simp only [hnq] at h); (try simp only [h]); (try simp only [hnr] at h)) <;> (try (exfalso; omega))))
theorem d_impl_BallBound (l : List Int) (r : Int) (hl : l.length < 1048577) : Den PA f_impl_BallBound [.d (.agg [ints l]), .d (di r)] [.any, .any] (bbR l r) := by
  refine den_go [] l_impl_BallBound ?_
  repeat' (first | simp -implicitDefEqProofs (maxSteps := 1000000) (disch := (first | omega | (simp only [go_sem] <;> omega) | fail)) only [go_sem, ints, bools, mat, c_impl_BallBound] | ((first | apply goIf_b | apply goG_b | apply goTG_b | apply goOG_b) <;> intro h <;> ((try simp only [hnq] at h); (try simp only [h]); (try simp only [hnr] at h)) <;> (try (exfalso; omega))))
  first | refine goC_call [.r, .r, .r] (d_impl_ballCode0 l r hl) ?_ | refine goOC_call [.r, .r, .r] (d_impl_ballCode0 l r hl) ?_
  by_cases h : rcM l r = 0
  · rw [bbR, if_pos h, h]
    obtain ⟨hs, hr0, hr8⟩ := rcM_ok' h
    have hp1 := prodM_pos (isSpaceM_szs hs)
    have hpr := isSpaceM_prod hs
    have hbz := bz_pos hs hr0
    have hbl := ball_len hs 0 hr0
    repeat' (first | simp -implicitDefEqProofs (maxSteps := 1000000) (disch := (first | omega | (simp only [go_sem] <;> omega) | fail)) only [go_sem, ints, bools, mat] | ((first | apply goIf_b | apply goG_b | apply goTG_b | apply goOG_b) <;> intro h <;> ((try simp only [hnq] at h); (try simp only [h]); (try simp only [hnr] at h)) <;> (try (exfalso; omega))))
    first | refine goC_call [.r] (d_impl_count l hs) ?_ | refine goOC_call [.r] (d_impl_count l hs) ?_
    repeat' (first | simp -implicitDefEqProofs (maxSteps := 1000000) (disch := (first | omega | (simp only [go_sem] <;> omega) | fail)) only [go_sem, ints, bools, mat] | ((first | apply goIf_b | apply goG_b | apply goTG_b | apply goOG_b) <;> intro h <;> ((try simp only [hnq] at h); (try simp only [h]); (try simp only [hnr] at h)) <;> (try (exfalso; omega))))
    first | refine goC_call [.r, .r, .r] (d_impl_ball l hs 0 r (by omega) (by omega)) ?_ | refine goOC_call [.r, .r, .r] (d_impl_ball l hs 0 r (by omega) (by omega)) ?_
    repeat' (first | simp -implicitDefEqProofs (maxSteps := 1000000) (disch := (first | omega | (simp only [go_sem] <;> omega) | fail)) only [go_sem, ints, bools, mat, hbl] | ((first | apply goIf_b | apply goG_b | apply goTG_b | apply goOG_b) <;> intro h <;> ((try simp only [hnq] at h); (try simp only [h]); (try simp only [hnr] at h)) <;> (try (exfalso; omega))))
    first | refine goC_call [.r, .r] (d_impl_upward (prodM l) (bzM l r) (by omega) (by omega)) ?_ | refine goOC_call [.r, .r] (d_impl_upward (prodM l) (bzM l r) (by omega) (by omega)) ?_
    repeat' (first | simp -implicitDefEqProofs (maxSteps := 1000000) (disch := (first | omega | (simp only [go_sem] <;> omega) | fail)) only [go_sem, ints, bools, mat, bbM] | ((first | apply goIf_b | apply goG_b | apply goTG_b | apply goOG_b) <;> intro h <;> ((try simp only [hnq] at h); (try simp only [h]); (try simp only [hnr] at h)) <;> (try (exfalso; omega))))
    all_goals rfl
  · rw [bbR, if_neg h]
    generalize rcM l r = b at h
    repeat' (first | simp -implicitDefEqProofs (maxSteps := 1000000) (disch := (first | omega | (simp only [go_sem] <;> omega) | fail)) only [go_sem, ints, bools, mat] | ((first | apply goIf_b | apply goG_b | apply goTG_b | apply goOG_b) <;> intro h <;> ((try simp only [hnq] at h); (try simp only [h]); (try simp only [hnr] at h)) <;> (try (exfalso; omega))))
theorem d_impl_BallSize (l : List Int) (r : Int) (hl : l.length < 1048577) : Den PA f_impl_BallSize [.d (.agg [ints l]), .d (di r)] [.any, .any] (bsR1 l r) := by
  refine den_go [] l_impl_BallSize ?_
  repeat' (first | simp -implicitDefEqProofs (maxSteps := 1000000) (disch := (first | omega | (simp only [go_sem] <;> omega) | fail)) only [go_sem, ints, bools, mat, c_impl_BallSize] | ((first | apply goIf_b | apply goG_b | apply goTG_b | apply goOG_b) <;> intro h <;> ((try simp only [hnq] at h); (try simp only [h]); (try simp only [hnr] at h)) <;> (try (exfalso; omega))))
  first | refine goC_call [.r, .r, .r] (d_impl_ballCode0 l r hl) ?_ | refine goOC_call [.r, .r, .r] (d_impl_ballCode0 l r hl) ?_
  by_cases h : rcM l r = 0
  · rw [bsR1, if_pos h, h]
    obtain ⟨hs, hr0, hr8⟩ := rcM_ok' h
    have hbl := ball_len hs 0 hr0
    repeat' (first | simp -implicitDefEqProofs (maxSteps := 1000000) (disch := (first | omega | (simp only [go_sem] <;> omega) | fail)) only [go_sem, ints, bools, mat] | ((first | apply goIf_b | apply goG_b | apply goTG_b | apply goOG_b) <;> intro h <;> ((try simp only [hnq] at h); (try simp only [h]); (try simp only [hnr] at h)) <;> (try (exfalso; omega))))
    first | refine goC_call [.r, .r, .r] (d_impl_ball l hs 0 r (by omega) (by omega)) ?_ | refine goOC_call [.r, .r, .r] (d_impl_ball l hs 0 r (by omega) (by omega)) ?_
    repeat' (first | simp -implicitDefEqProofs (maxSteps := 1000000) (disch := (first | omega | (simp only [go_sem] <;> omega) | fail)) only [go_sem, ints, bools, mat, hbl] | ((first | apply goIf_b | apply goG_b | apply goTG_b | apply goOG_b) <;> intro h <;> ((try simp only [hnq] at h); (try simp only [h]); (try simp only [hnr] at h)) <;> (try (exfalso; omega))))
  · rw [bsR1, if_neg h]
    generalize rcM l r = b at h
    repeat' (first | simp -implicitDefEqProofs (maxSteps := 1000000) (disch := (first | omega | (simp only [go_sem] <;> omega) | fail)) only [go_sem, ints, bools, mat] | ((first | apply goIf_b | apply goG_b | apply goTG_b | apply goOG_b) <;> intro h <;> ((try simp only [hnq] at h); (try simp only [h]); (try simp only [hnr] at h)) <;> (try (exfalso; omega))))
def ctM (l c : List Int) (r : Int) : List Int := hist (c.length + 1) (timesM l c r)
theorem tm_bnd {l c : List Int} {r : Int} {i : Nat} (hi : i < (prodM l).toNat) : 0 ≤ (timesM l c r).getD i 0 ∧ (timesM l c r).getD i 0 ≤ c.length := by
  have h1 := timesN_get c r c.length hi
  have h2 := cntN_bnd l c r i c.length
  show 0 ≤ (timesN l c r c.length).getD i 0 ∧ (timesN l c r c.length).getD i 0 ≤ c.length
  omega
theorem ct_step (l c : List Int) (r : Int) {j : Nat} (hj : j < (prodM l).toNat) : (hist (c.length + 1) ((timesM l c r).take j)).set ((timesM l c r).getD j 0).toNat ((hist (c.length + 1) ((timesM l c r).take j)).getD ((timesM l c r).getD j 0).toNat 0 + 1) = hist (c.length + 1) ((timesM l c r).take (j + 1)) := by
  rw [← hist_step, take_one (timesM l c r) (by rw [timesN_len]; exact hj)]
theorem d_impl_CoverCounts (l c : List Int) (r : Int) (hl : l.length < 1048577) (hc : c.length < 1048577) : Den PA f_impl_CoverCounts [.d (.agg [ints l]), .d (ints c), .d (di r)] [.any, .any, .any] (lstR (ccM l c r) (ctM l c r)) := by
  refine den_go [] l_impl_CoverCounts ?_
  repeat' (first | simp -implicitDefEqProofs (maxSteps := 1000000) (disch := (first | omega | (simp only [go_sem] <;> omega) | fail)) only [go_sem, ints, bools, mat, c_impl_CoverCounts] | ((first | apply goIf_b | apply goG_b | apply goTG_b | apply goOG_b) <;> intro h <;> ((try simp only [hnq] at h); (try simp only [h]); (try simp only [hnr] at h)) <;> (try (exfalso; omega))))
  first | refine goC_call [.r, .r, .r] (d_impl_coverCode l c hl hc r) ?_ | refine goOC_call [.r, .r, .r] (d_impl_coverCode l c hl hc r) ?_
  by_cases h : ccM l c r = 0
  · obtain ⟨hs, hcc, _⟩ := ccM_ok h
    have hpr := isSpaceM_prod hs
    have htl : (timesM l c r).length = (prodM l).toNat := timesN_len l c r c.length
    rw [lstR_ok h, h]
    repeat' (first | simp -implicitDefEqProofs (maxSteps := 1000000) (disch := (first | omega | (simp only [go_sem] <;> omega) | fail)) only [go_sem, ints, bools, mat] | ((first | apply goIf_b | apply goG_b | apply goTG_b | apply goOG_b) <;> intro h <;> ((try simp only [hnq] at h); (try simp only [h]); (try simp only [hnr] at h)) <;> (try (exfalso; omega))))
    first | refine goC_call [.r, .r, .r] (d_impl_times l c r hs hcc hc) ?_ | refine goOC_call [.r, .r, .r] (d_impl_times l c r hs hcc hc) ?_
    repeat' (first | simp -implicitDefEqProofs (maxSteps := 1000000) (disch := (first | omega | (simp only [go_sem] <;> omega) | fail)) only [go_sem, ints, bools, mat] | ((first | apply goIf_b | apply goG_b | apply goTG_b | apply goOG_b) <;> intro h <;> ((try simp only [hnq] at h); (try simp only [h]); (try simp only [hnr] at h)) <;> (try (exfalso; omega))))
    refine go_loop (fun (j : Nat) => ⟨[(9, .sl 0 0 (c.length + 1) 1), (26, .sl 1 0 (prodM l).toNat 1), (27, .d (di (prodM l).toNat)), (28, .d (di j))], [some (.dat 1 ((hist (c.length + 1) ((timesM l c r).take j)).map di)), some (.dat 1 ((timesM l c r).map di))]⟩) (fun j => j ≤ (prodM l).toNat) (fun j => (prodM l).toNat - j) 0 ?_ ?_ ?_
    · simp -implicitDefEqProofs (maxSteps := 1000000) (disch := (first | omega | (simp only [go_sem] <;> omega) | fail)) only [go_sem, ints, bools, mat]
      all_goals rfl
    · exact Nat.zero_le _
    · intro j hj J hJ
      have hhl := hist_len (c.length + 1) ((timesM l c r).take j)
      by_cases hjl : j < (prodM l).toNat
      · have hb := tm_bnd (c := c) (r := r) hjl
        have hst := ct_step l c r hjl
        have hhb := hist_bnd (c.length + 1) ((timesM l c r).take j) ((timesM l c r).getD j 0).toNat
        rw [List.length_take] at hhb
        repeat' (first | simp -implicitDefEqProofs (maxSteps := 1000000) (disch := (first | omega | (simp only [go_sem] <;> omega) | fail)) only [go_sem, ints, bools, mat, hst] | ((first | apply goIf_b | apply goG_b | apply goTG_b | apply goOG_b) <;> intro h <;> ((try simp only [hnq] at h); (try simp only [h]); (try simp only [hnr] at h)) <;> (try (exfalso; omega))))
        refine hJ (j + 1) (by omega) (by omega) _ ?_
        simp -implicitDefEqProofs (maxSteps := 1000000) (disch := (first | omega | (simp only [go_sem] <;> omega) | fail)) only [go_sem, ints, bools, mat, hst]
        all_goals rfl
      · have hje : j = (prodM l).toNat := by omega
        subst hje
        have e : (timesM l c r).take (prodM l).toNat = timesM l c r := by rw [← htl, List.take_length]
        rw [e]
        repeat' (first | simp -implicitDefEqProofs (maxSteps := 1000000) (disch := (first | omega | (simp only [go_sem] <;> omega) | fail)) only [go_sem, ints, bools, mat, ctM] | ((first | apply goIf_b | apply goG_b | apply goTG_b | apply goOG_b) <;> intro h <;> ((try simp only [hnq] at h); (try simp only [h]); (try simp only [hnr] at h)) <;> (try (exfalso; omega))))
  · rw [lstR_no h]
    generalize ccM l c r = b at h
    repeat' (first | simp -implicitDefEqProofs (maxSteps := 1000000) (disch := (first | omega | (simp only [go_sem] <;> omega) | fail)) only [go_sem, ints, bools, mat] | ((first | apply goIf_b | apply goG_b | apply goTG_b | apply goOG_b) <;> intro h <;> ((try simp only [hnq] at h); (try simp only [h]); (try simp only [hnr] at h)) <;> (try (exfalso; omega))))
theorem d_spec_CoverCounts (l c : List Int) (r : Int) (hl : l.length < 1048577) (hc : c.length < 1048577) : Den PA f_spec_CoverCounts [.d (.agg [ints l]), .d (ints c), .d (di r)] [.any, .any, .any] (lstR (ccM l c r) (ctM l c r)) := by
  refine den_go [] l_spec_CoverCounts ?_
  repeat' (first | simp -implicitDefEqProofs (maxSteps := 1000000) (disch := (first | omega | (simp only [go_sem] <;> omega) | fail)) only [go_sem, ints, bools, mat, c_spec_CoverCounts] | ((first | apply goIf_b | apply goG_b | apply goTG_b | apply goOG_b) <;> intro h <;> ((try simp only [hnq] at h); (try simp only [h]); (try simp only [hnr] at h)) <;> (try (exfalso; omega))))
  first | refine goC_call [.r, .r, .r] (d_spec_l02Code l c hl hc r) ?_ | refine goOC_call [.r, .r, .r] (d_spec_l02Code l c hl hc r) ?_
  by_cases h : ccM l c r = 0
  · obtain ⟨hs, hcc, _⟩ := ccM_ok h
    have hpr := isSpaceM_prod hs
    have htl : (timesM l c r).length = (prodM l).toNat := timesN_len l c r c.length
    have hT := d_spec_l02Times l c r hs hcc hc
    rw [lstR_ok h, h]
    repeat' (first | simp -implicitDefEqProofs (maxSteps := 1000000) (disch := (first | omega | (simp only [go_sem] <;> omega) | fail)) only [go_sem, ints, bools, mat] | ((first | apply goIf_b | apply goG_b | apply goTG_b | apply goOG_b) <;> intro h <;> ((try simp only [hnq] at h); (try simp only [h]); (try simp only [hnr] at h)) <;> (try (exfalso; omega))))
    rw [goS_two]
    refine ⟨?_, ?_⟩
    · repeat' (first | simp -implicitDefEqProofs (maxSteps := 1000000) (disch := (first | omega | (simp only [go_sem] <;> omega) | fail)) only [go_sem, ints, bools, mat] | ((first | apply goIf_b | apply goG_b | apply goTG_b | apply goOG_b) <;> intro h <;> ((try simp only [hnq] at h); (try simp only [h]); (try simp only [hnr] at h)) <;> (try (exfalso; omega))))
      first | refine goC_call [.r, .r, .r] (hT) ?_ | refine goOC_call [.r, .r, .r] (hT) ?_
      repeat' (first | simp -implicitDefEqProofs (maxSteps := 1000000) (disch := (first | omega | (simp only [go_sem] <;> omega) | fail)) only [go_sem, ints, bools, mat] | ((first | apply goIf_b | apply goG_b | apply goTG_b | apply goOG_b) <;> intro h <;> ((try simp only [hnq] at h); (try simp only [h]); (try simp only [hnr] at h)) <;> (try (exfalso; omega))))
      refine go_loop (fun (j : Nat) => ⟨[(9, .sl 0 0 (prodM l).toNat 1), (10, .sl 1 0 (c.length + 1) 1), (28, .d (di (prodM l).toNat)), (29, .d (di j))], [some (.dat 1 ((timesM l c r).map di)), some (.dat 1 ((hist (c.length + 1) ((timesM l c r).take j)).map di))]⟩) (fun j => j ≤ (prodM l).toNat) (fun j => (prodM l).toNat - j) 0 ?_ ?_ ?_
      · simp -implicitDefEqProofs (maxSteps := 1000000) (disch := (first | omega | (simp only [go_sem] <;> omega) | fail)) only [go_sem, ints, bools, mat]
        all_goals rfl
      · exact Nat.zero_le _
      · intro j hj J hJ
        have hhl := hist_len (c.length + 1) ((timesM l c r).take j)
        by_cases hjl : j < (prodM l).toNat
        · have hb := tm_bnd (c := c) (r := r) hjl
          have hst := ct_step l c r hjl
          have hhb := hist_bnd (c.length + 1) ((timesM l c r).take j) ((timesM l c r).getD j 0).toNat
          rw [List.length_take] at hhb
          repeat' (first | simp -implicitDefEqProofs (maxSteps := 1000000) (disch := (first | omega | (simp only [go_sem] <;> omega) | fail)) only [go_sem, ints, bools, mat, hst] | ((first | apply goIf_b | apply goG_b | apply goTG_b | apply goOG_b) <;> intro h <;> ((try simp only [hnq] at h); (try simp only [h]); (try simp only [hnr] at h)) <;> (try (exfalso; omega))))
          refine hJ (j + 1) (by omega) (by omega) _ ?_
          simp -implicitDefEqProofs (maxSteps := 1000000) (disch := (first | omega | (simp only [go_sem] <;> omega) | fail)) only [go_sem, ints, bools, mat, hst]
          all_goals rfl
        · have hje : j = (prodM l).toNat := by omega
          subst hje
          have e : (timesM l c r).take (prodM l).toNat = timesM l c r := by rw [← htl, List.take_length]
          rw [e]
          repeat' (first | simp -implicitDefEqProofs (maxSteps := 1000000) (disch := (first | omega | (simp only [go_sem] <;> omega) | fail)) only [go_sem, ints, bools, mat, ctM] | ((first | apply goIf_b | apply goG_b | apply goTG_b | apply goOG_b) <;> intro h <;> ((try simp only [hnq] at h); (try simp only [h]); (try simp only [hnr] at h)) <;> (try (exfalso; omega))))
    · repeat' (first | simp -implicitDefEqProofs (maxSteps := 1000000) (disch := (first | omega | (simp only [go_sem] <;> omega) | fail)) only [go_sem, ints, bools, mat] | ((first | apply goIf_b | apply goG_b | apply goTG_b | apply goOG_b) <;> intro h <;> ((try simp only [hnq] at h); (try simp only [h]); (try simp only [hnr] at h)) <;> (try (exfalso; omega))))
      first | refine goC_call [.r, .r, .r] (hT) ?_ | refine goOC_call [.r, .r, .r] (hT) ?_
      repeat' (first | simp -implicitDefEqProofs (maxSteps := 1000000) (disch := (first | omega | (simp only [go_sem] <;> omega) | fail)) only [go_sem, ints, bools, mat] | ((first | apply goIf_b | apply goG_b | apply goTG_b | apply goOG_b) <;> intro h <;> ((try simp only [hnq] at h); (try simp only [h]); (try simp only [hnr] at h)) <;> (try (exfalso; omega))))
      refine go_loop (fun (j : Nat) => ⟨[(9, .sl 0 0 (prodM l).toNat 1), (10, .sl 1 0 (c.length + 1) 1), (28, .d (di (prodM l).toNat)), (29, .d (di j))], [some (.dat 1 ((timesM l c r).map di)), some (.dat 1 ((hist (c.length + 1) ((timesM l c r).take j)).map di))]⟩) (fun j => j ≤ (prodM l).toNat) (fun j => (prodM l).toNat - j) 0 ?_ ?_ ?_
      · simp -implicitDefEqProofs (maxSteps := 1000000) (disch := (first | omega | (simp only [go_sem] <;> omega) | fail)) only [go_sem, ints, bools, mat]
        all_goals rfl
      · exact Nat.zero_le _
      · intro j hj J hJ
        have hhl := hist_len (c.length + 1) ((timesM l c r).take j)
        by_cases hjl : j < (prodM l).toNat
        · have hb := tm_bnd (c := c) (r := r) hjl
          have hst := ct_step l c r hjl
          have hhb := hist_bnd (c.length + 1) ((timesM l c r).take j) ((timesM l c r).getD j 0).toNat
          rw [List.length_take] at hhb
          repeat' (first | simp -implicitDefEqProofs (maxSteps := 1000000) (disch := (first | omega | (simp only [go_sem] <;> omega) | fail)) only [go_sem, ints, bools, mat, hst] | ((first | apply goIf_b | apply goG_b | apply goTG_b | apply goOG_b) <;> intro h <;> ((try simp only [hnq] at h); (try simp only [h]); (try simp only [hnr] at h)) <;> (try (exfalso; omega))))
          refine hJ (j + 1) (by omega) (by omega) _ ?_
          simp -implicitDefEqProofs (maxSteps := 1000000) (disch := (first | omega | (simp only [go_sem] <;> omega) | fail)) only [go_sem, ints, bools, mat, hst]
          all_goals rfl
        · have hje : j = (prodM l).toNat := by omega
          subst hje
          have e : (timesM l c r).take (prodM l).toNat = timesM l c r := by rw [← htl, List.take_length]
          rw [e]
          repeat' (first | simp -implicitDefEqProofs (maxSteps := 1000000) (disch := (first | omega | (simp only [go_sem] <;> omega) | fail)) only [go_sem, ints, bools, mat, ctM] | ((first | apply goIf_b | apply goG_b | apply goTG_b | apply goOG_b) <;> intro h <;> ((try simp only [hnq] at h); (try simp only [h]); (try simp only [hnr] at h)) <;> (try (exfalso; omega))))
  · rw [lstR_no h]
    generalize ccM l c r = b at h
    repeat' (first | simp -implicitDefEqProofs (maxSteps := 1000000) (disch := (first | omega | (simp only [go_sem] <;> omega) | fail)) only [go_sem, ints, bools, mat] | ((first | apply goIf_b | apply goG_b | apply goTG_b | apply goOG_b) <;> intro h <;> ((try simp only [hnq] at h); (try simp only [h]); (try simp only [hnr] at h)) <;> (try (exfalso; omega))))
abbrev tcE (l c : List Int) (w r : Int) : Int := if gcM l c [w] = 0 then (if 0 ≤ r ∧ r ≤ 8 then 0 else 2) else gcM l c [w]
abbrev tcR (l c : List Int) (w r : Int) : R := .tup [.d (di (if tcE l c w r = 0 then (timesM l c r).getD w.toNat 0 else 0)), .d (di (tcE l c w r))]
theorem d_impl_TimesCovered (l c : List Int) (w r : Int) (hl : l.length < 1048577) (hc : c.length < 1048577) : Den PA f_impl_TimesCovered [.d (.agg [ints l]), .d (ints c), .d (di w), .d (di r)] [.any, .any, .any, .any] (tcR l c w r) := by
  refine den_go [] l_impl_TimesCovered ?_
  repeat' (first | simp -implicitDefEqProofs (maxSteps := 1000000) (disch := (first | omega | (simp only [go_sem] <;> omega) | fail)) only [go_sem, ints, bools, mat, c_impl_TimesCovered] | ((first | apply goIf_b | apply goG_b | apply goTG_b | apply goOG_b) <;> intro h <;> ((try simp only [hnq] at h); (try simp only [h]); (try simp only [hnr] at h)) <;> (try (exfalso; omega))))
  first | refine goC_call [.r, .r, .r] (d_impl_codeCode l hl c hc _ [w] (.inl rfl) (by simp)) ?_ | refine goOC_call [.r, .r, .r] (d_impl_codeCode l hl c hc _ [w] (.inl rfl) (by simp)) ?_
  by_cases h : gcM l c [w] = 0
  · obtain ⟨hs, hw, hcc⟩ := gcM_ok h
    have hww : 0 ≤ w ∧ w < prodM l := by
      have := (areW_ok l [w]).1 hw 0 (by simp)
      simpa using this
    have hpr := isSpaceM_prod hs
    have htl : (timesM l c r).length = (prodM l).toNat := timesN_len l c r c.length
    rw [h]
    repeat' (first | simp -implicitDefEqProofs (maxSteps := 1000000) (disch := (first | omega | (simp only [go_sem] <;> omega) | fail)) only [go_sem, ints, bools, mat] | ((first | apply goIf_b | apply goG_b | apply goTG_b | apply goOG_b) <;> intro h <;> ((try simp only [hnq] at h); (try simp only [h]); (try simp only [hnr] at h)) <;> (try (exfalso; omega))))
    first | refine goC_call [.r] (d_impl_isRadius r) ?_ | refine goOC_call [.r] (d_impl_isRadius r) ?_
    by_cases hr : 0 ≤ r ∧ r ≤ 8
    · have e : tcE l c w r = 0 := by unfold tcE; rw [if_pos h, if_pos hr]
      rw [tcR, if_pos e, e]
      obtain ⟨r0, r8⟩ := hr
      repeat' (first | simp -implicitDefEqProofs (maxSteps := 1000000) (disch := (first | omega | (simp only [go_sem] <;> omega) | fail)) only [go_sem, ints, bools, mat] | ((first | apply goIf_b | apply goG_b | apply goTG_b | apply goOG_b) <;> intro h <;> ((try simp only [hnq] at h); (try simp only [h]); (try simp only [hnr] at h)) <;> (try (exfalso; omega))))
      first | refine goC_call [.r, .r, .r] (d_impl_times l c r hs hcc hc) ?_ | refine goOC_call [.r, .r, .r] (d_impl_times l c r hs hcc hc) ?_
      repeat' (first | simp -implicitDefEqProofs (maxSteps := 1000000) (disch := (first | omega | (simp only [go_sem] <;> omega) | fail)) only [go_sem, ints, bools, mat] | ((first | apply goIf_b | apply goG_b | apply goTG_b | apply goOG_b) <;> intro h <;> ((try simp only [hnq] at h); (try simp only [h]); (try simp only [hnr] at h)) <;> (try (exfalso; omega))))
    · have e : tcE l c w r = 2 := by unfold tcE; rw [if_pos h, if_neg hr]
      rw [tcR, e, if_neg (by decide)]
      repeat' (first | simp -implicitDefEqProofs (maxSteps := 1000000) (disch := (first | omega | (simp only [go_sem] <;> omega) | fail)) only [go_sem, ints, bools, mat] | ((first | apply goIf_b | apply goG_b | apply goTG_b | apply goOG_b) <;> intro h <;> ((try simp only [hnq] at h); (try simp only [h]); (try simp only [hnr] at h)) <;> (try (exfalso; omega))))
  · have e : tcE l c w r = gcM l c [w] := by unfold tcE; rw [if_neg h]
    rw [tcR, e, if_neg h]
    generalize gcM l c [w] = b at h
    repeat' (first | simp -implicitDefEqProofs (maxSteps := 1000000) (disch := (first | omega | (simp only [go_sem] <;> omega) | fail)) only [go_sem, ints, bools, mat] | ((first | apply goIf_b | apply goG_b | apply goTG_b | apply goOG_b) <;> intro h <;> ((try simp only [hnq] at h); (try simp only [h]); (try simp only [hnr] at h)) <;> (try (exfalso; omega))))
theorem gcM_one (l c : List Int) (w : Int) : gcM l c [w] = if ggM l c = 1 then 1 else (if 0 ≤ w ∧ w < prodM l then ggM l c else 2) := by
  have ha := areW_ok l [w]
  by_cases hs : isSpaceM l = true
  · by_cases hw : 0 ≤ w ∧ w < prodM l
    · have h1 : areW l [w] = true := ha.2 fun j hj => by
        have : j = 0 := by simpa using hj
        subst this; simpa using hw
      have h2 : wcM l [w] = 0 := by unfold wcM; rw [if_pos hs, if_pos h1]
      rw [gcM, if_pos h2, ggM, if_pos hs, if_pos hw]
      split <;> simp
    · have h1 : areW l [w] = false := by
        cases hx : areW l [w] with
        | false => rfl
        | true => exact absurd (by simpa using ha.1 hx 0 (by simp)) hw
      have h2 : wcM l [w] = 2 := by unfold wcM; rw [if_pos hs, h1]; rfl
      rw [gcM, h2, if_neg (by decide), ggM, if_pos hs, if_neg hw]
      split <;> simp
  · have h2 : wcM l [w] = 1 := by unfold wcM; rw [if_neg hs]
    rw [gcM, h2, if_neg (by decide), ggM, if_neg hs]; rfl
theorem tcE_eq (l c : List Int) (w r : Int) : tcE l c w r = if ccM l c r = 0 then (if 0 ≤ w ∧ w ≤ prodM l - 1 then 0 else 2) else ccM l c r := by
  unfold tcE ccM
  rw [gcM_one]
  have hg : ggM l c = 0 ∨ ggM l c = 1 ∨ ggM l c = 2 := by
    unfold ggM
    repeat' split
    all_goals simp
  by_cases hw : 0 ≤ w ∧ w < prodM l
  · have hw2 : 0 ≤ w ∧ w ≤ prodM l - 1 := by omega
    rcases hg with h | h | h <;> rw [h] <;> by_cases hr : 0 ≤ r ∧ r ≤ 8 <;> simp [hw, hw2, hr]
  · have hw2 : ¬ (0 ≤ w ∧ w ≤ prodM l - 1) := by omega
    rcases hg with h | h | h <;> rw [h] <;> by_cases hr : 0 ≤ r ∧ r ≤ 8 <;> simp [hw, hw2, hr]
theorem d_spec_TimesCovered (l c : List Int) (w r : Int) (hl : l.length < 1048577) (hc : c.length < 1048577) : Den PA f_spec_TimesCovered [.d (.agg [ints l]), .d (ints c), .d (di w), .d (di r)] [.any, .any, .any, .any] (tcR l c w r) := by
  refine den_go [] l_spec_TimesCovered ?_
  repeat' (first | simp -implicitDefEqProofs (maxSteps := 1000000) (disch := (first | omega | (simp only [go_sem] <;> omega) | fail)) only [go_sem, ints, bools, mat, c_spec_TimesCovered] | ((first | apply goIf_b | apply goG_b | apply goTG_b | apply goOG_b) <;> intro h <;> ((try simp only [hnq] at h); (try simp only [h]); (try simp only [hnr] at h)) <;> (try (exfalso; omega))))
  first | refine goC_call [.r, .r, .r] (d_spec_l02Code l c hl hc r) ?_ | refine goOC_call [.r, .r, .r] (d_spec_l02Code l c hl hc r) ?_
  rw [tcR, tcE_eq]
  by_cases h : ccM l c r = 0
  · obtain ⟨hs, hcc, _⟩ := ccM_ok h
    have hpr := isSpaceM_prod hs
    have hn := isSpaceM_n hs
    have hp1 := prodM_pos (isSpaceM_szs hs)
    have htl : (timesM l c r).length = (prodM l).toNat := timesN_len l c r c.length
    rw [h, if_pos rfl]
    repeat' (first | simp -implicitDefEqProofs (maxSteps := 1000000) (disch := (first | omega | (simp only [go_sem] <;> omega) | fail)) only [go_sem, ints, bools, mat] | ((first | apply goIf_b | apply goG_b | apply goTG_b | apply goOG_b) <;> intro h <;> ((try simp only [hnq] at h); (try simp only [h]); (try simp only [hnr] at h)) <;> (try (exfalso; omega))))
    first | refine goC_call [.r] (d_spec_l01N l (by omega) (isSpaceM_q hs)) ?_ | refine goOC_call [.r] (d_spec_l01N l (by omega) (isSpaceM_q hs)) ?_
    repeat' (first | simp -implicitDefEqProofs (maxSteps := 1000000) (disch := (first | omega | (simp only [go_sem] <;> omega) | fail)) only [go_sem, ints, bools, mat] | ((first | apply goIf_b | apply goG_b | apply goTG_b | apply goOG_b) <;> intro h <;> ((try simp only [hnq] at h); (try simp only [h]); (try simp only [hnr] at h)) <;> (try (exfalso; omega))))
    first | refine goC_call [.r, .r, .r] (d_spec_l01In w 0 (prodM l - 1)) ?_ | refine goOC_call [.r, .r, .r] (d_spec_l01In w 0 (prodM l - 1)) ?_
    by_cases hw : 0 ≤ w ∧ w ≤ prodM l - 1
    · rw [if_pos hw]
      obtain ⟨w0, w1⟩ := hw
      repeat' (first | simp -implicitDefEqProofs (maxSteps := 1000000) (disch := (first | omega | (simp only [go_sem] <;> omega) | fail)) only [go_sem, ints, bools, mat] | ((first | apply goIf_b | apply goG_b | apply goTG_b | apply goOG_b) <;> intro h <;> ((try simp only [hnq] at h); (try simp only [h]); (try simp only [hnr] at h)) <;> (try (exfalso; omega))))
      first | refine goC_call [.r, .r, .r] (d_spec_l02Times l c r hs hcc hc) ?_ | refine goOC_call [.r, .r, .r] (d_spec_l02Times l c r hs hcc hc) ?_
      repeat' (first | simp -implicitDefEqProofs (maxSteps := 1000000) (disch := (first | omega | (simp only [go_sem] <;> omega) | fail)) only [go_sem, ints, bools, mat] | ((first | apply goIf_b | apply goG_b | apply goTG_b | apply goOG_b) <;> intro h <;> ((try simp only [hnq] at h); (try simp only [h]); (try simp only [hnr] at h)) <;> (try (exfalso; omega))))
    · rw [if_neg hw, if_neg (show ¬ (2 : Int) = 0 by decide)]
      repeat' (first | simp -implicitDefEqProofs (maxSteps := 1000000) (disch := (first | omega | (simp only [go_sem] <;> omega) | fail)) only [go_sem, ints, bools, mat] | ((first | apply goIf_b | apply goG_b | apply goTG_b | apply goOG_b) <;> intro h <;> ((try simp only [hnq] at h); (try simp only [h]); (try simp only [hnr] at h)) <;> (try (exfalso; omega))))
  · rw [if_neg h, if_neg h]
    generalize ccM l c r = b at h
    repeat' (first | simp -implicitDefEqProofs (maxSteps := 1000000) (disch := (first | omega | (simp only [go_sem] <;> omega) | fail)) only [go_sem, ints, bools, mat] | ((first | apply goIf_b | apply goG_b | apply goTG_b | apply goOG_b) <;> intro h <;> ((try simp only [hnq] at h); (try simp only [h]); (try simp only [hnr] at h)) <;> (try (exfalso; omega))))
abbrev exE (l c : List Int) (r : Int) : Int := if ccM l c r = 0 then (if 0 ∈ timesM l c r then 5 else 0) else ccM l c r
abbrev exN (l c : List Int) (r : Int) (j : Nat) : Int := sgS (fun i => (timesM l c r).getD i 0 - 1) j
abbrev exR (l c : List Int) (r : Int) : R := .tup [.d (di (if exE l c r = 0 then exN l c r (prodM l).toNat else 0)), .d (di (exE l c r))]
theorem exN_bnd {l c : List Int} {r : Int} (hc : c.length ≤ 1024) : ∀ {j : Nat}, j ≤ (prodM l).toNat → (∀ i, i < j → (timesM l c r).getD i 0 ≠ 0) → 0 ≤ exN l c r j ∧ exN l c r j ≤ j * 1024
  | 0, _, _ => by simp [exN, sgS]
  | j + 1, hj, h => by
    have h1 := exN_bnd hc (j := j) (by omega) fun i hi => h i (by omega)
    have h2 := h j (by omega)
    have h3 := tm_bnd (l := l) (c := c) (r := r) (i := j) (by omega)
    have e : exN l c r (j + 1) = exN l c r j + ((timesM l c r).getD j 0 - 1) := rfl
    rw [e]; omega
theorem exN_succ (l c : List Int) (r : Int) (j : Nat) : exN l c r (j + 1) = exN l c r j + ((timesM l c r).getD j 0 - 1) := rfl
theorem d_impl_ExcessOf (l c : List Int) (r : Int) (hl : l.length < 1048577) (hc : c.length < 1048577) : Den PA f_impl_ExcessOf [.d (.agg [ints l]), .d (ints c), .d (di r)] [.any, .any, .any] (exR l c r) := by
  refine den_go [] l_impl_ExcessOf ?_
  repeat' (first | simp -implicitDefEqProofs (maxSteps := 1000000) (disch := (first | omega | (simp only [go_sem] <;> omega) | fail)) only [go_sem, ints, bools, mat, c_impl_ExcessOf] | ((first | apply goIf_b | apply goG_b | apply goTG_b | apply goOG_b) <;> intro h <;> ((try simp only [hnq] at h); (try simp only [h]); (try simp only [hnr] at h)) <;> (try (exfalso; omega))))
  first | refine goC_call [.r, .r, .r] (d_impl_coverCode l c hl hc r) ?_ | refine goOC_call [.r, .r, .r] (d_impl_coverCode l c hl hc r) ?_
  by_cases h : ccM l c r = 0
  · obtain ⟨hs, hcc, _⟩ := ccM_ok h
    have hpr := isSpaceM_prod hs
    have hcl := isCodeM_len hcc
    have htl : (timesM l c r).length = (prodM l).toNat := timesN_len l c r c.length
    rw [h]
    repeat' (first | simp -implicitDefEqProofs (maxSteps := 1000000) (disch := (first | omega | (simp only [go_sem] <;> omega) | fail)) only [go_sem, ints, bools, mat] | ((first | apply goIf_b | apply goG_b | apply goTG_b | apply goOG_b) <;> intro h <;> ((try simp only [hnq] at h); (try simp only [h]); (try simp only [hnr] at h)) <;> (try (exfalso; omega))))
    first | refine goC_call [.r, .r, .r] (d_impl_times l c r hs hcc hc) ?_ | refine goOC_call [.r, .r, .r] (d_impl_times l c r hs hcc hc) ?_
    repeat' (first | simp -implicitDefEqProofs (maxSteps := 1000000) (disch := (first | omega | (simp only [go_sem] <;> omega) | fail)) only [go_sem, ints, bools, mat] | ((first | apply goIf_b | apply goG_b | apply goTG_b | apply goOG_b) <;> intro h <;> ((try simp only [hnq] at h); (try simp only [h]); (try simp only [hnr] at h)) <;> (try (exfalso; omega))))
    refine go_loop (fun (j : Nat) => ⟨[(9, .d (di (exN l c r j))), (22, .sl 0 0 (prodM l).toNat 1), (23, .d (di (prodM l).toNat)), (24, .d (di j))], [some (.dat 1 ((timesM l c r).map di))]⟩) (fun j => j ≤ (prodM l).toNat ∧ ∀ i, i < j → (timesM l c r).getD i 0 ≠ 0) (fun j => (prodM l).toNat - j) 0 ?_ ?_ ?_
    · simp -implicitDefEqProofs (maxSteps := 1000000) (disch := (first | omega | (simp only [go_sem] <;> omega) | fail)) only [go_sem, ints, bools, mat]
      all_goals rfl
    · exact ⟨Nat.zero_le _, fun i hi => by omega⟩
    · rintro j ⟨hj, hnz⟩ J hJ
      have hb := exN_bnd (l := l) (c := c) (r := r) (by omega) hj hnz
      by_cases hjl : j < (prodM l).toNat
      · have htb := tm_bnd (c := c) (r := r) hjl
        have es := exN_succ l c r j
        by_cases hz : (timesM l c r).getD j 0 = 0
        · have hm : 0 ∈ timesM l c r := by rw [← hz]; exact getD_mem (by omega)
          have e : exE l c r = 5 := by unfold exE; rw [if_pos h, if_pos hm]
          rw [exR, e, if_neg (by decide)]
          repeat' (first | simp -implicitDefEqProofs (maxSteps := 1000000) (disch := (first | omega | (simp only [go_sem] <;> omega) | fail)) only [go_sem, ints, bools, mat, hz] | ((first | apply goIf_b | apply goG_b | apply goTG_b | apply goOG_b) <;> intro h <;> ((try simp only [hnq] at h); (try simp only [h]); (try simp only [hnr] at h)) <;> (try (exfalso; omega))))
        · repeat' (first | simp -implicitDefEqProofs (maxSteps := 1000000) (disch := (first | omega | (simp only [go_sem] <;> omega) | fail)) only [go_sem, ints, bools, mat] | ((first | apply goIf_b | apply goG_b | apply goTG_b | apply goOG_b) <;> intro h <;> ((try simp only [hnq] at h); (try simp only [h]); (try simp only [hnr] at h)) <;> (try (exfalso; omega))))
          refine hJ (j + 1) ⟨by omega, all_ext hnz hz⟩ (by omega) _ ?_
          simp -implicitDefEqProofs (maxSteps := 1000000) (disch := (first | omega | (simp only [go_sem] <;> omega) | fail)) only [go_sem, ints, bools, mat, es]
          all_goals rfl
      · have hje : j = (prodM l).toNat := by omega
        subst hje
        have hm : ¬ 0 ∈ timesM l c r := fun hm => by
          obtain ⟨i, hi, e⟩ := List.mem_iff_getElem.1 hm
          exact hnz i (by omega) (by rw [List.getD_eq_getElem?_getD, List.getElem?_eq_getElem hi, Option.getD_some]; exact e)
        have e : exE l c r = 0 := by unfold exE; rw [if_pos h, if_neg hm]
        rw [exR, e, if_pos rfl]
        repeat' (first | simp -implicitDefEqProofs (maxSteps := 1000000) (disch := (first | omega | (simp only [go_sem] <;> omega) | fail)) only [go_sem, ints, bools, mat] | ((first | apply goIf_b | apply goG_b | apply goTG_b | apply goOG_b) <;> intro h <;> ((try simp only [hnq] at h); (try simp only [h]); (try simp only [hnr] at h)) <;> (try (exfalso; omega))))
  · have e : exE l c r = ccM l c r := by unfold exE; rw [if_neg h]
    rw [exR, e, if_neg h]
    generalize ccM l c r = b at h
    repeat' (first | simp -implicitDefEqProofs (maxSteps := 1000000) (disch := (first | omega | (simp only [go_sem] <;> omega) | fail)) only [go_sem, ints, bools, mat] | ((first | apply goIf_b | apply goG_b | apply goTG_b | apply goOG_b) <;> intro h <;> ((try simp only [hnq] at h); (try simp only [h]); (try simp only [hnr] at h)) <;> (try (exfalso; omega))))
def gcL (cv : List Bool) (S : List Int) : List Bool := S.foldl (fun c u => c.set u.toNat true) cv
@[go_sem] theorem gcL_len (cv : List Bool) : ∀ S : List Int, (gcL cv S).length = cv.length := fun S => by
  induction S generalizing cv with
  | nil => rfl
  | cons u S ih => rw [gcL, List.foldl_cons]; exact (ih (cv.set u.toNat true)).trans (by rw [List.length_set])
theorem gcL_snoc (cv : List Bool) (S : List Int) (u : Int) : gcL cv (S ++ [u]) = (gcL cv S).set u.toNat true := by
  rw [gcL, List.foldl_append]; rfl
theorem getB_set {cv : List Bool} {i j : Nat} (hi : i < cv.length) (v : Bool) : (cv.set j v).getD i false = if j = i then v else cv.getD i false := by
  rw [List.getD_eq_getElem?_getD, List.getElem?_set]
  split
  · rename_i e; subst e; rw [if_pos hi]; rfl
  · rw [List.getD_eq_getElem?_getD]
theorem gcL_get {i : Nat} : ∀ {S : List Int} {cv : List Bool}, (∀ u, u ∈ S → 0 ≤ u) → i < cv.length → ((gcL cv S).getD i false = true ↔ cv.getD i false = true ∨ (i : Int) ∈ S)
  | [], cv, _, _ => by simp [gcL]
  | u :: S, cv, h, hi => by
    have hu := h u List.mem_cons_self
    have ih := gcL_get (i := i) (S := S) (cv := cv.set u.toNat true) (fun v hv => h v (List.mem_cons_of_mem _ hv)) (by rw [List.length_set]; exact hi)
    rw [show gcL cv (u :: S) = gcL (cv.set u.toNat true) S from rfl, ih, getB_set hi, List.mem_cons]
    by_cases e : u.toNat = i
    · rw [if_pos e]
      have : (i : Int) = u := by omega
      simp [this]
    · rw [if_neg e]
      have : ¬ (i : Int) = u := by omega
      simp [this]
theorem setB_same {cv : List Bool} {i : Nat} (hi : i < cv.length) (h : cv.getD i false = true) : cv.set i true = cv := by
  refine List.ext_getElem (by simp) fun k h1 h2 => ?_
  rw [List.getElem_set]
  split
  · rename_i e; subst e
    rw [List.getD_eq_getElem?_getD, List.getElem?_eq_getElem hi, Option.getD_some] at h
    exact h.symm
  · rfl
def gnC (l : List Int) (r : Int) (cv : List Bool) (w : Int) : Int := (((allW l).filter fun u => !(cv.getD u.toNat false) && decide (distM l w u ≤ r)).length : Int)
def mxG (l : List Int) (A B : Int → Int) (p : Int → Bool) : List Int := (allW l).map fun w => if p w = true then A w else B w
@[go_sem] theorem mxG_len (l : List Int) (A B : Int → Int) (p : Int → Bool) : (mxG l A B p).length = (prodM l).toNat := by rw [mxG, List.length_map, allW_len]
abbrev gnL (l : List Int) (r : Int) (cv : List Bool) : List Int := mxG l (gnC l r cv) (gnC l r cv) (fun _ => true)
theorem mxG_get {l : List Int} (A B : Int → Int) (p : Int → Bool) {j : Nat} (hj : j < (prodM l).toNat) : (mxG l A B p).getD j 0 = if p j = true then A j else B j := by
  have h : j < (allW l).length := by rw [allW_len]; exact hj
  have e := allW_get l hj
  rw [List.getD_eq_getElem?_getD, List.getElem?_eq_getElem h, Option.getD_some] at e
  rw [mxG, List.getD_eq_getElem?_getD, List.getElem?_map, List.getElem?_eq_getElem h, Option.map_some, Option.getD_some, e]
theorem mxG_ext {l : List Int} {A B A' B' : Int → Int} {p q : Int → Bool} (h : ∀ j : Nat, j < (prodM l).toNat → (if p j = true then A j else B j) = if q j = true then A' j else B' j) : mxG l A B p = mxG l A' B' q := by
  refine List.map_congr_left fun w hw => ?_
  obtain ⟨h0, h1⟩ := (allW_mem l w).1 hw
  have := h w.toNat (by omega)
  rw [show ((w.toNat : Nat) : Int) = w by omega] at this
  exact this
theorem mxG_set {l : List Int} {A B : Int → Int} {p q : Int → Bool} {j : Nat} {v : Int} (hj : j < (prodM l).toNat) (hv : v = A j) (hq : ∀ i : Nat, i < (prodM l).toNat → q i = (p i || decide (i = j))) : (mxG l A B p).set j v = mxG l A B q := by
  refine List.ext_getElem (by simp [mxG_len]) fun k h1 h2 => ?_
  have hk : k < (prodM l).toNat := by rw [mxG_len] at h2; exact h2
  have e1 := mxG_get (l := l) A B p hk
  have e2 := mxG_get (l := l) A B q hk
  rw [List.getD_eq_getElem?_getD, List.getElem?_eq_getElem (by rw [mxG_len]; exact hk), Option.getD_some] at e1 e2
  rw [List.getElem_set, e2, hq k hk]
  by_cases e : j = k
  · subst e; simp [hv]
  · rw [if_neg e, e1]
    have e' : decide (k = j) = false := decide_eq_false fun h => e h.symm
    rw [e', Bool.or_false]
theorem gnC_bnd (l : List Int) (r : Int) (cv : List Bool) (w : Int) : 0 ≤ gnC l r cv w ∧ gnC l r cv w ≤ (prodM l).toNat := by
  have h := List.length_filter_le (fun u => !(cv.getD u.toNat false) && decide (distM l w u ≤ r)) (allW l)
  rw [allW_len] at h
  unfold gnC; omega
theorem flt_rm {a : Int} (p : Int → Bool) : ∀ {A : List Int}, A.Nodup → a ∈ A → (A.filter p).length = (A.filter fun x => p x && decide (x ≠ a)).length + (if p a = true then 1 else 0)
  | [], _, h => by simp at h
  | x :: A, hn, h => by
    obtain ⟨h1, h2⟩ := List.nodup_cons.1 hn
    by_cases e : x = a
    · subst e
      have e2 : A.filter (fun y => p y && decide (y ≠ x)) = A.filter p := List.filter_congr fun y hy => by
        have : y ≠ x := fun e => h1 (e ▸ hy)
        simp [this]
      rw [List.filter_cons, List.filter_cons]
      simp only [ne_eq, not_true, decide_false, Bool.and_false, Bool.false_eq_true, if_false]
      rw [e2]
      split <;> simp
    · have ih := flt_rm p h2 (by rcases List.mem_cons.1 h with h | h; exact absurd h.symm e; exact h)
      rw [List.filter_cons, List.filter_cons]
      have : decide (x ≠ a) = true := decide_eq_true e
      rw [this, Bool.and_true]
      split
      · rw [List.length_cons, List.length_cons, ih]; omega
      · exact ih
theorem gnC_set {l : List Int} {r : Int} {cv : List Bool} {u : Nat} (hl : cv.length = (prodM l).toNat) (hu : u < (prodM l).toNat) (hc : cv.getD u false = false) (w : Int) : gnC l r (cv.set u true) w = gnC l r cv w - (if distM l w u ≤ r then 1 else 0) := by
  have h := flt_rm (a := (u : Int)) (fun x => !(cv.getD x.toNat false) && decide (distM l w x ≤ r)) (allW_nodup l) ((allW_mem l _).2 (by omega))
  have e : (allW l).filter (fun x => !((cv.set u true).getD x.toNat false) && decide (distM l w x ≤ r)) = (allW l).filter fun x => (!(cv.getD x.toNat false) && decide (distM l w x ≤ r)) && decide (x ≠ (u : Int)) := List.filter_congr fun x hx => by
    obtain ⟨h0, h1⟩ := (allW_mem l x).1 hx
    rw [getB_set (by omega)]
    by_cases e : u = x.toNat
    · have e2 : x = (u : Int) := by omega
      rw [if_pos e]; simp [e2]
    · have e2 : ¬ x = (u : Int) := by omega
      rw [if_neg e]; simp [e2]
  unfold gnC
  rw [e, h]
  simp only [Int.toNat_natCast, hc, Bool.not_false, Bool.true_and, decide_eq_true_eq]
  split <;> simp
def bsx (G : List Int) : Nat → Nat
  | 0 => 0
  | j + 1 => if G.getD (bsx G j) 0 < G.getD j 0 then j else bsx G j
theorem bsx_lt (G : List Int) : ∀ j, bsx G j < j ∨ bsx G j = 0
  | 0 => .inr rfl
  | j + 1 => by
    have := bsx_lt G j
    rw [bsx]; split
    · exact .inl (by omega)
    · omega
theorem bsx_max (G : List Int) : ∀ j i, i < j → G.getD i 0 ≤ G.getD (bsx G j) 0
  | 0, i, h => by omega
  | j + 1, i, h => by
    rw [bsx]
    by_cases e : i = j
    · subst e; split <;> omega
    · have := bsx_max G j i (by omega)
      split <;> omega
theorem bsx_one (G : List Int) : bsx G 1 = 0 := by simp [bsx]
abbrev bst (l : List Int) (r : Int) (cv : List Bool) : Nat := bsx (gnL l r cv) (prodM l).toNat
def grd (l : List Int) (r : Int) : Nat → List Bool → List Int → List Int
  | 0, _, K => K
  | f + 1, cv, K => if (gnL l r cv).getD (bst l r cv) 0 = 0 then K else grd l r f (gcL cv (ballM l (bst l r cv) r)) (K ++ [(bst l r cv : Int)])
structure GrJ (l : List Int) (r : Int) (cv : List Bool) (K : List Int) : Prop where
  len : cv.length = (prodM l).toNat
  inc : inC l K
  nod : K.Nodup
  cov : ∀ i : Nat, i < (prodM l).toNat → (cv.getD i false = true ↔ ∃ k, k ∈ K ∧ distM l k i ≤ r)
theorem GrJ.small {l : List Int} {r : Int} {cv : List Bool} {K : List Int} (hs : isSpaceM l = true) (h : GrJ l r cv K) : K.length ≤ (prodM l).toNat := nodup_small hs h.inc h.nod
theorem bst_lt {l : List Int} (hs : isSpaceM l = true) (r : Int) (cv : List Bool) : bst l r cv < (prodM l).toNat := by
  have h1 := bsx_lt (gnL l r cv) (prodM l).toNat
  have h2 := prodM_pos (isSpaceM_szs hs)
  show bsx (gnL l r cv) (prodM l).toNat < _
  omega
theorem bst_get {l : List Int} (hs : isSpaceM l = true) (r : Int) (cv : List Bool) : (gnL l r cv).getD (bst l r cv) 0 = gnC l r cv (bst l r cv) := by
  rw [mxG_get _ _ _ (bst_lt hs r cv), if_pos rfl]
theorem GrJ.next {l : List Int} {r : Int} {cv : List Bool} {K : List Int} (hs : isSpaceM l = true) (h : GrJ l r cv K) (hg : (gnL l r cv).getD (bst l r cv) 0 ≠ 0) : GrJ l r (gcL cv (ballM l (bst l r cv) r)) (K ++ [(bst l r cv : Int)]) := by
  have hb := bst_lt hs r cv
  have hp1 := prodM_pos (isSpaceM_szs hs)
  rw [bst_get hs] at hg
  generalize bst l r cv = b at *
  have hcv : ∀ i : Nat, i < (prodM l).toNat → ((gcL cv (ballM l b r)).getD i false = true ↔ cv.getD i false = true ∨ distM l (b : Int) i ≤ r) := fun i hi => by
    rw [gcL_get (fun u hu => ((ballM_mem l _ r u).1 hu).1.1) (by rw [h.len]; exact hi), ballM_mem, distM_comm l (i : Int)]
    constructor
    · rintro (h | h)
      · exact .inl h
      · exact .inr h.2
    · rintro (h | h)
      · exact .inl h
      · exact .inr ⟨by omega, h⟩
  have hnb : (b : Int) ∉ K := fun hK => by
    apply hg
    unfold gnC
    rw [List.filter_eq_nil_iff.2]
    · rfl
    · intro u hu hx
      obtain ⟨h0, h1⟩ := (allW_mem l u).1 hu
      simp only [Bool.and_eq_true, Bool.not_eq_true', decide_eq_true_eq] at hx
      have := (h.cov u.toNat (by omega)).2 ⟨b, hK, by rw [show ((u.toNat : Nat) : Int) = u by omega]; exact hx.2⟩
      rw [hx.1] at this; cases this
  refine ⟨by rw [gcL_len, h.len], inC_app h.inc fun u hu => by simp only [List.mem_singleton] at hu; omega, ?_, fun i hi => ?_⟩
  · rw [List.nodup_append]
    refine ⟨h.nod, by simp, fun x hx y hy e => ?_⟩
    simp only [List.mem_singleton] at hy
    subst hy; subst e; exact hnb hx
  · rw [hcv i hi, h.cov i hi]
    constructor
    · rintro (⟨k, hk, hd⟩ | hd)
      · exact ⟨k, List.mem_append_left _ hk, hd⟩
      · exact ⟨b, List.mem_append_right _ (by simp), hd⟩
    · rintro ⟨k, hk, hd⟩
      rcases List.mem_append.1 hk with hk | hk
      · exact .inl ⟨k, hk, hd⟩
      · simp only [List.mem_singleton] at hk; subst hk; exact .inr hd
theorem GrJ.all {l : List Int} {r : Int} {cv : List Bool} {K : List Int} (hs : isSpaceM l = true) (hr : 0 ≤ r) (h : GrJ l r cv K) (hg : (gnL l r cv).getD (bst l r cv) 0 = 0) : ∀ i : Nat, i < (prodM l).toNat → ∃ k, k ∈ K ∧ distM l k i ≤ r := fun i hi => by
  refine (h.cov i hi).1 ?_
  have h1 := bsx_max (gnL l r cv) (prodM l).toNat i hi
  rw [show bsx (gnL l r cv) (prodM l).toNat = bst l r cv from rfl, hg, mxG_get _ _ _ hi, if_pos rfl] at h1
  cases hc : cv.getD i false with
  | true => rfl
  | false =>
    exfalso
    have hm : (i : Int) ∈ (allW l).filter fun u => !(cv.getD u.toNat false) && decide (distM l i u ≤ r) := by
      refine List.mem_filter.2 ⟨(allW_mem l _).2 (by omega), ?_⟩
      rw [Int.toNat_natCast, hc, distM_self]
      simp [hr]
    have := List.length_pos_of_mem hm
    unfold gnC at h1
    omega
theorem grd_ok {l : List Int} {r : Int} (hs : isSpaceM l = true) (hr : 0 ≤ r) : ∀ (f : Nat) (cv : List Bool) (K : List Int), GrJ l r cv K → K.length + f = (prodM l).toNat + 1 →
    inC l (grd l r f cv K) ∧ (grd l r f cv K).Nodup ∧ ∀ i : Nat, i < (prodM l).toNat → ∃ k, k ∈ grd l r f cv K ∧ distM l k i ≤ r
  | 0, cv, K, h, e => by have := h.small hs; omega
  | f + 1, cv, K, h, e => by
    rw [grd]
    split
    · rename_i hg; exact ⟨h.inc, h.nod, h.all hs hr hg⟩
    · rename_i hg
      exact grd_ok hs hr f _ _ (h.next hs hg) (by rw [List.length_append, List.length_singleton]; omega)
theorem GrJ.start {l : List Int} (r : Int) : GrJ l r (List.replicate (prodM l).toNat false) [] :=
  ⟨by simp, fun u hu => by simp at hu, List.nodup_nil, fun i hi => by simp [hi]⟩
def grM (l : List Int) (r : Int) : List Int := setI (grd l r ((prodM l).toNat + 1) (List.replicate (prodM l).toNat false) [])
theorem grM_ok {l : List Int} {r : Int} (hs : isSpaceM l = true) (hr : 0 ≤ r) : isCodeM l (grM l r) = true ∧ (grM l r).length ≤ (prodM l).toNat ∧ cvB l (grM l r) r = true := by
  obtain ⟨h1, h2, h3⟩ := grd_ok hs hr ((prodM l).toNat + 1) _ _ (GrJ.start r) (by simp)
  have hin : inC l (grM l r) := fun u hu => h1 u ((setI_mem _ _).1 hu)
  refine ⟨?_, nodup_small hs hin (asc_nodup (setI_asc _)), cvB_yes fun w hw => ?_⟩
  · rw [isCodeM_ok]
    exact ⟨fun j hj => hin _ (getD_mem hj), fun j hj => asc_lt (setI_asc _) (by omega) hj⟩
  · obtain ⟨k, hk, hd⟩ := h3 w hw
    have hk' : k ∈ grM l r := (setI_mem _ _).2 hk
    obtain ⟨i, hi, e⟩ := List.mem_iff_getElem.1 hk'
    refine ⟨i, hi, ?_⟩
    rw [List.getD_eq_getElem?_getD, List.getElem?_eq_getElem hi, Option.getD_some, e]; exact hd
theorem ball_take {l : List Int} (b r : Int) {j : Nat} (hj : j < (prodM l).toNat) : ((allW l).take (j + 1)).filter (fun u => decide (distM l u b ≤ r)) = ((allW l).take j).filter (fun u => decide (distM l u b ≤ r)) ++ (if distM l j b ≤ r then [(j : Int)] else []) := by
  rw [take_allW l hj, List.filter_append]
  by_cases h : distM l j b ≤ r
  · rw [if_pos h]; simp [h]
  · rw [if_neg h]; simp [h]
theorem gn_none {l : List Int} (A : Int → Int) (r : Int) (cv : List Bool) {p : Int → Bool} (hp : ∀ j : Nat, j < (prodM l).toNat → p j = false) : mxG l A (gnC l r cv) p = gnL l r cv := mxG_ext fun j hj => by simp [hp j hj]
theorem gn_full {l : List Int} (r : Int) (cv : List Bool) (B : Int → Int) {p : Int → Bool} (hp : ∀ j : Nat, j < (prodM l).toNat → p j = true ∨ gnC l r cv j = B j) : mxG l (gnC l r cv) B p = gnL l r cv := mxG_ext fun j hj => by
  rcases hp j hj with h | h
  · simp [h]
  · rw [← h]; simp
theorem gn_first {l : List Int} (hs : isSpaceM l = true) {r : Int} (hr : 0 ≤ r) : List.replicate (prodM l).toNat (bzM l r) = gnL l r (List.replicate (prodM l).toNat false) := by
  refine List.ext_getElem (by simp [mxG_len]) fun k h1 h2 => ?_
  have hk : k < (prodM l).toNat := by simpa using h1
  have e := mxG_get (l := l) (gnC l r (List.replicate (prodM l).toNat false)) (gnC l r (List.replicate (prodM l).toNat false)) (fun _ => true) hk
  rw [List.getD_eq_getElem?_getD, List.getElem?_eq_getElem h2, Option.getD_some, if_pos rfl] at e
  rw [e, List.getElem_replicate, ← ball_len hs (k : Int) hr, gnC, ballM]
  congr 2
  refine List.filter_congr fun u hu => ?_
  obtain ⟨h0, h1⟩ := (allW_mem l u).1 hu
  rw [distM_comm]
  simp [show u.toNat < (prodM l).toNat by omega]
def gcB (l : List Int) (r : Int) (cv : List Bool) (b j : Nat) : List Bool := gcL cv (((allW l).take j).filter fun u => decide (distM l u b ≤ r))
@[go_sem] theorem gcB_len (l : List Int) (r : Int) (cv : List Bool) (b j : Nat) : (gcB l r cv b j).length = cv.length := gcL_len _ _
theorem gcB_zero (l : List Int) (r : Int) (cv : List Bool) (b : Nat) : gcB l r cv b 0 = cv := rfl
theorem gcB_all (l : List Int) (r : Int) (cv : List Bool) (b : Nat) : gcB l r cv b (prodM l).toNat = gcL cv (ballM l b r) := by
  unfold gcB ballM
  rw [← allW_len l, List.take_length]
theorem gcB_no {l : List Int} {r : Int} (cv : List Bool) {b j : Nat} (hj : j < (prodM l).toNat) (h : ¬ distM l b j ≤ r) : gcB l r cv b (j + 1) = gcB l r cv b j := by
  unfold gcB
  rw [ball_take _ _ hj, distM_comm, if_neg h, List.append_nil]
theorem gcB_yes {l : List Int} {r : Int} (cv : List Bool) {b j : Nat} (hj : j < (prodM l).toNat) (h : distM l b j ≤ r) : gcB l r cv b (j + 1) = (gcB l r cv b j).set j true := by
  unfold gcB
  rw [ball_take _ _ hj, distM_comm, if_pos h, gcL_snoc, Int.toNat_natCast]
theorem gcB_old {l : List Int} {r : Int} {cv : List Bool} (hl : cv.length = (prodM l).toNat) {b j : Nat} (hj : j < (prodM l).toNat) (h : (gcB l r cv b j).getD j false = true) : gcB l r cv b (j + 1) = gcB l r cv b j := by
  by_cases hd : distM l b j ≤ r
  · rw [gcB_yes cv hj hd, setB_same (by rw [gcB_len, hl]; exact hj) h]
  · exact gcB_no cv hj hd
theorem d_impl_GreedyCode (l : List Int) (r : Int) (hl : l.length < 1048577) : Den PA f_impl_GreedyCode [.d (.agg [ints l]), .d (di r)] [.any, .any] (lstR (rcM l r) (grM l r)) := by
  refine den_go [] l_impl_GreedyCode ?_
  repeat' (first | simp -implicitDefEqProofs (maxSteps := 1000000) (disch := (first | omega | (simp only [go_sem] <;> omega) | fail)) only [go_sem, ints, bools, mat, c_impl_GreedyCode] | ((first | apply goIf_b | apply goG_b | apply goTG_b | apply goOG_b) <;> intro h <;> ((try simp only [hnq] at h); (try simp only [h]); (try simp only [hnr] at h)) <;> (try (exfalso; omega))))
  first | refine goC_call [.r, .r, .r] (d_impl_ballCode0 l r hl) ?_ | refine goOC_call [.r, .r, .r] (d_impl_ballCode0 l r hl) ?_
  by_cases h : rcM l r = 0
  · rw [lstR_ok h, h]
    obtain ⟨hs, hr0, hr8⟩ := rcM_ok' h
    have hp1 := prodM_pos (isSpaceM_szs hs)
    have hpr := isSpaceM_prod hs
    have hn8 := isSpaceM_n hs
    have hbl := ball_len hs 0 hr0
    have hbz := bz_pos hs hr0
    have hN : ((prodM l).toNat : Int) = prodM l := by omega
    have ga : ∀ i : Nat, i < (prodM l).toNat → (digsM l (allW l)).getD i [] = digM l i := fun i hi => by rw [digsM_get l (allW l) (by rw [allW_len]; exact hi), allW_get l hi]
    obtain ⟨X, hX⟩ : ∃ X, X = grd l r ((prodM l).toNat + 1) (List.replicate (prodM l).toNat false) [] := ⟨_, rfl⟩
    have hgr : grM l r = setI X := by rw [hX]; rfl
    repeat' (first | simp -implicitDefEqProofs (maxSteps := 1000000) (disch := (first | omega | (simp only [go_sem] <;> omega) | fail)) only [go_sem, ints, bools, mat] | ((first | apply goIf_b | apply goG_b | apply goTG_b | apply goOG_b) <;> intro h <;> ((try simp only [hnq] at h); (try simp only [h]); (try simp only [hnr] at h)) <;> (try (exfalso; omega))))
    first | refine goC_call [.r] (d_impl_allDigits l hs) ?_ | refine goOC_call [.r] (d_impl_allDigits l hs) ?_
    repeat' (first | simp -implicitDefEqProofs (maxSteps := 1000000) (disch := (first | omega | (simp only [go_sem] <;> omega) | fail)) only [go_sem, ints, bools, mat] | ((first | apply goIf_b | apply goG_b | apply goTG_b | apply goOG_b) <;> intro h <;> ((try simp only [hnq] at h); (try simp only [h]); (try simp only [hnr] at h)) <;> (try (exfalso; omega))))
    first | refine goC_call [.r, .r, .r] (d_impl_ball l hs 0 r (by omega) (by omega)) ?_ | refine goOC_call [.r, .r, .r] (d_impl_ball l hs 0 r (by omega) (by omega)) ?_
    repeat' (first | simp -implicitDefEqProofs (maxSteps := 1000000) (disch := (first | omega | (simp only [go_sem] <;> omega) | fail)) only [go_sem, ints, bools, mat, hbl] | ((first | apply goIf_b | apply goG_b | apply goTG_b | apply goOG_b) <;> intro h <;> ((try simp only [hnq] at h); (try simp only [h]); (try simp only [hnr] at h)) <;> (try (exfalso; omega))))
    first | refine goC_call [.f, .r] (d_slices_Repeat (bzM l r) (prodM l).toNat (by omega) (by omega)) ?_ | refine goOC_call [.f, .r] (d_slices_Repeat (bzM l r) (prodM l).toNat (by omega) (by omega)) ?_
    repeat' (first | simp -implicitDefEqProofs (maxSteps := 1000000) (disch := (first | omega | (simp only [go_sem] <;> omega) | fail)) only [go_sem, ints, bools, mat] | ((first | apply goIf_b | apply goG_b | apply goTG_b | apply goOG_b) <;> intro h <;> ((try simp only [hnq] at h); (try simp only [h]); (try simp only [hnr] at h)) <;> (try (exfalso; omega))))
    refine go_loop (fun (p : List Bool × List Int) => ⟨[(1, .d (di r)), (7, .sl 0 0 (prodM l).toNat 8), (8, .sl 1 0 (p.2).length 1), (9, .sl 2 0 (prodM l).toNat 1), (10, .sl 3 0 (prodM l).toNat 1)], [some (.dat 8 (digs (digsM l (allW l)))), some (.dat 1 ((p.2).map di)), some (.dat 1 ((gnL l r p.1).map di)), some (.dat 1 ((p.1).map db))]⟩) (fun p => GrJ l r p.1 p.2 ∧ grd l r ((prodM l).toNat + 1 - p.2.length) p.1 p.2 = X) (fun p => (prodM l).toNat + 1 - p.2.length) (List.replicate (prodM l).toNat false, []) ?_ ?_ ?_
    · simp -implicitDefEqProofs (maxSteps := 1000000) (disch := (first | omega | (simp only [go_sem] <;> omega) | fail)) only [go_sem, ints, bools, mat, gn_first hs hr0]
    · exact ⟨GrJ.start r, hX.symm⟩
    · rintro ⟨cv, K⟩ ⟨g, gX⟩ J hJ
      dsimp only at g gX ⊢
      have hKl := g.small hs
      have hcl := g.len
      rw [show (prodM l).toNat + 1 - K.length = ((prodM l).toNat - K.length) + 1 by omega, grd] at gX
      have hb : bsx (gnL l r cv) (prodM l).toNat < (prodM l).toNat := bst_lt hs r cv
      repeat' (first | simp -implicitDefEqProofs (maxSteps := 1000000) (disch := (first | omega | (simp only [go_sem] <;> omega) | fail)) only [go_sem, ints, bools, mat] | ((first | apply goIf_b | apply goG_b | apply goTG_b | apply goOG_b) <;> intro h <;> ((try simp only [hnq] at h); (try simp only [h]); (try simp only [hnr] at h)) <;> (try (exfalso; omega))))
      refine go_loop (fun (j : Nat) => ⟨[(1, .d (di r)), (7, .sl 0 0 (prodM l).toNat 8), (8, .sl 1 0 (K).length 1), (9, .sl 2 0 (prodM l).toNat 1), (10, .sl 3 0 (prodM l).toNat 1), (11, .d (di (bsx (gnL l r cv) j : Nat))), (36, .sl 2 0 (prodM l).toNat 1), (37, .d (di (prodM l).toNat)), (38, .d (di j))], [some (.dat 8 (digs (digsM l (allW l)))), some (.dat 1 ((K).map di)), some (.dat 1 ((gnL l r cv).map di)), some (.dat 1 ((cv).map db))]⟩) (fun j => j ≤ (prodM l).toNat) (fun j => (prodM l).toNat - j) 0 ?_ ?_ ?_
      · simp -implicitDefEqProofs (maxSteps := 1000000) (disch := (first | omega | (simp only [go_sem] <;> omega) | fail)) only [go_sem, ints, bools, mat]
        all_goals rfl
      · exact Nat.zero_le _
      · intro j hj J2 hJ2
        have hbj := bsx_lt (gnL l r cv) j
        by_cases hjl : j < (prodM l).toNat
        · by_cases hgt : (gnL l r cv).getD (bsx (gnL l r cv) j) 0 < (gnL l r cv).getD j 0
          · have e : bsx (gnL l r cv) (j + 1) = j := by rw [bsx, if_pos hgt]
            repeat' (first | simp -implicitDefEqProofs (maxSteps := 1000000) (disch := (first | omega | (simp only [go_sem] <;> omega) | fail)) only [go_sem, ints, bools, mat] | ((first | apply goIf_b | apply goG_b | apply goTG_b | apply goOG_b) <;> intro h <;> ((try simp only [hnq] at h); (try simp only [h]); (try simp only [hnr] at h)) <;> (try (exfalso; omega))))
            refine hJ2 (j + 1) (by omega) (by omega) _ ?_
            simp -implicitDefEqProofs (maxSteps := 1000000) (disch := (first | omega | (simp only [go_sem] <;> omega) | fail)) only [go_sem, ints, bools, mat, e]
            all_goals rfl
          · have e : bsx (gnL l r cv) (j + 1) = bsx (gnL l r cv) j := by rw [bsx, if_neg hgt]
            repeat' (first | simp -implicitDefEqProofs (maxSteps := 1000000) (disch := (first | omega | (simp only [go_sem] <;> omega) | fail)) only [go_sem, ints, bools, mat] | ((first | apply goIf_b | apply goG_b | apply goTG_b | apply goOG_b) <;> intro h <;> ((try simp only [hnq] at h); (try simp only [h]); (try simp only [hnr] at h)) <;> (try (exfalso; omega))))
            refine hJ2 (j + 1) (by omega) (by omega) _ ?_
            simp -implicitDefEqProofs (maxSteps := 1000000) (disch := (first | omega | (simp only [go_sem] <;> omega) | fail)) only [go_sem, ints, bools, mat, e]
            all_goals rfl
        · have hje : j = (prodM l).toNat := by omega
          subst hje
          by_cases hz : (gnL l r cv).getD (bsx (gnL l r cv) (prodM l).toNat) 0 = 0
          · rw [if_pos hz] at gX
            have hso := sortI_nodup g.nod
            repeat' (first | simp -implicitDefEqProofs (maxSteps := 1000000) (disch := (first | omega | (simp only [go_sem] <;> omega) | fail)) only [go_sem, ints, bools, mat] | ((first | apply goIf_b | apply goG_b | apply goTG_b | apply goOG_b) <;> intro h <;> ((try simp only [hnq] at h); (try simp only [h]); (try simp only [hnr] at h)) <;> (try (exfalso; omega))))
            first | refine goC_call [.o] (d_slices_Sort K (by omega)) ?_ | refine goOC_call [.o] (d_slices_Sort K (by omega)) ?_
            repeat' (first | simp -implicitDefEqProofs (maxSteps := 1000000) (disch := (first | omega | (simp only [go_sem] <;> omega) | fail)) only [go_sem, ints, bools, mat] | ((first | apply goIf_b | apply goG_b | apply goTG_b | apply goOG_b) <;> intro h <;> ((try simp only [hnq] at h); (try simp only [h]); (try simp only [hnr] at h)) <;> (try (exfalso; omega))))
            rw [hso, hgr, ← gX]
          · rw [if_neg hz] at gX
            have gn := g.next hs hz
            repeat' (first | simp -implicitDefEqProofs (maxSteps := 1000000) (disch := (first | omega | (simp only [go_sem] <;> omega) | fail)) only [go_sem, ints, bools, mat] | ((first | apply goIf_b | apply goG_b | apply goTG_b | apply goOG_b) <;> intro h <;> ((try simp only [hnq] at h); (try simp only [h]); (try simp only [hnr] at h)) <;> (try (exfalso; omega))))
            refine go_loop (fun (j : Nat) => ⟨[(1, .d (di r)), (7, .sl 0 0 (prodM l).toNat 8), (8, .sl 1 0 (K ++ [((bsx (gnL l r cv) (prodM l).toNat : Nat) : Int)]).length 1), (9, .sl 2 0 (prodM l).toNat 1), (10, .sl 3 0 (prodM l).toNat 1), (11, .d (di (bsx (gnL l r cv) (prodM l).toNat : Nat))), (64, .d (di (prodM l).toNat)), (65, .d (di j))], [some (.dat 8 (digs (digsM l (allW l)))), some (.dat 1 ((K ++ [((bsx (gnL l r cv) (prodM l).toNat : Nat) : Int)]).map di)), some (.dat 1 ((gnL l r (gcB l r cv (bsx (gnL l r cv) (prodM l).toNat) j)).map di)), some (.dat 1 ((gcB l r cv (bsx (gnL l r cv) (prodM l).toNat) j).map db))]⟩) (fun j => j ≤ (prodM l).toNat) (fun j => (prodM l).toNat - j) 0 ?_ ?_ ?_
            · simp -implicitDefEqProofs (maxSteps := 1000000) (disch := (first | omega | (simp only [go_sem] <;> omega) | fail)) only [go_sem, ints, bools, mat, gcB_zero]
              all_goals rfl
            · exact Nat.zero_le _
            · intro j hj J3 hJ3
              have hcj := gcB_len l r cv (bsx (gnL l r cv) (prodM l).toNat) j
              by_cases hjl : j < (prodM l).toNat
              · cases hc : (gcB l r cv (bsx (gnL l r cv) (prodM l).toNat) j).getD j false with
                | true =>
                  have e := gcB_old hcl hjl hc
                  repeat' (first | simp -implicitDefEqProofs (maxSteps := 1000000) (disch := (first | omega | (simp only [go_sem] <;> omega) | fail)) only [go_sem, ints, bools, mat, hc] | ((first | apply goIf_b | apply goG_b | apply goTG_b | apply goOG_b) <;> intro h <;> ((try simp only [hnq] at h); (try simp only [h]); (try simp only [hnr] at h)) <;> (try (exfalso; omega))))
                  refine hJ3 (j + 1) (by omega) (by omega) _ ?_
                  simp -implicitDefEqProofs (maxSteps := 1000000) (disch := (first | omega | (simp only [go_sem] <;> omega) | fail)) only [go_sem, ints, bools, mat, e]
                  all_goals rfl
                | false =>
                  have hse := gnC_set (r := r) (hcj.trans hcl) hjl hc
                  repeat' (first | simp -implicitDefEqProofs (maxSteps := 1000000) (disch := (first | omega | (simp only [go_sem] <;> omega) | fail)) only [go_sem, ints, bools, mat, hc] | ((first | apply goIf_b | apply goG_b | apply goTG_b | apply goOG_b) <;> intro h <;> ((try simp only [hnq] at h); (try simp only [h]); (try simp only [hnr] at h)) <;> (try (exfalso; omega))))
                  rw [ga _ hb, ga _ hjl]
                  first | refine goC_call [.r, .r] (d_impl_far (digM l (bsx (gnL l r cv) (prodM l).toNat : Nat)) (digM l j) (by rw [digM_len, digM_len]) (by rw [digM_len]; omega)) ?_ | refine goOC_call [.r, .r] (d_impl_far (digM l (bsx (gnL l r cv) (prodM l).toNat : Nat)) (digM l j) (by rw [digM_len, digM_len]) (by rw [digM_len]; omega)) ?_
                  by_cases hd : distM l (bsx (gnL l r cv) (prodM l).toNat : Nat) j ≤ r
                  · have hd' : farM (digM l (bsx (gnL l r cv) (prodM l).toNat : Nat)) (digM l j) ≤ r := hd
                    have e := gcB_yes cv hjl hd
                    repeat' (first | simp -implicitDefEqProofs (maxSteps := 1000000) (disch := (first | omega | (simp only [go_sem] <;> omega) | fail)) only [go_sem, ints, bools, mat] | ((first | apply goIf_b | apply goG_b | apply goTG_b | apply goOG_b) <;> intro h <;> ((try simp only [hnq] at h); (try simp only [h]); (try simp only [hnr] at h)) <;> (try (exfalso; omega))))
                    refine go_loop (fun (k : Nat) => ⟨[(1, .d (di r)), (7, .sl 0 0 (prodM l).toNat 8), (8, .sl 1 0 (K ++ [((bsx (gnL l r cv) (prodM l).toNat : Nat) : Int)]).length 1), (9, .sl 2 0 (prodM l).toNat 1), (10, .sl 3 0 (prodM l).toNat 1), (11, .d (di (bsx (gnL l r cv) (prodM l).toNat : Nat))), (14, .d (di j)), (64, .d (di (prodM l).toNat)), (65, .d (di j)), (89, .d (di (prodM l).toNat)), (90, .d (di k))], [some (.dat 8 (digs (digsM l (allW l)))), some (.dat 1 ((K ++ [((bsx (gnL l r cv) (prodM l).toNat : Nat) : Int)]).map di)), some (.dat 1 ((mxG l (gnC l r ((gcB l r cv (bsx (gnL l r cv) (prodM l).toNat) j).set j true)) (gnC l r (gcB l r cv (bsx (gnL l r cv) (prodM l).toNat) j)) (fun w => decide (w < (k : Nat)))).map di)), some (.dat 1 (((gcB l r cv (bsx (gnL l r cv) (prodM l).toNat) j).set j true).map db))]⟩) (fun k => k ≤ (prodM l).toNat) (fun k => (prodM l).toNat - k) 0 ?_ ?_ ?_
                    · rw [gn_none _ r _ fun i _ => decide_eq_false (by omega)]
                      simp -implicitDefEqProofs (maxSteps := 1000000) (disch := (first | omega | (simp only [go_sem] <;> omega) | fail)) only [go_sem, ints, bools, mat]
                      all_goals rfl
                    · exact Nat.zero_le _
                    · intro k hk J4 hJ4
                      by_cases hkl : k < (prodM l).toNat
                      · have hgk := mxG_get (l := l) (gnC l r ((gcB l r cv (bsx (gnL l r cv) (prodM l).toNat) j).set j true)) (gnC l r (gcB l r cv (bsx (gnL l r cv) (prodM l).toNat) j)) (fun w => decide (w < (k : Nat))) hkl
                        rw [if_neg (by simp)] at hgk
                        have hbk := gnC_bnd l r (gcB l r cv (bsx (gnL l r cv) (prodM l).toNat) j) k
                        have hsk := hse k
                        repeat' (first | simp -implicitDefEqProofs (maxSteps := 1000000) (disch := (first | omega | (simp only [go_sem] <;> omega) | fail)) only [go_sem, ints, bools, mat] | ((first | apply goIf_b | apply goG_b | apply goTG_b | apply goOG_b) <;> intro h <;> ((try simp only [hnq] at h); (try simp only [h]); (try simp only [hnr] at h)) <;> (try (exfalso; omega))))
                        rw [ga _ hkl, ga _ hjl]
                        first | refine goC_call [.r, .r] (d_impl_far (digM l k) (digM l j) (by rw [digM_len, digM_len]) (by rw [digM_len]; omega)) ?_ | refine goOC_call [.r, .r] (d_impl_far (digM l k) (digM l j) (by rw [digM_len, digM_len]) (by rw [digM_len]; omega)) ?_
                        by_cases hdk : distM l k j ≤ r
                        · have hdk' : farM (digM l k) (digM l j) ≤ r := hdk
                          rw [if_pos hdk] at hsk
                          repeat' (first | simp -implicitDefEqProofs (maxSteps := 1000000) (disch := (first | omega | (simp only [go_sem] <;> omega) | fail)) only [go_sem, ints, bools, mat, hgk] | ((first | apply goIf_b | apply goG_b | apply goTG_b | apply goOG_b) <;> intro h <;> ((try simp only [hnq] at h); (try simp only [h]); (try simp only [hnr] at h)) <;> (try (exfalso; omega))))
                          refine hJ4 (k + 1) (by omega) (by omega) _ ?_
                          simp -implicitDefEqProofs (maxSteps := 1000000) (disch := (first | omega | (simp only [go_sem] <;> omega) | fail)) only [go_sem, ints, bools, mat, hgk]
                          rw [mxG_set (q := fun w => decide (w < ((k + 1 : Nat) : Int))) hkl hsk.symm fun i _ => by by_cases h1 : i < k <;> by_cases h2 : i = k <;> simp [h1, h2] <;> omega]
                          all_goals rfl
                        · have hdk' : ¬ farM (digM l k) (digM l j) ≤ r := hdk
                          rw [if_neg hdk] at hsk
                          repeat' (first | simp -implicitDefEqProofs (maxSteps := 1000000) (disch := (first | omega | (simp only [go_sem] <;> omega) | fail)) only [go_sem, ints, bools, mat] | ((first | apply goIf_b | apply goG_b | apply goTG_b | apply goOG_b) <;> intro h <;> ((try simp only [hnq] at h); (try simp only [h]); (try simp only [hnr] at h)) <;> (try (exfalso; omega))))
                          refine hJ4 (k + 1) (by omega) (by omega) _ ?_
                          have ee : mxG l (gnC l r ((gcB l r cv (bsx (gnL l r cv) (prodM l).toNat) j).set j true)) (gnC l r (gcB l r cv (bsx (gnL l r cv) (prodM l).toNat) j)) (fun w => decide (w < (k : Nat))) = mxG l (gnC l r ((gcB l r cv (bsx (gnL l r cv) (prodM l).toNat) j).set j true)) (gnC l r (gcB l r cv (bsx (gnL l r cv) (prodM l).toNat) j)) (fun w => decide (w < (k + 1 : Nat))) := mxG_ext fun i _ => by
                            by_cases h1 : i < k
                            · rw [if_pos (decide_eq_true (by omega)), if_pos (decide_eq_true (by omega))]
                            · by_cases h2 : i = k
                              · subst h2; rw [if_neg (by simp), if_pos (decide_eq_true (by omega)), hsk]; omega
                              · rw [if_neg (by simp; omega), if_neg (by simp; omega)]
                          simp -implicitDefEqProofs (maxSteps := 1000000) (disch := (first | omega | (simp only [go_sem] <;> omega) | fail)) only [go_sem, ints, bools, mat, ee]
                          all_goals rfl
                      · have hke : k = (prodM l).toNat := by omega
                        subst hke
                        repeat' (first | simp -implicitDefEqProofs (maxSteps := 1000000) (disch := (first | omega | (simp only [go_sem] <;> omega) | fail)) only [go_sem, ints, bools, mat] | ((first | apply goIf_b | apply goG_b | apply goTG_b | apply goOG_b) <;> intro h <;> ((try simp only [hnq] at h); (try simp only [h]); (try simp only [hnr] at h)) <;> (try (exfalso; omega))))
                        refine hJ3 (j + 1) (by omega) (by omega) _ ?_
                        rw [gn_full r _ _ fun i hi => .inl (decide_eq_true (by omega))]
                        simp -implicitDefEqProofs (maxSteps := 1000000) (disch := (first | omega | (simp only [go_sem] <;> omega) | fail)) only [go_sem, ints, bools, mat, e]
                        all_goals rfl
                  · have hd' : ¬ farM (digM l (bsx (gnL l r cv) (prodM l).toNat : Nat)) (digM l j) ≤ r := hd
                    have e := gcB_no cv hjl hd
                    repeat' (first | simp -implicitDefEqProofs (maxSteps := 1000000) (disch := (first | omega | (simp only [go_sem] <;> omega) | fail)) only [go_sem, ints, bools, mat] | ((first | apply goIf_b | apply goG_b | apply goTG_b | apply goOG_b) <;> intro h <;> ((try simp only [hnq] at h); (try simp only [h]); (try simp only [hnr] at h)) <;> (try (exfalso; omega))))
                    refine hJ3 (j + 1) (by omega) (by omega) _ ?_
                    simp -implicitDefEqProofs (maxSteps := 1000000) (disch := (first | omega | (simp only [go_sem] <;> omega) | fail)) only [go_sem, ints, bools, mat, e]
                    all_goals rfl
              · have hje : j = (prodM l).toNat := by omega
                subst hje
                repeat' (first | simp -implicitDefEqProofs (maxSteps := 1000000) (disch := (first | omega | (simp only [go_sem] <;> omega) | fail)) only [go_sem, ints, bools, mat] | ((first | apply goIf_b | apply goG_b | apply goTG_b | apply goOG_b) <;> intro h <;> ((try simp only [hnq] at h); (try simp only [h]); (try simp only [hnr] at h)) <;> (try (exfalso; omega))))
                refine hJ (gcL cv (ballM l (bsx (gnL l r cv) (prodM l).toNat : Nat) r), K ++ [((bsx (gnL l r cv) (prodM l).toNat : Nat) : Int)]) ⟨gn, ?_⟩ ?_ _ ?_
                · rw [← gX]; congr 1; simp
                · dsimp only; simp; omega
                · simp -implicitDefEqProofs (maxSteps := 1000000) (disch := (first | omega | (simp only [go_sem] <;> omega) | fail)) only [go_sem, ints, bools, mat, gcB_all]
                  all_goals rfl
  · rw [lstR_no h]
    generalize rcM l r = b at h
    repeat' (first | simp -implicitDefEqProofs (maxSteps := 1000000) (disch := (first | omega | (simp only [go_sem] <;> omega) | fail)) only [go_sem, ints, bools, mat] | ((first | apply goIf_b | apply goG_b | apply goTG_b | apply goOG_b) <;> intro h <;> ((try simp only [hnq] at h); (try simp only [h]); (try simp only [hnr] at h)) <;> (try (exfalso; omega))))
def nB (cv : List Bool) : List Bool := cv.map Bool.not
@[go_sem] theorem nB_len (cv : List Bool) : (nB cv).length = cv.length := by simp [nB]
theorem nB_get {cv : List Bool} {i : Nat} (hi : i < cv.length) : (nB cv).getD i false = !(cv.getD i false) := by
  simp [nB, hi]
theorem nB_set (cv : List Bool) (i : Nat) : (nB cv).set i false = nB (cv.set i true) := by
  unfold nB; rw [List.map_set]; rfl
theorem nB_rep (n : Nat) : List.replicate n true = nB (List.replicate n false) := by simp [nB]
def gcK (l : List Int) (r : Int) (cv : List Bool) (b k : Nat) : List Bool := gcL cv ((ballM l b r).take k)
@[go_sem] theorem gcK_len (l : List Int) (r : Int) (cv : List Bool) (b k : Nat) : (gcK l r cv b k).length = cv.length := gcL_len _ _
theorem gcK_zero (l : List Int) (r : Int) (cv : List Bool) (b : Nat) : gcK l r cv b 0 = cv := rfl
theorem gcK_all (l : List Int) (r : Int) (cv : List Bool) (b : Nat) : gcK l r cv b (ballM l b r).length = gcL cv (ballM l b r) := by
  unfold gcK; rw [List.take_length]
theorem gcK_step {l : List Int} {r : Int} (cv : List Bool) {b k : Nat} (hk : k < (ballM l b r).length) : gcK l r cv b (k + 1) = (gcK l r cv b k).set ((ballM l b r).getD k 0).toNat true := by
  unfold gcK; rw [take_one _ hk, gcL_snoc]
theorem setR {α : Type} (a b : α) {w n : Nat} (h : w < n) : (List.replicate w a ++ List.replicate (n - w) b).set w a = List.replicate (w + 1) a ++ List.replicate (n - (w + 1)) b := by
  rw [List.set_append, if_neg (by simp)]
  simp only [List.length_replicate, Nat.sub_self]
  obtain ⟨m, hm⟩ : ∃ m, n - w = m + 1 := ⟨n - w - 1, by omega⟩
  rw [hm, List.replicate_succ, List.set_cons_zero, List.replicate_succ', show n - (w + 1) = m by omega, List.append_assoc]
  rfl
theorem nodup_take {L : List Int} (h : L.Nodup) {j : Nat} (hj : j < L.length) : L.getD j 0 ∉ L.take j := fun hm => by
  obtain ⟨i, hi, e⟩ := List.mem_iff_getElem.1 hm
  rw [List.length_take] at hi
  rw [List.getElem_take] at e
  have := List.pairwise_iff_getElem.1 h i j (by omega) hj (by omega)
  apply this
  rw [e, List.getD_eq_getElem?_getD, List.getElem?_eq_getElem hj, Option.getD_some]
theorem d_spec_GreedyCode (l : List Int) (r : Int) (hl : l.length < 1048577) : Den PA f_spec_GreedyCode [.d (.agg [ints l]), .d (di r)] [.any, .any] (lstR (rcM l r) (grM l r)) := by
  refine den_go [] l_spec_GreedyCode ?_
  repeat' (first | simp -implicitDefEqProofs (maxSteps := 1000000) (disch := (first | omega | (simp only [go_sem] <;> omega) | fail)) only [go_sem, ints, bools, mat, c_spec_GreedyCode] | ((first | apply goIf_b | apply goG_b | apply goTG_b | apply goOG_b) <;> intro h <;> ((try simp only [hnq] at h); (try simp only [h]); (try simp only [hnr] at h)) <;> (try (exfalso; omega))))
  first | refine goC_call [.r] (d_spec_l01Is l hl) ?_ | refine goOC_call [.r] (d_spec_l01Is l hl) ?_
  by_cases hs : isSpaceM l = true
  · rw [hs]
    repeat' (first | simp -implicitDefEqProofs (maxSteps := 1000000) (disch := (first | omega | (simp only [go_sem] <;> omega) | fail)) only [go_sem, ints, bools, mat] | ((first | apply goIf_b | apply goG_b | apply goTG_b | apply goOG_b) <;> intro h <;> ((try simp only [hnq] at h); (try simp only [h]); (try simp only [hnr] at h)) <;> (try (exfalso; omega))))
    first | refine goC_call [.r, .r, .r] (d_spec_l01In r 0 8) ?_ | refine goOC_call [.r, .r, .r] (d_spec_l01In r 0 8) ?_
    by_cases hr : 0 ≤ r ∧ r ≤ 8
    · obtain ⟨hr0, hr8⟩ := hr
      have h : rcM l r = 0 := by unfold rcM; rw [if_pos hs, if_pos ⟨hr0, hr8⟩]
      rw [lstR_ok h]
      have hp1 := prodM_pos (isSpaceM_szs hs)
      have hpr := isSpaceM_prod hs
      have hn8 := isSpaceM_n hs
      have hbz := bz_pos hs hr0
      have hN : ((prodM l).toNat : Int) = prodM l := by omega
      obtain ⟨X, hX⟩ : ∃ X, X = grd l r ((prodM l).toNat + 1) (List.replicate (prodM l).toNat false) [] := ⟨_, rfl⟩
      have hgr : grM l r = setI X := by rw [hX]; rfl
      repeat' (first | simp -implicitDefEqProofs (maxSteps := 1000000) (disch := (first | omega | (simp only [go_sem] <;> omega) | fail)) only [go_sem, ints, bools, mat] | ((first | apply goIf_b | apply goG_b | apply goTG_b | apply goOG_b) <;> intro h <;> ((try simp only [hnq] at h); (try simp only [h]); (try simp only [hnr] at h)) <;> (try (exfalso; omega))))
      first | refine goC_call [.r] (d_spec_l01N l (by omega) (isSpaceM_q hs)) ?_ | refine goOC_call [.r] (d_spec_l01N l (by omega) (isSpaceM_q hs)) ?_
      rw [← hN]
      repeat' (first | simp -implicitDefEqProofs (maxSteps := 1000000) (disch := (first | omega | (simp only [go_sem] <;> omega) | fail)) only [go_sem, ints, bools, mat] | ((first | apply goIf_b | apply goG_b | apply goTG_b | apply goOG_b) <;> intro h <;> ((try simp only [hnq] at h); (try simp only [h]); (try simp only [hnr] at h)) <;> (try (exfalso; omega))))
      rw [goS_two]
      refine ⟨?_, ?_⟩
      all_goals
        repeat' (first | simp -implicitDefEqProofs (maxSteps := 1000000) (disch := (first | omega | (simp only [go_sem] <;> omega) | fail)) only [go_sem, ints, bools, mat] | ((first | apply goIf_b | apply goG_b | apply goTG_b | apply goOG_b) <;> intro h <;> ((try simp only [hnq] at h); (try simp only [h]); (try simp only [hnr] at h)) <;> (try (exfalso; omega))))
        refine go_loop (fun (w : Nat) => ⟨[(1, .d (di r)), (2, .ref 0 0), (6, .d (di (prodM l).toNat)), (7, .sl 1 0 0 1), (8, .sl 2 0 (prodM l).toNat 1), (9, .sl 3 0 (prodM l).toNat 1), (10, .d (di w))], [some (.var [ints l]), some (.dat 1 []), some (.dat 1 ((List.replicate w true ++ List.replicate ((prodM l).toNat - w) false).map db)), some (.dat 1 ((List.replicate w (bzM l r) ++ List.replicate ((prodM l).toNat - w) 0).map di))]⟩) (fun w => w ≤ (prodM l).toNat) (fun w => (prodM l).toNat - w) 0 ?_ ?_ ?_
        · simp -implicitDefEqProofs (maxSteps := 1000000) (disch := (first | omega | (simp only [go_sem] <;> omega) | fail)) only [go_sem, ints, bools, mat]
          simp
        · exact Nat.zero_le _
        · intro w hw J0 hJ0
          by_cases hwl : w < (prodM l).toNat
          · have e1 := setR true false hwl
            have e2 := setR (bzM l r) 0 hwl
            have f1 : (List.replicate w true ++ List.replicate ((prodM l).toNat - w) false).length = (prodM l).toNat := by simp; omega
            have f2 : (List.replicate w (bzM l r) ++ List.replicate ((prodM l).toNat - w) 0).length = (prodM l).toNat := by simp; omega
            repeat' (first | simp -implicitDefEqProofs (maxSteps := 1000000) (disch := (first | omega | (simp only [go_sem] <;> omega) | fail)) only [go_sem, ints, bools, mat, f1, f2] | ((first | apply goIf_b | apply goG_b | apply goTG_b | apply goOG_b) <;> intro h <;> ((try simp only [hnq] at h); (try simp only [h]); (try simp only [hnr] at h)) <;> (try (exfalso; omega))))
            first | refine goC_call [.r, .r] (d_spec_l01Size l hs r hr0 (by omega)) ?_ | refine goOC_call [.r, .r] (d_spec_l01Size l hs r hr0 (by omega)) ?_
            repeat' (first | simp -implicitDefEqProofs (maxSteps := 1000000) (disch := (first | omega | (simp only [go_sem] <;> omega) | fail)) only [go_sem, ints, bools, mat, f1, f2] | ((first | apply goIf_b | apply goG_b | apply goTG_b | apply goOG_b) <;> intro h <;> ((try simp only [hnq] at h); (try simp only [h]); (try simp only [hnr] at h)) <;> (try (exfalso; omega))))
            refine hJ0 (w + 1) (by omega) (by omega) _ ?_
            simp -implicitDefEqProofs (maxSteps := 1000000) (disch := (first | omega | (simp only [go_sem] <;> omega) | fail)) only [go_sem, ints, bools, mat, e1, e2, f1, f2]
            all_goals rfl
          · have hwe : w = (prodM l).toNat := by omega
            subst hwe
            have e1 : List.replicate (prodM l).toNat true ++ List.replicate ((prodM l).toNat - (prodM l).toNat) false = nB (List.replicate (prodM l).toNat false) := by rw [Nat.sub_self, ← nB_rep]; simp
            have e2 : List.replicate (prodM l).toNat (bzM l r) ++ List.replicate ((prodM l).toNat - (prodM l).toNat) 0 = gnL l r (List.replicate (prodM l).toNat false) := by rw [Nat.sub_self, ← gn_first hs hr0]; simp
            rw [e1, e2]
            repeat' (first | simp -implicitDefEqProofs (maxSteps := 1000000) (disch := (first | omega | (simp only [go_sem] <;> omega) | fail)) only [go_sem, ints, bools, mat] | ((first | apply goIf_b | apply goG_b | apply goTG_b | apply goOG_b) <;> intro h <;> ((try simp only [hnq] at h); (try simp only [h]); (try simp only [hnr] at h)) <;> (try (exfalso; omega))))
            refine go_loop (fun (p : List Bool × List Int) => ⟨[(1, .d (di r)), (2, .ref 0 0), (6, .d (di (prodM l).toNat)), (7, .sl 1 0 (setI (p.2)).length 1), (8, .sl 2 0 (prodM l).toNat 1), (9, .sl 3 0 (prodM l).toNat 1)], [some (.var [ints l]), some (.dat 1 ((setI (p.2)).map di)), some (.dat 1 ((nB (p.1)).map db)), some (.dat 1 ((gnL l r p.1).map di))]⟩) (fun p => GrJ l r p.1 p.2 ∧ grd l r ((prodM l).toNat + 1 - p.2.length) p.1 p.2 = X) (fun p => (prodM l).toNat + 1 - p.2.length) (List.replicate (prodM l).toNat false, []) ?_ ?_ ?_
            · have hs0 : setI [] = [] := setI_self (by simp [Asc])
              simp -implicitDefEqProofs (maxSteps := 1000000) (disch := (first | omega | (simp only [go_sem] <;> omega) | fail)) only [go_sem, ints, bools, mat, hs0]
            · exact ⟨GrJ.start r, hX.symm⟩
            · rintro ⟨cv, K⟩ ⟨g, gX⟩ J hJ
              dsimp only at g gX ⊢
              have hKl := g.small hs
              have hcl := g.len
              have hsl : (setI K).length ≤ (prodM l).toNat := nodup_small hs (fun u hu => g.inc u ((setI_mem _ _).1 hu)) (asc_nodup (setI_asc _))
              rw [show (prodM l).toNat + 1 - K.length = ((prodM l).toNat - K.length) + 1 by omega, grd] at gX
              have hb : bsx (gnL l r cv) (prodM l).toNat < (prodM l).toNat := bst_lt hs r cv
              repeat' (first | simp -implicitDefEqProofs (maxSteps := 1000000) (disch := (first | omega | (simp only [go_sem] <;> omega) | fail)) only [go_sem, ints, bools, mat] | ((first | apply goIf_b | apply goG_b | apply goTG_b | apply goOG_b) <;> intro h <;> ((try simp only [hnq] at h); (try simp only [h]); (try simp only [hnr] at h)) <;> (try (exfalso; omega))))
              refine go_loop (fun (j : Nat) => ⟨[(1, .d (di r)), (2, .ref 0 0), (6, .d (di (prodM l).toNat)), (7, .sl 1 0 (setI (K)).length 1), (8, .sl 2 0 (prodM l).toNat 1), (9, .sl 3 0 (prodM l).toNat 1), (11, .d (di (bsx (gnL l r cv) j : Nat))), (12, .d (di j))], [some (.var [ints l]), some (.dat 1 ((setI (K)).map di)), some (.dat 1 ((nB (cv)).map db)), some (.dat 1 ((gnL l r cv).map di))]⟩) (fun j => 1 ≤ j ∧ j ≤ (prodM l).toNat) (fun j => (prodM l).toNat - j) 1 ?_ ?_ ?_
              · simp -implicitDefEqProofs (maxSteps := 1000000) (disch := (first | omega | (simp only [go_sem] <;> omega) | fail)) only [go_sem, ints, bools, mat, bsx_one]
                all_goals rfl
              · omega
              · rintro j ⟨hj1, hj⟩ J2 hJ2
                have hbj := bsx_lt (gnL l r cv) j
                by_cases hjl : j < (prodM l).toNat
                · by_cases hgt : (gnL l r cv).getD (bsx (gnL l r cv) j) 0 < (gnL l r cv).getD j 0
                  · have e : bsx (gnL l r cv) (j + 1) = j := by rw [bsx, if_pos hgt]
                    repeat' (first | simp -implicitDefEqProofs (maxSteps := 1000000) (disch := (first | omega | (simp only [go_sem] <;> omega) | fail)) only [go_sem, ints, bools, mat] | ((first | apply goIf_b | apply goG_b | apply goTG_b | apply goOG_b) <;> intro h <;> ((try simp only [hnq] at h); (try simp only [h]); (try simp only [hnr] at h)) <;> (try (exfalso; omega))))
                    refine hJ2 (j + 1) (by omega) (by omega) _ ?_
                    simp -implicitDefEqProofs (maxSteps := 1000000) (disch := (first | omega | (simp only [go_sem] <;> omega) | fail)) only [go_sem, ints, bools, mat, e]
                    all_goals rfl
                  · have e : bsx (gnL l r cv) (j + 1) = bsx (gnL l r cv) j := by rw [bsx, if_neg hgt]
                    repeat' (first | simp -implicitDefEqProofs (maxSteps := 1000000) (disch := (first | omega | (simp only [go_sem] <;> omega) | fail)) only [go_sem, ints, bools, mat] | ((first | apply goIf_b | apply goG_b | apply goTG_b | apply goOG_b) <;> intro h <;> ((try simp only [hnq] at h); (try simp only [h]); (try simp only [hnr] at h)) <;> (try (exfalso; omega))))
                    refine hJ2 (j + 1) (by omega) (by omega) _ ?_
                    simp -implicitDefEqProofs (maxSteps := 1000000) (disch := (first | omega | (simp only [go_sem] <;> omega) | fail)) only [go_sem, ints, bools, mat, e]
                    all_goals rfl
                · have hje : j = (prodM l).toNat := by omega
                  subst hje
                  by_cases hz : (gnL l r cv).getD (bsx (gnL l r cv) (prodM l).toNat) 0 = 0
                  · rw [if_pos hz] at gX
                    repeat' (first | simp -implicitDefEqProofs (maxSteps := 1000000) (disch := (first | omega | (simp only [go_sem] <;> omega) | fail)) only [go_sem, ints, bools, mat] | ((first | apply goIf_b | apply goG_b | apply goTG_b | apply goOG_b) <;> intro h <;> ((try simp only [hnq] at h); (try simp only [h]); (try simp only [hnr] at h)) <;> (try (exfalso; omega))))
                    rw [hgr, ← gX]
                  · rw [if_neg hz] at gX
                    have gn := g.next hs hz
                    have hbm := fun u => ballM_mem l ((bsx (gnL l r cv) (prodM l).toNat : Nat) : Int) r u
                    have hbln := ball_len hs ((bsx (gnL l r cv) (prodM l).toNat : Nat) : Int) hr0
                    repeat' (first | simp -implicitDefEqProofs (maxSteps := 1000000) (disch := (first | omega | (simp only [go_sem] <;> omega) | fail)) only [go_sem, ints, bools, mat] | ((first | apply goIf_b | apply goG_b | apply goTG_b | apply goOG_b) <;> intro h <;> ((try simp only [hnq] at h); (try simp only [h]); (try simp only [hnr] at h)) <;> (try (exfalso; omega))))
                    first | refine goC_call [.o, .r] (d_spec_l01Put (setI K) ((bsx (gnL l r cv) (prodM l).toNat : Nat) : Int) (by omega)) ?_ | refine goOC_call [.o, .r] (d_spec_l01Put (setI K) ((bsx (gnL l r cv) (prodM l).toNat : Nat) : Int) (by omega)) ?_
                    rw [putI_setI]
                    repeat' (first | simp -implicitDefEqProofs (maxSteps := 1000000) (disch := (first | omega | (simp only [go_sem] <;> omega) | fail)) only [go_sem, ints, bools, mat] | ((first | apply goIf_b | apply goG_b | apply goTG_b | apply goOG_b) <;> intro h <;> ((try simp only [hnq] at h); (try simp only [h]); (try simp only [hnr] at h)) <;> (try (exfalso; omega))))
                    first | refine goC_call [.r, .r, .r] (d_spec_l01Ball l hs ((bsx (gnL l r cv) (prodM l).toNat : Nat) : Int) r (by omega) (by omega)) ?_ | refine goOC_call [.r, .r, .r] (d_spec_l01Ball l hs ((bsx (gnL l r cv) (prodM l).toNat : Nat) : Int) r (by omega) (by omega)) ?_
                    repeat' (first | simp -implicitDefEqProofs (maxSteps := 1000000) (disch := (first | omega | (simp only [go_sem] <;> omega) | fail)) only [go_sem, ints, bools, mat] | ((first | apply goIf_b | apply goG_b | apply goTG_b | apply goOG_b) <;> intro h <;> ((try simp only [hnq] at h); (try simp only [h]); (try simp only [hnr] at h)) <;> (try (exfalso; omega))))
                    refine go_loop (fun (k : Nat) => ⟨[(1, .d (di r)), (2, .ref 0 0), (6, .d (di (prodM l).toNat)), (7, .sl 1 0 (setI (K ++ [((bsx (gnL l r cv) (prodM l).toNat : Nat) : Int)])).length 1), (8, .sl 2 0 (prodM l).toNat 1), (9, .sl 3 0 (prodM l).toNat 1), (13, .sl 4 0 (ballM l ((bsx (gnL l r cv) (prodM l).toNat : Nat) : Int) r).length 1), (14, .d (di k))], [some (.var [ints l]), some (.dat 1 ((setI (K ++ [((bsx (gnL l r cv) (prodM l).toNat : Nat) : Int)])).map di)), some (.dat 1 ((nB (gcK l r cv (bsx (gnL l r cv) (prodM l).toNat) (k))).map db)), some (.dat 1 ((gnL l r (gcK l r cv (bsx (gnL l r cv) (prodM l).toNat) (k))).map di)), some (.dat 1 ((ballM l ((bsx (gnL l r cv) (prodM l).toNat : Nat) : Int) r).map di))]⟩) (fun k => k ≤ (ballM l ((bsx (gnL l r cv) (prodM l).toNat : Nat) : Int) r).length) (fun k => (ballM l ((bsx (gnL l r cv) (prodM l).toNat : Nat) : Int) r).length - k) 0 ?_ ?_ ?_
                    · simp -implicitDefEqProofs (maxSteps := 1000000) (disch := (first | omega | (simp only [go_sem] <;> omega) | fail)) only [go_sem, ints, bools, mat, gcK_zero]
                      all_goals rfl
                    · exact Nat.zero_le _
                    · intro k hk J3 hJ3
                      have hck := gcK_len l r cv (bsx (gnL l r cv) (prodM l).toNat) k
                      by_cases hkl : k < (ballM l ((bsx (gnL l r cv) (prodM l).toNat : Nat) : Int) r).length
                      · have hv := (hbm _).1 (getD_mem hkl)
                        have hst := gcK_step cv hkl
                        generalize hve : (ballM l ((bsx (gnL l r cv) (prodM l).toNat : Nat) : Int) r).getD k 0 = v at hv hst
                        have hvt : ((v.toNat : Nat) : Int) = v := by omega
                        have hnb := nB_get (cv := gcK l r cv (bsx (gnL l r cv) (prodM l).toNat) (k)) (i := v.toNat) (by omega)
                        cases hc : (gcK l r cv (bsx (gnL l r cv) (prodM l).toNat) (k)).getD v.toNat false with
                        | true =>
                          rw [hc] at hnb
                          rw [setB_same (by omega) hc] at hst
                          repeat' (first | simp -implicitDefEqProofs (maxSteps := 1000000) (disch := (first | omega | (simp only [go_sem] <;> omega) | fail)) only [go_sem, ints, bools, mat, hve, hnb, Bool.not_true] | ((first | apply goIf_b | apply goG_b | apply goTG_b | apply goOG_b) <;> intro h <;> ((try simp only [hnq] at h); (try simp only [h]); (try simp only [hnr] at h)) <;> (try (exfalso; omega))))
                          refine hJ3 (k + 1) (by omega) (by omega) _ ?_
                          simp -implicitDefEqProofs (maxSteps := 1000000) (disch := (first | omega | (simp only [go_sem] <;> omega) | fail)) only [go_sem, ints, bools, mat, hst]
                          all_goals rfl
                        | false =>
                          rw [hc] at hnb
                          have hse := gnC_set (r := r) (hck.trans hcl) (u := v.toNat) (by omega) hc
                          have hns := nB_set (gcK l r cv (bsx (gnL l r cv) (prodM l).toNat) (k)) v.toNat
                          have hnm := fun u => ballM_mem l v r u
                          have hnd := ballM_nodup l v r
                          have hnl := ball_len hs v hr0
                          repeat' (first | simp -implicitDefEqProofs (maxSteps := 1000000) (disch := (first | omega | (simp only [go_sem] <;> omega) | fail)) only [go_sem, ints, bools, mat, hve, hnb, Bool.not_false] | ((first | apply goIf_b | apply goG_b | apply goTG_b | apply goOG_b) <;> intro h <;> ((try simp only [hnq] at h); (try simp only [h]); (try simp only [hnr] at h)) <;> (try (exfalso; omega))))
                          first | refine goC_call [.r, .r, .r] (d_spec_l01Ball l hs v r (by omega) (by omega)) ?_ | refine goOC_call [.r, .r, .r] (d_spec_l01Ball l hs v r (by omega) (by omega)) ?_
                          repeat' (first | simp -implicitDefEqProofs (maxSteps := 1000000) (disch := (first | omega | (simp only [go_sem] <;> omega) | fail)) only [go_sem, ints, bools, mat, hns] | ((first | apply goIf_b | apply goG_b | apply goTG_b | apply goOG_b) <;> intro h <;> ((try simp only [hnq] at h); (try simp only [h]); (try simp only [hnr] at h)) <;> (try (exfalso; omega))))
                          refine go_loop (fun (j : Nat) => ⟨[(1, .d (di r)), (2, .ref 0 0), (6, .d (di (prodM l).toNat)), (7, .sl 1 0 (setI (K ++ [((bsx (gnL l r cv) (prodM l).toNat : Nat) : Int)])).length 1), (8, .sl 2 0 (prodM l).toNat 1), (9, .sl 3 0 (prodM l).toNat 1), (13, .sl 4 0 (ballM l ((bsx (gnL l r cv) (prodM l).toNat : Nat) : Int) r).length 1), (14, .d (di k)), (15, .sl 5 0 (ballM l v r).length 1), (16, .d (di j))], [some (.var [ints l]), some (.dat 1 ((setI (K ++ [((bsx (gnL l r cv) (prodM l).toNat : Nat) : Int)])).map di)), some (.dat 1 ((nB ((gcK l r cv (bsx (gnL l r cv) (prodM l).toNat) (k)).set v.toNat true)).map db)), some (.dat 1 ((mxG l (gnC l r ((gcK l r cv (bsx (gnL l r cv) (prodM l).toNat) (k)).set v.toNat true)) (gnC l r (gcK l r cv (bsx (gnL l r cv) (prodM l).toNat) (k))) (fun w => decide (w ∈ (ballM l v r).take (j)))).map di)), some (.dat 1 ((ballM l ((bsx (gnL l r cv) (prodM l).toNat : Nat) : Int) r).map di)), some (.dat 1 ((ballM l v r).map di))]⟩) (fun j => j ≤ (ballM l v r).length) (fun j => (ballM l v r).length - j) 0 ?_ ?_ ?_
                          · rw [gn_none _ r _ fun i _ => decide_eq_false (by simp)]
                            simp -implicitDefEqProofs (maxSteps := 1000000) (disch := (first | omega | (simp only [go_sem] <;> omega) | fail)) only [go_sem, ints, bools, mat]
                            all_goals rfl
                          · exact Nat.zero_le _
                          · intro j hj J4 hJ4
                            by_cases hjl : j < (ballM l v r).length
                            · have hu := (hnm _).1 (getD_mem hjl)
                              have hnt := nodup_take hnd hjl
                              have hts := take_one (ballM l v r) hjl
                              generalize hue : (ballM l v r).getD j 0 = u at hu hnt hts
                              have hut : ((u.toNat : Nat) : Int) = u := by omega
                              have hgk := mxG_get (l := l) (gnC l r ((gcK l r cv (bsx (gnL l r cv) (prodM l).toNat) (k)).set v.toNat true)) (gnC l r (gcK l r cv (bsx (gnL l r cv) (prodM l).toNat) (k))) (fun w => decide (w ∈ (ballM l v r).take j)) (j := u.toNat) (by omega)
                              rw [hut, if_neg (by simpa using hnt)] at hgk
                              have hbk := gnC_bnd l r (gcK l r cv (bsx (gnL l r cv) (prodM l).toNat) (k)) u
                              have hsk := hse u
                              rw [hvt, if_pos hu.2] at hsk
                              have hms := mxG_set (l := l) (A := gnC l r ((gcK l r cv (bsx (gnL l r cv) (prodM l).toNat) (k)).set v.toNat true)) (B := gnC l r (gcK l r cv (bsx (gnL l r cv) (prodM l).toNat) (k))) (p := fun w => decide (w ∈ (ballM l v r).take j)) (q := fun w => decide (w ∈ (ballM l v r).take (j + 1))) (j := u.toNat) (v := gnC l r (gcK l r cv (bsx (gnL l r cv) (prodM l).toNat) (k)) u - 1) (by omega) (by rw [hut, hsk]) fun i _ => by
                                rw [hts, Bool.eq_iff_iff]
                                simp only [decide_eq_true_eq, List.mem_append, List.mem_singleton, Bool.or_eq_true]
                                constructor
                                · rintro (h | h)
                                  · exact .inl h
                                  · exact .inr (by omega)
                                · rintro (h | h)
                                  · exact .inl h
                                  · exact .inr (by omega)
                              repeat' (first | simp -implicitDefEqProofs (maxSteps := 1000000) (disch := (first | omega | (simp only [go_sem] <;> omega) | fail)) only [go_sem, ints, bools, mat, hue, hgk] | ((first | apply goIf_b | apply goG_b | apply goTG_b | apply goOG_b) <;> intro h <;> ((try simp only [hnq] at h); (try simp only [h]); (try simp only [hnr] at h)) <;> (try (exfalso; omega))))
                              refine hJ4 (j + 1) (by omega) (by omega) _ ?_
                              simp -implicitDefEqProofs (maxSteps := 1000000) (disch := (first | omega | (simp only [go_sem] <;> omega) | fail)) only [go_sem, ints, bools, mat, hgk, hms]
                              all_goals rfl
                            · have hje : j = (ballM l v r).length := by omega
                              subst hje
                              repeat' (first | simp -implicitDefEqProofs (maxSteps := 1000000) (disch := (first | omega | (simp only [go_sem] <;> omega) | fail)) only [go_sem, ints, bools, mat] | ((first | apply goIf_b | apply goG_b | apply goTG_b | apply goOG_b) <;> intro h <;> ((try simp only [hnq] at h); (try simp only [h]); (try simp only [hnr] at h)) <;> (try (exfalso; omega))))
                              refine hJ3 (k + 1) (by omega) (by omega) _ ?_
                              rw [gn_full r _ _ fun i hi => by
                                by_cases hd : distM l i v ≤ r
                                · exact .inl (decide_eq_true ((hnm _).2 ⟨by omega, hd⟩))
                                · refine .inr ?_
                                  rw [hse i, hvt, if_neg hd, Int.sub_zero]]
                              simp -implicitDefEqProofs (maxSteps := 1000000) (disch := (first | omega | (simp only [go_sem] <;> omega) | fail)) only [go_sem, ints, bools, mat, hst]
                              all_goals rfl
                      · have hke : k = (ballM l ((bsx (gnL l r cv) (prodM l).toNat : Nat) : Int) r).length := by omega
                        subst hke
                        repeat' (first | simp -implicitDefEqProofs (maxSteps := 1000000) (disch := (first | omega | (simp only [go_sem] <;> omega) | fail)) only [go_sem, ints, bools, mat] | ((first | apply goIf_b | apply goG_b | apply goTG_b | apply goOG_b) <;> intro h <;> ((try simp only [hnq] at h); (try simp only [h]); (try simp only [hnr] at h)) <;> (try (exfalso; omega))))
                        refine hJ (gcL cv (ballM l ((bsx (gnL l r cv) (prodM l).toNat : Nat) : Int) r), K ++ [((bsx (gnL l r cv) (prodM l).toNat : Nat) : Int)]) ⟨gn, ?_⟩ ?_ _ ?_
                        · rw [← gX]; congr 1; simp
                        · dsimp only; simp; omega
                        · simp -implicitDefEqProofs (maxSteps := 1000000) (disch := (first | omega | (simp only [go_sem] <;> omega) | fail)) only [go_sem, ints, bools, mat, gcK_all]
                          all_goals rfl
    · have h : rcM l r = 2 := by unfold rcM; rw [if_pos hs, if_neg hr]
      rw [lstR_no (by rw [h]; decide), h]
      repeat' (first | simp -implicitDefEqProofs (maxSteps := 1000000) (disch := (first | omega | (simp only [go_sem] <;> omega) | fail)) only [go_sem, ints, bools, mat] | ((first | apply goIf_b | apply goG_b | apply goTG_b | apply goOG_b) <;> intro h <;> ((try simp only [hnq] at h); (try simp only [h]); (try simp only [hnr] at h)) <;> (try (exfalso; omega))))
  · have h : rcM l r = 1 := by unfold rcM; rw [if_neg hs]
    rw [lstR_no (by rw [h]; decide), h, Bool.eq_false_iff.2 hs]
    repeat' (first | simp -implicitDefEqProofs (maxSteps := 1000000) (disch := (first | omega | (simp only [go_sem] <;> omega) | fail)) only [go_sem, ints, bools, mat] | ((first | apply goIf_b | apply goG_b | apply goTG_b | apply goOG_b) <;> intro h <;> ((try simp only [hnq] at h); (try simp only [h]); (try simp only [hnr] at h)) <;> (try (exfalso; omega))))
theorem ex_with2 {cd : D} {l : List Int} (H : SrcH cd l) : ∃ (X : D) (o c : List Int) (r : Int), drL X o ∧ c.length < 1048577 ∧ in64 r ∧ Den PA f_spec_l02With [.d cd] [.any] (.tup [.d (.agg [X]), .own 1 (c.map di), .d (di r)]) := by
  obtain ⟨s0, hs0, d0⟩ := ex_from H
  obtain ⟨x, s1, hs1, hx, d1⟩ := ex_small H hs0
  have hd1 := d1.le .frzA
  have hn := isSpaceM_n hx
  have hpr := isSpaceM_prod hx
  obtain ⟨c0, s2, hs2, hc0, hcx, d2⟩ := ex_drawCode H hs1 hx
  have hd2 := d2.le .frz
  obtain ⟨n, s3, hs3, hn3, d3⟩ := ex_near H hs2 (most := 8) (by omega) (by omega)
  obtain ⟨r, s4, hs4, hr, d4⟩ := ex_pik H hs3 [0, 1, 1, 1, 2, n] (by simp) (by simp)
  have hri : in64 r := by
    simp only [List.mem_cons, List.mem_nil_iff, or_false] at hr
    unfold in64 at *
    omega
  obtain ⟨v, s5, hs5, v1, v2, d5⟩ := ex_nxt H hs4 (q := 4) (by omega)
  have hrb := hri
  unfold in64 at hrb
  by_cases hv : v = 0
  · subst hv
    have hd9 : 0 ≤ (if (if 8 < r then (8 : Int) else r) < 1 then 1 else if 8 < r then 8 else r) ∧ (if (if 8 < r then (8 : Int) else r) < 1 then 1 else if 8 < r then 8 else r) ≤ 8 := by
      repeat' split
      all_goals omega
    generalize hdm : (if (if 8 < r then (8 : Int) else r) < 1 then 1 else if 8 < r then 8 else r) = dm at *
    have hg := d_spec_GreedyCode x dm (by omega)
    have hbc : rcM x dm = 0 := by unfold rcM; rw [if_pos hx, if_pos hd9]
    rw [lstR_ok hbc] at hg
    obtain ⟨g1, g2, _⟩ := grM_ok hx hd9.1
    have gi := inC_in64 hx (inC_code g1)
    generalize grM x dm = G at *
    obtain ⟨X, o, s7, hs7, hX, d7⟩ := ex_bad H hs5 hx
    obtain ⟨c, s8, hs8, hcl, hci, d8⟩ := ex_badCode H hs7 hx (c := G) (by omega) gi
    refine ⟨X, o, c, r, hX, hcl, hri, den_go [] l_spec_l02With ?_⟩
    repeat' (first | simp -implicitDefEqProofs (maxSteps := 1000000) (disch := (first | omega | (simp only [go_sem] <;> omega) | fail)) only [go_sem, ints, bools, mat, c_spec_l02With, srcR] | ((first | apply goIf_b | apply goG_b | apply goTG_b | apply goOG_b) <;> intro h <;> ((try simp only [hnq] at h); (try simp only [h]); (try simp only [hnr] at h)) <;> (try (exfalso; omega))))
    first | refine goC_call [.r] (d0) ?_ | refine goOC_call [.r] (d0) ?_
    repeat' (first | simp -implicitDefEqProofs (maxSteps := 1000000) (disch := (first | omega | (simp only [go_sem] <;> omega) | fail)) only [go_sem, ints, bools, mat] | ((first | apply goIf_b | apply goG_b | apply goTG_b | apply goOG_b) <;> intro h <;> ((try simp only [hnq] at h); (try simp only [h]); (try simp only [hnr] at h)) <;> (try (exfalso; omega))))
    first | refine goC_call [.bm] (hd1) ?_ | refine goOC_call [.bm] (hd1) ?_
    repeat' (first | simp -implicitDefEqProofs (maxSteps := 1000000) (disch := (first | omega | (simp only [go_sem] <;> omega) | fail)) only [go_sem, ints, bools, mat] | ((first | apply goIf_b | apply goG_b | apply goTG_b | apply goOG_b) <;> intro h <;> ((try simp only [hnq] at h); (try simp only [h]); (try simp only [hnr] at h)) <;> (try (exfalso; omega))))
    first | refine goC_call [.bm, .r] (hd2) ?_ | refine goOC_call [.bm, .r] (hd2) ?_
    repeat' (first | simp -implicitDefEqProofs (maxSteps := 1000000) (disch := (first | omega | (simp only [go_sem] <;> omega) | fail)) only [go_sem, ints, bools, mat] | ((first | apply goIf_b | apply goG_b | apply goTG_b | apply goOG_b) <;> intro h <;> ((try simp only [hnq] at h); (try simp only [h]); (try simp only [hnr] at h)) <;> (try (exfalso; omega))))
    first | refine goC_call [.bm, .r] (d3) ?_ | refine goOC_call [.bm, .r] (d3) ?_
    repeat' (first | simp -implicitDefEqProofs (maxSteps := 1000000) (disch := (first | omega | (simp only [go_sem] <;> omega) | fail)) only [go_sem, ints, bools, mat] | ((first | apply goIf_b | apply goG_b | apply goTG_b | apply goOG_b) <;> intro h <;> ((try simp only [hnq] at h); (try simp only [h]); (try simp only [hnr] at h)) <;> (try (exfalso; omega))))
    first | refine goC_call [.bm, .f] (d4) ?_ | refine goOC_call [.bm, .f] (d4) ?_
    repeat' (first | simp -implicitDefEqProofs (maxSteps := 1000000) (disch := (first | omega | (simp only [go_sem] <;> omega) | fail)) only [go_sem, ints, bools, mat] | ((first | apply goIf_b | apply goG_b | apply goTG_b | apply goOG_b) <;> intro h <;> ((try simp only [hnq] at h); (try simp only [h]); (try simp only [hnr] at h)) <;> (try (exfalso; omega))))
    first | refine goC_call [.bm, .r] (d5) ?_ | refine goOC_call [.bm, .r] (d5) ?_
    repeat' (first | simp -implicitDefEqProofs (maxSteps := 1000000) (disch := (first | omega | (simp only [go_sem] <;> omega) | fail)) only [go_sem, ints, bools, mat, hdm] | ((first | apply goIf_b | apply goG_b | apply goTG_b | apply goOG_b) <;> intro h <;> ((try simp only [hnq] at h); (try simp only [h]); (try simp only [hnr] at h)) <;> (try (exfalso; omega))))
    first | refine goC_call [.r, .r] (hg) ?_ | refine goOC_call [.r, .r] (hg) ?_
    repeat' (first | simp -implicitDefEqProofs (maxSteps := 1000000) (disch := (first | omega | (simp only [go_sem] <;> omega) | fail)) only [go_sem, ints, bools, mat] | ((first | apply goIf_b | apply goG_b | apply goTG_b | apply goOG_b) <;> intro h <;> ((try simp only [hnq] at h); (try simp only [h]); (try simp only [hnr] at h)) <;> (try (exfalso; omega))))
    first | refine goC_call [.bm, .r] (d7) ?_ | refine goOC_call [.bm, .r] (d7) ?_
    repeat' (first | simp -implicitDefEqProofs (maxSteps := 1000000) (disch := (first | omega | (simp only [go_sem] <;> omega) | fail)) only [go_sem, ints, bools, mat] | ((first | apply goIf_b | apply goG_b | apply goTG_b | apply goOG_b) <;> intro h <;> ((try simp only [hnq] at h); (try simp only [h]); (try simp only [hnr] at h)) <;> (try (exfalso; omega))))
    first | refine goC_call [.bm, .r, .f] (d8) ?_ | refine goOC_call [.bm, .r, .f] (d8) ?_
    repeat' (first | simp -implicitDefEqProofs (maxSteps := 1000000) (disch := (first | omega | (simp only [go_sem] <;> omega) | fail)) only [go_sem, ints, bools, mat] | ((first | apply goIf_b | apply goG_b | apply goTG_b | apply goOG_b) <;> intro h <;> ((try simp only [hnq] at h); (try simp only [h]); (try simp only [hnr] at h)) <;> (try (exfalso; omega))))
  · obtain ⟨X, o, s7, hs7, hX, d7⟩ := ex_bad H hs5 hx
    obtain ⟨c, s8, hs8, hcl, hci, d8⟩ := ex_badCode H hs7 hx (c := c0) (by omega) (inC_in64 hx hcx)
    refine ⟨X, o, c, r, hX, hcl, hri, den_go [] l_spec_l02With ?_⟩
    repeat' (first | simp -implicitDefEqProofs (maxSteps := 1000000) (disch := (first | omega | (simp only [go_sem] <;> omega) | fail)) only [go_sem, ints, bools, mat, c_spec_l02With, srcR] | ((first | apply goIf_b | apply goG_b | apply goTG_b | apply goOG_b) <;> intro h <;> ((try simp only [hnq] at h); (try simp only [h]); (try simp only [hnr] at h)) <;> (try (exfalso; omega))))
    first | refine goC_call [.r] (d0) ?_ | refine goOC_call [.r] (d0) ?_
    repeat' (first | simp -implicitDefEqProofs (maxSteps := 1000000) (disch := (first | omega | (simp only [go_sem] <;> omega) | fail)) only [go_sem, ints, bools, mat] | ((first | apply goIf_b | apply goG_b | apply goTG_b | apply goOG_b) <;> intro h <;> ((try simp only [hnq] at h); (try simp only [h]); (try simp only [hnr] at h)) <;> (try (exfalso; omega))))
    first | refine goC_call [.bm] (hd1) ?_ | refine goOC_call [.bm] (hd1) ?_
    repeat' (first | simp -implicitDefEqProofs (maxSteps := 1000000) (disch := (first | omega | (simp only [go_sem] <;> omega) | fail)) only [go_sem, ints, bools, mat] | ((first | apply goIf_b | apply goG_b | apply goTG_b | apply goOG_b) <;> intro h <;> ((try simp only [hnq] at h); (try simp only [h]); (try simp only [hnr] at h)) <;> (try (exfalso; omega))))
    first | refine goC_call [.bm, .r] (hd2) ?_ | refine goOC_call [.bm, .r] (hd2) ?_
    repeat' (first | simp -implicitDefEqProofs (maxSteps := 1000000) (disch := (first | omega | (simp only [go_sem] <;> omega) | fail)) only [go_sem, ints, bools, mat] | ((first | apply goIf_b | apply goG_b | apply goTG_b | apply goOG_b) <;> intro h <;> ((try simp only [hnq] at h); (try simp only [h]); (try simp only [hnr] at h)) <;> (try (exfalso; omega))))
    first | refine goC_call [.bm, .r] (d3) ?_ | refine goOC_call [.bm, .r] (d3) ?_
    repeat' (first | simp -implicitDefEqProofs (maxSteps := 1000000) (disch := (first | omega | (simp only [go_sem] <;> omega) | fail)) only [go_sem, ints, bools, mat] | ((first | apply goIf_b | apply goG_b | apply goTG_b | apply goOG_b) <;> intro h <;> ((try simp only [hnq] at h); (try simp only [h]); (try simp only [hnr] at h)) <;> (try (exfalso; omega))))
    first | refine goC_call [.bm, .f] (d4) ?_ | refine goOC_call [.bm, .f] (d4) ?_
    repeat' (first | simp -implicitDefEqProofs (maxSteps := 1000000) (disch := (first | omega | (simp only [go_sem] <;> omega) | fail)) only [go_sem, ints, bools, mat] | ((first | apply goIf_b | apply goG_b | apply goTG_b | apply goOG_b) <;> intro h <;> ((try simp only [hnq] at h); (try simp only [h]); (try simp only [hnr] at h)) <;> (try (exfalso; omega))))
    first | refine goC_call [.bm, .r] (d5) ?_ | refine goOC_call [.bm, .r] (d5) ?_
    repeat' (first | simp -implicitDefEqProofs (maxSteps := 1000000) (disch := (first | omega | (simp only [go_sem] <;> omega) | fail)) only [go_sem, ints, bools, mat] | ((first | apply goIf_b | apply goG_b | apply goTG_b | apply goOG_b) <;> intro h <;> ((try simp only [hnq] at h); (try simp only [h]); (try simp only [hnr] at h)) <;> (try (exfalso; omega))))
    first | refine goC_call [.bm, .r] (d7) ?_ | refine goOC_call [.bm, .r] (d7) ?_
    repeat' (first | simp -implicitDefEqProofs (maxSteps := 1000000) (disch := (first | omega | (simp only [go_sem] <;> omega) | fail)) only [go_sem, ints, bools, mat] | ((first | apply goIf_b | apply goG_b | apply goTG_b | apply goOG_b) <;> intro h <;> ((try simp only [hnq] at h); (try simp only [h]); (try simp only [hnr] at h)) <;> (try (exfalso; omega))))
    first | refine goC_call [.bm, .r, .r] (d8) ?_ | refine goOC_call [.bm, .r, .r] (d8) ?_
    repeat' (first | simp -implicitDefEqProofs (maxSteps := 1000000) (disch := (first | omega | (simp only [go_sem] <;> omega) | fail)) only [go_sem, ints, bools, mat] | ((first | apply goIf_b | apply goG_b | apply goTG_b | apply goOG_b) <;> intro h <;> ((try simp only [hnq] at h); (try simp only [h]); (try simp only [hnr] at h)) <;> (try (exfalso; omega))))
theorem ex_coverCounts {cd : D} {l : List Int} (H : SrcH cd l) : ∃ (X : D) (o c : List Int) (r : Int), drL X o ∧ c.length < 1048577 ∧ in64 r ∧ Den PA f_spec_DrawCoverCounts [.d cd] [.any] (.tup [.d (.agg [X]), .own 1 (c.map di), .d (di r)]) := by
  obtain ⟨X, o, c, r, hX, hcl, hr, d0⟩ := ex_with2 H
  refine ⟨X, o, c, r, hX, hcl, hr, den_go [] l_spec_DrawCoverCounts ?_⟩
  repeat' (first | simp -implicitDefEqProofs (maxSteps := 1000000) (disch := (first | omega | (simp only [go_sem] <;> omega) | fail)) only [go_sem, ints, bools, mat, c_spec_DrawCoverCounts] | ((first | apply goIf_b | apply goG_b | apply goTG_b | apply goOG_b) <;> intro h <;> ((try simp only [hnq] at h); (try simp only [h]); (try simp only [hnr] at h)) <;> (try (exfalso; omega))))
  first | refine goC_call [.r] (d0) ?_ | refine goOC_call [.r] (d0) ?_
  repeat' (first | simp -implicitDefEqProofs (maxSteps := 1000000) (disch := (first | omega | (simp only [go_sem] <;> omega) | fail)) only [go_sem, ints, bools, mat] | ((first | apply goIf_b | apply goG_b | apply goTG_b | apply goOG_b) <;> intro h <;> ((try simp only [hnq] at h); (try simp only [h]); (try simp only [hnr] at h)) <;> (try (exfalso; omega))))
theorem ex_word2 {cd : D} {l : List Int} (H : SrcH cd l) : ∃ (X : D) (o c : List Int) (w : Int), drL X o ∧ c.length < 1048577 ∧ in64 w ∧ Den PA f_spec_l02Word [.d cd] [.any] (.tup [.d (.agg [X]), .own 1 (c.map di), .d (di w)]) := by
  obtain ⟨s0, hs0, d0⟩ := ex_from H
  obtain ⟨X, o, c, r, hX, hcl, hr, d1⟩ := ex_with2 H
  obtain ⟨hX1, hX2, hX3⟩ := hX
  rcases hX1 with rfl | ⟨rfl, rfl⟩
  · have hi := d_spec_l01Is o hX2
    cases hs : isSpaceM o with
    | true =>
      rw [hs] at hi
      have hp1 := prodM_pos (isSpaceM_szs hs)
      have hpr := isSpaceM_prod hs
      have hn := isSpaceM_n hs
      obtain ⟨w, s1, hs1, hw, d2⟩ := ex_near H hs0 (most := prodM o - 1) (by omega) (by omega)
      refine ⟨_, o, c, w, ⟨.inl rfl, hX2, hX3⟩, hcl, hw, den_go [] l_spec_l02Word ?_⟩
      repeat' (first | simp -implicitDefEqProofs (maxSteps := 1000000) (disch := (first | omega | (simp only [go_sem] <;> omega) | fail)) only [go_sem, ints, bools, mat, c_spec_l02Word, srcR] | ((first | apply goIf_b | apply goG_b | apply goTG_b | apply goOG_b) <;> intro h <;> ((try simp only [hnq] at h); (try simp only [h]); (try simp only [hnr] at h)) <;> (try (exfalso; omega))))
      first | refine goC_call [.r] (d0) ?_ | refine goOC_call [.r] (d0) ?_
      repeat' (first | simp -implicitDefEqProofs (maxSteps := 1000000) (disch := (first | omega | (simp only [go_sem] <;> omega) | fail)) only [go_sem, ints, bools, mat] | ((first | apply goIf_b | apply goG_b | apply goTG_b | apply goOG_b) <;> intro h <;> ((try simp only [hnq] at h); (try simp only [h]); (try simp only [hnr] at h)) <;> (try (exfalso; omega))))
      first | refine goC_call [.r] (d1) ?_ | refine goOC_call [.r] (d1) ?_
      repeat' (first | simp -implicitDefEqProofs (maxSteps := 1000000) (disch := (first | omega | (simp only [go_sem] <;> omega) | fail)) only [go_sem, ints, bools, mat] | ((first | apply goIf_b | apply goG_b | apply goTG_b | apply goOG_b) <;> intro h <;> ((try simp only [hnq] at h); (try simp only [h]); (try simp only [hnr] at h)) <;> (try (exfalso; omega))))
      first | refine goC_call [.r] (hi) ?_ | refine goOC_call [.r] (hi) ?_
      repeat' (first | simp -implicitDefEqProofs (maxSteps := 1000000) (disch := (first | omega | (simp only [go_sem] <;> omega) | fail)) only [go_sem, ints, bools, mat] | ((first | apply goIf_b | apply goG_b | apply goTG_b | apply goOG_b) <;> intro h <;> ((try simp only [hnq] at h); (try simp only [h]); (try simp only [hnr] at h)) <;> (try (exfalso; omega))))
      first | refine goC_call [.r] (d_spec_l01N o (by omega) (isSpaceM_q hs)) ?_ | refine goOC_call [.r] (d_spec_l01N o (by omega) (isSpaceM_q hs)) ?_
      repeat' (first | simp -implicitDefEqProofs (maxSteps := 1000000) (disch := (first | omega | (simp only [go_sem] <;> omega) | fail)) only [go_sem, ints, bools, mat] | ((first | apply goIf_b | apply goG_b | apply goTG_b | apply goOG_b) <;> intro h <;> ((try simp only [hnq] at h); (try simp only [h]); (try simp only [hnr] at h)) <;> (try (exfalso; omega))))
      first | refine goC_call [.bm, .r] (d2) ?_ | refine goOC_call [.bm, .r] (d2) ?_
      repeat' (first | simp -implicitDefEqProofs (maxSteps := 1000000) (disch := (first | omega | (simp only [go_sem] <;> omega) | fail)) only [go_sem, ints, bools, mat] | ((first | apply goIf_b | apply goG_b | apply goTG_b | apply goOG_b) <;> intro h <;> ((try simp only [hnq] at h); (try simp only [h]); (try simp only [hnr] at h)) <;> (try (exfalso; omega))))
    | false =>
      rw [hs] at hi
      obtain ⟨w, s1, hs1, hw, d2⟩ := ex_near H hs0 (most := 3) (by omega) (by omega)
      refine ⟨_, o, c, w, ⟨.inl rfl, hX2, hX3⟩, hcl, hw, den_go [] l_spec_l02Word ?_⟩
      repeat' (first | simp -implicitDefEqProofs (maxSteps := 1000000) (disch := (first | omega | (simp only [go_sem] <;> omega) | fail)) only [go_sem, ints, bools, mat, c_spec_l02Word, srcR] | ((first | apply goIf_b | apply goG_b | apply goTG_b | apply goOG_b) <;> intro h <;> ((try simp only [hnq] at h); (try simp only [h]); (try simp only [hnr] at h)) <;> (try (exfalso; omega))))
      first | refine goC_call [.r] (d0) ?_ | refine goOC_call [.r] (d0) ?_
      repeat' (first | simp -implicitDefEqProofs (maxSteps := 1000000) (disch := (first | omega | (simp only [go_sem] <;> omega) | fail)) only [go_sem, ints, bools, mat] | ((first | apply goIf_b | apply goG_b | apply goTG_b | apply goOG_b) <;> intro h <;> ((try simp only [hnq] at h); (try simp only [h]); (try simp only [hnr] at h)) <;> (try (exfalso; omega))))
      first | refine goC_call [.r] (d1) ?_ | refine goOC_call [.r] (d1) ?_
      repeat' (first | simp -implicitDefEqProofs (maxSteps := 1000000) (disch := (first | omega | (simp only [go_sem] <;> omega) | fail)) only [go_sem, ints, bools, mat] | ((first | apply goIf_b | apply goG_b | apply goTG_b | apply goOG_b) <;> intro h <;> ((try simp only [hnq] at h); (try simp only [h]); (try simp only [hnr] at h)) <;> (try (exfalso; omega))))
      first | refine goC_call [.r] (hi) ?_ | refine goOC_call [.r] (hi) ?_
      repeat' (first | simp -implicitDefEqProofs (maxSteps := 1000000) (disch := (first | omega | (simp only [go_sem] <;> omega) | fail)) only [go_sem, ints, bools, mat] | ((first | apply goIf_b | apply goG_b | apply goTG_b | apply goOG_b) <;> intro h <;> ((try simp only [hnq] at h); (try simp only [h]); (try simp only [hnr] at h)) <;> (try (exfalso; omega))))
      first | refine goC_call [.bm, .r] (d2) ?_ | refine goOC_call [.bm, .r] (d2) ?_
      repeat' (first | simp -implicitDefEqProofs (maxSteps := 1000000) (disch := (first | omega | (simp only [go_sem] <;> omega) | fail)) only [go_sem, ints, bools, mat] | ((first | apply goIf_b | apply goG_b | apply goTG_b | apply goOG_b) <;> intro h <;> ((try simp only [hnq] at h); (try simp only [h]); (try simp only [hnr] at h)) <;> (try (exfalso; omega))))
  · obtain ⟨w, s1, hs1, hw, d2⟩ := ex_near H hs0 (most := 3) (by omega) (by omega)
    refine ⟨_, [], c, w, ⟨.inr ⟨rfl, rfl⟩, hX2, hX3⟩, hcl, hw, den_go [] l_spec_l02Word ?_⟩
    repeat' (first | simp -implicitDefEqProofs (maxSteps := 1000000) (disch := (first | omega | (simp only [go_sem] <;> omega) | fail)) only [go_sem, ints, bools, mat, c_spec_l02Word, srcR] | ((first | apply goIf_b | apply goG_b | apply goTG_b | apply goOG_b) <;> intro h <;> ((try simp only [hnq] at h); (try simp only [h]); (try simp only [hnr] at h)) <;> (try (exfalso; omega))))
    first | refine goC_call [.r] (d0) ?_ | refine goOC_call [.r] (d0) ?_
    repeat' (first | simp -implicitDefEqProofs (maxSteps := 1000000) (disch := (first | omega | (simp only [go_sem] <;> omega) | fail)) only [go_sem, ints, bools, mat] | ((first | apply goIf_b | apply goG_b | apply goTG_b | apply goOG_b) <;> intro h <;> ((try simp only [hnq] at h); (try simp only [h]); (try simp only [hnr] at h)) <;> (try (exfalso; omega))))
    first | refine goC_call [.r] (d1) ?_ | refine goOC_call [.r] (d1) ?_
    repeat' (first | simp -implicitDefEqProofs (maxSteps := 1000000) (disch := (first | omega | (simp only [go_sem] <;> omega) | fail)) only [go_sem, ints, bools, mat] | ((first | apply goIf_b | apply goG_b | apply goTG_b | apply goOG_b) <;> intro h <;> ((try simp only [hnq] at h); (try simp only [h]); (try simp only [hnr] at h)) <;> (try (exfalso; omega))))
    first | refine goC_call [.r] (d_nil_spec_l01Is) ?_ | refine goOC_call [.r] (d_nil_spec_l01Is) ?_
    repeat' (first | simp -implicitDefEqProofs (maxSteps := 1000000) (disch := (first | omega | (simp only [go_sem] <;> omega) | fail)) only [go_sem, ints, bools, mat] | ((first | apply goIf_b | apply goG_b | apply goTG_b | apply goOG_b) <;> intro h <;> ((try simp only [hnq] at h); (try simp only [h]); (try simp only [hnr] at h)) <;> (try (exfalso; omega))))
    first | refine goC_call [.bm, .r] (d2) ?_ | refine goOC_call [.bm, .r] (d2) ?_
    repeat' (first | simp -implicitDefEqProofs (maxSteps := 1000000) (disch := (first | omega | (simp only [go_sem] <;> omega) | fail)) only [go_sem, ints, bools, mat] | ((first | apply goIf_b | apply goG_b | apply goTG_b | apply goOG_b) <;> intro h <;> ((try simp only [hnq] at h); (try simp only [h]); (try simp only [hnr] at h)) <;> (try (exfalso; omega))))
theorem ex_timesCovered {cd : D} {l : List Int} (H : SrcH cd l) : ∃ (X : D) (o c : List Int) (w r : Int), drL X o ∧ c.length < 1048577 ∧ in64 w ∧ in64 r ∧ Den PA f_spec_DrawTimesCovered [.d cd] [.any] (.tup [.d (.agg [X]), .own 1 (c.map di), .d (di w), .d (di r)]) := by
  obtain ⟨s0, hs0, d0⟩ := ex_from H
  obtain ⟨X, o, c, w, hX, hcl, hw, d1⟩ := ex_word2 H
  obtain ⟨n, s3, hs3, hn3, d3⟩ := ex_near H hs0 (most := 8) (by omega) (by omega)
  obtain ⟨r, s4, hs4, hr, d4⟩ := ex_pik H hs3 [0, 1, 2, n] (by simp) (by simp)
  have hri : in64 r := by
    simp only [List.mem_cons, List.mem_nil_iff, or_false] at hr
    unfold in64 at *
    omega
  refine ⟨X, o, c, w, r, hX, hcl, hw, hri, den_go [] l_spec_DrawTimesCovered ?_⟩
  repeat' (first | simp -implicitDefEqProofs (maxSteps := 1000000) (disch := (first | omega | (simp only [go_sem] <;> omega) | fail)) only [go_sem, ints, bools, mat, c_spec_DrawTimesCovered, srcR] | ((first | apply goIf_b | apply goG_b | apply goTG_b | apply goOG_b) <;> intro h <;> ((try simp only [hnq] at h); (try simp only [h]); (try simp only [hnr] at h)) <;> (try (exfalso; omega))))
  first | refine goC_call [.r] (d0) ?_ | refine goOC_call [.r] (d0) ?_
  repeat' (first | simp -implicitDefEqProofs (maxSteps := 1000000) (disch := (first | omega | (simp only [go_sem] <;> omega) | fail)) only [go_sem, ints, bools, mat] | ((first | apply goIf_b | apply goG_b | apply goTG_b | apply goOG_b) <;> intro h <;> ((try simp only [hnq] at h); (try simp only [h]); (try simp only [hnr] at h)) <;> (try (exfalso; omega))))
  first | refine goC_call [.r] (d1) ?_ | refine goOC_call [.r] (d1) ?_
  repeat' (first | simp -implicitDefEqProofs (maxSteps := 1000000) (disch := (first | omega | (simp only [go_sem] <;> omega) | fail)) only [go_sem, ints, bools, mat] | ((first | apply goIf_b | apply goG_b | apply goTG_b | apply goOG_b) <;> intro h <;> ((try simp only [hnq] at h); (try simp only [h]); (try simp only [hnr] at h)) <;> (try (exfalso; omega))))
  first | refine goC_call [.bm, .r] (d3) ?_ | refine goOC_call [.bm, .r] (d3) ?_
  repeat' (first | simp -implicitDefEqProofs (maxSteps := 1000000) (disch := (first | omega | (simp only [go_sem] <;> omega) | fail)) only [go_sem, ints, bools, mat] | ((first | apply goIf_b | apply goG_b | apply goTG_b | apply goOG_b) <;> intro h <;> ((try simp only [hnq] at h); (try simp only [h]); (try simp only [hnr] at h)) <;> (try (exfalso; omega))))
  first | refine goC_call [.bm, .f] (d4) ?_ | refine goOC_call [.bm, .f] (d4) ?_
  repeat' (first | simp -implicitDefEqProofs (maxSteps := 1000000) (disch := (first | omega | (simp only [go_sem] <;> omega) | fail)) only [go_sem, ints, bools, mat] | ((first | apply goIf_b | apply goG_b | apply goTG_b | apply goOG_b) <;> intro h <;> ((try simp only [hnq] at h); (try simp only [h]); (try simp only [hnr] at h)) <;> (try (exfalso; omega))))
theorem ex_greedyCode {cd : D} {l : List Int} (H : SrcH cd l) : ∃ (X : D) (o : List Int) (r : Int), drL X o ∧ in64 r ∧ Den PA f_spec_DrawGreedyCode [.d cd] [.any] (.tup [.d (.agg [X]), .d (di r)]) := by
  obtain ⟨s0, hs0, d0⟩ := ex_from H
  obtain ⟨x, s1, hs1, hx, d1⟩ := ex_small H hs0
  have hd1 := d1.le .frzA
  obtain ⟨X, o, s2, hs2, hX, d2⟩ := ex_bad H hs1 hx
  obtain ⟨n, s3, hs3, hn3, d3⟩ := ex_near H hs2 (most := 8) (by omega) (by omega)
  obtain ⟨r, s4, hs4, hr, d4⟩ := ex_pik H hs3 [0, 1, 1, 1, 2, n] (by simp) (by simp)
  have hri : in64 r := by
    simp only [List.mem_cons, List.mem_nil_iff, or_false] at hr
    unfold in64 at *
    omega
  refine ⟨X, o, r, hX, hri, den_go [] l_spec_DrawGreedyCode ?_⟩
  repeat' (first | simp -implicitDefEqProofs (maxSteps := 1000000) (disch := (first | omega | (simp only [go_sem] <;> omega) | fail)) only [go_sem, ints, bools, mat, c_spec_DrawGreedyCode, srcR] | ((first | apply goIf_b | apply goG_b | apply goTG_b | apply goOG_b) <;> intro h <;> ((try simp only [hnq] at h); (try simp only [h]); (try simp only [hnr] at h)) <;> (try (exfalso; omega))))
  first | refine goC_call [.r] (d0) ?_ | refine goOC_call [.r] (d0) ?_
  repeat' (first | simp -implicitDefEqProofs (maxSteps := 1000000) (disch := (first | omega | (simp only [go_sem] <;> omega) | fail)) only [go_sem, ints, bools, mat] | ((first | apply goIf_b | apply goG_b | apply goTG_b | apply goOG_b) <;> intro h <;> ((try simp only [hnq] at h); (try simp only [h]); (try simp only [hnr] at h)) <;> (try (exfalso; omega))))
  first | refine goC_call [.bm] (hd1) ?_ | refine goOC_call [.bm] (hd1) ?_
  repeat' (first | simp -implicitDefEqProofs (maxSteps := 1000000) (disch := (first | omega | (simp only [go_sem] <;> omega) | fail)) only [go_sem, ints, bools, mat] | ((first | apply goIf_b | apply goG_b | apply goTG_b | apply goOG_b) <;> intro h <;> ((try simp only [hnq] at h); (try simp only [h]); (try simp only [hnr] at h)) <;> (try (exfalso; omega))))
  first | refine goC_call [.bm, .r] (d2) ?_ | refine goOC_call [.bm, .r] (d2) ?_
  repeat' (first | simp -implicitDefEqProofs (maxSteps := 1000000) (disch := (first | omega | (simp only [go_sem] <;> omega) | fail)) only [go_sem, ints, bools, mat] | ((first | apply goIf_b | apply goG_b | apply goTG_b | apply goOG_b) <;> intro h <;> ((try simp only [hnq] at h); (try simp only [h]); (try simp only [hnr] at h)) <;> (try (exfalso; omega))))
  first | refine goC_call [.bm, .r] (d3) ?_ | refine goOC_call [.bm, .r] (d3) ?_
  repeat' (first | simp -implicitDefEqProofs (maxSteps := 1000000) (disch := (first | omega | (simp only [go_sem] <;> omega) | fail)) only [go_sem, ints, bools, mat] | ((first | apply goIf_b | apply goG_b | apply goTG_b | apply goOG_b) <;> intro h <;> ((try simp only [hnq] at h); (try simp only [h]); (try simp only [hnr] at h)) <;> (try (exfalso; omega))))
  first | refine goC_call [.bm, .f] (d4) ?_ | refine goOC_call [.bm, .f] (d4) ?_
  repeat' (first | simp -implicitDefEqProofs (maxSteps := 1000000) (disch := (first | omega | (simp only [go_sem] <;> omega) | fail)) only [go_sem, ints, bools, mat] | ((first | apply goIf_b | apply goG_b | apply goTG_b | apply goOG_b) <;> intro h <;> ((try simp only [hnq] at h); (try simp only [h]); (try simp only [hnr] at h)) <;> (try (exfalso; omega))))
theorem d_spec_ExcessOf (l c : List Int) (r : Int) (hl : l.length < 1048577) (hc : c.length < 1048577) : Den PA f_spec_ExcessOf [.d (.agg [ints l]), .d (ints c), .d (di r)] [.any, .any, .any] (exR l c r) := by
  refine den_go [] l_spec_ExcessOf ?_
  repeat' (first | simp -implicitDefEqProofs (maxSteps := 1000000) (disch := (first | omega | (simp only [go_sem] <;> omega) | fail)) only [go_sem, ints, bools, mat, c_spec_ExcessOf] | ((first | apply goIf_b | apply goG_b | apply goTG_b | apply goOG_b) <;> intro h <;> ((try simp only [hnq] at h); (try simp only [h]); (try simp only [hnr] at h)) <;> (try (exfalso; omega))))
  first | refine goC_call [.r, .r, .r] (d_spec_l02Code l c hl hc r) ?_ | refine goOC_call [.r, .r, .r] (d_spec_l02Code l c hl hc r) ?_
  by_cases h : ccM l c r = 0
  · obtain ⟨hs, hcc, _⟩ := ccM_ok h
    have hpr := isSpaceM_prod hs
    have hcl := isCodeM_len hcc
    have htl : (timesM l c r).length = (prodM l).toNat := timesN_len l c r c.length
    rw [h]
    repeat' (first | simp -implicitDefEqProofs (maxSteps := 1000000) (disch := (first | omega | (simp only [go_sem] <;> omega) | fail)) only [go_sem, ints, bools, mat] | ((first | apply goIf_b | apply goG_b | apply goTG_b | apply goOG_b) <;> intro h <;> ((try simp only [hnq] at h); (try simp only [h]); (try simp only [hnr] at h)) <;> (try (exfalso; omega))))
    first | refine goC_call [.r, .r, .r] (d_spec_l02Times l c r hs hcc hc) ?_ | refine goOC_call [.r, .r, .r] (d_spec_l02Times l c r hs hcc hc) ?_
    repeat' (first | simp -implicitDefEqProofs (maxSteps := 1000000) (disch := (first | omega | (simp only [go_sem] <;> omega) | fail)) only [go_sem, ints, bools, mat] | ((first | apply goIf_b | apply goG_b | apply goTG_b | apply goOG_b) <;> intro h <;> ((try simp only [hnq] at h); (try simp only [h]); (try simp only [hnr] at h)) <;> (try (exfalso; omega))))
    refine go_loop (fun (j : Nat) => ⟨[(9, .sl 0 0 (prodM l).toNat 1), (10, .d (di (exN l c r j))), (24, .d (di (prodM l).toNat)), (25, .d (di j))], [some (.dat 1 ((timesM l c r).map di))]⟩) (fun j => j ≤ (prodM l).toNat ∧ ∀ i, i < j → (timesM l c r).getD i 0 ≠ 0) (fun j => (prodM l).toNat - j) 0 ?_ ?_ ?_
    · simp -implicitDefEqProofs (maxSteps := 1000000) (disch := (first | omega | (simp only [go_sem] <;> omega) | fail)) only [go_sem, ints, bools, mat]
      all_goals rfl
    · exact ⟨Nat.zero_le _, fun i hi => by omega⟩
    · rintro j ⟨hj, hnz⟩ J hJ
      have hb := exN_bnd (l := l) (c := c) (r := r) (by omega) hj hnz
      by_cases hjl : j < (prodM l).toNat
      · have htb := tm_bnd (c := c) (r := r) hjl
        have es := exN_succ l c r j
        have es' : exN l c r j + (timesM l c r).getD j 0 - 1 = exN l c r (j + 1) := by omega
        by_cases hz : (timesM l c r).getD j 0 = 0
        · have hm : 0 ∈ timesM l c r := by rw [← hz]; exact getD_mem (by omega)
          have e : exE l c r = 5 := by unfold exE; rw [if_pos h, if_pos hm]
          rw [exR, e, if_neg (by decide)]
          repeat' (first | simp -implicitDefEqProofs (maxSteps := 1000000) (disch := (first | omega | (simp only [go_sem] <;> omega) | fail)) only [go_sem, ints, bools, mat, hz] | ((first | apply goIf_b | apply goG_b | apply goTG_b | apply goOG_b) <;> intro h <;> ((try simp only [hnq] at h); (try simp only [h]); (try simp only [hnr] at h)) <;> (try (exfalso; omega))))
        · repeat' (first | simp -implicitDefEqProofs (maxSteps := 1000000) (disch := (first | omega | (simp only [go_sem] <;> omega) | fail)) only [go_sem, ints, bools, mat] | ((first | apply goIf_b | apply goG_b | apply goTG_b | apply goOG_b) <;> intro h <;> ((try simp only [hnq] at h); (try simp only [h]); (try simp only [hnr] at h)) <;> (try (exfalso; omega))))
          refine hJ (j + 1) ⟨by omega, all_ext hnz hz⟩ (by omega) _ ?_
          simp -implicitDefEqProofs (maxSteps := 1000000) (disch := (first | omega | (simp only [go_sem] <;> omega) | fail)) only [go_sem, ints, bools, mat, es']
          all_goals rfl
      · have hje : j = (prodM l).toNat := by omega
        subst hje
        have hm : ¬ 0 ∈ timesM l c r := fun hm => by
          obtain ⟨i, hi, e⟩ := List.mem_iff_getElem.1 hm
          exact hnz i (by omega) (by rw [List.getD_eq_getElem?_getD, List.getElem?_eq_getElem hi, Option.getD_some]; exact e)
        have e : exE l c r = 0 := by unfold exE; rw [if_pos h, if_neg hm]
        rw [exR, e, if_pos rfl]
        repeat' (first | simp -implicitDefEqProofs (maxSteps := 1000000) (disch := (first | omega | (simp only [go_sem] <;> omega) | fail)) only [go_sem, ints, bools, mat] | ((first | apply goIf_b | apply goG_b | apply goTG_b | apply goOG_b) <;> intro h <;> ((try simp only [hnq] at h); (try simp only [h]); (try simp only [hnr] at h)) <;> (try (exfalso; omega))))
  · have e : exE l c r = ccM l c r := by unfold exE; rw [if_neg h]
    rw [exR, e, if_neg h]
    generalize ccM l c r = b at h
    repeat' (first | simp -implicitDefEqProofs (maxSteps := 1000000) (disch := (first | omega | (simp only [go_sem] <;> omega) | fail)) only [go_sem, ints, bools, mat] | ((first | apply goIf_b | apply goG_b | apply goTG_b | apply goOG_b) <;> intro h <;> ((try simp only [hnq] at h); (try simp only [h]); (try simp only [hnr] at h)) <;> (try (exfalso; omega))))
theorem d_laws_sum2 (a : List Int) (ha : a.length < 2000) (h : ∀ i, 0 ≤ a.getD i 0 ∧ a.getD i 0 ≤ 1048577) : Den PA f_laws_sum [.d (ints a)] [.any] (.d (di (smN a a.length))) := by
  refine den_go [] l_laws_sum ?_
  repeat' (first | simp -implicitDefEqProofs (maxSteps := 1000000) (disch := (first | omega | (simp only [go_sem] <;> omega) | fail)) only [go_sem, ints, bools, mat, c_laws_sum] | ((first | apply goIf_b | apply goG_b | apply goTG_b | apply goOG_b) <;> intro h <;> ((try simp only [hnq] at h); (try simp only [h]); (try simp only [hnr] at h)) <;> (try (exfalso; omega))))
  refine go_loop (fun (j : Nat) => ⟨[(0, .d (ints a)), (3, .d (di (smN a j))), (4, .d (di j))], []⟩) (fun j => j ≤ a.length) (fun j => a.length - j) 0 ?_ ?_ ?_
  · (simp -implicitDefEqProofs (maxSteps := 1000000) (disch := (first | omega | (simp only [go_sem] <;> omega) | fail)) only [go_sem, ints, bools, mat] <;> rfl)
  · simp
  · rintro j hj J hJ
    have hb := smN_ge h j
    have hj2 := h j
    by_cases hjl : j < a.length
    · repeat' (first | simp -implicitDefEqProofs (maxSteps := 1000000) (disch := (first | omega | (simp only [go_sem] <;> omega) | fail)) only [go_sem, ints, bools, mat] | ((first | apply goIf_b | apply goG_b | apply goTG_b | apply goOG_b) <;> intro h <;> ((try simp only [hnq] at h); (try simp only [h]); (try simp only [hnr] at h)) <;> (try (exfalso; omega))))
      refine hJ (j + 1) (by omega) (by omega) _ ?_
      simp -implicitDefEqProofs (maxSteps := 1000000) (disch := (first | omega | (simp only [go_sem] <;> omega) | fail)) only [go_sem, ints, bools, mat]
      rw [smN]; rfl
    · have e : j = a.length := by omega
      subst e
      repeat' (first | simp -implicitDefEqProofs (maxSteps := 1000000) (disch := (first | omega | (simp only [go_sem] <;> omega) | fail)) only [go_sem, ints, bools, mat] | ((first | apply goIf_b | apply goG_b | apply goTG_b | apply goOG_b) <;> intro h <;> ((try simp only [hnq] at h); (try simp only [h]); (try simp only [hnr] at h)) <;> (try (exfalso; omega))))
def kmN (a : List Int) : Nat → Int
  | 0 => 0
  | j + 1 => kmN a j + j * a.getD j 0
theorem kmN_set (o : List Int) {k : Nat} (v : Int) (hk : k < o.length) : ∀ j, kmN (o.set k v) j = kmN o j + (if k < j then k * (v - o.getD k 0) else 0)
  | 0 => by simp [kmN]
  | j + 1 => by
    rw [kmN, kmN, kmN_set o v hk j, getD_set _ _ _ _ hk]
    by_cases h1 : k < j
    · rw [if_pos h1, if_pos (show k < j + 1 by omega), if_neg (show ¬ k = j by omega)]; omega
    · by_cases h2 : k = j
      · subst h2; rw [if_neg h1, if_pos (show k < k + 1 by omega), if_pos rfl, Int.mul_sub]; omega
      · rw [if_neg h1, if_neg (show ¬ k < j + 1 by omega), if_neg h2]; omega
theorem hist_ksum {n : Nat} {ds : List Int} (h : ∀ i, i < ds.length → 0 ≤ ds.getD i 0 ∧ ds.getD i 0 < n) : ∀ j : Nat, j ≤ ds.length → kmN (hist n (ds.take j)) n = sgS (fun i => ds.getD i 0) j
  | 0, _ => by
    have e : ∀ j : Nat, kmN (List.replicate n 0) j = 0 := fun j => by
      induction j with
      | zero => rfl
      | succ j ih =>
        rw [kmN, ih]
        have : (List.replicate n (0 : Int)).getD j 0 = 0 := by
          simp [List.getD_eq_getElem?_getD, List.getElem?_replicate]
          split <;> rfl
        rw [this]; simp
    rw [List.take_zero]
    exact e n
  | j + 1, hj => by
    have h1 := h j (by omega)
    rw [take_one _ (by omega), hist_step, kmN_set _ _ (by rw [hist_len]; omega), hist_ksum h j (by omega), if_pos (by omega), sgS]
    rw [show (hist n (List.take j ds)).getD (ds.getD j 0).toNat 0 + 1 - (hist n (List.take j ds)).getD (ds.getD j 0).toNat 0 = 1 by omega, Int.mul_one]
    omega
theorem mul_sm2 {a b : Int} (h1 : 0 ≤ a ∧ a ≤ 1024) (h2 : 0 ≤ b ∧ b ≤ 1024) : 0 ≤ a * b ∧ a * b ≤ 1048576 := ⟨Int.mul_nonneg h1.1 h2.1, Int.mul_le_mul h1.2 h2.2 h2.1 (by omega)⟩
theorem kmN_bnd {a : List Int} (h : ∀ i, 0 ≤ a.getD i 0 ∧ a.getD i 0 ≤ 1024) : ∀ j : Nat, j ≤ 1025 → 0 ≤ kmN a j ∧ kmN a j ≤ j * 1048576
  | 0, _ => by simp [kmN]
  | j + 1, hj => by
    have h1 := kmN_bnd h j (by omega)
    have h2 := mul_sm2 (a := (j : Int)) (b := a.getD j 0) (by omega) (h j)
    rw [kmN]; omega
theorem sgS_sub1 (f : Nat → Int) : ∀ n : Nat, sgS (fun i => f i - 1) n = sgS f n - n
  | 0 => rfl
  | n + 1 => by rw [sgS, sgS, sgS_sub1 f n]; omega
theorem tm_rng {l c : List Int} {r : Int} : ∀ i, i < (timesM l c r).length → 0 ≤ (timesM l c r).getD i 0 ∧ (timesM l c r).getD i 0 < (c.length + 1 : Nat) := fun i hi => by
  have := tm_bnd (l := l) (c := c) (r := r) (i := i) (by rw [timesN_len] at hi; exact hi)
  omega
theorem ct_sum (l c : List Int) (r : Int) : smN (ctM l c r) (ctM l c r).length = (prodM l).toNat := by
  have h := hist_sum (tm_rng (l := l) (c := c) (r := r)) _ (Nat.le_refl _)
  rw [List.take_length, timesN_len] at h
  unfold ctM; rw [hist_len]; exact h
theorem tm_sum {l c : List Int} {r : Int} (hs : isSpaceM l = true) (hr : 0 ≤ r) : sgS (fun i => (timesM l c r).getD i 0) (prodM l).toNat = c.length * bzM l r := by
  rw [← cnt_sum hs c hr c.length]
  exact sgS_congr fun i hi => timesN_get c r c.length hi
theorem ct_ksum {l c : List Int} {r : Int} (hs : isSpaceM l = true) (hr : 0 ≤ r) : kmN (ctM l c r) (c.length + 1) = c.length * bzM l r := by
  have h := hist_ksum (tm_rng (l := l) (c := c) (r := r)) _ (Nat.le_refl _)
  rw [List.take_length, timesN_len] at h
  rw [← tm_sum hs hr, ← h]; rfl
theorem ct_zero (l c : List Int) (r : Int) : (ctM l c r).getD 0 0 = 0 ↔ ¬ 0 ∈ timesM l c r := by
  have h := hist_get (n := c.length + 1) (timesM l c r) (fun d hd => by
    obtain ⟨i, hi, rfl⟩ := List.mem_iff_getElem.1 hd
    have := tm_rng (l := l) (c := c) (r := r) i hi
    simpa [hi] using this) (i := 0) (by omega) _ (Nat.le_refl _)
  rw [List.take_length] at h
  rw [show ctM l c r = hist (c.length + 1) (timesM l c r) from rfl, h]
  constructor
  · intro e hm
    have : (0 : Int) ∈ (timesM l c r).filter fun d => d == ((0 : Nat) : Int) := List.mem_filter.2 ⟨hm, by simp⟩
    have := List.length_pos_of_mem this
    omega
  · intro hn
    rw [List.filter_eq_nil_iff.2 fun d hd => by
      simp only [beq_iff_eq]
      intro e
      apply hn
      have : d = 0 := e
      rw [← this]; exact hd]
    rfl
theorem cov_bound {l c : List Int} {r : Int} (hs : isSpaceM l = true) (hr : 0 ≤ r) (hcv : cvB l c r = true) : bbM l r ≤ c.length := by
  have hbz := bz_pos hs hr
  have hp1 := prodM_pos (isSpaceM_szs hs)
  have h1 := sgS_ge (f := fun i => (timesM l c r).getD i 0) (n := (prodM l).toNat) fun i hi => by
    have h0 := tm_bnd (c := c) (r := r) hi
    have hn : (timesM l c r).getD i 0 ≠ 0 := fun e => by
      have hm : 0 ∈ timesM l c r := by rw [← e]; exact getD_mem (by rw [timesN_len]; exact hi)
      have : decide (0 ∈ timesM l c r) = true := decide_eq_true hm
      simp only [cvB, this] at hcv
      cases hcv
    omega
  rw [tm_sum hs hr] at h1
  unfold bbM
  have : (prodM l + bzM l r - 1) / bzM l r < (c.length : Int) + 1 := by
    rw [Int.ediv_lt_iff_lt_mul (by omega), Int.add_mul]
    omega
  omega
structure CvF (X : D) (c : List Int) (r : Int) (T : List Int) (n b ex e2 : Int) : Prop where
  tl : T.length = c.length + 1
  cl : c.length ≤ 1024
  tb : ∀ i, 0 ≤ T.getD i 0 ∧ T.getD i 0 ≤ 1024
  nb : 0 ≤ n ∧ n ≤ 1024
  bb : 0 ≤ b ∧ b ≤ 1024
  ks : kmN T (c.length + 1) = b * c.length
  e0 : e2 = 0 → T.getD 0 0 = 0 ∧ ex = b * c.length - n
  e1 : e2 ≠ 0 → T.getD 0 0 ≠ 0
  c1 : Den PA f_impl_CoverCounts [.d (.agg [X]), .d (ints c), .d (di r)] [.any, .any, .any] (.tup [.own 1 (T.map di), .d (di 0)])
  c2 : Den PA f_spec_CoverCounts [.d (.agg [X]), .d (ints c), .d (di r)] [.any, .any, .any] (.tup [.own 1 (T.map di), .d (di 0)])
  x1 : Den PA f_impl_ExcessOf [.d (.agg [X]), .d (ints c), .d (di r)] [.any, .any, .any] (.tup [.d (di ex), .d (di e2)])
  x2 : Den PA f_spec_ExcessOf [.d (.agg [X]), .d (ints c), .d (di r)] [.any, .any, .any] (.tup [.d (di ex), .d (di e2)])
  cw : Den PA f_impl_CountWords [.d (.agg [X])] [.any] (.tup [.d (di n), .d (di 0)])
  bs : Den PA f_impl_BallSize [.d (.agg [X]), .d (di r)] [.any, .any] (.tup [.d (di b), .d (di 0)])
  sm : Den PA f_laws_sum [.d (ints T)] [.any] (.d (di n))
structure CvN (X : D) (c : List Int) (r e : Int) : Prop where
  c1 : Den PA f_impl_CoverCounts [.d (.agg [X]), .d (ints c), .d (di r)] [.any, .any, .any] (.tup [.d nil, .d (di e)])
  c2 : Den PA f_spec_CoverCounts [.d (.agg [X]), .d (ints c), .d (di r)] [.any, .any, .any] (.tup [.d nil, .d (di e)])
  x1 : Den PA f_impl_ExcessOf [.d (.agg [X]), .d (ints c), .d (di r)] [.any, .any, .any] (.tup [.d (di 0), .d (di e)])
  x2 : Den PA f_spec_ExcessOf [.d (.agg [X]), .d (ints c), .d (di r)] [.any, .any, .any] (.tup [.d (di 0), .d (di e)])
structure GcF (X : D) (m : Int) (G : List Int) (b : Int) : Prop where
  gl : G.length < 1048577
  le : b ≤ G.length
  g1 : Den PA f_impl_GreedyCode [.d (.agg [X]), .d (di m)] [.any, .any] (.tup [.own 1 (G.map di), .d (di 0)])
  g2 : Den PA f_spec_GreedyCode [.d (.agg [X]), .d (di m)] [.any, .any] (.tup [.own 1 (G.map di), .d (di 0)])
  cv : Den PA f_impl_CoversSpace [.d (.agg [X]), .d (ints G), .d (di m)] [.any, .any, .any] (.tup [.d (db true), .d (di 0)])
  bb : Den PA f_impl_BallBound [.d (.agg [X]), .d (di m)] [.any, .any] (.tup [.d (di b), .d (di 0)])
structure GcN (X : D) (m e : Int) : Prop where
  g1 : Den PA f_impl_GreedyCode [.d (.agg [X]), .d (di m)] [.any, .any] (.tup [.d nil, .d (di e)])
  g2 : Den PA f_spec_GreedyCode [.d (.agg [X]), .d (di m)] [.any, .any] (.tup [.d nil, .d (di e)])
theorem d_nil_impl_CoverCounts (c : List Int) (r : Int) : Den PA f_impl_CoverCounts [.d (.agg [nil]), .d (ints c), .d (di r)] [.any, .any, .any] (.tup [.d nil, .d (di 1)]) := by
  refine den_go [] l_impl_CoverCounts ?_
  repeat' (first | simp -implicitDefEqProofs (maxSteps := 1000000) (disch := (first | omega | (simp only [go_sem] <;> omega) | fail)) only [go_sem, ints, bools, mat, c_impl_CoverCounts] | ((first | apply goIf_b | apply goG_b | apply goTG_b | apply goOG_b) <;> intro h <;> ((try simp only [hnq] at h); (try simp only [h]); (try simp only [hnr] at h)) <;> (try (exfalso; omega))))
  first | refine goC_call [.r, .r, .r] (d_nil_impl_coverCode (ints c) r) ?_ | refine goOC_call [.r, .r, .r] (d_nil_impl_coverCode (ints c) r) ?_
  repeat' (first | simp -implicitDefEqProofs (maxSteps := 1000000) (disch := (first | omega | (simp only [go_sem] <;> omega) | fail)) only [go_sem, ints, bools, mat] | ((first | apply goIf_b | apply goG_b | apply goTG_b | apply goOG_b) <;> intro h <;> ((try simp only [hnq] at h); (try simp only [h]); (try simp only [hnr] at h)) <;> (try (exfalso; omega))))
theorem d_nil_impl_ExcessOf (c : List Int) (r : Int) : Den PA f_impl_ExcessOf [.d (.agg [nil]), .d (ints c), .d (di r)] [.any, .any, .any] (.tup [.d (di 0), .d (di 1)]) := by
  refine den_go [] l_impl_ExcessOf ?_
  repeat' (first | simp -implicitDefEqProofs (maxSteps := 1000000) (disch := (first | omega | (simp only [go_sem] <;> omega) | fail)) only [go_sem, ints, bools, mat, c_impl_ExcessOf] | ((first | apply goIf_b | apply goG_b | apply goTG_b | apply goOG_b) <;> intro h <;> ((try simp only [hnq] at h); (try simp only [h]); (try simp only [hnr] at h)) <;> (try (exfalso; omega))))
  first | refine goC_call [.r, .r, .r] (d_nil_impl_coverCode (ints c) r) ?_ | refine goOC_call [.r, .r, .r] (d_nil_impl_coverCode (ints c) r) ?_
  repeat' (first | simp -implicitDefEqProofs (maxSteps := 1000000) (disch := (first | omega | (simp only [go_sem] <;> omega) | fail)) only [go_sem, ints, bools, mat] | ((first | apply goIf_b | apply goG_b | apply goTG_b | apply goOG_b) <;> intro h <;> ((try simp only [hnq] at h); (try simp only [h]); (try simp only [hnr] at h)) <;> (try (exfalso; omega))))
theorem d_nil_spec_CoverCounts (c : List Int) (r : Int) : Den PA f_spec_CoverCounts [.d (.agg [nil]), .d (ints c), .d (di r)] [.any, .any, .any] (.tup [.d nil, .d (di 1)]) := by
  refine den_go [] l_spec_CoverCounts ?_
  repeat' (first | simp -implicitDefEqProofs (maxSteps := 1000000) (disch := (first | omega | (simp only [go_sem] <;> omega) | fail)) only [go_sem, ints, bools, mat, c_spec_CoverCounts] | ((first | apply goIf_b | apply goG_b | apply goTG_b | apply goOG_b) <;> intro h <;> ((try simp only [hnq] at h); (try simp only [h]); (try simp only [hnr] at h)) <;> (try (exfalso; omega))))
  first | refine goC_call [.r, .r, .r] (d_nil_spec_l02Code (ints c) r) ?_ | refine goOC_call [.r, .r, .r] (d_nil_spec_l02Code (ints c) r) ?_
  repeat' (first | simp -implicitDefEqProofs (maxSteps := 1000000) (disch := (first | omega | (simp only [go_sem] <;> omega) | fail)) only [go_sem, ints, bools, mat] | ((first | apply goIf_b | apply goG_b | apply goTG_b | apply goOG_b) <;> intro h <;> ((try simp only [hnq] at h); (try simp only [h]); (try simp only [hnr] at h)) <;> (try (exfalso; omega))))
theorem d_nil_spec_ExcessOf (c : List Int) (r : Int) : Den PA f_spec_ExcessOf [.d (.agg [nil]), .d (ints c), .d (di r)] [.any, .any, .any] (.tup [.d (di 0), .d (di 1)]) := by
  refine den_go [] l_spec_ExcessOf ?_
  repeat' (first | simp -implicitDefEqProofs (maxSteps := 1000000) (disch := (first | omega | (simp only [go_sem] <;> omega) | fail)) only [go_sem, ints, bools, mat, c_spec_ExcessOf] | ((first | apply goIf_b | apply goG_b | apply goTG_b | apply goOG_b) <;> intro h <;> ((try simp only [hnq] at h); (try simp only [h]); (try simp only [hnr] at h)) <;> (try (exfalso; omega))))
  first | refine goC_call [.r, .r, .r] (d_nil_spec_l02Code (ints c) r) ?_ | refine goOC_call [.r, .r, .r] (d_nil_spec_l02Code (ints c) r) ?_
  repeat' (first | simp -implicitDefEqProofs (maxSteps := 1000000) (disch := (first | omega | (simp only [go_sem] <;> omega) | fail)) only [go_sem, ints, bools, mat] | ((first | apply goIf_b | apply goG_b | apply goTG_b | apply goOG_b) <;> intro h <;> ((try simp only [hnq] at h); (try simp only [h]); (try simp only [hnr] at h)) <;> (try (exfalso; omega))))
theorem d_nil_impl_TimesCovered (c : List Int) (w r : Int) : Den PA f_impl_TimesCovered [.d (.agg [nil]), .d (ints c), .d (di w), .d (di r)] [.any, .any, .any, .any] (.tup [.d (di 0), .d (di 1)]) := by
  refine den_go [] l_impl_TimesCovered ?_
  repeat' (first | simp -implicitDefEqProofs (maxSteps := 1000000) (disch := (first | omega | (simp only [go_sem] <;> omega) | fail)) only [go_sem, ints, bools, mat, c_impl_TimesCovered] | ((first | apply goIf_b | apply goG_b | apply goTG_b | apply goOG_b) <;> intro h <;> ((try simp only [hnq] at h); (try simp only [h]); (try simp only [hnr] at h)) <;> (try (exfalso; omega))))
  first | refine goC_call [.r, .r, .r] (d_nil_impl_codeCode (ints c) (ints [w])) ?_ | refine goOC_call [.r, .r, .r] (d_nil_impl_codeCode (ints c) (ints [w])) ?_
  repeat' (first | simp -implicitDefEqProofs (maxSteps := 1000000) (disch := (first | omega | (simp only [go_sem] <;> omega) | fail)) only [go_sem, ints, bools, mat] | ((first | apply goIf_b | apply goG_b | apply goTG_b | apply goOG_b) <;> intro h <;> ((try simp only [hnq] at h); (try simp only [h]); (try simp only [hnr] at h)) <;> (try (exfalso; omega))))
theorem d_nil_spec_TimesCovered (c : List Int) (w r : Int) : Den PA f_spec_TimesCovered [.d (.agg [nil]), .d (ints c), .d (di w), .d (di r)] [.any, .any, .any, .any] (.tup [.d (di 0), .d (di 1)]) := by
  refine den_go [] l_spec_TimesCovered ?_
  repeat' (first | simp -implicitDefEqProofs (maxSteps := 1000000) (disch := (first | omega | (simp only [go_sem] <;> omega) | fail)) only [go_sem, ints, bools, mat, c_spec_TimesCovered] | ((first | apply goIf_b | apply goG_b | apply goTG_b | apply goOG_b) <;> intro h <;> ((try simp only [hnq] at h); (try simp only [h]); (try simp only [hnr] at h)) <;> (try (exfalso; omega))))
  first | refine goC_call [.r, .r, .r] (d_nil_spec_l02Code (ints c) r) ?_ | refine goOC_call [.r, .r, .r] (d_nil_spec_l02Code (ints c) r) ?_
  repeat' (first | simp -implicitDefEqProofs (maxSteps := 1000000) (disch := (first | omega | (simp only [go_sem] <;> omega) | fail)) only [go_sem, ints, bools, mat] | ((first | apply goIf_b | apply goG_b | apply goTG_b | apply goOG_b) <;> intro h <;> ((try simp only [hnq] at h); (try simp only [h]); (try simp only [hnr] at h)) <;> (try (exfalso; omega))))
theorem d_nil_impl_GreedyCode (r : Int) : Den PA f_impl_GreedyCode [.d (.agg [nil]), .d (di r)] [.any, .any] (.tup [.d nil, .d (di 1)]) := by
  refine den_go [] l_impl_GreedyCode ?_
  repeat' (first | simp -implicitDefEqProofs (maxSteps := 1000000) (disch := (first | omega | (simp only [go_sem] <;> omega) | fail)) only [go_sem, ints, bools, mat, c_impl_GreedyCode] | ((first | apply goIf_b | apply goG_b | apply goTG_b | apply goOG_b) <;> intro h <;> ((try simp only [hnq] at h); (try simp only [h]); (try simp only [hnr] at h)) <;> (try (exfalso; omega))))
  first | refine goC_call [.r, .r, .r] (d_nil_impl_ballCode 0 r) ?_ | refine goOC_call [.r, .r, .r] (d_nil_impl_ballCode 0 r) ?_
  repeat' (first | simp -implicitDefEqProofs (maxSteps := 1000000) (disch := (first | omega | (simp only [go_sem] <;> omega) | fail)) only [go_sem, ints, bools, mat] | ((first | apply goIf_b | apply goG_b | apply goTG_b | apply goOG_b) <;> intro h <;> ((try simp only [hnq] at h); (try simp only [h]); (try simp only [hnr] at h)) <;> (try (exfalso; omega))))
theorem d_nil_spec_GreedyCode (r : Int) : Den PA f_spec_GreedyCode [.d (.agg [nil]), .d (di r)] [.any, .any] (.tup [.d nil, .d (di 1)]) := by
  refine den_go [] l_spec_GreedyCode ?_
  repeat' (first | simp -implicitDefEqProofs (maxSteps := 1000000) (disch := (first | omega | (simp only [go_sem] <;> omega) | fail)) only [go_sem, ints, bools, mat, c_spec_GreedyCode] | ((first | apply goIf_b | apply goG_b | apply goTG_b | apply goOG_b) <;> intro h <;> ((try simp only [hnq] at h); (try simp only [h]); (try simp only [hnr] at h)) <;> (try (exfalso; omega))))
  first | refine goC_call [.r] (d_nil_spec_l01Is) ?_ | refine goOC_call [.r] (d_nil_spec_l01Is) ?_
  repeat' (first | simp -implicitDefEqProofs (maxSteps := 1000000) (disch := (first | omega | (simp only [go_sem] <;> omega) | fail)) only [go_sem, ints, bools, mat] | ((first | apply goIf_b | apply goG_b | apply goTG_b | apply goOG_b) <;> intro h <;> ((try simp only [hnq] at h); (try simp only [h]); (try simp only [hnr] at h)) <;> (try (exfalso; omega))))
theorem cv_facts {X : D} {o c : List Int} (r : Int) (hX : drL X o) (hc : c.length < 1048577) : (∃ T n b ex e2, CvF X c r T n b ex e2) ∨ ∃ e, e ≠ 0 ∧ CvN X c r e := by
  obtain ⟨hX1, hX2, hX3⟩ := hX
  rcases hX1 with rfl | ⟨rfl, rfl⟩
  · have h1 := d_impl_CoverCounts o c r hX2 hc
    have h2 := d_spec_CoverCounts o c r hX2 hc
    have h3 := d_impl_ExcessOf o c r hX2 hc
    have h4 := d_spec_ExcessOf o c r hX2 hc
    by_cases h : ccM o c r = 0
    · obtain ⟨hs, hcc, hr⟩ := ccM_ok h
      have hp1 := prodM_pos (isSpaceM_szs hs)
      have hpr := isSpaceM_prod hs
      have hcl := isCodeM_len hcc
      have hbz := bz_pos hs hr.1
      have h5 := d_impl_CountWords o hs
      have h6 := d_impl_BallSize o r hX2
      have hrc : rcM o r = 0 := by unfold rcM; rw [if_pos hs, if_pos hr]
      have htb : ∀ i, 0 ≤ (ctM o c r).getD i 0 ∧ (ctM o c r).getD i 0 ≤ 1024 := fun i => by
        have := hist_bnd (c.length + 1) (timesM o c r) i
        rw [timesN_len] at this
        show 0 ≤ (hist _ _).getD i 0 ∧ (hist _ _).getD i 0 ≤ 1024
        omega
      have htl : (ctM o c r).length = c.length + 1 := hist_len _ _
      have h7 := d_laws_sum2 (ctM o c r) (by omega) fun i => by have := htb i; omega
      rw [ct_sum, show (((prodM o).toNat : Nat) : Int) = prodM o by omega] at h7
      have hk := ct_ksum (c := c) hs hr.1
      have hz := ct_zero o c r
      have hex : exN o c r (prodM o).toNat = c.length * bzM o r - (prodM o).toNat := by
        rw [← tm_sum hs hr.1]; exact sgS_sub1 (fun i => (timesM o c r).getD i 0) (prodM o).toNat
      rw [lstR_ok h] at h1 h2
      rw [bsR1, if_pos hrc, hrc] at h6
      have hee : exE o c r = if 0 ∈ timesM o c r then 5 else 0 := by unfold exE; rw [if_pos h]
      refine .inl ⟨_, _, _, _, _, ⟨htl, by omega, htb, by omega, by omega, by rw [hk, Int.mul_comm], fun e => ?_, fun e => ?_, h1, h2, h3, h4, h5, h6, h7⟩⟩
      · rw [hee] at e
        split at e
        · cases e
        · rename_i hn
          refine ⟨hz.2 hn, ?_⟩
          rw [hee, if_neg hn, if_pos rfl, hex, Int.mul_comm]
          omega
      · rw [hee] at e
        split at e
        · rename_i hm; exact fun hh => hz.1 hh hm
        · exact absurd rfl e
    · have ex : exE o c r = ccM o c r := by unfold exE; rw [if_neg h]
      rw [lstR_no h] at h1 h2
      rw [exR, ex, if_neg h] at h3 h4
      exact .inr ⟨_, h, ⟨h1, h2, h3, h4⟩⟩
  · exact .inr ⟨1, by decide, ⟨d_nil_impl_CoverCounts c r, d_nil_spec_CoverCounts c r, d_nil_impl_ExcessOf c r, d_nil_spec_ExcessOf c r⟩⟩
theorem tc_facts {X : D} {o c : List Int} (w r : Int) (hX : drL X o) (hc : c.length < 1048577) : ∃ (t e : Int), (e = 0 → 0 ≤ t ∧ t ≤ c.length) ∧ Den PA f_impl_TimesCovered [.d (.agg [X]), .d (ints c), .d (di w), .d (di r)] [.any, .any, .any, .any] (.tup [.d (di t), .d (di e)]) ∧ Den PA f_spec_TimesCovered [.d (.agg [X]), .d (ints c), .d (di w), .d (di r)] [.any, .any, .any, .any] (.tup [.d (di t), .d (di e)]) := by
  obtain ⟨hX1, hX2, hX3⟩ := hX
  rcases hX1 with rfl | ⟨rfl, rfl⟩
  · refine ⟨_, _, fun h => ?_, d_impl_TimesCovered o c w r hX2 hc, d_spec_TimesCovered o c w r hX2 hc⟩
    rw [if_pos h]
    unfold tcE at h
    split at h
    · rename_i h1
      obtain ⟨hs, hw, hcc⟩ := gcM_ok h1
      have hww := (areW_ok o [w]).1 hw 0 (by simp)
      simp only [List.getD_cons_zero] at hww
      exact tm_bnd (by omega)
    · rename_i h1; exact absurd h h1
  · refine ⟨0, 1, fun h => absurd h (by decide), d_nil_impl_TimesCovered c w r, d_nil_spec_TimesCovered c w r⟩
theorem gc_facts {X : D} {o : List Int} (m : Int) (hX : drL X o) : (∃ G b, GcF X m G b) ∨ ∃ e, e ≠ 0 ∧ GcN X m e := by
  obtain ⟨hX1, hX2, hX3⟩ := hX
  rcases hX1 with rfl | ⟨rfl, rfl⟩
  · have h1 := d_impl_GreedyCode o m hX2
    have h2 := d_spec_GreedyCode o m hX2
    by_cases h : rcM o m = 0
    · obtain ⟨hs, hr0, hr8⟩ := rcM_ok' h
      have hpr := isSpaceM_prod hs
      obtain ⟨g1, g2, g3⟩ := grM_ok hs hr0
      have h3 := d_impl_CoversSpace o (grM o m) m hX2 (by omega)
      have h4 := d_impl_BallBound o m hX2
      have hcc : ccM o (grM o m) m = 0 := by rw [ccM, ggM, if_pos hs, if_pos g1, if_pos rfl, if_pos ⟨hr0, hr8⟩]
      have hle := cov_bound hs hr0 g3
      rw [lstR_ok h] at h1 h2
      rw [cvsR, if_pos hcc, hcc, g3] at h3
      rw [bbR, if_pos h, h] at h4
      exact .inl ⟨_, _, ⟨by omega, hle, h1, h2, h3, h4⟩⟩
    · rw [lstR_no h] at h1 h2
      exact .inr ⟨_, h, ⟨h1, h2⟩⟩
  · exact .inr ⟨1, by decide, ⟨d_nil_impl_GreedyCode m, d_nil_spec_GreedyCode m⟩⟩
end Go.Proofs.Ytfgjfjgkoabfjab.Va
