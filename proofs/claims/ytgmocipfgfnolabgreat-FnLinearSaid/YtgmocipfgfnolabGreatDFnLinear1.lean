/- Contracts of the functions that FnLinear reaches (part 1). Condition: none. -/
import Derived.Test.YtgmocipfgfnolabGreatDFnLinear0
set_option linter.all false
set_option linter.unusedSimpArgs false
set_option linter.unusedVariables false
namespace Go.Proofs.YtgmocipfgfnolabGreat.Va
open Go
set_option maxHeartbeats 4000000
set_option maxRecDepth 100000
def zeB (l : List Int) (t : Nat) (u : Int) : Bool := (List.range t).all fun j => (digM l u).getD j 0 == 0
theorem zeB_ok {l : List Int} {t : Nat} {u : Int} : zeB l t u = true ↔ ∀ j, j < t → (digM l u).getD j 0 = 0 := by
  simp only [zeB, List.all_eq_true, List.mem_range, beq_iff_eq]
theorem zeB_step (l : List Int) (t : Nat) (u : Int) : zeB l (t + 1) u = (zeB l t u && ((digM l u).getD t 0 == 0)) := by
  rw [zeB, zeB, List.range_succ, List.all_append]; simp [-List.getD_eq_getElem?_getD]
theorem zeB_filter (l c : List Int) (t : Nat) : c.filter (zeB l (t + 1)) = (c.filter (zeB l t)).filter fun u => (digM l u).getD t 0 == 0 := by
  rw [List.filter_filter]; congr 1; funext u; rw [zeB_step, Bool.and_comm]
theorem addW_inj {l : List Int} (hz : szs l) {u v b : Int} {m : Nat} (hu : 0 ≤ u ∧ u < prodM l) (hv : 0 ≤ v ∧ v < prodM l) (h : addW l u b m = addW l v b m) : u = v := by
  refine word_eq hz hu hv fun i hi => ?_
  have h1 := addW_dig hz u b hi m
  have h2 := addW_dig hz v b hi m
  have a := dig_lt hz u hi
  have b' := dig_lt hz v hi
  rw [h, h2] at h1
  have h3 := Int.emod_eq_emod_iff_emod_sub_eq_zero.1 h1
  rw [Int.add_sub_add_right] at h3
  have hL := hz i hi
  rcases (show l.getD i 0 = 2 ∨ l.getD i 0 = 3 ∨ l.getD i 0 = 4 by omega) with e | e | e
  · rw [e] at h3 a b'; omega
  · rw [e] at h3 a b'; omega
  · rw [e] at h3 a b'; omega
def nP (l c : List Int) : Nat → Nat
  | 0 => 0
  | m + 1 => nP l c m + if pvB l c c.length m then 1 else 0
theorem bsN_nP {l c : List Int} (hs : isSpaceM l = true) (hcc : isCodeM l c = true) (hl : linB l c = true) : ∀ m, (bsN l c m).length = nP l c m
  | 0 => rfl
  | m + 1 => by
    rw [bsN, nP, List.length_append, bsN_nP hs hcc hl m]
    congr 1
    split
    · rename_i hp
      obtain ⟨w, h1, h2⟩ := fin_ex2 hs hcc hl hp
      obtain ⟨k, hk, rfl⟩ := List.mem_iff_getElem.1 h1
      rw [show c[k] = c.getD k 0 by simp [hk]] at h2
      rw [fin_one hs hcc hl (pvB_lt hp) hk h2]; rfl
    · rfl
theorem cls {l c : List Int} (hs : isSpaceM l = true) (hcc : isCodeM l c = true) (hl : linB l c = true) {t : Nat} (ht : pvB l c c.length t = true) {v : Int} (hv : 0 ≤ v ∧ v < l.getD t 0) :
    ((c.filter (zeB l t)).filter fun u => (digM l u).getD t 0 == v).length = ((c.filter (zeB l t)).filter fun u => (digM l u).getD t 0 == 0).length := by
  have hz := isSpaceM_szs hs
  have htl := pvB_lt ht
  obtain ⟨b, b1, b2, b3⟩ := piv_one hs hcc hl ht
  have nd := code_nd hcc
  have key : ∀ x y : Int, 0 ≤ x → x < l.getD t 0 → 0 ≤ y → y < l.getD t 0 →
      ((c.filter (zeB l t)).filter fun u => (digM l u).getD t 0 == x).length ≤ ((c.filter (zeB l t)).filter fun u => (digM l u).getD t 0 == y).length := fun x y hx hx2 hy hy2 => by
    refine inj_len ((nd.filter _).filter _) (fun u => addW l u b (y - x + l.getD t 0).toNat) (fun u hu => ?_) (fun u hu w hw e => ?_)
    · rw [List.mem_filter, List.mem_filter, zeB_ok, beq_iff_eq] at hu
      obtain ⟨⟨u1, u2⟩, u3⟩ := hu
      rw [List.mem_filter, List.mem_filter, zeB_ok, beq_iff_eq]
      refine ⟨⟨addW_in hs hcc hl u1 b1 _, fun j hj => ?_⟩, ?_⟩
      · rw [addW_dig hz u b (by omega), b3 j hj, u2 j hj, Int.mul_zero, Int.add_zero, Int.zero_emod]
      · rw [addW_dig hz u b htl, b2, u3, Int.mul_one, Int.toNat_of_nonneg (by omega), show x + (y - x + l.getD t 0) = y + l.getD t 0 by omega, Int.add_emod_right]
        exact Int.emod_eq_of_lt hy hy2
    · rw [List.mem_filter, List.mem_filter] at hu hw
      exact addW_inj hz (code_mem hcc hu.1.1) (code_mem hcc hw.1.1) e
  have hq := pq hs hl htl
  exact Nat.le_antisymm (key v 0 hv.1 hv.2 (by omega) (by omega)) (key 0 v (by omega) (by omega) hv.1 hv.2)
theorem cnt_step {l c : List Int} (hs : isSpaceM l = true) (hcc : isCodeM l c = true) (hl : linB l c = true) {t : Nat} (ht : t < l.length) :
    (c.filter (zeB l t)).length = (c.filter (zeB l (t + 1))).length * (if pvB l c c.length t then (l.getD 0 0).toNat else 1) := by
  have hz := isSpaceM_szs hs
  have hq := pq hs hl ht
  rw [zeB_filter]
  split
  · rename_i hp
    have hd : ∀ u, 0 ≤ (digM l u).getD t 0 ∧ (digM l u).getD t 0 < l.getD t 0 := fun u => dig_lt hz u ht
    rcases (show l.getD 0 0 = 2 ∨ l.getD 0 0 = 3 by omega) with e | e
    · have h1 := cls hs hcc hl hp (v := 1) (by omega)
      have h2 := part2 (fun u => (digM l u).getD t 0) (c.filter (zeB l t)) (fun u _ => by have := hd u; omega)
      rw [e, show (2 : Int).toNat = 2 from rfl]; omega
    · have h1 := cls hs hcc hl hp (v := 1) (by omega)
      have h1' := cls hs hcc hl hp (v := 2) (by omega)
      have h2 := part3 (fun u => (digM l u).getD t 0) (c.filter (zeB l t)) (fun u _ => by have := hd u; omega)
      rw [e, show (3 : Int).toNat = 3 from rfl]; omega
  · rename_i hp
    rw [Nat.mul_one]
    congr 1
    symm
    rw [List.filter_eq_self]
    intro u hu
    obtain ⟨u1, u2⟩ := List.mem_filter.1 hu
    rw [beq_iff_eq]
    by_cases e : (digM l u).getD t 0 = 0
    · exact e
    · exact (hp (pvB_in u1 (fdB_ok.2 ⟨e, zeB_ok.1 u2⟩))).elim
theorem cnt_all {l c : List Int} (hs : isSpaceM l = true) (hcc : isCodeM l c = true) (hl : linB l c = true) : ∀ t, t ≤ l.length → c.length = (c.filter (zeB l t)).length * (l.getD 0 0).toNat ^ nP l c t
  | 0, _ => by
    rw [nP, Nat.pow_zero, Nat.mul_one]
    congr 1; symm
    rw [List.filter_eq_self]; intro u _; rfl
  | t + 1, h => by
    rw [cnt_all hs hcc hl t (by omega), cnt_step hs hcc hl (by omega), nP]
    split
    · rw [Nat.pow_succ, Nat.mul_assoc]; congr 1; exact Nat.mul_comm _ _
    · rw [Nat.mul_one]; rfl
theorem lin_has0 {l c : List Int} (hs : isSpaceM l = true) (hcc : isCodeM l c = true) (hl : linB l c = true) : (0 : Int) ∈ c := by
  rw [linB, Bool.and_eq_true, Bool.and_eq_true] at hl
  obtain ⟨h1, h2⟩ := (zero_in hs hcc).1 hl.1.2
  rw [← h2]; exact mem_getD (by omega)
theorem lin_count {l c : List Int} (hs : isSpaceM l = true) (hcc : isCodeM l c = true) (hl : linB l c = true) : c.length = (l.getD 0 0).toNat ^ (bsM l c).length := by
  have h1 := cnt_all hs hcc hl l.length (Nat.le_refl _)
  have hz := isSpaceM_szs hs
  have h0 : ∀ u, u ∈ c → zeB l l.length u = true → u = 0 := fun u hu h => by
    refine word_eq hz (code_mem hcc hu) (code_mem hcc (lin_has0 hs hcc hl)) fun i hi => ?_
    rw [zeB_ok.1 h i hi, digM_get l 0 i hi, Int.zero_ediv, Int.zero_emod]
  have e : (c.filter (zeB l l.length)).length = 1 := by
    have hm : (0 : Int) ∈ c.filter (zeB l l.length) := List.mem_filter.2 ⟨lin_has0 hs hcc hl, zeB_ok.2 fun j hj => by rw [digM_get l 0 j hj, Int.zero_ediv, Int.zero_emod]⟩
    have nd := (code_nd hcc).filter (zeB l l.length)
    cases hf : c.filter (zeB l l.length) with
    | nil => rw [hf] at hm; cases hm
    | cons x r =>
      cases r with
      | nil => rfl
      | cons y r =>
        exfalso
        have hx : x ∈ c.filter (zeB l l.length) := by rw [hf]; exact List.mem_cons_self
        have hy : y ∈ c.filter (zeB l l.length) := by rw [hf]; exact List.mem_cons_of_mem _ List.mem_cons_self
        rw [hf, List.pairwise_cons] at nd
        rw [List.mem_filter] at hx hy
        exact nd.1 y List.mem_cons_self (by rw [h0 x hx.1 hx.2, h0 y hy.1 hy.2])
  rw [e, Nat.one_mul] at h1
  rw [bsM, bsN_nP hs hcc hl]; exact h1
abbrev dimR (l c : List Int) : R := .tup [.d (di (if lnM l c = 0 then (bsM l c).length else 0)), .d (di (lnM l c))]
theorem d_impl_DimensionOf (l c : List Int) (hl : l.length < 1048577) (hc : c.length < 1048577) : Den PA f_impl_DimensionOf [.d (.agg [ints l]), .d (ints c)] [.any, .any] (dimR l c) := by
  refine den_go [] l_impl_DimensionOf ?_
  refine go_c0 ?_
  have yc := d_impl_linearCode0 l c hl hc; first | refine goC_call [.r, .r, .r] yc ?_ | refine goOC_call [.r, .r, .r] yc ?_
  by_cases h : lnM l c = 0
  · rw [dimR, if_pos h, h]
    obtain ⟨hs, hcc, hlin⟩ := lnM_ok h
    have y1 := kc [.r, .r] (d_impl_basis l c hs hcc hlin hc); exact go_e0
  · rw [dimR, if_neg h]
    generalize lnM l c = b at h
    repeat' (first | simp -implicitDefEqProofs (maxSteps := 1000000) (disch := (first | omega | (simp only [go_sem] <;> omega) | fail)) only [go_sem, ints, bools, mat] | ((first | apply goIf_b | apply goG_b | apply goTG_b | apply goOG_b) <;> intro h <;> ((try simp only [hnq] at h); (try simp only [h]); (try simp only [hnr] at h))))
    all_goals (exfalso; omega)
theorem d_spec_l05Dimension (l c : List Int) (hs : isSpaceM l = true) (hcc : isCodeM l c = true) (hl : linB l c = true) (hc : c.length < 1048577) : Den PA f_spec_l05Dimension [.d (.agg [ints l]), .d (ints c)] [.any, .any] (.d (di (bsM l c).length)) := by
  have hn := isSpaceM_n hs
  have hq := pq hs hl (i := 0) (by omega)
  have hcn := lin_count hs hcc hl
  obtain ⟨Q, hQ⟩ : ∃ Q : Nat, l.getD 0 0 = Q := ⟨(l.getD 0 0).toNat, by omega⟩
  have hQ2 : 2 ≤ Q ∧ Q ≤ 3 := by omega
  have hbl := bsN_len hs hcc hl l.length
  rw [hQ, Int.toNat_natCast] at hcn
  generalize hr : (bsM l c).length = r at hcn
  have hr8 : r ≤ 8 := by rw [← hr]; exact Nat.le_trans hbl (by omega)
  refine den_go [] l_spec_l05Dimension ?_
  refine go_c0 ?_
  refine go_loop (fun (k : Nat) => ⟨[(1, .d (ints c)), (2, .ref 0 0), (5, .d (di k)), (6, .d (di ((Q ^ k : Nat) : Int)))], [some (.var [ints l])]⟩) (fun k => k ≤ r) (fun k => r - k) 0 ?_ ?_ ?_
  · simp -implicitDefEqProofs (maxSteps := 1000000) (disch := (first | omega | (simp only [go_sem] <;> omega) | fail)) only [go_sem, ints, bools, mat]; simp
  · simp
  · rintro k hk J hJ
    have h1 : k < r → Q ^ k < Q ^ r := fun h => Nat.pow_lt_pow_right (by omega) h
    have h2 : k < r → Q ^ (k + 1) ≤ Q ^ r := fun h => Nat.pow_le_pow_right (by omega) h
    have h3 : ((Q ^ (k + 1) : Nat) : Int) = ((Q ^ k : Nat) : Int) * (Q : Int) := by rw [Nat.pow_succ, Int.natCast_mul]
    have h4 : k = r → Q ^ k = c.length := fun h => by rw [h, hcn]
    rw [← hcn] at h1 h2
    generalize hA : Q ^ k = A at h1 h3 h4
    generalize hB : Q ^ (k + 1) = B at h2 h3
    have h5 : (A : Int) * l.getD 0 0 = B := by rw [hQ, h3]
    repeat' (first | simp -implicitDefEqProofs (maxSteps := 1000000) (disch := (first | omega | (simp only [go_sem] <;> omega) | fail)) only [go_sem, ints, bools, mat] | ((first | apply goIf_b | apply goG_b | apply goTG_b | apply goOG_b) <;> intro h <;> ((try simp only [hnq] at h); (try simp only [h]); (try simp only [hnr] at h))))
    · have hkr : k ≠ r := fun e => by have := h4 e; omega
      refine hJ (k + 1) (by omega) (by omega) _ ?_
      simp -implicitDefEqProofs (maxSteps := 1000000) (disch := (first | omega | (simp only [go_sem] <;> omega) | fail)) only [go_sem, ints, bools, mat]
      rw [hB, h5]; rfl
    · have hkr : k = r := by
        by_cases e : k = r
        · exact e
        · have := h1 (by omega); omega
      subst hkr
      rfl
theorem d_spec_DimensionOf (l c : List Int) (hl : l.length < 1048577) (hc : c.length < 1048577) : Den PA f_spec_DimensionOf [.d (.agg [ints l]), .d (ints c)] [.any, .any] (dimR l c) := by
  refine den_go [] l_spec_DimensionOf ?_
  refine go_c0 ?_
  have yc := d_spec_l05Given l c hl hc; first | refine goC_call [.r, .r] yc ?_ | refine goOC_call [.r, .r] yc ?_
  by_cases h : lnM l c = 0
  · rw [dimR, if_pos h, h]
    obtain ⟨hs, hcc, hlin⟩ := lnM_ok h
    have y1 := kc [.r, .r] (d_spec_l05Dimension l c hs hcc hlin hc); exact go_e0
  · rw [dimR, if_neg h]
    generalize lnM l c = b at h
    repeat' (first | simp -implicitDefEqProofs (maxSteps := 1000000) (disch := (first | omega | (simp only [go_sem] <;> omega) | fail)) only [go_sem, ints, bools, mat] | ((first | apply goIf_b | apply goG_b | apply goTG_b | apply goOG_b) <;> intro h <;> ((try simp only [hnq] at h); (try simp only [h]); (try simp only [hnr] at h))))
    all_goals (exfalso; omega)
@[go_sem] theorem mask32 {x : Int} (h : 0 ≤ x) (h' : x < 4294967296) : binA .and (.d (.v (.int .u64 x))) (.d (.v (.int .u64 4294967295))) = some (.d (.v (.int .u64 x))) := by
  have e : (BitVec.ofInt 64 x &&& BitVec.ofInt 64 4294967295).toNat = x.toNat := by
    rw [BitVec.toNat_and, ofInt_nat h (by omega), ofInt_nat (by omega) (by omega)]
    have := Nat.and_two_pow_sub_one_eq_mod x.toNat 32
    rw [show (4294967295 : Int).toNat = 2 ^ 32 - 1 from rfl, this]
    exact Nat.mod_eq_of_lt (by omega)
  have e2 : binI .and .u64 x 4294967295 = some (.int .u64 (IntKind.wrap .u64 ((BitVec.ofInt 64 x &&& BitVec.ofInt 64 4294967295).toNat : Nat))) := rfl
  simp only [binA, e2, BinOp.isShift, or_true, if_true, e, Option.map_some]
  rw [wrap_u64 (by omega) (by omega), Int.toNat_of_nonneg h]
@[go_sem] theorem shr32 {x : Int} (h : 0 ≤ x) (h' : x < 4294967296) : binA .shr (.d (.v (.int .u64 x))) (.d (.v (.int .u64 32))) = some (.d (.v (.int .u64 0))) := by
  have e : min (32 : Int).toNat 64 = 32 := rfl
  have h1 : (0 : Int) ≤ 2 ^ 32 := by decide
  simp only [binA, binI, BinOp.isShift, true_or, if_true, if_neg (show ¬ (32 : Int) < 0 by omega), IntKind.bits, e, Option.map_some, Int.fdiv_eq_ediv_of_nonneg _ h1]
  rw [Int.ediv_eq_zero_of_lt h (by exact h')]
@[go_sem] theorem cast_one1 : ((1 : Nat) : Int) = 1 := rfl
theorem d_spec_l01Has (c : List Int) (x : Int) (hc : c.length < 1048577) : Den PA f_spec_l01Has [.d (ints c), .d (di x)] [.any, .any] (.d (db (c.any fun y => y == x))) := by
  refine den_go [] l_spec_l01Has ?_
  refine go_c0 ?_
  refine go_loop (fun (j : Nat) => ⟨[(0, .d (ints c)), (1, .d (di x)), (5, .d (di j))], []⟩) (fun j => j ≤ c.length ∧ ∀ i, i < j → c.getD i 0 ≠ x) (fun j => c.length - j) 0 ?_ ?_ ?_
  · exact go_r0
  · simp
  · rintro j ⟨hj, hi⟩ J hJ
    repeat' (first | simp -implicitDefEqProofs (maxSteps := 1000000) (disch := (first | omega | (simp only [go_sem] <;> omega) | fail)) only [go_sem, ints, bools, mat] | ((first | apply goIf_b | apply goG_b | apply goTG_b | apply goOG_b) <;> intro h <;> ((try simp only [hnq] at h); (try simp only [h]); (try simp only [hnr] at h))))
    · refine dbT (List.any_eq_true.2 ⟨_, mem_getD (l := c) (j := j) (by omega), ?_⟩)
      rw [beq_iff_eq]; assumption
    · refine hJ (j + 1) ⟨by omega, all_ext hi (by assumption)⟩ (by omega) _ go_r0
    · refine dbF fun h' => ?_
      obtain ⟨y, hy, e⟩ := List.any_eq_true.1 h'
      obtain ⟨k, hk, rfl⟩ := List.mem_iff_getElem.1 hy
      refine hi k (by omega) ?_
      rw [beq_iff_eq] at e; simp [hk, e]
def vecs : List Int → List (List Int)
  | [] => [[]]
  | q :: r => (List.range q.toNat).flatMap fun (d : Nat) => (vecs r).map fun v => (d : Int) :: v
theorem range_mul (b : Nat) : ∀ a : Nat, List.range (a * b) = (List.range a).flatMap fun i => (List.range b).map fun j => i * b + j
  | 0 => by simp
  | a + 1 => by
    rw [Nat.add_mul, Nat.one_mul, List.range_add, range_mul b a, List.range_succ, List.flatMap_append]
    simp
theorem digM_per : ∀ {r : List Int}, szs r → ∀ (w d : Int), digM r (w + d * prodM r) = digM r w
  | [], _, _, _ => rfl
  | q :: r, h, w, d => by
    have hp := prodM_pos (szs_tail h)
    rw [digM, digM, prodM_cons, ← Int.mul_assoc, digM_per (szs_tail h), Int.add_mul_ediv_right _ _ (by omega), Int.add_mul_emod_self_right]
theorem vecs_ok : ∀ {l : List Int}, szs l → (allW l).map (digM l) = vecs l
  | [], _ => by simp [allW, prodM_nil, vecs, digM, List.range_succ]
  | q :: r, h => by
    have hp := prodM_pos (szs_tail h)
    have hq := h 0 (by simp)
    simp at hq
    have ih := vecs_ok (szs_tail h)
    rw [vecs, ← ih]
    have e : (prodM (q :: r)).toNat = q.toNat * (prodM r).toNat := by rw [prodM_cons, Int.toNat_mul (by omega) (by omega)]
    have fc : ∀ (L : List Nat) (f g : Nat → List (List Int)), (∀ a, a ∈ L → f a = g a) → L.flatMap f = L.flatMap g := fun L f g hh => by
      induction L with
      | nil => rfl
      | cons x L ih => rw [List.flatMap_cons, List.flatMap_cons, hh x List.mem_cons_self, ih fun a ha => hh a (List.mem_cons_of_mem _ ha)]
    rw [allW, e, range_mul, List.map_flatMap, List.map_flatMap]
    refine fc _ _ _ fun d hd => ?_
    have hd := List.mem_range.1 hd
    rw [allW, List.map_map, List.map_map, List.map_map, List.map_map]
    refine List.map_congr_left fun j hj => ?_
    have hj := List.mem_range.1 hj
    simp only [Function.comp]
    have e2 : ((d * (prodM r).toNat + j : Nat) : Int) = (j : Int) + (d : Int) * prodM r := by
      rw [Int.natCast_add, Int.natCast_mul, Int.toNat_of_nonneg (by omega)]; omega
    rw [e2, digM, digM_per (szs_tail h), Int.add_mul_ediv_right _ _ (by omega), Int.ediv_eq_zero_of_lt (by omega) (by omega), Int.zero_add, Int.emod_eq_of_lt (by omega) (by omega)]
def wtN : List Int → Nat
  | [] => 0
  | d :: r => (if d = 0 then 0 else 1) + wtN r
def dotN : List Int → List Int → Int
  | a :: x, b :: y => a * b + dotN x y
  | _, _ => 0
theorem sN_cons (a b : Int) (x y : List Int) : ∀ j, sN (a :: x) (b :: y) (j + 1) = a * b + sN x y j
  | 0 => by simp [sN]
  | j + 1 => by rw [sN, sN_cons a b x y j, sN, Int.add_assoc]; rfl
theorem sN_dot : ∀ (x y : List Int), x.length = y.length → sN x y x.length = dotN x y
  | [], [], _ => rfl
  | a :: x, b :: y, h => by rw [List.length_cons, sN_cons, sN_dot x y (by simpa using h)]; rfl
theorem far_wt : ∀ (l : List Int) (w : Int), distM l 0 w = wtN (digM l w)
  | [], _ => rfl
  | q :: r, w => by
    have := far_wt r w
    rw [distM] at this
    rw [distM, digM, digM, farM, wtN, this, Int.zero_ediv, Int.zero_emod]
    by_cases e : w / prodM r % q = 0
    · rw [if_pos e.symm, if_pos e]; omega
    · rw [if_neg fun e' => e e'.symm, if_neg e]; omega
def cntV (q : Int) (l c : List Int) (k : Nat) (t : Int) : Nat := ((vecs l).filter fun v => wtN v == k && dotN c v % q == t).length
def dn (f : Nat → Int) (k : Nat) : Int := if k = 0 then 0 else f (k - 1)
theorem cnt_part (q : Int) (r c : List Int) (a : Int) (d : Int) (k : Nat) (t : Int) (t' : Int) (ht : ∀ x : Int, ((a * d + x) % q == t) = (x % q == t')) :
    ((((vecs r).map fun v => d :: v).filter fun v => wtN v == k && dotN (a :: c) v % q == t).length : Int) = if d = 0 then (cntV q r c k t' : Int) else dn (fun k => (cntV q r c k t' : Int)) k := by
  rw [List.filter_map, List.length_map]
  split
  · rename_i e
    subst e
    congr 1; unfold cntV; congr 1; congr 1; funext v
    simp only [Function.comp, wtN, dotN, if_true, Nat.zero_add, ht]
  · rename_i e
    unfold dn
    split
    · rename_i hk
      subst hk
      rw [List.filter_eq_nil_iff.2]
      · rfl
      · intro v _
        simp only [Function.comp, wtN, if_neg e]
        have : (1 + wtN v == 0) = false := by rw [beq_eq_false_iff_ne]; omega
        rw [this]; simp
    · rename_i hk
      congr 1; unfold cntV; congr 1; congr 1; funext v
      simp only [Function.comp, wtN, dotN, if_neg e, ht]
      congr 1
      rw [Bool.eq_iff_iff, beq_iff_eq, beq_iff_eq]; omega
theorem vecs2 (r : List Int) : vecs (2 :: r) = ((vecs r).map fun v => (0 : Int) :: v) ++ ((vecs r).map fun v => (1 : Int) :: v) := by
  simp [vecs, List.range_succ]
theorem vecs3 (r : List Int) : vecs (3 :: r) = ((vecs r).map fun v => (0 : Int) :: v) ++ ((vecs r).map fun v => (1 : Int) :: v) ++ ((vecs r).map fun v => (2 : Int) :: v) := by
  simp [vecs, List.range_succ]
theorem cnt2 (r c : List Int) (a : Int) (ha : a = 0 ∨ a = 1) (k : Nat) (t : Int) (ht : t = 0 ∨ t = 1) :
    (cntV 2 (2 :: r) (a :: c) k t : Int) = cntV 2 r c k t + dn (fun k => (cntV 2 r c k ((t - a) % 2) : Int)) k := by
  have h0 := cnt_part 2 r c a 0 k t t (fun x => by rw [Int.mul_zero, Int.zero_add])
  have h1 := cnt_part 2 r c a 1 k t ((t - a) % 2) (fun x => by rw [Bool.eq_iff_iff, beq_iff_eq, beq_iff_eq]; omega)
  rw [if_pos rfl] at h0
  rw [if_neg (by decide)] at h1
  rw [← h0, ← h1]
  rw [cntV, vecs2, List.filter_append, List.length_append]; omega
theorem cnt3 (r c : List Int) (a : Int) (ha : a = 0 ∨ a = 1 ∨ a = 2) (k : Nat) (t : Int) (ht : t = 0 ∨ t = 1 ∨ t = 2) :
    (cntV 3 (3 :: r) (a :: c) k t : Int) = cntV 3 r c k t + dn (fun k => (cntV 3 r c k ((t - a) % 3) : Int)) k + dn (fun k => (cntV 3 r c k ((t - 2 * a) % 3) : Int)) k := by
  have h0 := cnt_part 3 r c a 0 k t t (fun x => by rw [Int.mul_zero, Int.zero_add])
  have h1 := cnt_part 3 r c a 1 k t ((t - a) % 3) (fun x => by rw [Bool.eq_iff_iff, beq_iff_eq, beq_iff_eq]; omega)
  have h2 := cnt_part 3 r c a 2 k t ((t - 2 * a) % 3) (fun x => by rw [Bool.eq_iff_iff, beq_iff_eq, beq_iff_eq]; omega)
  rw [if_pos rfl] at h0
  rw [if_neg (by decide)] at h1 h2
  rw [← h0, ← h1, ← h2]
  rw [cntV, vecs3, List.filter_append, List.filter_append, List.length_append, List.length_append]; omega
def mulB (b : Int) (f : Nat → Int) (k : Nat) : Int := f k + b * dn f k
def pol (q : Int) : List Int → Nat → Int
  | [] => fun k => if k = 0 then 1 else 0
  | a :: c => mulB (if a = 0 then q - 1 else -1) (pol q c)
theorem dn_sub (f g h : Nat → Int) (hh : ∀ k, f k - g k = h k) (k : Nat) : dn f k - dn g k = dn h k := by
  unfold dn; split
  · rfl
  · exact hh _
theorem cnt_nil (q : Int) (hq : 2 ≤ q) (k : Nat) (t : Int) (h0 : 0 ≤ t) (h1 : t < q) : (cntV q [] [] k t : Int) = if k = 0 ∧ t = 0 then 1 else 0 := by
  unfold cntV
  simp only [vecs]
  by_cases hk : k = 0
  · by_cases ht : t = 0
    · subst hk; subst ht; rw [if_pos ⟨rfl, rfl⟩]; simp [wtN, dotN]
    · rw [if_neg fun e => ht e.2, List.filter_eq_nil_iff.2]
      · rfl
      · intro v hv
        rw [List.mem_singleton] at hv; subst hv
        simp only [wtN, dotN, Int.zero_emod]
        have : ((0 : Int) == t) = false := by rw [beq_eq_false_iff_ne]; omega
        rw [this, Bool.and_false]; decide
  · rw [if_neg fun e => hk e.1, List.filter_eq_nil_iff.2]
    · rfl
    · intro v hv
      rw [List.mem_singleton] at hv; subst hv
      have : (wtN [] == k) = false := by rw [beq_eq_false_iff_ne]; simp only [wtN]; omega
      rw [this, Bool.false_and]; decide
theorem dif2 : ∀ (l c : List Int), (∀ x, x ∈ l → x = 2) → c.length = l.length → (∀ i, 0 ≤ c.getD i 0 ∧ c.getD i 0 < 2) → ∀ k, (cntV 2 l c k 0 : Int) - cntV 2 l c k 1 = pol 2 c k
  | [], [], _, _, _, k => by
    rw [cnt_nil 2 (by omega) k 0 (by omega) (by omega), cnt_nil 2 (by omega) k 1 (by omega) (by omega), pol]
    by_cases hk : k = 0 <;> simp [hk]
  | q :: r, a :: c, hl, hc, ha, k => by
    obtain rfl : q = 2 := hl q List.mem_cons_self
    have ih := dif2 r c (fun x hx => hl x (List.mem_cons_of_mem _ hx)) (by simpa using hc) (fun i => by simpa using ha (i + 1))
    have h0 := ha 0
    simp only [List.getD_cons_zero] at h0
    rcases (show a = 0 ∨ a = 1 by omega) with rfl | rfl
    · rw [cnt2 r c 0 (by omega) k 0 (by omega), cnt2 r c 0 (by omega) k 1 (by omega), pol, mulB, if_pos rfl]
      have hd := dn_sub _ _ _ ih k
      have hk := ih k
      simp only [show ((0 : Int) - 0) % 2 = 0 from rfl, show ((1 : Int) - 0) % 2 = 1 from rfl]
      omega
    · rw [cnt2 r c 1 (by omega) k 0 (by omega), cnt2 r c 1 (by omega) k 1 (by omega), pol, mulB, if_neg (by decide)]
      have hd := dn_sub _ _ _ ih k
      have hk := ih k
      simp only [show ((0 : Int) - 1) % 2 = 1 from rfl, show ((1 : Int) - 1) % 2 = 0 from rfl]
      omega
theorem dif3 : ∀ (l c : List Int), (∀ x, x ∈ l → x = 3) → c.length = l.length → (∀ i, 0 ≤ c.getD i 0 ∧ c.getD i 0 < 3) → ∀ k, (cntV 3 l c k 0 : Int) - cntV 3 l c k 1 = pol 3 c k ∧ (cntV 3 l c k 0 : Int) - cntV 3 l c k 2 = pol 3 c k
  | [], [], _, _, _, k => by
    rw [cnt_nil 3 (by omega) k 0 (by omega) (by omega), cnt_nil 3 (by omega) k 1 (by omega) (by omega), cnt_nil 3 (by omega) k 2 (by omega) (by omega), pol]
    by_cases hk : k = 0 <;> simp [hk]
  | q :: r, a :: c, hl, hc, ha, k => by
    obtain rfl : q = 3 := hl q List.mem_cons_self
    have ih := dif3 r c (fun x hx => hl x (List.mem_cons_of_mem _ hx)) (by simpa using hc) (fun i => by simpa using ha (i + 1))
    have h0 := ha 0
    simp only [List.getD_cons_zero] at h0
    have hd1 := dn_sub _ _ _ (fun k => (ih k).1) k
    have hd2 := dn_sub _ _ _ (fun k => (ih k).2) k
    have hk := ih k
    rcases (show a = 0 ∨ a = 1 ∨ a = 2 by omega) with rfl | rfl | rfl
    · rw [cnt3 r c 0 (by omega) k 0 (by omega), cnt3 r c 0 (by omega) k 1 (by omega), cnt3 r c 0 (by omega) k 2 (by omega), pol, mulB, if_pos rfl]
      simp only [show ((0 : Int) - 0) % 3 = 0 from rfl, show ((1 : Int) - 0) % 3 = 1 from rfl, show ((2 : Int) - 0) % 3 = 2 from rfl, show ((0 : Int) - 2 * 0) % 3 = 0 from rfl, show ((1 : Int) - 2 * 0) % 3 = 1 from rfl, show ((2 : Int) - 2 * 0) % 3 = 2 from rfl]
      omega
    · rw [cnt3 r c 1 (by omega) k 0 (by omega), cnt3 r c 1 (by omega) k 1 (by omega), cnt3 r c 1 (by omega) k 2 (by omega), pol, mulB, if_neg (by decide)]
      simp only [show ((0 : Int) - 1) % 3 = 2 from rfl, show ((1 : Int) - 1) % 3 = 0 from rfl, show ((2 : Int) - 1) % 3 = 1 from rfl, show ((0 : Int) - 2 * 1) % 3 = 1 from rfl, show ((1 : Int) - 2 * 1) % 3 = 2 from rfl, show ((2 : Int) - 2 * 1) % 3 = 0 from rfl]
      omega
    · rw [cnt3 r c 2 (by omega) k 0 (by omega), cnt3 r c 2 (by omega) k 1 (by omega), cnt3 r c 2 (by omega) k 2 (by omega), pol, mulB, if_neg (by decide)]
      simp only [show ((0 : Int) - 2) % 3 = 1 from rfl, show ((1 : Int) - 2) % 3 = 2 from rfl, show ((2 : Int) - 2) % 3 = 0 from rfl, show ((0 : Int) - 2 * 2) % 3 = 2 from rfl, show ((1 : Int) - 2 * 2) % 3 = 0 from rfl, show ((2 : Int) - 2 * 2) % 3 = 1 from rfl]
      omega
theorem swap_cnt {α β : Type} (p : α → β → Bool) : ∀ (A : List α) (B : List β), (A.map fun u => (B.filter (p u)).length).sum = (B.map fun v => (A.filter fun u => p u v).length).sum
  | [], B => by induction B with
    | nil => rfl
    | cons b B ih => simpa using ih
  | a :: A, B => by
    rw [List.map_cons, List.sum_cons, swap_cnt p A B]
    clear swap_cnt
    induction B with
    | nil => simp
    | cons b B ih =>
      rw [List.map_cons, List.map_cons, List.sum_cons, List.sum_cons, List.filter_cons, List.filter_cons]
      split <;> simp_all <;> omega
theorem mod_lin (X S q : Int) (m : Int) : (X + m * S) % q = (X % q + m * (S % q)) % q := by
  have h : (m * (S % q)) % q = (m * S) % q := by rw [Int.mul_comm, mul_mod_l, Int.mul_comm]
  rw [Int.add_emod (X % q), Int.emod_emod, h, ← Int.add_emod]
theorem solve2 {x y s : Int} (hx : x = 0 ∨ x = 1) (hy : y = 0 ∨ y = 1) (hs : s = 1) : ∃ m : Nat, (x + (m : Int) * s) % 2 = y := by
  subst hs
  rcases hx with rfl | rfl <;> rcases hy with rfl | rfl <;> first | exact ⟨0, by decide⟩ | exact ⟨1, by decide⟩
theorem solve3 {x y s : Int} (hx : x = 0 ∨ x = 1 ∨ x = 2) (hy : y = 0 ∨ y = 1 ∨ y = 2) (hs : s = 1 ∨ s = 2) : ∃ m : Nat, (x + (m : Int) * s) % 3 = y := by
  rcases hx with rfl | rfl | rfl <;> rcases hy with rfl | rfl | rfl <;> rcases hs with rfl | rfl <;> first | exact ⟨0, by decide⟩ | exact ⟨1, by decide⟩ | exact ⟨2, by decide⟩
theorem solveq {q x y s : Int} (hq : 2 ≤ q ∧ q ≤ 3) (hx : 0 ≤ x ∧ x < q) (hy : 0 ≤ y ∧ y < q) (hs : 0 < s ∧ s < q) : ∃ m : Nat, (x + (m : Int) * s) % q = y := by
  rcases (show q = 2 ∨ q = 3 by omega) with rfl | rfl
  · exact solve2 (by omega) (by omega) (by omega)
  · exact solve3 (by omega) (by omega) (by omega)
theorem fib {l c : List Int} (hs : isSpaceM l = true) (hcc : isCodeM l c = true) (hl : linB l c = true) {w : Int} (hw : orB l c w = false) {x y : Int} (hx : 0 ≤ x ∧ x < l.getD 0 0) (hy : 0 ≤ y ∧ y < l.getD 0 0) :
    (c.filter fun u => sN (digM l u) (digM l w) l.length % l.getD 0 0 == x).length ≤ (c.filter fun u => sN (digM l u) (digM l w) l.length % l.getD 0 0 == y).length := by
  have hz := isSpaceM_szs hs
  have hn := isSpaceM_n hs
  have hq := pq hs hl (i := 0) (by omega)
  rw [orB, List.all_eq_false] at hw
  obtain ⟨u0, hu0, h0⟩ := hw
  rw [beq_iff_eq] at h0
  have h1 := Int.emod_nonneg (sN (digM l u0) (digM l w) l.length) (show l.getD 0 0 ≠ 0 by omega)
  have h2 := Int.emod_lt_of_pos (sN (digM l u0) (digM l w) l.length) (show 0 < l.getD 0 0 by omega)
  obtain ⟨m, hm⟩ := solveq hq.2 hx hy (s := sN (digM l u0) (digM l w) l.length % l.getD 0 0) ⟨by omega, h2⟩
  refine inj_len ((code_nd hcc).filter _) (fun u => addW l u u0 m) (fun u hu => ?_) (fun u hu v hv e => ?_)
  · obtain ⟨a, b⟩ := List.mem_filter.1 hu
    rw [beq_iff_eq] at b
    refine List.mem_filter.2 ⟨addW_in hs hcc hl a hu0 m, ?_⟩
    rw [beq_iff_eq, sN_lin hz (l.getD 0 0) (fun i hi => (pq hs hl hi).1) u u0 m _ l.length (Nat.le_refl _), mod_lin, b]
    exact hm
  · exact addW_inj hz (code_mem hcc (List.mem_filter.1 hu).1) (code_mem hcc (List.mem_filter.1 hv).1) e
def wOf (l : List Int) (k : Nat) (w : Int) : Bool := wtN (digM l w) == k
theorem cnt_words {l : List Int} (hz : szs l) (q u t : Int) (k : Nat) : cntV q l (digM l u) k t = ((allW l).filter fun w => wOf l k w && (sN (digM l u) (digM l w) l.length % q == t)).length := by
  rw [cntV, ← vecs_ok hz, List.filter_map, List.length_map]
  congr 2
  funext w
  simp only [Function.comp, wOf]
  rw [← sN_dot (digM l u) (digM l w) (by rw [digM_len, digM_len]), digM_len]
theorem sum_sub (A : List Int) (f : Int → Int) (g h : Int → Nat) (e : ∀ u, u ∈ A → f u = (g u : Int) - (h u : Int)) : (A.map f).sum = ((A.map g).sum : Int) - ((A.map h).sum : Int) := by
  induction A with
  | nil => rfl
  | cons a A ih =>
    rw [List.map_cons, List.map_cons, List.map_cons, List.sum_cons, List.sum_cons, List.sum_cons, ih fun u hu => e u (List.mem_cons_of_mem _ hu), e a List.mem_cons_self]
    omega
theorem sum_diff (B : List Int) (N : Nat) (f g : Int → Nat) (p : Int → Bool) (e : ∀ w, w ∈ B → (f w : Int) - (g w : Int) = if p w = true then (N : Int) else 0) : ((B.map f).sum : Int) - ((B.map g).sum : Int) = N * (B.filter p).length := by
  induction B with
  | nil => simp
  | cons a B ih =>
    have h1 := e a List.mem_cons_self
    have h2 := ih fun u hu => e u (List.mem_cons_of_mem _ hu)
    rw [List.map_cons, List.map_cons, List.sum_cons, List.sum_cons, List.filter_cons]
    split
    · rename_i hp
      rw [if_pos hp] at h1
      simp only [List.length_cons, Int.natCast_add, Int.natCast_one, Int.mul_add, Int.mul_one]; omega
    · rename_i hp
      rw [if_neg hp] at h1
      omega
theorem pol_cnt {l c : List Int} (hs : isSpaceM l = true) (hl : linB l c = true) (u : Int) (k : Nat) : pol (l.getD 0 0) (digM l u) k = (cntV (l.getD 0 0) l (digM l u) k 0 : Int) - cntV (l.getD 0 0) l (digM l u) k 1 := by
  have hz := isSpaceM_szs hs
  have hn := isSpaceM_n hs
  have hq := pq hs hl (i := 0) (by omega)
  have hall : ∀ x, x ∈ l → x = l.getD 0 0 := fun x hx => by
    obtain ⟨i, hi, rfl⟩ := List.mem_iff_getElem.1 hx
    have := (pq hs hl hi).1
    simpa [hi] using this
  have hd : ∀ i, 0 ≤ (digM l u).getD i 0 ∧ (digM l u).getD i 0 < l.getD 0 0 := fun i => by
    by_cases hi : i < l.length
    · have := dig_lt hz u hi; rw [(pq hs hl hi).1] at this; exact this
    · rw [List.getD_eq_getElem?_getD, List.getElem?_eq_none (by rw [digM_len]; omega)]
      exact ⟨Int.le_refl _, by simp only [Option.getD_none]; omega⟩
  generalize l.getD 0 0 = q at hall hq hd
  rcases (show q = 2 ∨ q = 3 by omega) with rfl | rfl
  · exact (dif2 l (digM l u) hall (digM_len l u) hd k).symm
  · exact (dif3 l (digM l u) hall (digM_len l u) hd k).1.symm
def duW (l c : List Int) (k : Nat) : Nat := ((duM l c).filter (wOf l k)).length
theorem mac {l c : List Int} (hs : isSpaceM l = true) (hcc : isCodeM l c = true) (hl : linB l c = true) (k : Nat) : (c.map fun u => pol (l.getD 0 0) (digM l u) k).sum = (c.length : Int) * duW l c k := by
  have hz := isSpaceM_szs hs
  have hn := isSpaceM_n hs
  have hq := pq hs hl (i := 0) (by omega)
  rw [sum_sub c _ (fun u => ((allW l).filter fun w => wOf l k w && (sN (digM l u) (digM l w) l.length % l.getD 0 0 == 0)).length) (fun u => ((allW l).filter fun w => wOf l k w && (sN (digM l u) (digM l w) l.length % l.getD 0 0 == 1)).length) (fun u _ => by rw [pol_cnt hs hl, cnt_words hz, cnt_words hz])]
  rw [swap_cnt (fun u w => wOf l k w && (sN (digM l u) (digM l w) l.length % l.getD 0 0 == 0)), swap_cnt (fun u w => wOf l k w && (sN (digM l u) (digM l w) l.length % l.getD 0 0 == 1))]
  rw [sum_diff (allW l) c.length _ _ (fun w => wOf l k w && orB l c w)]
  · congr 2
    rw [duW, duM, List.filter_filter]
  · intro w _
    cases hk : wOf l k w with
    | false =>
      simp only [Bool.false_and, Bool.false_eq_true, if_false]
      simp
    | true =>
      simp only [Bool.true_and]
      cases ho : orB l c w with
      | true =>
        rw [if_pos rfl]
        rw [orB, List.all_eq_true] at ho
        rw [List.filter_eq_self.2 ho, List.filter_eq_nil_iff.2]
        · simp
        · intro u hu
          have := ho u hu
          rw [beq_iff_eq] at this
          rw [this]; decide
      | false =>
        rw [if_neg (by decide)]
        have a := fib hs hcc hl ho (x := 0) (y := 1) (by omega) (by omega)
        have b := fib hs hcc hl ho (x := 1) (y := 0) (by omega) (by omega)
        omega
theorem getD_set (o : List Int) (i j : Nat) (v : Int) (hi : i < o.length) : (o.set i v).getD j 0 = if i = j then v else o.getD j 0 := by
  rw [List.getD_eq_getElem?_getD, List.getElem?_set]
  split
  · first | rfl | (rename_i e; subst e; simp [hi])
  · rw [List.getD_eq_getElem?_getD]
theorem hist_get {n : Nat} (ds : List Int) (h : ∀ d, d ∈ ds → 0 ≤ d ∧ d < n) {i : Nat} (hi : i < n) : ∀ j, j ≤ ds.length → (hist n (ds.take j)).getD i 0 = (((ds.take j).filter fun d => d == (i : Int)).length : Int)
  | 0, _ => by simp [hist, hi]
  | j + 1, hj => by
    have hd := h _ (mem_getD (l := ds) (j := j) (by omega))
    have hlen : (hist n (ds.take j)).length = n := by rw [hist, foldl_hist_len, List.length_replicate]
    rw [take_one ds (by omega), hist_step, getD_set _ _ _ _ (by rw [hlen]; omega), List.filter_append, List.length_append]
    have ih := hist_get ds h hi j (by omega)
    by_cases e : (ds.getD j 0).toNat = i
    · have e2 : (ds.getD j 0 == (i : Int)) = true := by rw [beq_iff_eq]; omega
      rw [if_pos e, e, ih, List.filter_cons, e2]; simp
    · have e2 : (ds.getD j 0 == (i : Int)) = false := by rw [beq_eq_false_iff_ne]; omega
      rw [if_neg e, ih, List.filter_cons, e2]; simp
def FL (n : Nat) (f : Nat → Int) : List Int := (List.range (n + 1)).map f
@[go_sem] theorem FL_len (n : Nat) (f : Nat → Int) : (FL n f).length = n + 1 := by simp [FL]
theorem FL_get {n j : Nat} (f : Nat → Int) (h : j < n + 1) : (FL n f).getD j 0 = f j := by simp [FL, h]
theorem FL_congr {n : Nat} {f g : Nat → Int} (h : ∀ j, j < n + 1 → f j = g j) : FL n f = FL n g := List.map_congr_left fun j hj => h j (List.mem_range.1 hj)
theorem FL_set (n k : Nat) (f : Nat → Int) (v : Int) : (FL n f).set k v = FL n fun j => if j = k then v else f j := by
  apply List.ext_getElem
  · simp [FL]
  · intro i h1 h2
    rw [List.getElem_set]
    simp only [FL, List.getElem_map, List.getElem_range]
    split
    · rename_i e; rw [if_pos e.symm]
    · rename_i e; rw [if_neg fun e' => e e'.symm]
theorem FL_eq {n : Nat} {f : Nat → Int} {o : List Int} (hl : o.length = n + 1) (h : ∀ j, j < n + 1 → f j = o.getD j 0) : FL n f = o := by
  apply eq_getD
  · rw [FL_len, hl]
  · intro j hj
    rw [FL_len] at hj
    rw [FL_get f hj, h j hj]
def rowN (q : Int) (w : Nat) : Nat → Nat → Int
  | 0 => fun k => if k = 0 then 1 else 0
  | i + 1 => mulB (if i < w then -1 else q - 1) (rowN q w i)
theorem rowN_zero (q : Int) (w : Nat) : ∀ i k, i < k → rowN q w i k = 0
  | 0, k, h => by show (if k = 0 then (1 : Int) else 0) = 0; rw [if_neg (by omega)]
  | i + 1, k, h => by
    have h1 := rowN_zero q w i k (by omega)
    have h2 := rowN_zero q w i (k - 1) (by omega)
    show rowN q w i k + (if i < w then -1 else q - 1) * (if k = 0 then 0 else rowN q w i (k - 1)) = 0
    rw [h1, if_neg (show ¬ k = 0 by omega), h2, Int.mul_zero]; rfl
theorem rowN_bnd {q : Int} (hq : 2 ≤ q ∧ q ≤ 3) (w : Nat) : ∀ i k, -((3 : Int) ^ i) ≤ rowN q w i k ∧ rowN q w i k ≤ (3 : Int) ^ i
  | 0, k => by show -((3 : Int) ^ 0) ≤ (if k = 0 then (1 : Int) else 0) ∧ (if k = 0 then (1 : Int) else 0) ≤ 3 ^ 0; split <;> simp
  | i + 1, k => by
    have h1 := rowN_bnd hq w i k
    have hp : (0 : Int) ≤ 3 ^ i := Int.pow_nonneg (by omega)
    have h2 : -((3 : Int) ^ i) ≤ dn (rowN q w i) k ∧ dn (rowN q w i) k ≤ (3 : Int) ^ i := by
      unfold dn; split
      · omega
      · exact rowN_bnd hq w i (k - 1)
    rw [rowN, mulB, Int.pow_succ]
    generalize dn (rowN q w i) k = y at h2
    generalize rowN q w i k = x at h1
    generalize (3 : Int) ^ i = M at *
    split
    · omega
    · rcases (show q = 2 ∨ q = 3 by omega) with rfl | rfl <;> omega
theorem mulB_comm (a b : Int) (f : Nat → Int) : mulB a (mulB b f) = mulB b (mulB a f) := by
  funext k
  simp only [mulB, dn]
  split
  · omega
  · split
    · simp only [Int.mul_zero, Int.add_zero]; omega
    · simp only [Int.mul_add]
      rw [Int.mul_left_comm]; omega
def powM (b : Int) : Nat → (Nat → Int) → Nat → Int
  | 0, f => f
  | m + 1, f => mulB b (powM b m f)
theorem powM_comm (a b : Int) (f : Nat → Int) : ∀ m, mulB a (powM b m f) = powM b m (mulB a f)
  | 0 => rfl
  | m + 1 => by rw [powM, mulB_comm, powM_comm a b f m]; rfl
abbrev del0 : Nat → Int := fun k => if k = 0 then 1 else 0
theorem rowN_lo (q : Int) (w : Nat) : ∀ i, i ≤ w → rowN q w i = powM (-1) i del0
  | 0, _ => rfl
  | i + 1, h => by rw [rowN, if_pos (by omega), rowN_lo q w i (by omega)]; rfl
theorem rowN_hi (q : Int) (w : Nat) : ∀ j, rowN q w (w + j) = powM (q - 1) j (powM (-1) w del0)
  | 0 => rowN_lo q w w (Nat.le_refl _)
  | j + 1 => by rw [← Nat.add_assoc, rowN, if_neg (by omega), rowN_hi q w j]; rfl
theorem wtN_le : ∀ c : List Int, wtN c ≤ c.length
  | [] => Nat.le_refl _
  | a :: c => by have := wtN_le c; rw [wtN, List.length_cons]; split <;> omega
theorem pol_pow (q : Int) : ∀ c : List Int, pol q c = powM (q - 1) (c.length - wtN c) (powM (-1) (wtN c) del0)
  | [] => rfl
  | a :: c => by
    have h := wtN_le c
    rw [pol, pol_pow q c, wtN, List.length_cons]
    split
    · rw [Nat.zero_add, show c.length + 1 - wtN c = (c.length - wtN c) + 1 by omega]; rfl
    · rw [powM_comm, Nat.add_comm 1, show c.length + 1 - (wtN c + 1) = c.length - wtN c by omega]; rfl
theorem pol_row (q : Int) (c : List Int) : pol q c = rowN q (wtN c) c.length := by
  have h := wtN_le c
  have := rowN_hi q (wtN c) (c.length - wtN c)
  rw [show wtN c + (c.length - wtN c) = c.length by omega] at this
  rw [this, pol_pow]
def sumTo (f : Nat → Int) : Nat → Int
  | 0 => 0
  | N + 1 => sumTo f N + f N
theorem sumTo_congr {f g : Nat → Int} : ∀ N, (∀ w, w < N → f w = g w) → sumTo f N = sumTo g N
  | 0, _ => rfl
  | N + 1, h => by rw [sumTo, sumTo, sumTo_congr N fun w hw => h w (by omega), h N (by omega)]
theorem sumTo_add (f g : Nat → Int) : ∀ N, sumTo (fun w => f w + g w) N = sumTo f N + sumTo g N
  | 0 => rfl
  | N + 1 => by rw [sumTo, sumTo, sumTo, sumTo_add f g N]; omega
theorem sumTo_one (g : Nat → Int) (d : Nat) : ∀ N, sumTo (fun w => if w = d then g w else 0) N = if d < N then g d else 0
  | 0 => by rw [sumTo, if_neg (by omega)]
  | N + 1 => by
    rw [sumTo, sumTo_one g d N]
    by_cases h : d = N
    · subst h; rw [if_neg (by omega), if_pos rfl, if_pos (by omega)]; omega
    · by_cases h2 : d < N
      · rw [if_pos h2, if_neg (by omega), if_pos (by omega)]; omega
      · rw [if_neg h2, if_neg (by omega), if_neg (by omega)]; rfl
theorem sumTo_cnt (g : Nat → Int) (N : Nat) : ∀ ds : List Nat, (∀ d, d ∈ ds → d < N) → sumTo (fun w => ((ds.filter fun d => d == w).length : Int) * g w) N = (ds.map g).sum
  | [], _ => by
    rw [sumTo_congr (g := fun _ => 0) N (fun w _ => by simp)]
    have h0 : ∀ N, sumTo (fun _ => 0) N = 0 := fun N => by
      induction N with
      | zero => rfl
      | succ N ih => rw [sumTo, ih]; rfl
    rw [h0]; rfl
  | d :: ds, h => by
    rw [List.map_cons, List.sum_cons, ← sumTo_cnt g N ds fun x hx => h x (List.mem_cons_of_mem _ hx)]
    have h1 := sumTo_one g d N
    rw [if_pos (h d List.mem_cons_self)] at h1
    rw [← h1, ← sumTo_add]
    refine sumTo_congr N fun w _ => ?_
    rw [List.filter_cons]
    by_cases e : d = w
    · subst e; simp [Int.add_mul]; omega
    · have : (d == w) = false := by rw [beq_eq_false_iff_ne]; exact e
      simp only [this, Bool.false_eq_true, if_false]
      rw [if_neg (fun e' : w = d => e e'.symm)]; simp
def outS (q : Int) (n : Nat) (A : List Int) (w k : Nat) : Int := sumTo (fun w => A.getD w 0 * rowN q w n k) w
theorem wc_get (l c : List Int) {w : Nat} (hw : w < l.length + 1) : (wcountM l c).getD w 0 = ((c.filter (wOf l w)).length : Int) := by
  have h := hist_get (n := l.length + 1) (c.map fun u => distM l 0 u) (fun d hd => by
    obtain ⟨u, _, rfl⟩ := List.mem_map.1 hd
    have := distM_bnd l 0 u; omega) hw (c.map fun u => distM l 0 u).length (Nat.le_refl _)
  rw [List.take_length] at h
  rw [wcountM, h, List.filter_map, List.length_map]
  congr 2
  congr 1
  funext u
  simp only [Function.comp, wOf, far_wt]
  rw [Bool.eq_iff_iff, beq_iff_eq, beq_iff_eq]; omega
theorem outS_end {l c : List Int} (hs : isSpaceM l = true) (hcc : isCodeM l c = true) (hl : linB l c = true) (k : Nat) : outS (l.getD 0 0) l.length (wcountM l c) (l.length + 1) k = (c.length : Int) * duW l c k := by
  rw [← mac hs hcc hl k, outS]
  rw [sumTo_congr (g := fun w => (((c.map fun u => wtN (digM l u)).filter fun d => d == w).length : Int) * rowN (l.getD 0 0) w l.length k) _ (fun w hw => by
    rw [wc_get l c hw, List.filter_map, List.length_map]; rfl)]
  rw [sumTo_cnt (fun w => rowN (l.getD 0 0) w l.length k) (l.length + 1) (c.map fun u => wtN (digM l u)) (fun d hd => by
    obtain ⟨u, _, rfl⟩ := List.mem_map.1 hd
    have := wtN_le (digM l u); rw [digM_len] at this; omega), List.map_map]
  congr 1
  refine List.map_congr_left fun u _ => ?_
  simp only [Function.comp]
  rw [pol_row, digM_len]
theorem duW_list (l c : List Int) : FL l.length (fun k => (duW l c k : Int)) = wcountM l (duM l c) := by
  refine FL_eq (by rw [wcountM, hist, foldl_hist_len, List.length_replicate]) fun j hj => ?_
  rw [wc_get l _ hj]; rfl
theorem mulb {A r M : Int} (hA : 0 ≤ A ∧ A ≤ 1024) (hr : -M ≤ r ∧ r ≤ M) : -(1024 * M) ≤ A * r ∧ A * r ≤ 1024 * M := by
  have hM : 0 ≤ M := by omega
  have h1 : A * r ≤ A * M := Int.mul_le_mul_of_nonneg_left hr.2 hA.1
  have h2 : A * -M ≤ A * r := Int.mul_le_mul_of_nonneg_left hr.1 hA.1
  have h3 : A * M ≤ 1024 * M := Int.mul_le_mul_of_nonneg_right hA.2 hM
  rw [Int.mul_neg] at h2
  omega
theorem outS_bnd {q : Int} (hq : 2 ≤ q ∧ q ≤ 3) {n : Nat} (hn : n ≤ 8) {A : List Int} (hA : ∀ i, 0 ≤ A.getD i 0 ∧ A.getD i 0 ≤ 1024) (k : Nat) : ∀ w : Nat, -(w * 6718464) ≤ outS q n A w k ∧ outS q n A w k ≤ w * 6718464
  | 0 => by simp [outS, sumTo]
  | w + 1 => by
    have ih := outS_bnd hq hn hA k w
    have h1 := rowN_bnd hq w n k
    have h2 : (3 : Int) ^ n ≤ 6561 := by
      have : (3 : Nat) ^ n ≤ 3 ^ 8 := Nat.pow_le_pow_right (by omega) hn
      have e : (((3 : Nat) ^ n : Nat) : Int) = (3 : Int) ^ n := by simp
      omega
    have h3 := mulb (M := 6561) (hA w) (r := rowN q w n k) ⟨by omega, by omega⟩
    have e : outS q n A (w + 1) k = outS q n A w k + A.getD w 0 * rowN q w n k := rfl
    rw [e]; omega
theorem d_impl_DualCounts (l c : List Int) (hl : l.length < 1048577) (hc : c.length < 1048577) : Den PA f_impl_DualCounts [.d (.agg [ints l]), .d (ints c)] [.any, .any] (lstR (lnM l c) (wcountM l (duM l c))) := by
  refine den_go [] l_impl_DualCounts ?_
  refine go_c0 ?_
  have yc := d_impl_linearCode0 l c hl hc; first | refine goC_call [.r, .r, .r] yc ?_ | refine goOC_call [.r, .r, .r] yc ?_
  by_cases h : lnM l c = 0
  · rw [lstR_ok h, h]
    obtain ⟨hs, hcc, hlin⟩ := lnM_ok h
    have hp := isSpaceM_prod hs
    have hal := allW_len l
    have hdl : (duM l c).length ≤ 1024 := filter_len_le _ _ 1024 (by omega)
    have hdb : ∀ j, j < (duM l c).length → 0 ≤ (duM l c).getD j 0 ∧ (duM l c).getD j 0 < 1000000000000 := fun j hj => by
      have h1 := (List.mem_filter.1 (mem_getD hj)).1
      obtain ⟨w, hw, e⟩ := List.mem_map.1 h1
      have := List.mem_range.1 hw
      rw [← e]; omega
    have y1 := kc [.r, .r] (d_impl_dual l c hs hcc hlin hc); have y2 := kc [.r, .r] (d_impl_weightCounts l (duM l c) hs (by omega) hdb); exact go_e0
  · rw [lstR_no h]
    generalize lnM l c = b at h
    repeat' (first | simp -implicitDefEqProofs (maxSteps := 1000000) (disch := (first | omega | (simp only [go_sem] <;> omega) | fail)) only [go_sem, ints, bools, mat] | ((first | apply goIf_b | apply goG_b | apply goTG_b | apply goOG_b) <;> intro h <;> ((try simp only [hnq] at h); (try simp only [h]); (try simp only [hnr] at h))))
    all_goals (exfalso; omega)
theorem FL_start (q : Int) (n : Nat) (A : List Int) : List.replicate (n + 1) (0 : Int) = FL n fun t => outS q n A 0 t := by
  symm
  refine FL_eq (by simp) fun j hj => ?_
  simp [outS, sumTo, hj]
theorem FL_row (a q : Int) (n w : Nat) : (List.replicate (n + 1) (0 : Int)).set 0 a = FL n fun k => a * rowN q w 0 k := by
  symm
  refine FL_eq (by simp) fun j hj => ?_
  rw [getD_set _ _ _ _ (by simp)]
  by_cases e : j = 0
  · subst e; rw [if_pos rfl]; simp [rowN]
  · rw [if_neg fun e' => e e'.symm]; simp [rowN, e, hj]
def rowF (a q : Int) (w i k j : Nat) : Int := a * (if k < j then rowN q w (i + 1) j else rowN q w i j)
theorem rowF_start (a q : Int) (n w i : Nat) : (FL n fun k => a * rowN q w i k) = FL n (rowF a q w i (i + 1)) := by
  refine FL_congr fun j _ => ?_
  unfold rowF
  split
  · rw [rowN_zero q w i j (by omega), rowN_zero q w (i + 1) j (by omega)]
  · rfl
theorem rowF_end (a q : Int) (n w i : Nat) : FL n (rowF a q w i 0) = FL n fun k => a * rowN q w (i + 1) k := by
  refine FL_congr fun j _ => ?_
  unfold rowF
  split
  · rfl
  · have : j = 0 := by omega
    subst this
    rw [rowN, mulB, dn, if_pos rfl, Int.mul_zero, Int.add_zero]
theorem rowF_step {a q b : Int} {n w i k : Nat} (hb : b = if i < w then -1 else q - 1) (h1 : 1 ≤ k) : (FL n (rowF a q w i k)).set k (a * rowN q w i k + b * (a * rowN q w i (k - 1))) = FL n (rowF a q w i (k - 1)) := by
  rw [FL_set]
  refine FL_congr fun j _ => ?_
  split
  · rename_i e
    subst e
    have e2 : rowN q w (i + 1) j = rowN q w i j + b * rowN q w i (j - 1) := by
      show rowN q w i j + (if i < w then -1 else q - 1) * (if j = 0 then 0 else rowN q w i (j - 1)) = _
      rw [← hb, if_neg (show ¬ j = 0 by omega)]
    rw [rowF, if_pos (by omega), e2, Int.mul_add, Int.mul_left_comm]
  · rename_i e
    unfold rowF
    split
    · rw [if_pos (by omega)]
    · rw [if_neg (by omega)]
theorem b_mul {b q y M : Int} (hq : 2 ≤ q ∧ q ≤ 3) (hb : b = -1 ∨ b = q - 1) (hy : -M ≤ y ∧ y ≤ M) : -(2 * M) ≤ b * y ∧ b * y ≤ 2 * M := by
  rcases (show b = -1 ∨ b = 1 ∨ b = 2 by omega) with rfl | rfl | rfl <;> omega
theorem out_step {q : Int} {n w j : Nat} {A : List Int} (hj : j < n + 1) : (FL n fun t => if t < j then outS q n A (w + 1) t else outS q n A w t).set j (outS q n A w j + A.getD w 0 * rowN q w n j) = FL n fun t => if t < j + 1 then outS q n A (w + 1) t else outS q n A w t := by
  rw [FL_set]
  refine FL_congr fun t _ => ?_
  split
  · rename_i e; subst e; rw [if_pos (by omega)]; rfl
  · rename_i e
    by_cases h : t < j
    · rw [if_pos h, if_pos (by omega)]
    · rw [if_neg h, if_neg (by omega)]
theorem FL_all (n : Nat) (f g : Nat → Int) : (FL n fun t => if t < n + 1 then f t else g t) = FL n f := FL_congr fun t ht => by rw [if_pos ht]
theorem div_step2 {n j : Nat} {f : Nat → Nat} {g : Nat → Int} (hj : j < n + 1) : (FL n fun t => if t < j then (f t : Int) else g t).set j (f j) = FL n fun t => if t < j + 1 then (f t : Int) else g t := by
  rw [FL_set]
  refine FL_congr fun t _ => ?_
  split
  · rename_i e; subst e; rw [if_pos (by omega)]
  · rename_i e
    by_cases h : t < j
    · rw [if_pos h, if_pos (by omega)]
    · rw [if_neg h, if_neg (by omega)]
theorem d_spec_DualCounts (l c : List Int) (hl : l.length < 1048577) (hc : c.length < 1048577) : Den PA f_spec_DualCounts [.d (.agg [ints l]), .d (ints c)] [.any, .any] (lstR (lnM l c) (wcountM l (duM l c))) := by
  refine den_go [] l_spec_DualCounts ?_
  refine go_c0 ?_
  have yc := d_spec_l05Given l c hl hc; first | refine goC_call [.r, .r] yc ?_ | refine goOC_call [.r, .r] yc ?_
  by_cases h : lnM l c = 0
  · rw [lstR_ok h, h]
    obtain ⟨hs, hcc, hlin⟩ := lnM_ok h
    have hn := isSpaceM_n hs
    have hp := isSpaceM_prod hs
    have hcs := code_small hs hcc
    have hq := (pq hs hlin (i := 0) (by omega)).2
    have hcl : (c.length : Int) ≤ 1024 ∧ 1 ≤ c.length := by
      have h0 := List.length_pos_of_mem (lin_has0 hs hcc hlin)
      rcases isCodeM_len hcc with h | h <;> omega
    have hend := outS_end hs hcc hlin
    have hdu := duW_list l c
    have hA : ∀ i, 0 ≤ (wcountM l c).getD i 0 ∧ (wcountM l c).getD i 0 ≤ 1024 := fun i => by
      have := hist_bnd (l.length + 1) (c.map fun u => distM l 0 u) i
      rw [List.length_map] at this
      rw [wcountM]; omega
    have hAl : (wcountM l c).length = l.length + 1 := by rw [wcountM, hist, foldl_hist_len, List.length_replicate]
    have y1 := kc [.r, .r] (d_spec_l05Counts l c hs hc hcs); refine go_c0 ?_
    generalize wcountM l c = A at hA hAl hend
    rw [← hdu]
    generalize hqe : l.getD 0 0 = q at hq hend
    refine go_loop (fun (w : Nat) => ⟨[(1, .d (ints c)), (2, .ref 0 0), (7, .d (di l.length)), (8, .sl 1 0 (l.length + 1) 1), (9, .sl 2 0 (l.length + 1) 1), (10, .d (di w))], [some (.var [ints l]), some (.dat 1 (A.map di)), some (.dat 1 ((FL l.length fun t => outS q l.length A w t).map di))]⟩) (fun w => w ≤ l.length + 1) (fun w => l.length + 1 - w) 0 ?_ ?_ ?_
    · simp -implicitDefEqProofs (maxSteps := 1000000) (disch := (first | omega | (simp only [go_sem] <;> omega) | fail)) only [go_sem, ints, bools, mat]
      rw [hAl, FL_start q l.length A]
    · simp
    · rintro w hw J hJ
      have hAw := hA w
      have hB : ∀ i k, i ≤ 8 → -6718464 ≤ A.getD w 0 * rowN q w i k ∧ A.getD w 0 * rowN q w i k ≤ 6718464 := fun i k hi => by
        have h1 := rowN_bnd hq w i k
        have h2 : (3 : Int) ^ i ≤ 6561 := by
          have : (3 : Nat) ^ i ≤ 3 ^ 8 := Nat.pow_le_pow_right (by omega) hi
          have e : (((3 : Nat) ^ i : Nat) : Int) = (3 : Int) ^ i := by simp
          omega
        have := mulb (M := 6561) hAw (r := rowN q w i k) ⟨by omega, by omega⟩
        omega
      repeat' (first | simp -implicitDefEqProofs (maxSteps := 1000000) (disch := (first | omega | (simp only [go_sem] <;> omega) | fail)) only [go_sem, ints, bools, mat] | ((first | apply goIf_b | apply goG_b | apply goTG_b | apply goOG_b) <;> intro h <;> ((try simp only [hnq] at h); (try simp only [h]); (try simp only [hnr] at h)) <;> (try (exfalso; omega))))
      · refine go_loop (fun (i : Nat) => ⟨[(1, .d (ints c)), (2, .ref 0 0), (7, .d (di l.length)), (8, .sl 1 0 (l.length + 1) 1), (9, .sl 2 0 (l.length + 1) 1), (10, .d (di w)), (11, .sl 3 0 (l.length + 1) 1), (12, .d (di i))], [some (.var [ints l]), some (.dat 1 (A.map di)), some (.dat 1 ((FL l.length fun t => outS q l.length A w t).map di)), some (.dat 1 ((FL l.length fun k => A.getD w 0 * rowN q w i k).map di))]⟩) (fun i => i ≤ l.length) (fun i => l.length - i) 0 ?_ ?_ ?_
        · simp -implicitDefEqProofs (maxSteps := 1000000) (disch := (first | omega | (simp only [go_sem] <;> omega) | fail)) only [go_sem, ints, bools, mat]
          rw [FL_row (A.getD w 0) q l.length w]
        · simp
        · rintro i hi I hI
          obtain ⟨b, hbe, hb⟩ : ∃ b : Int, b = (if i < w then -1 else q - 1) ∧ (b = -1 ∨ b = q - 1) := by
            by_cases e : i < w
            · exact ⟨-1, by rw [if_pos e], .inl rfl⟩
            · exact ⟨q - 1, by rw [if_neg e], .inr rfl⟩
          repeat' (first | simp -implicitDefEqProofs (maxSteps := 1000000) (disch := (first | omega | (simp only [go_sem] <;> omega) | fail)) only [go_sem, ints, bools, mat] | ((first | apply goIf_b | apply goG_b | apply goTG_b | apply goOG_b) <;> intro h <;> ((try simp only [hnq] at h); (try simp only [h]); (try simp only [hnr] at h)) <;> (try (exfalso; omega))))
          rotate_right
          · have : i = l.length := by omega
            subst this
            refine go_loop (fun (j : Nat) => ⟨[(1, .d (ints c)), (2, .ref 0 0), (7, .d (di l.length)), (8, .sl 1 0 (l.length + 1) 1), (9, .sl 2 0 (l.length + 1) 1), (10, .d (di w)), (11, .sl 3 0 (l.length + 1) 1), (81, .d (di (l.length + 1 : Nat))), (82, .d (di j))], [some (.var [ints l]), some (.dat 1 (A.map di)), some (.dat 1 ((FL l.length fun t => if t < j then outS q l.length A (w + 1) t else outS q l.length A w t).map di)), some (.dat 1 ((FL l.length fun k => A.getD w 0 * rowN q w l.length k).map di))]⟩) (fun j => j ≤ l.length + 1) (fun j => l.length + 1 - j) 0 ?_ ?_ ?_
            · simp -implicitDefEqProofs (maxSteps := 1000000) (disch := (first | omega | (simp only [go_sem] <;> omega) | fail)) only [go_sem, ints, bools, mat]
              rfl
            · simp
            · rintro j hj N hN
              have hg1 := fun h => FL_get (n := l.length) (j := j) (fun t => if t < j then outS q l.length A (w + 1) t else outS q l.length A w t) h
              rw [if_neg (Nat.lt_irrefl j)] at hg1
              have hg2 := fun h => FL_get (n := l.length) (j := j) (fun k => A.getD w 0 * rowN q w l.length k) h
              have ho := outS_bnd hq hn.2 hA j w
              have hr := hB l.length j hn.2
              have hst := fun h => out_step (q := q) (n := l.length) (w := w) (j := j) (A := A) h
              repeat' (first | simp -implicitDefEqProofs (maxSteps := 1000000) (disch := (first | omega | (simp only [go_sem] <;> omega) | fail)) only [go_sem, ints, bools, mat] | ((first | apply goIf_b | apply goG_b | apply goTG_b | apply goOG_b) <;> intro h <;> ((try simp only [hnq] at h); (try simp only [h]); (try simp only [hnr] at h)) <;> (try (exfalso; omega))))
              · rw [hg1 (by omega), hg2 (by omega), hst (by omega)]
                refine hN (j + 1) (by omega) (by omega) _ ?_
                exact go_r0
              · have : j = l.length + 1 := by omega
                subst this
                refine hJ (w + 1) (by omega) (by omega) _ ?_
                simp -implicitDefEqProofs (maxSteps := 1000000) (disch := (first | omega | (simp only [go_sem] <;> omega) | fail)) only [go_sem, ints, bools, mat]
                rw [FL_all]; rfl
          all_goals refine go_loop (fun (k : Nat) => ⟨[(1, .d (ints c)), (2, .ref 0 0), (7, .d (di l.length)), (8, .sl 1 0 (l.length + 1) 1), (9, .sl 2 0 (l.length + 1) 1), (10, .d (di w)), (11, .sl 3 0 (l.length + 1) 1), (12, .d (di i)), (13, .d (di b)), (14, .d (di k))], [some (.var [ints l]), some (.dat 1 (A.map di)), some (.dat 1 ((FL l.length fun t => outS q l.length A w t).map di)), some (.dat 1 ((FL l.length (rowF (A.getD w 0) q w i k)).map di))]⟩) (fun k => k ≤ i + 1) (fun k => k) (i + 1) ?_ (Nat.le_refl _) ?_
          · simp -implicitDefEqProofs (maxSteps := 1000000) (disch := (first | omega | (simp only [go_sem] <;> omega) | fail)) only [go_sem, ints, bools, mat]
            rw [hbe, if_pos (by omega), rowF_start]; rfl
          rotate_left
          · simp -implicitDefEqProofs (maxSteps := 1000000) (disch := (first | omega | (simp only [go_sem] <;> omega) | fail)) only [go_sem, ints, bools, mat]
            try rw [hqe]
            rw [hbe, if_neg (by omega), rowF_start]; rfl
          all_goals
            rintro k hk N hN
            have hg1 := fun h => FL_get (n := l.length) (j := k) (rowF (A.getD w 0) q w i k) h
            have hg2 := fun h => FL_get (n := l.length) (j := k - 1) (rowF (A.getD w 0) q w i k) h
            have e1 : rowF (A.getD w 0) q w i k k = A.getD w 0 * rowN q w i k := by rw [rowF, if_neg (by omega)]
            have e2 : 1 ≤ k → rowF (A.getD w 0) q w i k (k - 1) = A.getD w 0 * rowN q w i (k - 1) := fun h => by rw [rowF, if_neg (by omega)]
            have hr1 := hB i k (by omega)
            have hr2 := hB i (k - 1) (by omega)
            have hbm := b_mul (M := 6718464) hq hb hr2
            have hst := fun h => rowF_step (a := A.getD w 0) (n := l.length) (k := k) hbe h
            repeat' (first | simp -implicitDefEqProofs (maxSteps := 1000000) (disch := (first | omega | (simp only [go_sem] <;> omega) | fail)) only [go_sem, ints, bools, mat] | ((first | apply goIf_b | apply goG_b | apply goTG_b | apply goOG_b) <;> intro h <;> ((try simp only [hnq] at h); (try simp only [h]); (try simp only [hnr] at h)) <;> (try (exfalso; omega))))
            · rw [hg1 (by omega), hg2 (by omega), e1, e2 (by omega)]
              rw [wrap64 (x := b * (A.getD w 0 * rowN q w i (k - 1))) (by omega) (by omega), wrap64 (by omega) (by omega)]
              refine hN (k - 1) (by omega) (by omega) _ ?_
              simp -implicitDefEqProofs (maxSteps := 1000000) (disch := (first | omega | (simp only [go_sem] <;> omega) | fail)) only [go_sem, ints, bools, mat]
              rw [hst (by omega)]; simp [-List.getD_eq_getElem?_getD]; omega
            · have : k = 0 := by omega
              subst this
              refine hI (i + 1) (by omega) (by omega) _ ?_
              simp -implicitDefEqProofs (maxSteps := 1000000) (disch := (first | omega | (simp only [go_sem] <;> omega) | fail)) only [go_sem, ints, bools, mat]
              rw [rowF_end]; rfl
      · have : w = l.length + 1 := by omega
        subst this
        refine go_loop (fun (j : Nat) => ⟨[(1, .d (ints c)), (9, .sl 0 0 (l.length + 1) 1), (99, .d (di (l.length + 1 : Nat))), (100, .d (di j))], [some (.dat 1 ((FL l.length fun t => if t < j then (duW l c t : Int) else outS q l.length A (l.length + 1) t).map di))]⟩) (fun j => j ≤ l.length + 1) (fun j => l.length + 1 - j) 0 ?_ ?_ ?_
        · simp -implicitDefEqProofs (maxSteps := 1000000) (disch := (first | omega | (simp only [go_sem] <;> omega) | fail)) only [go_sem, ints, bools, mat]
          rfl
        · simp
        · rintro j hj N hN
          have hg1 := fun h => FL_get (n := l.length) (j := j) (fun t => if t < j then (duW l c t : Int) else outS q l.length A (l.length + 1) t) h
          rw [if_neg (Nat.lt_irrefl j), hend] at hg1
          have hdb : duW l c j ≤ 1024 := by
            have hal := allW_len l
            have : (duM l c).length ≤ 1024 := filter_len_le _ _ 1024 (by omega)
            exact Nat.le_trans (List.length_filter_le _ _) this
          have hnn : 0 ≤ (c.length : Int) * (duW l c j : Int) := Int.mul_nonneg (by omega) (by omega)
          have hdv : (c.length : Int) * (duW l c j : Int) / (c.length : Int) = duW l c j := Int.mul_ediv_cancel_left _ (by omega)
          repeat' (first | simp -implicitDefEqProofs (maxSteps := 1000000) (disch := (first | omega | (simp only [go_sem] <;> omega) | fail)) only [go_sem, ints, bools, mat] | ((first | apply goIf_b | apply goG_b | apply goTG_b | apply goOG_b) <;> intro h <;> ((try simp only [hnq] at h); (try simp only [h]); (try simp only [hnr] at h)) <;> (try (exfalso; omega))))
          · rw [hg1 (by omega), hdv, wrap64 (by omega) (by omega)]
            refine hN (j + 1) (by omega) (by omega) _ ?_
            simp -implicitDefEqProofs (maxSteps := 1000000) (disch := (first | omega | (simp only [go_sem] <;> omega) | fail)) only [go_sem, ints, bools, mat]
            rw [div_step2 (f := duW l c) (by omega)]; rfl
          · have : j = l.length + 1 := by omega
            subst this
            rw [FL_all]
  · rw [lstR_no h]
    generalize lnM l c = b at h
    repeat' (first | simp -implicitDefEqProofs (maxSteps := 1000000) (disch := (first | omega | (simp only [go_sem] <;> omega) | fail)) only [go_sem, ints, bools, mat] | ((first | apply goIf_b | apply goG_b | apply goTG_b | apply goOG_b) <;> intro h <;> ((try simp only [hnq] at h); (try simp only [h]); (try simp only [hnr] at h))))
    all_goals (exfalso; omega)
@[go_sem] theorem tn1 (f r : Nat) : ((f : Int) + (2 * (r : Int) + 1)).toNat = f + (2 * r + 1) := by omega
@[go_sem] theorem tn2 (f r : Nat) : ((f : Int) + (2 * (r : Int) + 1) + 1).toNat = f + (2 * r + 2) := by omega
@[go_sem] theorem tn3 (f r : Nat) : ((f : Int) + (2 * (r : Int) + 1 + 1)).toNat = f + (2 * r + 2) := by omega
@[go_sem] theorem tn4 (f r : Nat) : ((f : Int) + (r : Int)).toNat = f + r := by omega
theorem d_slices_Sort (l : List Int) (h : l.length < 4611686018427387904) : Den PA f_slices_Sort___int64_int64_ [.own 1 (l.map di)] [.own 1 ((sortI l).map di)] (.tup []) := den_sort (okF_low l_slices_Sort___int64_int64_) sort_calls l h
def cpN (l : List Int) : Nat → List Int
  | 0 => []
  | m + 1 => if m = 0 ∨ l.getD m 0 ≠ l.getD (m - 1) 0 then cpN l m ++ [l.getD m 0] else cpN l m
abbrev cpM (l : List Int) : List Int := cpN l l.length
theorem cpN_len (l : List Int) : ∀ m, (cpN l m).length ≤ m
  | 0 => Nat.le_refl _
  | m + 1 => by
    have := cpN_len l m
    rw [cpN]; split
    · simp; omega
    · omega
theorem cpN_take {l : List Int} : ∀ k, k ≤ l.length → (∀ i, 1 ≤ i → i < k → l.getD i 0 ≠ l.getD (i - 1) 0) → cpN l k = l.take k
  | 0, _, _ => by simp [cpN]
  | k + 1, h, hd => by
    rw [cpN, cpN_take k (by omega) (fun i a b => hd i a (by omega)), if_pos, List.take_add_one]
    · simp [show k < l.length by omega]
    · rcases Nat.eq_zero_or_pos k with h0 | h0
      · exact .inl h0
      · exact .inr (hd k h0 (by omega))
theorem take_set_snoc {l : List Int} {k : Nat} (v : Int) (h : k < l.length) : (l.set k v).take (k + 1) = l.take k ++ [v] := by
  rw [List.take_add_one, List.take_set_of_le (Nat.le_refl k)]; simp [h]
theorem leaS_part {i n : Nat} {es : List D} {s : Sto} (h : n ≤ es.length) : leaS (some (some (.dat 1 es))) i 0 n 1 s = (.own 1 (es.take n), s.set i none) := by
  simp [leaS, h]
theorem d_slices_Compact (l : List Int) (hl : l.length < 1048577) : Den PA f_slices_Compact___int64_int64_ [.own 1 (l.map di)] [.any] (.own 1 ((cpM l).map di)) := by
  refine den_go [] l_slices_Compact___int64_int64_ ?_
  repeat' (first | simp -implicitDefEqProofs (maxSteps := 1000000) (disch := (first | omega | (simp only [go_sem] <;> omega) | fail)) only [go_sem, ints, bools, mat, c_slices_Compact___int64_int64_] | ((first | apply goIf_b | apply goG_b | apply goTG_b | apply goOG_b) <;> intro h <;> ((try simp only [hnq] at h); (try simp only [h]); (try simp only [hnr] at h)) <;> (try (exfalso; omega))))
  · have e : cpM l = l := by
      rw [cpM, cpN_take l.length (Nat.le_refl _) (fun i a b => by omega)]; simp
    rw [e]
  · refine go_loop (fun (k : Nat) => ⟨[(0, .sl 0 0 l.length 1), (3, .d (di k)), (61, .any)], [some (.dat 1 (l.map di))]⟩) (fun k => 1 ≤ k ∧ k ≤ l.length ∧ ∀ i, 1 ≤ i → i < k → l.getD i 0 ≠ l.getD (i - 1) 0) (fun k => l.length - k) 1 ?_ ?_ ?_
    · exact go_r0
    · exact ⟨Nat.le_refl _, by omega, fun i a b => by omega⟩
    · rintro k ⟨h1, h2, h3⟩ J hJ
      repeat' (first | simp -implicitDefEqProofs (maxSteps := 1000000) (disch := (first | omega | (simp only [go_sem] <;> omega) | fail)) only [go_sem, ints, bools, mat] | ((first | apply goIf_b | apply goG_b | apply goTG_b | apply goOG_b) <;> intro h <;> ((try simp only [hnq] at h); (try simp only [h]); (try simp only [hnr] at h)) <;> (try (exfalso; omega))))
      · have hk := cpN_take k (by omega) h3
        refine go_loop (fun (p : Nat × List Int) => ⟨[(0, .sl 0 0 l.length 1), (3, .d (di (cpN l (k + p.1)).length)), (4, .sl 0 k (l.length - k) 1), (5, .d (di p.1)), (61, .any)], [some (.dat 1 (p.2.map di))]⟩) (fun p => 1 ≤ p.1 ∧ k + p.1 ≤ l.length ∧ p.2.length = l.length ∧ p.2.take (cpN l (k + p.1)).length = cpN l (k + p.1) ∧ (cpN l (k + p.1)).length < k + p.1 ∧ ∀ j, k + p.1 - 1 ≤ j → j < l.length → p.2.getD j 0 = l.getD j 0) (fun p => l.length - p.1) (1, l) ?_ ?_ ?_
        · have hc : cpN l (k + 1) = l.take k := by rw [cpN, if_neg, hk]; omega
          simp -implicitDefEqProofs (maxSteps := 1000000) (disch := (first | omega | (simp only [go_sem] <;> omega) | fail)) only [go_sem, ints, bools, mat]
          rw [hc, List.length_take, Nat.min_eq_left h2]
        · have hc : cpN l (k + 1) = l.take k := by rw [cpN, if_neg, hk]; omega
          refine ⟨Nat.le_refl _, by omega, rfl, ?_, ?_, fun j a b => rfl⟩
          · rw [hc, List.length_take, Nat.min_eq_left h2]
          · rw [hc, List.length_take, Nat.min_eq_left h2]; omega
        · rintro ⟨m, X⟩ ⟨g1, g2, g3, g4, g5, g6⟩ J' hJ'
          have ge1 := g6 (k + m - 1) (Nat.le_refl _)
          have ge2 := g6 (k + m) (by omega)
          have hlt := cpN_len l (k + m)
          dsimp only at g1 g2 g3 g4 g5 g6 ge1 ge2 ⊢
          repeat' (first | simp -implicitDefEqProofs (maxSteps := 1000000) (disch := (first | omega | (simp only [go_sem] <;> omega) | fail)) only [go_sem, ints, bools, mat, clrM, leaS_part] | ((first | apply goIf_b | apply goG_b | apply goTG_b | apply goOG_b) <;> intro h <;> ((try simp only [hnq] at h); (try simp only [h]); (try simp only [hnr] at h)) <;> (try (exfalso; omega))))
          · have hne := h
            rw [ge2 (by omega)] at hne
            rw [show k + (m - 1) = k + m - 1 by omega, ge1 (by omega)] at hne
            have hc : cpN l (k + (m + 1)) = cpN l (k + m) ++ [l.getD (k + m) 0] := by
              rw [← Nat.add_assoc, cpN, if_pos (.inr hne)]
            refine hJ' (m + 1, X.set (cpN l (k + m)).length (X.getD (k + m) 0)) ⟨by omega, by omega, by simpa using g3, ?_, ?_, fun j a b => ?_⟩ (by dsimp only; omega) _ ?_
            · dsimp only
              rw [hc, List.length_append, List.length_singleton, take_set_snoc _ (by omega), g4, ge2 (by omega)]
            · dsimp only; rw [hc]; simp; omega
            · dsimp only at a ⊢
              rw [getD_set _ _ _ _ (by omega), if_neg (by omega)]; exact g6 j (by omega) b
            · dsimp only
              simp -implicitDefEqProofs (maxSteps := 1000000) (disch := (first | omega | (simp only [go_sem] <;> omega) | fail)) only [go_sem, ints, bools, mat]
              rw [hc]; simp
          · have hne := h
            rw [ge2 (by omega)] at hne
            rw [show k + (m - 1) = k + m - 1 by omega, ge1 (by omega)] at hne
            have hc : cpN l (k + (m + 1)) = cpN l (k + m) := by
              rw [← Nat.add_assoc, cpN, if_neg]; omega
            refine hJ' (m + 1, X) ⟨by omega, by omega, g3, ?_, ?_, fun j a b => ?_⟩ (by dsimp only; omega) _ ?_
            · dsimp only; rw [hc]; exact g4
            · dsimp only; rw [hc]; omega
            · dsimp only at a ⊢
              exact g6 j (by omega) b
            · dsimp only
              simp -implicitDefEqProofs (maxSteps := 1000000) (disch := (first | omega | (simp only [go_sem] <;> omega) | fail)) only [go_sem, ints, bools, mat]
              rw [hc]; rfl
          · have hkm : k + m = l.length := by omega
            congr 1
            rw [List.append_assoc, List.take_append_of_le_length (by rw [List.length_take]; omega), List.take_take, Nat.min_self, g4, hkm]
      · refine hJ (k + 1) ⟨by omega, by omega, fun i a b => ?_⟩ (by omega) _ go_r0
        rcases Nat.lt_or_ge i k with c | c
        · exact h3 i a c
        · have : i = k := by omega
          subst this; omega
      · have e : cpM l = l := by
          rw [cpM, cpN_take l.length (Nat.le_refl _) (fun i a b => h3 i a (by omega))]; simp
        rw [e]
abbrev Asc (l : List Int) : Prop := l.Pairwise (· < ·)
theorem asc_ext : ∀ {a b : List Int}, Asc a → Asc b → (∀ x, x ∈ a ↔ x ∈ b) → a = b
  | [], [], _, _, _ => rfl
  | [], y :: s, _, _, h => by have := (h y).2 (by simp); simp at this
  | x :: r, [], _, _, h => by have := (h x).1 (by simp); simp at this
  | x :: r, y :: s, ha, hb, h => by
    obtain ⟨a1, a2⟩ := List.pairwise_cons.1 ha
    obtain ⟨b1, b2⟩ := List.pairwise_cons.1 hb
    have hxy : x = y := by
      have h1 := (h x).1 (by simp)
      have h2 := (h y).2 (by simp)
      simp only [List.mem_cons] at h1 h2
      rcases h1 with h1 | h1
      · exact h1
      · rcases h2 with h2 | h2
        · exact h2.symm
        · have := b1 x h1; have := a1 y h2; omega
    subst hxy
    rw [asc_ext a2 b2 fun z => ?_]
    have := h z
    simp only [List.mem_cons] at this
    constructor
    · intro hz
      rcases this.1 (.inr hz) with e | e
      · have := a1 z hz; omega
      · exact e
    · intro hz
      rcases this.2 (.inr hz) with e | e
      · have := b1 z hz; omega
      · exact e
theorem asc_snoc {l : List Int} {x : Int} (h : Asc l) (hx : ∀ y, y ∈ l → y < x) : Asc (l ++ [x]) := by
  refine List.pairwise_append.2 ⟨h, by simp, fun a ha b hb => ?_⟩
  simp at hb; subst hb; exact hx a ha
theorem cpN_ok {l : List Int} (hs : l.Pairwise (· ≤ ·)) : ∀ m, m ≤ l.length → Asc (cpN l m) ∧ (∀ x, x ∈ cpN l m ↔ x ∈ l.take m)
  | 0, _ => by simp [cpN, Asc]
  | m + 1, h => by
    obtain ⟨h1, h2⟩ := cpN_ok hs m (by omega)
    have hm : ∀ x, x ∈ l.take m → x ≤ l.getD m 0 := fun x hx => by
      obtain ⟨i, hi, rfl⟩ := List.mem_iff_getElem.1 hx
      simp at hi
      have := List.pairwise_iff_getElem.1 hs i m (by omega) (by omega) (by omega)
      simpa [show m < l.length by omega] using this
    have ht : l.take (m + 1) = l.take m ++ [l.getD m 0] := by rw [List.take_add_one]; simp [show m < l.length by omega]
    rw [cpN, ht]
    split
    · rename_i hc
      refine ⟨asc_snoc h1 fun y hy => ?_, fun x => by simp only [List.mem_append, h2]⟩
      rw [h2] at hy
      rcases hc with rfl | hc
      · simp at hy
      · obtain ⟨i, hi, rfl⟩ := List.mem_iff_getElem.1 hy
        simp at hi
        have e1 : (l.take m)[i] ≤ l.getD (m - 1) 0 := by
          rcases Nat.lt_or_ge i (m - 1) with hlt | hge
          · have := List.pairwise_iff_getElem.1 hs i (m - 1) (by omega) (by omega) hlt
            simpa [show m - 1 < l.length by omega] using this
          · have : i = m - 1 := by omega
            subst this; simp [show m - 1 < l.length by omega]
        have e2 : l.getD (m - 1) 0 ≤ l.getD m 0 := by
          have := List.pairwise_iff_getElem.1 hs (m - 1) m (by omega) (by omega) (by omega)
          simpa [show m - 1 < l.length by omega, show m < l.length by omega] using this
        omega
    · rename_i hc
      refine ⟨h1, fun x => ?_⟩
      rw [h2, List.mem_append]
      constructor
      · exact .inl
      · rintro (hx | hx)
        · exact hx
        · simp only [List.mem_singleton] at hx
          have hm0 : m ≠ 0 := fun e => hc (.inl e)
          have he : l.getD m 0 = l.getD (m - 1) 0 := Decidable.not_not.1 fun e => hc (.inr e)
          rw [hx, he]
          refine List.mem_iff_getElem.2 ⟨m - 1, by simp; omega, ?_⟩
          simp [show m - 1 < l.length by omega]
theorem sortI_sorted (l : List Int) : (sortI l).Pairwise (· ≤ ·) := by
  have := List.pairwise_mergeSort (le := fun x y : Int => decide (x ≤ y)) (fun a b c h1 h2 => by simp at *; omega) (fun a b => by simp; omega) l
  exact this.imp fun h => by simpa using h
theorem sortI_mem (l : List Int) (x : Int) : x ∈ sortI l ↔ x ∈ l := List.mem_mergeSort
abbrev setI (l : List Int) : List Int := cpM (sortI l)
theorem setI_asc (l : List Int) : Asc (setI l) := (cpN_ok (sortI_sorted l) _ (Nat.le_refl _)).1
theorem setI_mem (l : List Int) (x : Int) : x ∈ setI l ↔ x ∈ l := by
  rw [(cpN_ok (sortI_sorted l) _ (Nat.le_refl _)).2, List.take_length, sortI_mem]
theorem setI_len (l : List Int) : (setI l).length ≤ l.length := by
  exact Nat.le_trans (cpN_len (sortI l) (sortI l).length) (Nat.le_of_eq (List.length_mergeSort l))
theorem setI_eq {l m : List Int} (h : Asc m) (hm : ∀ x, x ∈ m ↔ x ∈ l) : setI l = m := asc_ext (setI_asc l) h fun x => by rw [setI_mem, hm]
theorem asc_nodup {l : List Int} (h : Asc l) : l.Nodup := h.imp fun h => Int.ne_of_lt h
theorem sortI_nodup {l : List Int} (h : l.Nodup) : sortI l = setI l := by
  refine asc_ext ?_ (setI_asc l) fun x => by rw [setI_mem, sortI_mem]
  have h1 : (sortI l).Nodup := (List.mergeSort_perm l _).nodup_iff.2 h
  have h2 := sortI_sorted l
  have := List.pairwise_iff_getElem.1 h2
  refine List.pairwise_iff_getElem.2 fun i j hi hj hij => ?_
  have a := this i j hi hj hij
  have b := List.pairwise_iff_getElem.1 h1 i j hi hj hij
  omega
def ptN (l : List Int) (x : Int) : Nat → Nat
  | 0 => 0
  | n + 1 => if x < l.getD n 0 then ptN l x n else n + 1
def putI (l : List Int) (x : Int) : List Int :=
  let a := ptN l x l.length
  if 0 < a ∧ l.getD (a - 1) 0 = x then l else l.take a ++ [x] ++ l.drop a
theorem ptN_le (l : List Int) (x : Int) : ∀ n, ptN l x n ≤ n
  | 0 => Nat.le_refl _
  | n + 1 => by
    have := ptN_le l x n
    rw [ptN]; split <;> omega
theorem ptN_gt (l : List Int) (x : Int) : ∀ n i, ptN l x n ≤ i → i < n → x < l.getD i 0
  | 0, i, h1, h2 => by omega
  | n + 1, i, h1, h2 => by
    rw [ptN] at h1
    split at h1
    · by_cases e : i = n
      · subst e; assumption
      · exact ptN_gt l x n i h1 (by omega)
    · omega
theorem ptN_at (l : List Int) (x : Int) : ∀ n, 0 < ptN l x n → l.getD (ptN l x n - 1) 0 ≤ x
  | 0, h => by simp [ptN] at h
  | n + 1, h => by
    rw [ptN] at h ⊢
    split at h
    · rename_i hx
      rw [if_pos hx]; exact ptN_at l x n h
    · rename_i hx
      rw [if_neg hx]; simp only [Nat.add_sub_cancel]; omega
theorem putI_len (l : List Int) (x : Int) : (putI l x).length ≤ l.length + 1 := by
  have := ptN_le l x l.length
  simp only [putI]
  split
  · omega
  · simp; omega
theorem putI_mem {l : List Int} {x : Int} (y : Int) : y ∈ putI l x ↔ y ∈ l ∨ y = x := by
  have hl := ptN_le l x l.length
  simp only [putI]
  split
  · rename_i h
    constructor
    · exact .inl
    · rintro (h1 | rfl)
      · exact h1
      · rw [← h.2]; exact mem_getD (by omega)
  · simp only [List.mem_append, List.mem_singleton]
    conv => rhs; rw [← List.take_append_drop (ptN l x l.length) l, List.mem_append]
    constructor
    · rintro ((h | h) | h)
      · exact .inl (.inl h)
      · exact .inr h
      · exact .inl (.inr h)
    · rintro ((h | h) | h)
      · exact .inl (.inl h)
      · exact .inr h
      · exact .inl (.inr h)
theorem putI_asc {l : List Int} (h : Asc l) (x : Int) : Asc (putI l x) := by
  have hl := ptN_le l x l.length
  have hg := ptN_gt l x l.length
  have ha := ptN_at l x l.length
  simp only [putI]
  generalize ptN l x l.length = a at *
  split
  · exact h
  · rename_i hn
    have h1 : ∀ y, y ∈ l.take a → y < x := fun y hy => by
      obtain ⟨i, hi, rfl⟩ := List.mem_iff_getElem.1 hy
      simp at hi
      have h3 := ha (by omega)
      have h4 : l.getD (a - 1) 0 ≠ x := fun e => hn ⟨by omega, e⟩
      have h5 : (l.take a)[i] ≤ l.getD (a - 1) 0 := by
        rcases Nat.lt_or_ge i (a - 1) with hlt | hge
        · have := List.pairwise_iff_getElem.1 h i (a - 1) (by omega) (by omega) hlt
          simp [show a - 1 < l.length by omega]; omega
        · have : i = a - 1 := by omega
          subst this; simp [show a - 1 < l.length by omega]
      omega
    have h2 : ∀ y, y ∈ l.drop a → x < y := fun y hy => by
      obtain ⟨i, hi, rfl⟩ := List.mem_iff_getElem.1 hy
      simp at hi
      have := hg (a + i) (by omega) (by omega)
      simpa [show a + i < l.length by omega] using this
    rw [List.append_assoc]
    have hh := List.pairwise_append.1 (show Asc (l.take a ++ l.drop a) by rw [List.take_append_drop]; exact h)
    refine List.pairwise_append.2 ⟨hh.1, List.pairwise_cons.2 ⟨fun y hy => h2 y hy, hh.2.1⟩, fun y hy z hz => ?_⟩
    simp only [List.singleton_append, List.mem_cons] at hz
    rcases hz with rfl | hz
    · exact h1 y hy
    · have := h1 y hy; have := h2 z hz; omega
def putsN (f : Nat → Int) : Nat → List Int
  | 0 => []
  | j + 1 => putI (putsN f j) (f j)
theorem putsN_asc (f : Nat → Int) : ∀ j, Asc (putsN f j)
  | 0 => by simp [putsN]
  | j + 1 => putI_asc (putsN_asc f j) _
theorem putsN_mem (f : Nat → Int) (x : Int) : ∀ j, x ∈ putsN f j ↔ ∃ i, i < j ∧ x = f i
  | 0 => by simp [putsN]
  | j + 1 => by
    rw [putsN, putI_mem, putsN_mem f x j]
    constructor
    · rintro (⟨i, h1, h2⟩ | h)
      · exact ⟨i, by omega, h2⟩
      · exact ⟨j, by omega, h⟩
    · rintro ⟨i, h1, h2⟩
      by_cases e : i = j
      · subst e; exact .inr h2
      · exact .inl ⟨i, by omega, h2⟩
theorem putsN_len (f : Nat → Int) : ∀ j, (putsN f j).length ≤ j
  | 0 => Nat.le_refl _
  | j + 1 => by
    have := putsN_len f j
    have := putI_len (putsN f j) (f j)
    rw [putsN]; omega
theorem putsN_map (l : List Int) (g : Int → Int) : putsN (fun i => g (l.getD i 0)) l.length = setI (l.map g) := by
  refine asc_ext (putsN_asc _ _) (setI_asc _) fun x => ?_
  rw [putsN_mem, setI_mem, List.mem_map]
  constructor
  · rintro ⟨i, h1, rfl⟩; exact ⟨_, mem_getD h1, rfl⟩
  · rintro ⟨y, hy, rfl⟩
    obtain ⟨i, hi, rfl⟩ := List.mem_iff_getElem.1 hy
    exact ⟨i, hi, by simp [hi]⟩
@[go_sem] theorem setI_len_le (l : List Int) : (sortI l).length = l.length := List.length_mergeSort l
def fnT (c : List Int) (t : Int → Int) : List D → Value → Prop := fun ds r => ∃ u, u ∈ c ∧ ds = [di u] ∧ r = .int .i64 (t u)
theorem fnT_mk {c : List Int} (t : Int → Int) {j : Nat} (h : j < c.length) : fnT c t [di (c.getD j 0)] (.int .i64 (t (c.getD j 0))) := ⟨_, mem_getD h, rfl, rfl⟩
theorem d_impl_mapped (c : List Int) (t : Int → Int) (hc : c.length < 1048577) :
    Den PA f_impl_mapped [.d (ints c), .pfn (fnT c t)] [.any, .any] (.own 1 ((setI (c.map t)).map di)) := by
  refine den_go [] l_impl_mapped ?_
  refine go_c0 ?_
  refine go_loop (fun (j : Nat) => ⟨[(1, .pfn (fnT c t)), (5, .sl 0 0 j 1), (9, .d (ints c)), (10, .d (di c.length)), (11, .d (di j)), (26, .any)], [some (.dat 1 (((c.map t).take j).map di))]⟩) (fun j => j ≤ c.length) (fun j => c.length - j) 0 ?_ ?_ ?_
  · exact go_r0
  · simp
  · rintro j hj J hJ
    repeat' (first | simp -implicitDefEqProofs (maxSteps := 1000000) (disch := (first | omega | (simp only [go_sem] <;> omega) | fail)) only [go_sem, ints, bools, mat] | ((first | apply goIf_b | apply goG_b | apply goTG_b | apply goOG_b) <;> intro h <;> ((try simp only [hnq] at h); (try simp only [h]); (try simp only [hnr] at h))))
    · refine goV_pfn [di (c.getD j 0)] (.int .i64 (t (c.getD j 0))) (by simp -implicitDefEqProofs (maxSteps := 1000000) (disch := (first | omega | (simp only [go_sem] <;> omega) | fail)) only [go_sem, ints, bools, mat]) rfl (fnT_mk t (by omega)) ?_
      refine go_c0 ?_
      refine hJ (j + 1) (by omega) (by omega) _ ?_
      simp -implicitDefEqProofs (maxSteps := 1000000) (disch := (first | omega | (simp only [go_sem] <;> omega) | fail)) only [go_sem, ints, bools, mat]
      rw [List.take_add_one]; simp [show j < c.length by omega]
    · have : j = c.length := by omega
      subst this
      have y1 := kc [.o] (d_slices_Sort (c.map t) (by simp; omega)); have y2 := kc [.o] (d_slices_Compact (sortI (c.map t)) (by simp; omega)); exact go_e0
theorem d_impl_mapped_o (c : List Int) (t : Int → Int) (hc : c.length < 1048577) :
    Den PA f_impl_mapped [.own 1 (c.map di), .pfn (fnT c t)] [.own 1 (c.map di), .any] (.own 1 ((setI (c.map t)).map di)) := by
  refine den_go [0] l_impl_mapped ?_
  refine go_c0 ?_
  refine go_loop (fun (j : Nat) => ⟨[(1, .pfn (fnT c t)), (5, .sl 0 0 j 1), (9, .sl 1 0 c.length 1), (10, .d (di c.length)), (11, .d (di j)), (26, .sl 1 0 c.length 1)], [some (.dat 1 (((c.map t).take j).map di)), some (.dat 1 (c.map di))]⟩) (fun j => j ≤ c.length) (fun j => c.length - j) 0 ?_ ?_ ?_
  · exact go_r0
  · simp
  · rintro j hj J hJ
    repeat' (first | simp -implicitDefEqProofs (maxSteps := 1000000) (disch := (first | omega | (simp only [go_sem] <;> omega) | fail)) only [go_sem, ints, bools, mat] | ((first | apply goIf_b | apply goG_b | apply goTG_b | apply goOG_b) <;> intro h <;> ((try simp only [hnq] at h); (try simp only [h]); (try simp only [hnr] at h))))
    · refine goV_pfn [di (c.getD j 0)] (.int .i64 (t (c.getD j 0))) (by simp -implicitDefEqProofs (maxSteps := 1000000) (disch := (first | omega | (simp only [go_sem] <;> omega) | fail)) only [go_sem, ints, bools, mat]) rfl (fnT_mk t (by omega)) ?_
      refine go_c0 ?_
      refine hJ (j + 1) (by omega) (by omega) _ ?_
      simp -implicitDefEqProofs (maxSteps := 1000000) (disch := (first | omega | (simp only [go_sem] <;> omega) | fail)) only [go_sem, ints, bools, mat]
      rw [List.take_add_one]; simp [show j < c.length by omega]
    · have : j = c.length := by omega
      subst this
      have y1 := kc [.o] (d_slices_Sort (c.map t) (by simp; omega)); have y2 := kc [.o] (d_slices_Compact (sortI (c.map t)) (by simp; omega)); exact go_e0
theorem d_spec_l01Put (l : List Int) (x : Int) (hl : l.length < 1048576) : Den PA f_spec_l01Put [.own 1 (l.map di), .d (di x)] [.any, .any] (.own 1 ((putI l x).map di)) := by
  have hle := ptN_le l x l.length
  refine den_go [] l_spec_l01Put ?_
  refine go_c0 ?_
  refine go_loop (fun (a : Nat) => ⟨[(0, .sl 0 0 l.length 1), (1, .d (di x)), (5, .d (di a))], [some (.dat 1 (l.map di))]⟩) (fun a => a ≤ l.length ∧ ptN l x l.length = ptN l x a) (fun a => a) l.length ?_ ?_ ?_
  · exact go_r0
  · exact ⟨Nat.le_refl _, rfl⟩
  · rintro a ⟨h1, h2⟩ J hJ
    cases a with
    | zero =>
      have e : putI l x = [x] ++ l := by simp [putI, h2, ptN]
      have y1 := kc [.r] (d_spec_l01Own [] (by simp)); refine go_c0 ?_
      rw [e]; rfl
    | succ a =>
      repeat' (first | simp -implicitDefEqProofs (maxSteps := 1000000) (disch := (first | omega | (simp only [go_sem] <;> omega) | fail)) only [go_sem, ints, bools, mat] | ((first | apply goIf_b | apply goG_b | apply goTG_b | apply goOG_b) <;> intro h <;> ((try simp only [hnq] at h); (try simp only [h]); (try simp only [hnr] at h)) <;> (try (exfalso; omega))))
      · refine hJ a ⟨by omega, ?_⟩ (by omega) _ ?_
        · rw [h2, ptN, if_pos (by simpa using h)]
        · exact go_r0
      · have hx : ptN l x (a + 1) = a + 1 := by rw [ptN, if_neg (by omega)]
        rw [putI, h2, hx, if_pos ⟨by omega, by simpa using h⟩]
      · have hx : ptN l x (a + 1) = a + 1 := by rw [ptN, if_neg (by omega)]
        have y1 := kc [.r] (d_spec_l01Own (l.take (a + 1)) (by simp; omega)); refine go_c0 ?_
        rw [putI, h2, hx, if_neg (fun hc => h (by simpa using hc.2))]
abbrev inC (l c : List Int) : Prop := ∀ u, u ∈ c → 0 ≤ u ∧ u < prodM l
theorem inC_get {l c : List Int} (h : inC l c) : ∀ j, j < c.length → 0 ≤ c.getD j 0 ∧ c.getD j 0 < prodM l := fun j hj => h _ (mem_getD hj)
theorem inC_big {l c : List Int} (hs : isSpaceM l = true) (h : inC l c) : ∀ j, j < c.length → 0 ≤ c.getD j 0 ∧ c.getD j 0 < 1000000000000 := fun j hj => by
  have := inC_get h j hj; have := isSpaceM_prod hs; omega
theorem inC_code {l c : List Int} (hcc : isCodeM l c = true) : inC l c := fun u hu => code_mem hcc hu
theorem d_impl_shifted_1 (l : List Int) (hs : isSpaceM l = true) (u w : Int) (hu : 0 ≤ u) (hu2 : u < 1000000000000) :
    Den PA f_impl_shifted_1 [.d (di u), .box [ints l], .box ((pad8 (digM l w)).map dy)] [.any, .any, .any] (.d (di (sumW l u w))) := by
  have hn := isSpaceM_n hs
  have hz := isSpaceM_szs hs
  have ea := digM_len l u
  have eb := digM_len l w
  refine den_go [] l_impl_shifted_1 ?_
  have y1 := kc [.r, .r] (d_impl_digitsOf l hs u hu hu2); have y2 := kc [.r, .r, .r] (d_impl_sumOf l (digM l u) (digM l w) hs (by omega) (by omega) (digM_bnd u hz) (digM_bnd w hz)); have y3 := kc [.r, .r] (d_impl_wordOf l (sumM l (digM l u) (digM l w)) hs (by rw [sumM_len]; omega) (sumM_lt hz _ _)); refine go_c0 ?_
  rfl
abbrev shM (l c : List Int) (w : Int) : List Int := setI (c.map fun u => sumW l u w)
theorem shM_len (l c : List Int) (w : Int) : (shM l c w).length ≤ c.length := Nat.le_trans (setI_len _) (by simp)
theorem shM_in {l : List Int} (hs : isSpaceM l = true) (c : List Int) (w : Int) : inC l (shM l c w) := fun u hu => by
  rw [setI_mem, List.mem_map] at hu
  obtain ⟨v, _, rfl⟩ := hu
  exact sumW_bnd hs v w
theorem d_impl_shifted (l c : List Int) (hs : isSpaceM l = true) (hc : c.length < 1048577) (hcw : inC l c) (w : Int) (hw : 0 ≤ w) (hw2 : w < 1000000000000) :
    Den PA f_impl_shifted [.d (.agg [ints l]), .d (ints c), .d (di w)] [.any, .any, .any] (.own 1 ((shM l c w).map di)) := by
  have hn := isSpaceM_n hs
  have hz := isSpaceM_szs hs
  have hp := isSpaceM_prod hs
  refine den_go [] l_impl_shifted ?_
  repeat' (first | simp -implicitDefEqProofs (maxSteps := 1000000) (disch := (first | omega | (simp only [go_sem] <;> omega) | fail)) only [go_sem, ints, bools, mat, c_impl_shifted] | ((first | apply goIf_b | apply goG_b | apply goTG_b | apply goOG_b) <;> intro h <;> ((try simp only [hnq] at h); (try simp only [h]); (try simp only [hnr] at h))))
  have yc := d_impl_digitsOf l hs w hw hw2; first | refine goC_call [.r, .r] yc ?_ | refine goOC_call [.r, .r] yc ?_
  repeat' (first | simp -implicitDefEqProofs (maxSteps := 1000000) (disch := (first | omega | (simp only [go_sem] <;> omega) | fail)) only [go_sem, ints, bools, mat] | ((first | apply goIf_b | apply goG_b | apply goTG_b | apply goOG_b) <;> intro h <;> ((try simp only [hnq] at h); (try simp only [h]); (try simp only [hnr] at h))))
  have yc := d_impl_mapped c (fun u => sumW l u w) hc; first | refine goC_call [.r, .g (fnT c fun u => sumW l u w)] yc ?_ | refine goOC_call [.r, .g (fnT c fun u => sumW l u w)] yc ?_
  repeat' (first | simp -implicitDefEqProofs (maxSteps := 1000000) (disch := (first | omega | (simp only [go_sem] <;> omega) | fail)) only [go_sem, ints, bools, mat] | ((first | apply goIf_b | apply goG_b | apply goTG_b | apply goOG_b) <;> intro h <;> ((try simp only [hnq] at h); (try simp only [h]); (try simp only [hnr] at h))))
  refine chk_intro (fnOK_mk (d_impl_shifted_1 l hs 0 w (by omega) (by omega)).1 [[ints l], (pad8 (digM l w)).map dy] (by simp -implicitDefEqProofs (maxSteps := 1000000) (disch := (first | omega | (simp only [go_sem] <;> omega) | fail)) only [go_sem, ints, bools, mat]) fun ds r hgg => ?_) ?_
  · obtain ⟨u, hu, rfl, rfl⟩ := hgg
    have := hcw u hu
    exact ⟨_, d_impl_shifted_1 l hs u w (by omega) (by omega)⟩
  exact go_e0
theorem d_impl_shifted_o (l c : List Int) (hs : isSpaceM l = true) (hc : c.length < 1048577) (hcw : inC l c) (w : Int) (hw : 0 ≤ w) (hw2 : w < 1000000000000) :
    Den PA f_impl_shifted [.d (.agg [ints l]), .own 1 (c.map di), .d (di w)] [.any, .own 1 (c.map di), .any] (.own 1 ((shM l c w).map di)) := by
  have hn := isSpaceM_n hs
  have hz := isSpaceM_szs hs
  have hp := isSpaceM_prod hs
  refine den_go [1] l_impl_shifted ?_
  repeat' (first | simp -implicitDefEqProofs (maxSteps := 1000000) (disch := (first | omega | (simp only [go_sem] <;> omega) | fail)) only [go_sem, ints, bools, mat, c_impl_shifted] | ((first | apply goIf_b | apply goG_b | apply goTG_b | apply goOG_b) <;> intro h <;> ((try simp only [hnq] at h); (try simp only [h]); (try simp only [hnr] at h))))
  have yc := d_impl_digitsOf l hs w hw hw2; first | refine goC_call [.r, .r] yc ?_ | refine goOC_call [.r, .r] yc ?_
  repeat' (first | simp -implicitDefEqProofs (maxSteps := 1000000) (disch := (first | omega | (simp only [go_sem] <;> omega) | fail)) only [go_sem, ints, bools, mat] | ((first | apply goIf_b | apply goG_b | apply goTG_b | apply goOG_b) <;> intro h <;> ((try simp only [hnq] at h); (try simp only [h]); (try simp only [hnr] at h))))
  have yc := d_impl_mapped_o c (fun u => sumW l u w) hc; first | refine goC_call [.o, .g (fnT c fun u => sumW l u w)] yc ?_ | refine goOC_call [.o, .g (fnT c fun u => sumW l u w)] yc ?_
  repeat' (first | simp -implicitDefEqProofs (maxSteps := 1000000) (disch := (first | omega | (simp only [go_sem] <;> omega) | fail)) only [go_sem, ints, bools, mat] | ((first | apply goIf_b | apply goG_b | apply goTG_b | apply goOG_b) <;> intro h <;> ((try simp only [hnq] at h); (try simp only [h]); (try simp only [hnr] at h))))
  refine chk_intro (fnOK_mk (d_impl_shifted_1 l hs 0 w (by omega) (by omega)).1 [[ints l], (pad8 (digM l w)).map dy] (by simp -implicitDefEqProofs (maxSteps := 1000000) (disch := (first | omega | (simp only [go_sem] <;> omega) | fail)) only [go_sem, ints, bools, mat]) fun ds r hgg => ?_) ?_
  · obtain ⟨u, hu, rfl, rfl⟩ := hgg
    have := hcw u hu
    exact ⟨_, d_impl_shifted_1 l hs u w (by omega) (by omega)⟩
  exact go_e0
theorem d_spec_l01Shifted (l c : List Int) (hs : isSpaceM l = true) (hc : c.length < 1048577) (hcw : inC l c) (w : Int) (hw : 0 ≤ w) (hw2 : w < 1000000000000) :
    Den PA f_spec_l01Shifted [.d (.agg [ints l]), .d (ints c), .d (di w)] [.any, .any, .any] (.own 1 ((shM l c w).map di)) := by
  have hb := inC_big hs hcw
  rw [show shM l c w = _ from (putsN_map c fun u => sumW l u w).symm]
  refine den_go [] l_spec_l01Shifted ?_
  refine go_c0 ?_
  refine go_loop (fun (j : Nat) => ⟨[(1, .d (ints c)), (2, .d (di w)), (3, .ref 0 0), (7, .sl 1 0 (putsN (fun i => sumW l (c.getD i 0) w) j).length 1), (11, .d (di c.length)), (12, .d (di j))], [some (.var [ints l]), some (.dat 1 ((putsN (fun i => sumW l (c.getD i 0) w) j).map di))]⟩) (fun j => j ≤ c.length) (fun j => c.length - j) 0 ?_ ?_ ?_
  · exact go_r0
  · simp
  · rintro j hj J hJ
    have hpl := putsN_len (fun i => sumW l (c.getD i 0) w) j
    have hbj := hb j
    repeat' (first | simp -implicitDefEqProofs (maxSteps := 1000000) (disch := (first | omega | (simp only [go_sem] <;> omega) | fail)) only [go_sem, ints, bools, mat] | ((first | apply goIf_b | apply goG_b | apply goTG_b | apply goOG_b) <;> intro h <;> ((try simp only [hnq] at h); (try simp only [h]); (try simp only [hnr] at h))))
    · have y1 := kc [.r, .r, .r] (d_spec_l01Sum l hs (c.getD j 0) w (by omega) (by omega) hw hw2); have y2 := kc [.o, .r] (d_spec_l01Put (putsN (fun i => sumW l (c.getD i 0) w) j) (sumW l (c.getD j 0) w) (by omega)); refine go_c0 ?_
      refine hJ (j + 1) (by omega) (by omega) _ ?_
      simp -implicitDefEqProofs (maxSteps := 1000000) (disch := (first | omega | (simp only [go_sem] <;> omega) | fail)) only [go_sem, ints, bools, mat]
      rfl
    · have : j = c.length := by omega
      subst this
      exact go_e0
theorem q_cases {l : List Int} (hz : szs l) {i : Nat} (h : i < l.length) : l.getD i 0 = 2 ∨ l.getD i 0 = 3 ∨ l.getD i 0 = 4 := by
  have := hz i h; omega
theorem sumW_assoc {l : List Int} (hs : isSpaceM l = true) (u v w : Int) : sumW l (sumW l u v) w = sumW l u (sumW l v w) := by
  have hz := isSpaceM_szs hs
  refine word_eq hz (sumW_bnd hs _ _) (sumW_bnd hs _ _) fun i hi => ?_
  simp only [sumW_dig hz _ _ hi]
  have h1 := dig_lt hz u hi
  have h2 := dig_lt hz v hi
  have h3 := dig_lt hz w hi
  rcases q_cases hz hi with hq | hq | hq <;> rw [hq] at h1 h2 h3 ⊢ <;> omega
def oppD (l a : List Int) : List Int := (List.range l.length).map fun (i : Nat) => (l.getD i 0 - a.getD i 0) % l.getD i 0
@[go_sem] theorem oppD_len (l a : List Int) : (oppD l a).length = l.length := by simp [oppD]
theorem sumW_zero {l : List Int} (hs : isSpaceM l = true) {u : Int} (hu : 0 ≤ u ∧ u < prodM l) : sumW l u 0 = u := by
  have hz := isSpaceM_szs hs
  refine word_eq hz (sumW_bnd hs _ _) hu fun i hi => ?_
  rw [sumW_dig hz _ _ hi, digM_zero]
  have h1 := dig_lt hz u hi
  rw [show (List.replicate l.length (0 : Int)).getD i 0 = 0 by simp [hi], Int.add_zero]; exact Int.emod_eq_of_lt h1.1 h1.2
theorem code_asc {l c : List Int} (hcc : isCodeM l c = true) : Asc c := List.pairwise_iff_getElem.2 fun i k hi hk hik => by
  have := code_nodup hcc i k hik hk
  simpa [hi, hk] using this
theorem setI_len_nodup {l : List Int} (h : l.Nodup) : (setI l).length = l.length := by rw [← sortI_nodup h]; exact List.length_mergeSort l
theorem shM_mem {l c : List Int} {w x : Int} : x ∈ shM l c w ↔ ∃ u, u ∈ c ∧ sumW l u w = x := by rw [setI_mem, List.mem_map]
theorem shM_asc (l c : List Int) (w : Int) : Asc (shM l c w) := setI_asc _
theorem setM_get {l c : List Int} (hc : inC l c) {i : Nat} (hi : i < (prodM l).toNat) : (setM l c).getD i false = decide ((i : Int) ∈ c) := by
  have h := setN_get (prodM l).toNat c (fun j hj => (inC_get hc j hj).1) hi c.length (Nat.le_refl _)
  rw [Bool.eq_iff_iff, h, decide_eq_true_eq]
  constructor
  · rintro ⟨k, hk, e⟩; rw [← e]; exact mem_getD hk
  · intro hm
    obtain ⟨k, hk, e⟩ := List.mem_iff_getElem.1 hm
    exact ⟨k, hk, by simp [hk, e]⟩
theorem inC_app {l a b : List Int} (ha : inC l a) (hb : inC l b) : inC l (a ++ b) := fun u hu => by
  rcases List.mem_append.1 hu with h | h
  · exact ha u h
  · exact hb u h
theorem allW_asc (l : List Int) : Asc (allW l) := by
  unfold allW
  exact List.Pairwise.map _ (fun a b h => by omega) List.pairwise_lt_range
theorem allW_mem' {l : List Int} (hs : isSpaceM l = true) (u : Int) : u ∈ allW l ↔ 0 ≤ u ∧ u < prodM l := by
  have := prodM_pos (isSpaceM_szs hs)
  rw [allW_mem]; omega
theorem setI_filter {l c : List Int} (hs : isSpaceM l = true) (hc : inC l c) : setI c = (allW l).filter fun u => decide (u ∈ c) := by
  refine setI_eq ((allW_asc l).filter _) fun x => ?_
  rw [List.mem_filter, allW_mem' hs, decide_eq_true_eq]
  exact ⟨fun h => h.2, fun h => ⟨hc x h, h⟩⟩
theorem nodup_small {l c : List Int} (hs : isSpaceM l = true) (hc : inC l c) (hn : c.Nodup) : c.length ≤ (prodM l).toNat := by
  have e : c.length = ((allW l).filter fun u => decide (u ∈ c)).length := by rw [← setI_filter hs hc, setI_len_nodup hn]
  rw [e, ← allW_len l]; exact List.length_filter_le _ _
structure Grp (l c : List Int) : Prop where
  asc : Asc c
  inc : inC l c
  zer : (0 : Int) ∈ c
  clo : ∀ u v, u ∈ c → v ∈ c → sumW l u v ∈ c
abbrev mulW (l : List Int) (w : Int) (i : Nat) : Int := addW l 0 w i
theorem mulW_dig {l : List Int} (hz : szs l) (w : Int) (i : Nat) {k : Nat} (h : k < l.length) : (digM l (mulW l w i)).getD k 0 = (i * (digM l w).getD k 0) % l.getD k 0 := by
  rw [mulW, addW_dig hz _ _ h, digM_zero, show (List.replicate l.length (0 : Int)).getD k 0 = 0 by simp [h], Int.zero_add]
theorem mulW_bnd {l : List Int} (hs : isSpaceM l = true) (w : Int) : ∀ i, 0 ≤ mulW l w i ∧ mulW l w i < prodM l
  | 0 => ⟨Int.le_refl _, by have := prodM_pos (isSpaceM_szs hs); show (0 : Int) < prodM l; omega⟩
  | i + 1 => sumW_bnd hs _ _
def ccN (l c : List Int) (w : Int) : Nat → List Int
  | 0 => c
  | m + 1 => ccN l c w m ++ shM l c (mulW l w (m + 1))
def spS (l c : List Int) (w : Int) : List Int := if w ∈ c then c else setI (ccN l c w (l.getD 0 0 - 1).toNat)
def spN (l ws : List Int) : Nat → List Int
  | 0 => [0]
  | j + 1 => spS l (spN l ws j) (ws.getD j 0)
theorem ccN_in {l c : List Int} (hs : isSpaceM l = true) (hc : inC l c) (w : Int) : ∀ m, inC l (ccN l c w m)
  | 0 => hc
  | m + 1 => inC_app (ccN_in hs hc w m) (shM_in hs _ _)
theorem ccN_mem {l c : List Int} (hs : isSpaceM l = true) (hc : inC l c) (w x : Int) : ∀ m, x ∈ ccN l c w m ↔ ∃ i, i ≤ m ∧ ∃ u, u ∈ c ∧ sumW l u (mulW l w i) = x
  | 0 => by
    constructor
    · intro h; exact ⟨0, Nat.le_refl _, x, h, sumW_zero hs (hc x h)⟩
    · rintro ⟨i, hi, u, hu, e⟩
      have : i = 0 := by omega
      subst this
      rw [show mulW l w 0 = 0 from rfl, sumW_zero hs (hc u hu)] at e
      rw [← e]; exact hu
  | m + 1 => by
    rw [ccN, List.mem_append, ccN_mem hs hc w x m, shM_mem]
    constructor
    · rintro (⟨i, h1, h2⟩ | h)
      · exact ⟨i, by omega, h2⟩
      · exact ⟨m + 1, Nat.le_refl _, h⟩
    · rintro ⟨i, h1, h2⟩
      by_cases e : i = m + 1
      · subst e; exact .inr h2
      · exact .inl ⟨i, by omega, h2⟩
theorem q23 {l : List Int} (hs : isSpaceM l = true) (hp : plainM l = true) {k : Nat} (h : k < l.length) : l.getD k 0 = l.getD 0 0 ∧ (l.getD 0 0 = 2 ∨ l.getD 0 0 = 3) := by
  have h1 := (plainM_ok l).1 hp k h
  have h2 := isSpaceM_szs hs k h
  omega
theorem coset_in {l c : List Int} (hs : isSpaceM l = true) (hp : plainM l = true) (g : Grp l c) {w : Int} (hw : 0 ≤ w ∧ w < prodM l) {i j : Nat} (hij : i < j) (hj : (j : Int) < l.getD 0 0) {u v : Int} (hu : u ∈ c) (hv : v ∈ c) (e : sumW l u (mulW l w i) = sumW l v (mulW l w j)) : w ∈ c := by
  have hz := isSpaceM_szs hs
  have hn := isSpaceM_n hs
  have hd : ∀ k, k < l.length → ((digM l u).getD k 0 + (i * (digM l w).getD k 0) % l.getD k 0) % l.getD k 0 = ((digM l v).getD k 0 + (j * (digM l w).getD k 0) % l.getD k 0) % l.getD k 0 := fun k hk => by
    have := congrArg (fun x => (digM l x).getD k 0) e
    simpa only [sumW_dig hz _ _ hk, mulW_dig hz _ _ hk] using this
  have h0 := (q23 hs hp (k := 0) (by omega)).2
  have one : ∀ x, x ∈ c → (∀ k, k < l.length → (digM l x).getD k 0 = (digM l w).getD k 0) → w ∈ c := fun x hx h => by
    rw [← word_eq hz (g.inc x hx) hw h]; exact hx
  have b3 : ∀ k, k < l.length → _ := fun k hk => And.intro (dig_lt hz u hk) (And.intro (dig_lt hz v hk) (dig_lt hz w hk))
  rcases h0 with hq | hq
  · have : i = 0 := by omega
    have : j = 1 := by omega
    subst i j
    refine one _ (g.clo _ _ hu hv) fun k hk => ?_
    have hk1 := (q23 hs hp hk).1
    have h1 := hd k hk
    have h2 := b3 k hk
    rw [sumW_dig hz _ _ hk]
    rw [hk1, hq] at h1 h2 ⊢
    omega
  · by_cases hd1 : j = i + 1
    · refine one _ (g.clo _ _ (g.clo _ _ hu hv) hv) fun k hk => ?_
      have hk1 := (q23 hs hp hk).1
      have h1 := hd k hk
      have h2 := b3 k hk
      rw [sumW_dig hz _ _ hk, sumW_dig hz _ _ hk]
      rw [hk1, hq] at h1 h2 ⊢
      have hi : i = 0 ∨ i = 1 := by omega
      rcases hi with rfl | rfl
      · subst hd1; simp only [Int.natCast_zero, Int.zero_mul, Int.natCast_one, Int.one_mul, Nat.zero_add] at h1; omega
      · subst hd1
        rw [show ((1 + 1 : Nat) : Int) = 2 from rfl, Int.natCast_one, Int.one_mul] at h1; omega
    · have : i = 0 := by omega
      have : j = 2 := by omega
      subst i j
      refine one _ (g.clo _ _ (g.clo _ _ hu hu) hv) fun k hk => ?_
      have hk1 := (q23 hs hp hk).1
      have h1 := hd k hk
      have h2 := b3 k hk
      rw [sumW_dig hz _ _ hk, sumW_dig hz _ _ hk]
      rw [hk1, hq] at h1 h2 ⊢
      rw [show ((2 : Nat) : Int) = 2 from rfl] at h1
      simp only [Int.natCast_zero, Int.zero_mul] at h1; omega
theorem ccN_nodup {l c : List Int} (hs : isSpaceM l = true) (hp : plainM l = true) (g : Grp l c) {w : Int} (hw : 0 ≤ w ∧ w < prodM l) (hn : w ∉ c) : ∀ m : Nat, (m : Int) < l.getD 0 0 → (ccN l c w m).Nodup
  | 0, _ => asc_nodup g.asc
  | m + 1, h => by
    rw [ccN]
    refine List.nodup_append.2 ⟨ccN_nodup hs hp g hw hn m (by omega), asc_nodup (shM_asc _ _ _), fun a ha b hb e => ?_⟩
    subst e
    obtain ⟨i, hi, u, hu, e1⟩ := (ccN_mem hs g.inc w a m).1 ha
    obtain ⟨v, hv, e2⟩ := shM_mem.1 hb
    exact hn (coset_in hs hp g hw (i := i) (j := m + 1) (by omega) h hu hv (e1.trans e2.symm))
theorem sum4 {l : List Int} (hs : isSpaceM l = true) (hp : plainM l = true) (u v w : Int) (i j : Nat) : sumW l (sumW l u (mulW l w i)) (sumW l v (mulW l w j)) = sumW l (sumW l u v) (mulW l w ((i + j) % (l.getD 0 0).toNat)) := by
  have hz := isSpaceM_szs hs
  refine word_eq hz (sumW_bnd hs _ _) (sumW_bnd hs _ _) fun k hk => ?_
  simp only [sumW_dig hz _ _ hk, mulW_dig hz _ _ hk]
  have h1 := q23 hs hp hk
  rw [h1.1]
  generalize (digM l u).getD k 0 = a
  generalize (digM l v).getD k 0 = b
  generalize (digM l w).getD k 0 = x
  have e : (((i + j) % (l.getD 0 0).toNat : Nat) : Int) = ((i : Int) + j) % l.getD 0 0 := by
    rw [Int.natCast_emod, Int.natCast_add, Int.toNat_of_nonneg (by omega)]
  rw [e]
  generalize l.getD 0 0 = q
  rw [Int.emod_add_emod, Int.add_emod_emod, mul_mod_l]
  have e1 : a + i * x % q + (b + j * x % q) = (a + b) + (i * x % q + j * x % q) := by omega
  rw [Int.add_emod_emod, Int.emod_add_emod, e1, Int.add_emod (a + b) (i * x % q + j * x % q), ← Int.add_emod (i * x) (j * x), ← Int.add_emod (a + b), Int.add_mul]
theorem spS_grp {l c : List Int} (hs : isSpaceM l = true) (hp : plainM l = true) (g : Grp l c) {w : Int} (hw : 0 ≤ w ∧ w < prodM l) : Grp l (spS l c w) := by
  have hn := isSpaceM_n hs
  have hq := (q23 hs hp (k := 0) (by omega)).2
  unfold spS
  split
  · exact g
  · refine ⟨setI_asc _, fun u hu => ?_, ?_, fun u v hu hv => ?_⟩
    · rw [setI_mem] at hu; exact ccN_in hs g.inc w _ u hu
    · rw [setI_mem, ccN_mem hs g.inc]; exact ⟨0, Nat.zero_le _, 0, g.zer, sumW_zero hs (g.inc 0 g.zer)⟩
    · rw [setI_mem, ccN_mem hs g.inc] at hu hv ⊢
      obtain ⟨i, hi, a, ha, rfl⟩ := hu
      obtain ⟨j, hj, b, hb, rfl⟩ := hv
      refine ⟨(i + j) % (l.getD 0 0).toNat, ?_, _, g.clo _ _ ha hb, (sum4 hs hp a b w i j).symm⟩
      have := Nat.mod_lt (i + j) (y := (l.getD 0 0).toNat) (by omega)
      omega
theorem spN_grp {l ws : List Int} (hs : isSpaceM l = true) (hp : plainM l = true) (hw : inC l ws) : ∀ j, j ≤ ws.length → Grp l (spN l ws j)
  | 0, _ => by
    have hp1 := prodM_pos (isSpaceM_szs hs)
    refine ⟨by simp [spN, Asc], fun u hu => ?_, by simp [spN], fun u v hu hv => ?_⟩
    · simp [spN] at hu; subst hu; omega
    · simp [spN] at hu hv ⊢; subst hu hv; exact sumW_zero hs (by omega)
  | j + 1, h => spS_grp hs hp (spN_grp hs hp hw j (by omega)) (hw _ (mem_getD (by omega)))
theorem grp_len {l c : List Int} (hs : isSpaceM l = true) (g : Grp l c) : c.length ≤ (prodM l).toNat := nodup_small hs g.inc (asc_nodup g.asc)
theorem shM_shM {l c : List Int} (hs : isSpaceM l = true) (w : Int) (i : Nat) : shM l (shM l c (mulW l w i)) w = shM l c (mulW l w (i + 1)) := by
  refine asc_ext (shM_asc _ _ _) (shM_asc _ _ _) fun x => ?_
  rw [shM_mem, shM_mem]
  constructor
  · rintro ⟨u, hu, rfl⟩
    obtain ⟨v, hv, rfl⟩ := shM_mem.1 hu
    exact ⟨v, hv, (sumW_assoc hs v (mulW l w i) w).symm⟩
  · rintro ⟨v, hv, rfl⟩
    exact ⟨_, shM_mem.2 ⟨v, hv, rfl⟩, sumW_assoc hs v (mulW l w i) w⟩
theorem shM_zero {l c : List Int} (hs : isSpaceM l = true) (hc : inC l c) (ha : Asc c) : shM l c 0 = c := by
  refine setI_eq ha fun x => ?_
  rw [List.mem_map]
  constructor
  · intro h; exact ⟨x, h, sumW_zero hs (hc x h)⟩
  · rintro ⟨u, hu, e⟩; rw [sumW_zero hs (hc u hu)] at e; rw [← e]; exact hu
@[go_sem] theorem binA_shru1 {a : Int} (h : 0 ≤ a) (h' : a < 18446744073709551616) : binA .shr (.d (.v (.int .u64 a))) (.d (.v (.int .u64 1))) = some (.d (.v (.int .u64 (a / 2)))) := by
  have e : min (1 : Int).toNat 64 = 1 := rfl
  have h1 : (0 : Int) ≤ 2 ^ 1 := by decide
  simp only [binA, binI, BinOp.isShift, true_or, if_true, if_neg (show ¬ (1 : Int) < 0 by omega), IntKind.bits, e, Option.map_some, Int.fdiv_eq_ediv_of_nonneg _ h1]
  rfl
theorem d_slices_isNaN (x : Int) : Den PA f_slices_isNaN_int64_ [.d (di x)] [.any] (.d (db false)) := by
  refine den_go [] l_slices_isNaN_int64_ ?_
  exact go_e0
theorem asc_lt {c : List Int} (h : Asc c) {i k : Nat} (hik : i < k) (hk : k < c.length) : c.getD i 0 < c.getD k 0 := by
  have := List.pairwise_iff_getElem.1 h i k (by omega) hk hik
  simpa [show i < c.length by omega, hk] using this
theorem d_slices_BinarySearch (c : List Int) (x : Int) (hc : c.length < 1048577) (ha : Asc c) : Den PA f_slices_BinarySearch___int64_int64_ [.d (ints c), .d (di x)] [.any, .any] (.tup [.any, .d (db (decide (x ∈ c)))]) := by
  refine den_go [] l_slices_BinarySearch___int64_int64_ ?_
  refine go_c0 ?_
  refine go_loop (fun (p : Nat × Nat) => ⟨[(0, .d (ints c)), (1, .d (di x)), (6, .d (di c.length)), (7, .d (di p.1)), (8, .d (di p.2))], []⟩) (fun p => p.1 ≤ p.2 ∧ p.2 ≤ c.length ∧ (∀ k, k < p.1 → c.getD k 0 < x) ∧ ∀ k, p.2 ≤ k → k < c.length → x ≤ c.getD k 0) (fun p => p.2 - p.1) (0, c.length) ?_ ?_ ?_
  · exact go_r0
  · exact ⟨Nat.zero_le _, Nat.le_refl _, fun k hk => by omega, fun k h1 h2 => by dsimp only at h1; omega⟩
  · rintro ⟨i, j⟩ ⟨h1, h2, h3, h4⟩ J hJ
    dsimp only at h1 h2 h3 h4 ⊢
    have hlo := fun k (hk : k ≤ (i + j) / 2) (h : (i + j) / 2 < c.length) => (show c.getD k 0 ≤ c.getD ((i + j) / 2) 0 by
      rcases Nat.lt_or_ge k ((i + j) / 2) with q | q
      · exact Int.le_of_lt (asc_lt ha q h)
      · have : k = (i + j) / 2 := by omega
        rw [this]; exact Int.le_refl _)
    have hhi := fun k (hk : (i + j) / 2 ≤ k) (h : k < c.length) => (show c.getD ((i + j) / 2) 0 ≤ c.getD k 0 by
      rcases Nat.lt_or_ge ((i + j) / 2) k with q | q
      · exact Int.le_of_lt (asc_lt ha q h)
      · have : k = (i + j) / 2 := by omega
        rw [this]; exact Int.le_refl _)
    have em : (((i : Int) + j) / 2) = (((i + j) / 2 : Nat) : Int) := by omega
    by_cases hij : i < j
    · refine go_c0 ?_
      rw [em]
      repeat' (first | simp -implicitDefEqProofs (maxSteps := 1000000) (disch := (first | omega | (simp only [go_sem] <;> omega) | fail)) only [go_sem, ints, bools, mat] | ((first | apply goIf_b | apply goG_b | apply goTG_b | apply goOG_b) <;> intro h <;> ((try simp only [hnq] at h); (try simp only [h]); (try simp only [hnr] at h)) <;> (try (exfalso; omega))))
      have yc := d_cmp_Less (c.getD ((i + j) / 2) 0) x; first | refine goC_call [.r, .r] yc ?_ | refine goOC_call [.r, .r] yc ?_
      repeat' (first | simp -implicitDefEqProofs (maxSteps := 1000000) (disch := (first | omega | (simp only [go_sem] <;> omega) | fail)) only [go_sem, ints, bools, mat] | ((first | apply goIf_b | apply goG_b | apply goTG_b | apply goOG_b) <;> intro h <;> ((try simp only [hnq] at h); (try simp only [h]); (try simp only [hnr] at h)) <;> (try (exfalso; omega))))
      · refine hJ ((i + j) / 2 + 1, j) ⟨by dsimp only; omega, h2, fun k hk => ?_, h4⟩ (by dsimp only; omega) _ go_r0
        dsimp only at hk
        have := hlo k (by omega) (by omega); omega
      · refine hJ (i, (i + j) / 2) ⟨by dsimp only; omega, by dsimp only; omega, h3, fun k hk hk2 => ?_⟩ (by dsimp only; omega) _ go_r0
        dsimp only at hk
        have := hhi k hk hk2; omega
    · have : i = j := by omega
      subst this
      have hmem : x ∈ c ↔ i < c.length ∧ c.getD i 0 = x := by
        constructor
        · intro hm
          obtain ⟨k, hk, e⟩ := List.mem_iff_getElem.1 hm
          have e2 : c.getD k 0 = x := by simp [hk, e]
          have h5 : i ≤ k := by
            rcases Nat.lt_or_ge k i with q | q
            · have := h3 k q; omega
            · exact q
          have h6 := h4 i (Nat.le_refl _) (by omega)
          have h7 : c.getD i 0 ≤ c.getD k 0 := by
            rcases Nat.lt_or_ge i k with q | q
            · exact Int.le_of_lt (asc_lt ha q hk)
            · have : k = i := by omega
              rw [this]; exact Int.le_refl _
          exact ⟨by omega, by omega⟩
        · rintro ⟨h5, h6⟩; rw [← h6]; exact mem_getD h5
      repeat' (first | simp -implicitDefEqProofs (maxSteps := 1000000) (disch := (first | omega | (simp only [go_sem] <;> omega) | fail)) only [go_sem, ints, bools, mat] | ((first | apply goIf_b | apply goG_b | apply goTG_b | apply goOG_b) <;> intro h <;> ((try simp only [hnq] at h); (try simp only [h]); (try simp only [hnr] at h)) <;> (try (exfalso; omega))))
      · have y1 := kc [.r] (d_slices_isNaN (c.getD i 0)); refine go_c0 ?_
        exact dbv (decide_eq_false fun hm => by have := hmem.1 hm; omega).symm
      · exact dbT (decide_eq_true (hmem.2 ⟨by omega, by assumption⟩))
      · exact dbv (decide_eq_false fun hm => by have := hmem.1 hm; omega).symm
@[go_sem] theorem capA_nil : capA (.d nil) = some (.d (di 0)) := rfl
@[go_sem] theorem capA_nil' : capA (.d (.v (.slice none 0 0))) = some (.d (di 0)) := rfl
theorem d_slices_Grow (n : Nat) (h0 : 0 < n) (hn : n < 4194304) : Den PA f_slices_Grow___int64_int64_ [.d nil, .d (di n)] [.any, .any] (.own 1 []) := by
  refine den_go [] l_slices_Grow___int64_int64_ ?_
  repeat' (first | simp -implicitDefEqProofs (maxSteps := 1000000) (disch := (first | omega | (simp only [go_sem] <;> omega) | fail)) only [go_sem, ints, bools, mat, c_slices_Grow___int64_int64_, apmM, leaS_part] | ((first | apply goIf_b | apply goG_b | apply goTG_b | apply goOG_b) <;> intro h <;> ((try simp only [hnq] at h); (try simp only [h]); (try simp only [hnr] at h)) <;> (try (exfalso; omega))))
def flN (L : List (List Int)) : Nat → List Int
  | 0 => []
  | j + 1 => flN L j ++ L.getD j []
theorem flN_mono (L : List (List Int)) (j : Nat) : ∀ k, (flN L j).length ≤ (flN L (j + k)).length
  | 0 => Nat.le_refl _
  | k + 1 => by
    rw [← Nat.add_assoc, flN, List.length_append]
    have := flN_mono L j k; omega
theorem flN_le (L : List (List Int)) {j k : Nat} (h : j ≤ k) : (flN L j).length ≤ (flN L k).length := by
  have := flN_mono L j (k - j)
  rwa [Nat.add_sub_cancel' h] at this
theorem d_slices_Concat (L : List (List Int)) (hL : L.length < 1048577) (h0 : 0 < (flN L L.length).length) (hn : (flN L L.length).length < 4194304) : Den PA f_slices_Concat___int64_int64_ [.d (mat L)] [.any] (.own 1 ((flN L L.length).map di)) := by
  refine den_go [] l_slices_Concat___int64_int64_ ?_
  refine go_c0 ?_
  refine go_loop (fun (j : Nat) => ⟨[(0, .d (mat L)), (3, .d (di (flN L j).length)), (9, .d (mat L)), (10, .d (di L.length)), (11, .d (di j))], []⟩) (fun j => j ≤ L.length) (fun j => L.length - j) 0 ?_ ?_ ?_
  · exact go_r0
  · simp
  · rintro j hj J hJ
    have hm := flN_le L hj
    by_cases hjl : j < L.length
    · have hm2 := flN_le L (j := j + 1) hjl
      have e : (flN L (j + 1)).length = (flN L j).length + (L.getD j []).length := by rw [flN, List.length_append]
      refine go_c0 ?_
      refine hJ (j + 1) (by omega) (by omega) _ ?_
      simp -implicitDefEqProofs (maxSteps := 1000000) (disch := (first | omega | (simp only [go_sem] <;> omega) | fail)) only [go_sem, ints, bools, mat]
      rw [e]; rfl
    · have : j = L.length := by omega
      subst this
      have y1 := kc [.r, .r] (d_slices_Grow (flN L L.length).length h0 hn); refine go_c0 ?_
      refine go_loop (fun (j : Nat) => ⟨[(6, .sl 0 0 (flN L j).length 1), (25, .d (mat L)), (26, .d (di L.length)), (27, .d (di j))], [some (.dat 1 ((flN L j).map di))]⟩) (fun j => j ≤ L.length) (fun j => L.length - j) 0 ?_ ?_ ?_
      · exact go_r0
      · simp
      · rintro j hj J hJ
        have hm := flN_le L hj
        by_cases hjl : j < L.length
        · have hm2 := flN_le L (j := j + 1) hjl
          have e : (flN L (j + 1)).length = (flN L j).length + (L.getD j []).length := by rw [flN, List.length_append]
          refine go_c0 ?_
          refine hJ (j + 1) (by omega) (by omega) _ ?_
          simp -implicitDefEqProofs (maxSteps := 1000000) (disch := (first | omega | (simp only [go_sem] <;> omega) | fail)) only [go_sem, ints, bools, mat]
          rw [flN, List.length_append]; rfl
        · have : j = L.length := by omega
          subst this
          exact go_e0
theorem flN_two (a b : List Int) : flN [a, b] [a, b].length = a ++ b := by simp [flN]
theorem areW_inC {l ws : List Int} (h : areW l ws = true) : inC l ws := fun u hu => by
  obtain ⟨i, hi, e⟩ := List.mem_iff_getElem.1 hu
  have := (areW_ok l ws).1 h i hi
  rw [← e]; simpa [hi] using this
theorem d_impl_SpanOf (l ws : List Int) (hl : l.length < 1048577) (hw : ws.length < 1048577) : Den PA f_impl_SpanOf [.d (.agg [ints l]), .d (ints ws)] [.any, .any] (lstR (pcM l ws []) (spN l ws ws.length)) := by
  refine den_go [] l_impl_SpanOf ?_
  refine go_c0 ?_
  have yc := d_impl_plainCode l hl ws hw _ [] (.inr ⟨rfl, rfl⟩) (by simp); first | refine goC_call [.r, .r, .r] yc ?_ | refine goOC_call [.r, .r, .r] yc ?_
  by_cases h : pcM l ws [] = 0
  · obtain ⟨hs, hw20, hww', _, hp⟩ := pcM_ok h
    have hww := areW_inC hww'
    rw [lstR_ok h, h]
    have hn := isSpaceM_n hs
    have hpr := isSpaceM_prod hs
    have hq := (q23 hs hp (k := 0) (by omega)).2
    refine go_c0 ?_
    refine go_loop (fun (j : Nat) => ⟨[(2, .ref 0 0), (7, .sl 1 0 (spN l ws j).length 1), (20, .d (ints ws)), (21, .d (di ws.length)), (22, .d (di j))], [some (.var [ints l]), some (.dat 1 ((spN l ws j).map di))]⟩) (fun j => j ≤ ws.length) (fun j => ws.length - j) 0 ?_ ?_ ?_
    · exact go_r0
    · simp
    · rintro j hj J hJ
      have g := spN_grp hs hp hww j hj
      have hgl := grp_len hs g
      by_cases hjl : j < ws.length
      · have hwj := inC_get hww j hjl
        refine go_c0 ?_
        have yc := d_slices_BinarySearch (spN l ws j) (ws.getD j 0) (by omega) g.asc; first | refine goC_call [.r, .r] yc ?_ | refine goOC_call [.r, .r] yc ?_
        by_cases hm : ws.getD j 0 ∈ spN l ws j
        · rw [decide_eq_true hm]
          refine go_c0 ?_
          refine hJ (j + 1) (by omega) (by omega) _ ?_
          simp -implicitDefEqProofs (maxSteps := 1000000) (disch := (first | omega | (simp only [go_sem] <;> omega) | fail)) only [go_sem, ints, bools, mat]
          rw [spN, spS, if_pos hm]; rfl
        · rw [decide_eq_false hm]
          refine go_c0 ?_
          have hC := g.inc
          have hsp : spS l (spN l ws j) (ws.getD j 0) = setI (ccN l (spN l ws j) (ws.getD j 0) (l.getD 0 0 - 1).toNat) := by rw [spS, if_neg hm]
          have hcl : ∀ i : Nat, (i : Int) < l.getD 0 0 → (ccN l (spN l ws j) (ws.getD j 0) i).length ≤ (prodM l).toNat := fun i hi => nodup_small hs (ccN_in hs hC _ i) (ccN_nodup hs hp g hwj hm i hi)
          have hc0 : 0 < (spN l ws j).length := List.length_pos_of_mem g.zer
          have hc1 : ∀ i : Nat, (spN l ws j).length ≤ (ccN l (spN l ws j) (ws.getD j 0) i).length := fun i => by
            induction i with
            | zero => exact Nat.le_refl _
            | succ i ih => rw [ccN, List.length_append]; omega
          have e1 : shM l (spN l ws j) (ws.getD j 0) = shM l (spN l ws j) (mulW l (ws.getD j 0) 1) := by
            have := shM_shM (c := spN l ws j) hs (ws.getD j 0) 0
            rwa [show mulW l (ws.getD j 0) 0 = 0 from rfl, shM_zero hs hC g.asc] at this
          have e2 := fun i => shM_shM (c := spN l ws j) hs (ws.getD j 0) i
          refine go_loop (fun (i : Nat) => ⟨[(2, .ref 0 0), (7, .sl 1 0 (ccN l (spN l ws j) (ws.getD j 0) i).length 1), (9, .d (di (ws.getD j 0))), (12, if i = 0 then .sl 1 0 (spN l ws j).length 1 else .d (ints (shM l (spN l ws j) (mulW l (ws.getD j 0) i)))), (20, .d (ints ws)), (21, .d (di ws.length)), (22, .d (di j)), (38, .d (di (l.getD 0 0 - 1))), (39, .d (di i))], [some (.var [ints l]), some (.dat 1 ((ccN l (spN l ws j) (ws.getD j 0) i).map di))]⟩) (fun i => (i : Int) ≤ l.getD 0 0 - 1) (fun i => (l.getD 0 0 - 1).toNat - i) 0 ?_ ?_ ?_
          · exact go_r0
          · omega
          · rintro i hi J' hJ'
            have hli := hcl i (by omega)
            have hgi := hc1 i
            by_cases hil : (i : Int) < l.getD 0 0 - 1
            · have hli2 := hcl (i + 1) (by omega)
              have hfl : (flN [ccN l (spN l ws j) (ws.getD j 0) i, shM l (spN l ws j) (mulW l (ws.getD j 0) (i + 1))] [ccN l (spN l ws j) (ws.getD j 0) i, shM l (spN l ws j) (mulW l (ws.getD j 0) (i + 1))].length) = ccN l (spN l ws j) (ws.getD j 0) (i + 1) := by rw [flN_two, ccN]
              have hcon := d_slices_Concat [ccN l (spN l ws j) (ws.getD j 0) i, shM l (spN l ws j) (mulW l (ws.getD j 0) (i + 1))] (by simp) (by rw [hfl]; have := hc1 (i + 1); omega) (by rw [hfl]; omega)
              rw [hfl] at hcon
              by_cases hi0 : i = 0
              · subst hi0
                rw [if_pos rfl]
                have hsh := (d_impl_shifted_o l (spN l ws j) hs (by omega) hC (ws.getD j 0) (by omega) (by omega)).le .frz
                rw [e1] at hsh
                rw [show ccN l (spN l ws j) (ws.getD j 0) 0 = spN l ws j from rfl] at hcon ⊢
                have y1 := kc [.r, .o, .r] hsh; have y2 := kc [.r] hcon; refine go_c0 ?_
                refine hJ' (0 + 1) (by omega) (by omega) _ ?_
                simp -implicitDefEqProofs (maxSteps := 1000000) (disch := (first | omega | (simp only [go_sem] <;> omega) | fail)) only [go_sem, ints, bools, mat]
                rfl
              · rw [if_neg hi0]
                have hsh := (d_impl_shifted l (shM l (spN l ws j) (mulW l (ws.getD j 0) i)) hs (by have := shM_len l (spN l ws j) (mulW l (ws.getD j 0) i); omega) (shM_in hs _ _) (ws.getD j 0) (by omega) (by omega)).le .frz
                rw [e2] at hsh
                have y1 := kc [.r, .r, .r] hsh; have y2 := kc [.r] hcon; refine go_c0 ?_
                refine hJ' (i + 1) (by omega) (by omega) _ ?_
                simp -implicitDefEqProofs (maxSteps := 1000000) (disch := (first | omega | (simp only [go_sem] <;> omega) | fail)) only [go_sem, ints, bools, mat]
                rfl
            · have hie : (l.getD 0 0 - 1).toNat = i := by omega
              rw [hie] at hsp
              have hso := d_slices_Sort (ccN l (spN l ws j) (ws.getD j 0) i) (by omega)
              rw [sortI_nodup (ccN_nodup hs hp g hwj hm i (by omega)), ← hsp] at hso
              repeat' (first | simp -implicitDefEqProofs (maxSteps := 1000000) (disch := (first | omega | (simp only [go_sem] <;> omega) | fail)) only [go_sem, ints, bools, mat] | ((first | apply goIf_b | apply goG_b | apply goTG_b | apply goOG_b) <;> intro h <;> ((try simp only [hnq] at h); (try simp only [h]); (try simp only [hnr] at h)) <;> (try (exfalso; omega))))
              have yc := hso; first | refine goC_call [.o] yc ?_ | refine goOC_call [.o] yc ?_
              repeat' (first | simp -implicitDefEqProofs (maxSteps := 1000000) (disch := (first | omega | (simp only [go_sem] <;> omega) | fail)) only [go_sem, ints, bools, mat] | ((first | apply goIf_b | apply goG_b | apply goTG_b | apply goOG_b) <;> intro h <;> ((try simp only [hnq] at h); (try simp only [h]); (try simp only [hnr] at h)) <;> (try (exfalso; omega))))
              have hlen : (spS l (spN l ws j) (ws.getD j 0)).length = (ccN l (spN l ws j) (ws.getD j 0) i).length := by
                rw [hsp, setI_len_nodup (ccN_nodup hs hp g hwj hm i (by omega))]
              refine chk_intro hlen ?_
              refine hJ (j + 1) (by omega) (by omega) _ ?_
              simp -implicitDefEqProofs (maxSteps := 1000000) (disch := (first | omega | (simp only [go_sem] <;> omega) | fail)) only [go_sem, ints, bools, mat]
              rw [spN, hlen]; rfl
      · have : j = ws.length := by omega
        subst this
        exact go_e0
  · rw [lstR_no h]
    generalize pcM l ws [] = b at h
    repeat' (first | simp -implicitDefEqProofs (maxSteps := 1000000) (disch := (first | omega | (simp only [go_sem] <;> omega) | fail)) only [go_sem, ints, bools, mat] | ((first | apply goIf_b | apply goG_b | apply goTG_b | apply goOG_b) <;> intro h <;> ((try simp only [hnq] at h); (try simp only [h]); (try simp only [hnr] at h)) <;> (try (exfalso; omega))))
    all_goals (exfalso; omega)
theorem d_spec_l05Span (l ws : List Int) (hs : isSpaceM l = true) (hp : plainM l = true) (hww : inC l ws) (hw20 : ws.length ≤ 20) : Den PA f_spec_l05Span [.d (.agg [ints l]), .d (ints ws)] [.any, .any] (.own 1 ((spN l ws ws.length).map di)) := by
  have hn := isSpaceM_n hs
  have hpr := isSpaceM_prod hs
  have hp1 := prodM_pos (isSpaceM_szs hs)
  have hq := (q23 hs hp (k := 0) (by omega)).2
  refine den_go [] l_spec_l05Span ?_
  refine go_c0 ?_
  refine go_loop (fun (j : Nat) => ⟨[(1, .d (ints ws)), (2, .ref 0 0), (5, .sl 1 0 (spN l ws j).length 1), (14, .d (di ws.length)), (15, .d (di j))], [some (.var [ints l]), some (.dat 1 ((spN l ws j).map di))]⟩) (fun j => j ≤ ws.length) (fun j => ws.length - j) 0 ?_ ?_ ?_
  · exact go_r0
  · simp
  · rintro j hj J hJ
    have g := spN_grp hs hp hww j hj
    have hgl := grp_len hs g
    by_cases hjl : j < ws.length
    · have hwj := inC_get hww j hjl
      refine go_c0 ?_
      have yc := d_spec_l01Has (spN l ws j) (ws.getD j 0) (by omega); first | refine goC_call [.r, .r] yc ?_ | refine goOC_call [.r, .r] yc ?_
      by_cases hm : ws.getD j 0 ∈ spN l ws j
      · rw [show ((spN l ws j).any fun y => y == ws.getD j 0) = true by rw [List.any_eq_true]; exact ⟨_, hm, by simp⟩]
        refine go_c0 ?_
        refine hJ (j + 1) (by omega) (by omega) _ ?_
        simp -implicitDefEqProofs (maxSteps := 1000000) (disch := (first | omega | (simp only [go_sem] <;> omega) | fail)) only [go_sem, ints, bools, mat]
        rw [spN, spS, if_pos hm]; rfl
      · rw [show ((spN l ws j).any fun y => y == ws.getD j 0) = false by rw [List.any_eq_false]; intro y hy e; simp at e; rw [e] at hy; exact hm hy]
        have hC := g.inc
        have hsp : spS l (spN l ws j) (ws.getD j 0) = setI (ccN l (spN l ws j) (ws.getD j 0) (l.getD 0 0 - 1).toNat) := by rw [spS, if_neg hm]
        have hcl : ∀ i : Nat, (i : Int) < l.getD 0 0 → (ccN l (spN l ws j) (ws.getD j 0) i).length ≤ (prodM l).toNat := fun i hi => nodup_small hs (ccN_in hs hC _ i) (ccN_nodup hs hp g hwj hm i hi)
        have y1 := kc [.r] (d_spec_l01Own (spN l ws j) (by omega)); refine go_c0 ?_
        refine go_loop (fun (i : Nat) => ⟨[(1, .d (ints ws)), (2, .ref 0 0), (5, .sl 1 0 (spN l ws j).length 1), (6, .d (di j)), (7, .sl 2 0 (ccN l (spN l ws j) (ws.getD j 0) i).length 1), (8, .d (di (mulW l (ws.getD j 0) i))), (9, .d (di ((i + 1 : Nat) : Int))), (14, .d (di ws.length)), (15, .d (di j))], [some (.var [ints l]), some (.dat 1 ((spN l ws j).map di)), some (.dat 1 ((ccN l (spN l ws j) (ws.getD j 0) i).map di))]⟩) (fun i => (i : Int) ≤ l.getD 0 0 - 1) (fun i => (l.getD 0 0 - 1).toNat - i) 0 ?_ ?_ ?_
        · exact go_r0
        · omega
        · rintro i hi J' hJ'
          have hmb := mulW_bnd hs (ws.getD j 0) i
          have hmb2 := mulW_bnd hs (ws.getD j 0) (i + 1)
          have hli := hcl i (by omega)
          by_cases hil : (i : Int) < l.getD 0 0 - 1
          · have hli2 := hcl (i + 1) (by omega)
            rw [ccN, List.length_append] at hli2
            refine go_c0 ?_
            have yc := d_spec_l01Sum l hs (mulW l (ws.getD j 0) i) (ws.getD j 0) (by omega) (by omega) (by omega) (by omega); first | refine goC_call [.r, .r, .r] yc ?_ | refine goOC_call [.r, .r, .r] yc ?_
            rw [show sumW l (mulW l (ws.getD j 0) i) (ws.getD j 0) = mulW l (ws.getD j 0) (i + 1) from rfl]
            have y1 := kc [.r, .r, .r] (d_spec_l01Shifted l (spN l ws j) hs (by omega) hC (mulW l (ws.getD j 0) (i + 1)) (by omega) (by omega)); refine go_c0 ?_
            refine hJ' (i + 1) (by omega) (by omega) _ ?_
            simp -implicitDefEqProofs (maxSteps := 1000000) (disch := (first | omega | (simp only [go_sem] <;> omega) | fail)) only [go_sem, ints, bools, mat]
            rw [ccN, List.length_append]; rfl
          · have hie : (l.getD 0 0 - 1).toNat = i := by omega
            rw [hie] at hsp
            have y1 := kc [.r, .r] (d_spec_l05Set l (ccN l (spN l ws j) (ws.getD j 0) i) hs (by omega) (inC_get (ccN_in hs hC _ i))); refine go_c0 ?_
            have hgs := fun (k : Nat) h => setM_get (ccN_in hs hC (ws.getD j 0) i) (i := k) h
            refine go_loop (fun (k : Nat) => ⟨[(1, .d (ints ws)), (2, .ref 0 0), (5, .sl 1 0 (((allW l).take k).filter fun u => decide (u ∈ ccN l (spN l ws j) (ws.getD j 0) i)).length 1), (10, .sl 2 0 (prodM l).toNat 1), (14, .d (di ws.length)), (15, .d (di j)), (52, .d (di (prodM l).toNat)), (53, .d (di k))], [some (.var [ints l]), some (.dat 1 ((((allW l).take k).filter fun u => decide (u ∈ ccN l (spN l ws j) (ws.getD j 0) i)).map di)), some (.dat 1 ((setM l (ccN l (spN l ws j) (ws.getD j 0) i)).map db))]⟩) (fun k => k ≤ (prodM l).toNat) (fun k => (prodM l).toNat - k) 0 ?_ ?_ ?_
            · exact go_r0
            · omega
            · rintro k hk J2 hJ2
              have hgk := hgs k
              have hfl := filter_len_le (fun u => decide (u ∈ ccN l (spN l ws j) (ws.getD j 0) i)) ((allW l).take k) k (by simp; omega)
              repeat' (first | simp -implicitDefEqProofs (maxSteps := 1000000) (disch := (first | omega | (simp only [go_sem] <;> omega) | fail)) only [go_sem, ints, bools, mat] | ((first | apply goIf_b | apply goG_b | apply goTG_b | apply goOG_b) <;> intro h <;> ((try simp only [hnq] at h); (try simp only [h]); (try simp only [hnr] at h)) <;> (try (exfalso; omega))))
              · rw [hgk (by omega)] at h
                refine hJ2 (k + 1) (by omega) (by omega) _ ?_
                simp -implicitDefEqProofs (maxSteps := 1000000) (disch := (first | omega | (simp only [go_sem] <;> omega) | fail)) only [go_sem, ints, bools, mat]
                rw [take_allW l (by omega), List.filter_append, show [(k : Int)].filter (fun u => decide (u ∈ ccN l (spN l ws j) (ws.getD j 0) i)) = [(k : Int)] from by rw [List.filter_cons, if_pos h, List.filter_nil], List.length_append]; rfl
              · rw [hgk (by omega)] at h
                refine hJ2 (k + 1) (by omega) (by omega) _ ?_
                simp -implicitDefEqProofs (maxSteps := 1000000) (disch := (first | omega | (simp only [go_sem] <;> omega) | fail)) only [go_sem, ints, bools, mat]
                rw [take_allW l (by omega), List.filter_append, show [(k : Int)].filter (fun u => decide (u ∈ ccN l (spN l ws j) (ws.getD j 0) i)) = [] from by rw [List.filter_cons, if_neg (by rw [h]; simp), List.filter_nil], List.append_nil]; rfl
              · have : k = (prodM l).toNat := by omega
                subst this
                refine hJ (j + 1) (by omega) (by omega) _ ?_
                simp -implicitDefEqProofs (maxSteps := 1000000) (disch := (first | omega | (simp only [go_sem] <;> omega) | fail)) only [go_sem, ints, bools, mat]
                rw [spN, hsp, setI_filter hs (ccN_in hs hC _ i)]; rfl
    · have : j = ws.length := by omega
      subst this
      exact go_e0
theorem d_spec_SpanOf (l ws : List Int) (hl : l.length < 1048577) (hw : ws.length < 1048577) : Den PA f_spec_SpanOf [.d (.agg [ints l]), .d (ints ws)] [.any, .any] (lstR (pcM l ws []) (spN l ws ws.length)) := by
  refine den_go [] l_spec_SpanOf ?_
  refine go_c0 ?_
  have yc := d_spec_l05Words l hl ws hw; first | refine goC_call [.r, .r] yc ?_ | refine goOC_call [.r, .r] yc ?_
  by_cases h : pcM l ws [] = 0
  · obtain ⟨hs, hw20, hww', _, hp⟩ := pcM_ok h
    have hww := areW_inC hww'
    rw [lstR_ok h, h]
    have y1 := kc [.r, .r] (d_spec_l05Span l ws hs hp hww hw20); exact go_e0
  · rw [lstR_no h]
    generalize pcM l ws [] = b at h
    repeat' (first | simp -implicitDefEqProofs (maxSteps := 1000000) (disch := (first | omega | (simp only [go_sem] <;> omega) | fail)) only [go_sem, ints, bools, mat] | ((first | apply goIf_b | apply goG_b | apply goTG_b | apply goOG_b) <;> intro h <;> ((try simp only [hnq] at h); (try simp only [h]); (try simp only [hnr] at h)) <;> (try (exfalso; omega))))
    all_goals (exfalso; omega)
theorem lin_grp {l c : List Int} (hs : isSpaceM l = true) (hcc : isCodeM l c = true) (hl : linB l c = true) : Grp l c := by
  refine ⟨code_asc hcc, inC_code hcc, ?_, fun u v hu hv => lin_clo hs hcc hl hu hv⟩
  have h0 : (setM l c).getD 0 false = true := by
    unfold linB at hl; simp only [Bool.and_eq_true] at hl; exact hl.1.2
  obtain ⟨h1, h2⟩ := (zero_in hs hcc).1 h0
  rw [← h2]; exact mem_getD (by omega)
abbrev wtM (l : List Int) (x : Int) : Int := distM l 0 x
def bstN (l L : List Int) : Nat → Int
  | 0 => L.getD 0 0
  | k + 1 => if wtM l (L.getD k 0) < wtM l (bstN l L k) then L.getD k 0 else bstN l L k
def ldW (l c : List Int) (w : Int) : Int := bstN l (shM l c w) (shM l c w).length
def kltB (l : List Int) (t w : Int) (x : Int) : Bool := decide (wtM l x < t ∨ (wtM l x = t ∧ x < w))
def ldL (l c : List Int) (t w : Int) : List Int := (allW l).map fun u => if kltB l t w (ldW l c u) then ldW l c u else -1
@[go_sem] theorem ldL_len (l c : List Int) (t w : Int) : (ldL l c t w).length = (prodM l).toNat := by simp [ldL, allW_len]
def stN (X L : List Int) (v : Int) : Nat → List Int
  | 0 => X
  | k + 1 => (stN X L v k).set (L.getD k 0).toNat v
@[go_sem] theorem stN_len (X L : List Int) (v : Int) : ∀ k, (stN X L v k).length = X.length
  | 0 => rfl
  | k + 1 => by rw [stN, List.length_set, stN_len X L v k]
def bndB (l : List Int) (i u x : Int) : Bool := (distM l u x == 3) && ((digM l u).getD i.toNat 0 != (digM l x).getD i.toNat 0)
def bnS (l : List Int) (i : Int) (Q : List Int) (u x : Int) : List Int := if bndB l i u x = true ∧ x ∉ Q then Q ++ [x] else Q
def bnI (l : List Int) (i : Int) (c : List Int) (Q : List Int) (u : Int) : Nat → List Int
  | 0 => Q
  | j + 1 => bnS l i (bnI l i c Q u j) u (c.getD j 0)
def bnO (l : List Int) (i : Int) (c : List Int) : Nat → Nat → List Int → List Int
  | 0, _, Q => Q
  | f + 1, k, Q => if k < Q.length then bnO l i c f (k + 1) (bnI l i c Q (Q.getD k 0) c.length) else Q
abbrev bnM (l c : List Int) (w i : Int) : List Int := bnO l i c (c.length + 1) 0 [w]
theorem sub_len : ∀ {Q c : List Int}, Q.Nodup → (∀ y, y ∈ Q → y ∈ c) → Q.length ≤ c.length
  | [], c, _, _ => Nat.zero_le _
  | x :: r, c, hn, hs => by
    obtain ⟨h1, h2⟩ := List.nodup_cons.1 hn
    have hx := hs x (by simp)
    have ih := sub_len (Q := r) (c := c.erase x) h2 fun y hy => (List.mem_erase_of_ne (fun e => by subst e; exact h1 hy)).2 (hs y (by simp [hy]))
    have := List.length_erase_of_mem hx
    have := List.length_pos_of_mem hx
    rw [List.length_cons]; omega
structure BnQ (l c : List Int) (w i : Int) (k : Nat) (Q : List Int) : Prop where
  le : k ≤ Q.length
  nd : Q.Nodup
  sub : ∀ y, y ∈ Q → y ∈ c
  fin : bnO l i c (c.length + 1 - k) k Q = bnM l c w i
  mw : w ∈ Q
theorem BnQ.len {l c : List Int} {w i : Int} {k : Nat} {Q : List Int} (h : BnQ l c w i k Q) : Q.length ≤ c.length := sub_len h.nd h.sub
def swD (d : List Int) (i : Nat) : List Int := d.set i (1 - d.getD i 0)
@[go_sem] theorem swD_len (d : List Int) (i : Nat) : (swD d i).length = d.length := by simp [swD]
def nxR (l : List Int) (j : Nat) : List (List Int) := (List.range j).map fun (d : Nat) => l ++ [(d : Int)]
@[go_sem] theorem nxR_len (l : List Int) (j : Nat) : (nxR l j).length = j := by simp [nxR]
def nxT (q : Nat) (ls : List (List Int)) (i : Nat) : List (List Int) := (ls.take i).flatMap fun l => nxR l q
def rowsN (q : Nat) : Nat → List (List Int)
  | 0 => [[]]
  | k + 1 => nxT q (rowsN q k) (rowsN q k).length
def badR (l : List Int) : Bool := match l.findIdx? fun d => d != 0 with | some j => l.getD j 0 != 1 | none => true
def colN (q m : Nat) : List (List Int) := (rowsN q m).filter fun x => !badR x
def hamL (q m : Nat) : List Int := List.replicate (colN q m).length (q : Int)
@[go_sem] theorem hamL_len (q m : Nat) : (hamL q m).length = (colN q m).length := by simp [hamL]
abbrev sn (l : List Int) : D := .v (.string (strOfNums l))
@[go_sem] theorem str_46 : (ByteArray.mk #[46]) = strOfNums [46] := rfl
@[go_sem] theorem str_nil : (ByteArray.mk #[]) = strOfNums [] := rfl
@[go_sem] theorem str_45 : (ByteArray.mk #[45]) = strOfNums [45] := rfl
theorem str_app (a b : List Int) : strOfNums a ++ strOfNums b = strOfNums (a ++ b) := by
  apply ByteArray.ext
  simp [strOfNums]
@[go_sem] theorem eqsA_addN {a b : List Int} (h : a.length + b.length < 1048577) : eqsA .add (.d (.v (.string (strOfNums a)))) (.d (.v (.string (strOfNums b)))) = some (.d (.v (.string (strOfNums (a ++ b))))) := by
  have h2 : (strOfNums a).size + (strOfNums b).size ≤ maxLen := by
    rw [strOfNums_size, strOfNums_size]; exact Nat.le_trans (Nat.le_of_lt h) (by decide)
  simp only [eqsA]
  rw [if_pos h2, str_app]
@[go_sem] theorem eqsA_neq_self {s : ByteArray} : eqsA .neq (.d (.v (.string s))) (.d (.v (.string s))) = some (.d (.v (.bool false))) := by simp [eqsA]
@[go_sem] theorem lnsA_n {l : List Int} : lnsA (.d (.v (.string (strOfNums l)))) = some (.d (.v (.int .i64 l.length))) := by simp [lnsA, strOfNums_size]
theorem str_ext (l : List Int) (a b : Nat) : (strOfNums l).extract a b = strOfNums ((l.take b).drop a) := by
  apply ByteArray.ext
  simp [strOfNums, ByteArray.data_extract, List.map_drop, List.map_take, List.drop_take]
@[go_sem] theorem sltA_n {tm : List (Nat × AV)} {l : List Int} {lo hi : Option Opd} : sltA tm (.d (.v (.string (strOfNums l)))) lo hi = (bndA tm l.length lo hi).map fun p => .d (.v (.string (strOfNums ((l.take p.2).drop p.1)))) := by
  simp only [sltA, strOfNums_size, str_ext]
theorem BY.take {l : List Int} (h : BY l) (n : Nat) : BY (l.take n) := fun x hx => h x (List.mem_of_mem_take hx)
theorem BY.drop {l : List Int} (h : BY l) (n : Nat) : BY (l.drop n) := fun x hx => h x (List.mem_of_mem_drop hx)
def spL : List Int → List (List Int)
  | [] => [[]]
  | x :: r => if x = 46 then [] :: spL r else match spL r with
    | p :: ps => (x :: p) :: ps
    | [] => [[x]]
@[go_sem] theorem flat_sn (l : List (List Int)) : flat (l.map fun x => sn x) = l.map fun x => sn x := by
  induction l with
  | nil => rfl
  | cons x r ih => simp only [flat, List.map_cons, List.flatMap_cons, D.cells] at ih ⊢; rw [ih]; rfl
@[go_sem] theorem getSn {l : List (List Int)} {j : Nat} (h : j < l.length) : (l.map fun x => sn x)[j]? = some (sn (l.getD j [])) := by simp [h]
def ptS (m c : Int) : Int := if 48 ≤ c ∧ c ≤ 51 then or2 m (c - 48) else m
def ptB (p : List Int) : Int := p.foldl ptS 0
def psT (l : List Int) : List Int := (spL l).map ptB
@[go_sem] theorem psT_len (l : List Int) : (psT l).length = (spL l).length := by simp [psT]
theorem wrapU_bnd (x : Int) : 0 ≤ IntKind.wrap .u64 x ∧ IntKind.wrap .u64 x < 18446744073709551616 := by
  have e : IntKind.wrap .u64 x = x % 18446744073709551616 := rfl
  rw [e]; omega
@[go_sem] theorem binA_shr33 {a : Int} : binA .shr (.d (.v (.int .u64 a))) (.d (.v (.int .u64 33))) = some (.d (.v (.int .u64 (a / 8589934592)))) := by
  have e : min (33 : Int).toNat 64 = 33 := rfl
  have h1 : (0 : Int) ≤ 2 ^ 33 := by decide
  simp only [binA, binI, BinOp.isShift, true_or, if_true, if_neg (show ¬ (33 : Int) < 0 by omega), IntKind.bits, e, Option.map_some, Int.fdiv_eq_ediv_of_nonneg _ h1]
  rfl
@[go_sem] theorem binA_mask24 {a : Int} (h : 0 ≤ a) (h' : a < 18446744073709551616) : binA .and (.d (.v (.int .u64 a))) (.d (.v (.int .u64 16777215))) = some (.d (.v (.int .u64 (a % 16777216)))) := by
  have e1 : (BitVec.ofInt 64 a).toNat = a.toNat := by rw [BitVec.toNat_ofInt]; omega
  have e2 : (BitVec.ofInt 64 16777215).toNat = 16777215 := by decide
  have e3 : (BitVec.ofInt 64 a &&& BitVec.ofInt 64 16777215).toNat = a.toNat % 16777216 := by
    rw [BitVec.toNat_and, e1, e2]; exact Nat.and_two_pow_sub_one_eq_mod a.toNat 24
  have e4 : binI .and .u64 a 16777215 = some (.int .u64 (IntKind.wrap .u64 ((BitVec.ofInt 64 a &&& BitVec.ofInt 64 16777215).toNat : Nat))) := rfl
  simp only [binA, e4, BinOp.isShift, or_true, if_true, e3, Option.map_some]
  rw [wrap_u64 (by omega) (by omega)]
  congr 4
  omega
attribute [go_sem] mkBlk
def leaB (o : Option (Option Blk)) (k i : Nat) (s : Sto) : R × Sto :=
  match o with
  | some (some (.var cs)) => (.boxm (cs.map .d), s.set i none)
  | some (some (.mix cs)) => (.boxm (leaL (leaA k) cs (s.set i none)).1, (leaL (leaA k) cs (s.set i none)).2)
  | _ => (.any, s)
@[go_sem] theorem leaA_ref (k i : Nat) (s : Sto) : leaA (k + 1) (.ref i 0) s = leaB s[i]? k i s := by
  simp only [leaA, leaB] <;> (rcases s[i]? with _ | _ | b <;> first | rfl | (cases b <;> rfl))
@[go_sem] theorem leaB_var (cs : List D) (k i : Nat) (s : Sto) : leaB (some (some (.var cs))) k i s = (.boxm (cs.map .d), s.set i none) := rfl
@[go_sem] theorem RLes_boxm (x y xs ys : List R) : RLes (.boxm x :: xs) (.boxm y :: ys) = (x = y ∧ RLes xs ys) := by
  apply propext
  constructor
  · intro h; cases h with | cons h hs => cases h; exact ⟨rfl, hs⟩
  · rintro ⟨rfl, hs⟩; exact .cons .refl hs
abbrev du (n : Int) : D := .v (.int .u64 n)
abbrev Src := Nat × Int
abbrev srcR (cd : D) (s : Src) : R := .boxm [.d cd, .d (di s.1), .d (du s.2)]
def okS (l : List Int) (s : Src) : Prop := s.1 ≤ l.length ∧ 0 ≤ s.2 ∧ s.2 < 18446744073709551616
def nxH (h : Int) : Int := IntKind.wrap .u64 (IntKind.wrap .u64 (h * 6364136223846793005) + 1442695040888963407)
def nxX (l : List Int) (s : Src) : Int := nxH s.2 / 8589934592 % 16777216 + (if s.1 < l.length then l.getD s.1 0 else 0)
def nxS (l : List Int) (s : Src) : Src := (if s.1 < l.length then s.1 + 1 else s.1, nxH s.2)
def nxt (l : List Int) (s : Src) (q : Int) : Int × Src := if q < 1 then (0, s) else (nxX l s % q, nxS l s)
theorem nxS_ok {l : List Int} {s : Src} (h : okS l s) : okS l (nxS l s) := by
  refine ⟨?_, wrapU_bnd _⟩
  unfold nxS; dsimp only
  split
  · omega
  · exact h.1
theorem nxt_ok {l : List Int} {s : Src} (h : okS l s) (q : Int) : okS l (nxt l s q).2 := by
  unfold nxt
  split
  · exact h
  · exact nxS_ok h
theorem nxt_bnd {l : List Int} {s : Src} {q : Int} (hq : 1 ≤ q) : 0 ≤ (nxt l s q).1 ∧ (nxt l s q).1 < q := by
  unfold nxt
  rw [if_neg (by omega)]
  exact ⟨Int.emod_nonneg _ (by omega), Int.emod_lt_of_pos _ (by omega)⟩
theorem d_spec_l01Next (cd : D) (l : List Int) (hb : IsBts cd l) (hl : l.length < 1048577) (s : Src) (hs : okS l s) (q : Int) : Den PA f_spec_l01Next [srcR cd s, .d (di q)] [srcR cd (nxt l s q).2, .any] (.d (di (nxt l s q).1)) := by
  obtain ⟨at0, h⟩ := s
  obtain ⟨h1, h2, h3⟩ := hs
  dsimp only at h1 h2 h3
  refine den_go [0] l_spec_l01Next ?_
  by_cases hq : q < 1
  · have e : nxt l (at0, h) q = (0, (at0, h)) := if_pos hq
    rw [e]
    simp only [srcR]; exact go_e0
  · have e : nxt l (at0, h) q = (nxX l (at0, h) % q, nxS l (at0, h)) := if_neg hq
    have hh := wrapU_bnd (IntKind.wrap .u64 (h * 6364136223846793005) + 1442695040888963407)
    rw [e]
    rcases hb with ⟨rfl, hby⟩ | ⟨rfl, rfl⟩
    · by_cases ha : at0 < l.length
      · have hba := hby _ (mem_getD ha)
        have ex : nxX l (at0, h) = nxH h / 8589934592 % 16777216 + l.getD at0 0 := by simp only [nxX, if_pos ha]
        have es : nxS l (at0, h) = (at0 + 1, nxH h) := by simp only [nxS, if_pos ha]
        rw [ex, es]
        simp only [srcR]; refine go_c0 ?_
        exact ⟨rfl, rfl⟩
      · have ex : nxX l (at0, h) = nxH h / 8589934592 % 16777216 := by simp only [nxX, if_neg ha, Int.add_zero]
        have es : nxS l (at0, h) = (at0, nxH h) := by simp only [nxS, if_neg ha]
        rw [ex, es]
        simp only [srcR]; refine go_c0 ?_
        exact ⟨rfl, rfl⟩
    · have ha : ¬ at0 < ([] : List Int).length := by simp
      have ex : nxX [] (at0, h) = nxH h / 8589934592 % 16777216 := by simp only [nxX, if_neg ha, Int.add_zero]
      have es : nxS [] (at0, h) = (at0, nxH h) := by simp only [nxS, if_neg ha]
      rw [ex, es]
      simp only [srcR]; refine go_c0 ?_
      exact ⟨rfl, rfl⟩
def pik (l : List Int) (s : Src) (xs : List Int) : Int × Src := (xs.getD (nxt l s xs.length).1.toNat 0, (nxt l s xs.length).2)
theorem pik_mem {l : List Int} {s : Src} {xs : List Int} (h : 0 < xs.length) : (pik l s xs).1 ∈ xs := by
  have h1 := nxt_bnd (l := l) (s := s) (q := (xs.length : Int)) (by omega)
  exact mem_getD (by omega)
theorem d_spec_l01Pick (cd : D) (l : List Int) (hb : IsBts cd l) (hl : l.length < 1048577) (s : Src) (hs : okS l s) (xs : List Int) (h0 : 0 < xs.length) (h1 : xs.length < 1000) : Den PA f_spec_l01Pick [srcR cd s, .d (ints xs)] [srcR cd (pik l s xs).2, .any] (.d (di (pik l s xs).1)) := by
  have hbn := nxt_bnd (l := l) (s := s) (q := (xs.length : Int)) (by omega)
  have hnx := d_spec_l01Next cd l hb hl s hs xs.length
  refine den_go [0] l_spec_l01Pick ?_
  simp only [srcR]; have y1 := kc [.bm, .r] hnx; refine go_c0 ?_
  exact ⟨rfl, rfl⟩
theorem pik_ok {l : List Int} {s : Src} (h : okS l s) (xs : List Int) : okS l (pik l s xs).2 := nxt_ok h _
structure SrcH (cd : D) (l : List Int) : Prop where
  hb : IsBts cd l
  hl : l.length < 1048577
theorem d_nxt {cd : D} {l : List Int} (H : SrcH cd l) {s : Src} (hs : okS l s) (q : Int) : Den PA f_spec_l01Next [srcR cd s, .d (di q)] [srcR cd (nxt l s q).2, .any] (.d (di (nxt l s q).1)) := d_spec_l01Next cd l H.hb H.hl s hs q
theorem d_pik {cd : D} {l : List Int} (H : SrcH cd l) {s : Src} (hs : okS l s) (xs : List Int) (h0 : 0 < xs.length) (h1 : xs.length < 1000) : Den PA f_spec_l01Pick [srcR cd s, .d (ints xs)] [srcR cd (pik l s xs).2, .any] (.d (di (pik l s xs).1)) := d_spec_l01Pick cd l H.hb H.hl s hs xs h0 h1
theorem ex_nxt {cd : D} {l : List Int} (H : SrcH cd l) {s : Src} (hs : okS l s) {q : Int} (hq : 1 ≤ q) : ∃ (v : Int) (s' : Src), okS l s' ∧ 0 ≤ v ∧ v < q ∧ Den PA f_spec_l01Next [srcR cd s, .d (di q)] [srcR cd s', .any] (.d (di v)) :=
  ⟨_, _, nxt_ok hs q, (nxt_bnd hq).1, (nxt_bnd hq).2, d_nxt H hs q⟩
theorem ex_pik {cd : D} {l : List Int} (H : SrcH cd l) {s : Src} (hs : okS l s) (xs : List Int) (h0 : 0 < xs.length) (h1 : xs.length < 1000) : ∃ (v : Int) (s' : Src), okS l s' ∧ v ∈ xs ∧ Den PA f_spec_l01Pick [srcR cd s, .d (ints xs)] [srcR cd s', .any] (.d (di v)) :=
  ⟨_, _, pik_ok hs xs, pik_mem h0, d_pik H hs xs h0 h1⟩
theorem ex_near {cd : D} {l : List Int} (H : SrcH cd l) {s : Src} (hs : okS l s) {most : Int} (h0 : 0 ≤ most) (h1 : most < 1000000000000) : ∃ (v : Int) (s' : Src), okS l s' ∧ in64 v ∧ Den PA f_spec_l01Near [srcR cd s, .d (di most)] [srcR cd s', .any] (.d (di v)) := by
  obtain ⟨v0, s0, hs0, a1, a2, d0⟩ := ex_nxt H hs (q := 14) (by omega)
  by_cases hv : v0 = 0
  · subst hv
    obtain ⟨v1, s1, hs1, hm, d1⟩ := ex_pik H hs0 [-1, most + 1, 1099511627776, -4611686018427387904] (by simp) (by simp)
    refine ⟨v1, s1, hs1, ?_, den_go [0] l_spec_l01Near ?_⟩
    · simp only [List.mem_cons, List.mem_nil_iff, or_false] at hm
      unfold in64; omega
    · simp only [srcR]; have y1 := kc [.bm, .r] d0; have y2 := kc [.bm, .f] d1; exact go_e0
  · obtain ⟨v1, s1, hs1, b1, b2, d1⟩ := ex_nxt H hs0 (q := most + 1) (by omega)
    refine ⟨v1, s1, hs1, ?_, den_go [0] l_spec_l01Near ?_⟩
    · unfold in64; omega
    · simp only [srcR]; have y1 := kc [.bm, .r] d0; have y2 := kc [.bm, .r] d1; exact go_e0
def dwN (l : List Int) (most kind : Int) : Nat → List Int → Src → List Int × Src
  | 0, o, s => (o, s)
  | k + 1, o, s => if most < prodM o * (if kind = 0 then pik l s [2, 2, 3, 4] else (kind, s)).1 then (o, (if kind = 0 then pik l s [2, 2, 3, 4] else (kind, s)).2) else dwN l most kind k (o ++ [(if kind = 0 then pik l s [2, 2, 3, 4] else (kind, s)).1]) (if kind = 0 then pik l s [2, 2, 3, 4] else (kind, s)).2
theorem prodM_snoc (o : List Int) (q : Int) : prodM (o ++ [q]) = prodM o * q := by simp [prodM, List.foldl_append]
def szO (o : List Int) : Prop := (∀ i, i < o.length → 2 ≤ o.getD i 0 ∧ o.getD i 0 ≤ 4) ∧ 1 ≤ prodM o ∧ prodM o ≤ 256
theorem szO_snoc {o : List Int} {q : Int} (h : szO o) (hq : 2 ≤ q ∧ q ≤ 4) (hp : prodM o * q ≤ 256) : szO (o ++ [q]) := by
  refine ⟨fun i hi => ?_, ?_, ?_⟩
  · rcases Nat.lt_or_ge i o.length with h1 | h1
    · have := h.1 i h1
      have e : (o ++ [q]).getD i 0 = o.getD i 0 := by simp [List.getD_eq_getElem?_getD, List.getElem?_append_left h1]
      rw [e]; exact this
    · have e1 : i = o.length := by simp at hi; omega
      subst e1
      have e : (o ++ [q]).getD o.length 0 = q := by simp
      rw [e]; exact hq
  · rw [prodM_snoc]
    have h5 : (1 : Int) * 1 ≤ prodM o * q := Int.mul_le_mul h.2.1 (by omega) (by omega) (by have := h.2.1; omega)
    omega
  · rw [prodM_snoc]; exact hp
theorem szO_space {o : List Int} (h : szO o) (h0 : 0 < o.length) (h8 : o.length ≤ 8) : isSpaceM o = true := (isSpaceM_ok o).2 ⟨⟨by omega, h8⟩, h.1, by have := h.2.2; omega⟩
theorem ex_drawOf {cd : D} {l : List Int} (H : SrcH cd l) {s : Src} (hs : okS l s) {most : Int} (h0 : 8 ≤ most) (h1 : most ≤ 256) : ∃ (o : List Int) (s' : Src), okS l s' ∧ isSpaceM o = true ∧ Den PA f_spec_l01DrawOf [srcR cd s, .d (di most)] [srcR cd s', .any] (.agg [.own 1 (o.map di)]) := by
  obtain ⟨kind, s1, hs1, hk, d1⟩ := ex_pik H hs [0, 2, 2, 3, 3] (by simp) (by simp)
  obtain ⟨n, s2, hs2, n1, n2, d2⟩ := ex_nxt H hs1 (q := 8) (by omega)
  have hkind : 0 ≤ kind ∧ kind ≤ 3 ∧ kind ≠ 1 := by
    simp only [List.mem_cons, List.mem_nil_iff, or_false] at hk; omega
  have key : ∀ (k : Nat) (o : List Int) (s : Src), szO o → okS l s → o.length + k ≤ 8 → szO (dwN l most kind k o s).1 ∧ okS l (dwN l most kind k o s).2 ∧ (dwN l most kind k o s).1.length ≤ 8 := by
    intro k
    induction k with
    | zero => intro o s a b c; exact ⟨a, b, by simp only [dwN]; omega⟩
    | succ k ih =>
      intro o s a b c
      have hr : 2 ≤ (if kind = 0 then pik l s [2, 2, 3, 4] else (kind, s)).1 ∧ (if kind = 0 then pik l s [2, 2, 3, 4] else (kind, s)).1 ≤ 4 ∧ okS l (if kind = 0 then pik l s [2, 2, 3, 4] else (kind, s)).2 := by
        by_cases e : kind = 0
        · rw [if_pos e]
          have hm := pik_mem (l := l) (s := s) (xs := [2, 2, 3, 4]) (by simp)
          simp only [List.mem_cons, List.mem_nil_iff, or_false] at hm
          exact ⟨by omega, by omega, pik_ok b _⟩
        · rw [if_neg e]; exact ⟨by dsimp only; omega, by dsimp only; omega, b⟩
      rw [dwN]
      generalize (if kind = 0 then pik l s [2, 2, 3, 4] else (kind, s)) = r at *
      by_cases hm : most < prodM o * r.1
      · rw [if_pos hm]
        exact ⟨a, hr.2.2, by dsimp only; omega⟩
      · rw [if_neg hm]
        exact ih _ _ (szO_snoc a ⟨hr.1, hr.2.1⟩ (by omega)) hr.2.2 (by simp; omega)
  have hz0 : szO [] := ⟨fun i hi => by simp at hi, by decide, by decide⟩
  have hfin := key (1 + n).toNat [] s2 hz0 hs2 (by simp; omega)
  obtain ⟨X, hX⟩ : ∃ X, X = dwN l most kind (1 + n).toNat [] s2 := ⟨_, rfl⟩
  rw [← hX] at hfin
  refine ⟨if X.1.length = 0 then [2] else X.1, X.2, hfin.2.1, ?_, den_go [0] l_spec_l01DrawOf ?_⟩
  · split
    · decide
    · exact szO_space hfin.1 (by omega) hfin.2.2
  · simp only [srcR]; have y1 := kc [.bm, .f] d1; have y2 := kc [.bm, .r] d2; refine go_c0 ?_
    refine go_loop (fun (p : Nat × List Int × Src) => ⟨[(0, .ref 0 0), (1, .d (di most)), (4, .ref 1 0), (5, .ref 2 0), (6, .d (di kind)), (7, .d (di p.1)), (49, .ref 0 0)], [some (.var [cd, di p.2.2.1, du p.2.2.2]), some (.var [D.v (.slice none 0 0)]), some (.mix [.sl 3 0 p.2.1.length 1]), some (.dat 1 (p.2.1.map di))]⟩) (fun p => dwN l most kind p.1 p.2.1 p.2.2 = X ∧ szO p.2.1 ∧ okS l p.2.2 ∧ p.2.1.length + p.1 ≤ 8) (fun p => p.1) ((1 + n).toNat, [], s2) ?_ ?_ ?_
    · simp -implicitDefEqProofs (maxSteps := 1000000) (disch := (first | omega | (simp only [go_sem] <;> omega) | fail)) only [go_sem, ints, bools, mat]
      have e : ((1 + n).toNat : Int) = 1 + n := by omega
      rw [e]
    · exact ⟨hX.symm, hz0, hs2, by dsimp only; simp only [List.length_nil]; omega⟩
    · rintro ⟨k, o, s⟩ ⟨g1, g2, g3, g4⟩ J hJ
      dsimp only at g1 g2 g3 g4 ⊢
      have hn := d_spec_l01N o (by omega) g2.1
      have hp := g2.2
      rcases k with _ | k
      · have e : X = (o, s) := by rw [← g1]; rfl
        rw [e]
        by_cases ho : o.length = 0
        · have e2 : o = [] := List.eq_nil_of_length_eq_zero ho
          subst e2
          exact go_e0
        · rw [if_neg ho]
          exact go_e0
      · rw [dwN] at g1
        by_cases hk0 : kind = 0
        · obtain ⟨q, s3, hs3, hq, d3⟩ : ∃ (q : Int) (s3 : Src), okS l s3 ∧ (q = (pik l s [2, 2, 3, 4]).1 ∧ s3 = (pik l s [2, 2, 3, 4]).2) ∧ Den PA f_spec_l01Pick [srcR cd s, .d (ints [2, 2, 3, 4])] [srcR cd s3, .any] (.d (di q)) := ⟨_, _, pik_ok g3 _, ⟨rfl, rfl⟩, d_pik H g3 [2, 2, 3, 4] (by simp) (by simp)⟩
          have hm := pik_mem (l := l) (s := s) (xs := [2, 2, 3, 4]) (by simp)
          simp only [List.mem_cons, List.mem_nil_iff, or_false] at hm
          rw [← hq.1] at hm
          simp only [if_pos hk0] at g1
          rw [← hq.1, ← hq.2] at g1
          have y1 := kc [.bm, .f] d3; refine go_c0 ?_
          have yc := hn; first | refine goC_call [.r] yc ?_ | refine goOC_call [.r] yc ?_
          have hpq : 0 ≤ prodM o * q ∧ prodM o * q ≤ 256 * 4 := ⟨Int.mul_nonneg (by omega) (by omega), Int.mul_le_mul (by omega) (by omega) (by omega) (by omega)⟩
          repeat' (first | simp -implicitDefEqProofs (maxSteps := 1000000) (disch := (first | omega | (simp only [go_sem] <;> omega) | fail)) only [go_sem, ints, bools, mat] | ((first | apply goIf_b | apply goG_b | apply goTG_b | apply goOG_b) <;> intro h <;> ((try simp only [hnq] at h); (try simp only [h]); (try simp only [hnr] at h)) <;> (try (exfalso; omega))))
          · rw [if_pos (by assumption)] at g1
            rw [← g1]
            have e2 : o = [] := List.eq_nil_of_length_eq_zero (by omega)
            subst e2
            exact ⟨rfl, rfl⟩
          · rw [if_pos (by assumption)] at g1
            rw [← g1]
            dsimp only
            rw [if_neg (show ¬ o.length = 0 by omega)]
            exact ⟨rfl, rfl⟩
          · rw [if_neg (by omega)] at g1
            refine hJ (k, o ++ [q], s3) ⟨g1, szO_snoc g2 (by omega) (by omega), hs3, by dsimp only; simp; omega⟩ (by dsimp only; omega) _ ?_
            exact go_a0
        · simp only [if_neg hk0] at g1
          have hpq : 0 ≤ prodM o * kind ∧ prodM o * kind ≤ 256 * 4 := ⟨Int.mul_nonneg (by omega) (by omega), Int.mul_le_mul (by omega) (by omega) (by omega) (by omega)⟩
          repeat' (first | simp -implicitDefEqProofs (maxSteps := 1000000) (disch := (first | omega | (simp only [go_sem] <;> omega) | fail)) only [go_sem, ints, bools, mat] | ((first | apply goIf_b | apply goG_b | apply goTG_b | apply goOG_b) <;> intro h <;> ((try simp only [hnq] at h); (try simp only [h]); (try simp only [hnr] at h)) <;> (try (exfalso; omega))))
          have yc := hn; first | refine goC_call [.r] yc ?_ | refine goOC_call [.r] yc ?_
          repeat' (first | simp -implicitDefEqProofs (maxSteps := 1000000) (disch := (first | omega | (simp only [go_sem] <;> omega) | fail)) only [go_sem, ints, bools, mat] | ((first | apply goIf_b | apply goG_b | apply goTG_b | apply goOG_b) <;> intro h <;> ((try simp only [hnq] at h); (try simp only [h]); (try simp only [hnr] at h)) <;> (try (exfalso; omega))))
          · rw [if_pos (by assumption)] at g1
            rw [← g1]
            have e2 : o = [] := List.eq_nil_of_length_eq_zero (by omega)
            subst e2
            exact ⟨rfl, rfl⟩
          · rw [if_pos (by assumption)] at g1
            rw [← g1]
            dsimp only
            rw [if_neg (show ¬ o.length = 0 by omega)]
            exact ⟨rfl, rfl⟩
          · rw [if_neg (by omega)] at g1
            refine hJ (k, o ++ [kind], s) ⟨g1, szO_snoc g2 (by omega) (by omega), g3, by dsimp only; simp; omega⟩ (by dsimp only; omega) _ ?_
            exact go_a0
theorem ex_wsome {cd : D} {l : List Int} (H : SrcH cd l) {s : Src} (hs : okS l s) {x : List Int} (hx : isSpaceM x = true) : ∃ (o : List Int) (s' : Src), okS l s' ∧ o.length ≤ 4 ∧ inC x o ∧ Den PA f_spec_l05Some [srcR cd s, .d (.agg [ints x])] [srcR cd s', .any] (.own 1 (o.map di)) := by
  have hp := isSpaceM_prod hx
  have hp1 := prodM_pos (isSpaceM_szs hx)
  have hn := isSpaceM_n hx
  obtain ⟨n, s1, hs1, n1, n2, d1⟩ := ex_nxt H hs (q := 5) (by omega)
  obtain ⟨X, hX⟩ : ∃ X : Nat → List Int × Src, X = fun k => Nat.rec (motive := fun _ => List Int × Src) ([], s1) (fun _ p => (p.1 ++ [(nxt l p.2 (prodM x)).1], (nxt l p.2 (prodM x)).2)) k := ⟨_, rfl⟩
  have X0 : X 0 = ([], s1) := by rw [hX]; rfl
  have XS : ∀ k, X (k + 1) = ((X k).1 ++ [(nxt l (X k).2 (prodM x)).1], (nxt l (X k).2 (prodM x)).2) := fun k => by rw [hX]
  have key : ∀ k, (X k).1.length = k ∧ inC x (X k).1 ∧ okS l (X k).2 := by
    intro k
    induction k with
    | zero => rw [X0]; exact ⟨rfl, fun u hu => by simp at hu, hs1⟩
    | succ k ih =>
      rw [XS]
      refine ⟨by simp [ih.1], fun u hu => ?_, nxt_ok ih.2.2 _⟩
      rcases List.mem_append.1 hu with h | h
      · exact ih.2.1 u h
      · simp at h; subst h; exact nxt_bnd (by omega)
  have hk := key n.toNat
  refine ⟨(X n.toNat).1, (X n.toNat).2, hk.2.2, by omega, hk.2.1, den_go [0] l_spec_l05Some ?_⟩
  simp only [srcR]; have y1 := kc [.bm, .r] d1; refine go_c0 ?_
  refine go_loop (fun (k : Nat) => ⟨[(0, .ref 0 0), (3, .ref 1 0), (5, .sl 2 0 k 1), (6, .d (di (n - k))), (22, .ref 0 0)], [some (.var [cd, di (X k).2.1, du (X k).2.2]), some (.var [ints x]), some (.dat 1 ((X k).1.map di))]⟩) (fun k => k ≤ n.toNat) (fun k => n.toNat - k) 0 ?_ ?_ ?_
  · simp -implicitDefEqProofs (maxSteps := 1000000) (disch := (first | omega | (simp only [go_sem] <;> omega) | fail)) only [go_sem, ints, bools, mat]
    rw [X0]
    simp
  · exact Nat.zero_le _
  · rintro k hkn J hJ
    have hkk := key k
    by_cases hlt : k < n.toNat
    · have dn := d_nxt H hkk.2.2 (prodM x)
      have y1 := kc [.r] (d_spec_l01N x (by omega) (isSpaceM_q hx)); have y2 := kc [.bm, .r] dn; refine go_c0 ?_
      refine hJ (k + 1) (by omega) (by omega) _ ?_
      rw [XS]
      simp -implicitDefEqProofs (maxSteps := 1000000) (disch := (first | omega | (simp only [go_sem] <;> omega) | fail)) only [go_sem, ints, bools, mat]
      have e : n - (k : Int) - 1 = n - ((k + 1 : Nat) : Int) := by omega
      rw [e]
    · have e : k = n.toNat := by omega
      subst e
      exact go_e0
def hsh (l : List Int) : Nat → Int
  | 0 => 14111 + (l.length : Int)
  | i + 1 => IntKind.wrap .u64 (IntKind.wrap .u64 (IntKind.wrap .u64 (hsh l i * 1099511628211) + l.getD i 0) + 251)
theorem hsh_bnd {l : List Int} (h : l.length < 1048577) : ∀ i, 0 ≤ hsh l i ∧ hsh l i < 18446744073709551616
  | 0 => by simp only [hsh]; omega
  | _ + 1 => wrapU_bnd _
theorem ex_from {cd : D} {l : List Int} (H : SrcH cd l) : ∃ s' : Src, okS l s' ∧ Den PA f_spec_l01From [.d cd] [.any] (srcR cd s') := by
  have hl := H.hl
  refine ⟨(0, hsh l (min l.length 4096)), ⟨Nat.zero_le _, hsh_bnd hl _⟩, den_go [] l_spec_l01From ?_⟩
  rcases H.hb with ⟨rfl, hby⟩ | ⟨rfl, rfl⟩
  · simp only [srcR]; refine go_c0 ?_
    refine go_loop (fun (i : Nat) => ⟨[(0, .d (.lst 1 (l.map dy))), (3, .ref 0 0), (4, .d (di i))], [some (.var [.lst 1 (l.map dy), di 0, du (hsh l i)])]⟩) (fun i => i ≤ min l.length 4096) (fun i => min l.length 4096 - i) 0 ?_ ?_ ?_
    · exact go_r0
    · exact Nat.zero_le _
    · rintro i hi J hJ
      have hb := hsh_bnd hl i
      by_cases hil : i < min l.length 4096
      · have hbi := hby _ (mem_getD (show i < l.length by omega))
        refine go_c0 ?_
        refine hJ (i + 1) (by omega) (by omega) _ go_r0
      · have e : i = min l.length 4096 := by omega
        by_cases h4 : l.length ≤ 4096
        · refine go_c0 ?_
          rw [← e]
        · refine go_c0 ?_
          rw [← e]
  · simp only [srcR]; refine go_c0 ?_
    refine go_loop (fun (_ : Unit) => ⟨[(0, .d (.v (.slice none 0 0))), (3, .ref 0 0), (4, .d (di 0))], [some (.var [.v (.slice none 0 0), di 0, du (hsh [] 0)])]⟩) (fun _ => True) (fun _ => 0) () ?_ trivial ?_
    · exact go_r0
    · intro _ _ J _
      refine go_c0 ?_
      rfl
def drL (X : D) (o : List Int) : Prop := IsInts X o ∧ o.length < 1048577 ∧ ∀ n, n ∈ o → in64 n
theorem ex_bad {cd : D} {l : List Int} (H : SrcH cd l) {s : Src} (hs : okS l s) {x : List Int} (hx : isSpaceM x = true) : ∃ (X : D) (o : List Int) (s' : Src), okS l s' ∧ drL X o ∧ Den PA f_spec_l01Bad [srcR cd s, .d (.agg [ints x])] [srcR cd s', .any] (.d (.agg [X])) := by
  have hn := isSpaceM_n hx
  have hq := isSpaceM_q hx
  have hin : ∀ n, n ∈ x → in64 n := fun n h => by
    obtain ⟨i, hi, rfl⟩ := List.mem_iff_getElem.1 h
    have := hq i hi
    simp [hi] at this
    unfold in64; omega
  obtain ⟨v, s1, hs1, v1, v2, d1⟩ := ex_nxt H hs (q := 50) (by omega)
  by_cases h0 : v = 0
  · subst h0
    refine ⟨nil, [], s1, hs1, ⟨.inr ⟨rfl, rfl⟩, by simp, by simp⟩, den_go [0] l_spec_l01Bad ?_⟩
    simp only [srcR]; have y1 := kc [.r] (d_spec_l01Own x (by omega)); have y2 := kc [.bm, .r] d1; exact go_e0
  · by_cases h1 : v = 1
    · subst h1
      obtain ⟨i, s2, hs2, i1, i2, d2⟩ := ex_nxt H hs1 (q := (x.length : Int)) (by omega)
      obtain ⟨w, s3, hs3, hw, d3⟩ := ex_pik H hs2 [1, 5, 0, -1, 1099511627776] (by simp) (by simp)
      refine ⟨ints (x.set i.toNat w), x.set i.toNat w, s3, hs3, ⟨.inl rfl, by simp; omega, fun n h => ?_⟩, den_go [0] l_spec_l01Bad ?_⟩
      · rcases List.mem_or_eq_of_mem_set h with h | rfl
        · exact hin n h
        · simp only [List.mem_cons, List.mem_nil_iff, or_false] at hw
          unfold in64; omega
      · repeat' (first | simp -implicitDefEqProofs (maxSteps := 1000000) (disch := (first | omega | (simp only [go_sem] <;> omega) | fail)) only [go_sem, ints, bools, mat, c_spec_l01Bad, srcR] | ((first | apply goIf_b | apply goG_b | apply goTG_b | apply goOG_b) <;> intro h <;> ((try simp only [hnq] at h); (try simp only [h]); (try simp only [hnr] at h)) <;> (try (exfalso; omega))))
        have yc := d_spec_l01Own x (by omega); first | refine goC_call [.r] yc ?_ | refine goOC_call [.r] yc ?_
        repeat' (first | simp -implicitDefEqProofs (maxSteps := 1000000) (disch := (first | omega | (simp only [go_sem] <;> omega) | fail)) only [go_sem, ints, bools, mat] | ((first | apply goIf_b | apply goG_b | apply goTG_b | apply goOG_b) <;> intro h <;> ((try simp only [hnq] at h); (try simp only [h]); (try simp only [hnr] at h)) <;> (try (exfalso; omega))))
        have yc := d1; first | refine goC_call [.bm, .r] yc ?_ | refine goOC_call [.bm, .r] yc ?_
        repeat' (first | simp -implicitDefEqProofs (maxSteps := 1000000) (disch := (first | omega | (simp only [go_sem] <;> omega) | fail)) only [go_sem, ints, bools, mat] | ((first | apply goIf_b | apply goG_b | apply goTG_b | apply goOG_b) <;> intro h <;> ((try simp only [hnq] at h); (try simp only [h]); (try simp only [hnr] at h)) <;> (try (exfalso; omega))))
        rw [goS_two]
        refine ⟨?_, ?_⟩
        · have y1 := kc [.bm, .r] d2; have y2 := kc [.bm, .f] d3; exact go_e0
        · have y1 := kc [.bm, .r] d2; have y2 := kc [.bm, .f] d3; exact go_e0
    · by_cases h2 : v = 2
      · subst h2
        refine ⟨ints (x ++ List.replicate (6 - x.length) 4), x ++ List.replicate (6 - x.length) 4, s1, hs1, ⟨.inl rfl, by simp; omega, fun n h => ?_⟩, den_go [0] l_spec_l01Bad ?_⟩
        · rcases List.mem_append.1 h with h | h
          · exact hin n h
          · rw [List.mem_replicate] at h; rw [h.2]; unfold in64; omega
        · simp only [srcR]; have y1 := kc [.r] (d_spec_l01Own x (by omega)); have y2 := kc [.bm, .r] d1; refine go_c0 ?_
          refine go_loop (fun (j : Nat) => ⟨[(4, .ref 0 0), (5, .ref 1 0), (42, .ref 2 0)], [some (.var [D.v (.slice none 0 0)]), some (.mix [.sl 3 0 (x.length + j) 1]), some (.var [cd, di s1.1, du s1.2]), some (.dat 1 ((x ++ List.replicate j 4).map di))]⟩) (fun j => j ≤ 6 - x.length) (fun j => 6 - x.length - j) 0 ?_ ?_ ?_
          · simp -implicitDefEqProofs (maxSteps := 1000000) (disch := (first | omega | (simp only [go_sem] <;> omega) | fail)) only [go_sem, ints, bools, mat]
            simp
          · exact Nat.zero_le _
          · rintro j hj J hJ
            by_cases hlt : j < 6 - x.length
            · refine go_c0 ?_
              refine hJ (j + 1) (by omega) (by omega) _ ?_
              simp -implicitDefEqProofs (maxSteps := 1000000) (disch := (first | omega | (simp only [go_sem] <;> omega) | fail)) only [go_sem, ints, bools, mat]
              rw [List.replicate_succ']
              simp [Nat.add_assoc]
            · have e : j = 6 - x.length := by omega
              refine go_c0 ?_
              rw [← e]
              repeat' (first | simp -implicitDefEqProofs (maxSteps := 1000000) (disch := (first | omega | (simp only [go_sem] <;> omega) | fail)) only [go_sem, ints, bools, mat] | ((first | apply goIf_b | apply goG_b | apply goTG_b | apply goOG_b) <;> intro h <;> ((try simp only [hnq] at h); (try simp only [h]); (try simp only [hnr] at h)) <;> (try (exfalso; omega))))
      · refine ⟨ints x, x, s1, hs1, ⟨.inl rfl, by omega, hin⟩, den_go [0] l_spec_l01Bad ?_⟩
        simp only [srcR]; have y1 := kc [.r] (d_spec_l01Own x (by omega)); have y2 := kc [.bm, .r] d1; exact go_e0
theorem ex_badCode {cd : D} {l : List Int} (H : SrcH cd l) {s : Src} (hs : okS l s) {x : List Int} (hx : isSpaceM x = true) {c : List Int} (hc : c.length < 1048576) (hci : ∀ n, n ∈ c → in64 n) : ∃ (o : List Int) (s' : Src), okS l s' ∧ o.length < 1048577 ∧ (∀ n, n ∈ o → in64 n) ∧ Den PA f_spec_l01BadCode [srcR cd s, .d (.agg [ints x]), .d (ints c)] [srcR cd s', .any, .any] (.own 1 (o.map di)) := by
  have hn := isSpaceM_n hx
  have hq := isSpaceM_q hx
  have hp := isSpaceM_prod hx
  have hp1 := prodM_pos (isSpaceM_szs hx)
  obtain ⟨v, s1, hs1, v1, v2, d1⟩ := ex_nxt H hs (q := 30) (by omega)
  by_cases h0 : v = 0
  · subst h0
    obtain ⟨w, s2, hs2, hw, d2⟩ := ex_pik H hs1 [-1, prodM x, 0, 1099511627776] (by simp) (by simp)
    refine ⟨c ++ [w], s2, hs2, by simp; omega, fun n h => ?_, den_go [0] l_spec_l01BadCode ?_⟩
    · rcases List.mem_append.1 h with h | h
      · exact hci n h
      · simp only [List.mem_singleton] at h
        simp only [List.mem_cons, List.mem_nil_iff, or_false] at hw
        unfold in64; omega
    · simp only [srcR]; have y1 := kc [.r] (d_spec_l01Own c (by omega)); have y2 := kc [.bm, .r] d1; have y3 := kc [.r] (d_spec_l01N x (by omega) hq); have y4 := kc [.bm, .f] d2; exact go_e0
  · by_cases h1 : v = 1
    · subst h1
      by_cases hl1 : 1 < c.length
      · refine ⟨c.set 0 (c.getD 1 0), s1, hs1, by simp; omega, fun n h => ?_, den_go [0] l_spec_l01BadCode ?_⟩
        · rcases List.mem_or_eq_of_mem_set h with h | rfl
          · exact hci n h
          · exact hci _ (mem_getD hl1)
        · simp only [srcR]; have y1 := kc [.r] (d_spec_l01Own c (by omega)); have y2 := kc [.bm, .r] d1; refine go_c0 ?_
          rfl
      · refine ⟨c, s1, hs1, by omega, hci, den_go [0] l_spec_l01BadCode ?_⟩
        simp only [srcR]; have y1 := kc [.r] (d_spec_l01Own c (by omega)); have y2 := kc [.bm, .r] d1; exact go_e0
    · refine ⟨c, s1, hs1, by omega, hci, den_go [0] l_spec_l01BadCode ?_⟩
      simp only [srcR]; have y1 := kc [.r] (d_spec_l01Own c (by omega)); have y2 := kc [.bm, .r] d1; exact go_e0
theorem ex_space {cd : D} {l : List Int} (H : SrcH cd l) {s : Src} (hs : okS l s) : ∃ (o : List Int) (s' : Src), okS l s' ∧ isSpaceM o = true ∧ Den PA f_spec_l05Space [srcR cd s] [srcR cd s'] (.agg [.own 1 (o.map di)]) := by
  obtain ⟨v, s1, hs1, v1, v2, d1⟩ := ex_nxt H hs (q := 16) (by omega)
  by_cases h0 : v = 0
  · subst h0
    obtain ⟨o, s2, hs2, ho, d2⟩ := ex_drawOf H hs1 (most := 81) (by omega) (by omega)
    refine ⟨o, s2, hs2, ho, den_go [0] l_spec_l05Space ?_⟩
    simp only [srcR]; have y1 := kc [.bm, .r] d1; have y2 := kc [.bm, .r] d2; exact go_e0
  · obtain ⟨q, s2, hs2, hq, d2⟩ := ex_pik H hs1 [2, 2, 3] (by simp) (by simp)
    obtain ⟨m, s3, hs3, hm, d3⟩ := ex_pik H hs2 [3, 5, 7] (by simp) (by simp)
    simp only [List.mem_cons, List.mem_nil_iff, or_false] at hq hm
    obtain ⟨n, s4, hs4, n1, n2, d4⟩ := ex_nxt H hs3 (q := m) (by omega)
    have fin : ∀ (n : Int) (S : Src), 0 ≤ n → (q = 3 → n < 4) → n < 7 → isSpaceM (List.replicate (1 + n).toNat q) = true := by
      intro n S a b c
      have h1 : n = 0 ∨ n = 1 ∨ n = 2 ∨ n = 3 ∨ n = 4 ∨ n = 5 ∨ n = 6 := by omega
      rcases hq with rfl | rfl | rfl <;> rcases h1 with rfl | rfl | rfl | rfl | rfl | rfl | rfl <;> first | decide | (exfalso; have := b rfl; omega)
    by_cases h3 : q = 3
    · obtain ⟨n5, s5, hs5, m1, m2, d5⟩ := ex_nxt H hs4 (q := 4) (by omega)
      refine ⟨List.replicate (1 + n5).toNat q, s5, hs5, fin n5 s5 m1 (fun _ => m2) (by omega), den_go [0] l_spec_l05Space ?_⟩
      simp only [srcR]; have y1 := kc [.bm, .r] d1; have y2 := kc [.bm, .f] d2; have y3 := kc [.bm, .f] d3; have y4 := kc [.bm, .r] d4; have y5 := kc [.bm, .r] d5; refine go_c0 ?_
      refine go_loop (fun (j : Nat) => ⟨[(2, .ref 0 0), (3, .ref 1 0), (4, .d (di q)), (5, .d (di (1 + n5 - j))), (38, .ref 2 0)], [some (.var [D.v (.slice none 0 0)]), some (.mix [.sl 3 0 j 1]), some (.var [cd, di s5.1, du s5.2]), some (.dat 1 ((List.replicate j q).map di))]⟩) (fun j => j ≤ (1 + n5).toNat) (fun j => (1 + n5).toNat - j) 0 ?_ ?_ ?_
      · simp -implicitDefEqProofs (maxSteps := 1000000) (disch := (first | omega | (simp only [go_sem] <;> omega) | fail)) only [go_sem, ints, bools, mat]
        simp
      · exact Nat.zero_le _
      · rintro j hj J hJ
        by_cases hlt : j < (1 + n5).toNat
        · refine go_c0 ?_
          refine hJ (j + 1) (by omega) (by omega) _ ?_
          simp -implicitDefEqProofs (maxSteps := 1000000) (disch := (first | omega | (simp only [go_sem] <;> omega) | fail)) only [go_sem, ints, bools, mat]
          rw [List.replicate_succ']
          have e : 1 + n5 - (j : Int) - 1 = 1 + n5 - ((j + 1 : Nat) : Int) := by omega
          rw [e]
        · have e : j = (1 + n5).toNat := by omega
          subst e
          exact go_e0
    · refine ⟨List.replicate (1 + n).toNat q, s4, hs4, fin n s4 n1 (fun h => absurd h h3) (by omega), den_go [0] l_spec_l05Space ?_⟩
      simp only [srcR]; have y1 := kc [.bm, .r] d1; have y2 := kc [.bm, .f] d2; have y3 := kc [.bm, .f] d3; have y4 := kc [.bm, .r] d4; refine go_c0 ?_
      refine go_loop (fun (j : Nat) => ⟨[(2, .ref 0 0), (3, .ref 1 0), (4, .d (di q)), (5, .d (di (1 + n - j))), (38, .ref 2 0)], [some (.var [D.v (.slice none 0 0)]), some (.mix [.sl 3 0 j 1]), some (.var [cd, di s4.1, du s4.2]), some (.dat 1 ((List.replicate j q).map di))]⟩) (fun j => j ≤ (1 + n).toNat) (fun j => (1 + n).toNat - j) 0 ?_ ?_ ?_
      · simp -implicitDefEqProofs (maxSteps := 1000000) (disch := (first | omega | (simp only [go_sem] <;> omega) | fail)) only [go_sem, ints, bools, mat]
        simp
      · exact Nat.zero_le _
      · rintro j hj J hJ
        by_cases hlt : j < (1 + n).toNat
        · refine go_c0 ?_
          refine hJ (j + 1) (by omega) (by omega) _ ?_
          simp -implicitDefEqProofs (maxSteps := 1000000) (disch := (first | omega | (simp only [go_sem] <;> omega) | fail)) only [go_sem, ints, bools, mat]
          rw [List.replicate_succ']
          have e : 1 + n - (j : Int) - 1 = 1 + n - ((j + 1 : Nat) : Int) := by omega
          rw [e]
        · have e : j = (1 + n).toNat := by omega
          subst e
          exact go_e0
def smN (a : List Int) : Nat → Int
  | 0 => 0
  | j + 1 => smN a j + a.getD j 0
theorem smN_bnd {a : List Int} (h : ∀ i, 0 ≤ a.getD i 0 ∧ a.getD i 0 < 4) : ∀ j : Nat, 0 ≤ smN a j ∧ smN a j ≤ 3 * j
  | 0 => by simp [smN]
  | j + 1 => by have h1 := smN_bnd h j; have h2 := h j; rw [smN]; omega
def sdP (x : List Int) (b r w : Int) : Bool := smN (digM x w) x.length % b == r
def gdN (x : List Int) (d : Int) : Nat → List Int
  | 0 => []
  | w + 1 => if (List.range (gdN x d w).length).all (fun k => decide (d ≤ distM x ((gdN x d w).getD k 0) w)) = true then gdN x d w ++ [(w : Int)] else gdN x d w
theorem gdN_len (x : List Int) (d : Int) : ∀ w, (gdN x d w).length ≤ w
  | 0 => by simp [gdN]
  | w + 1 => by
    have := gdN_len x d w
    rw [gdN]; split
    · simp; omega
    · omega
theorem gdN_mem (x : List Int) (d : Int) : ∀ w, ∀ u, u ∈ gdN x d w → 0 ≤ u ∧ u < w
  | 0 => fun u h => by simp [gdN] at h
  | w + 1 => fun u h => by
    rw [gdN] at h
    split at h
    · rcases List.mem_append.1 h with h | h
      · have := gdN_mem x d w u h; omega
      · simp at h; omega
    · have := gdN_mem x d w u h; omega
theorem ex_drawCode {cd : D} {l : List Int} (H : SrcH cd l) {s : Src} (hs : okS l s) {x : List Int} (hx : isSpaceM x = true) : ∃ (o : List Int) (s' : Src), okS l s' ∧ o.length ≤ 1024 ∧ inC x o ∧ Den PA f_spec_l01DrawCode [srcR cd s, .d (.agg [ints x])] [srcR cd s', .any] (.own 1 (o.map di)) := by
  have hn := isSpaceM_n hx
  have hq := isSpaceM_q hx
  have hp := isSpaceM_prod hx
  have hz := isSpaceM_szs hx
  have hp1 := prodM_pos hz
  have hal := allW_len x
  have hN := d_spec_l01N x (by omega) hq
  obtain ⟨v, s1, hs1, v1, v2, d1⟩ := ex_nxt H hs (q := 4) (by omega)
  by_cases h0 : v = 0
  · subst h0
    obtain ⟨b, s2, hs2, hb, d2⟩ := ex_pik H hs1 [2, 2, 3, 4] (by simp) (by simp)
    simp only [List.mem_cons, List.mem_nil_iff, or_false] at hb
    obtain ⟨r, s3, hs3, r1, r2, d3⟩ := ex_nxt H hs2 (q := 2) (by omega)
    refine ⟨(allW x).filter (sdP x b r), s3, hs3, ?_, ?_, den_go [0] l_spec_l01DrawCode ?_⟩
    · have := List.length_filter_le (sdP x b r) (allW x); omega
    · intro u hu; exact (allW_mem' hx u).1 (List.mem_filter.1 hu).1
    · simp only [srcR]; have y1 := kc [.bm, .r] d1; have y2 := kc [.bm, .f] d2; have y3 := kc [.bm, .r] d3; refine go_c0 ?_
      refine go_loop (fun (w : Nat) => ⟨[(3, .ref 0 0), (5, .sl 1 0 (((allW x).take w).filter (sdP x b r)).length 1), (6, .d (di b)), (7, .d (di r)), (8, .d (di w)), (109, .ref 2 0)], [some (.var [ints x]), some (.dat 1 ((((allW x).take w).filter (sdP x b r)).map di)), some (.var [cd, di s3.1, du s3.2])]⟩) (fun w => w ≤ (prodM x).toNat) (fun w => (prodM x).toNat - w) 0 ?_ ?_ ?_
      · exact go_r0
      · exact Nat.zero_le _
      · rintro w hw J hJ
        have hfl := filter_len_le (sdP x b r) ((allW x).take w) w (by simp; omega)
        by_cases hwl : w < (prodM x).toNat
        · have hdl := digM_len x w
          have hd4 := digM_bnd w hz
          have y1 := kc [.r] hN; have y2 := kc [.r, .r] (d_spec_l01Digits x hx w (by omega) (by omega)); refine go_c0 ?_
          refine go_loop (fun (j : Nat) => ⟨[(3, .ref 0 0), (5, .sl 1 0 (((allW x).take w).filter (sdP x b r)).length 1), (6, .d (di b)), (7, .d (di r)), (8, .d (di w)), (9, .sl 2 0 (digM x w).length 1), (10, .d (di (smN (digM x w) j))), (37, .d (di (digM x w).length)), (38, .d (di j)), (109, .ref 3 0)], [some (.var [ints x]), some (.dat 1 ((((allW x).take w).filter (sdP x b r)).map di)), some (.dat 1 ((digM x w).map di)), some (.var [cd, di s3.1, du s3.2])]⟩) (fun j => j ≤ x.length) (fun j => x.length - j) 0 ?_ ?_ ?_
          · exact go_r0
          · exact Nat.zero_le _
          · rintro j hj J2 hJ2
            have hsb := smN_bnd hd4 j
            have hdj := hd4 j
            by_cases hjl : j < x.length
            · refine go_c0 ?_
              refine hJ2 (j + 1) (by omega) (by omega) _ ?_
              simp -implicitDefEqProofs (maxSteps := 1000000) (disch := (first | omega | (simp only [go_sem] <;> omega) | fail)) only [go_sem, ints, bools, mat]
              rw [smN]; rfl
            · have e : j = x.length := by omega
              subst e
              have hmb := mod_bnd (x := smN (digM x w) x.length) (show 2 ≤ b ∧ b ≤ 4 by omega)
              repeat' (first | simp -implicitDefEqProofs (maxSteps := 1000000) (disch := (first | omega | (simp only [go_sem] <;> omega) | fail)) only [go_sem, ints, bools, mat] | ((first | apply goIf_b | apply goG_b | apply goTG_b | apply goOG_b) <;> intro h <;> ((try simp only [hnq] at h); (try simp only [h]); (try simp only [hnr] at h)) <;> (try (exfalso; omega))))
              · refine hJ (w + 1) (by omega) (by omega) _ ?_
                simp -implicitDefEqProofs (maxSteps := 1000000) (disch := (first | omega | (simp only [go_sem] <;> omega) | fail)) only [go_sem, ints, bools, mat]
                rw [take_allW _ hwl, List.filter_append]
                have h' : sdP x b r w = true := by unfold sdP; simpa using h
                simp [h']
              · refine hJ (w + 1) (by omega) (by omega) _ ?_
                simp -implicitDefEqProofs (maxSteps := 1000000) (disch := (first | omega | (simp only [go_sem] <;> omega) | fail)) only [go_sem, ints, bools, mat]
                rw [take_allW _ hwl, List.filter_append]
                have h' : sdP x b r w = false := by unfold sdP; simpa using h
                simp [h']
        · have e : w = (prodM x).toNat := by omega
          subst e
          rw [List.take_of_length_le (by rw [hal]; exact Nat.le_refl _)]
          have y1 := kc [.r] hN; exact go_e0
  · by_cases h1 : v = 1
    · subst h1
      obtain ⟨d, s2, hs2, hd, d2⟩ := ex_pik H hs1 [2, 3, 3] (by simp) (by simp)
      refine ⟨gdN x d (prodM x).toNat, s2, hs2, ?_, ?_, den_go [0] l_spec_l01DrawCode ?_⟩
      · have := gdN_len x d (prodM x).toNat; omega
      · intro u hu; have := gdN_mem x d _ u hu; omega
      · simp only [srcR]; have y1 := kc [.bm, .r] d1; have y2 := kc [.bm, .f] d2; refine go_c0 ?_
        refine go_loop (fun (w : Nat) => ⟨[(3, .ref 0 0), (5, .sl 1 0 (gdN x d w).length 1), (12, .d (di d)), (13, .d (di w)), (109, .ref 2 0)], [some (.var [ints x]), some (.dat 1 ((gdN x d w).map di)), some (.var [cd, di s2.1, du s2.2])]⟩) (fun w => w ≤ (prodM x).toNat) (fun w => (prodM x).toNat - w) 0 ?_ ?_ ?_
        · exact go_r0
        · exact Nat.zero_le _
        · rintro w hw J hJ
          have hgl := gdN_len x d w
          by_cases hwl : w < (prodM x).toNat
          · have y1 := kc [.r] hN; refine go_c0 ?_
            refine go_loop (fun (k : Nat) => ⟨[(3, .ref 0 0), (5, .sl 1 0 (gdN x d w).length 1), (12, .d (di d)), (13, .d (di w)), (14, .d (db ((List.range k).all fun k => decide (d ≤ distM x ((gdN x d w).getD k 0) w)))), (70, .d (di (gdN x d w).length)), (71, .d (di k)), (109, .ref 2 0)], [some (.var [ints x]), some (.dat 1 ((gdN x d w).map di)), some (.var [cd, di s2.1, du s2.2])]⟩) (fun k => k ≤ (gdN x d w).length) (fun k => (gdN x d w).length - k) 0 ?_ ?_ ?_
            · exact go_r0
            · exact Nat.zero_le _
            · rintro k hk J2 hJ2
              by_cases hkl : k < (gdN x d w).length
              · have hgm := gdN_mem x d w _ (mem_getD hkl)
                have hdi := d_spec_l01Distance x hx ((gdN x d w).getD k 0) w hgm.1 (by omega) (by omega) (by omega)
                have hst : ((List.range (k + 1)).all fun k => decide (d ≤ distM x ((gdN x d w).getD k 0) w)) = (((List.range k).all fun k => decide (d ≤ distM x ((gdN x d w).getD k 0) w)) && decide (d ≤ distM x ((gdN x d w).getD k 0) w)) := by
                  rw [List.range_succ, List.all_append, List.all_cons, List.all_nil, Bool.and_true]
                rw [List.range_succ] at hst
                cases hg : (List.range k).all fun k => decide (d ≤ distM x ((gdN x d w).getD k 0) w) with
                | false =>
                  refine go_c0 ?_
                  refine hJ2 (k + 1) (by omega) (by omega) _ ?_
                  simp -implicitDefEqProofs (maxSteps := 1000000) (disch := (first | omega | (simp only [go_sem] <;> omega) | fail)) only [go_sem, ints, bools, mat]
                  rw [hst, hg]; rfl
                | true =>
                  have y1 := kc [.r, .r, .r] hdi; refine go_c0 ?_
                  refine hJ2 (k + 1) (by omega) (by omega) _ ?_
                  simp -implicitDefEqProofs (maxSteps := 1000000) (disch := (first | omega | (simp only [go_sem] <;> omega) | fail)) only [go_sem, ints, bools, mat]
                  rw [hst, hg, Bool.true_and]; rfl
              · have e : k = (gdN x d w).length := by omega
                subst e
                cases hg : (List.range (gdN x d w).length).all fun k => decide (d ≤ distM x ((gdN x d w).getD k 0) w) with
                | false =>
                  refine go_c0 ?_
                  refine hJ (w + 1) (by omega) (by omega) _ ?_
                  simp -implicitDefEqProofs (maxSteps := 1000000) (disch := (first | omega | (simp only [go_sem] <;> omega) | fail)) only [go_sem, ints, bools, mat]
                  rw [gdN, if_neg (by rw [hg]; decide)]; rfl
                | true =>
                  refine go_c0 ?_
                  refine hJ (w + 1) (by omega) (by omega) _ ?_
                  simp -implicitDefEqProofs (maxSteps := 1000000) (disch := (first | omega | (simp only [go_sem] <;> omega) | fail)) only [go_sem, ints, bools, mat]
                  rw [gdN, if_pos hg]; simp
          · have e : w = (prodM x).toNat := by omega
            subst e
            have y1 := kc [.r] hN; exact go_e0
    · obtain ⟨m, s2, hs2, hm, d2⟩ := ex_pik H hs1 [3, 8, 20] (by simp) (by simp)
      simp only [List.mem_cons, List.mem_nil_iff, or_false] at hm
      obtain ⟨n, s3, hs3, n1, n2, d3⟩ := ex_nxt H hs2 (q := m) (by omega)
      obtain ⟨X, hX⟩ : ∃ X : Nat → List Int × Src, X = fun k => Nat.rec (motive := fun _ => List Int × Src) ([], s3) (fun _ p => (putI p.1 (nxt l p.2 (prodM x)).1, (nxt l p.2 (prodM x)).2)) k := ⟨_, rfl⟩
      have X0 : X 0 = ([], s3) := by rw [hX]; rfl
      have XS : ∀ k, X (k + 1) = (putI (X k).1 (nxt l (X k).2 (prodM x)).1, (nxt l (X k).2 (prodM x)).2) := fun k => by rw [hX]
      have key : ∀ k, (X k).1.length ≤ k ∧ inC x (X k).1 ∧ okS l (X k).2 := by
        intro k
        induction k with
        | zero => rw [X0]; exact ⟨Nat.le_refl _, fun u hu => by simp at hu, hs3⟩
        | succ k ih =>
          rw [XS]
          refine ⟨?_, fun u hu => ?_, nxt_ok ih.2.2 _⟩
          · have := putI_len (X k).1 (nxt l (X k).2 (prodM x)).1
            dsimp only; omega
          · rcases (putI_mem u).1 hu with h | h
            · exact ih.2.1 u h
            · subst h; exact nxt_bnd (by omega)
      have hk := key n.toNat
      refine ⟨(X n.toNat).1, (X n.toNat).2, hk.2.2, by omega, hk.2.1, den_go [0] l_spec_l01DrawCode ?_⟩
      simp only [srcR]; have y1 := kc [.bm, .r] d1; have y2 := kc [.bm, .f] d2; have y3 := kc [.bm, .r] d3; refine go_c0 ?_
      refine go_loop (fun (k : Nat) => ⟨[(0, .ref 0 0), (3, .ref 1 0), (5, .sl 2 0 (X k).1.length 1), (16, .d (di (n - k))), (109, .ref 0 0)], [some (.var [cd, di (X k).2.1, du (X k).2.2]), some (.var [ints x]), some (.dat 1 ((X k).1.map di))]⟩) (fun k => k ≤ n.toNat) (fun k => n.toNat - k) 0 ?_ ?_ ?_
      · simp -implicitDefEqProofs (maxSteps := 1000000) (disch := (first | omega | (simp only [go_sem] <;> omega) | fail)) only [go_sem, ints, bools, mat]
        rw [X0]
        simp
      · exact Nat.zero_le _
      · rintro k hkn J hJ
        have hkk := key k
        by_cases hlt : k < n.toNat
        · have dn := d_nxt H hkk.2.2 (prodM x)
          have dp := d_spec_l01Put (X k).1 (nxt l (X k).2 (prodM x)).1 (by omega)
          have y1 := kc [.r] hN; have y2 := kc [.bm, .r] dn; have y3 := kc [.o, .r] dp; refine go_c0 ?_
          refine hJ (k + 1) (by omega) (by omega) _ ?_
          rw [XS]
          simp -implicitDefEqProofs (maxSteps := 1000000) (disch := (first | omega | (simp only [go_sem] <;> omega) | fail)) only [go_sem, ints, bools, mat]
          have e : n - (k : Int) - 1 = n - ((k + 1 : Nat) : Int) := by omega
          rw [e]
        · have e : k = n.toNat := by omega
          subst e
          exact go_e0
theorem inC_in64 {x c : List Int} (hx : isSpaceM x = true) (h : inC x c) : ∀ n, n ∈ c → in64 n := fun n hn => by
  have h1 := h n hn
  have h2 := isSpaceM_prod hx
  unfold in64; omega
theorem ex_draw5 {cd : D} {l : List Int} (H : SrcH cd l) {s : Src} (hs : okS l s) : ∃ (x c : List Int) (s' : Src), okS l s' ∧ isSpaceM x = true ∧ c.length ≤ 1025 ∧ inC x c ∧ Den PA f_spec_l05Draw [srcR cd s] [srcR cd s'] (.tup [.d (.agg [ints x]), .own 1 (c.map di)]) := by
  obtain ⟨x, s1, hs1, hx, d1⟩ := ex_space H hs
  have hd1 := d1.le .frzA
  have hn := isSpaceM_n hx
  have hq := isSpaceM_q hx
  have hp := isSpaceM_prod hx
  have hp1 := prodM_pos (isSpaceM_szs hx)
  have hpl := d_spec_l05Plain x (by omega)
  cases hpx : plainM x with
  | false =>
    rw [hpx] at hpl
    obtain ⟨c, s2, hs2, hc, hcx, d2⟩ := ex_drawCode H hs1 hx
    refine ⟨x, c, s2, hs2, hx, by omega, hcx, den_go [0] l_spec_l05Draw ?_⟩
    simp only [srcR]; have y1 := kc [.bm] hd1; have y2 := kc [.r] hpl; have y3 := kc [.bm, .r] d2; exact go_e0
  | true =>
    rw [hpx] at hpl
    obtain ⟨ws, s2, hs2, hw4, hwx, d2⟩ := ex_wsome H hs1 hx
    have hsp := d_spec_l05Span x ws hx hpx hwx (by omega)
    obtain ⟨v, s3, hs3, v1, v2, d3⟩ := ex_nxt H hs2 (q := 12) (by omega)
    have hN := d_spec_l01N x (by omega) hq
    have gs := spN_grp hx hpx hwx ws.length (Nat.le_refl _)
    have hnd : (spN x ws ws.length).Nodup := gs.asc.imp fun h => Int.ne_of_lt h
    have hsl := nodup_small hx gs.inc hnd
    generalize spN x ws ws.length = SP at *
    have key : ∀ (c : List Int) (s' : Src), True := fun _ _ => trivial
    by_cases h0 : v = 0
    · subst h0
      obtain ⟨c, s4, hs4, hc, hcx, d4⟩ := ex_drawCode H hs3 hx
      refine ⟨x, c, s4, hs4, hx, by omega, hcx, den_go [0] l_spec_l05Draw ?_⟩
      simp only [srcR]; have y1 := kc [.bm] hd1; have y2 := kc [.r] hpl; have y3 := kc [.bm, .r] d2; have y4 := kc [.r, .r] hsp; have y5 := kc [.bm, .r] d3; have y6 := kc [.bm, .r] d4; exact go_e0
    · by_cases h1 : v = 1
      · subst h1
        obtain ⟨u, s4, hs4, u1, u2, d4⟩ := ex_nxt H hs3 (q := prodM x) (by omega)
        have hpt := d_spec_l01Put SP u (by omega)
        refine ⟨x, putI SP u, s4, hs4, hx, by have := putI_len SP u; omega, fun y hy => ?_, den_go [0] l_spec_l05Draw ?_⟩
        · rcases (putI_mem y).1 hy with h | h
          · exact gs.inc y h
          · subst h; exact ⟨u1, u2⟩
        · simp only [srcR]; have y1 := kc [.bm] hd1; have y2 := kc [.r] hpl; have y3 := kc [.bm, .r] d2; have y4 := kc [.r, .r] hsp; have y5 := kc [.bm, .r] d3; have y6 := kc [.r] hN; have y7 := kc [.bm, .r] d4; have y8 := kc [.o, .r] hpt; exact go_e0
      · refine ⟨x, SP, s3, hs3, hx, by omega, gs.inc, den_go [0] l_spec_l05Draw ?_⟩
        simp only [srcR]; have y1 := kc [.bm] hd1; have y2 := kc [.r] hpl; have y3 := kc [.bm, .r] d2; have y4 := kc [.r, .r] hsp; have y5 := kc [.bm, .r] d3; exact go_e0
theorem d_nil_impl_IsSpace : Den PA f_impl_IsSpace [.d (.agg [nil])] [.any] (.d (db false)) := by
  refine den_go [] l_impl_IsSpace ?_
  exact go_e0
theorem d_nil_spec_l01Is : Den PA f_spec_l01Is [.d (.agg [nil])] [.any] (.d (db false)) := by
  refine den_go [] l_spec_l01Is ?_
  have y1 := kc [.r, .r, .r] (d_spec_l01In 0 1 8); exact go_e0
theorem d_nil_impl_wordCode (x : D) : Den PA f_impl_wordCode [.d (.agg [nil]), .d x] [.any, .any] (.d (di 1)) := by
  refine den_go [] l_impl_wordCode ?_
  have y1 := kc [.r] d_nil_impl_IsSpace; exact go_e0
theorem d_nil_impl_codeCode (c x : D) : Den PA f_impl_codeCode [.d (.agg [nil]), .d c, .d x] [.any, .any, .any] (.d (di 1)) := by
  refine den_go [] l_impl_codeCode ?_
  have y1 := kc [.r, .r] (d_nil_impl_wordCode x); exact go_e0
theorem d_nil_impl_linearCode (c x : D) : Den PA f_impl_linearCode [.d (.agg [nil]), .d c, .d x] [.any, .any, .any] (.d (di 1)) := by
  refine den_go [] l_impl_linearCode ?_
  have y1 := kc [.r, .r, .r] (d_nil_impl_codeCode c x); exact go_e0
theorem d_nil_spec_l01Given (c : D) : Den PA f_spec_l01Given [.d (.agg [nil]), .d c] [.any, .any] (.d (di 1)) := by
  refine den_go [] l_spec_l01Given ?_
  have y1 := kc [.r] d_nil_spec_l01Is; exact go_e0
theorem d_nil_spec_l05Given (c : D) : Den PA f_spec_l05Given [.d (.agg [nil]), .d c] [.any, .any] (.d (di 1)) := by
  refine den_go [] l_spec_l05Given ?_
  have y1 := kc [.r, .r] (d_nil_spec_l01Given c); exact go_e0
theorem d_nil_spec_l01Words (x : D) : Den PA f_spec_l01Words [.d (.agg [nil]), .d x] [.any, .any] (.d (di 1)) := by
  refine den_go [] l_spec_l01Words ?_
  have y1 := kc [.r] d_nil_spec_l01Is; exact go_e0
theorem d_laws_likeInts (l m : List Int) (hl : l.length < 1048577) : Den PA f_laws_likeInts [.d (ints l), .d (ints m)] [.any, .any] (.d (db (decide (l = m)))) := by
  refine den_go [] l_laws_likeInts ?_
  repeat' (first | simp -implicitDefEqProofs (maxSteps := 1000000) (disch := (first | omega | (simp only [go_sem] <;> omega) | fail)) only [go_sem, ints, bools, mat, c_laws_likeInts] | ((first | apply goIf_b | apply goG_b | apply goTG_b | apply goOG_b) <;> intro h <;> ((try simp only [hnq] at h); (try simp only [h]); (try simp only [hnr] at h)) <;> (try (exfalso; omega))))
  · exact dbF fun e => by have := of_decide_eq_true e; subst this; exact h rfl
  · refine go_loop (fun (j : Nat) => ⟨[(0, .d (ints l)), (1, .d (ints m)), (5, .d (di j))], []⟩) (fun j => j ≤ l.length ∧ ∀ i, i < j → l.getD i 0 = m.getD i 0) (fun j => l.length - j) 0 ?_ ?_ ?_
    · exact go_r0
    · simp
    · rintro j ⟨hj, hi⟩ J hJ
      repeat' (first | simp -implicitDefEqProofs (maxSteps := 1000000) (disch := (first | omega | (simp only [go_sem] <;> omega) | fail)) only [go_sem, ints, bools, mat] | ((first | apply goIf_b | apply goG_b | apply goTG_b | apply goOG_b) <;> intro h <;> ((try simp only [hnq] at h); (try simp only [h]); (try simp only [hnr] at h)) <;> (try (exfalso; omega))))
      · exact dbF fun e => by have := of_decide_eq_true e; subst this; exact h rfl
      · refine hJ (j + 1) ⟨by omega, all_ext hi (by assumption)⟩ (by omega) _ go_r0
      · exact dbT (decide_eq_true (eq_getD (by omega) fun i hi' => hi i (by omega)))
theorem d_laws_likeInts_nil : Den PA f_laws_likeInts [.d nil, .d nil] [.any, .any] (.d (db true)) := by
  refine den_go [] l_laws_likeInts ?_
  refine go_c0 ?_
  refine go_loop (fun (_ : Unit) => ⟨[(0, .d nil), (1, .d nil), (5, .d (di 0))], []⟩) (fun _ => True) (fun _ => 0) () ?_ trivial ?_
  · exact go_r0
  · intro _ _ J _
    exact go_e0
theorem d_laws_hasInt (l : List Int) (x : Int) (hl : l.length < 1048577) : Den PA f_laws_hasInt [.d (ints l), .d (di x)] [.any, .any] (.d (db (decide (x ∈ l)))) := by
  refine den_go [] l_laws_hasInt ?_
  refine go_c0 ?_
  refine go_loop (fun (j : Nat) => ⟨[(0, .d (ints l)), (1, .d (di x)), (5, .d (di j))], []⟩) (fun j => j ≤ l.length ∧ ∀ i, i < j → l.getD i 0 ≠ x) (fun j => l.length - j) 0 ?_ ?_ ?_
  · exact go_r0
  · simp
  · rintro j ⟨hj, hi⟩ J hJ
    repeat' (first | simp -implicitDefEqProofs (maxSteps := 1000000) (disch := (first | omega | (simp only [go_sem] <;> omega) | fail)) only [go_sem, ints, bools, mat] | ((first | apply goIf_b | apply goG_b | apply goTG_b | apply goOG_b) <;> intro h <;> ((try simp only [hnq] at h); (try simp only [h]); (try simp only [hnr] at h)) <;> (try (exfalso; omega))))
    · exact dbT (decide_eq_true (by rw [← h]; exact mem_getD (by omega)))
    · refine hJ (j + 1) ⟨by omega, all_ext hi (by assumption)⟩ (by omega) _ go_r0
    · refine dbF fun e => ?_
      obtain ⟨i, hi', e2⟩ := List.mem_iff_getElem.1 (of_decide_eq_true e)
      exact hi i (by omega) (by simpa [hi'] using e2)
theorem smN_ge {a : List Int} {B : Int} (h : ∀ i, 0 ≤ a.getD i 0 ∧ a.getD i 0 ≤ B) : ∀ j : Nat, 0 ≤ smN a j ∧ smN a j ≤ B * j
  | 0 => by simp [smN]
  | j + 1 => by
    have h1 := smN_ge h j; have h2 := h j
    have e : B * ((j + 1 : Nat) : Int) = B * j + B := by rw [Int.natCast_add, Int.mul_add]; simp
    rw [smN, e]; omega
theorem d_laws_sum (a : List Int) (ha : a.length < 100) (h : ∀ i, 0 ≤ a.getD i 0 ∧ a.getD i 0 ≤ 1048577) : Den PA f_laws_sum [.d (ints a)] [.any] (.d (di (smN a a.length))) := by
  refine den_go [] l_laws_sum ?_
  refine go_c0 ?_
  refine go_loop (fun (j : Nat) => ⟨[(0, .d (ints a)), (3, .d (di (smN a j))), (4, .d (di j))], []⟩) (fun j => j ≤ a.length) (fun j => a.length - j) 0 ?_ ?_ ?_
  · exact go_r0
  · simp
  · rintro j hj J hJ
    have hb := smN_ge h j
    have hj2 := h j
    by_cases hjl : j < a.length
    · refine go_c0 ?_
      refine hJ (j + 1) (by omega) (by omega) _ ?_
      simp -implicitDefEqProofs (maxSteps := 1000000) (disch := (first | omega | (simp only [go_sem] <;> omega) | fail)) only [go_sem, ints, bools, mat]
      rw [smN]; rfl
    · have e : j = a.length := by omega
      subst e
      exact go_e0
theorem d_impl_CountWords (l : List Int) (hs : isSpaceM l = true) : Den PA f_impl_CountWords [.d (.agg [ints l])] [.any] (.tup [.d (di (prodM l)), .d (di 0)]) := by
  have hn := isSpaceM_n hs
  have his := d_impl_IsSpace l (by omega)
  rw [hs] at his
  refine den_go [] l_impl_CountWords ?_
  have y1 := kc [.r] his; have y2 := kc [.r] (d_impl_count l hs); exact go_e0
theorem lenA_bts {x : D} {l : List Int} (h : IsBts x l) : lenA (.d x) = some (.d (di l.length)) := by
  rcases h with ⟨rfl, _⟩ | ⟨rfl, rfl⟩
  · simp [lenA]
  · rfl
theorem d_laws_big {x : D} {l : List Int} (h : IsBts x l) : Den PA f_laws_big [.d x] [.any] (.d (db (decide (4096 < (l.length : Int))))) := by
  have hl := lenA_bts h
  refine den_go [] l_laws_big ?_
  have z1 := hl; exact go_e1
@[go_sem] theorem leaA_is (k : Nat) (x : AV) (v : Value) (s : Sto) : leaA (k + 1) (.is x v) s = leaA k x s := rfl
@[go_sem] theorem leaA_iref (k : Nat) (cs : List D) (c : Nat) (s : Sto) : leaA (k + 1) (.iref cs c) s = (.any, s) := rfl
@[go_sem] theorem leaA_fn (k : Nat) (f : FuncId) (xs : List AV) (s : Sto) : leaA (k + 1) (.fn f xs) s = (.any, s) := rfl
def leaBm (p : List R × Sto) : R × Sto := (.boxm p.1, p.2)
@[go_sem] theorem leaBm_ok (ls : List R) (s : Sto) : leaBm (ls, s) = (.boxm ls, s) := rfl
@[go_sem] theorem leaB_mix (cs : List AV) (k i : Nat) (s : Sto) : leaB (some (some (.mix cs))) k i s = leaBm (leaL (leaA k) cs (s.set i none)) := rfl
def cf : List Int → Nat → Int
  | [], k => if k = 0 then 1 else 0
  | q :: r, k => mulB (q - 1) (cf r) k
theorem flat_cnt (n a : Nat) (A B : Int) (g : Nat → List (List Int)) (h : ∀ d, d < n → ((g d).length : Int) = if d = a then A else B) :
    ((((List.range n).flatMap g).length : Nat) : Int) = n * B + if a < n then A - B else 0 := by
  induction n with
  | zero => simp
  | succ n ih =>
    have hs := h n (by omega)
    rw [List.range_succ, List.flatMap_append, List.length_append, Int.natCast_add, ih fun d hd => h d (by omega)]
    simp only [List.flatMap_cons, List.flatMap_nil, List.append_nil]
    rw [hs]
    have e : ((n + 1 : Nat) : Int) * B = n * B + B := by rw [Int.natCast_add, Int.add_mul]; simp
    rw [e]
    rcases Nat.lt_trichotomy n a with q | q | q
    · rw [if_neg (show ¬ n = a by omega), if_neg (show ¬ a < n by omega), if_neg (show ¬ a < n + 1 by omega)]; omega
    · rw [if_pos q, if_neg (show ¬ a < n by omega), if_pos (show a < n + 1 by omega)]; omega
    · rw [if_neg (show ¬ n = a by omega), if_pos (show a < n by omega), if_pos (show a < n + 1 by omega)]; omega
theorem cf_part (r a : List Int) (d a0 : Int) (k : Nat) : ((((vecs r).map fun v => d :: v).filter fun v => farM v (a0 :: a) == (k : Int)).length : Int) =
    if d = a0 then (((vecs r).filter fun v => farM v a == (k : Int)).length : Int) else dn (fun k => (((vecs r).filter fun v => farM v a == (k : Int)).length : Int)) k := by
  rw [List.filter_map, List.length_map]
  split
  · rename_i e
    congr 2
    apply List.filter_congr
    intro v _
    simp only [Function.comp, farM, if_pos e, Int.zero_add]
  · rename_i e
    unfold dn
    split
    · rename_i hk
      subst hk
      rw [List.filter_eq_nil_iff.2]
      · rfl
      · intro v _
        have := (farM_bnd v a).1
        simp only [Function.comp, farM, if_neg e, beq_iff_eq]; omega
    · rename_i hk
      congr 2
      apply List.filter_congr
      intro v _
      simp only [Function.comp, farM, if_neg e]
      rw [Bool.eq_iff_iff, beq_iff_eq, beq_iff_eq]; omega
theorem cf_ok : ∀ {l a : List Int}, szs l → a.length = l.length → (∀ i, i < l.length → 0 ≤ a.getD i 0 ∧ a.getD i 0 < l.getD i 0) → ∀ k : Nat, (((vecs l).filter fun v => farM v a == (k : Int)).length : Int) = cf l k
  | [], a, _, hl, _, k => by
    have : a = [] := List.eq_nil_of_length_eq_zero hl
    subst this
    rw [vecs, cf]
    by_cases hk : k = 0
    · subst hk; simp [farM]
    · rw [if_neg hk, List.filter_eq_nil_iff.2]
      · rfl
      · intro v hv
        simp at hv; subst hv
        simp [farM]; omega
  | q :: r, [], _, hl, _, k => by simp at hl
  | q :: r, a0 :: a, h, hl, hb, k => by
    have hq := h 0 (by simp)
    simp at hq
    have h0 := hb 0 (by simp)
    simp at h0
    have ih := fun k => cf_ok (l := r) (a := a) (szs_tail h) (by simpa using hl) (fun i hi => by simpa using hb (i + 1) (by simpa using hi)) k
    rw [vecs, List.filter_flatMap, flat_cnt q.toNat a0.toNat (cf r k) (dn (cf r) k), if_pos (by omega), cf, mulB]
    · rw [show ((q.toNat : Nat) : Int) = (q - 1) + 1 by omega, Int.add_mul]; omega
    · intro d hd
      rw [cf_part]
      have e2 : dn (fun k => (((vecs r).filter fun v => farM v a == (k : Int)).length : Int)) k = dn (cf r) k := by
        congr 1; funext k; exact ih k
      rw [e2, ih]
      by_cases e : d = a0.toNat
      · rw [if_pos e, if_pos (by omega)]
      · rw [if_neg e, if_neg (by omega)]
def sumN (f : Nat → Int) : Nat → Int
  | 0 => 0
  | n + 1 => sumN f n + f n
def bzM (l : List Int) (r : Int) : Int := sumN (cf l) (r.toNat + 1)
theorem cnt_le {α : Type} (L : List α) (f : α → Int) (h : ∀ x, x ∈ L → 0 ≤ f x) : ∀ n : Nat, ((L.filter fun x => decide (f x < n)).length : Int) = sumN (fun k => ((L.filter fun x => f x == (k : Int)).length : Int)) n
  | 0 => by
    rw [List.filter_eq_nil_iff.2]
    · rfl
    · intro x hx
      have := h x hx
      simp only [decide_eq_true_eq]; omega
  | n + 1 => by
    rw [sumN, ← cnt_le L f h n]
    clear h
    induction L with
    | nil => rfl
    | cons x L ih =>
      rw [List.filter_cons, List.filter_cons, List.filter_cons]
      rcases Int.lt_trichotomy (f x) n with q | q | q
      · rw [if_pos (decide_eq_true (by omega)), if_pos (decide_eq_true q), if_neg (by rw [beq_iff_eq]; omega)]
        simp only [List.length_cons]; omega
      · rw [if_pos (decide_eq_true (by omega)), if_neg (by rw [decide_eq_true_eq]; omega), if_pos (by rw [beq_iff_eq]; exact q)]
        simp only [List.length_cons]; omega
      · rw [if_neg (by rw [decide_eq_true_eq]; omega), if_neg (by rw [decide_eq_true_eq]; omega), if_neg (by rw [beq_iff_eq]; omega)]
        exact ih
theorem dig_in {l : List Int} (h : szs l) (w : Int) : ∀ i, i < l.length → 0 ≤ (digM l w).getD i 0 ∧ (digM l w).getD i 0 < l.getD i 0 := fun i hi =>
  ⟨(digM_bnd w h i).1, (dig_lt h w hi).2⟩
theorem ball_len {l : List Int} (hs : isSpaceM l = true) (w : Int) {r : Int} (hr : 0 ≤ r) : ((ballM l w r).length : Int) = bzM l r := by
  have hz := isSpaceM_szs hs
  have h1 : (ballM l w r).length = ((vecs l).filter fun v => decide (farM v (digM l w) < ((r.toNat + 1 : Nat) : Int))).length := by
    rw [← vecs_ok hz, List.filter_map, List.length_map, ballM]
    congr 1
    apply List.filter_congr
    intro u _
    simp only [Function.comp, distM]
    congr 1
    apply propext
    constructor <;> intro h <;> omega
  rw [h1, cnt_le _ _ (fun v _ => (farM_bnd v _).1), bzM]
  congr 1
  funext k
  exact cf_ok hz (digM_len l w) (dig_in hz w) k
def rowS (l : List Int) (i k : Nat) : List Int := (List.range (l.length + 1)).map fun j => if k < j then cf (l.take (i + 1)) j else cf (l.take i) j
@[go_sem] theorem rowS_len (l : List Int) (i k : Nat) : (rowS l i k).length = l.length + 1 := by simp [rowS]
def cvL (l X : List Int) : List Bool := (allW l).map fun u => decide (u ∈ X)
@[go_sem] theorem cvL_len (l X : List Int) : (cvL l X).length = (prodM l).toNat := by simp [cvL, allW_len]
def muX (l X : List Int) : Nat := ((allW l).filter fun u => !decide (u ∈ X)).length
theorem distM_self (l : List Int) (w : Int) : distM l w w = 0 := by
  have key : ∀ a : List Int, farM a a = 0 := by
    intro a
    induction a with
    | nil => rfl
    | cons x a ih => rw [farM, if_pos rfl, ih]; rfl
  exact key _
theorem ball_self {l : List Int} {w r : Int} (hw : 0 ≤ w ∧ w < prodM l) (hr : 0 ≤ r) : w ∈ ballM l w r := by
  rw [ballM_mem, distM_self]; omega
def nearM (l : List Int) (r : Int) : List (List Int) := (allW l).map fun w => ballM l w r
@[go_sem] theorem nearM_len (l : List Int) (r : Int) : (nearM l r).length = (prodM l).toNat := by simp [nearM, allW_len]
theorem bz_pos {l : List Int} (hs : isSpaceM l = true) {r : Int} (hr : 0 ≤ r) : 1 ≤ bzM l r ∧ bzM l r ≤ prodM l := by
  have hp1 := prodM_pos (isSpaceM_szs hs)
  rw [← ball_len hs 0 hr]
  constructor
  · have := ball_self (l := l) (w := 0) (r := r) ⟨Int.le_refl _, by omega⟩ hr
    have := List.length_pos_of_mem this
    omega
  · have : (ballM l 0 r).length ≤ (prodM l).toNat := by unfold ballM; exact filter_len_le _ _ _ (by rw [allW_len]; exact Nat.le_refl _)
    omega
structure Pck (l : List Int) (r : Int) (X c : List Int) : Prop where
  nd : X.Nodup
  inX : inC l X
  len : (X.length : Int) = c.length * bzM l r
  sub : ∀ w, w ∈ c → w ∈ X
  cnd : c.Nodup
theorem Pck.nil (l : List Int) (r : Int) : Pck l r [] [] := ⟨List.nodup_nil, fun u hu => (by cases hu), by simp, fun u hu => hu, List.nodup_nil⟩
theorem muX_add {l X : List Int} {W : List Int} (hW : inC l W) (hn : W.Nodup) (hd : ∀ u, u ∈ W → u ∉ X) : muX l (X ++ W) + W.length = muX l X := by
  have key : ∀ (A : List Int), A.Nodup → (A.filter fun u => !decide (u ∈ X ++ W)).length + (A.filter fun u => decide (u ∈ W)).length = (A.filter fun u => !decide (u ∈ X)).length := by
    intro A _
    induction A with
    | nil => rfl
    | cons x A ih =>
      have ih := ih (by rename_i h; exact (List.nodup_cons.1 h).2)
      rw [List.filter_cons, List.filter_cons, List.filter_cons]
      by_cases h1 : x ∈ X
      · have h2 : x ∉ W := fun hw => hd x hw h1
        simp [h1, h2] at ih ⊢; exact ih
      · by_cases h2 : x ∈ W
        · simp [h1, h2] at ih ⊢; omega
        · simp [h1, h2] at ih ⊢; omega
  have h1 := key (allW l) (allW_nodup l)
  have h2 : ((allW l).filter fun u => decide (u ∈ W)).length = W.length := by
    apply List.Perm.length_eq
    apply (List.perm_ext_iff_of_nodup ((allW_nodup l).filter _) hn).2
    intro u
    rw [List.mem_filter, allW_mem, decide_eq_true_eq]
    exact ⟨fun h => h.2, fun h => ⟨by have := hW u h; omega, h⟩⟩
  unfold muX; omega
theorem Pck.mu {l X c : List Int} {r : Int} (h : Pck l r X c) : muX l X + X.length = (prodM l).toNat := by
  have := muX_add (l := l) (X := []) h.inX h.nd (fun u _ hu => by cases hu)
  rw [List.nil_append] at this
  rw [this]
  unfold muX
  rw [List.filter_eq_self.2 (fun u _ => by simp), allW_len]
theorem Pck.cl {l X c : List Int} {r : Int} (hs : isSpaceM l = true) (hr : 0 ≤ r) (h : Pck l r X c) : c.length + muX l X < 1048576 := by
  have hpr := isSpaceM_prod hs
  have hbz := bz_pos hs hr
  have h1 := h.mu
  have h2 := h.len
  have h3 : (c.length : Int) * 1 ≤ c.length * bzM l r := Int.mul_le_mul_of_nonneg_left (by omega) (by omega)
  omega
def mkL : List Bool → Nat
  | [] => 0
  | b :: r => (if b = true then 1 else 0) + 2 * mkL r
abbrev wsN (l X : List Int) : Nat := mkL (cvL l X)
def duN (n : Nat) : D := .v (.int .u64 n)
@[go_sem] theorem flat_du (l : List Nat) : flat (l.map duN) = l.map duN := flat_one _ l
@[go_sem] theorem getU {l : List Nat} {j : Nat} (h : j < l.length) : (l.map duN)[j]? = some (duN (l.getD j 0)) := by simp [h]
@[go_sem] theorem app_du1 (l : List Nat) (v : Nat) : l.map duN ++ [D.v (.int .u64 (v : Int))] = (l ++ [v]).map duN := by rw [List.map_append]; rfl
@[go_sem] theorem take_du (l : List Nat) (n : Nat) : (l.map duN).take n = (l.take n).map duN := by rw [List.map_take]
@[go_sem] theorem duN_v (n : Nat) : duN n = .v (.int .u64 n) := rfl
@[go_sem] theorem lf_own_du (z : Nat) (l : List Nat) : lfR (.own z (l.map duN)) = true := by simp [lfR, lfD, duN]
@[go_sem] theorem all_lf_du (l : List Nat) : (l.map duN).all lfD = true := by simp [lfD, duN]
def nearB (l : List Int) (r : Int) : List Nat := (allW l).map fun w => wsN l (ballM l w r)
@[go_sem] theorem nearB_len (l : List Int) (r : Int) : (nearB l r).length = (prodM l).toNat := by simp [nearB, allW_len]
def tmX (l X : List Int) : List Int := (allW l).map fun u => (X.count u : Int)
@[go_sem] theorem tmX_len (l X : List Int) : (tmX l X).length = (prodM l).toNat := by simp [tmX, allW_len]
theorem asc_code {l c : List Int} (ha : Asc c) (hc : inC l c) : isCodeM l c = true := by
  rw [isCodeM_ok]
  exact ⟨fun j hj => hc _ (mem_getD hj), fun j hj => asc_lt ha (by omega) hj⟩
theorem grp_lin {l c : List Int} (hs : isSpaceM l = true) (hp : plainM l = true) (g : Grp l c) : isCodeM l c = true ∧ linB l c = true := by
  have hcc := asc_code g.asc g.inc
  refine ⟨hcc, ?_⟩
  unfold linB
  rw [hp, Bool.true_and, Bool.and_eq_true]
  refine ⟨(zero_in hs hcc).2 ?_, ?_⟩
  · obtain ⟨k, hk, e⟩ := List.mem_iff_getElem.1 g.zer
    have e' : c.getD k 0 = 0 := by simp [hk, e]
    have := isCodeM_ge hcc k hk
    have hk0 : k = 0 := by omega
    subst hk0
    exact ⟨by omega, e'⟩
  · rw [closB_ok]
    intro i hi k hk
    have hb := g.clo _ _ (mem_getD hi) (mem_getD (show k < c.length by omega))
    have hbb := g.inc _ hb
    rw [setN_get (prodM l).toNat c (fun j hj => (isCodeM_get hcc hj).1) (by omega) c.length (Nat.le_refl _)]
    obtain ⟨m, hm, e⟩ := List.mem_iff_getElem.1 hb
    refine ⟨m, hm, ?_⟩
    rw [Int.toNat_of_nonneg hbb.1, ← e]; simp [hm]
theorem orB_ok {l c : List Int} {w : Int} : orB l c w = true ↔ ∀ u, u ∈ c → sN (digM l u) (digM l w) l.length % l.getD 0 0 = 0 := by
  simp only [orB, List.all_eq_true, beq_iff_eq]
theorem duM_mem {l c : List Int} (hs : isSpaceM l = true) {w : Int} : w ∈ duM l c ↔ (0 ≤ w ∧ w < prodM l) ∧ ∀ u, u ∈ c → sN (digM l u) (digM l w) l.length % l.getD 0 0 = 0 := by
  rw [duM, List.mem_filter, allW_mem' hs, orB_ok]
theorem orth_lin {l : List Int} (hs : isSpaceM l = true) (hp : plainM l = true) (u v : Int) (m : Nat) (d : List Int) (hu : sN (digM l u) d l.length % l.getD 0 0 = 0) (hv : sN (digM l v) d l.length % l.getD 0 0 = 0) : sN (digM l (addW l u v m)) d l.length % l.getD 0 0 = 0 := by
  rw [sN_lin (isSpaceM_szs hs) (l.getD 0 0) (fun i hi => (q23 hs hp hi).1) u v m d l.length (Nat.le_refl _)]
  rw [← Int.dvd_iff_emod_eq_zero] at hu hv ⊢
  exact Int.dvd_add hu (Int.dvd_mul_of_dvd_right hv)
theorem orth_zero {l : List Int} (d : List Int) : sN (digM l 0) d l.length % l.getD 0 0 = 0 := by
  rw [sN_zero _ fun i hi => by rw [digM_zero]; simp [hi], Int.zero_emod]
theorem duM_grp {l : List Int} (hs : isSpaceM l = true) (hp : plainM l = true) (c : List Int) : Grp l (duM l c) := by
  have hp1 := prodM_pos (isSpaceM_szs hs)
  refine ⟨(allW_asc l).filter _, fun u hu => ((duM_mem hs).1 hu).1, (duM_mem hs).2 ⟨by omega, fun u _ => ?_⟩, fun u v hu hv => ?_⟩
  · rw [sN_comm]; exact orth_zero _
  · rw [duM_mem hs] at hu hv ⊢
    refine ⟨sumW_bnd hs _ _, fun x hx => ?_⟩
    rw [sN_comm]
    exact orth_lin hs hp u v 1 _ (by rw [sN_comm]; exact hu.2 x hx) (by rw [sN_comm]; exact hv.2 x hx)
theorem pol_far (q : Int) (c : List Int) {k : Nat} (h : c.length < k) : pol q c k = 0 := by
  rw [pol_row]; exact rowN_zero q _ _ _ h
theorem sum_dn (f : Nat → Int) : ∀ N, sumTo (fun k => dn f k) (N + 1) = sumTo f N
  | 0 => by simp [sumTo, dn]
  | N + 1 => by
    rw [sumTo, sum_dn f N]
    show _ = sumTo f N + f N
    congr 1
theorem sum_mulc (b : Int) (f : Nat → Int) : ∀ N, sumTo (fun k => b * f k) N = b * sumTo f N
  | 0 => by simp [sumTo]
  | N + 1 => by rw [sumTo, sum_mulc b f N, sumTo, Int.mul_add]
theorem pol_sum (q : Int) : ∀ c : List Int, sumTo (pol q c) (c.length + 1) = if wtN c = 0 then q ^ c.length else 0
  | [] => by simp [sumTo, pol, wtN]
  | a :: c => by
    have h2 : sumTo (pol q c) (c.length + 1 + 1) = sumTo (pol q c) (c.length + 1) := by
      rw [sumTo, pol_far q c (by omega), Int.add_zero]
    have h3 := sum_dn (pol q c) (c.length + 1)
    have h : sumTo (pol q (a :: c)) (c.length + 1 + 1) = (1 + (if a = 0 then q - 1 else -1)) * sumTo (pol q c) (c.length + 1) := by
      rw [show pol q (a :: c) = fun k => pol q c k + (if a = 0 then q - 1 else -1) * dn (pol q c) k from rfl]
      rw [sumTo_add, sum_mulc, h3, h2, Int.add_mul, Int.one_mul]
    rw [List.length_cons, h, pol_sum q c]
    by_cases ha : a = 0
    · subst ha
      have e : wtN (0 :: c) = wtN c := by simp [wtN]
      rw [e, if_pos rfl, show 1 + (q - 1) = q by omega]
      split
      · rw [Int.pow_succ, Int.mul_comm]
      · rw [Int.mul_zero]
    · have e : wtN (a :: c) ≠ 0 := by simp [wtN, ha]
      rw [if_neg ha, if_neg e, show (1 : Int) + -1 = 0 by omega, Int.zero_mul]
theorem sum_swap (f : Int → Nat → Int) (N : Nat) : ∀ c : List Int, sumTo (fun k => (c.map fun u => f u k).sum) N = (c.map fun u => sumTo (f u) N).sum
  | [] => by
    have h0 : ∀ N, sumTo (fun _ => (0 : Int)) N = 0 := fun N => by
      induction N with
      | zero => rfl
      | succ N ih => rw [sumTo, ih]; rfl
    exact h0 N
  | u :: c => by
    rw [List.map_cons, List.sum_cons, ← sum_swap f N c, ← sumTo_add]
    rfl
theorem wtN_zero : ∀ c : List Int, wtN c = 0 → ∀ i, c.getD i 0 = 0
  | [], _, i => by simp
  | a :: c, h, i => by
    rw [wtN] at h
    split at h
    · rename_i ha
      subst ha
      cases i with
      | zero => rfl
      | succ i => simpa using wtN_zero c (by omega) i
    · omega
theorem zero_wtN : ∀ n : Nat, wtN (List.replicate n 0) = 0
  | 0 => rfl
  | n + 1 => by rw [List.replicate_succ, wtN, if_pos rfl, zero_wtN n]
theorem sum_one0 (X : Int) : ∀ {c : List Int}, c.Nodup → (c.map fun u => if u = 0 then X else 0).sum = if (0 : Int) ∈ c then X else 0
  | [], _ => by simp
  | a :: c, h => by
    rw [List.map_cons, List.sum_cons, sum_one0 X (List.nodup_cons.1 h).2]
    have h1 := (List.nodup_cons.1 h).1
    by_cases ha : a = 0
    · subst ha
      rw [if_pos rfl, if_neg h1, if_pos List.mem_cons_self]; omega
    · rw [if_neg ha]
      have e : (0 : Int) ∈ a :: c ↔ (0 : Int) ∈ c := by
        rw [List.mem_cons]; constructor
        · rintro (h | h)
          · exact absurd h.symm ha
          · exact h
        · exact .inr
      simp only [e]; omega
theorem prodM_pow (q : Int) : ∀ l : List Int, (∀ x, x ∈ l → x = q) → prodM l = q ^ l.length
  | [], _ => by rw [prodM_nil, List.length_nil, Int.pow_zero]
  | a :: l, h => by
    rw [prodM_cons, prodM_pow q l fun x hx => h x (List.mem_cons_of_mem _ hx), h a List.mem_cons_self, List.length_cons, Int.pow_succ, Int.mul_comm]
theorem plain_prod {l : List Int} (hs : isSpaceM l = true) (hp : plainM l = true) : prodM l = l.getD 0 0 ^ l.length := prodM_pow _ l fun x hx => by
  obtain ⟨i, hi, rfl⟩ := List.mem_iff_getElem.1 hx
  have := (q23 hs hp hi).1
  simpa [hi] using this
theorem du_sum (l c : List Int) : sumTo (fun k => (duW l c k : Int)) (l.length + 1) = (duM l c).length := by
  have h := sumTo_cnt (fun _ => 1) (l.length + 1) ((duM l c).map fun w => wtN (digM l w)) fun d hd => by
    obtain ⟨w, _, rfl⟩ := List.mem_map.1 hd
    have := wtN_le (digM l w)
    rw [digM_len] at this
    omega
  have e : ∀ L : List Nat, (L.map fun _ => (1 : Int)).sum = L.length := fun L => by
    induction L with
    | nil => rfl
    | cons a L ih => rw [List.map_cons, List.sum_cons, ih, List.length_cons]; omega
  rw [e, List.length_map] at h
  rw [← h]
  refine sumTo_congr _ fun k _ => ?_
  rw [List.filter_map, List.length_map, Int.mul_one]
  rfl
theorem dual_size {l c : List Int} (hs : isSpaceM l = true) (hcc : isCodeM l c = true) (hl : linB l c = true) : (c.length : Int) * (duM l c).length = prodM l := by
  have g := lin_grp hs hcc hl
  have hp := lin_plain hl
  have hz := isSpaceM_szs hs
  rw [← du_sum, ← sum_mulc]
  rw [← sumTo_congr (f := fun k => (c.map fun u => pol (l.getD 0 0) (digM l u) k).sum) _ fun k _ => mac hs hcc hl k]
  rw [sum_swap (fun u k => pol (l.getD 0 0) (digM l u) k)]
  have e : (c.map fun u => sumTo (pol (l.getD 0 0) (digM l u)) (l.length + 1)) = c.map fun u => if u = 0 then prodM l else 0 := by
    refine List.map_congr_left fun u hu => ?_
    have h := pol_sum (l.getD 0 0) (digM l u)
    rw [digM_len] at h
    rw [h, ← plain_prod hs hp]
    by_cases hu0 : u = 0
    · subst hu0
      rw [if_pos rfl, if_pos (by rw [digM_zero]; exact zero_wtN _)]
    · rw [if_neg hu0, if_neg]
      intro hw
      refine hu0 (word_eq hz (g.inc u hu) (g.inc 0 g.zer) fun i hi => ?_)
      rw [wtN_zero _ hw i, digM_zero]; simp [hi]
  rw [show (c.map fun u => sumTo ((fun u k => pol (l.getD 0 0) (digM l u) k) u) (l.length + 1)) = _ from e, sum_one0 _ (code_nd hcc), if_pos g.zer]
theorem sub_full {A B : List Int} (hA : A.Nodup) (hAB : ∀ x, x ∈ A → x ∈ B) (h : B.length ≤ A.length) {x : Int} (hx : x ∈ B) : x ∈ A := by
  refine Classical.byContradiction fun hn => ?_
  have h1 := inj_len (A := x :: A) (B := B) (List.nodup_cons.2 ⟨hn, hA⟩) id (fun y hy => by
    rcases List.mem_cons.1 hy with rfl | hy
    · exact hx
    · exact hAB y hy) (fun _ _ _ _ e => e)
  rw [List.length_cons] at h1
  omega
theorem dual_dual {l c : List Int} (hs : isSpaceM l = true) (hcc : isCodeM l c = true) (hl : linB l c = true) : duM l (duM l c) = c := by
  have hp := lin_plain hl
  have g := lin_grp hs hcc hl
  have gd := duM_grp hs hp c
  have gdd := duM_grp hs hp (duM l c)
  obtain ⟨hdc, hdl⟩ := grp_lin hs hp gd
  have h1 := dual_size hs hcc hl
  have h2 := dual_size hs hdc hdl
  have hpos : 0 < (duM l c).length := List.length_pos_of_mem gd.zer
  have hlen : (duM l (duM l c)).length = c.length := by
    have : ((duM l c).length : Int) * (duM l (duM l c)).length = (duM l c).length * c.length := by rw [h2, ← h1, Int.mul_comm]
    have := Int.eq_of_mul_eq_mul_left (by omega) this
    omega
  have hsub : ∀ x, x ∈ c → x ∈ duM l (duM l c) := fun x hx => (duM_mem hs).2 ⟨g.inc x hx, fun u hu => by rw [sN_comm]; exact ((duM_mem hs).1 hu).2 x hx⟩
  exact asc_ext gdd.asc g.asc fun x => ⟨fun hx => sub_full (code_nd hcc) hsub (by omega) hx, hsub x⟩
theorem spS_sub {l c : List Int} (hs : isSpaceM l = true) (hc : inC l c) (w : Int) {u : Int} (hu : u ∈ c) : u ∈ spS l c w := by
  unfold spS; split
  · exact hu
  · rw [setI_mem, ccN_mem hs hc]
    exact ⟨0, Nat.zero_le _, u, hu, sumW_zero hs (hc u hu)⟩
theorem mulW_one {l : List Int} (hs : isSpaceM l = true) {w : Int} (hw : 0 ≤ w ∧ w < prodM l) : mulW l w 1 = w := by
  show sumW l 0 w = w
  rw [sumW_comm]; exact sumW_zero hs hw
theorem spS_self {l c : List Int} (hs : isSpaceM l = true) (hp : plainM l = true) (g : Grp l c) {w : Int} (hw : 0 ≤ w ∧ w < prodM l) : w ∈ spS l c w := by
  have hn := isSpaceM_n hs
  have hq := (q23 hs hp (k := 0) (by omega)).2
  unfold spS; split
  · assumption
  · rw [setI_mem, ccN_mem hs g.inc]
    refine ⟨1, by omega, 0, g.zer, ?_⟩
    rw [mulW_one hs hw, sumW_comm]; exact sumW_zero hs hw
theorem spS_orth {l c : List Int} (hs : isSpaceM l = true) (hp : plainM l = true) (hc : inC l c) {w : Int} (d : List Int) (h : ∀ u, u ∈ c → sN (digM l u) d l.length % l.getD 0 0 = 0) (hw : sN (digM l w) d l.length % l.getD 0 0 = 0) : ∀ u, u ∈ spS l c w → sN (digM l u) d l.length % l.getD 0 0 = 0 := by
  unfold spS; split
  · exact h
  · intro u hu
    rw [setI_mem, ccN_mem hs hc] at hu
    obtain ⟨i, _, a, ha, rfl⟩ := hu
    exact orth_lin hs hp a _ 1 d (h a ha) (orth_lin hs hp 0 w i d (orth_zero d) hw)
theorem spN_has {l ws : List Int} (hs : isSpaceM l = true) (hp : plainM l = true) (hw : inC l ws) : ∀ j, j ≤ ws.length → ∀ i, i < j → ws.getD i 0 ∈ spN l ws j
  | 0, _, i, hi => by omega
  | j + 1, hj, i, hi => by
    have g := spN_grp hs hp hw j (by omega)
    by_cases h : i = j
    · subst h; exact spS_self hs hp g (hw _ (mem_getD (by omega)))
    · exact spS_sub hs g.inc _ (spN_has hs hp hw j (by omega) i (by omega))
theorem spN_orth {l ws : List Int} (hs : isSpaceM l = true) (hp : plainM l = true) (hw : inC l ws) (d : List Int) (h : ∀ u, u ∈ ws → sN (digM l u) d l.length % l.getD 0 0 = 0) : ∀ j, j ≤ ws.length → ∀ u, u ∈ spN l ws j → sN (digM l u) d l.length % l.getD 0 0 = 0
  | 0, _, u, hu => by
    simp only [spN, List.mem_singleton] at hu; subst hu; exact orth_zero d
  | j + 1, hj, u, hu => spS_orth hs hp (spN_grp hs hp hw j (by omega)).inc d (spN_orth hs hp hw d h j (by omega)) (h _ (mem_getD (by omega))) u hu
theorem span_dual {l ws : List Int} (hs : isSpaceM l = true) (hp : plainM l = true) (hw : inC l ws) : duM l (spN l ws ws.length) = duM l ws := by
  refine List.filter_congr fun w _ => ?_
  rw [Bool.eq_iff_iff, orB_ok, orB_ok]
  constructor
  · intro h u hu
    obtain ⟨i, hi, e⟩ := List.mem_iff_getElem.1 hu
    have e' : ws.getD i 0 = u := by simp [hi, e]
    rw [← e']
    exact h _ (spN_has hs hp hw ws.length (Nat.le_refl _) i hi)
  · intro h; exact spN_orth hs hp hw _ h ws.length (Nat.le_refl _)
theorem span_basis {l c : List Int} (hs : isSpaceM l = true) (hcc : isCodeM l c = true) (hl : linB l c = true) (hb : inC l (bsM l c)) : spN l (bsM l c) (bsM l c).length = c := by
  have hp := lin_plain hl
  have g := spN_grp hs hp hb (bsM l c).length (Nat.le_refl _)
  obtain ⟨h1, h2⟩ := grp_lin hs hp g
  rw [← dual_dual hs h1 h2, span_dual hs hp hb, ← dual_dual hs hcc hl]
  congr 1
  rw [dual_dual hs hcc hl]
  exact List.filter_congr fun w _ => orB_bs hs hcc hl w
theorem ex_spanOf {cd : D} {l : List Int} (H : SrcH cd l) : ∃ (X : D) (o c : List Int), drL X o ∧ c.length < 1048577 ∧ Den PA f_spec_DrawSpanOf [.d cd] [.any] (.tup [.d (.agg [X]), .own 1 (c.map di)]) := by
  obtain ⟨s0, hs0, d0⟩ := ex_from H
  obtain ⟨x, s1, hs1, hx, d1⟩ := ex_space H hs0
  have hd1 := d1.le .frzA
  have hn := isSpaceM_n hx
  have hq := isSpaceM_q hx
  have hp1 := prodM_pos (isSpaceM_szs hx)
  have hp := isSpaceM_prod hx
  have hN := d_spec_l01N x (by omega) hq
  obtain ⟨ws, s2, hs2, hw4, hwx, d2⟩ := ex_wsome H hs1 hx
  obtain ⟨v, s3, hs3, v1, v2, d3⟩ := ex_nxt H hs2 (q := 16) (by omega)
  by_cases hv : v = 0
  · subst hv
    obtain ⟨u, s4, hs4, hu, d4⟩ := ex_pik H hs3 [-1, prodM x] (by simp) (by simp)
    obtain ⟨X, o, s5, hs5, hX, d5⟩ := ex_bad H hs4 hx
    refine ⟨X, o, ws ++ [u], hX, by simp; omega, den_go [] l_spec_DrawSpanOf ?_⟩
    repeat' (first | simp -implicitDefEqProofs (maxSteps := 1000000) (disch := (first | omega | (simp only [go_sem] <;> omega) | fail)) only [go_sem, ints, bools, mat, c_spec_DrawSpanOf, srcR] | ((first | apply goIf_b | apply goG_b | apply goTG_b | apply goOG_b) <;> intro h <;> ((try simp only [hnq] at h); (try simp only [h]); (try simp only [hnr] at h)) <;> (try (exfalso; omega))))
    have yc := d0; first | refine goC_call [.r] yc ?_ | refine goOC_call [.r] yc ?_
    repeat' (first | simp -implicitDefEqProofs (maxSteps := 1000000) (disch := (first | omega | (simp only [go_sem] <;> omega) | fail)) only [go_sem, ints, bools, mat] | ((first | apply goIf_b | apply goG_b | apply goTG_b | apply goOG_b) <;> intro h <;> ((try simp only [hnq] at h); (try simp only [h]); (try simp only [hnr] at h)) <;> (try (exfalso; omega))))
    have yc := hd1; first | refine goC_call [.bm] yc ?_ | refine goOC_call [.bm] yc ?_
    repeat' (first | simp -implicitDefEqProofs (maxSteps := 1000000) (disch := (first | omega | (simp only [go_sem] <;> omega) | fail)) only [go_sem, ints, bools, mat] | ((first | apply goIf_b | apply goG_b | apply goTG_b | apply goOG_b) <;> intro h <;> ((try simp only [hnq] at h); (try simp only [h]); (try simp only [hnr] at h)) <;> (try (exfalso; omega))))
    have yc := d2; first | refine goC_call [.bm, .r] yc ?_ | refine goOC_call [.bm, .r] yc ?_
    repeat' (first | simp -implicitDefEqProofs (maxSteps := 1000000) (disch := (first | omega | (simp only [go_sem] <;> omega) | fail)) only [go_sem, ints, bools, mat] | ((first | apply goIf_b | apply goG_b | apply goTG_b | apply goOG_b) <;> intro h <;> ((try simp only [hnq] at h); (try simp only [h]); (try simp only [hnr] at h)) <;> (try (exfalso; omega))))
    have yc := d3; first | refine goC_call [.bm, .r] yc ?_ | refine goOC_call [.bm, .r] yc ?_
    repeat' (first | simp -implicitDefEqProofs (maxSteps := 1000000) (disch := (first | omega | (simp only [go_sem] <;> omega) | fail)) only [go_sem, ints, bools, mat] | ((first | apply goIf_b | apply goG_b | apply goTG_b | apply goOG_b) <;> intro h <;> ((try simp only [hnq] at h); (try simp only [h]); (try simp only [hnr] at h)) <;> (try (exfalso; omega))))
    have yc := hN; first | refine goC_call [.r] yc ?_ | refine goOC_call [.r] yc ?_
    repeat' (first | simp -implicitDefEqProofs (maxSteps := 1000000) (disch := (first | omega | (simp only [go_sem] <;> omega) | fail)) only [go_sem, ints, bools, mat] | ((first | apply goIf_b | apply goG_b | apply goTG_b | apply goOG_b) <;> intro h <;> ((try simp only [hnq] at h); (try simp only [h]); (try simp only [hnr] at h)) <;> (try (exfalso; omega))))
    have yc := d4; first | refine goC_call [.bm, .f] yc ?_ | refine goOC_call [.bm, .f] yc ?_
    repeat' (first | simp -implicitDefEqProofs (maxSteps := 1000000) (disch := (first | omega | (simp only [go_sem] <;> omega) | fail)) only [go_sem, ints, bools, mat] | ((first | apply goIf_b | apply goG_b | apply goTG_b | apply goOG_b) <;> intro h <;> ((try simp only [hnq] at h); (try simp only [h]); (try simp only [hnr] at h)) <;> (try (exfalso; omega))))
    have yc := d5; first | refine goC_call [.bm, .r] yc ?_ | refine goOC_call [.bm, .r] yc ?_
    exact go_e0
  · skip
    obtain ⟨X, o, s5, hs5, hX, d5⟩ := ex_bad H hs3 hx
    refine ⟨X, o, ws, hX, by omega, den_go [] l_spec_DrawSpanOf ?_⟩
    repeat' (first | simp -implicitDefEqProofs (maxSteps := 1000000) (disch := (first | omega | (simp only [go_sem] <;> omega) | fail)) only [go_sem, ints, bools, mat, c_spec_DrawSpanOf, srcR] | ((first | apply goIf_b | apply goG_b | apply goTG_b | apply goOG_b) <;> intro h <;> ((try simp only [hnq] at h); (try simp only [h]); (try simp only [hnr] at h)) <;> (try (exfalso; omega))))
    have yc := d0; first | refine goC_call [.r] yc ?_ | refine goOC_call [.r] yc ?_
    repeat' (first | simp -implicitDefEqProofs (maxSteps := 1000000) (disch := (first | omega | (simp only [go_sem] <;> omega) | fail)) only [go_sem, ints, bools, mat] | ((first | apply goIf_b | apply goG_b | apply goTG_b | apply goOG_b) <;> intro h <;> ((try simp only [hnq] at h); (try simp only [h]); (try simp only [hnr] at h)) <;> (try (exfalso; omega))))
    have yc := hd1; first | refine goC_call [.bm] yc ?_ | refine goOC_call [.bm] yc ?_
    repeat' (first | simp -implicitDefEqProofs (maxSteps := 1000000) (disch := (first | omega | (simp only [go_sem] <;> omega) | fail)) only [go_sem, ints, bools, mat] | ((first | apply goIf_b | apply goG_b | apply goTG_b | apply goOG_b) <;> intro h <;> ((try simp only [hnq] at h); (try simp only [h]); (try simp only [hnr] at h)) <;> (try (exfalso; omega))))
    have yc := d2; first | refine goC_call [.bm, .r] yc ?_ | refine goOC_call [.bm, .r] yc ?_
    repeat' (first | simp -implicitDefEqProofs (maxSteps := 1000000) (disch := (first | omega | (simp only [go_sem] <;> omega) | fail)) only [go_sem, ints, bools, mat] | ((first | apply goIf_b | apply goG_b | apply goTG_b | apply goOG_b) <;> intro h <;> ((try simp only [hnq] at h); (try simp only [h]); (try simp only [hnr] at h)) <;> (try (exfalso; omega))))
    have yc := d3; first | refine goC_call [.bm, .r] yc ?_ | refine goOC_call [.bm, .r] yc ?_
    repeat' (first | simp -implicitDefEqProofs (maxSteps := 1000000) (disch := (first | omega | (simp only [go_sem] <;> omega) | fail)) only [go_sem, ints, bools, mat] | ((first | apply goIf_b | apply goG_b | apply goTG_b | apply goOG_b) <;> intro h <;> ((try simp only [hnq] at h); (try simp only [h]); (try simp only [hnr] at h)) <;> (try (exfalso; omega))))
    have yc := d5; first | refine goC_call [.bm, .r] yc ?_ | refine goOC_call [.bm, .r] yc ?_
    exact go_e0
theorem ex_synd {cd : D} {l : List Int} (H : SrcH cd l) : ∃ (X : D) (o c : List Int) (w : Int), drL X o ∧ c.length < 1048577 ∧ Den PA f_spec_DrawSyndromeOf [.d cd] [.any] (.tup [.d (.agg [X]), .own 1 (c.map di), .d (di w)]) := by
  obtain ⟨s0, hs0, d0⟩ := ex_from H
  obtain ⟨x, s1, hs1, hx, d1⟩ := ex_space H hs0
  have hd1 := d1.le .frzA
  have hn := isSpaceM_n hx
  have hq := isSpaceM_q hx
  have hp1 := prodM_pos (isSpaceM_szs hx)
  have hp := isSpaceM_prod hx
  have hN := d_spec_l01N x (by omega) hq
  obtain ⟨ws, s2, hs2, hw4, hwx, d2⟩ := ex_wsome H hs1 hx
  obtain ⟨v, s3, hs3, v1, v2, d3⟩ := ex_nxt H hs2 (q := 16) (by omega)
  by_cases hv : v = 0
  · subst hv
    obtain ⟨u, s4, hs4, hu, d4⟩ := ex_pik H hs3 [-1, prodM x] (by simp) (by simp)
    obtain ⟨w, s6, hs6, hw, d6⟩ := ex_near H hs4 (most := prodM x - 1) (by omega) (by omega)
    obtain ⟨X, o, s5, hs5, hX, d5⟩ := ex_bad H hs6 hx
    refine ⟨X, o, ws ++ [u], w, hX, by simp; omega, den_go [] l_spec_DrawSyndromeOf ?_⟩
    repeat' (first | simp -implicitDefEqProofs (maxSteps := 1000000) (disch := (first | omega | (simp only [go_sem] <;> omega) | fail)) only [go_sem, ints, bools, mat, c_spec_DrawSyndromeOf, srcR] | ((first | apply goIf_b | apply goG_b | apply goTG_b | apply goOG_b) <;> intro h <;> ((try simp only [hnq] at h); (try simp only [h]); (try simp only [hnr] at h)) <;> (try (exfalso; omega))))
    have yc := d0; first | refine goC_call [.r] yc ?_ | refine goOC_call [.r] yc ?_
    repeat' (first | simp -implicitDefEqProofs (maxSteps := 1000000) (disch := (first | omega | (simp only [go_sem] <;> omega) | fail)) only [go_sem, ints, bools, mat] | ((first | apply goIf_b | apply goG_b | apply goTG_b | apply goOG_b) <;> intro h <;> ((try simp only [hnq] at h); (try simp only [h]); (try simp only [hnr] at h)) <;> (try (exfalso; omega))))
    have yc := hd1; first | refine goC_call [.bm] yc ?_ | refine goOC_call [.bm] yc ?_
    repeat' (first | simp -implicitDefEqProofs (maxSteps := 1000000) (disch := (first | omega | (simp only [go_sem] <;> omega) | fail)) only [go_sem, ints, bools, mat] | ((first | apply goIf_b | apply goG_b | apply goTG_b | apply goOG_b) <;> intro h <;> ((try simp only [hnq] at h); (try simp only [h]); (try simp only [hnr] at h)) <;> (try (exfalso; omega))))
    have yc := d2; first | refine goC_call [.bm, .r] yc ?_ | refine goOC_call [.bm, .r] yc ?_
    repeat' (first | simp -implicitDefEqProofs (maxSteps := 1000000) (disch := (first | omega | (simp only [go_sem] <;> omega) | fail)) only [go_sem, ints, bools, mat] | ((first | apply goIf_b | apply goG_b | apply goTG_b | apply goOG_b) <;> intro h <;> ((try simp only [hnq] at h); (try simp only [h]); (try simp only [hnr] at h)) <;> (try (exfalso; omega))))
    have yc := d3; first | refine goC_call [.bm, .r] yc ?_ | refine goOC_call [.bm, .r] yc ?_
    repeat' (first | simp -implicitDefEqProofs (maxSteps := 1000000) (disch := (first | omega | (simp only [go_sem] <;> omega) | fail)) only [go_sem, ints, bools, mat] | ((first | apply goIf_b | apply goG_b | apply goTG_b | apply goOG_b) <;> intro h <;> ((try simp only [hnq] at h); (try simp only [h]); (try simp only [hnr] at h)) <;> (try (exfalso; omega))))
    have yc := hN; first | refine goC_call [.r] yc ?_ | refine goOC_call [.r] yc ?_
    repeat' (first | simp -implicitDefEqProofs (maxSteps := 1000000) (disch := (first | omega | (simp only [go_sem] <;> omega) | fail)) only [go_sem, ints, bools, mat] | ((first | apply goIf_b | apply goG_b | apply goTG_b | apply goOG_b) <;> intro h <;> ((try simp only [hnq] at h); (try simp only [h]); (try simp only [hnr] at h)) <;> (try (exfalso; omega))))
    have yc := d4; first | refine goC_call [.bm, .f] yc ?_ | refine goOC_call [.bm, .f] yc ?_
    repeat' (first | simp -implicitDefEqProofs (maxSteps := 1000000) (disch := (first | omega | (simp only [go_sem] <;> omega) | fail)) only [go_sem, ints, bools, mat] | ((first | apply goIf_b | apply goG_b | apply goTG_b | apply goOG_b) <;> intro h <;> ((try simp only [hnq] at h); (try simp only [h]); (try simp only [hnr] at h)) <;> (try (exfalso; omega))))
    have yc := hN; first | refine goC_call [.r] yc ?_ | refine goOC_call [.r] yc ?_
    repeat' (first | simp -implicitDefEqProofs (maxSteps := 1000000) (disch := (first | omega | (simp only [go_sem] <;> omega) | fail)) only [go_sem, ints, bools, mat] | ((first | apply goIf_b | apply goG_b | apply goTG_b | apply goOG_b) <;> intro h <;> ((try simp only [hnq] at h); (try simp only [h]); (try simp only [hnr] at h)) <;> (try (exfalso; omega))))
    have yc := d6; first | refine goC_call [.bm, .r] yc ?_ | refine goOC_call [.bm, .r] yc ?_
    repeat' (first | simp -implicitDefEqProofs (maxSteps := 1000000) (disch := (first | omega | (simp only [go_sem] <;> omega) | fail)) only [go_sem, ints, bools, mat] | ((first | apply goIf_b | apply goG_b | apply goTG_b | apply goOG_b) <;> intro h <;> ((try simp only [hnq] at h); (try simp only [h]); (try simp only [hnr] at h)) <;> (try (exfalso; omega))))
    have yc := d5; first | refine goC_call [.bm, .r] yc ?_ | refine goOC_call [.bm, .r] yc ?_
    exact go_e0
  · skip
    obtain ⟨w, s6, hs6, hw, d6⟩ := ex_near H hs3 (most := prodM x - 1) (by omega) (by omega)
    obtain ⟨X, o, s5, hs5, hX, d5⟩ := ex_bad H hs6 hx
    refine ⟨X, o, ws, w, hX, by omega, den_go [] l_spec_DrawSyndromeOf ?_⟩
    repeat' (first | simp -implicitDefEqProofs (maxSteps := 1000000) (disch := (first | omega | (simp only [go_sem] <;> omega) | fail)) only [go_sem, ints, bools, mat, c_spec_DrawSyndromeOf, srcR] | ((first | apply goIf_b | apply goG_b | apply goTG_b | apply goOG_b) <;> intro h <;> ((try simp only [hnq] at h); (try simp only [h]); (try simp only [hnr] at h)) <;> (try (exfalso; omega))))
    have yc := d0; first | refine goC_call [.r] yc ?_ | refine goOC_call [.r] yc ?_
    repeat' (first | simp -implicitDefEqProofs (maxSteps := 1000000) (disch := (first | omega | (simp only [go_sem] <;> omega) | fail)) only [go_sem, ints, bools, mat] | ((first | apply goIf_b | apply goG_b | apply goTG_b | apply goOG_b) <;> intro h <;> ((try simp only [hnq] at h); (try simp only [h]); (try simp only [hnr] at h)) <;> (try (exfalso; omega))))
    have yc := hd1; first | refine goC_call [.bm] yc ?_ | refine goOC_call [.bm] yc ?_
    repeat' (first | simp -implicitDefEqProofs (maxSteps := 1000000) (disch := (first | omega | (simp only [go_sem] <;> omega) | fail)) only [go_sem, ints, bools, mat] | ((first | apply goIf_b | apply goG_b | apply goTG_b | apply goOG_b) <;> intro h <;> ((try simp only [hnq] at h); (try simp only [h]); (try simp only [hnr] at h)) <;> (try (exfalso; omega))))
    have yc := d2; first | refine goC_call [.bm, .r] yc ?_ | refine goOC_call [.bm, .r] yc ?_
    repeat' (first | simp -implicitDefEqProofs (maxSteps := 1000000) (disch := (first | omega | (simp only [go_sem] <;> omega) | fail)) only [go_sem, ints, bools, mat] | ((first | apply goIf_b | apply goG_b | apply goTG_b | apply goOG_b) <;> intro h <;> ((try simp only [hnq] at h); (try simp only [h]); (try simp only [hnr] at h)) <;> (try (exfalso; omega))))
    have yc := d3; first | refine goC_call [.bm, .r] yc ?_ | refine goOC_call [.bm, .r] yc ?_
    repeat' (first | simp -implicitDefEqProofs (maxSteps := 1000000) (disch := (first | omega | (simp only [go_sem] <;> omega) | fail)) only [go_sem, ints, bools, mat] | ((first | apply goIf_b | apply goG_b | apply goTG_b | apply goOG_b) <;> intro h <;> ((try simp only [hnq] at h); (try simp only [h]); (try simp only [hnr] at h)) <;> (try (exfalso; omega))))
    have yc := hN; first | refine goC_call [.r] yc ?_ | refine goOC_call [.r] yc ?_
    repeat' (first | simp -implicitDefEqProofs (maxSteps := 1000000) (disch := (first | omega | (simp only [go_sem] <;> omega) | fail)) only [go_sem, ints, bools, mat] | ((first | apply goIf_b | apply goG_b | apply goTG_b | apply goOG_b) <;> intro h <;> ((try simp only [hnq] at h); (try simp only [h]); (try simp only [hnr] at h)) <;> (try (exfalso; omega))))
    have yc := d6; first | refine goC_call [.bm, .r] yc ?_ | refine goOC_call [.bm, .r] yc ?_
    repeat' (first | simp -implicitDefEqProofs (maxSteps := 1000000) (disch := (first | omega | (simp only [go_sem] <;> omega) | fail)) only [go_sem, ints, bools, mat] | ((first | apply goIf_b | apply goG_b | apply goTG_b | apply goOG_b) <;> intro h <;> ((try simp only [hnq] at h); (try simp only [h]); (try simp only [hnr] at h)) <;> (try (exfalso; omega))))
    have yc := d5; first | refine goC_call [.bm, .r] yc ?_ | refine goOC_call [.bm, .r] yc ?_
    exact go_e0
theorem ex_coded5 {cd : D} {l : List Int} (H : SrcH cd l) : ∃ (X : D) (o c : List Int), drL X o ∧ c.length < 1048577 ∧ Den PA f_spec_l05Coded [.d cd] [.any] (.tup [.d (.agg [X]), .own 1 (c.map di)]) := by
  obtain ⟨s0, hs0, d0⟩ := ex_from H
  obtain ⟨x, c0, s1, hs1, hx, hc0, hcx, d1⟩ := ex_draw5 H hs0
  obtain ⟨X, o, s3, hs3, hX, d3⟩ := ex_bad H hs1 hx
  obtain ⟨c, s4, hs4, hcl, hci, d4⟩ := ex_badCode H hs3 hx (c := c0) (by omega) (inC_in64 hx hcx)
  refine ⟨X, o, c, hX, hcl, den_go [] l_spec_l05Coded ?_⟩
  repeat' (first | simp -implicitDefEqProofs (maxSteps := 1000000) (disch := (first | omega | (simp only [go_sem] <;> omega) | fail)) only [go_sem, ints, bools, mat, c_spec_l05Coded, srcR] | ((first | apply goIf_b | apply goG_b | apply goTG_b | apply goOG_b) <;> intro h <;> ((try simp only [hnq] at h); (try simp only [h]); (try simp only [hnr] at h)) <;> (try (exfalso; omega))))
  have yc := d0; first | refine goC_call [.r] yc ?_ | refine goOC_call [.r] yc ?_
  repeat' (first | simp -implicitDefEqProofs (maxSteps := 1000000) (disch := (first | omega | (simp only [go_sem] <;> omega) | fail)) only [go_sem, ints, bools, mat] | ((first | apply goIf_b | apply goG_b | apply goTG_b | apply goOG_b) <;> intro h <;> ((try simp only [hnq] at h); (try simp only [h]); (try simp only [hnr] at h)) <;> (try (exfalso; omega))))
  have yc := d1; first | refine goC_call [.bm] yc ?_ | refine goOC_call [.bm] yc ?_
  repeat' (first | simp -implicitDefEqProofs (maxSteps := 1000000) (disch := (first | omega | (simp only [go_sem] <;> omega) | fail)) only [go_sem, ints, bools, mat] | ((first | apply goIf_b | apply goG_b | apply goTG_b | apply goOG_b) <;> intro h <;> ((try simp only [hnq] at h); (try simp only [h]); (try simp only [hnr] at h)) <;> (try (exfalso; omega))))
  have yc := d3; first | refine goC_call [.bm, .r] yc ?_ | refine goOC_call [.bm, .r] yc ?_
  repeat' (first | simp -implicitDefEqProofs (maxSteps := 1000000) (disch := (first | omega | (simp only [go_sem] <;> omega) | fail)) only [go_sem, ints, bools, mat] | ((first | apply goIf_b | apply goG_b | apply goTG_b | apply goOG_b) <;> intro h <;> ((try simp only [hnq] at h); (try simp only [h]); (try simp only [hnr] at h)) <;> (try (exfalso; omega))))
  have yc := d4; first | refine goC_call [.bm, .r, .f] yc ?_ | refine goOC_call [.bm, .r, .f] yc ?_
  exact go_e0
theorem ex_isLinear {cd : D} {l : List Int} (H : SrcH cd l) : ∃ (X : D) (o c : List Int), drL X o ∧ c.length < 1048577 ∧ Den PA f_spec_DrawIsLinear [.d cd] [.any] (.tup [.d (.agg [X]), .own 1 (c.map di)]) := by
  obtain ⟨X, o, c, hX, hcl, d0⟩ := ex_coded5 H
  refine ⟨X, o, c, hX, hcl, den_go [] l_spec_DrawIsLinear ?_⟩
  have y1 := kc [.r] d0; exact go_e0
theorem d_laws_checks5 (c : List Int) (hc : c.length < 1048577) : Den PA f_laws_checks5 [.d (ints c)] [.any] (.d (ints (c.take 20))) := by
  refine den_go [] l_laws_checks5 ?_
  by_cases h : c.length ≤ 20
  · rw [List.take_of_length_le h]
    repeat' (first | simp -implicitDefEqProofs (maxSteps := 1000000) (disch := (first | omega | (simp only [go_sem] <;> omega) | fail)) only [go_sem, ints, bools, mat, c_laws_checks5, List.take_length] | ((first | apply goIf_b | apply goG_b | apply goTG_b | apply goOG_b) <;> intro h <;> ((try simp only [hnq] at h); (try simp only [h]); (try simp only [hnr] at h)) <;> (try (exfalso; omega))))
  · refine go_c0 ?_
    rw [if_pos (by omega)]; rfl
theorem d_nil_impl_IsPlain  : Den PA f_impl_IsPlain [.d (.agg [nil])] [.any] (.tup [.d (db false), .d (di 1)]) := by
  refine den_go [] l_impl_IsPlain ?_
  have y1 := kc [.r] d_nil_impl_IsSpace; exact go_e0
theorem d_nil_spec_IsPlain  : Den PA f_spec_IsPlain [.d (.agg [nil])] [.any] (.tup [.d (db false), .d (di 1)]) := by
  refine den_go [] l_spec_IsPlain ?_
  have y1 := kc [.r] d_nil_spec_l01Is; exact go_e0
theorem d_nil_impl_plainCode (c x : D) : Den PA f_impl_plainCode [.d (.agg [nil]), .d c, .d x] [.any, .any, .any] (.d (di 1)) := by
  refine den_go [] l_impl_plainCode ?_
  have y1 := kc [.r] d_nil_impl_IsSpace; exact go_e0
theorem d_nil_spec_l05Words (c : List Int) : Den PA f_spec_l05Words [.d (.agg [nil]), .d (ints c)] [.any, .any] (.d (di 1)) := by
  refine den_go [] l_spec_l05Words ?_
  have y1 := kc [.r, .r] (d_nil_spec_l01Words (ints c)); exact go_e0
theorem d_nil_impl_SpanOf (c : List Int) : Den PA f_impl_SpanOf [.d (.agg [nil]), .d (ints c)] [.any, .any] (.tup [.d nil, .d (di 1)]) := by
  refine den_go [] l_impl_SpanOf ?_
  have y1 := kc [.r, .r, .r] (d_nil_impl_plainCode (ints c) nil); exact go_e0
theorem d_nil_spec_SpanOf (c : List Int) : Den PA f_spec_SpanOf [.d (.agg [nil]), .d (ints c)] [.any, .any] (.tup [.d nil, .d (di 1)]) := by
  refine den_go [] l_spec_SpanOf ?_
  have y1 := kc [.r, .r] (d_nil_spec_l05Words c); exact go_e0
theorem d_nil_impl_IsLinear (c : List Int) : Den PA f_impl_IsLinear [.d (.agg [nil]), .d (ints c)] [.any, .any] (.tup [.d (db false), .d (di 1)]) := by
  refine den_go [] l_impl_IsLinear ?_
  have y1 := kc [.r, .r, .r] (d_nil_impl_codeCode (ints c) nil); exact go_e0
theorem d_nil_spec_IsLinear (c : List Int) : Den PA f_spec_IsLinear [.d (.agg [nil]), .d (ints c)] [.any, .any] (.tup [.d (db false), .d (di 1)]) := by
  refine den_go [] l_spec_IsLinear ?_
  have y1 := kc [.r, .r] (d_nil_spec_l01Given (ints c)); exact go_e0
theorem d_nil_impl_LeastBasis (c : List Int) : Den PA f_impl_LeastBasis [.d (.agg [nil]), .d (ints c)] [.any, .any] (.tup [.d nil, .d (di 1)]) := by
  refine den_go [] l_impl_LeastBasis ?_
  have y1 := kc [.r, .r, .r] (d_nil_impl_linearCode (ints c) nil); exact go_e0
theorem d_nil_spec_LeastBasis (c : List Int) : Den PA f_spec_LeastBasis [.d (.agg [nil]), .d (ints c)] [.any, .any] (.tup [.d nil, .d (di 1)]) := by
  refine den_go [] l_spec_LeastBasis ?_
  have y1 := kc [.r, .r] (d_nil_spec_l05Given (ints c)); exact go_e0
theorem d_nil_impl_DualCode (c : List Int) : Den PA f_impl_DualCode [.d (.agg [nil]), .d (ints c)] [.any, .any] (.tup [.d nil, .d (di 1)]) := by
  refine den_go [] l_impl_DualCode ?_
  have y1 := kc [.r, .r, .r] (d_nil_impl_linearCode (ints c) nil); exact go_e0
theorem d_nil_spec_DualCode (c : List Int) : Den PA f_spec_DualCode [.d (.agg [nil]), .d (ints c)] [.any, .any] (.tup [.d nil, .d (di 1)]) := by
  refine den_go [] l_spec_DualCode ?_
  have y1 := kc [.r, .r] (d_nil_spec_l05Given (ints c)); exact go_e0
theorem d_nil_impl_DualCounts (c : List Int) : Den PA f_impl_DualCounts [.d (.agg [nil]), .d (ints c)] [.any, .any] (.tup [.d nil, .d (di 1)]) := by
  refine den_go [] l_impl_DualCounts ?_
  have y1 := kc [.r, .r, .r] (d_nil_impl_linearCode (ints c) nil); exact go_e0
theorem d_nil_spec_DualCounts (c : List Int) : Den PA f_spec_DualCounts [.d (.agg [nil]), .d (ints c)] [.any, .any] (.tup [.d nil, .d (di 1)]) := by
  refine den_go [] l_spec_DualCounts ?_
  have y1 := kc [.r, .r] (d_nil_spec_l05Given (ints c)); exact go_e0
theorem d_nil_impl_DimensionOf (c : List Int) : Den PA f_impl_DimensionOf [.d (.agg [nil]), .d (ints c)] [.any, .any] (.tup [.d (di 0), .d (di 1)]) := by
  refine den_go [] l_impl_DimensionOf ?_
  have y1 := kc [.r, .r, .r] (d_nil_impl_linearCode (ints c) nil); exact go_e0
theorem d_nil_spec_DimensionOf (c : List Int) : Den PA f_spec_DimensionOf [.d (.agg [nil]), .d (ints c)] [.any, .any] (.tup [.d (di 0), .d (di 1)]) := by
  refine den_go [] l_spec_DimensionOf ?_
  have y1 := kc [.r, .r] (d_nil_spec_l05Given (ints c)); exact go_e0
theorem d_nil_impl_SyndromeOf (c : List Int) (w : Int) : Den PA f_impl_SyndromeOf [.d (.agg [nil]), .d (ints c), .d (di w)] [.any, .any, .any] (.tup [.d nil, .d (di 1)]) := by
  refine den_go [] l_impl_SyndromeOf ?_
  have y1 := kc [.r, .r, .r] (d_nil_impl_plainCode (ints c) (ints [w])); exact go_e0
theorem d_nil_spec_SyndromeOf (c : List Int) (w : Int) : Den PA f_spec_SyndromeOf [.d (.agg [nil]), .d (ints c), .d (di w)] [.any, .any, .any] (.tup [.d nil, .d (di 1)]) := by
  refine den_go [] l_spec_SyndromeOf ?_
  have y1 := kc [.r, .r] (d_nil_spec_l01Words (ints [w])); exact go_e0
theorem bs_in {l c : List Int} (hcc : isCodeM l c = true) : inC l (bsM l c) := fun u hu => by
  obtain ⟨i, _, _, h, _⟩ := (bsN_mem _).1 hu
  exact code_mem hcc h
theorem inC_areW {l ws : List Int} (h : inC l ws) : areW l ws = true := (areW_ok l ws).2 fun j hj => h _ (mem_getD hj)
theorem ln_zero {l c : List Int} (hs : isSpaceM l = true) (hcc : isCodeM l c = true) (hl : linB l c = true) : lnM l c = 0 ∧ ggM l c = 0 ∧ gcM l c [] = 0 := by
  have h1 : ggM l c = 0 := by unfold ggM; rw [if_pos hs, if_pos hcc]
  have h2 : wcM l [] = 0 := by unfold wcM; rw [if_pos hs, areW_nil, if_pos rfl]
  refine ⟨by unfold lnM; rw [if_pos h1, if_pos hl], h1, by unfold gcM; rw [if_pos h2, if_pos hcc]⟩
theorem syn_zero {l c D : List Int} (hs : isSpaceM l = true) {w : Int} (hw : w ∈ c) (hD : ∀ u, u ∈ D → u ∈ duM l c) : synM l D w = List.replicate D.length 0 := by
  rw [List.eq_replicate_iff]
  refine ⟨synM_len l D w, fun x hx => ?_⟩
  obtain ⟨u, hu, rfl⟩ := List.mem_map.1 hx
  exact ((duM_mem hs).1 (hD u hu)).2 w hw
structure LiF (X : D) (ws C E B W : List Int) (n : Int) : Prop where
  cl : C.length < 1048577
  el : E.length < 1048577
  wl : W.length < 1048577
  nb : n ≤ 1024
  sz : (C.length : Int) * E.length = n
  sp : Den PA f_impl_SpanOf [.d (.agg [X]), .d (ints ws)] [.any, .any] (.tup [.own 1 (C.map di), .d (di 0)])
  st : Den PA f_spec_SpanOf [.d (.agg [X]), .d (ints ws)] [.any, .any] (.tup [.own 1 (C.map di), .d (di 0)])
  pl : Den PA f_impl_IsPlain [.d (.agg [X])] [.any] (.tup [.d (db true), .d (di 0)])
  pt : Den PA f_spec_IsPlain [.d (.agg [X])] [.any] (.tup [.d (db true), .d (di 0)])
  li : Den PA f_impl_IsLinear [.d (.agg [X]), .d (ints C)] [.any, .any] (.tup [.d (db true), .d (di 0)])
  du : Den PA f_impl_DualCode [.d (.agg [X]), .d (ints C)] [.any, .any] (.tup [.own 1 (E.map di), .d (di 0)])
  dd : Den PA f_impl_DualCode [.d (.agg [X]), .d (ints E)] [.any, .any] (.tup [.own 1 (C.map di), .d (di 0)])
  ba : Den PA f_impl_LeastBasis [.d (.agg [X]), .d (ints C)] [.any, .any] (.tup [.own 1 (B.map di), .d (di 0)])
  ag : Den PA f_impl_SpanOf [.d (.agg [X]), .d (ints B)] [.any, .any] (.tup [.own 1 (C.map di), .d (di 0)])
  dm : Den PA f_impl_DimensionOf [.d (.agg [X]), .d (ints C)] [.any, .any] (.tup [.d (di B.length), .d (di 0)])
  co : Den PA f_impl_DualCounts [.d (.agg [X]), .d (ints C)] [.any, .any] (.tup [.own 1 (W.map di), .d (di 0)])
  wc : Den PA f_impl_WeightCounts [.d (.agg [X]), .d (ints E)] [.any, .any] (.tup [.own 1 (W.map di), .d (di 0)])
  cn : Den PA f_impl_CountWords [.d (.agg [X])] [.any] (.tup [.d (di n), .d (di 0)])
  has : ∀ i, i < ws.length → ws.getD i 0 ∈ C
  sy : ∀ i, i < ws.length → Den PA f_impl_SyndromeOf [.d (.agg [X]), .d (ints (E.take 20)), .d (di (ws.getD i 0))] [.any, .any, .any] (.tup [.own 1 ((List.replicate (E.take 20).length (0 : Int)).map di), .d (di 0)])
structure LiN (X : D) (ws : List Int) (e e2 : Int) (b : Bool) : Prop where
  sp : Den PA f_impl_SpanOf [.d (.agg [X]), .d (ints ws)] [.any, .any] (.tup [.d nil, .d (di e)])
  st : Den PA f_spec_SpanOf [.d (.agg [X]), .d (ints ws)] [.any, .any] (.tup [.d nil, .d (di e)])
  pl : Den PA f_impl_IsPlain [.d (.agg [X])] [.any] (.tup [.d (db b), .d (di e2)])
  pt : Den PA f_spec_IsPlain [.d (.agg [X])] [.any] (.tup [.d (db b), .d (di e2)])
theorem li_facts {X : D} {o ws : List Int} (hX : drL X o) (hw : ws.length < 1048577) : (∃ C E B W n, LiF X ws C E B W n) ∨ ∃ e e2 b, e ≠ 0 ∧ LiN X ws e e2 b := by
  obtain ⟨hX1, hX2, hX3⟩ := hX
  rcases hX1 with rfl | ⟨rfl, rfl⟩
  · have h1 := d_impl_SpanOf o ws hX2 hw
    have h2 := d_spec_SpanOf o ws hX2 hw
    have h3 := d_impl_IsPlain o hX2
    have h4 := d_spec_IsPlain o hX2
    by_cases h : pcM o ws [] = 0
    · obtain ⟨hs, h20, hcw, _, hp⟩ := pcM_ok h
      have hpr := isSpaceM_prod hs
      have hp1 := prodM_pos (isSpaceM_szs hs)
      have hn := isSpaceM_n hs
      have hin := areW_inC hcw
      have g := spN_grp hs hp hin ws.length (Nat.le_refl _)
      obtain ⟨hcc, hl⟩ := grp_lin hs hp g
      have gd := duM_grp hs hp (spN o ws ws.length)
      obtain ⟨hdc, hdl⟩ := grp_lin hs hp gd
      have hcl := grp_len hs g
      have hdln := grp_len hs gd
      have hdd := dual_dual hs hcc hl
      have hbi := bs_in (c := spN o ws ws.length) hcc
      have hspb := span_basis hs hcc hl hbi
      have hbl := bsN_len hs hcc hl o.length
      have hsz := dual_size hs hcc hl
      have hhas := fun i hi => spN_has hs hp hin ws.length (Nat.le_refl _) i hi
      obtain ⟨hc0, hc1, hc2⟩ := ln_zero hs hcc hl
      obtain ⟨hd0, hd1, hd2⟩ := ln_zero hs hdc hdl
      have hpb : pcM o (bsM o (spN o ws ws.length)) [] = 0 := by
        unfold pcM; rw [if_pos hs, if_pos ⟨by show (bsN _ _ _).length ≤ 20; omega, inC_areW hbi, areW_nil o⟩, if_pos hp]
      have i3 := d_impl_IsLinear o (spN o ws ws.length) hX2 (by omega)
      have i4 := d_impl_DualCode o (spN o ws ws.length) hX2 (by omega)
      have i5 := d_impl_DualCode o (duM o (spN o ws ws.length)) hX2 (by omega)
      have i6 := d_impl_LeastBasis o (spN o ws ws.length) hX2 (by omega)
      have i7 := d_impl_SpanOf o (bsM o (spN o ws ws.length)) hX2 (by show (bsN _ _ _).length < _; omega)
      have i8 := d_impl_DimensionOf o (spN o ws ws.length) hX2 (by omega)
      have i9 := d_impl_DualCounts o (spN o ws ws.length) hX2 (by omega)
      have i10 := d_impl_WeightCounts o (duM o (spN o ws ws.length)) hX2 (by omega)
      have i11 := d_impl_CountWords o hs
      have hsy : ∀ i, i < ws.length → Den PA f_impl_SyndromeOf [.d (.agg [ints o]), .d (ints ((duM o (spN o ws ws.length)).take 20)), .d (di (ws.getD i 0))] [.any, .any, .any] (.tup [.own 1 ((List.replicate ((duM o (spN o ws ws.length)).take 20).length (0 : Int)).map di), .d (di 0)]) := fun i hi => by
        have ht : inC o ((duM o (spN o ws ws.length)).take 20) := fun u hu => gd.inc u (List.mem_of_mem_take hu)
        have hpc : pcM o ((duM o (spN o ws ws.length)).take 20) [ws.getD i 0] = 0 := by
          unfold pcM
          rw [if_pos hs, if_pos ⟨by rw [List.length_take]; omega, inC_areW ht, inC_areW fun u hu => by simp only [List.mem_singleton] at hu; subst hu; exact hin _ (mem_getD hi)⟩, if_pos hp]
        have hh := d_impl_SyndromeOf o ((duM o (spN o ws ws.length)).take 20) (ws.getD i 0) hX2 (by rw [List.length_take]; omega)
        rw [lstR_ok hpc, syn_zero hs (hhas i hi) fun u hu => List.mem_of_mem_take hu] at hh
        exact hh
      rw [lstR_ok h] at h1 h2
      rw [isPlainR, hs, hp] at h3 h4
      rw [linR, hc1, hl] at i3
      rw [lstR_ok hc0] at i4 i6 i9
      rw [lstR_ok hd0, hdd] at i5
      rw [lstR_ok hpb, hspb] at i7
      rw [dimR, if_pos hc0, hc0] at i8
      rw [lstR_ok hd1] at i10
      have hwl : (wcountM o (duM o (spN o ws ws.length))).length = o.length + 1 := hist_len _ _
      exact .inl ⟨_, _, _, _, _, ⟨by omega, by omega, by omega, hpr, hsz, h1, h2, h3, h4, i3, i4, i5, i6, i7, i8, i9, i10, i11, hhas, hsy⟩⟩
    · rw [lstR_no h] at h1 h2
      exact .inr ⟨_, _, _, h, ⟨h1, h2, h3, h4⟩⟩
  · exact .inr ⟨1, 1, false, by decide, ⟨d_nil_impl_SpanOf ws, d_nil_spec_SpanOf ws, d_nil_impl_IsPlain, d_nil_spec_IsPlain⟩⟩
structure LnF (X : D) (c B E W : List Int) (b : Bool) (e k : Int) : Prop where
  bl : B.length < 1048577
  el : E.length < 1048577
  wl : W.length < 1048577
  li : Den PA f_impl_IsLinear [.d (.agg [X]), .d (ints c)] [.any, .any] (.tup [.d (db b), .d (di e)])
  lt : Den PA f_spec_IsLinear [.d (.agg [X]), .d (ints c)] [.any, .any] (.tup [.d (db b), .d (di e)])
  ba : Den PA f_impl_LeastBasis [.d (.agg [X]), .d (ints c)] [.any, .any] (.tup [.own 1 (B.map di), .d (di 0)])
  bt : Den PA f_spec_LeastBasis [.d (.agg [X]), .d (ints c)] [.any, .any] (.tup [.own 1 (B.map di), .d (di 0)])
  du : Den PA f_impl_DualCode [.d (.agg [X]), .d (ints c)] [.any, .any] (.tup [.own 1 (E.map di), .d (di 0)])
  dt : Den PA f_spec_DualCode [.d (.agg [X]), .d (ints c)] [.any, .any] (.tup [.own 1 (E.map di), .d (di 0)])
  co : Den PA f_impl_DualCounts [.d (.agg [X]), .d (ints c)] [.any, .any] (.tup [.own 1 (W.map di), .d (di 0)])
  ct : Den PA f_spec_DualCounts [.d (.agg [X]), .d (ints c)] [.any, .any] (.tup [.own 1 (W.map di), .d (di 0)])
  dm : Den PA f_impl_DimensionOf [.d (.agg [X]), .d (ints c)] [.any, .any] (.tup [.d (di k), .d (di 0)])
  dn : Den PA f_spec_DimensionOf [.d (.agg [X]), .d (ints c)] [.any, .any] (.tup [.d (di k), .d (di 0)])
structure LnN (X : D) (c : List Int) (b : Bool) (e e2 : Int) : Prop where
  li : Den PA f_impl_IsLinear [.d (.agg [X]), .d (ints c)] [.any, .any] (.tup [.d (db b), .d (di e)])
  lt : Den PA f_spec_IsLinear [.d (.agg [X]), .d (ints c)] [.any, .any] (.tup [.d (db b), .d (di e)])
  ba : Den PA f_impl_LeastBasis [.d (.agg [X]), .d (ints c)] [.any, .any] (.tup [.d nil, .d (di e2)])
  bt : Den PA f_spec_LeastBasis [.d (.agg [X]), .d (ints c)] [.any, .any] (.tup [.d nil, .d (di e2)])
  du : Den PA f_impl_DualCode [.d (.agg [X]), .d (ints c)] [.any, .any] (.tup [.d nil, .d (di e2)])
  dt : Den PA f_spec_DualCode [.d (.agg [X]), .d (ints c)] [.any, .any] (.tup [.d nil, .d (di e2)])
  co : Den PA f_impl_DualCounts [.d (.agg [X]), .d (ints c)] [.any, .any] (.tup [.d nil, .d (di e2)])
  ct : Den PA f_spec_DualCounts [.d (.agg [X]), .d (ints c)] [.any, .any] (.tup [.d nil, .d (di e2)])
  dm : Den PA f_impl_DimensionOf [.d (.agg [X]), .d (ints c)] [.any, .any] (.tup [.d (di 0), .d (di e2)])
  dn : Den PA f_spec_DimensionOf [.d (.agg [X]), .d (ints c)] [.any, .any] (.tup [.d (di 0), .d (di e2)])
end Go.Proofs.YtgmocipfgfnolabGreat.Va
