/- Contracts of the functions that FnLeastCodes reaches (part 1). Condition: none. -/
import Derived.Test.YtfgjfjgkoabfjacGreatDFnLeastCodes0
set_option linter.all false
set_option linter.unusedSimpArgs false
set_option linter.unusedVariables false
namespace Go.Proofs.YtfgjfjgkoabfjacGreat.Va
open Go
set_option maxHeartbeats 4000000
set_option maxRecDepth 100000
theorem d_spec_l01Size (l : List Int) (hs : isSpaceM l = true) (r : Int) (hr : 0 ≤ r) (hr2 : r < 1000000) : Den PA f_spec_l01Size [.d (.agg [ints l]), .d (di r)] [.any, .any] (.d (di (bzM l r))) := by
  have hn := isSpaceM_n hs
  have hq := isSpaceM_q hs
  have hcb : ∀ i k, 0 ≤ cf (l.take i) k ∧ cf (l.take i) k ≤ 65536 := fun i k => by
    have h1 := cf_bnd (l.take i) (fun j hj => by
      simp at hj
      have := hq j (by omega)
      rwa [List.getD_eq_getElem?_getD, List.getElem?_take, if_pos (by omega), ← List.getD_eq_getElem?_getD]) k
    have h2 : (4 : Int) ^ (l.take i).length ≤ 65536 := pow4_le (by simp; omega)
    omega
  refine den_go [] l_spec_l01Size ?_
  repeat' (first | simp -implicitDefEqProofs (maxSteps := 1000000) (disch := (first | omega | (simp only [go_sem] <;> omega) | fail)) only [go_sem, ints, bools, mat, c_spec_l01Size] | ((first | apply goIf_b | apply goG_b | apply goTG_b | apply goOG_b) <;> intro h <;> ((try simp only [hnq] at h); (try simp only [h]); (try simp only [hnr] at h)) <;> (try (exfalso; omega))))
  rw [rowS_0]
  refine go_loop (fun (i : Nat) => ⟨[(1, .d (di r)), (2, .ref 0 0), (5, .sl 1 0 (l.length + 1) 1), (6, .d (di i))], [some (.var [ints l]), some (.dat 1 ((rowS l i (i + 1)).map di))]⟩) (fun i => i ≤ l.length) (fun i => l.length - i) 0 ?_ ?_ ?_
  · (simp -implicitDefEqProofs (maxSteps := 1000000) (disch := (first | omega | (simp only [go_sem] <;> omega) | fail)) only [go_sem, ints, bools, mat] <;> rfl)
  · omega
  · rintro i hi J hJ
    by_cases hil : i < l.length
    · repeat' (first | simp -implicitDefEqProofs (maxSteps := 1000000) (disch := (first | omega | (simp only [go_sem] <;> omega) | fail)) only [go_sem, ints, bools, mat] | ((first | apply goIf_b | apply goG_b | apply goTG_b | apply goOG_b) <;> intro h <;> ((try simp only [hnq] at h); (try simp only [h]); (try simp only [hnr] at h)) <;> (try (exfalso; omega))))
      have hqi := hq i hil
      refine go_loop (fun (k : Nat) => ⟨[(1, .d (di r)), (2, .ref 0 0), (5, .sl 1 0 (l.length + 1) 1), (6, .d (di i)), (7, .d (di k))], [some (.var [ints l]), some (.dat 1 ((rowS l i k).map di))]⟩) (fun k => k ≤ i + 1) (fun k => k) (i + 1) ?_ ?_ ?_
      · (simp -implicitDefEqProofs (maxSteps := 1000000) (disch := (first | omega | (simp only [go_sem] <;> omega) | fail)) only [go_sem, ints, bools, mat] <;> rfl)
      · omega
      · rintro k hk J2 hJ2
        rcases k with _ | k
        · repeat' (first | simp -implicitDefEqProofs (maxSteps := 1000000) (disch := (first | omega | (simp only [go_sem] <;> omega) | fail)) only [go_sem, ints, bools, mat] | ((first | apply goIf_b | apply goG_b | apply goTG_b | apply goOG_b) <;> intro h <;> ((try simp only [hnq] at h); (try simp only [h]); (try simp only [hnr] at h)) <;> (try (exfalso; omega))))
          refine hJ (i + 1) (by omega) (by omega) _ ?_
          simp -implicitDefEqProofs (maxSteps := 1000000) (disch := (first | omega | (simp only [go_sem] <;> omega) | fail)) only [go_sem, ints, bools, mat]
          rw [rowS_next l hil]
          rfl
        · have e1 := rowS_get l i (k + 1) (j := k + 1) (by omega)
          have e2 := rowS_get l i (k + 1) (j := k) (by omega)
          rw [if_neg (by omega)] at e1 e2
          have b1 := hcb i (k + 1)
          have b2 := hcb i k
          have b3 : cf (l.take i) k * (l.getD i 0 - 1) ≤ 65536 * 3 := Int.mul_le_mul b2.2 (by omega) (by omega) (by omega)
          have b4 : 0 ≤ cf (l.take i) k * (l.getD i 0 - 1) := Int.mul_nonneg b2.1 (by omega)
          have e3 := rowS_step l hil (k := k) (by omega)
          repeat' (first | simp -implicitDefEqProofs (maxSteps := 1000000) (disch := (first | omega | (simp only [go_sem] <;> omega) | fail)) only [go_sem, ints, bools, mat, e1, e2] | ((first | apply goIf_b | apply goG_b | apply goTG_b | apply goOG_b) <;> intro h <;> ((try simp only [hnq] at h); (try simp only [h]); (try simp only [hnr] at h)) <;> (try (exfalso; omega))))
          refine hJ2 k (by omega) (by omega) _ ?_
          simp -implicitDefEqProofs (maxSteps := 1000000) (disch := (first | omega | (simp only [go_sem] <;> omega) | fail)) only [go_sem, ints, bools, mat, e1, e2, e3]
    · have : i = l.length := by omega
      subst this
      repeat' (first | simp -implicitDefEqProofs (maxSteps := 1000000) (disch := (first | omega | (simp only [go_sem] <;> omega) | fail)) only [go_sem, ints, bools, mat] | ((first | apply goIf_b | apply goG_b | apply goTG_b | apply goOG_b) <;> intro h <;> ((try simp only [hnq] at h); (try simp only [h]); (try simp only [hnr] at h)) <;> (try (exfalso; omega))))
      refine go_loop (fun (k : Nat) => ⟨[(1, .d (di r)), (5, .sl 0 0 (l.length + 1) 1), (8, .d (di (sumN (cf l) k))), (9, .d (di k))], [some (.dat 1 ((rowS l l.length (l.length + 1)).map di))]⟩) (fun k => k ≤ l.length + 1 ∧ (k : Int) ≤ r + 1) (fun k => l.length + 1 - k) 0 ?_ ?_ ?_
      · (simp -implicitDefEqProofs (maxSteps := 1000000) (disch := (first | omega | (simp only [go_sem] <;> omega) | fail)) only [go_sem, ints, bools, mat] <;> rfl)
      · omega
      · rintro k ⟨hk, hkr⟩ J2 hJ2
        have b1 : 0 ≤ sumN (cf l) k ∧ sumN (cf l) k ≤ k * 65536 := sumN_bnd _ _ (fun j => by have := hcb l.length j; rwa [List.take_length] at this) k
        have b2 := hcb l.length k
        rw [List.take_length] at b2
        by_cases hc : k < l.length + 1 ∧ (k : Int) ≤ r
        · have e1 := rowS_end l hc.1
          obtain ⟨hc1, hc2⟩ := hc
          repeat' (first | simp -implicitDefEqProofs (maxSteps := 1000000) (disch := (first | omega | (simp only [go_sem] <;> omega) | fail)) only [go_sem, ints, bools, mat, e1] | ((first | apply goIf_b | apply goG_b | apply goTG_b | apply goOG_b) <;> intro h <;> ((try simp only [hnq] at h); (try simp only [h]); (try simp only [hnr] at h)) <;> (try (exfalso; omega))))
          refine hJ2 (k + 1) (by omega) (by omega) _ ?_
          simp -implicitDefEqProofs (maxSteps := 1000000) (disch := (first | omega | (simp only [go_sem] <;> omega) | fail)) only [go_sem, ints, bools, mat, e1]
          rfl
        · have e : sumN (cf l) k = bzM l r := by
            unfold bzM
            by_cases hk2 : k < l.length + 1
            · have : r.toNat + 1 = k := by omega
              rw [this]
            · have : k = l.length + 1 := by omega
              subst this
              exact (sumN_big (cf l) (fun j hj => cf_zero l j (by omega)) _ (by omega)).symm
          rw [e]
          repeat' (first | simp -implicitDefEqProofs (maxSteps := 1000000) (disch := (first | omega | (simp only [go_sem] <;> omega) | fail)) only [go_sem, ints, bools, mat] | ((first | apply goIf_b | apply goG_b | apply goTG_b | apply goOG_b) <;> intro h <;> ((try simp only [hnq] at h); (try simp only [h]); (try simp only [hnr] at h)) <;> (try (exfalso; omega))))
def cvL (l X : List Int) : List Bool := (allW l).map fun u => decide (u ∈ X)
@[go_sem] theorem cvL_len (l X : List Int) : (cvL l X).length = (prodM l).toNat := by simp [cvL, allW_len]
theorem cvL_get (l X : List Int) {i : Nat} (h : i < (prodM l).toNat) : (cvL l X).getD i false = decide ((i : Int) ∈ X) := by
  have h2 : i < (allW l).length := by rw [allW_len]; exact h
  have e := allW_get l h
  rw [List.getD_eq_getElem?_getD, List.getElem?_eq_getElem h2, Option.getD_some] at e
  simp [cvL, h2, e]
theorem cvL_eq {l X : List Int} {L : List Bool} (h : L.length = (prodM l).toNat) (h2 : ∀ i : Nat, i < (prodM l).toNat → L.getD i false = decide ((i : Int) ∈ X)) : L = cvL l X := by
  apply List.ext_getElem (by rw [h, cvL_len])
  intro i h3 h4
  have := h2 i (by omega)
  have e := cvL_get l X (i := i) (by omega)
  rw [List.getD_eq_getElem?_getD, List.getElem?_eq_getElem h3, Option.getD_some] at this
  rw [List.getD_eq_getElem?_getD, List.getElem?_eq_getElem h4, Option.getD_some] at e
  rw [this, e]
theorem cvL_congr {l X Y : List Int} (h : ∀ u : Int, 0 ≤ u → u < prodM l → (u ∈ X ↔ u ∈ Y)) : cvL l X = cvL l Y := by
  refine cvL_eq (cvL_len l X) fun i hi => ?_
  rw [cvL_get l X hi]
  simp only [h i (by omega) (by omega)]
def opn (l X : List Int) : Option Int := (allW l).find? fun u => !decide (u ∈ X)
def idxO : Option Int → Int
  | none => -1
  | some u => u
theorem opn_some {l X : List Int} {o : Int} (h : opn l X = some o) : (0 ≤ o ∧ o < prodM l) ∧ o ∉ X ∧ ∀ u, 0 ≤ u → u < o → u ∈ X := by
  unfold opn at h
  have h1 := List.find?_some h
  have h2 := List.mem_of_find?_eq_some h
  rw [allW_mem] at h2
  refine ⟨by omega, by simpa using h1, fun u hu huo => ?_⟩
  rw [find_idx] at h
  cases hf : (allW l).findIdx? (fun u => !decide (u ∈ X)) with
  | none => rw [hf] at h; cases h
  | some j =>
    rw [hf] at h
    obtain ⟨hj, g1, g2⟩ := List.findIdx?_eq_some_iff_getElem.1 hf
    have hj' : j < (prodM l).toNat := by rwa [allW_len] at hj
    have hoj : (allW l).getD j 0 = o := by injection h
    rw [allW_get l hj'] at hoj
    have hk : u.toNat < j := by omega
    have := g2 u.toNat hk
    have e := allW_get l (i := u.toNat) (by omega)
    rw [List.getD_eq_getElem?_getD, List.getElem?_eq_getElem (by omega), Option.getD_some] at e
    rw [e] at this
    have : decide (((u.toNat : Nat) : Int) ∈ X) = true := by simpa using this
    rw [Int.toNat_of_nonneg hu] at this
    simpa using this
theorem opn_none {l X : List Int} (h : opn l X = none) : ∀ u, 0 ≤ u → u < prodM l → u ∈ X := fun u h0 h1 => by
  unfold opn at h
  rw [List.find?_eq_none] at h
  have := h u ((allW_mem l u).2 (by omega))
  simpa using this
def muX (l X : List Int) : Nat := ((allW l).filter fun u => !decide (u ∈ X)).length
theorem muX_le (l X : List Int) : muX l X ≤ (prodM l).toNat := by
  have := List.length_filter_le (fun u => !decide (u ∈ X)) (allW l)
  rw [allW_len] at this
  exact this
theorem distM_self (l : List Int) (w : Int) : distM l w w = 0 := by
  have key : ∀ a : List Int, farM a a = 0 := by
    intro a
    induction a with
    | nil => rfl
    | cons x a ih => rw [farM, if_pos rfl, ih]; rfl
  exact key _
theorem ball_self {l : List Int} {w r : Int} (hw : 0 ≤ w ∧ w < prodM l) (hr : 0 ≤ r) : w ∈ ballM l w r := by
  rw [ballM_mem, distM_self]; omega
theorem ball_symm {l : List Int} {u w r : Int} (hw : 0 ≤ w ∧ w < prodM l) (h : u ∈ ballM l w r) : w ∈ ballM l u r := by
  rw [ballM_mem] at h ⊢
  rw [distM_comm]; omega
theorem ball_in (l : List Int) (w r : Int) : inC l (ballM l w r) := fun u hu => by
  rw [ballM_mem] at hu; omega
def nearM (l : List Int) (r : Int) : List (List Int) := (allW l).map fun w => ballM l w r
@[go_sem] theorem nearM_len (l : List Int) (r : Int) : (nearM l r).length = (prodM l).toNat := by simp [nearM, allW_len]
theorem bz_pos {l : List Int} (hs : isSpaceM l = true) {r : Int} (hr : 0 ≤ r) : 1 ≤ bzM l r ∧ bzM l r ≤ prodM l := by
  have hp1 := prodM_pos (isSpaceM_szs hs)
  rw [← ball_len hs 0 hr]
  constructor
  · have := ball_self (l := l) (w := 0) (r := r) ⟨Int.le_refl _, by omega⟩ hr
    have := List.length_pos_of_mem this
    omega
  · have : (ballM l 0 r).length ≤ (prodM l).toNat := by unfold ballM; exact filter_len_le _ _ _ (by rw [allW_len]; exact Nat.le_refl _)
    omega
structure Pck (l : List Int) (r : Int) (X c : List Int) : Prop where
  nd : X.Nodup
  inX : inC l X
  len : (X.length : Int) = c.length * bzM l r
  sub : ∀ w, w ∈ c → w ∈ X
  cnd : c.Nodup
theorem Pck.nil (l : List Int) (r : Int) : Pck l r [] [] := ⟨List.nodup_nil, fun u hu => (by cases hu), by simp, fun u hu => hu, List.nodup_nil⟩
theorem opn_mu {l X : List Int} (h : opn l X = none) : muX l X = 0 := by
  unfold muX
  rw [List.filter_eq_nil_iff.2]
  · rfl
  · intro u hu
    rw [allW_mem] at hu
    simp [opn_none h u hu.1 (by omega)]
def lastLoop : AC → AC
  | .seq _ b => lastLoop b
  | .block _ b => lastLoop b
  | .loop _ b => b
  | x => x
def lstF (e : Int) (v : List Int) : R := if e = 0 then .tup [.d (ints v), .d (di 0)] else .tup [.d nil, .d (di e)]
theorem and_cut (k a b : Nat) : a &&& b = (a % 2 ^ k &&& b % 2 ^ k) + 2 ^ k * (a / 2 ^ k &&& b / 2 ^ k) := by
  have h1 : (a &&& b) % 2 ^ k = a % 2 ^ k &&& b % 2 ^ k := Nat.and_mod_two_pow
  have h2 : (a &&& b) / 2 ^ k = a / 2 ^ k &&& b / 2 ^ k := Nat.and_div_two_pow
  rw [← h1, ← h2]
  exact (Nat.mod_add_div _ _).symm
def repD (m B : Nat) : Nat → Nat
  | 0 => 0
  | n + 1 => m + B * repD m B n
def popN : Nat → Nat → Nat
  | 0, _ => 0
  | n + 1, x => x % 2 + popN n (x / 2)
def dsum (B : Nat) : Nat → Nat → Nat
  | 0, _ => 0
  | n + 1, x => x % B + dsum B n (x / B)
def sw1 : Nat → Nat → Nat
  | 0, _ => 0
  | n + 1, x => (x % 2 + x / 2 % 2) + 4 * sw1 n (x / 4)
theorem sw1_ok : ∀ n x, ((x / 2) &&& repD 1 4 n) + (x &&& repD 1 4 n) = sw1 n x
  | 0, x => by simp [repD, sw1]
  | n + 1, x => by
    have ih := sw1_ok n (x / 4)
    have a1 := and_cut 2 (x / 2) (repD 1 4 (n + 1))
    have a2 := and_cut 2 x (repD 1 4 (n + 1))
    have e1 : repD 1 4 (n + 1) % 2 ^ 2 = 1 := by rw [repD]; omega
    have e2 : repD 1 4 (n + 1) / 2 ^ 2 = repD 1 4 n := by rw [repD]; omega
    rw [e1, e2, Nat.and_one_is_mod] at a1 a2
    have e3 : x / 2 / 2 ^ 2 = x / 4 / 2 := by omega
    rw [e3] at a1
    rw [show x / 2 ^ 2 = x / 4 by omega] at a2
    rw [a1, a2, sw1, ← ih]
    omega
theorem sw1_sum : ∀ n x, dsum 4 n (sw1 n x) = popN (2 * n) x
  | 0, _ => rfl
  | n + 1, x => by
    have ih := sw1_sum n (x / 4)
    have e1 : sw1 (n + 1) x % 4 = x % 2 + x / 2 % 2 := by rw [sw1]; omega
    have e2 : sw1 (n + 1) x / 4 = sw1 n (x / 4) := by rw [sw1]; omega
    rw [dsum, e1, e2, ih, show 2 * (n + 1) = 2 * n + 1 + 1 by omega, popN, popN, show x / 2 / 2 = x / 4 by omega]
    omega
def digL (B d : Nat) : Nat → Nat → Prop
  | 0, x => x = 0
  | n + 1, x => x % B ≤ d ∧ digL B d n (x / B)
theorem sw1_dig : ∀ n x, digL 4 2 n (sw1 n x)
  | 0, _ => rfl
  | n + 1, x => by
    have e1 : sw1 (n + 1) x % 4 = x % 2 + x / 2 % 2 := by rw [sw1]; omega
    have e2 : sw1 (n + 1) x / 4 = sw1 n (x / 4) := by rw [sw1]; omega
    refine ⟨by omega, ?_⟩
    rw [e2]; exact sw1_dig n _
def sw2 : Nat → Nat → Nat
  | 0, _ => 0
  | n + 1, x => (x % 4 + x / 4 % 4) + 16 * sw2 n (x / 16)
theorem and_3 (x : Nat) : x % 2 ^ 4 &&& 3 = x % 4 := by
  have := Nat.and_two_pow_sub_one_eq_mod (x % 2 ^ 4) 2
  rw [show 2 ^ 2 - 1 = 3 by decide] at this
  rw [this]; omega
theorem sw2_ok : ∀ n x, ((x / 4) &&& repD 3 16 n) + (x &&& repD 3 16 n) = sw2 n x
  | 0, x => by simp [repD, sw2]
  | n + 1, x => by
    have ih := sw2_ok n (x / 16)
    have a1 := and_cut 4 (x / 4) (repD 3 16 (n + 1))
    have a2 := and_cut 4 x (repD 3 16 (n + 1))
    have e1 : repD 3 16 (n + 1) % 2 ^ 4 = 3 := by rw [repD]; omega
    have e2 : repD 3 16 (n + 1) / 2 ^ 4 = repD 3 16 n := by rw [repD]; omega
    rw [e1, e2, and_3] at a1 a2
    have e3 : x / 4 / 2 ^ 4 = x / 16 / 4 := by omega
    rw [e3] at a1
    rw [show x / 2 ^ 4 = x / 16 by omega] at a2
    rw [a1, a2, sw2, ← ih]
    omega
theorem sw2_sum : ∀ n x, dsum 16 n (sw2 n x) = dsum 4 (2 * n) x
  | 0, _ => rfl
  | n + 1, x => by
    have ih := sw2_sum n (x / 16)
    have e1 : sw2 (n + 1) x % 16 = x % 4 + x / 4 % 4 := by rw [sw2]; omega
    have e2 : sw2 (n + 1) x / 16 = sw2 n (x / 16) := by rw [sw2]; omega
    rw [dsum, e1, e2, ih, show 2 * (n + 1) = 2 * n + 1 + 1 by omega, dsum, dsum, show x / 4 / 4 = x / 16 by omega]
    omega
theorem sw2_dig : ∀ n x, digL 4 2 (2 * n) x → digL 16 4 n (sw2 n x)
  | 0, _, _ => rfl
  | n + 1, x, h => by
    have e1 : sw2 (n + 1) x % 16 = x % 4 + x / 4 % 4 := by rw [sw2]; omega
    have e2 : sw2 (n + 1) x / 16 = sw2 n (x / 16) := by rw [sw2]; omega
    rw [show 2 * (n + 1) = 2 * n + 1 + 1 by omega] at h
    obtain ⟨h1, h2, h3⟩ := h
    rw [show x / 4 / 4 = x / 16 by omega] at h3
    refine ⟨by omega, ?_⟩
    rw [e2]; exact sw2_dig n _ h3
def sw3 : Nat → Nat → Nat
  | 0, _ => 0
  | n + 1, x => (x % 16 + x / 16 % 16) + 256 * sw3 n (x / 256)
theorem and_15 (x : Nat) : x % 2 ^ 8 &&& 15 = x % 16 := by
  have := Nat.and_two_pow_sub_one_eq_mod (x % 2 ^ 8) 4
  rw [show 2 ^ 4 - 1 = 15 by decide] at this
  rw [this]; omega
theorem dig_hd {B d n x : Nat} (h : digL B d n x) : x % B ≤ d := by
  cases n with
  | zero => have : x = 0 := h; subst this; simp
  | succ n => exact h.1
theorem sw3_ok : ∀ n x, digL 16 4 (2 * n) x → ((x / 16 + x) &&& repD 15 256 n) = sw3 n x
  | 0, x, _ => by simp [repD, sw3]
  | n + 1, x, h => by
    rw [show 2 * (n + 1) = 2 * n + 1 + 1 by omega] at h
    obtain ⟨h1, h2, h3⟩ := h
    rw [show x / 16 / 16 = x / 256 by omega] at h3
    have ih := sw3_ok n (x / 256) h3
    have h4 := dig_hd h3
    have a1 := and_cut 8 (x / 16 + x) (repD 15 256 (n + 1))
    have e1 : repD 15 256 (n + 1) % 2 ^ 8 = 15 := by rw [repD]; omega
    have e2 : repD 15 256 (n + 1) / 2 ^ 8 = repD 15 256 n := by rw [repD]; omega
    rw [e1, e2, and_15] at a1
    have hx : x / 16 = x / 16 % 16 + 16 * (x / 256) := by
      have := Nat.div_div_eq_div_mul x 16 16
      omega
    have e3 : (x / 16 + x) / 2 ^ 8 = x / 256 / 16 + x / 256 := by
      clear a1 ih h3
      have hx2 := Nat.div_add_mod x 16
      generalize x / 16 % 16 = e at *
      generalize x / 256 = d at *
      generalize x % 16 = f at *
      generalize x / 16 = g at *
      subst hx
      omega
    rw [e3, ih] at a1
    rw [a1, sw3]
    omega
theorem sw3_sum : ∀ n x, digL 16 4 (2 * n) x → dsum 256 n (sw3 n x) = dsum 16 (2 * n) x
  | 0, _, _ => rfl
  | n + 1, x, h => by
    rw [show 2 * (n + 1) = 2 * n + 1 + 1 by omega] at h
    obtain ⟨h1, h2, h3⟩ := h
    rw [show x / 16 / 16 = x / 256 by omega] at h3
    have ih := sw3_sum n (x / 256) h3
    have e1 : sw3 (n + 1) x % 256 = x % 16 + x / 16 % 16 := by rw [sw3]; omega
    have e2 : sw3 (n + 1) x / 256 = sw3 n (x / 256) := by rw [sw3]; omega
    rw [dsum, e1, e2, ih, show 2 * (n + 1) = 2 * n + 1 + 1 by omega, dsum, dsum, show x / 16 / 16 = x / 256 by omega]
    omega
theorem sw3_dig : ∀ n x, digL 16 4 (2 * n) x → digL 256 8 n (sw3 n x)
  | 0, _, _ => rfl
  | n + 1, x, h => by
    have e1 : sw3 (n + 1) x % 256 = x % 16 + x / 16 % 16 := by rw [sw3]; omega
    have e2 : sw3 (n + 1) x / 256 = sw3 n (x / 256) := by rw [sw3]; omega
    rw [show 2 * (n + 1) = 2 * n + 1 + 1 by omega] at h
    obtain ⟨h1, h2, h3⟩ := h
    rw [show x / 16 / 16 = x / 256 by omega] at h3
    refine ⟨by omega, ?_⟩
    rw [e2]; exact sw3_dig n _ h3
abbrev dg (i x : Nat) : Nat := x / 256 ^ i % 256
theorem dg_succ (i x : Nat) : dg (i + 1) x = dg i (x / 256) := by
  simp only [dg]
  rw [Nat.pow_succ, Nat.mul_comm, Nat.div_div_eq_div_mul]
theorem dg_shift {a k : Nat} (ha : 2 * a < 256) : ∀ (i x : Nat), (∀ j, dg j x ≤ a) → dg i (x + x / 256 ^ k) = dg i x + dg (i + k) x
  | 0, x, h => by
    have h0 := h 0
    have hk := h k
    simp only [dg, Nat.pow_zero, Nat.div_one, Nat.zero_add] at h0 hk ⊢
    generalize x / 256 ^ k = y at *
    omega
  | i + 1, x, h => by
    have h0 := h 0
    have hk := h k
    have ih := dg_shift (k := k) ha i (x / 256) fun j => by rw [← dg_succ]; exact h (j + 1)
    have e : (x + x / 256 ^ k) / 256 = x / 256 + x / 256 / 256 ^ k := by
      rw [Nat.div_div_eq_div_mul, Nat.mul_comm, ← Nat.div_div_eq_div_mul]
      simp only [dg, Nat.pow_zero, Nat.div_one] at h0 hk
      generalize x / 256 ^ k = y at *
      omega
    rw [dg_succ, e, ih, dg_succ, show i + 1 + k = i + k + 1 by omega, dg_succ]
theorem dig_dg {a : Nat} : ∀ (n x : Nat), digL 256 a n x → ∀ j, dg j x ≤ a
  | 0, x, h, j => by
    have : x = 0 := h
    subst this; simp [dg]
  | n + 1, x, h, 0 => by simpa [dg] using h.1
  | n + 1, x, h, j + 1 => by rw [dg_succ]; exact dig_dg n _ h.2 j
theorem dig_end {a : Nat} : ∀ (n x : Nat), digL 256 a n x → ∀ j, n ≤ j → dg j x = 0
  | 0, x, h, j, _ => by
    have : x = 0 := h
    subst this; simp [dg]
  | n + 1, x, h, 0, hj => by omega
  | n + 1, x, h, j + 1, hj => by rw [dg_succ]; exact dig_end n _ h.2 j (by omega)
theorem dig_le {a : Nat} : ∀ (n x : Nat), digL 256 a n x → x ≤ a * repD 1 256 n
  | 0, x, h => by
    have : x = 0 := h
    subst this; simp
  | n + 1, x, h => by
    have h1 := dig_le n _ h.2
    have h2 := h.1
    rw [repD, Nat.mul_add, Nat.mul_one, Nat.mul_left_comm]; omega
theorem rep4 : repD 1 256 8 = 72340172838076673 := by decide
theorem byte_sum {x : Nat} (h : digL 256 8 8 x) :
    (x + x / 256 + (x + x / 256) / 65536 + (x + x / 256 + (x + x / 256) / 65536) / 4294967296) % 128 = dsum 256 8 x ∧ x < 723401728380766731 := by
  have hd := dig_dg 8 x h
  have he := dig_end 8 x h
  have y1 := dg_shift (a := 8) (k := 1) (by omega) (x := x)
  rw [show 256 ^ 1 = 256 by decide] at y1
  have y1 := fun i => y1 i hd
  generalize hy : x + x / 256 = y at *
  have hyd : ∀ j, dg j y ≤ 16 := fun j => by have := y1 j; have := hd j; have := hd (j + 1); omega
  have z1 := dg_shift (a := 16) (k := 2) (by omega) (x := y)
  rw [show 256 ^ 2 = 65536 by decide] at z1
  have z1 := fun i => z1 i hyd
  generalize hz : y + y / 65536 = z at *
  have hzd : ∀ j, dg j z ≤ 32 := fun j => by have := z1 j; have := hyd j; have := hyd (j + 2); omega
  have w1 := dg_shift (a := 32) (k := 4) (by omega) (x := z)
  rw [show 256 ^ 4 = 4294967296 by decide] at w1
  have w1 := w1 0 hzd
  generalize hw : z + z / 4294967296 = w at *
  have hs : dsum 256 8 x = dg 0 x + (dg 1 x + (dg 2 x + (dg 3 x + (dg 4 x + (dg 5 x + (dg 6 x + dg 7 x)))))) := by
    simp only [dsum, dg_succ]
    simp [dg]
  have h8 := he 8 (by omega)
  have b := fun i => hd i
  have b0 := hd 0
  have b1 := hd 1
  have b2 := hd 2
  have b3 := hd 3
  have b4 := hd 4
  have b5 := hd 5
  have b6 := hd 6
  have b7 := hd 7
  have z0 := z1 0
  have z4 := z1 4
  have q0 := y1 0
  have q2 := y1 2
  have q4 := y1 4
  have q6 := y1 6
  have e1 : dg 0 w = dsum 256 8 x := by
    rw [hs]
    simp only [Nat.zero_add, Nat.reduceAdd] at *
    omega
  have e2 : dg 0 w = w % 256 := by simp [dg]
  have hle := dig_le 8 x h
  rw [rep4] at hle
  refine ⟨?_, by omega⟩
  rw [← e1]
  have : dg 0 w ≤ 64 := by rw [e1, hs]; omega
  omega
theorem rep1 : repD 1 4 32 = 6148914691236517205 := by decide
theorem rep2 : repD 3 16 16 = 3689348814741910323 := by decide
theorem rep3 : repD 15 256 8 = 1085102592571150095 := by decide
theorem pop_ok (x : Nat) : ∃ a b c : Nat, ((x / 2) &&& 6148914691236517205) + (x &&& 6148914691236517205) = a ∧ ((a / 4) &&& 3689348814741910323) + (a &&& 3689348814741910323) = b ∧ ((b / 16 + b) &&& 1085102592571150095) = c ∧
    (c + c / 256 + (c + c / 256) / 65536 + (c + c / 256 + (c + c / 256) / 65536) / 4294967296) % 128 = popN 64 x ∧ c < 723401728380766731 ∧ b < 4919131752989213765 ∧ a < 12297829382473034411 := by
  have h1 := sw1_ok 32 x
  have h2 := sw2_ok 16 (sw1 32 x)
  have d1 := sw1_dig 32 x
  have d2 := sw2_dig 16 _ d1
  have h3 := sw3_ok 8 _ d2
  have d3 := sw3_dig 8 _ d2
  rw [rep1] at h1
  rw [rep2] at h2
  rw [rep3] at h3
  obtain ⟨h4, h5⟩ := byte_sum d3
  refine ⟨_, _, _, h1, h2, h3, ?_, h5, ?_, ?_⟩
  · rw [h4, sw3_sum 8 _ d2, sw2_sum 16, sw1_sum 32]
  · have q1 : (sw1 32 x / 4) &&& 3689348814741910323 ≤ 3689348814741910323 := Nat.and_le_right
    have key : ∀ n y, digL 16 4 n y → 3 * y ≤ 4 * repD 3 16 n := by
      intro n
      induction n with
      | zero => intro y h; have : y = 0 := h; subst this; simp
      | succ n ih =>
        intro y h
        have := ih _ h.2
        have := h.1
        rw [repD]; omega
    have := key 16 _ d2
    rw [rep2] at this; omega
  · have key : ∀ n y, digL 4 2 n y → y ≤ 2 * repD 1 4 n := by
      intro n
      induction n with
      | zero => intro y h; have : y = 0 := h; subst this; simp
      | succ n ih =>
        intro y h
        have := ih _ h.2
        have := h.1
        rw [repD]; omega
    have := key 32 _ d1
    rw [rep1] at this; omega
theorem binA_and127 {n : Nat} (h : n < 4611686018427387904) : binA .and (.d (.v (.int .i64 n))) (.d (.v (.int .i64 127))) = some (.d (di ((n % 128 : Nat) : Int))) := by
  have e1 : (BitVec.ofInt 64 (n : Int)).toNat = n := by rw [BitVec.toNat_ofInt]; omega
  have e2 : (BitVec.ofInt 64 127).toNat = 127 := by decide
  have e3 : (BitVec.ofInt 64 (n : Int) &&& BitVec.ofInt 64 127).toNat = n % 128 := by
    rw [BitVec.toNat_and, e1, e2]; exact Nat.and_two_pow_sub_one_eq_mod n 7
  have e4 : binI .and .i64 (n : Int) 127 = some (.int .i64 (IntKind.wrap .i64 ((BitVec.ofInt 64 (n : Int) &&& BitVec.ofInt 64 127).toNat : Nat))) := rfl
  simp only [binA, e4, BinOp.isShift, or_true, if_true, e3, Option.map_some]
  rw [wrap64 (by omega) (by omega)]
theorem nd2 (x : Nat) : (x : Int) / 2 = ((x / 2 : Nat) : Int) := by omega
theorem nd4 (x : Nat) : (x : Int) / 4 = ((x / 4 : Nat) : Int) := by omega
theorem nd16 (x : Nat) : (x : Int) / 16 = ((x / 16 : Nat) : Int) := by omega
theorem nd256 (x : Nat) : (x : Int) / 256 = ((x / 256 : Nat) : Int) := by omega
theorem nd65536 (x : Nat) : (x : Int) / 65536 = ((x / 65536 : Nat) : Int) := by omega
theorem nd32 (x : Nat) : (x : Int) / 4294967296 = ((x / 4294967296 : Nat) : Int) := by omega
theorem nadd (a b : Nat) : (a : Int) + (b : Int) = ((a + b : Nat) : Int) := by omega
theorem d_OnesCount64_64 (x : Nat) (hx : x < 18446744073709551616) : Den PA f_math_bits_OnesCount64 [.d (.v (.int .u64 x))] [.any] (.d (di (popN 64 x))) := by
  obtain ⟨a, b, c, h1, h2, h3, h4, h5, h6, h7⟩ := pop_ok x
  have h8 : b / 16 + b < 18446744073709551616 := by omega
  refine den_go [] l_math_bits_OnesCount64 ?_
  simp -implicitDefEqProofs (maxSteps := 1000000) (disch := (first | omega | (simp only [go_sem] <;> omega) | fail)) only [go_sem, ints, bools, mat, c_math_bits_OnesCount64, binA_shr_u, binA_and_u, binA_add_u, Int.reduceToNat, Int.reducePow, nd2, nd4, nd16, nd256, nd65536, nd32, nadd, h1, h2, h3, Int.toNat_natCast, binA_and127, h4]
def mkL : List Bool → Nat
  | [] => 0
  | b :: r => (if b = true then 1 else 0) + 2 * mkL r
theorem mkL_lt : ∀ L : List Bool, mkL L < 2 ^ L.length
  | [] => by simp [mkL]
  | b :: r => by
    have := mkL_lt r
    rw [mkL, List.length_cons, Nat.pow_succ]
    cases b <;> simp <;> omega
theorem mkL_bit : ∀ (L : List Bool) (i : Nat), (mkL L).testBit i = L.getD i false
  | [], i => by simp [mkL]
  | b :: r, 0 => by
    rw [mkL, Nat.testBit_zero]
    cases b <;> simp <;> omega
  | b :: r, i + 1 => by
    have e : ((if b = true then 1 else 0) + 2 * mkL r) / 2 = mkL r := by cases b <;> simp <;> omega
    rw [mkL, Nat.testBit_succ, e, mkL_bit r i]; simp
theorem mkL_pop : ∀ (n : Nat) (L : List Bool), L.length ≤ n → popN n (mkL L) = (L.filter id).length
  | 0, L, h => by
    have : L = [] := List.eq_nil_of_length_eq_zero (by omega)
    subst this; rfl
  | n + 1, [], h => by
    have := mkL_pop n [] (by simp)
    rw [mkL] at this
    rw [mkL, popN]
    simpa using this
  | n + 1, b :: r, h => by
    have ih := mkL_pop n r (by simpa using h)
    have e : ((if b = true then 1 else 0) + 2 * mkL r) / 2 = mkL r := by cases b <;> simp <;> omega
    have e2 : ((if b = true then 1 else 0) + 2 * mkL r) % 2 = if b = true then 1 else 0 := by cases b <;> simp <;> omega
    rw [mkL, popN, e, e2, ih]
    cases b <;> simp; omega
abbrev wsN (l X : List Int) : Nat := mkL (cvL l X)
theorem wsN_lt {l : List Int} (h27 : prodM l ≤ 27) (X : List Int) : wsN l X < 134217728 := by
  have h1 := mkL_lt (cvL l X)
  rw [cvL_len] at h1
  have h2 : 2 ^ (prodM l).toNat ≤ 2 ^ 27 := Nat.pow_le_pow_right (by omega) (by omega)
  have h3 : (2 : Nat) ^ 27 = 134217728 := by decide
  show mkL (cvL l X) < 134217728
  omega
theorem wsN_bit (l X : List Int) (i : Nat) : (wsN l X).testBit i = decide (i < (prodM l).toNat ∧ (i : Int) ∈ X) := by
  rw [mkL_bit]
  by_cases h : i < (prodM l).toNat
  · rw [cvL_get l X h]; simp [h]
  · rw [List.getD_eq_getElem?_getD, List.getElem?_eq_none (by rw [cvL_len]; omega)]; simp [h]
theorem wsN_or (l X Y : List Int) : wsN l X ||| wsN l Y = wsN l (X ++ Y) := by
  apply Nat.eq_of_testBit_eq
  intro i
  rw [Nat.testBit_or, wsN_bit, wsN_bit, wsN_bit, Bool.eq_iff_iff]
  simp only [Bool.or_eq_true, decide_eq_true_eq, List.mem_append]
  exact ⟨fun h => h.elim (fun h => ⟨h.1, .inl h.2⟩) fun h => ⟨h.1, .inr h.2⟩, fun h => h.2.elim (fun q => .inl ⟨h.1, q⟩) fun q => .inr ⟨h.1, q⟩⟩
theorem wsN_one {l : List Int} {u : Int} (hu : 0 ≤ u ∧ u < prodM l) : 2 ^ u.toNat = wsN l [u] := by
  apply Nat.eq_of_testBit_eq
  intro i
  rw [wsN_bit, Nat.testBit_two_pow, Bool.eq_iff_iff, decide_eq_true_eq, decide_eq_true_eq, List.mem_singleton]
  omega
theorem wsN_nil (l : List Int) : wsN l [] = 0 := by
  apply Nat.eq_of_testBit_eq
  intro i
  rw [wsN_bit]; simp
theorem mkL_all : ∀ n, mkL (List.replicate n true) + 1 = 2 ^ n
  | 0 => rfl
  | n + 1 => by
    have := mkL_all n
    rw [List.replicate_succ, mkL, Nat.pow_succ, if_pos rfl]; omega
theorem wsN_all (l : List Int) : wsN l (allW l) + 1 = 2 ^ (prodM l).toNat := by
  have e : List.replicate (prodM l).toNat true = cvL l (allW l) := cvL_eq (by rw [List.length_replicate]) fun i hi => by
    rw [List.getD_eq_getElem?_getD, List.getElem?_replicate, if_pos hi, Option.getD_some]
    symm; rw [decide_eq_true_eq, allW_mem]; omega
  rw [← mkL_all, e]
theorem wsN_eq {l X Y : List Int} (h : ∀ u : Int, 0 ≤ u → u < prodM l → (u ∈ X ↔ u ∈ Y)) : wsN l X = wsN l Y := by
  unfold wsN; rw [cvL_congr h]
theorem wsN_inj {l X Y : List Int} (h : wsN l X = wsN l Y) : ∀ u : Int, 0 ≤ u → u < prodM l → (u ∈ X ↔ u ∈ Y) := fun u h0 h1 => by
  have e : (wsN l X).testBit u.toNat = (wsN l Y).testBit u.toNat := by rw [h]
  rw [wsN_bit, wsN_bit] at e
  have h2 : u.toNat < (prodM l).toNat := by omega
  simpa [h2, Int.toNat_of_nonneg h0] using e
theorem wsN_full (l X : List Int) : (wsN l X = wsN l (allW l)) ↔ opn l X = none := by
  constructor
  · intro h
    cases ho : opn l X with
    | none => rfl
    | some o =>
      obtain ⟨h1, h2, _⟩ := opn_some ho
      exact absurd ((wsN_inj h o h1.1 h1.2).2 ((allW_mem l o).2 (by omega))) h2
  · intro h
    exact wsN_eq fun u h0 h1 => ⟨fun _ => (allW_mem l u).2 (by omega), fun _ => opn_none h u h0 h1⟩
def cmpX (l X : List Int) : List Int := (allW l).filter fun u => !decide (u ∈ X)
theorem wsN_pop {l : List Int} (h27 : prodM l ≤ 27) (X : List Int) : popN 64 (wsN l (cmpX l X)) = muX l X := by
  rw [mkL_pop 64 _ (by rw [cvL_len]; omega), cvL, List.filter_map, List.length_map]
  unfold muX cmpX
  congr 1
  apply List.filter_congr
  intro u hu
  simp only [Function.comp, id_eq, List.mem_filter, hu, true_and]
  cases decide (u ∈ X) <;> rfl
theorem binA_or_u {a b : Int} (h : 0 ≤ a) (h1 : a < 18446744073709551616) (h2 : 0 ≤ b) (h3 : b < 18446744073709551616) :
    binA .or (.d (.v (.int .u64 a))) (.d (.v (.int .u64 b))) = some (.d (.v (.int .u64 ((a.toNat ||| b.toNat : Nat) : Int)))) := by
  have e : (BitVec.ofInt 64 a ||| BitVec.ofInt 64 b).toNat = a.toNat ||| b.toNat := by rw [BitVec.toNat_or, ofInt_nat_u h h1, ofInt_nat_u h2 h3]
  have hl : a.toNat ||| b.toNat < 18446744073709551616 := by
    have := @Nat.or_lt_two_pow a.toNat b.toNat 64 (by omega) (by omega)
    omega
  have e2 : binI .or .u64 a b = some (.int .u64 (IntKind.wrap .u64 ((BitVec.ofInt 64 a ||| BitVec.ofInt 64 b).toNat : Nat))) := rfl
  simp only [binA, e2, BinOp.isShift, or_true, if_true, e, Option.map_some, wrap_u64 (x := ((a.toNat ||| b.toNat : Nat) : Int)) (by omega) (by omega)]
theorem wsN_not {l : List Int} (h27 : prodM l ≤ 27) (X : List Int) : (BitVec.ofInt 64 (wsN l (allW l) : Int) &&& ~~~BitVec.ofInt 64 (wsN l X : Int)).toNat = wsN l (cmpX l X) := by
  apply Nat.eq_of_testBit_eq
  intro i
  have e1 : (BitVec.ofInt 64 (wsN l (allW l) : Int)).toNat = wsN l (allW l) := by
    have := wsN_lt h27 (allW l)
    rw [ofInt_nat_u (by omega) (by omega)]; simp
  have e2 : (BitVec.ofInt 64 (wsN l X : Int)).toNat = wsN l X := by
    have := wsN_lt h27 X
    rw [ofInt_nat_u (by omega) (by omega)]; simp
  rw [BitVec.testBit_toNat, BitVec.getLsbD_and, BitVec.getLsbD_not, ← BitVec.testBit_toNat, ← BitVec.testBit_toNat, e1, e2, wsN_bit, wsN_bit, wsN_bit, Bool.eq_iff_iff]
  unfold cmpX
  simp only [Bool.and_eq_true, decide_eq_true_eq, Bool.not_eq_true', decide_eq_false_iff_not, List.mem_filter, allW_mem]
  constructor
  · rintro ⟨⟨h1, h2⟩, h3, h4⟩
    exact ⟨h1, h2, fun h => h4 ⟨h1, h⟩⟩
  · rintro ⟨h1, h2, h3⟩
    exact ⟨⟨h1, h2⟩, by omega, fun h => h3 h.2⟩
theorem binA_not_u {l : List Int} (h27 : prodM l ≤ 27) (X : List Int) : binA .andNot (.d (.v (.int .u64 (wsN l (allW l) : Int)))) (.d (.v (.int .u64 (wsN l X : Int)))) = some (.d (.v (.int .u64 (wsN l (cmpX l X) : Int)))) := by
  have hl := wsN_lt h27 (cmpX l X)
  have e2 : binI .andNot .u64 (wsN l (allW l) : Int) (wsN l X : Int) = some (.int .u64 (IntKind.wrap .u64 ((BitVec.ofInt 64 (wsN l (allW l) : Int) &&& ~~~BitVec.ofInt 64 (wsN l X : Int)).toNat : Nat))) := rfl
  simp only [binA, e2, BinOp.isShift, or_true, if_true, wsN_not h27 X, Option.map_some]
  rw [wrap_u64 (by omega) (by omega)]
theorem binA_shl_u {k : IntKind} {b : Int} (h : 0 ≤ b) (h' : b ≤ 62) : binA .shl (.d (.v (.int .u64 1))) (.d (.v (.int k b))) = some (.d (.v (.int .u64 ((2 ^ b.toNat : Nat) : Int)))) := by
  have e : min b.toNat 64 = b.toNat := by omega
  have h1 : (2 : Nat) ^ b.toNat ≤ 2 ^ 62 := Nat.pow_le_pow_right (by omega) (by omega)
  have h2 : (2 : Nat) ^ 62 = 4611686018427387904 := by decide
  have h3 : (2 : Int) ^ b.toNat = ((2 ^ b.toNat : Nat) : Int) := by rw [Int.natCast_pow]; rfl
  have e2 : binI .shl .u64 1 b = some (.int .u64 (IntKind.wrap .u64 (1 * 2 ^ min b.toNat 64))) := by
    simp only [binI, if_neg (show ¬ b < 0 by omega)]; rfl
  simp only [binA, e2, BinOp.isShift, true_or, if_true, e, Option.map_some, Int.one_mul]
  rw [h3]
  rw [h2] at h1
  clear h3 e2 e
  generalize (2 : Nat) ^ b.toNat = n at *
  rw [wrap_u64 (x := (n : Int)) (by omega) (by omega)]
theorem or_b (l X Y : List Int) (h27 : prodM l ≤ 27) : binA .or (.d (.v (.int .u64 (wsN l X : Int)))) (.d (.v (.int .u64 (wsN l Y : Int)))) = some (.d (.v (.int .u64 (wsN l (X ++ Y) : Int)))) := by
  have h1 := wsN_lt h27 X
  have h2 := wsN_lt h27 Y
  rw [binA_or_u (by omega) (by omega) (by omega) (by omega), Int.toNat_natCast, Int.toNat_natCast, wsN_or]
def duN (n : Nat) : D := .v (.int .u64 n)
@[go_sem] theorem flat_du (l : List Nat) : flat (l.map duN) = l.map duN := flat_one _ l
@[go_sem] theorem getU {l : List Nat} {j : Nat} (h : j < l.length) : (l.map duN)[j]? = some (duN (l.getD j 0)) := by simp [h]
@[go_sem] theorem app_du1 (l : List Nat) (v : Nat) : l.map duN ++ [D.v (.int .u64 (v : Int))] = (l ++ [v]).map duN := by rw [List.map_append]; rfl
@[go_sem] theorem take_du (l : List Nat) (n : Nat) : (l.map duN).take n = (l.take n).map duN := by rw [List.map_take]
@[go_sem] theorem duN_v (n : Nat) : duN n = .v (.int .u64 n) := rfl
@[go_sem] theorem lf_own_du (z : Nat) (l : List Nat) : lfR (.own z (l.map duN)) = true := by simp [lfR, lfD, duN]
@[go_sem] theorem all_lf_du (l : List Nat) : (l.map duN).all lfD = true := by simp [lfD, duN]
def nearB (l : List Int) (r : Int) : List Nat := (allW l).map fun w => wsN l (ballM l w r)
@[go_sem] theorem nearB_len (l : List Int) (r : Int) : (nearB l r).length = (prodM l).toNat := by simp [nearB, allW_len]
theorem nearB_get {l : List Int} (r : Int) {w : Int} (h : 0 ≤ w ∧ w < prodM l) : (nearB l r).getD w.toNat 0 = wsN l (ballM l w r) := by
  have h2 : w.toNat < (allW l).length := by rw [allW_len]; omega
  have e := allW_get l (i := w.toNat) (by omega)
  rw [List.getD_eq_getElem?_getD, List.getElem?_eq_getElem h2, Option.getD_some] at e
  simp [nearB, h2, e, Int.toNat_of_nonneg h.1]
theorem nearB_take (l : List Int) (r : Int) {j : Nat} (h : j < (prodM l).toNat) : (nearB l r).take (j + 1) = (nearB l r).take j ++ [wsN l (ballM l j r)] := by
  have e := nearB_get (l := l) r (w := (j : Int)) (by omega)
  rw [Int.toNat_natCast] at e
  have h2 : j < (nearB l r).length := by rw [nearB_len]; exact h
  rw [List.take_add_one, List.getElem?_eq_getElem h2]
  rw [List.getD_eq_getElem?_getD, List.getElem?_eq_getElem h2, Option.getD_some] at e
  rw [e]; rfl
theorem d_impl_nearSets (l : List Int) (hs : isSpaceM l = true) (h27 : prodM l ≤ 27) (r : Int) : Den PA f_impl_nearSets [.d (.agg [ints l]), .d (di r)] [.any, .any] (.own 1 ((nearB l r).map duN)) := by
  have hp1 := prodM_pos (isSpaceM_szs hs)
  refine den_go [] l_impl_nearSets ?_
  repeat' (first | simp -implicitDefEqProofs (maxSteps := 1000000) (disch := (first | omega | (simp only [go_sem] <;> omega) | fail)) only [go_sem, ints, bools, mat, c_impl_nearSets] | ((first | apply goIf_b | apply goG_b | apply goTG_b | apply goOG_b) <;> intro h <;> ((try simp only [hnq] at h); (try simp only [h]); (try simp only [hnr] at h)) <;> (try (exfalso; omega))))
  first | refine goC_call [.r] (d_impl_count l hs) ?_ | refine goOC_call [.r] (d_impl_count l hs) ?_
  repeat' (first | simp -implicitDefEqProofs (maxSteps := 1000000) (disch := (first | omega | (simp only [go_sem] <;> omega) | fail)) only [go_sem, ints, bools, mat] | ((first | apply goIf_b | apply goG_b | apply goTG_b | apply goOG_b) <;> intro h <;> ((try simp only [hnq] at h); (try simp only [h]); (try simp only [hnr] at h)) <;> (try (exfalso; omega))))
  refine go_loop (fun (j : Nat) => ⟨[(1, .d (di r)), (2, .ref 0 0), (5, .sl 1 0 j 1), (12, .d (di (prodM l))), (13, .d (di j))], [some (.var [ints l]), some (.dat 1 (((nearB l r).take j).map duN))]⟩) (fun j => j ≤ (prodM l).toNat) (fun j => (prodM l).toNat - j) 0 ?_ ?_ ?_
  · simp -implicitDefEqProofs (maxSteps := 1000000) (disch := (first | omega | (simp only [go_sem] <;> omega) | fail)) only [go_sem, ints, bools, mat]
  · exact Nat.zero_le _
  · intro j hj J hJ
    by_cases hjl : j < (prodM l).toNat
    · have hB := ball_in l j r
      have hBl : (ballM l j r).length ≤ (prodM l).toNat := by unfold ballM; exact filter_len_le _ _ _ (by rw [allW_len]; exact Nat.le_refl _)
      have e := nearB_take l r hjl
      repeat' (first | simp -implicitDefEqProofs (maxSteps := 1000000) (disch := (first | omega | (simp only [go_sem] <;> omega) | fail)) only [go_sem, ints, bools, mat] | ((first | apply goIf_b | apply goG_b | apply goTG_b | apply goOG_b) <;> intro h <;> ((try simp only [hnq] at h); (try simp only [h]); (try simp only [hnr] at h)) <;> (try (exfalso; omega))))
      first | refine goC_call [.r, .r, .r] (d_impl_ball l hs j r (by omega) (by omega)) ?_ | refine goOC_call [.r, .r, .r] (d_impl_ball l hs j r (by omega) (by omega)) ?_
      generalize ballM l j r = B at *
      repeat' (first | simp -implicitDefEqProofs (maxSteps := 1000000) (disch := (first | omega | (simp only [go_sem] <;> omega) | fail)) only [go_sem, ints, bools, mat] | ((first | apply goIf_b | apply goG_b | apply goTG_b | apply goOG_b) <;> intro h <;> ((try simp only [hnq] at h); (try simp only [h]); (try simp only [hnr] at h)) <;> (try (exfalso; omega))))
      refine go_loop (fun (k : Nat) => ⟨[(1, .d (di r)), (2, .ref 0 0), (5, .sl 1 0 j 1), (7, .d (.v (.int .u64 (wsN l (B.take k) : Int)))), (12, .d (di (prodM l))), (13, .d (di j)), (19, .sl 2 0 B.length 1), (20, .d (di B.length)), (21, .d (di k))], [some (.var [ints l]), some (.dat 1 (((nearB l r).take j).map duN)), some (.dat 1 (B.map di))]⟩) (fun k => k ≤ B.length) (fun k => B.length - k) 0 ?_ ?_ ?_
      · simp -implicitDefEqProofs (maxSteps := 1000000) (disch := (first | omega | (simp only [go_sem] <;> omega) | fail)) only [go_sem, ints, bools, mat, List.take_zero, wsN_nil]
      · exact Nat.zero_le _
      · intro k hk J2 hJ2
        by_cases hkl : k < B.length
        · have hub := inC_get hB k hkl
          have e1 := wsN_one (l := l) hub
          have e2 := take_one B hkl
          have e3 := or_b l (B.take k) [B.getD k 0] h27
          rw [← e2] at e3
          repeat' (first | simp -implicitDefEqProofs (maxSteps := 1000000) (disch := (first | omega | (simp only [go_sem] <;> omega) | fail)) only [go_sem, ints, bools, mat, binA_shl_u, e1, e3] | ((first | apply goIf_b | apply goG_b | apply goTG_b | apply goOG_b) <;> intro h <;> ((try simp only [hnq] at h); (try simp only [h]); (try simp only [hnr] at h)) <;> (try (exfalso; omega))))
          refine hJ2 (k + 1) (by omega) (by omega) _ ?_
          simp -implicitDefEqProofs (maxSteps := 1000000) (disch := (first | omega | (simp only [go_sem] <;> omega) | fail)) only [go_sem, ints, bools, mat]
          rfl
        · have hke : k = B.length := by omega
          subst hke
          repeat' (first | simp -implicitDefEqProofs (maxSteps := 1000000) (disch := (first | omega | (simp only [go_sem] <;> omega) | fail)) only [go_sem, ints, bools, mat, List.take_length] | ((first | apply goIf_b | apply goG_b | apply goTG_b | apply goOG_b) <;> intro h <;> ((try simp only [hnq] at h); (try simp only [h]); (try simp only [hnr] at h)) <;> (try (exfalso; omega))))
          refine hJ (j + 1) (by omega) (by omega) _ ?_
          simp -implicitDefEqProofs (maxSteps := 1000000) (disch := (first | omega | (simp only [go_sem] <;> omega) | fail)) only [go_sem, ints, bools, mat, e]
          rfl
    · have hje : j = (prodM l).toNat := by omega
      subst hje
      have el : (nearB l r).take (prodM l).toNat = nearB l r := by rw [← nearB_len l r, List.take_length]
      repeat' (first | simp -implicitDefEqProofs (maxSteps := 1000000) (disch := (first | omega | (simp only [go_sem] <;> omega) | fail)) only [go_sem, ints, bools, mat, el] | ((first | apply goIf_b | apply goG_b | apply goTG_b | apply goOG_b) <;> intro h <;> ((try simp only [hnq] at h); (try simp only [h]); (try simp only [hnr] at h)) <;> (try (exfalso; omega))))
def nvC (f : Nat) (a b : Option (List Int)) : Option (List Int) :=
  match a with
  | some L => some ((f : Int) :: L)
  | none => b
def nvF (g : Nat → Option (List Int)) : Nat → Nat → Option (List Int)
  | 0, _ => none
  | m + 1, f => nvC f (g f) (nvF g m (f + 1))
theorem nvF_some {g : Nat → Option (List Int)} : ∀ {m f : Nat} {L : List Int}, nvF g m f = some L → ∃ w L', f ≤ w ∧ w < f + m ∧ g w = some L' ∧ L = (w : Int) :: L'
  | 0, f, L, h => by cases h
  | m + 1, f, L, h => by
    rw [nvF] at h
    cases hg : g f with
    | some L' =>
      rw [hg] at h
      have h : some ((f : Int) :: L') = some L := h
      injection h with h
      exact ⟨f, L', Nat.le_refl _, by omega, hg, h.symm⟩
    | none =>
      rw [hg] at h
      have h : nvF g m (f + 1) = some L := h
      obtain ⟨w, L', h1, h2, h3, h4⟩ := nvF_some h
      exact ⟨w, L', by omega, by omega, h3, h4⟩
theorem nvF_ne {g : Nat → Option (List Int)} : ∀ {m f w : Nat}, f ≤ w → w < f + m → g w ≠ none → nvF g m f ≠ none
  | 0, f, w, h1, h2, _ => by omega
  | m + 1, f, w, h1, h2, h3 => by
    rw [nvF]
    cases hg : g f with
    | some L' => intro h; cases h
    | none =>
      show nvF g m (f + 1) ≠ none
      have : w ≠ f := fun e => h3 (e ▸ hg)
      exact nvF_ne (by omega) (by omega) h3
theorem nvF_congr {g g' : Nat → Option (List Int)} : ∀ {m f : Nat}, (∀ w, f ≤ w → w < f + m → g w = g' w) → nvF g m f = nvF g' m f
  | 0, _, _ => rfl
  | m + 1, f, h => by rw [nvF, nvF, h f (Nat.le_refl _) (by omega), nvF_congr fun w h1 h2 => h w (by omega) (by omega)]
theorem nvF_none {g : Nat → Option (List Int)} {m f : Nat} (h : ∀ w, f ≤ w → w < f + m → g w = none) : nvF g m f = none := by
  cases hx : nvF g m f with
  | none => rfl
  | some L =>
    obtain ⟨w, L', h1, h2, h3, _⟩ := nvF_some hx
    rw [h w h1 h2] at h3; cases h3
theorem nvF_cut {g : Nat → Option (List Int)} : ∀ {m m' f : Nat}, m ≤ m' → (∀ w, f + m ≤ w → w < f + m' → g w = none) → nvF g m' f = nvF g m f
  | 0, m', f, _, h => by rw [nvF]; exact nvF_none fun w h1 h2 => h w (by omega) h2
  | m + 1, 0, f, h1, _ => by omega
  | m + 1, m' + 1, f, h1, h => by rw [nvF, nvF, nvF_cut (m := m) (m' := m') (by omega) fun w h2 h3 => h w (by omega) (by omega)]
def nvZ : Option Int → Option (List Int)
  | none => some []
  | some _ => none
def nv (l : List Int) (r : Int) : Nat → Nat → List Int → Option (List Int)
  | 0, _, X => nvZ (opn l X)
  | k + 1, f, X => nvF (fun w => nv l r k (w + 1) (X ++ ballM l w r)) ((prodM l).toNat - f) f
def Cov (l : List Int) (r : Int) (X L : List Int) : Prop := ∀ u, 0 ≤ u → u < prodM l → u ∈ X ∨ ∃ w, w ∈ L ∧ u ∈ ballM l w r
structure AscF (l : List Int) (f : Nat) (L : List Int) : Prop where
  asc : L.Pairwise (· < ·)
  bnd : ∀ w, w ∈ L → (f : Int) ≤ w ∧ w < prodM l
theorem AscF_nil (l : List Int) (f : Nat) : AscF l f [] := ⟨List.Pairwise.nil, fun w hw => by cases hw⟩
theorem AscF_cons {l : List Int} {f w : Nat} {L : List Int} (hf : f ≤ w) (hw : (w : Int) < prodM l) (h : AscF l (w + 1) L) : AscF l f ((w : Int) :: L) := by
  refine ⟨List.pairwise_cons.2 ⟨fun u hu => ?_, h.asc⟩, fun u hu => ?_⟩
  · have := (h.bnd u hu).1; omega
  · rcases List.mem_cons.1 hu with rfl | hu
    · omega
    · have := h.bnd u hu; omega
theorem Cov_cons {l : List Int} {r : Int} {X L : List Int} {w : Int} : Cov l r (X ++ ballM l w r) L ↔ Cov l r X (w :: L) := by
  constructor
  · intro h u h0 h1
    rcases h u h0 h1 with q | ⟨v, hv, hu⟩
    · rcases List.mem_append.1 q with q | q
      · exact .inl q
      · exact .inr ⟨w, List.mem_cons_self, q⟩
    · exact .inr ⟨v, List.mem_cons_of_mem _ hv, hu⟩
  · intro h u h0 h1
    rcases h u h0 h1 with q | ⟨v, hv, hu⟩
    · exact .inl (List.mem_append_left _ q)
    · rcases List.mem_cons.1 hv with rfl | hv
      · exact .inl (List.mem_append_right _ hu)
      · exact .inr ⟨v, hv, hu⟩
theorem Cov_nil {l : List Int} {r : Int} {X : List Int} : Cov l r X [] ↔ opn l X = none := by
  constructor
  · intro h
    cases ho : opn l X with
    | none => rfl
    | some o =>
      obtain ⟨h1, h2, _⟩ := opn_some ho
      rcases h o h1.1 h1.2 with q | ⟨v, hv, _⟩
      · exact absurd q h2
      · cases hv
  · intro h u h0 h1
    exact .inl (opn_none h u h0 h1)
theorem nv_sound {l : List Int} {r : Int} : ∀ {k f : Nat} {X L : List Int}, nv l r k f X = some L → L.length = k ∧ AscF l f L ∧ Cov l r X L
  | 0, f, X, L, h => by
    rw [nv] at h
    cases ho : opn l X with
    | none =>
      rw [ho] at h
      have h : some [] = some L := h
      injection h with h
      subst h
      exact ⟨rfl, AscF_nil l f, Cov_nil.2 ho⟩
    | some o => rw [ho] at h; cases h
  | k + 1, f, X, L, h => by
    rw [nv] at h
    obtain ⟨w, L', h1, h2, h3, rfl⟩ := nvF_some h
    obtain ⟨i1, i2, i3⟩ := nv_sound h3
    exact ⟨by rw [List.length_cons, i1], AscF_cons h1 (by omega) i2, Cov_cons.1 i3⟩
theorem nv_compl {l : List Int} {r : Int} : ∀ {L X : List Int} {f : Nat}, AscF l f L → Cov l r X L → nv l r L.length f X ≠ none
  | [], X, f, _, hc => by
    rw [List.length_nil, nv, Cov_nil.1 hc]; intro h; cases h
  | w :: L, X, f, ha, hc => by
    have hw := ha.bnd w List.mem_cons_self
    have h2 := List.pairwise_cons.1 ha.asc
    rw [List.length_cons, nv]
    refine nvF_ne (w := w.toNat) (by omega) (by omega) ?_
    rw [Int.toNat_of_nonneg (by omega)]
    refine nv_compl ⟨h2.2, fun u hu => ?_⟩ (Cov_cons.2 hc)
    have := h2.1 u hu
    have := ha.bnd u (List.mem_cons_of_mem _ hu)
    omega
theorem muX_cov {l : List Int} {r : Int} (hs : isSpaceM l = true) (hr : 0 ≤ r) : ∀ (L : List Int) {X : List Int}, Cov l r X L → (muX l X : Int) ≤ L.length * bzM l r
  | [], X, h => by rw [opn_mu (Cov_nil.1 h)]; simp
  | w :: L, X, h => by
    have ih := muX_cov hs hr L (Cov_cons.2 h)
    have hb := ball_len hs w hr
    have key : ∀ A : List Int, (A.filter fun u => !decide (u ∈ X)).length ≤ (A.filter fun u => !decide (u ∈ X ++ ballM l w r)).length + (A.filter fun u => decide (u ∈ ballM l w r)).length := by
      intro A
      induction A with
      | nil => simp
      | cons x A ih =>
        rw [List.filter_cons, List.filter_cons, List.filter_cons]
        by_cases h1 : x ∈ X
        · rw [if_neg (by simp [h1]), if_neg (by simp [h1])]
          split
          · rw [List.length_cons]; omega
          · exact ih
        · by_cases h2 : x ∈ ballM l w r
          · rw [if_pos (by simp [h1]), if_neg (by simp [h2]), if_pos (by simp [h2])]
            simp only [List.length_cons]; omega
          · rw [if_pos (by simp [h1]), if_pos (by simp [h1, h2]), if_neg (by simp [h2])]
            simp only [List.length_cons]; omega
    have h1 := key (allW l)
    have h2 : ((allW l).filter fun u => decide (u ∈ ballM l w r)).length = (ballM l w r).length := by
      apply List.Perm.length_eq
      apply (List.perm_ext_iff_of_nodup ((allW_nodup l).filter _) (ballM_nodup l w r)).2
      intro u
      rw [List.mem_filter, allW_mem, decide_eq_true_eq]
      exact ⟨fun h => h.2, fun h => ⟨by have := ball_in l w r u h; omega, h⟩⟩
    unfold muX at ih ⊢
    rw [List.length_cons, Int.natCast_add, Int.add_mul]
    simp only [Int.natCast_one, Int.one_mul]
    omega
theorem nv_many {l : List Int} {r : Int} (hs : isSpaceM l = true) (hr : 0 ≤ r) {k f : Nat} {X : List Int} (h : (k : Int) * bzM l r < muX l X) : nv l r k f X = none := by
  cases hx : nv l r k f X with
  | none => rfl
  | some L =>
    obtain ⟨h1, _, h3⟩ := nv_sound hx
    have := muX_cov hs hr L h3
    rw [h1] at this; omega
def srZ (l : List Int) (r : Int) (k : Nat) (X : List Int) (F : Option (List Int)) : Option Int → Option (List Int)
  | none => none
  | some _ => if ((k + 1 : Nat) : Int) * bzM l r < muX l X then none else F
def sr (l : List Int) (r : Int) : Nat → Nat → List Int → Option (List Int)
  | 0, _, X => nvZ (opn l X)
  | k + 1, f, X => srZ l r k X (nvF (fun w => sr l r k (w + 1) (X ++ ballM l w r)) ((prodM l).toNat - f) f) (opn l X)
theorem sr_nv {l : List Int} {r : Int} (hs : isSpaceM l = true) (hr : 0 ≤ r) : ∀ {k f : Nat} {X : List Int}, (∀ L, AscF l f L → L.length < k → ¬ Cov l r X L) → sr l r k f X = nv l r k f X
  | 0, f, X, _ => rfl
  | k + 1, f, X, hm => by
    rw [sr]
    cases ho : opn l X with
    | none => exact absurd (Cov_nil.2 ho) (hm [] (AscF_nil l f) (by simp))
    | some o =>
      rw [srZ]
      split
      · rename_i h; exact (nv_many hs hr h).symm
      · rw [nv]
        refine nvF_congr fun w h1 h2 => sr_nv hs hr fun L hL hk hc => ?_
        exact hm ((w : Int) :: L) (AscF_cons h1 (by omega) hL) (by simpa using hk) (Cov_cons.1 hc)
theorem sr_top {l : List Int} {r : Int} (hs : isSpaceM l = true) (hr : 0 ≤ r) {k : Nat} (h : ∀ j, j < k → nv l r j 0 [] = none) : sr l r k 0 [] = nv l r k 0 [] :=
  sr_nv hs hr fun L hL hk hc => nv_compl hL hc (h _ hk)
def lastO (l : List Int) (r : Int) : Option Int → Int
  | none => prodM l - 1
  | some o => (ballM l o r).getD ((ballM l o r).length - 1) 0
theorem nv_last {l : List Int} {r : Int} (hs : isSpaceM l = true) (hr : 0 ≤ r) {k f w : Nat} {X : List Int} {o : Int} (ho : opn l X = some o) (hw : lastO l r (some o) < w) (hw2 : (w : Int) < prodM l) : nv l r k (w + 1) (X ++ ballM l w r) = none := by
  cases hx : nv l r k (w + 1) (X ++ ballM l w r) with
  | none => rfl
  | some L =>
    exfalso
    obtain ⟨_, h2, h3⟩ := nv_sound hx
    obtain ⟨hb, hoX, _⟩ := opn_some ho
    have hmax : ∀ v, v ∈ ballM l o r → v ≤ lastO l r (some o) := fun v hv => by
      obtain ⟨i, hi, rfl⟩ := List.mem_iff_getElem.1 hv
      have ha : (ballM l o r).Pairwise (· < ·) := (allW_asc l).filter _
      have e : lastO l r (some o) = (ballM l o r)[(ballM l o r).length - 1]'(by omega) := by
        rw [lastO, List.getD_eq_getElem?_getD, List.getElem?_eq_getElem (by omega), Option.getD_some]
      rw [e]
      rcases Nat.lt_or_ge i ((ballM l o r).length - 1) with q | q
      · have := List.pairwise_iff_getElem.1 ha i ((ballM l o r).length - 1) hi (by omega) q; omega
      · have : i = (ballM l o r).length - 1 := by omega
        subst this; exact Int.le_refl _
    have no : ∀ v : Int, (w : Int) ≤ v → 0 ≤ v → v < prodM l → o ∉ ballM l v r := fun v hv h0 h1 hm => by
      have := hmax v (ball_symm ⟨h0, h1⟩ hm); omega
    rcases Cov_cons.1 h3 o hb.1 hb.2 with q | ⟨v, hv, hu⟩
    · exact hoX q
    · rcases List.mem_cons.1 hv with rfl | hv
      · exact no w (Int.le_refl _) (by omega) hw2 hu
      · have := h2.bnd v hv
        exact no v (by omega) (by omega) this.2 hu
theorem lastO_bnd {l : List Int} {r : Int} (hs : isSpaceM l = true) (hr : 0 ≤ r) {X : List Int} : 0 ≤ lastO l r (opn l X) ∧ lastO l r (opn l X) < prodM l := by
  have hp1 := prodM_pos (isSpaceM_szs hs)
  cases ho : opn l X with
  | none => rw [lastO]; omega
  | some o =>
    obtain ⟨hb, _, _⟩ := opn_some ho
    have hl := List.length_pos_of_mem (ball_self hb hr)
    rw [lastO]
    exact inC_get (ball_in l o r) _ (by omega)
theorem nv_cut {l : List Int} {r : Int} (hs : isSpaceM l = true) (hr : 0 ≤ r) {k f : Nat} {X : List Int} :
    nv l r (k + 1) f X = nvF (fun w => nv l r k (w + 1) (X ++ ballM l w r)) ((lastO l r (opn l X)).toNat + 1 - f) f := by
  have hlb := lastO_bnd hs hr (X := X)
  rw [nv]
  refine nvF_cut (by omega) fun w h1 h2 => ?_
  cases ho : opn l X with
  | none => rw [ho, lastO] at h1; rw [ho] at hlb; omega
  | some o =>
    rw [ho] at h1 hlb
    exact nv_last hs hr (f := 0) ho (by omega) (by omega)
theorem nv_all {l : List Int} {r : Int} (hr : 0 ≤ r) : nv l r (prodM l).toNat 0 [] ≠ none := by
  have h := nv_compl (l := l) (r := r) (L := allW l) (X := []) (f := 0) ⟨allW_asc l, fun w hw => by rw [allW_mem] at hw; omega⟩ (fun u h0 h1 => .inr ⟨u, (allW_mem l u).2 (by omega), ball_self ⟨h0, h1⟩ hr⟩)
  rwa [allW_len] at h
def fkC (a : Option (List Int)) (b : List Int) : List Int :=
  match a with
  | some L => L
  | none => b
def fk (l : List Int) (r : Int) : Nat → Nat → List Int
  | 0, _ => []
  | m + 1, k => fkC (nv l r k 0 []) (fk l r m (k + 1))
def fcM (l : List Int) (r : Int) : List Int := fk l r (prodM l).toNat 1
theorem fk_ok {l : List Int} {r : Int} : ∀ {m k : Nat}, (∃ j, k ≤ j ∧ j < k + m ∧ nv l r j 0 [] ≠ none) → ∃ j, k ≤ j ∧ j < k + m ∧ nv l r j 0 [] = some (fk l r m k) ∧ ∀ i, k ≤ i → i < j → nv l r i 0 [] = none
  | 0, k, ⟨j, h1, h2, _⟩ => by omega
  | m + 1, k, ⟨j, h1, h2, h3⟩ => by
    rw [fk]
    cases hk : nv l r k 0 [] with
    | some L => exact ⟨k, Nat.le_refl _, by omega, hk, fun i a b => by omega⟩
    | none =>
      have : j ≠ k := fun e => h3 (e ▸ hk)
      obtain ⟨i, g1, g2, g3, g4⟩ := fk_ok (m := m) (k := k + 1) ⟨j, by omega, by omega, h3⟩
      refine ⟨i, by omega, by omega, g3, fun i' a b => ?_⟩
      by_cases e : i' = k
      · subst e; exact hk
      · exact g4 i' (by omega) b
theorem fcM_ok {l : List Int} {r : Int} (hs : isSpaceM l = true) (hr : 0 ≤ r) : ∃ k, 1 ≤ k ∧ k ≤ (prodM l).toNat ∧ nv l r k 0 [] = some (fcM l r) ∧ ∀ i, i < k → nv l r i 0 [] = none := by
  have hp1 := prodM_pos (isSpaceM_szs hs)
  obtain ⟨k, h1, h2, h3, h4⟩ := fk_ok (l := l) (r := r) (m := (prodM l).toNat) (k := 1) ⟨(prodM l).toNat, by omega, by omega, nv_all hr⟩
  refine ⟨k, h1, by omega, h3, fun i hi => ?_⟩
  by_cases e : i = 0
  · subst e
    rw [nv]
    cases ho : opn l [] with
    | none => exact absurd (opn_none ho 0 (by omega) (by omega)) (by simp)
    | some o => rfl
  · exact h4 i (by omega) hi
def srB : Option (List Int) → Bool
  | none => false
  | some _ => true
def srL (c : List Int) : Option (List Int) → List Int
  | none => c
  | some L => c ++ L
theorem muX_pos {l X : List Int} {o : Int} (h : opn l X = some o) : 1 ≤ muX l X := by
  obtain ⟨h1, h2, _⟩ := opn_some h
  have : o ∈ (allW l).filter fun u => !decide (u ∈ X) := List.mem_filter.2 ⟨(allW_mem l o).2 (by omega), by simpa using h2⟩
  exact List.length_pos_of_mem this
theorem nvF_go {g : Nat → Option (List Int)} {n w : Nat} (hw : w < n) (h : g w = none) : nvF g (n - w) w = nvF g (n - (w + 1)) (w + 1) := by
  rw [show n - w = (n - (w + 1)) + 1 by omega, nvF, h]; rfl
theorem nvF_hit {g : Nat → Option (List Int)} {n w : Nat} {L : List Int} (hw : w < n) (h : g w = some L) : nvF g (n - w) w = some ((w : Int) :: L) := by
  rw [show n - w = (n - (w + 1)) + 1 by omega, nvF, h]; rfl
theorem d_fcov (l : List Int) (hs : isSpaceM l = true) (h27 : prodM l ≤ 27) (r : Int) (hr0 : 0 ≤ r) (many : Nat) (hm : many ≤ 1000) : ∀ (k f : Nat) (X c : List Int) (g2 g3 g4 g5 g6 g7 : Value), c.length + k = many → f ≤ (prodM l).toNat →
    DenG PA f_impl_firstCover_1 8 [.d (di f), .d (.v (.int .u64 (wsN l X : Int))), .is (.box [di many]) g2, .is (.boxm [.own 1 (c.map di)]) g3, .is (.box [.v (.int .u64 (wsN l (allW l) : Int))]) g4, .is (.box [di (bzM l r)]) g5, .is (.box [.lst 1 ((nearB l r).map duN)]) g6, .is (.box [.v (.func (.func f_impl_firstCover_1) #[] [g2, g3, g4, g5, g6, g7].toArray)]) g7]
      [.any, .any, .any, .boxm [.own 1 ((srL c (sr l r k f X)).map di)], .any, .any, .any, .any] (.d (db (srB (sr l r k f X)))) := by
  have hp1 := prodM_pos (isSpaceM_szs hs)
  have hbz := bz_pos hs hr0
  have hal := wsN_lt h27 (allW l)
  intro k
  induction k with
  | zero =>
    intro f X c g2 g3 g4 g5 g6 g7 hk hf
    have hX := wsN_lt h27 X
    have hk2 : (many : Int) - c.length = 0 := by omega
    refine den_goG [2, 3, 4, 5, 6, 7] l_impl_firstCover_1 (by simp) ?_
    rw [sr]
    cases ho : opn l X with
    | none =>
      have he := (wsN_full l X).2 ho
      rw [nvZ, srL, srB, List.append_nil]
      repeat' (first | simp -implicitDefEqProofs (maxSteps := 1000000) (disch := (first | omega | (simp only [go_sem] <;> omega) | fail)) only [go_sem, ints, bools, mat, c_impl_firstCover_1, he, hk2] | ((first | apply goIf_b | apply goG_b | apply goTG_b | apply goOG_b) <;> intro h <;> ((try simp only [hnq] at h); (try simp only [h]); (try simp only [hnr] at h)) <;> (try (exfalso; omega))))
    | some o =>
      have he : (wsN l X : Int) ≠ wsN l (allW l) := fun e => by
        have := (wsN_full l X).1 (by omega)
        rw [ho] at this; cases this
      have hmu := muX_pos ho
      have hpop := d_OnesCount64_64 (wsN l (cmpX l X)) (by have := wsN_lt h27 (cmpX l X); omega)
      rw [wsN_pop h27] at hpop
      rw [nvZ, srL, srB]
      repeat' (first | simp -implicitDefEqProofs (maxSteps := 1000000) (disch := (first | omega | (simp only [go_sem] <;> omega) | fail)) only [go_sem, ints, bools, mat, c_impl_firstCover_1, hk2, binA_not_u h27, Int.zero_mul] | ((first | apply goIf_b | apply goG_b | apply goTG_b | apply goOG_b) <;> intro h <;> ((try simp only [hnq] at h); (try simp only [h]); (try simp only [hnr] at h)) <;> (try (exfalso; omega))))
      first | refine goC_call [.r] (hpop) ?_ | refine goOC_call [.r] (hpop) ?_
      repeat' (first | simp -implicitDefEqProofs (maxSteps := 1000000) (disch := (first | omega | (simp only [go_sem] <;> omega) | fail)) only [go_sem, ints, bools, mat] | ((first | apply goIf_b | apply goG_b | apply goTG_b | apply goOG_b) <;> intro h <;> ((try simp only [hnq] at h); (try simp only [h]); (try simp only [hnr] at h)) <;> (try (exfalso; omega))))
  | succ k ih =>
    intro f X c g2 g3 g4 g5 g6 g7 hk hf
    have hX := wsN_lt h27 X
    have hk2 : (many : Int) - c.length = ((k + 1 : Nat) : Int) := by omega
    refine den_goG [2, 3, 4, 5, 6, 7] l_impl_firstCover_1 (by simp) ?_
    rw [sr]
    cases ho : opn l X with
    | none =>
      have he := (wsN_full l X).2 ho
      rw [srZ, srL, srB]
      repeat' (first | simp -implicitDefEqProofs (maxSteps := 1000000) (disch := (first | omega | (simp only [go_sem] <;> omega) | fail)) only [go_sem, ints, bools, mat, c_impl_firstCover_1, he, hk2] | ((first | apply goIf_b | apply goG_b | apply goTG_b | apply goOG_b) <;> intro h <;> ((try simp only [hnq] at h); (try simp only [h]); (try simp only [hnr] at h)) <;> (try (exfalso; omega))))
      exact dbv (beq_eq_false_iff_ne.2 (by omega))
    | some o =>
      have he : (wsN l X : Int) ≠ wsN l (allW l) := fun e => by
        have := (wsN_full l X).1 (by omega)
        rw [ho] at this; cases this
      have hmu := muX_pos ho
      have hpop := d_OnesCount64_64 (wsN l (cmpX l X)) (by have := wsN_lt h27 (cmpX l X); omega)
      rw [wsN_pop h27] at hpop
      have hmul : ((k + 1 : Nat) : Int) * bzM l r ≤ 1000 * 27 := Int.mul_le_mul (by omega) (by omega) (by omega) (by omega)
      have hmul0 : 0 ≤ ((k + 1 : Nat) : Int) * bzM l r := Int.mul_nonneg (by omega) (by omega)
      have hmx := muX_le l X
      rw [srZ]
      by_cases hlt : ((k + 1 : Nat) : Int) * bzM l r < muX l X
      · rw [if_pos hlt, srL, srB]
        repeat' (first | simp -implicitDefEqProofs (maxSteps := 1000000) (disch := (first | omega | (simp only [go_sem] <;> omega) | fail)) only [go_sem, ints, bools, mat, c_impl_firstCover_1, hk2, binA_not_u h27] | ((first | apply goIf_b | apply goG_b | apply goTG_b | apply goOG_b) <;> intro h <;> ((try simp only [hnq] at h); (try simp only [h]); (try simp only [hnr] at h)) <;> (try (exfalso; omega))))
        first | refine goC_call [.r] (hpop) ?_ | refine goOC_call [.r] (hpop) ?_
        repeat' (first | simp -implicitDefEqProofs (maxSteps := 1000000) (disch := (first | omega | (simp only [go_sem] <;> omega) | fail)) only [go_sem, ints, bools, mat] | ((first | apply goIf_b | apply goG_b | apply goTG_b | apply goOG_b) <;> intro h <;> ((try simp only [hnq] at h); (try simp only [h]); (try simp only [hnr] at h)) <;> (try (exfalso; omega))))
      · rw [if_neg hlt]
        repeat' (first | simp -implicitDefEqProofs (maxSteps := 1000000) (disch := (first | omega | (simp only [go_sem] <;> omega) | fail)) only [go_sem, ints, bools, mat, c_impl_firstCover_1, hk2, binA_not_u h27] | ((first | apply goIf_b | apply goG_b | apply goTG_b | apply goOG_b) <;> intro h <;> ((try simp only [hnq] at h); (try simp only [h]); (try simp only [hnr] at h)) <;> (try (exfalso; omega))))
        first | refine goC_call [.r] (hpop) ?_ | refine goOC_call [.r] (hpop) ?_
        repeat' (first | simp -implicitDefEqProofs (maxSteps := 1000000) (disch := (first | omega | (simp only [go_sem] <;> omega) | fail)) only [go_sem, ints, bools, mat] | ((first | apply goIf_b | apply goG_b | apply goTG_b | apply goOG_b) <;> intro h <;> ((try simp only [hnq] at h); (try simp only [h]); (try simp only [hnr] at h)) <;> (try (exfalso; omega))))
        generalize hres : nvF (fun w => sr l r k (w + 1) (X ++ ballM l w r)) ((prodM l).toNat - f) f = res
        refine go_loop (fun (p : Nat × List Int) => ⟨[(1, .d (.v (.int .u64 (wsN l X : Int)))), (3, .ref 0 0), (6, .iref [.lst 1 ((nearB l r).map duN)] 0), (7, .iref [.v (.func (.func f_impl_firstCover_1) #[] [g2, g3, g4, g5, g6, g7].toArray)] 0), (12, .d (di p.1)), (58, .is (.iref [di many] 0) g2), (59, .is (.ref 0 0) g3), (60, .is (.iref [.v (.int .u64 (wsN l (allW l) : Int))] 0) g4), (61, .is (.iref [di (bzM l r)] 0) g5), (62, .is (.iref [.lst 1 ((nearB l r).map duN)] 0) g6), (63, .is (.iref [.v (.func (.func f_impl_firstCover_1) #[] [g2, g3, g4, g5, g6, g7].toArray)] 0) g7)], [some (.mix [.sl 1 0 c.length 1]), some (.dat 1 ((c ++ p.2).map di))]⟩)
          (fun p => f ≤ p.1 ∧ p.1 ≤ (prodM l).toNat ∧ nvF (fun w => sr l r k (w + 1) (X ++ ballM l w r)) ((prodM l).toNat - p.1) p.1 = res) (fun p => (prodM l).toNat - p.1) (f, []) ?_ ?_ ?_
        · simp -implicitDefEqProofs (maxSteps := 1000000) (disch := (first | omega | (simp only [go_sem] <;> omega) | fail)) only [go_sem, ints, bools, mat, List.append_nil]
        · exact ⟨Nat.le_refl _, hf, hres⟩
        · rintro ⟨w, t⟩ ⟨h1, h2, h3⟩ J hJ
          dsimp only at h1 h2 h3 ⊢
          by_cases hwl : w < (prodM l).toNat
          · have eN := nearB_get (l := l) r (w := (w : Int)) (by omega)
            rw [Int.toNat_natCast] at eN
            have eo := or_b l X (ballM l w r) h27
            have hW := wsN_lt h27 (ballM l w r)
            have hden := ih (w + 1) (X ++ ballM l w r) (c ++ [(w : Int)]) g2 g3 g4 g5 g6 g7 (by simp; omega) (by omega)
            rw [show ((w + 1 : Nat) : Int) = (w : Int) + 1 by omega] at hden
            repeat' (first | simp -implicitDefEqProofs (maxSteps := 1000000) (disch := (first | omega | (simp only [go_sem] <;> omega) | fail)) only [go_sem, ints, bools, mat, eN, eo, List.take_left] | ((first | apply goIf_b | apply goG_b | apply goTG_b | apply goOG_b) <;> intro h <;> ((try simp only [hnq] at h); (try simp only [h]); (try simp only [hnr] at h)) <;> (try (exfalso; omega))))
            refine goOV_val f_impl_firstCover_1 [g2, g3, g4, g5, g6, g7] [58, 59, 60, 61, 62, 63] [] rfl (by simp -implicitDefEqProofs (maxSteps := 1000000) (disch := (first | omega | (simp only [go_sem] <;> omega) | fail)) only [go_sem, ints, bools, mat]) ?_
            repeat' (first | simp -implicitDefEqProofs (maxSteps := 1000000) (disch := (first | omega | (simp only [go_sem] <;> omega) | fail)) only [go_sem, ints, bools, mat] | ((first | apply goIf_b | apply goG_b | apply goTG_b | apply goOG_b) <;> intro h <;> ((try simp only [hnq] at h); (try simp only [h]); (try simp only [hnr] at h)) <;> (try (exfalso; omega))))
            cases hsr : sr l r k (w + 1) (X ++ ballM l w r) with
            | some L =>
              have hr2 := nvF_hit (g := fun w => sr l r k (w + 1) (X ++ ballM l w r)) hwl hsr
              rw [h3] at hr2
              rw [hr2, srL, srB]
              rw [hsr, srL, srB] at hden
              rw [show c ++ (w : Int) :: L = c ++ [(w : Int)] ++ L by simp]
              refine goOCG_call [.r, .r, .i .b, .i .bm, .i .b, .i .b, .i .b, .i .b] hden ?_
              repeat' (first | simp -implicitDefEqProofs (maxSteps := 1000000) (disch := (first | omega | (simp only [go_sem] <;> omega) | fail)) only [go_sem, ints, bools, mat] | ((first | apply goIf_b | apply goG_b | apply goTG_b | apply goOG_b) <;> intro h <;> ((try simp only [hnq] at h); (try simp only [h]); (try simp only [hnr] at h)) <;> (try (exfalso; omega))))
            | none =>
              have hr2 := nvF_go (g := fun w => sr l r k (w + 1) (X ++ ballM l w r)) hwl hsr
              rw [h3] at hr2
              rw [hsr, srL, srB] at hden
              refine goOCG_call [.r, .r, .i .b, .i .bm, .i .b, .i .b, .i .b, .i .b] hden ?_
              repeat' (first | simp -implicitDefEqProofs (maxSteps := 1000000) (disch := (first | omega | (simp only [go_sem] <;> omega) | fail)) only [go_sem, ints, bools, mat] | ((first | apply goIf_b | apply goG_b | apply goTG_b | apply goOG_b) <;> intro h <;> ((try simp only [hnq] at h); (try simp only [h]); (try simp only [hnr] at h)) <;> (try (exfalso; omega))))
              refine hJ (w + 1, [(w : Int)]) ⟨by dsimp only; omega, by dsimp only; omega, hr2.symm⟩ (by dsimp only; omega) _ ?_
              simp -implicitDefEqProofs (maxSteps := 1000000) (disch := (first | omega | (simp only [go_sem] <;> omega) | fail)) only [go_sem, ints, bools, mat]
              rfl
          · have hwe : w = (prodM l).toNat := by omega
            subst hwe
            rw [Nat.sub_self] at h3
            rw [← h3, nvF, srL, srB]
            repeat' (first | simp -implicitDefEqProofs (maxSteps := 1000000) (disch := (first | omega | (simp only [go_sem] <;> omega) | fail)) only [go_sem, ints, bools, mat, leaS_pre, List.take_left] | ((first | apply goIf_b | apply goG_b | apply goTG_b | apply goOG_b) <;> intro h <;> ((try simp only [hnq] at h); (try simp only [h]); (try simp only [hnr] at h)) <;> (try (exfalso; omega))))
def scE (l : List Int) (n lo hi : Int) : Int := if isSpaceM l = true then (if lo ≤ n ∧ n ≤ hi then (if prodM l ≤ 27 then 0 else 3) else 2) else 1
theorem scE_ok {l : List Int} {n lo hi : Int} (h : scE l n lo hi = 0) : isSpaceM l = true ∧ (lo ≤ n ∧ n ≤ hi) ∧ prodM l ≤ 27 := by
  unfold scE at h
  split at h
  · rename_i h1
    split at h
    · rename_i h2
      split at h
      · rename_i h3; exact ⟨h1, h2, h3⟩
      · omega
    · omega
  · omega
theorem d_impl_soughtCode (l : List Int) (hl : l.length < 1048577) (n lo hi : Int) : Den PA f_impl_soughtCode [.d (.agg [ints l]), .d (di n), .d (di lo), .d (di hi)] [.any, .any, .any, .any] (.d (di (scE l n lo hi))) := by
  refine den_go [] l_impl_soughtCode ?_
  repeat' (first | simp -implicitDefEqProofs (maxSteps := 1000000) (disch := (first | omega | (simp only [go_sem] <;> omega) | fail)) only [go_sem, ints, bools, mat, c_impl_soughtCode] | ((first | apply goIf_b | apply goG_b | apply goTG_b | apply goOG_b) <;> intro h <;> ((try simp only [hnq] at h); (try simp only [h]); (try simp only [hnr] at h)) <;> (try (exfalso; omega))))
  first | refine goC_call [.r] (d_impl_IsSpace l hl) ?_ | refine goOC_call [.r] (d_impl_IsSpace l hl) ?_
  by_cases h1 : isSpaceM l = true
  · rw [h1]
    by_cases h2 : lo ≤ n ∧ n ≤ hi
    · obtain ⟨h2, h3⟩ := h2
      repeat' (first | simp -implicitDefEqProofs (maxSteps := 1000000) (disch := (first | omega | (simp only [go_sem] <;> omega) | fail)) only [go_sem, ints, bools, mat] | ((first | apply goIf_b | apply goG_b | apply goTG_b | apply goOG_b) <;> intro h <;> ((try simp only [hnq] at h); (try simp only [h]); (try simp only [hnr] at h)) <;> (try (exfalso; omega))))
      first | refine goC_call [.r] (d_impl_count l h1) ?_ | refine goOC_call [.r] (d_impl_count l h1) ?_
      by_cases h4 : prodM l ≤ 27
      · rw [scE, if_pos h1, if_pos ⟨h2, h3⟩, if_pos h4]
        repeat' (first | simp -implicitDefEqProofs (maxSteps := 1000000) (disch := (first | omega | (simp only [go_sem] <;> omega) | fail)) only [go_sem, ints, bools, mat] | ((first | apply goIf_b | apply goG_b | apply goTG_b | apply goOG_b) <;> intro h <;> ((try simp only [hnq] at h); (try simp only [h]); (try simp only [hnr] at h)) <;> (try (exfalso; omega))))
      · rw [scE, if_pos h1, if_pos ⟨h2, h3⟩, if_neg h4]
        repeat' (first | simp -implicitDefEqProofs (maxSteps := 1000000) (disch := (first | omega | (simp only [go_sem] <;> omega) | fail)) only [go_sem, ints, bools, mat] | ((first | apply goIf_b | apply goG_b | apply goTG_b | apply goOG_b) <;> intro h <;> ((try simp only [hnq] at h); (try simp only [h]); (try simp only [hnr] at h)) <;> (try (exfalso; omega))))
    · rw [scE, if_pos h1, if_neg h2]
      repeat' (first | simp -implicitDefEqProofs (maxSteps := 1000000) (disch := (first | omega | (simp only [go_sem] <;> omega) | fail)) only [go_sem, ints, bools, mat] | ((first | apply goIf_b | apply goG_b | apply goTG_b | apply goOG_b) <;> intro h <;> ((try simp only [hnq] at h); (try simp only [h]); (try simp only [hnr] at h)) <;> (try (exfalso; omega))))
  · have h2 : isSpaceM l = false := by simpa using h1
    rw [scE, if_neg h1, h2]
    repeat' (first | simp -implicitDefEqProofs (maxSteps := 1000000) (disch := (first | omega | (simp only [go_sem] <;> omega) | fail)) only [go_sem, ints, bools, mat] | ((first | apply goIf_b | apply goG_b | apply goTG_b | apply goOG_b) <;> intro h <;> ((try simp only [hnq] at h); (try simp only [h]); (try simp only [hnr] at h)) <;> (try (exfalso; omega))))
theorem d_spec_l04Sought (l : List Int) (hl : l.length < 1048577) (n lo hi : Int) : Den PA f_spec_l04Sought [.d (.agg [ints l]), .d (di n), .d (di lo), .d (di hi)] [.any, .any, .any, .any] (.d (di (scE l n lo hi))) := by
  refine den_go [] l_spec_l04Sought ?_
  repeat' (first | simp -implicitDefEqProofs (maxSteps := 1000000) (disch := (first | omega | (simp only [go_sem] <;> omega) | fail)) only [go_sem, ints, bools, mat, c_spec_l04Sought] | ((first | apply goIf_b | apply goG_b | apply goTG_b | apply goOG_b) <;> intro h <;> ((try simp only [hnq] at h); (try simp only [h]); (try simp only [hnr] at h)) <;> (try (exfalso; omega))))
  have hc := d_spec_l04Code l hl n lo hi
  by_cases h1 : isSpaceM l = true
  · by_cases h2 : lo ≤ n ∧ n ≤ hi
    · rw [if_pos h1, if_pos h2] at hc
      first | refine goC_call [.r, .r, .r, .r] (hc) ?_ | refine goOC_call [.r, .r, .r, .r] (hc) ?_
      have hn := isSpaceM_n h1
      repeat' (first | simp -implicitDefEqProofs (maxSteps := 1000000) (disch := (first | omega | (simp only [go_sem] <;> omega) | fail)) only [go_sem, ints, bools, mat] | ((first | apply goIf_b | apply goG_b | apply goTG_b | apply goOG_b) <;> intro h <;> ((try simp only [hnq] at h); (try simp only [h]); (try simp only [hnr] at h)) <;> (try (exfalso; omega))))
      first | refine goC_call [.r] (d_spec_l01N l (by omega) (isSpaceM_q h1)) ?_ | refine goOC_call [.r] (d_spec_l01N l (by omega) (isSpaceM_q h1)) ?_
      by_cases h4 : prodM l ≤ 27
      · rw [scE, if_pos h1, if_pos h2, if_pos h4]
        repeat' (first | simp -implicitDefEqProofs (maxSteps := 1000000) (disch := (first | omega | (simp only [go_sem] <;> omega) | fail)) only [go_sem, ints, bools, mat] | ((first | apply goIf_b | apply goG_b | apply goTG_b | apply goOG_b) <;> intro h <;> ((try simp only [hnq] at h); (try simp only [h]); (try simp only [hnr] at h)) <;> (try (exfalso; omega))))
      · rw [scE, if_pos h1, if_pos h2, if_neg h4]
        repeat' (first | simp -implicitDefEqProofs (maxSteps := 1000000) (disch := (first | omega | (simp only [go_sem] <;> omega) | fail)) only [go_sem, ints, bools, mat] | ((first | apply goIf_b | apply goG_b | apply goTG_b | apply goOG_b) <;> intro h <;> ((try simp only [hnq] at h); (try simp only [h]); (try simp only [hnr] at h)) <;> (try (exfalso; omega))))
    · rw [if_pos h1, if_neg h2] at hc
      first | refine goC_call [.r, .r, .r, .r] (hc) ?_ | refine goOC_call [.r, .r, .r, .r] (hc) ?_
      rw [scE, if_pos h1, if_neg h2]
      repeat' (first | simp -implicitDefEqProofs (maxSteps := 1000000) (disch := (first | omega | (simp only [go_sem] <;> omega) | fail)) only [go_sem, ints, bools, mat] | ((first | apply goIf_b | apply goG_b | apply goTG_b | apply goOG_b) <;> intro h <;> ((try simp only [hnq] at h); (try simp only [h]); (try simp only [hnr] at h)) <;> (try (exfalso; omega))))
  · rw [if_neg h1] at hc
    first | refine goC_call [.r, .r, .r, .r] (hc) ?_ | refine goOC_call [.r, .r, .r, .r] (hc) ?_
    rw [scE, if_neg h1]
    repeat' (first | simp -implicitDefEqProofs (maxSteps := 1000000) (disch := (first | omega | (simp only [go_sem] <;> omega) | fail)) only [go_sem, ints, bools, mat] | ((first | apply goIf_b | apply goG_b | apply goTG_b | apply goOG_b) <;> intro h <;> ((try simp only [hnq] at h); (try simp only [h]); (try simp only [hnr] at h)) <;> (try (exfalso; omega))))
theorem d_impl_firstCover (l : List Int) (hs : isSpaceM l = true) (h27 : prodM l ≤ 27) (r : Int) (hr0 : 0 ≤ r) : Den PA f_impl_firstCover [.d (.agg [ints l]), .d (di r)] [.any, .any] (.own 1 ((fcM l r).map di)) := by
  have hp1 := prodM_pos (isSpaceM_szs hs)
  have hbz := bz_pos hs hr0
  have hall := wsN_all l
  have hal := wsN_lt h27 (allW l)
  have e0 := nearB_get (l := l) r (w := 0) (by omega)
  rw [show (0 : Int).toNat = 0 from rfl] at e0
  have hB0 := wsN_lt h27 (ballM l 0 r)
  have hpop := d_OnesCount64_64 (wsN l (ballM l 0 r)) (by omega)
  have hsz : ((popN 64 (wsN l (ballM l 0 r)) : Nat) : Int) = bzM l r := by
    rw [mkL_pop 64 _ (by rw [cvL_len]; omega), ← ball_len hs 0 hr0, cvL, List.filter_map, List.length_map]
    congr 1
    apply List.Perm.length_eq
    apply (List.perm_ext_iff_of_nodup ((allW_nodup l).filter _) (ballM_nodup l 0 r)).2
    intro u
    rw [List.mem_filter, allW_mem]
    simp only [Function.comp, id_eq, decide_eq_true_eq]
    exact ⟨fun h => h.2, fun h => ⟨by have := ball_in l 0 r u h; omega, h⟩⟩
  rw [hsz] at hpop
  obtain ⟨kk, hk1, hkN, hkS, hkl⟩ := fcM_ok hs hr0
  have h2N : 2 ^ (prodM l).toNat = wsN l (allW l) + 1 := hall.symm
  have eall : ((wsN l (allW l) + 1 : Nat) : Int) - 1 = wsN l (allW l) := by omega
  let I : Nat → ASt := fun p => ⟨[(5, .ref 0 0), (6, .ref 1 0), (7, .ref 2 0), (8, .ref 3 0)], [some (.mix [.sl 4 0 (prodM l).toNat 1]), some (.var [.v (.int .u64 (wsN l (allW l) : Int))]), some (.var [di (bzM l r)]), some (.var [di p]), some (.dat 1 ((nearB l r).map duN))]⟩
  let V : Nat → Prop := fun p => 1 ≤ p ∧ p ≤ kk
  let mu : Nat → Nat := fun p => kk - p
  have hstep : ∀ p, V p → ∀ J : ASt → Prop, (∀ y, V y → mu y < mu p → ∀ st', norm [5, 6, 7, 8] st' = I y → J st') → go PA (lastLoop c_impl_firstCover.code) [.back J, .blk 0] (I p) (postF [.t 4] 30 2 [] [.any, .any] (.own 1 ((fcM l r).map di))) := by
    rintro p ⟨hp, hpk⟩ J hJ
    have htop := sr_top hs hr0 (k := p) fun j hj => hkl j (by omega)
    repeat' (first | simp -implicitDefEqProofs (maxSteps := 1000000) (disch := (first | omega | (simp only [go_sem] <;> omega) | fail)) only [go_sem, ints, bools, mat, c_impl_firstCover, lastLoop, I] | ((first | apply goIf_b | apply goG_b | apply goTG_b | apply goOG_b) <;> intro h <;> ((try simp only [hnq] at h); (try simp only [h]); (try simp only [hnr] at h)) <;> (try (exfalso; omega))))
    refine goC_real [7] [] (by simp -implicitDefEqProofs (maxSteps := 1000000) (disch := (first | omega | (simp only [go_sem] <;> omega) | fail)) only [go_sem, ints, bools, mat]) fun ρ hρ => ?_
    have hden := d_fcov l hs h27 r hr0 p (by omega) p 0 [] [] (ρ 3) (ρ 6) (ρ 1) (ρ 2) (ρ 0) (ρ 7) (by simp) (by omega)
    rw [htop, show ((wsN l [] : Nat) : Int) = 0 by rw [wsN_nil]; rfl, show ((0 : Nat) : Int) = 0 from rfl] at hden
    repeat' (first | simp -implicitDefEqProofs (maxSteps := 1000000) (disch := (first | omega | (simp only [go_sem] <;> omega) | fail)) only [go_sem, ints, bools, mat] | ((first | apply goIf_b | apply goG_b | apply goTG_b | apply goOG_b) <;> intro h <;> ((try simp only [hnq] at h); (try simp only [h]); (try simp only [hnr] at h)) <;> (try (exfalso; omega))))
    by_cases hpe : p = kk
    · subst hpe
      rw [hkS, srL, srB, List.nil_append] at hden
      refine goCG_call [.r, .r, .i .b, .i .bm, .i .b, .i .b, .i .b, .i .b] hden ?_
      repeat' (first | simp -implicitDefEqProofs (maxSteps := 1000000) (disch := (first | omega | (simp only [go_sem] <;> omega) | fail)) only [go_sem, ints, bools, mat] | ((first | apply goIf_b | apply goG_b | apply goTG_b | apply goOG_b) <;> intro h <;> ((try simp only [hnq] at h); (try simp only [h]); (try simp only [hnr] at h)) <;> (try (exfalso; omega))))
    · have hn : nv l r p 0 [] = none := hkl p (by omega)
      rw [hn, srL, srB] at hden
      refine goCG_call [.r, .r, .i .b, .i .bm, .i .b, .i .b, .i .b, .i .b] hden ?_
      repeat' (first | simp -implicitDefEqProofs (maxSteps := 1000000) (disch := (first | omega | (simp only [go_sem] <;> omega) | fail)) only [go_sem, ints, bools, mat] | ((first | apply goIf_b | apply goG_b | apply goTG_b | apply goOG_b) <;> intro h <;> ((try simp only [hnq] at h); (try simp only [h]); (try simp only [hnr] at h)) <;> (try (exfalso; omega))))
      refine hJ (p + 1) ⟨by omega, by omega⟩ (by dsimp only [mu]; omega) _ ?_
      simp -implicitDefEqProofs (maxSteps := 1000000) (disch := (first | omega | (simp only [go_sem] <;> omega) | fail)) only [go_sem, ints, bools, mat, I]
      rfl
  refine den_go [] l_impl_firstCover ?_
  repeat' (first | simp -implicitDefEqProofs (maxSteps := 1000000) (disch := (first | omega | (simp only [go_sem] <;> omega) | fail)) only [go_sem, ints, bools, mat, c_impl_firstCover] | ((first | apply goIf_b | apply goG_b | apply goTG_b | apply goOG_b) <;> intro h <;> ((try simp only [hnq] at h); (try simp only [h]); (try simp only [hnr] at h)) <;> (try (exfalso; omega))))
  first | refine goC_call [.r, .r] (d_impl_nearSets l hs h27 r) ?_ | refine goOC_call [.r, .r] (d_impl_nearSets l hs h27 r) ?_
  repeat' (first | simp -implicitDefEqProofs (maxSteps := 1000000) (disch := (first | omega | (simp only [go_sem] <;> omega) | fail)) only [go_sem, ints, bools, mat, e0, binA_shl_u, Int.toNat_natCast, h2N, eall] | ((first | apply goIf_b | apply goG_b | apply goTG_b | apply goOG_b) <;> intro h <;> ((try simp only [hnq] at h); (try simp only [h]); (try simp only [hnr] at h)) <;> (try (exfalso; omega))))
  rw [goS_three]
  refine ⟨?_, ?_, ?_⟩
  all_goals (repeat' (first | simp -implicitDefEqProofs (maxSteps := 1000000) (disch := (first | omega | (simp only [go_sem] <;> omega) | fail)) only [go_sem, ints, bools, mat, e0] | ((first | apply goIf_b | apply goG_b | apply goTG_b | apply goOG_b) <;> intro h <;> ((try simp only [hnq] at h); (try simp only [h]); (try simp only [hnr] at h)) <;> (try (exfalso; omega))) | ((first | refine goC_call [.r] (hpop) ?_ | refine goOC_call [.r] (hpop) ?_); simp -implicitDefEqProofs (maxSteps := 1000000) (disch := (first | omega | (simp only [go_sem] <;> omega) | fail)) only [go_sem, ints, bools, mat, e0]; fail_if_success (with_reducible show chk _ _)) | (rw [goS_two]; refine ⟨?_, ?_⟩))
    )
  all_goals (refine go_loop I V mu 1 ?_ ⟨Nat.le_refl _, hk1⟩ hstep)
  all_goals (simp -implicitDefEqProofs (maxSteps := 1000000) (disch := (first | omega | (simp only [go_sem] <;> omega) | fail)) only [go_sem, ints, bools, mat, I])
  all_goals rfl
def tmX (l X : List Int) : List Int := (allW l).map fun u => (X.count u : Int)
@[go_sem] theorem tmX_len (l X : List Int) : (tmX l X).length = (prodM l).toNat := by simp [tmX, allW_len]
theorem tmX_get (l X : List Int) {i : Nat} (h : i < (prodM l).toNat) : (tmX l X).getD i 0 = (X.count (i : Int) : Int) := by
  have h2 : i < (allW l).length := by rw [allW_len]; exact h
  have e := allW_get l h
  rw [List.getD_eq_getElem?_getD, List.getElem?_eq_getElem h2, Option.getD_some] at e
  simp [tmX, h2, e]
theorem tmX_nil (l : List Int) : List.replicate (prodM l).toNat (0 : Int) = tmX l [] := by
  refine eq_getD (by rw [List.length_replicate, tmX_len]) fun j hj => ?_
  rw [List.length_replicate] at hj
  rw [tmX_get l [] hj]; simp [hj]
theorem tmX_step (l X : List Int) {B : List Int} (hB : inC l B) {i : Nat} (hi : i < B.length) : (tmX l (X ++ B.take i)).set (B.getD i 0).toNat ((tmX l (X ++ B.take i)).getD (B.getD i 0).toNat 0 + 1) = tmX l (X ++ B.take (i + 1)) := by
  have hb := inC_get hB i hi
  refine eq_getD (by rw [List.length_set, tmX_len, tmX_len]) fun j hj => ?_
  rw [List.length_set, tmX_len] at hj
  rw [tmX_get l _ hj, take_one B hi, ← List.append_assoc, List.count_append (l₁ := X ++ B.take i), List.getD_eq_getElem?_getD, List.getElem?_set]
  by_cases e : (B.getD i 0).toNat = j
  · subst e
    rw [if_pos rfl, if_pos (by rw [tmX_len]; exact hj), Option.getD_some, tmX_get l _ hj, Int.toNat_of_nonneg hb.1]
    simp
  · rw [if_neg e, ← List.getD_eq_getElem?_getD, tmX_get l _ hj]
    have : List.count (j : Int) [B.getD i 0] = 0 := List.count_eq_zero.2 (by rw [List.mem_singleton]; omega)
    rw [this]; simp
def opJ (l X : List Int) (j : Nat) : Option Int := ((allW l).take j).find? fun u => !decide (u ∈ X)
def muJ (l X : List Int) (j : Nat) : Nat := (((allW l).take j).filter fun u => !decide (u ∈ X)).length
theorem opJ_end (l X : List Int) : opJ l X (prodM l).toNat = opn l X := by rw [opJ, ← allW_len, List.take_length, opn]
theorem muJ_end (l X : List Int) : muJ l X (prodM l).toNat = muX l X := by rw [muJ, ← allW_len, List.take_length, muX]
theorem opJ_in (l X : List Int) {j : Nat} (hj : j < (prodM l).toNat) (h : (j : Int) ∈ X) : opJ l X (j + 1) = opJ l X j ∧ muJ l X (j + 1) = muJ l X j := by
  rw [opJ, opJ, muJ, muJ, take_allW l hj, List.find?_append, List.filter_append]
  have e : List.find? (fun u => !decide (u ∈ X)) [(j : Int)] = none := by simp [h]
  have e2 : List.filter (fun u => !decide (u ∈ X)) [(j : Int)] = [] := by simp [h]
  rw [e, e2]; simp
theorem opJ_out (l X : List Int) {j : Nat} (hj : j < (prodM l).toNat) (h : (j : Int) ∉ X) : (opJ l X (j + 1) = match opJ l X j with | none => some (j : Int) | some o => some o) ∧ muJ l X (j + 1) = muJ l X j + 1 := by
  rw [opJ, opJ, muJ, muJ, take_allW l hj, List.find?_append, List.filter_append]
  have e : List.find? (fun u => !decide (u ∈ X)) [(j : Int)] = some (j : Int) := by simp [h]
  have e2 : List.filter (fun u => !decide (u ∈ X)) [(j : Int)] = [(j : Int)] := by simp [h]
  rw [e, e2]
  refine ⟨?_, by simp⟩
  cases List.find? (fun u => !decide (u ∈ X)) (List.take j (allW l)) <;> rfl
theorem opJ_nn {l X : List Int} {j : Nat} {o : Int} (h : opJ l X j = some o) : 0 ≤ o := by
  have := List.mem_of_mem_take (List.mem_of_find?_eq_some h)
  rw [allW_mem] at this; exact this.1
theorem muJ_le (l X : List Int) (j : Nat) : muJ l X j ≤ j := by
  have h1 := List.length_filter_le (fun u => !decide (u ∈ X)) ((allW l).take j)
  rw [List.length_take] at h1
  unfold muJ; omega
def cvR (c : List Int) : Option (List Int) → R
  | none => .tup [.d nil, .d (db false)]
  | some L => .tup [.d (ints (c ++ L)), .d (db true)]
def NextO (c : List Int) (f : Nat) : Prop := (c = [] ∧ f = 0) ∨ (0 < c.length ∧ c.getD (c.length - 1) 0 + 1 = (f : Int))
theorem d_spec_l04Cover (l : List Int) (hs : isSpaceM l = true) (h27 : prodM l ≤ 27) (r : Int) (hr0 : 0 ≤ r) (hr8 : r ≤ 8) : ∀ (k f : Nat) (X c : List Int), NextO c f → f ≤ (prodM l).toNat → X.length + 27 * k ≤ 10000 → c.length + k ≤ 1000 →
    Den PA f_spec_l04Cover [.d (.agg [ints l]), .d (ints c), .d (ints (tmX l X)), .d (di r), .d (di k)] [.any, .any, .any, .any, .any] (cvR c (nv l r k f X)) := by
  have hp1 := prodM_pos (isSpaceM_szs hs)
  have hn := isSpaceM_n hs
  have hbz := bz_pos hs hr0
  intro k
  induction k with
  | zero =>
    intro f X c hnx hf hXl hcl
    refine den_go [] l_spec_l04Cover ?_
    repeat' (first | simp -implicitDefEqProofs (maxSteps := 1000000) (disch := (first | omega | (simp only [go_sem] <;> omega) | fail)) only [go_sem, ints, bools, mat, c_spec_l04Cover] | ((first | apply goIf_b | apply goG_b | apply goTG_b | apply goOG_b) <;> intro h <;> ((try simp only [hnq] at h); (try simp only [h]); (try simp only [hnr] at h)) <;> (try (exfalso; omega))))
    refine go_loop (fun (j : Nat) => ⟨[(1, .d (ints c)), (2, .d (ints (tmX l X))), (3, .d (di r)), (4, .d (di (0 : Nat))), (5, .ref 0 0), (12, .d (di (idxO (opJ l X j)))), (13, .d (di (muJ l X j))), (14, .d (di j))], [some (.var [ints l])]⟩) (fun j => j ≤ (prodM l).toNat) (fun j => (prodM l).toNat - j) 0 ?_ ?_ ?_
    · (simp -implicitDefEqProofs (maxSteps := 1000000) (disch := (first | omega | (simp only [go_sem] <;> omega) | fail)) only [go_sem, ints, bools, mat] <;> rfl)
    · exact Nat.zero_le _
    · intro j hj J hJ
      by_cases hjl : j < (prodM l).toNat
      · have hg := tmX_get l X hjl
        have hmj := muJ_le l X j
        by_cases hm : (j : Int) ∈ X
        · have hc : 0 < X.count (j : Int) := List.count_pos_iff.2 hm
          obtain ⟨e1, e2⟩ := opJ_in l X hjl hm
          repeat' (first | simp -implicitDefEqProofs (maxSteps := 1000000) (disch := (first | omega | (simp only [go_sem] <;> omega) | fail)) only [go_sem, ints, bools, mat, hg] | ((first | apply goIf_b | apply goG_b | apply goTG_b | apply goOG_b) <;> intro h <;> ((try simp only [hnq] at h); (try simp only [h]); (try simp only [hnr] at h)) <;> (try (exfalso; omega))))
          refine hJ (j + 1) (by omega) (by omega) _ ?_
          simp -implicitDefEqProofs (maxSteps := 1000000) (disch := (first | omega | (simp only [go_sem] <;> omega) | fail)) only [go_sem, ints, bools, mat, e1, e2]
          rfl
        · have hc : X.count (j : Int) = 0 := List.count_eq_zero.2 hm
          obtain ⟨e1, e2⟩ := opJ_out l X hjl hm
          rw [hc] at hg
          cases ho : opJ l X j with
          | none =>
            rw [ho] at e1
            repeat' (first | simp -implicitDefEqProofs (maxSteps := 1000000) (disch := (first | omega | (simp only [go_sem] <;> omega) | fail)) only [go_sem, ints, bools, mat, hg, idxO] | ((first | apply goIf_b | apply goG_b | apply goTG_b | apply goOG_b) <;> intro h <;> ((try simp only [hnq] at h); (try simp only [h]); (try simp only [hnr] at h)) <;> (try (exfalso; omega))))
            refine hJ (j + 1) (by omega) (by omega) _ ?_
            simp -implicitDefEqProofs (maxSteps := 1000000) (disch := (first | omega | (simp only [go_sem] <;> omega) | fail)) only [go_sem, ints, bools, mat, e1, e2]
            rfl
          | some o =>
            have := opJ_nn ho
            rw [ho] at e1
            repeat' (first | simp -implicitDefEqProofs (maxSteps := 1000000) (disch := (first | omega | (simp only [go_sem] <;> omega) | fail)) only [go_sem, ints, bools, mat, hg, idxO] | ((first | apply goIf_b | apply goG_b | apply goTG_b | apply goOG_b) <;> intro h <;> ((try simp only [hnq] at h); (try simp only [h]); (try simp only [hnr] at h)) <;> (try (exfalso; omega))))
            refine hJ (j + 1) (by omega) (by omega) _ ?_
            simp -implicitDefEqProofs (maxSteps := 1000000) (disch := (first | omega | (simp only [go_sem] <;> omega) | fail)) only [go_sem, ints, bools, mat, e1, e2]
            rfl
      · have hje : j = (prodM l).toNat := by omega
        subst hje
        rw [opJ_end, muJ_end]
        have hmx := muX_le l X
        repeat' (first | simp -implicitDefEqProofs (maxSteps := 1000000) (disch := (first | omega | (simp only [go_sem] <;> omega) | fail)) only [go_sem, ints, bools, mat] | ((first | apply goIf_b | apply goG_b | apply goTG_b | apply goOG_b) <;> intro h <;> ((try simp only [hnq] at h); (try simp only [h]); (try simp only [hnr] at h)) <;> (try (exfalso; omega))))
        first | refine goC_call [.r, .r] (d_spec_l01Size l hs r hr0 (by omega)) ?_ | refine goOC_call [.r, .r] (d_spec_l01Size l hs r hr0 (by omega)) ?_
        cases ho : opn l X with
        | none =>
          have hmu := opn_mu ho
          rw [nv, ho, nvZ, cvR, List.append_nil]
          repeat' (first | simp -implicitDefEqProofs (maxSteps := 1000000) (disch := (first | omega | (simp only [go_sem] <;> omega) | fail)) only [go_sem, ints, bools, mat, Int.zero_mul] | ((first | apply goIf_b | apply goG_b | apply goTG_b | apply goOG_b) <;> intro h <;> ((try simp only [hnq] at h); (try simp only [h]); (try simp only [hnr] at h)) <;> (try (exfalso; omega))))
        | some o =>
          have hmu := muX_pos ho
          rw [nv, ho, nvZ, cvR]
          repeat' (first | simp -implicitDefEqProofs (maxSteps := 1000000) (disch := (first | omega | (simp only [go_sem] <;> omega) | fail)) only [go_sem, ints, bools, mat, Int.zero_mul] | ((first | apply goIf_b | apply goG_b | apply goTG_b | apply goOG_b) <;> intro h <;> ((try simp only [hnq] at h); (try simp only [h]); (try simp only [hnr] at h)) <;> (try (exfalso; omega))))
  | succ k ih =>
    intro f X c hnx hf hXl hcl
    refine den_go [] l_spec_l04Cover ?_
    repeat' (first | simp -implicitDefEqProofs (maxSteps := 1000000) (disch := (first | omega | (simp only [go_sem] <;> omega) | fail)) only [go_sem, ints, bools, mat, c_spec_l04Cover] | ((first | apply goIf_b | apply goG_b | apply goTG_b | apply goOG_b) <;> intro h <;> ((try simp only [hnq] at h); (try simp only [h]); (try simp only [hnr] at h)) <;> (try (exfalso; omega))))
    refine go_loop (fun (j : Nat) => ⟨[(1, .d (ints c)), (2, .d (ints (tmX l X))), (3, .d (di r)), (4, .d (di (k + 1 : Nat))), (5, .ref 0 0), (12, .d (di (idxO (opJ l X j)))), (13, .d (di (muJ l X j))), (14, .d (di j))], [some (.var [ints l])]⟩) (fun j => j ≤ (prodM l).toNat) (fun j => (prodM l).toNat - j) 0 ?_ ?_ ?_
    · (simp -implicitDefEqProofs (maxSteps := 1000000) (disch := (first | omega | (simp only [go_sem] <;> omega) | fail)) only [go_sem, ints, bools, mat] <;> rfl)
    · exact Nat.zero_le _
    · intro j hj J hJ
      by_cases hjl : j < (prodM l).toNat
      · have hg := tmX_get l X hjl
        have hmj := muJ_le l X j
        by_cases hm : (j : Int) ∈ X
        · have hc : 0 < X.count (j : Int) := List.count_pos_iff.2 hm
          obtain ⟨e1, e2⟩ := opJ_in l X hjl hm
          repeat' (first | simp -implicitDefEqProofs (maxSteps := 1000000) (disch := (first | omega | (simp only [go_sem] <;> omega) | fail)) only [go_sem, ints, bools, mat, hg] | ((first | apply goIf_b | apply goG_b | apply goTG_b | apply goOG_b) <;> intro h <;> ((try simp only [hnq] at h); (try simp only [h]); (try simp only [hnr] at h)) <;> (try (exfalso; omega))))
          refine hJ (j + 1) (by omega) (by omega) _ ?_
          simp -implicitDefEqProofs (maxSteps := 1000000) (disch := (first | omega | (simp only [go_sem] <;> omega) | fail)) only [go_sem, ints, bools, mat, e1, e2]
          rfl
        · have hc : X.count (j : Int) = 0 := List.count_eq_zero.2 hm
          obtain ⟨e1, e2⟩ := opJ_out l X hjl hm
          rw [hc] at hg
          cases ho : opJ l X j with
          | none =>
            rw [ho] at e1
            repeat' (first | simp -implicitDefEqProofs (maxSteps := 1000000) (disch := (first | omega | (simp only [go_sem] <;> omega) | fail)) only [go_sem, ints, bools, mat, hg, idxO] | ((first | apply goIf_b | apply goG_b | apply goTG_b | apply goOG_b) <;> intro h <;> ((try simp only [hnq] at h); (try simp only [h]); (try simp only [hnr] at h)) <;> (try (exfalso; omega))))
            refine hJ (j + 1) (by omega) (by omega) _ ?_
            simp -implicitDefEqProofs (maxSteps := 1000000) (disch := (first | omega | (simp only [go_sem] <;> omega) | fail)) only [go_sem, ints, bools, mat, e1, e2]
            rfl
          | some o =>
            have := opJ_nn ho
            rw [ho] at e1
            repeat' (first | simp -implicitDefEqProofs (maxSteps := 1000000) (disch := (first | omega | (simp only [go_sem] <;> omega) | fail)) only [go_sem, ints, bools, mat, hg, idxO] | ((first | apply goIf_b | apply goG_b | apply goTG_b | apply goOG_b) <;> intro h <;> ((try simp only [hnq] at h); (try simp only [h]); (try simp only [hnr] at h)) <;> (try (exfalso; omega))))
            refine hJ (j + 1) (by omega) (by omega) _ ?_
            simp -implicitDefEqProofs (maxSteps := 1000000) (disch := (first | omega | (simp only [go_sem] <;> omega) | fail)) only [go_sem, ints, bools, mat, e1, e2]
            rfl
      · have hje : j = (prodM l).toNat := by omega
        subst hje
        rw [opJ_end, muJ_end]
        have hmx := muX_le l X
        have hmul : ((k + 1 : Nat) : Int) * bzM l r ≤ 1000 * 27 := Int.mul_le_mul (by omega) (by omega) (by omega) (by omega)
        have hmul0 : 0 ≤ ((k + 1 : Nat) : Int) * bzM l r := Int.mul_nonneg (by omega) (by omega)
        repeat' (first | simp -implicitDefEqProofs (maxSteps := 1000000) (disch := (first | omega | (simp only [go_sem] <;> omega) | fail)) only [go_sem, ints, bools, mat] | ((first | apply goIf_b | apply goG_b | apply goTG_b | apply goOG_b) <;> intro h <;> ((try simp only [hnq] at h); (try simp only [h]); (try simp only [hnr] at h)) <;> (try (exfalso; omega))))
        first | refine goC_call [.r, .r] (d_spec_l01Size l hs r hr0 (by omega)) ?_ | refine goOC_call [.r, .r] (d_spec_l01Size l hs r hr0 (by omega)) ?_
        by_cases hlt : ((k + 1 : Nat) : Int) * bzM l r < muX l X
        · rw [nv_many hs hr0 hlt, cvR]
          repeat' (first | simp -implicitDefEqProofs (maxSteps := 1000000) (disch := (first | omega | (simp only [go_sem] <;> omega) | fail)) only [go_sem, ints, bools, mat] | ((first | apply goIf_b | apply goG_b | apply goTG_b | apply goOG_b) <;> intro h <;> ((try simp only [hnq] at h); (try simp only [h]); (try simp only [hnr] at h)) <;> (try (exfalso; omega))))
        · have hlb := lastO_bnd hs hr0 (X := X)
          rw [nv_cut hs hr0]
          generalize hlast : lastO l r (opn l X) = last at *
          have et : ((c.length : Int) - 1).toNat = c.length - 1 := by omega
          have hfN : f ≤ (prodM l).toNat := hf
          generalize hres : nvF (fun w => nv l r k (w + 1) (X ++ ballM l w r)) (last.toNat + 1 - f) f = res
          cases ho : opn l X with
          | none =>
            rw [ho] at hlast
            have hl2 : prodM l - 1 = last := hlast
            rcases hnx with ⟨hce, hf0⟩ | ⟨hc0, hc1⟩
            · have hcl0 : c.length = 0 := by rw [hce]; rfl
              subst hf0
              repeat' (first | simp -implicitDefEqProofs (maxSteps := 1000000) (disch := (first | omega | (simp only [go_sem] <;> omega) | fail)) only [go_sem, ints, bools, mat, idxO] | ((first | apply goIf_b | apply goG_b | apply goTG_b | apply goOG_b) <;> intro h <;> ((try simp only [hnq] at h); (try simp only [h]); (try simp only [hnr] at h)) <;> (try (exfalso; omega))))
              first | refine goC_call [.r] (d_spec_l01N l (by omega) (isSpaceM_q hs)) ?_ | refine goOC_call [.r] (d_spec_l01N l (by omega) (isSpaceM_q hs)) ?_
              repeat' (first | simp -implicitDefEqProofs (maxSteps := 1000000) (disch := (first | omega | (simp only [go_sem] <;> omega) | fail)) only [go_sem, ints, bools, mat, hl2] | ((first | apply goIf_b | apply goG_b | apply goTG_b | apply goOG_b) <;> intro h <;> ((try simp only [hnq] at h); (try simp only [h]); (try simp only [hnr] at h)) <;> (try (exfalso; omega))))
              refine go_loop (fun (w : Nat) => ⟨[(1, .d (ints c)), (2, .d (ints (tmX l X))), (3, .d (di r)), (4, .d (di (k + 1 : Nat))), (5, .ref 0 0), (16, .d (di last)), (18, .d (di w))], [some (.var [ints l])]⟩) (fun w => 0 ≤ w ∧ w ≤ (prodM l).toNat ∧ nvF (fun w => nv l r k (w + 1) (X ++ ballM l w r)) (last.toNat + 1 - w) w = res) (fun w => (prodM l).toNat - w) 0 ?_ ?_ ?_
              · (simp -implicitDefEqProofs (maxSteps := 1000000) (disch := (first | omega | (simp only [go_sem] <;> omega) | fail)) only [go_sem, ints, bools, mat] <;> rfl)
              · exact ⟨Nat.le_refl _, hfN, hres⟩
              · rintro w ⟨hw1, hw2, hw3⟩ J2 hJ2
                by_cases hwl : (w : Int) ≤ last
                · have hB := ball_in l w r
                  have hBl : (ballM l w r).length ≤ (prodM l).toNat := by unfold ballM; exact filter_len_le _ _ _ (by rw [allW_len]; exact Nat.le_refl _)
                  have hden := ih (w + 1) (X ++ ballM l w r) (c ++ [(w : Int)]) (.inr ⟨by simp, by simp⟩) (by omega) (by rw [List.length_append]; omega) (by simp; omega)
                  have hct : ∀ i, i < (prodM l).toNat → ∀ m, (tmX l (X ++ (ballM l w r).take m)).getD i 0 ≤ 20000 ∧ 0 ≤ (tmX l (X ++ (ballM l w r).take m)).getD i 0 := fun i hi m => by
                    rw [tmX_get l _ hi]
                    have h1 := List.count_le_length (a := (i : Int)) (l := X ++ (ballM l w r).take m)
                    rw [List.length_append, List.length_take] at h1
                    omega
                  have hsr1 : ∀ L, nv l r k (w + 1) (X ++ ballM l w r) = some L → res = some ((w : Int) :: L) := fun L h => by
                    rw [← hw3]; exact nvF_hit (g := fun w => nv l r k (w + 1) (X ++ ballM l w r)) (n := last.toNat + 1) (by omega) h
                  have hsr0 : nv l r k (w + 1) (X ++ ballM l w r) = none → nvF (fun w => nv l r k (w + 1) (X ++ ballM l w r)) (last.toNat + 1 - (w + 1)) (w + 1) = res := fun h => by
                    rw [← hw3]; exact (nvF_go (g := fun w => nv l r k (w + 1) (X ++ ballM l w r)) (n := last.toNat + 1) (by omega) h).symm
                  repeat' (first | simp -implicitDefEqProofs (maxSteps := 1000000) (disch := (first | omega | (simp only [go_sem] <;> omega) | fail)) only [go_sem, ints, bools, mat] | ((first | apply goIf_b | apply goG_b | apply goTG_b | apply goOG_b) <;> intro h <;> ((try simp only [hnq] at h); (try simp only [h]); (try simp only [hnr] at h)) <;> (try (exfalso; omega))))
                  first | refine goC_call [.r] (d_spec_l01Own (tmX l X) (by rw [tmX_len]; omega)) ?_ | refine goOC_call [.r] (d_spec_l01Own (tmX l X) (by rw [tmX_len]; omega)) ?_
                  repeat' (first | simp -implicitDefEqProofs (maxSteps := 1000000) (disch := (first | omega | (simp only [go_sem] <;> omega) | fail)) only [go_sem, ints, bools, mat] | ((first | apply goIf_b | apply goG_b | apply goTG_b | apply goOG_b) <;> intro h <;> ((try simp only [hnq] at h); (try simp only [h]); (try simp only [hnr] at h)) <;> (try (exfalso; omega))))
                  first | refine goC_call [.r, .r, .r] (d_spec_l01Ball l hs w r (by omega) (by omega)) ?_ | refine goOC_call [.r, .r, .r] (d_spec_l01Ball l hs w r (by omega) (by omega)) ?_
                  generalize nv l r k (w + 1) (X ++ ballM l w r) = rr at *
                  generalize ballM l w r = B at *
                  repeat' (first | simp -implicitDefEqProofs (maxSteps := 1000000) (disch := (first | omega | (simp only [go_sem] <;> omega) | fail)) only [go_sem, ints, bools, mat] | ((first | apply goIf_b | apply goG_b | apply goTG_b | apply goOG_b) <;> intro h <;> ((try simp only [hnq] at h); (try simp only [h]); (try simp only [hnr] at h)) <;> (try (exfalso; omega))))
                  refine go_loop (fun (i : Nat) => ⟨[(1, .d (ints c)), (2, .d (ints (tmX l X))), (3, .d (di r)), (4, .d (di (k + 1 : Nat))), (5, .ref 0 0), (16, .d (di last)), (18, .d (di w)), (19, .sl 1 0 (prodM l).toNat 1), (20, .sl 2 0 B.length 1), (21, .d (di i))],
                      [some (.var [ints l]), some (.dat 1 ((tmX l (X ++ B.take i)).map di)), some (.dat 1 (B.map di))]⟩) (fun i => i ≤ B.length) (fun i => B.length - i) 0 ?_ ?_ ?_
                  · simp -implicitDefEqProofs (maxSteps := 1000000) (disch := (first | omega | (simp only [go_sem] <;> omega) | fail)) only [go_sem, ints, bools, mat, List.take_zero, List.append_nil]
                  · exact Nat.zero_le _
                  · intro i hi J3 hJ3
                    by_cases hil : i < B.length
                    · have hb := inC_get hB i hil
                      have e := tmX_step l X hB hil
                      have hc := hct (B.getD i 0).toNat (by omega) i
                      repeat' (first | simp -implicitDefEqProofs (maxSteps := 1000000) (disch := (first | omega | (simp only [go_sem] <;> omega) | fail)) only [go_sem, ints, bools, mat, e] | ((first | apply goIf_b | apply goG_b | apply goTG_b | apply goOG_b) <;> intro h <;> ((try simp only [hnq] at h); (try simp only [h]); (try simp only [hnr] at h)) <;> (try (exfalso; omega))))
                      refine hJ3 (i + 1) (by omega) (by omega) _ ?_
                      simp -implicitDefEqProofs (maxSteps := 1000000) (disch := (first | omega | (simp only [go_sem] <;> omega) | fail)) only [go_sem, ints, bools, mat, e]
                      rfl
                    · have hie : i = B.length := by omega
                      subst hie
                      rw [List.take_length]
                      cases rr with
                      | some L =>
                        rw [cvR] at hden
                        rw [hsr1 L rfl, cvR, show c ++ (w : Int) :: L = c ++ [(w : Int)] ++ L by simp]
                        repeat' (first | simp -implicitDefEqProofs (maxSteps := 1000000) (disch := (first | omega | (simp only [go_sem] <;> omega) | fail)) only [go_sem, ints, bools, mat] | ((first | apply goIf_b | apply goG_b | apply goTG_b | apply goOG_b) <;> intro h <;> ((try simp only [hnq] at h); (try simp only [h]); (try simp only [hnr] at h)) <;> (try (exfalso; omega))))
                        rw [goS_two]
                        refine ⟨?_, ?_⟩
                        · repeat' (first | simp -implicitDefEqProofs (maxSteps := 1000000) (disch := (first | omega | (simp only [go_sem] <;> omega) | fail)) only [go_sem, ints, bools, mat] | ((first | apply goIf_b | apply goG_b | apply goTG_b | apply goOG_b) <;> intro h <;> ((try simp only [hnq] at h); (try simp only [h]); (try simp only [hnr] at h)) <;> (try (exfalso; omega))))
                          first | refine goC_call [.r] (d_spec_l01Own c (by omega)) ?_ | refine goOC_call [.r] (d_spec_l01Own c (by omega)) ?_
                          repeat' (first | simp -implicitDefEqProofs (maxSteps := 1000000) (disch := (first | omega | (simp only [go_sem] <;> omega) | fail)) only [go_sem, ints, bools, mat] | ((first | apply goIf_b | apply goG_b | apply goTG_b | apply goOG_b) <;> intro h <;> ((try simp only [hnq] at h); (try simp only [h]); (try simp only [hnr] at h)) <;> (try (exfalso; omega))))
                          first | refine goC_call [.r, .f, .f, .r, .r] (hden) ?_ | refine goOC_call [.r, .f, .f, .r, .r] (hden) ?_
                          repeat' (first | simp -implicitDefEqProofs (maxSteps := 1000000) (disch := (first | omega | (simp only [go_sem] <;> omega) | fail)) only [go_sem, ints, bools, mat] | ((first | apply goIf_b | apply goG_b | apply goTG_b | apply goOG_b) <;> intro h <;> ((try simp only [hnq] at h); (try simp only [h]); (try simp only [hnr] at h)) <;> (try (exfalso; omega))))
                        · repeat' (first | simp -implicitDefEqProofs (maxSteps := 1000000) (disch := (first | omega | (simp only [go_sem] <;> omega) | fail)) only [go_sem, ints, bools, mat] | ((first | apply goIf_b | apply goG_b | apply goTG_b | apply goOG_b) <;> intro h <;> ((try simp only [hnq] at h); (try simp only [h]); (try simp only [hnr] at h)) <;> (try (exfalso; omega))))
                          first | refine goC_call [.r] (d_spec_l01Own c (by omega)) ?_ | refine goOC_call [.r] (d_spec_l01Own c (by omega)) ?_
                          repeat' (first | simp -implicitDefEqProofs (maxSteps := 1000000) (disch := (first | omega | (simp only [go_sem] <;> omega) | fail)) only [go_sem, ints, bools, mat] | ((first | apply goIf_b | apply goG_b | apply goTG_b | apply goOG_b) <;> intro h <;> ((try simp only [hnq] at h); (try simp only [h]); (try simp only [hnr] at h)) <;> (try (exfalso; omega))))
                          first | refine goC_call [.r, .f, .f, .r, .r] (hden) ?_ | refine goOC_call [.r, .f, .f, .r, .r] (hden) ?_
                          repeat' (first | simp -implicitDefEqProofs (maxSteps := 1000000) (disch := (first | omega | (simp only [go_sem] <;> omega) | fail)) only [go_sem, ints, bools, mat] | ((first | apply goIf_b | apply goG_b | apply goTG_b | apply goOG_b) <;> intro h <;> ((try simp only [hnq] at h); (try simp only [h]); (try simp only [hnr] at h)) <;> (try (exfalso; omega))))
                      | none =>
                        rw [cvR] at hden
                        have hs0 := hsr0 rfl
                        repeat' (first | simp -implicitDefEqProofs (maxSteps := 1000000) (disch := (first | omega | (simp only [go_sem] <;> omega) | fail)) only [go_sem, ints, bools, mat] | ((first | apply goIf_b | apply goG_b | apply goTG_b | apply goOG_b) <;> intro h <;> ((try simp only [hnq] at h); (try simp only [h]); (try simp only [hnr] at h)) <;> (try (exfalso; omega))))
                        rw [goS_two]
                        refine ⟨?_, ?_⟩
                        · repeat' (first | simp -implicitDefEqProofs (maxSteps := 1000000) (disch := (first | omega | (simp only [go_sem] <;> omega) | fail)) only [go_sem, ints, bools, mat] | ((first | apply goIf_b | apply goG_b | apply goTG_b | apply goOG_b) <;> intro h <;> ((try simp only [hnq] at h); (try simp only [h]); (try simp only [hnr] at h)) <;> (try (exfalso; omega))))
                          first | refine goC_call [.r] (d_spec_l01Own c (by omega)) ?_ | refine goOC_call [.r] (d_spec_l01Own c (by omega)) ?_
                          repeat' (first | simp -implicitDefEqProofs (maxSteps := 1000000) (disch := (first | omega | (simp only [go_sem] <;> omega) | fail)) only [go_sem, ints, bools, mat] | ((first | apply goIf_b | apply goG_b | apply goTG_b | apply goOG_b) <;> intro h <;> ((try simp only [hnq] at h); (try simp only [h]); (try simp only [hnr] at h)) <;> (try (exfalso; omega))))
                          first | refine goC_call [.r, .f, .f, .r, .r] (hden) ?_ | refine goOC_call [.r, .f, .f, .r, .r] (hden) ?_
                          repeat' (first | simp -implicitDefEqProofs (maxSteps := 1000000) (disch := (first | omega | (simp only [go_sem] <;> omega) | fail)) only [go_sem, ints, bools, mat] | ((first | apply goIf_b | apply goG_b | apply goTG_b | apply goOG_b) <;> intro h <;> ((try simp only [hnq] at h); (try simp only [h]); (try simp only [hnr] at h)) <;> (try (exfalso; omega))))
                          refine hJ2 (w + 1) ⟨by omega, by omega, hs0⟩ (by omega) _ ?_
                          (simp -implicitDefEqProofs (maxSteps := 1000000) (disch := (first | omega | (simp only [go_sem] <;> omega) | fail)) only [go_sem, ints, bools, mat] <;> rfl)
                        · repeat' (first | simp -implicitDefEqProofs (maxSteps := 1000000) (disch := (first | omega | (simp only [go_sem] <;> omega) | fail)) only [go_sem, ints, bools, mat] | ((first | apply goIf_b | apply goG_b | apply goTG_b | apply goOG_b) <;> intro h <;> ((try simp only [hnq] at h); (try simp only [h]); (try simp only [hnr] at h)) <;> (try (exfalso; omega))))
                          first | refine goC_call [.r] (d_spec_l01Own c (by omega)) ?_ | refine goOC_call [.r] (d_spec_l01Own c (by omega)) ?_
                          repeat' (first | simp -implicitDefEqProofs (maxSteps := 1000000) (disch := (first | omega | (simp only [go_sem] <;> omega) | fail)) only [go_sem, ints, bools, mat] | ((first | apply goIf_b | apply goG_b | apply goTG_b | apply goOG_b) <;> intro h <;> ((try simp only [hnq] at h); (try simp only [h]); (try simp only [hnr] at h)) <;> (try (exfalso; omega))))
                          first | refine goC_call [.r, .f, .f, .r, .r] (hden) ?_ | refine goOC_call [.r, .f, .f, .r, .r] (hden) ?_
                          repeat' (first | simp -implicitDefEqProofs (maxSteps := 1000000) (disch := (first | omega | (simp only [go_sem] <;> omega) | fail)) only [go_sem, ints, bools, mat] | ((first | apply goIf_b | apply goG_b | apply goTG_b | apply goOG_b) <;> intro h <;> ((try simp only [hnq] at h); (try simp only [h]); (try simp only [hnr] at h)) <;> (try (exfalso; omega))))
                          refine hJ2 (w + 1) ⟨by omega, by omega, hs0⟩ (by omega) _ ?_
                          (simp -implicitDefEqProofs (maxSteps := 1000000) (disch := (first | omega | (simp only [go_sem] <;> omega) | fail)) only [go_sem, ints, bools, mat] <;> rfl)
                · rw [show last.toNat + 1 - w = 0 by omega] at hw3
                  rw [← hw3, nvF, cvR]
                  repeat' (first | simp -implicitDefEqProofs (maxSteps := 1000000) (disch := (first | omega | (simp only [go_sem] <;> omega) | fail)) only [go_sem, ints, bools, mat] | ((first | apply goIf_b | apply goG_b | apply goTG_b | apply goOG_b) <;> intro h <;> ((try simp only [hnq] at h); (try simp only [h]); (try simp only [hnr] at h)) <;> (try (exfalso; omega))))
            · repeat' (first | simp -implicitDefEqProofs (maxSteps := 1000000) (disch := (first | omega | (simp only [go_sem] <;> omega) | fail)) only [go_sem, ints, bools, mat, idxO, et, hc1] | ((first | apply goIf_b | apply goG_b | apply goTG_b | apply goOG_b) <;> intro h <;> ((try simp only [hnq] at h); (try simp only [h]); (try simp only [hnr] at h)) <;> (try (exfalso; omega))))
              first | refine goC_call [.r] (d_spec_l01N l (by omega) (isSpaceM_q hs)) ?_ | refine goOC_call [.r] (d_spec_l01N l (by omega) (isSpaceM_q hs)) ?_
              repeat' (first | simp -implicitDefEqProofs (maxSteps := 1000000) (disch := (first | omega | (simp only [go_sem] <;> omega) | fail)) only [go_sem, ints, bools, mat, hl2] | ((first | apply goIf_b | apply goG_b | apply goTG_b | apply goOG_b) <;> intro h <;> ((try simp only [hnq] at h); (try simp only [h]); (try simp only [hnr] at h)) <;> (try (exfalso; omega))))
              refine go_loop (fun (w : Nat) => ⟨[(1, .d (ints c)), (2, .d (ints (tmX l X))), (3, .d (di r)), (4, .d (di (k + 1 : Nat))), (5, .ref 0 0), (16, .d (di last)), (18, .d (di w))], [some (.var [ints l])]⟩) (fun w => f ≤ w ∧ w ≤ (prodM l).toNat ∧ nvF (fun w => nv l r k (w + 1) (X ++ ballM l w r)) (last.toNat + 1 - w) w = res) (fun w => (prodM l).toNat - w) f ?_ ?_ ?_
              · (simp -implicitDefEqProofs (maxSteps := 1000000) (disch := (first | omega | (simp only [go_sem] <;> omega) | fail)) only [go_sem, ints, bools, mat] <;> rfl)
              · exact ⟨Nat.le_refl _, hfN, hres⟩
              · rintro w ⟨hw1, hw2, hw3⟩ J2 hJ2
                by_cases hwl : (w : Int) ≤ last
                · have hB := ball_in l w r
                  have hBl : (ballM l w r).length ≤ (prodM l).toNat := by unfold ballM; exact filter_len_le _ _ _ (by rw [allW_len]; exact Nat.le_refl _)
                  have hden := ih (w + 1) (X ++ ballM l w r) (c ++ [(w : Int)]) (.inr ⟨by simp, by simp⟩) (by omega) (by rw [List.length_append]; omega) (by simp; omega)
                  have hct : ∀ i, i < (prodM l).toNat → ∀ m, (tmX l (X ++ (ballM l w r).take m)).getD i 0 ≤ 20000 ∧ 0 ≤ (tmX l (X ++ (ballM l w r).take m)).getD i 0 := fun i hi m => by
                    rw [tmX_get l _ hi]
                    have h1 := List.count_le_length (a := (i : Int)) (l := X ++ (ballM l w r).take m)
                    rw [List.length_append, List.length_take] at h1
                    omega
                  have hsr1 : ∀ L, nv l r k (w + 1) (X ++ ballM l w r) = some L → res = some ((w : Int) :: L) := fun L h => by
                    rw [← hw3]; exact nvF_hit (g := fun w => nv l r k (w + 1) (X ++ ballM l w r)) (n := last.toNat + 1) (by omega) h
                  have hsr0 : nv l r k (w + 1) (X ++ ballM l w r) = none → nvF (fun w => nv l r k (w + 1) (X ++ ballM l w r)) (last.toNat + 1 - (w + 1)) (w + 1) = res := fun h => by
                    rw [← hw3]; exact (nvF_go (g := fun w => nv l r k (w + 1) (X ++ ballM l w r)) (n := last.toNat + 1) (by omega) h).symm
                  repeat' (first | simp -implicitDefEqProofs (maxSteps := 1000000) (disch := (first | omega | (simp only [go_sem] <;> omega) | fail)) only [go_sem, ints, bools, mat] | ((first | apply goIf_b | apply goG_b | apply goTG_b | apply goOG_b) <;> intro h <;> ((try simp only [hnq] at h); (try simp only [h]); (try simp only [hnr] at h)) <;> (try (exfalso; omega))))
                  first | refine goC_call [.r] (d_spec_l01Own (tmX l X) (by rw [tmX_len]; omega)) ?_ | refine goOC_call [.r] (d_spec_l01Own (tmX l X) (by rw [tmX_len]; omega)) ?_
                  repeat' (first | simp -implicitDefEqProofs (maxSteps := 1000000) (disch := (first | omega | (simp only [go_sem] <;> omega) | fail)) only [go_sem, ints, bools, mat] | ((first | apply goIf_b | apply goG_b | apply goTG_b | apply goOG_b) <;> intro h <;> ((try simp only [hnq] at h); (try simp only [h]); (try simp only [hnr] at h)) <;> (try (exfalso; omega))))
                  first | refine goC_call [.r, .r, .r] (d_spec_l01Ball l hs w r (by omega) (by omega)) ?_ | refine goOC_call [.r, .r, .r] (d_spec_l01Ball l hs w r (by omega) (by omega)) ?_
                  generalize nv l r k (w + 1) (X ++ ballM l w r) = rr at *
                  generalize ballM l w r = B at *
                  repeat' (first | simp -implicitDefEqProofs (maxSteps := 1000000) (disch := (first | omega | (simp only [go_sem] <;> omega) | fail)) only [go_sem, ints, bools, mat] | ((first | apply goIf_b | apply goG_b | apply goTG_b | apply goOG_b) <;> intro h <;> ((try simp only [hnq] at h); (try simp only [h]); (try simp only [hnr] at h)) <;> (try (exfalso; omega))))
                  refine go_loop (fun (i : Nat) => ⟨[(1, .d (ints c)), (2, .d (ints (tmX l X))), (3, .d (di r)), (4, .d (di (k + 1 : Nat))), (5, .ref 0 0), (16, .d (di last)), (18, .d (di w)), (19, .sl 1 0 (prodM l).toNat 1), (20, .sl 2 0 B.length 1), (21, .d (di i))],
                      [some (.var [ints l]), some (.dat 1 ((tmX l (X ++ B.take i)).map di)), some (.dat 1 (B.map di))]⟩) (fun i => i ≤ B.length) (fun i => B.length - i) 0 ?_ ?_ ?_
                  · simp -implicitDefEqProofs (maxSteps := 1000000) (disch := (first | omega | (simp only [go_sem] <;> omega) | fail)) only [go_sem, ints, bools, mat, List.take_zero, List.append_nil]
                  · exact Nat.zero_le _
                  · intro i hi J3 hJ3
                    by_cases hil : i < B.length
                    · have hb := inC_get hB i hil
                      have e := tmX_step l X hB hil
                      have hc := hct (B.getD i 0).toNat (by omega) i
                      repeat' (first | simp -implicitDefEqProofs (maxSteps := 1000000) (disch := (first | omega | (simp only [go_sem] <;> omega) | fail)) only [go_sem, ints, bools, mat, e] | ((first | apply goIf_b | apply goG_b | apply goTG_b | apply goOG_b) <;> intro h <;> ((try simp only [hnq] at h); (try simp only [h]); (try simp only [hnr] at h)) <;> (try (exfalso; omega))))
                      refine hJ3 (i + 1) (by omega) (by omega) _ ?_
                      simp -implicitDefEqProofs (maxSteps := 1000000) (disch := (first | omega | (simp only [go_sem] <;> omega) | fail)) only [go_sem, ints, bools, mat, e]
                      rfl
                    · have hie : i = B.length := by omega
                      subst hie
                      rw [List.take_length]
                      cases rr with
                      | some L =>
                        rw [cvR] at hden
                        rw [hsr1 L rfl, cvR, show c ++ (w : Int) :: L = c ++ [(w : Int)] ++ L by simp]
                        repeat' (first | simp -implicitDefEqProofs (maxSteps := 1000000) (disch := (first | omega | (simp only [go_sem] <;> omega) | fail)) only [go_sem, ints, bools, mat] | ((first | apply goIf_b | apply goG_b | apply goTG_b | apply goOG_b) <;> intro h <;> ((try simp only [hnq] at h); (try simp only [h]); (try simp only [hnr] at h)) <;> (try (exfalso; omega))))
                        rw [goS_two]
                        refine ⟨?_, ?_⟩
                        · repeat' (first | simp -implicitDefEqProofs (maxSteps := 1000000) (disch := (first | omega | (simp only [go_sem] <;> omega) | fail)) only [go_sem, ints, bools, mat] | ((first | apply goIf_b | apply goG_b | apply goTG_b | apply goOG_b) <;> intro h <;> ((try simp only [hnq] at h); (try simp only [h]); (try simp only [hnr] at h)) <;> (try (exfalso; omega))))
                          first | refine goC_call [.r] (d_spec_l01Own c (by omega)) ?_ | refine goOC_call [.r] (d_spec_l01Own c (by omega)) ?_
                          repeat' (first | simp -implicitDefEqProofs (maxSteps := 1000000) (disch := (first | omega | (simp only [go_sem] <;> omega) | fail)) only [go_sem, ints, bools, mat] | ((first | apply goIf_b | apply goG_b | apply goTG_b | apply goOG_b) <;> intro h <;> ((try simp only [hnq] at h); (try simp only [h]); (try simp only [hnr] at h)) <;> (try (exfalso; omega))))
                          first | refine goC_call [.r, .f, .f, .r, .r] (hden) ?_ | refine goOC_call [.r, .f, .f, .r, .r] (hden) ?_
                          repeat' (first | simp -implicitDefEqProofs (maxSteps := 1000000) (disch := (first | omega | (simp only [go_sem] <;> omega) | fail)) only [go_sem, ints, bools, mat] | ((first | apply goIf_b | apply goG_b | apply goTG_b | apply goOG_b) <;> intro h <;> ((try simp only [hnq] at h); (try simp only [h]); (try simp only [hnr] at h)) <;> (try (exfalso; omega))))
                        · repeat' (first | simp -implicitDefEqProofs (maxSteps := 1000000) (disch := (first | omega | (simp only [go_sem] <;> omega) | fail)) only [go_sem, ints, bools, mat] | ((first | apply goIf_b | apply goG_b | apply goTG_b | apply goOG_b) <;> intro h <;> ((try simp only [hnq] at h); (try simp only [h]); (try simp only [hnr] at h)) <;> (try (exfalso; omega))))
                          first | refine goC_call [.r] (d_spec_l01Own c (by omega)) ?_ | refine goOC_call [.r] (d_spec_l01Own c (by omega)) ?_
                          repeat' (first | simp -implicitDefEqProofs (maxSteps := 1000000) (disch := (first | omega | (simp only [go_sem] <;> omega) | fail)) only [go_sem, ints, bools, mat] | ((first | apply goIf_b | apply goG_b | apply goTG_b | apply goOG_b) <;> intro h <;> ((try simp only [hnq] at h); (try simp only [h]); (try simp only [hnr] at h)) <;> (try (exfalso; omega))))
                          first | refine goC_call [.r, .f, .f, .r, .r] (hden) ?_ | refine goOC_call [.r, .f, .f, .r, .r] (hden) ?_
                          repeat' (first | simp -implicitDefEqProofs (maxSteps := 1000000) (disch := (first | omega | (simp only [go_sem] <;> omega) | fail)) only [go_sem, ints, bools, mat] | ((first | apply goIf_b | apply goG_b | apply goTG_b | apply goOG_b) <;> intro h <;> ((try simp only [hnq] at h); (try simp only [h]); (try simp only [hnr] at h)) <;> (try (exfalso; omega))))
                      | none =>
                        rw [cvR] at hden
                        have hs0 := hsr0 rfl
                        repeat' (first | simp -implicitDefEqProofs (maxSteps := 1000000) (disch := (first | omega | (simp only [go_sem] <;> omega) | fail)) only [go_sem, ints, bools, mat] | ((first | apply goIf_b | apply goG_b | apply goTG_b | apply goOG_b) <;> intro h <;> ((try simp only [hnq] at h); (try simp only [h]); (try simp only [hnr] at h)) <;> (try (exfalso; omega))))
                        rw [goS_two]
                        refine ⟨?_, ?_⟩
                        · repeat' (first | simp -implicitDefEqProofs (maxSteps := 1000000) (disch := (first | omega | (simp only [go_sem] <;> omega) | fail)) only [go_sem, ints, bools, mat] | ((first | apply goIf_b | apply goG_b | apply goTG_b | apply goOG_b) <;> intro h <;> ((try simp only [hnq] at h); (try simp only [h]); (try simp only [hnr] at h)) <;> (try (exfalso; omega))))
                          first | refine goC_call [.r] (d_spec_l01Own c (by omega)) ?_ | refine goOC_call [.r] (d_spec_l01Own c (by omega)) ?_
                          repeat' (first | simp -implicitDefEqProofs (maxSteps := 1000000) (disch := (first | omega | (simp only [go_sem] <;> omega) | fail)) only [go_sem, ints, bools, mat] | ((first | apply goIf_b | apply goG_b | apply goTG_b | apply goOG_b) <;> intro h <;> ((try simp only [hnq] at h); (try simp only [h]); (try simp only [hnr] at h)) <;> (try (exfalso; omega))))
                          first | refine goC_call [.r, .f, .f, .r, .r] (hden) ?_ | refine goOC_call [.r, .f, .f, .r, .r] (hden) ?_
                          repeat' (first | simp -implicitDefEqProofs (maxSteps := 1000000) (disch := (first | omega | (simp only [go_sem] <;> omega) | fail)) only [go_sem, ints, bools, mat] | ((first | apply goIf_b | apply goG_b | apply goTG_b | apply goOG_b) <;> intro h <;> ((try simp only [hnq] at h); (try simp only [h]); (try simp only [hnr] at h)) <;> (try (exfalso; omega))))
                          refine hJ2 (w + 1) ⟨by omega, by omega, hs0⟩ (by omega) _ ?_
                          (simp -implicitDefEqProofs (maxSteps := 1000000) (disch := (first | omega | (simp only [go_sem] <;> omega) | fail)) only [go_sem, ints, bools, mat] <;> rfl)
                        · repeat' (first | simp -implicitDefEqProofs (maxSteps := 1000000) (disch := (first | omega | (simp only [go_sem] <;> omega) | fail)) only [go_sem, ints, bools, mat] | ((first | apply goIf_b | apply goG_b | apply goTG_b | apply goOG_b) <;> intro h <;> ((try simp only [hnq] at h); (try simp only [h]); (try simp only [hnr] at h)) <;> (try (exfalso; omega))))
                          first | refine goC_call [.r] (d_spec_l01Own c (by omega)) ?_ | refine goOC_call [.r] (d_spec_l01Own c (by omega)) ?_
                          repeat' (first | simp -implicitDefEqProofs (maxSteps := 1000000) (disch := (first | omega | (simp only [go_sem] <;> omega) | fail)) only [go_sem, ints, bools, mat] | ((first | apply goIf_b | apply goG_b | apply goTG_b | apply goOG_b) <;> intro h <;> ((try simp only [hnq] at h); (try simp only [h]); (try simp only [hnr] at h)) <;> (try (exfalso; omega))))
                          first | refine goC_call [.r, .f, .f, .r, .r] (hden) ?_ | refine goOC_call [.r, .f, .f, .r, .r] (hden) ?_
                          repeat' (first | simp -implicitDefEqProofs (maxSteps := 1000000) (disch := (first | omega | (simp only [go_sem] <;> omega) | fail)) only [go_sem, ints, bools, mat] | ((first | apply goIf_b | apply goG_b | apply goTG_b | apply goOG_b) <;> intro h <;> ((try simp only [hnq] at h); (try simp only [h]); (try simp only [hnr] at h)) <;> (try (exfalso; omega))))
                          refine hJ2 (w + 1) ⟨by omega, by omega, hs0⟩ (by omega) _ ?_
                          (simp -implicitDefEqProofs (maxSteps := 1000000) (disch := (first | omega | (simp only [go_sem] <;> omega) | fail)) only [go_sem, ints, bools, mat] <;> rfl)
                · rw [show last.toNat + 1 - w = 0 by omega] at hw3
                  rw [← hw3, nvF, cvR]
                  repeat' (first | simp -implicitDefEqProofs (maxSteps := 1000000) (disch := (first | omega | (simp only [go_sem] <;> omega) | fail)) only [go_sem, ints, bools, mat] | ((first | apply goIf_b | apply goG_b | apply goTG_b | apply goOG_b) <;> intro h <;> ((try simp only [hnq] at h); (try simp only [h]); (try simp only [hnr] at h)) <;> (try (exfalso; omega))))
          | some o =>
            rw [ho] at hlast
            obtain ⟨hob, _, _⟩ := opn_some ho
            have hl2 : (ballM l o r).getD ((ballM l o r).length - 1) 0 = last := hlast
            have hbp := List.length_pos_of_mem (ball_self hob hr0)
            have et2 : (((ballM l o r).length : Int) - 1).toNat = (ballM l o r).length - 1 := by omega
            have hobl : (ballM l o r).length ≤ (prodM l).toNat := by unfold ballM; exact filter_len_le _ _ _ (by rw [allW_len]; exact Nat.le_refl _)
            rcases hnx with ⟨hce, hf0⟩ | ⟨hc0, hc1⟩
            · have hcl0 : c.length = 0 := by rw [hce]; rfl
              subst hf0
              repeat' (first | simp -implicitDefEqProofs (maxSteps := 1000000) (disch := (first | omega | (simp only [go_sem] <;> omega) | fail)) only [go_sem, ints, bools, mat, idxO] | ((first | apply goIf_b | apply goG_b | apply goTG_b | apply goOG_b) <;> intro h <;> ((try simp only [hnq] at h); (try simp only [h]); (try simp only [hnr] at h)) <;> (try (exfalso; omega))))
              first | refine goC_call [.r] (d_spec_l01N l (by omega) (isSpaceM_q hs)) ?_ | refine goOC_call [.r] (d_spec_l01N l (by omega) (isSpaceM_q hs)) ?_
              repeat' (first | simp -implicitDefEqProofs (maxSteps := 1000000) (disch := (first | omega | (simp only [go_sem] <;> omega) | fail)) only [go_sem, ints, bools, mat] | ((first | apply goIf_b | apply goG_b | apply goTG_b | apply goOG_b) <;> intro h <;> ((try simp only [hnq] at h); (try simp only [h]); (try simp only [hnr] at h)) <;> (try (exfalso; omega))))
              first | refine goC_call [.r, .r, .r] (d_spec_l01Ball l hs o r (by omega) (by omega)) ?_ | refine goOC_call [.r, .r, .r] (d_spec_l01Ball l hs o r (by omega) (by omega)) ?_
              repeat' (first | simp -implicitDefEqProofs (maxSteps := 1000000) (disch := (first | omega | (simp only [go_sem] <;> omega) | fail)) only [go_sem, ints, bools, mat, et2, hl2] | ((first | apply goIf_b | apply goG_b | apply goTG_b | apply goOG_b) <;> intro h <;> ((try simp only [hnq] at h); (try simp only [h]); (try simp only [hnr] at h)) <;> (try (exfalso; omega))))
              refine go_loop (fun (w : Nat) => ⟨[(1, .d (ints c)), (2, .d (ints (tmX l X))), (3, .d (di r)), (4, .d (di (k + 1 : Nat))), (5, .ref 0 0), (16, .d (di last)), (18, .d (di w))], [some (.var [ints l])]⟩) (fun w => 0 ≤ w ∧ w ≤ (prodM l).toNat ∧ nvF (fun w => nv l r k (w + 1) (X ++ ballM l w r)) (last.toNat + 1 - w) w = res) (fun w => (prodM l).toNat - w) 0 ?_ ?_ ?_
              · (simp -implicitDefEqProofs (maxSteps := 1000000) (disch := (first | omega | (simp only [go_sem] <;> omega) | fail)) only [go_sem, ints, bools, mat] <;> rfl)
              · exact ⟨Nat.le_refl _, hfN, hres⟩
              · rintro w ⟨hw1, hw2, hw3⟩ J2 hJ2
                by_cases hwl : (w : Int) ≤ last
                · have hB := ball_in l w r
                  have hBl : (ballM l w r).length ≤ (prodM l).toNat := by unfold ballM; exact filter_len_le _ _ _ (by rw [allW_len]; exact Nat.le_refl _)
                  have hden := ih (w + 1) (X ++ ballM l w r) (c ++ [(w : Int)]) (.inr ⟨by simp, by simp⟩) (by omega) (by rw [List.length_append]; omega) (by simp; omega)
                  have hct : ∀ i, i < (prodM l).toNat → ∀ m, (tmX l (X ++ (ballM l w r).take m)).getD i 0 ≤ 20000 ∧ 0 ≤ (tmX l (X ++ (ballM l w r).take m)).getD i 0 := fun i hi m => by
                    rw [tmX_get l _ hi]
                    have h1 := List.count_le_length (a := (i : Int)) (l := X ++ (ballM l w r).take m)
                    rw [List.length_append, List.length_take] at h1
                    omega
                  have hsr1 : ∀ L, nv l r k (w + 1) (X ++ ballM l w r) = some L → res = some ((w : Int) :: L) := fun L h => by
                    rw [← hw3]; exact nvF_hit (g := fun w => nv l r k (w + 1) (X ++ ballM l w r)) (n := last.toNat + 1) (by omega) h
                  have hsr0 : nv l r k (w + 1) (X ++ ballM l w r) = none → nvF (fun w => nv l r k (w + 1) (X ++ ballM l w r)) (last.toNat + 1 - (w + 1)) (w + 1) = res := fun h => by
                    rw [← hw3]; exact (nvF_go (g := fun w => nv l r k (w + 1) (X ++ ballM l w r)) (n := last.toNat + 1) (by omega) h).symm
                  repeat' (first | simp -implicitDefEqProofs (maxSteps := 1000000) (disch := (first | omega | (simp only [go_sem] <;> omega) | fail)) only [go_sem, ints, bools, mat] | ((first | apply goIf_b | apply goG_b | apply goTG_b | apply goOG_b) <;> intro h <;> ((try simp only [hnq] at h); (try simp only [h]); (try simp only [hnr] at h)) <;> (try (exfalso; omega))))
                  first | refine goC_call [.r] (d_spec_l01Own (tmX l X) (by rw [tmX_len]; omega)) ?_ | refine goOC_call [.r] (d_spec_l01Own (tmX l X) (by rw [tmX_len]; omega)) ?_
                  repeat' (first | simp -implicitDefEqProofs (maxSteps := 1000000) (disch := (first | omega | (simp only [go_sem] <;> omega) | fail)) only [go_sem, ints, bools, mat] | ((first | apply goIf_b | apply goG_b | apply goTG_b | apply goOG_b) <;> intro h <;> ((try simp only [hnq] at h); (try simp only [h]); (try simp only [hnr] at h)) <;> (try (exfalso; omega))))
                  first | refine goC_call [.r, .r, .r] (d_spec_l01Ball l hs w r (by omega) (by omega)) ?_ | refine goOC_call [.r, .r, .r] (d_spec_l01Ball l hs w r (by omega) (by omega)) ?_
                  generalize nv l r k (w + 1) (X ++ ballM l w r) = rr at *
                  generalize ballM l w r = B at *
                  repeat' (first | simp -implicitDefEqProofs (maxSteps := 1000000) (disch := (first | omega | (simp only [go_sem] <;> omega) | fail)) only [go_sem, ints, bools, mat] | ((first | apply goIf_b | apply goG_b | apply goTG_b | apply goOG_b) <;> intro h <;> ((try simp only [hnq] at h); (try simp only [h]); (try simp only [hnr] at h)) <;> (try (exfalso; omega))))
                  refine go_loop (fun (i : Nat) => ⟨[(1, .d (ints c)), (2, .d (ints (tmX l X))), (3, .d (di r)), (4, .d (di (k + 1 : Nat))), (5, .ref 0 0), (16, .d (di last)), (18, .d (di w)), (19, .sl 1 0 (prodM l).toNat 1), (20, .sl 2 0 B.length 1), (21, .d (di i))],
                      [some (.var [ints l]), some (.dat 1 ((tmX l (X ++ B.take i)).map di)), some (.dat 1 (B.map di))]⟩) (fun i => i ≤ B.length) (fun i => B.length - i) 0 ?_ ?_ ?_
                  · simp -implicitDefEqProofs (maxSteps := 1000000) (disch := (first | omega | (simp only [go_sem] <;> omega) | fail)) only [go_sem, ints, bools, mat, List.take_zero, List.append_nil]
                  · exact Nat.zero_le _
                  · intro i hi J3 hJ3
                    by_cases hil : i < B.length
                    · have hb := inC_get hB i hil
                      have e := tmX_step l X hB hil
                      have hc := hct (B.getD i 0).toNat (by omega) i
                      repeat' (first | simp -implicitDefEqProofs (maxSteps := 1000000) (disch := (first | omega | (simp only [go_sem] <;> omega) | fail)) only [go_sem, ints, bools, mat, e] | ((first | apply goIf_b | apply goG_b | apply goTG_b | apply goOG_b) <;> intro h <;> ((try simp only [hnq] at h); (try simp only [h]); (try simp only [hnr] at h)) <;> (try (exfalso; omega))))
                      refine hJ3 (i + 1) (by omega) (by omega) _ ?_
                      simp -implicitDefEqProofs (maxSteps := 1000000) (disch := (first | omega | (simp only [go_sem] <;> omega) | fail)) only [go_sem, ints, bools, mat, e]
                      rfl
                    · have hie : i = B.length := by omega
                      subst hie
                      rw [List.take_length]
                      cases rr with
                      | some L =>
                        rw [cvR] at hden
                        rw [hsr1 L rfl, cvR, show c ++ (w : Int) :: L = c ++ [(w : Int)] ++ L by simp]
                        repeat' (first | simp -implicitDefEqProofs (maxSteps := 1000000) (disch := (first | omega | (simp only [go_sem] <;> omega) | fail)) only [go_sem, ints, bools, mat] | ((first | apply goIf_b | apply goG_b | apply goTG_b | apply goOG_b) <;> intro h <;> ((try simp only [hnq] at h); (try simp only [h]); (try simp only [hnr] at h)) <;> (try (exfalso; omega))))
                        rw [goS_two]
                        refine ⟨?_, ?_⟩
                        · repeat' (first | simp -implicitDefEqProofs (maxSteps := 1000000) (disch := (first | omega | (simp only [go_sem] <;> omega) | fail)) only [go_sem, ints, bools, mat] | ((first | apply goIf_b | apply goG_b | apply goTG_b | apply goOG_b) <;> intro h <;> ((try simp only [hnq] at h); (try simp only [h]); (try simp only [hnr] at h)) <;> (try (exfalso; omega))))
                          first | refine goC_call [.r] (d_spec_l01Own c (by omega)) ?_ | refine goOC_call [.r] (d_spec_l01Own c (by omega)) ?_
                          repeat' (first | simp -implicitDefEqProofs (maxSteps := 1000000) (disch := (first | omega | (simp only [go_sem] <;> omega) | fail)) only [go_sem, ints, bools, mat] | ((first | apply goIf_b | apply goG_b | apply goTG_b | apply goOG_b) <;> intro h <;> ((try simp only [hnq] at h); (try simp only [h]); (try simp only [hnr] at h)) <;> (try (exfalso; omega))))
                          first | refine goC_call [.r, .f, .f, .r, .r] (hden) ?_ | refine goOC_call [.r, .f, .f, .r, .r] (hden) ?_
                          repeat' (first | simp -implicitDefEqProofs (maxSteps := 1000000) (disch := (first | omega | (simp only [go_sem] <;> omega) | fail)) only [go_sem, ints, bools, mat] | ((first | apply goIf_b | apply goG_b | apply goTG_b | apply goOG_b) <;> intro h <;> ((try simp only [hnq] at h); (try simp only [h]); (try simp only [hnr] at h)) <;> (try (exfalso; omega))))
                        · repeat' (first | simp -implicitDefEqProofs (maxSteps := 1000000) (disch := (first | omega | (simp only [go_sem] <;> omega) | fail)) only [go_sem, ints, bools, mat] | ((first | apply goIf_b | apply goG_b | apply goTG_b | apply goOG_b) <;> intro h <;> ((try simp only [hnq] at h); (try simp only [h]); (try simp only [hnr] at h)) <;> (try (exfalso; omega))))
                          first | refine goC_call [.r] (d_spec_l01Own c (by omega)) ?_ | refine goOC_call [.r] (d_spec_l01Own c (by omega)) ?_
                          repeat' (first | simp -implicitDefEqProofs (maxSteps := 1000000) (disch := (first | omega | (simp only [go_sem] <;> omega) | fail)) only [go_sem, ints, bools, mat] | ((first | apply goIf_b | apply goG_b | apply goTG_b | apply goOG_b) <;> intro h <;> ((try simp only [hnq] at h); (try simp only [h]); (try simp only [hnr] at h)) <;> (try (exfalso; omega))))
                          first | refine goC_call [.r, .f, .f, .r, .r] (hden) ?_ | refine goOC_call [.r, .f, .f, .r, .r] (hden) ?_
                          repeat' (first | simp -implicitDefEqProofs (maxSteps := 1000000) (disch := (first | omega | (simp only [go_sem] <;> omega) | fail)) only [go_sem, ints, bools, mat] | ((first | apply goIf_b | apply goG_b | apply goTG_b | apply goOG_b) <;> intro h <;> ((try simp only [hnq] at h); (try simp only [h]); (try simp only [hnr] at h)) <;> (try (exfalso; omega))))
                      | none =>
                        rw [cvR] at hden
                        have hs0 := hsr0 rfl
                        repeat' (first | simp -implicitDefEqProofs (maxSteps := 1000000) (disch := (first | omega | (simp only [go_sem] <;> omega) | fail)) only [go_sem, ints, bools, mat] | ((first | apply goIf_b | apply goG_b | apply goTG_b | apply goOG_b) <;> intro h <;> ((try simp only [hnq] at h); (try simp only [h]); (try simp only [hnr] at h)) <;> (try (exfalso; omega))))
                        rw [goS_two]
                        refine ⟨?_, ?_⟩
                        · repeat' (first | simp -implicitDefEqProofs (maxSteps := 1000000) (disch := (first | omega | (simp only [go_sem] <;> omega) | fail)) only [go_sem, ints, bools, mat] | ((first | apply goIf_b | apply goG_b | apply goTG_b | apply goOG_b) <;> intro h <;> ((try simp only [hnq] at h); (try simp only [h]); (try simp only [hnr] at h)) <;> (try (exfalso; omega))))
                          first | refine goC_call [.r] (d_spec_l01Own c (by omega)) ?_ | refine goOC_call [.r] (d_spec_l01Own c (by omega)) ?_
                          repeat' (first | simp -implicitDefEqProofs (maxSteps := 1000000) (disch := (first | omega | (simp only [go_sem] <;> omega) | fail)) only [go_sem, ints, bools, mat] | ((first | apply goIf_b | apply goG_b | apply goTG_b | apply goOG_b) <;> intro h <;> ((try simp only [hnq] at h); (try simp only [h]); (try simp only [hnr] at h)) <;> (try (exfalso; omega))))
                          first | refine goC_call [.r, .f, .f, .r, .r] (hden) ?_ | refine goOC_call [.r, .f, .f, .r, .r] (hden) ?_
                          repeat' (first | simp -implicitDefEqProofs (maxSteps := 1000000) (disch := (first | omega | (simp only [go_sem] <;> omega) | fail)) only [go_sem, ints, bools, mat] | ((first | apply goIf_b | apply goG_b | apply goTG_b | apply goOG_b) <;> intro h <;> ((try simp only [hnq] at h); (try simp only [h]); (try simp only [hnr] at h)) <;> (try (exfalso; omega))))
                          refine hJ2 (w + 1) ⟨by omega, by omega, hs0⟩ (by omega) _ ?_
                          (simp -implicitDefEqProofs (maxSteps := 1000000) (disch := (first | omega | (simp only [go_sem] <;> omega) | fail)) only [go_sem, ints, bools, mat] <;> rfl)
                        · repeat' (first | simp -implicitDefEqProofs (maxSteps := 1000000) (disch := (first | omega | (simp only [go_sem] <;> omega) | fail)) only [go_sem, ints, bools, mat] | ((first | apply goIf_b | apply goG_b | apply goTG_b | apply goOG_b) <;> intro h <;> ((try simp only [hnq] at h); (try simp only [h]); (try simp only [hnr] at h)) <;> (try (exfalso; omega))))
                          first | refine goC_call [.r] (d_spec_l01Own c (by omega)) ?_ | refine goOC_call [.r] (d_spec_l01Own c (by omega)) ?_
                          repeat' (first | simp -implicitDefEqProofs (maxSteps := 1000000) (disch := (first | omega | (simp only [go_sem] <;> omega) | fail)) only [go_sem, ints, bools, mat] | ((first | apply goIf_b | apply goG_b | apply goTG_b | apply goOG_b) <;> intro h <;> ((try simp only [hnq] at h); (try simp only [h]); (try simp only [hnr] at h)) <;> (try (exfalso; omega))))
                          first | refine goC_call [.r, .f, .f, .r, .r] (hden) ?_ | refine goOC_call [.r, .f, .f, .r, .r] (hden) ?_
                          repeat' (first | simp -implicitDefEqProofs (maxSteps := 1000000) (disch := (first | omega | (simp only [go_sem] <;> omega) | fail)) only [go_sem, ints, bools, mat] | ((first | apply goIf_b | apply goG_b | apply goTG_b | apply goOG_b) <;> intro h <;> ((try simp only [hnq] at h); (try simp only [h]); (try simp only [hnr] at h)) <;> (try (exfalso; omega))))
                          refine hJ2 (w + 1) ⟨by omega, by omega, hs0⟩ (by omega) _ ?_
                          (simp -implicitDefEqProofs (maxSteps := 1000000) (disch := (first | omega | (simp only [go_sem] <;> omega) | fail)) only [go_sem, ints, bools, mat] <;> rfl)
                · rw [show last.toNat + 1 - w = 0 by omega] at hw3
                  rw [← hw3, nvF, cvR]
                  repeat' (first | simp -implicitDefEqProofs (maxSteps := 1000000) (disch := (first | omega | (simp only [go_sem] <;> omega) | fail)) only [go_sem, ints, bools, mat] | ((first | apply goIf_b | apply goG_b | apply goTG_b | apply goOG_b) <;> intro h <;> ((try simp only [hnq] at h); (try simp only [h]); (try simp only [hnr] at h)) <;> (try (exfalso; omega))))
            · repeat' (first | simp -implicitDefEqProofs (maxSteps := 1000000) (disch := (first | omega | (simp only [go_sem] <;> omega) | fail)) only [go_sem, ints, bools, mat, idxO, et, hc1] | ((first | apply goIf_b | apply goG_b | apply goTG_b | apply goOG_b) <;> intro h <;> ((try simp only [hnq] at h); (try simp only [h]); (try simp only [hnr] at h)) <;> (try (exfalso; omega))))
              first | refine goC_call [.r] (d_spec_l01N l (by omega) (isSpaceM_q hs)) ?_ | refine goOC_call [.r] (d_spec_l01N l (by omega) (isSpaceM_q hs)) ?_
              repeat' (first | simp -implicitDefEqProofs (maxSteps := 1000000) (disch := (first | omega | (simp only [go_sem] <;> omega) | fail)) only [go_sem, ints, bools, mat] | ((first | apply goIf_b | apply goG_b | apply goTG_b | apply goOG_b) <;> intro h <;> ((try simp only [hnq] at h); (try simp only [h]); (try simp only [hnr] at h)) <;> (try (exfalso; omega))))
              first | refine goC_call [.r, .r, .r] (d_spec_l01Ball l hs o r (by omega) (by omega)) ?_ | refine goOC_call [.r, .r, .r] (d_spec_l01Ball l hs o r (by omega) (by omega)) ?_
              repeat' (first | simp -implicitDefEqProofs (maxSteps := 1000000) (disch := (first | omega | (simp only [go_sem] <;> omega) | fail)) only [go_sem, ints, bools, mat, et2, hl2] | ((first | apply goIf_b | apply goG_b | apply goTG_b | apply goOG_b) <;> intro h <;> ((try simp only [hnq] at h); (try simp only [h]); (try simp only [hnr] at h)) <;> (try (exfalso; omega))))
              refine go_loop (fun (w : Nat) => ⟨[(1, .d (ints c)), (2, .d (ints (tmX l X))), (3, .d (di r)), (4, .d (di (k + 1 : Nat))), (5, .ref 0 0), (16, .d (di last)), (18, .d (di w))], [some (.var [ints l])]⟩) (fun w => f ≤ w ∧ w ≤ (prodM l).toNat ∧ nvF (fun w => nv l r k (w + 1) (X ++ ballM l w r)) (last.toNat + 1 - w) w = res) (fun w => (prodM l).toNat - w) f ?_ ?_ ?_
              · (simp -implicitDefEqProofs (maxSteps := 1000000) (disch := (first | omega | (simp only [go_sem] <;> omega) | fail)) only [go_sem, ints, bools, mat] <;> rfl)
              · exact ⟨Nat.le_refl _, hfN, hres⟩
              · rintro w ⟨hw1, hw2, hw3⟩ J2 hJ2
                by_cases hwl : (w : Int) ≤ last
                · have hB := ball_in l w r
                  have hBl : (ballM l w r).length ≤ (prodM l).toNat := by unfold ballM; exact filter_len_le _ _ _ (by rw [allW_len]; exact Nat.le_refl _)
                  have hden := ih (w + 1) (X ++ ballM l w r) (c ++ [(w : Int)]) (.inr ⟨by simp, by simp⟩) (by omega) (by rw [List.length_append]; omega) (by simp; omega)
                  have hct : ∀ i, i < (prodM l).toNat → ∀ m, (tmX l (X ++ (ballM l w r).take m)).getD i 0 ≤ 20000 ∧ 0 ≤ (tmX l (X ++ (ballM l w r).take m)).getD i 0 := fun i hi m => by
                    rw [tmX_get l _ hi]
                    have h1 := List.count_le_length (a := (i : Int)) (l := X ++ (ballM l w r).take m)
                    rw [List.length_append, List.length_take] at h1
                    omega
                  have hsr1 : ∀ L, nv l r k (w + 1) (X ++ ballM l w r) = some L → res = some ((w : Int) :: L) := fun L h => by
                    rw [← hw3]; exact nvF_hit (g := fun w => nv l r k (w + 1) (X ++ ballM l w r)) (n := last.toNat + 1) (by omega) h
                  have hsr0 : nv l r k (w + 1) (X ++ ballM l w r) = none → nvF (fun w => nv l r k (w + 1) (X ++ ballM l w r)) (last.toNat + 1 - (w + 1)) (w + 1) = res := fun h => by
                    rw [← hw3]; exact (nvF_go (g := fun w => nv l r k (w + 1) (X ++ ballM l w r)) (n := last.toNat + 1) (by omega) h).symm
                  repeat' (first | simp -implicitDefEqProofs (maxSteps := 1000000) (disch := (first | omega | (simp only [go_sem] <;> omega) | fail)) only [go_sem, ints, bools, mat] | ((first | apply goIf_b | apply goG_b | apply goTG_b | apply goOG_b) <;> intro h <;> ((try simp only [hnq] at h); (try simp only [h]); (try simp only [hnr] at h)) <;> (try (exfalso; omega))))
                  first | refine goC_call [.r] (d_spec_l01Own (tmX l X) (by rw [tmX_len]; omega)) ?_ | refine goOC_call [.r] (d_spec_l01Own (tmX l X) (by rw [tmX_len]; omega)) ?_
                  repeat' (first | simp -implicitDefEqProofs (maxSteps := 1000000) (disch := (first | omega | (simp only [go_sem] <;> omega) | fail)) only [go_sem, ints, bools, mat] | ((first | apply goIf_b | apply goG_b | apply goTG_b | apply goOG_b) <;> intro h <;> ((try simp only [hnq] at h); (try simp only [h]); (try simp only [hnr] at h)) <;> (try (exfalso; omega))))
                  first | refine goC_call [.r, .r, .r] (d_spec_l01Ball l hs w r (by omega) (by omega)) ?_ | refine goOC_call [.r, .r, .r] (d_spec_l01Ball l hs w r (by omega) (by omega)) ?_
                  generalize nv l r k (w + 1) (X ++ ballM l w r) = rr at *
                  generalize ballM l w r = B at *
                  repeat' (first | simp -implicitDefEqProofs (maxSteps := 1000000) (disch := (first | omega | (simp only [go_sem] <;> omega) | fail)) only [go_sem, ints, bools, mat] | ((first | apply goIf_b | apply goG_b | apply goTG_b | apply goOG_b) <;> intro h <;> ((try simp only [hnq] at h); (try simp only [h]); (try simp only [hnr] at h)) <;> (try (exfalso; omega))))
                  refine go_loop (fun (i : Nat) => ⟨[(1, .d (ints c)), (2, .d (ints (tmX l X))), (3, .d (di r)), (4, .d (di (k + 1 : Nat))), (5, .ref 0 0), (16, .d (di last)), (18, .d (di w)), (19, .sl 1 0 (prodM l).toNat 1), (20, .sl 2 0 B.length 1), (21, .d (di i))],
                      [some (.var [ints l]), some (.dat 1 ((tmX l (X ++ B.take i)).map di)), some (.dat 1 (B.map di))]⟩) (fun i => i ≤ B.length) (fun i => B.length - i) 0 ?_ ?_ ?_
                  · simp -implicitDefEqProofs (maxSteps := 1000000) (disch := (first | omega | (simp only [go_sem] <;> omega) | fail)) only [go_sem, ints, bools, mat, List.take_zero, List.append_nil]
                  · exact Nat.zero_le _
                  · intro i hi J3 hJ3
                    by_cases hil : i < B.length
                    · have hb := inC_get hB i hil
                      have e := tmX_step l X hB hil
                      have hc := hct (B.getD i 0).toNat (by omega) i
                      repeat' (first | simp -implicitDefEqProofs (maxSteps := 1000000) (disch := (first | omega | (simp only [go_sem] <;> omega) | fail)) only [go_sem, ints, bools, mat, e] | ((first | apply goIf_b | apply goG_b | apply goTG_b | apply goOG_b) <;> intro h <;> ((try simp only [hnq] at h); (try simp only [h]); (try simp only [hnr] at h)) <;> (try (exfalso; omega))))
                      refine hJ3 (i + 1) (by omega) (by omega) _ ?_
                      simp -implicitDefEqProofs (maxSteps := 1000000) (disch := (first | omega | (simp only [go_sem] <;> omega) | fail)) only [go_sem, ints, bools, mat, e]
                      rfl
                    · have hie : i = B.length := by omega
                      subst hie
                      rw [List.take_length]
                      cases rr with
                      | some L =>
                        rw [cvR] at hden
                        rw [hsr1 L rfl, cvR, show c ++ (w : Int) :: L = c ++ [(w : Int)] ++ L by simp]
                        repeat' (first | simp -implicitDefEqProofs (maxSteps := 1000000) (disch := (first | omega | (simp only [go_sem] <;> omega) | fail)) only [go_sem, ints, bools, mat] | ((first | apply goIf_b | apply goG_b | apply goTG_b | apply goOG_b) <;> intro h <;> ((try simp only [hnq] at h); (try simp only [h]); (try simp only [hnr] at h)) <;> (try (exfalso; omega))))
                        rw [goS_two]
                        refine ⟨?_, ?_⟩
                        · repeat' (first | simp -implicitDefEqProofs (maxSteps := 1000000) (disch := (first | omega | (simp only [go_sem] <;> omega) | fail)) only [go_sem, ints, bools, mat] | ((first | apply goIf_b | apply goG_b | apply goTG_b | apply goOG_b) <;> intro h <;> ((try simp only [hnq] at h); (try simp only [h]); (try simp only [hnr] at h)) <;> (try (exfalso; omega))))
                          first | refine goC_call [.r] (d_spec_l01Own c (by omega)) ?_ | refine goOC_call [.r] (d_spec_l01Own c (by omega)) ?_
                          repeat' (first | simp -implicitDefEqProofs (maxSteps := 1000000) (disch := (first | omega | (simp only [go_sem] <;> omega) | fail)) only [go_sem, ints, bools, mat] | ((first | apply goIf_b | apply goG_b | apply goTG_b | apply goOG_b) <;> intro h <;> ((try simp only [hnq] at h); (try simp only [h]); (try simp only [hnr] at h)) <;> (try (exfalso; omega))))
                          first | refine goC_call [.r, .f, .f, .r, .r] (hden) ?_ | refine goOC_call [.r, .f, .f, .r, .r] (hden) ?_
                          repeat' (first | simp -implicitDefEqProofs (maxSteps := 1000000) (disch := (first | omega | (simp only [go_sem] <;> omega) | fail)) only [go_sem, ints, bools, mat] | ((first | apply goIf_b | apply goG_b | apply goTG_b | apply goOG_b) <;> intro h <;> ((try simp only [hnq] at h); (try simp only [h]); (try simp only [hnr] at h)) <;> (try (exfalso; omega))))
                        · repeat' (first | simp -implicitDefEqProofs (maxSteps := 1000000) (disch := (first | omega | (simp only [go_sem] <;> omega) | fail)) only [go_sem, ints, bools, mat] | ((first | apply goIf_b | apply goG_b | apply goTG_b | apply goOG_b) <;> intro h <;> ((try simp only [hnq] at h); (try simp only [h]); (try simp only [hnr] at h)) <;> (try (exfalso; omega))))
                          first | refine goC_call [.r] (d_spec_l01Own c (by omega)) ?_ | refine goOC_call [.r] (d_spec_l01Own c (by omega)) ?_
                          repeat' (first | simp -implicitDefEqProofs (maxSteps := 1000000) (disch := (first | omega | (simp only [go_sem] <;> omega) | fail)) only [go_sem, ints, bools, mat] | ((first | apply goIf_b | apply goG_b | apply goTG_b | apply goOG_b) <;> intro h <;> ((try simp only [hnq] at h); (try simp only [h]); (try simp only [hnr] at h)) <;> (try (exfalso; omega))))
                          first | refine goC_call [.r, .f, .f, .r, .r] (hden) ?_ | refine goOC_call [.r, .f, .f, .r, .r] (hden) ?_
                          repeat' (first | simp -implicitDefEqProofs (maxSteps := 1000000) (disch := (first | omega | (simp only [go_sem] <;> omega) | fail)) only [go_sem, ints, bools, mat] | ((first | apply goIf_b | apply goG_b | apply goTG_b | apply goOG_b) <;> intro h <;> ((try simp only [hnq] at h); (try simp only [h]); (try simp only [hnr] at h)) <;> (try (exfalso; omega))))
                      | none =>
                        rw [cvR] at hden
                        have hs0 := hsr0 rfl
                        repeat' (first | simp -implicitDefEqProofs (maxSteps := 1000000) (disch := (first | omega | (simp only [go_sem] <;> omega) | fail)) only [go_sem, ints, bools, mat] | ((first | apply goIf_b | apply goG_b | apply goTG_b | apply goOG_b) <;> intro h <;> ((try simp only [hnq] at h); (try simp only [h]); (try simp only [hnr] at h)) <;> (try (exfalso; omega))))
                        rw [goS_two]
                        refine ⟨?_, ?_⟩
                        · repeat' (first | simp -implicitDefEqProofs (maxSteps := 1000000) (disch := (first | omega | (simp only [go_sem] <;> omega) | fail)) only [go_sem, ints, bools, mat] | ((first | apply goIf_b | apply goG_b | apply goTG_b | apply goOG_b) <;> intro h <;> ((try simp only [hnq] at h); (try simp only [h]); (try simp only [hnr] at h)) <;> (try (exfalso; omega))))
                          first | refine goC_call [.r] (d_spec_l01Own c (by omega)) ?_ | refine goOC_call [.r] (d_spec_l01Own c (by omega)) ?_
                          repeat' (first | simp -implicitDefEqProofs (maxSteps := 1000000) (disch := (first | omega | (simp only [go_sem] <;> omega) | fail)) only [go_sem, ints, bools, mat] | ((first | apply goIf_b | apply goG_b | apply goTG_b | apply goOG_b) <;> intro h <;> ((try simp only [hnq] at h); (try simp only [h]); (try simp only [hnr] at h)) <;> (try (exfalso; omega))))
                          first | refine goC_call [.r, .f, .f, .r, .r] (hden) ?_ | refine goOC_call [.r, .f, .f, .r, .r] (hden) ?_
                          repeat' (first | simp -implicitDefEqProofs (maxSteps := 1000000) (disch := (first | omega | (simp only [go_sem] <;> omega) | fail)) only [go_sem, ints, bools, mat] | ((first | apply goIf_b | apply goG_b | apply goTG_b | apply goOG_b) <;> intro h <;> ((try simp only [hnq] at h); (try simp only [h]); (try simp only [hnr] at h)) <;> (try (exfalso; omega))))
                          refine hJ2 (w + 1) ⟨by omega, by omega, hs0⟩ (by omega) _ ?_
                          (simp -implicitDefEqProofs (maxSteps := 1000000) (disch := (first | omega | (simp only [go_sem] <;> omega) | fail)) only [go_sem, ints, bools, mat] <;> rfl)
                        · repeat' (first | simp -implicitDefEqProofs (maxSteps := 1000000) (disch := (first | omega | (simp only [go_sem] <;> omega) | fail)) only [go_sem, ints, bools, mat] | ((first | apply goIf_b | apply goG_b | apply goTG_b | apply goOG_b) <;> intro h <;> ((try simp only [hnq] at h); (try simp only [h]); (try simp only [hnr] at h)) <;> (try (exfalso; omega))))
                          first | refine goC_call [.r] (d_spec_l01Own c (by omega)) ?_ | refine goOC_call [.r] (d_spec_l01Own c (by omega)) ?_
                          repeat' (first | simp -implicitDefEqProofs (maxSteps := 1000000) (disch := (first | omega | (simp only [go_sem] <;> omega) | fail)) only [go_sem, ints, bools, mat] | ((first | apply goIf_b | apply goG_b | apply goTG_b | apply goOG_b) <;> intro h <;> ((try simp only [hnq] at h); (try simp only [h]); (try simp only [hnr] at h)) <;> (try (exfalso; omega))))
                          first | refine goC_call [.r, .f, .f, .r, .r] (hden) ?_ | refine goOC_call [.r, .f, .f, .r, .r] (hden) ?_
                          repeat' (first | simp -implicitDefEqProofs (maxSteps := 1000000) (disch := (first | omega | (simp only [go_sem] <;> omega) | fail)) only [go_sem, ints, bools, mat] | ((first | apply goIf_b | apply goG_b | apply goTG_b | apply goOG_b) <;> intro h <;> ((try simp only [hnq] at h); (try simp only [h]); (try simp only [hnr] at h)) <;> (try (exfalso; omega))))
                          refine hJ2 (w + 1) ⟨by omega, by omega, hs0⟩ (by omega) _ ?_
                          (simp -implicitDefEqProofs (maxSteps := 1000000) (disch := (first | omega | (simp only [go_sem] <;> omega) | fail)) only [go_sem, ints, bools, mat] <;> rfl)
                · rw [show last.toNat + 1 - w = 0 by omega] at hw3
                  rw [← hw3, nvF, cvR]
                  repeat' (first | simp -implicitDefEqProofs (maxSteps := 1000000) (disch := (first | omega | (simp only [go_sem] <;> omega) | fail)) only [go_sem, ints, bools, mat] | ((first | apply goIf_b | apply goG_b | apply goTG_b | apply goOG_b) <;> intro h <;> ((try simp only [hnq] at h); (try simp only [h]); (try simp only [hnr] at h)) <;> (try (exfalso; omega))))
theorem fcM_len {l : List Int} {r : Int} (hs : isSpaceM l = true) (hr : 0 ≤ r) : (fcM l r).length ≤ 1024 := by
  have hpr := isSpaceM_prod hs
  obtain ⟨k, h1, h2, h3, _⟩ := fcM_ok hs hr
  obtain ⟨h4, _, _⟩ := nv_sound h3
  omega
theorem d_spec_l04First (l : List Int) (hs : isSpaceM l = true) (h27 : prodM l ≤ 27) (r : Int) (hr0 : 0 ≤ r) (hr8 : r ≤ 8) : Den PA f_spec_l04First [.d (.agg [ints l]), .d (di r)] [.any, .any] (.d (ints (fcM l r))) := by
  have hp1 := prodM_pos (isSpaceM_szs hs)
  have hn := isSpaceM_n hs
  obtain ⟨kk, hk1, hkN, hkS, hkl⟩ := fcM_ok hs hr0
  refine den_go [] l_spec_l04First ?_
  repeat' (first | simp -implicitDefEqProofs (maxSteps := 1000000) (disch := (first | omega | (simp only [go_sem] <;> omega) | fail)) only [go_sem, ints, bools, mat, c_spec_l04First] | ((first | apply goIf_b | apply goG_b | apply goTG_b | apply goOG_b) <;> intro h <;> ((try simp only [hnq] at h); (try simp only [h]); (try simp only [hnr] at h)) <;> (try (exfalso; omega))))
  refine go_loop (fun (k : Nat) => ⟨[(1, .d (di r)), (2, .ref 0 0), (5, .d (di k))], [some (.var [ints l])]⟩) (fun k => 1 ≤ k ∧ k ≤ kk) (fun k => kk - k) 1 ?_ ?_ ?_
  · (simp -implicitDefEqProofs (maxSteps := 1000000) (disch := (first | omega | (simp only [go_sem] <;> omega) | fail)) only [go_sem, ints, bools, mat] <;> rfl)
  · exact ⟨Nat.le_refl _, hk1⟩
  · rintro k ⟨h1, h2⟩ J hJ
    have hden := d_spec_l04Cover l hs h27 r hr0 hr8 k 0 [] [] (.inl ⟨rfl, rfl⟩) (Nat.zero_le _) (by simp; omega) (by simp; omega)
    rw [← tmX_nil] at hden
    have hN := d_spec_l01N l (by omega) (isSpaceM_q hs)
    by_cases hke : k = kk
    · subst hke
      rw [hkS, cvR, List.nil_append] at hden
      repeat' (first | simp -implicitDefEqProofs (maxSteps := 1000000) (disch := (first | omega | (simp only [go_sem] <;> omega) | fail)) only [go_sem, ints, bools, mat] | ((first | apply goIf_b | apply goG_b | apply goTG_b | apply goOG_b) <;> intro h <;> ((try simp only [hnq] at h); (try simp only [h]); (try simp only [hnr] at h)) <;> (try (exfalso; omega))) | ((first | refine goC_call [.r] (hN) ?_ | refine goOC_call [.r] (hN) ?_); simp -implicitDefEqProofs (maxSteps := 1000000) (disch := (first | omega | (simp only [go_sem] <;> omega) | fail)) only [go_sem, ints, bools, mat]; fail_if_success (with_reducible show chk _ _)) | ((first | refine goC_call [.r, .f, .f, .r, .r] (hden) ?_ | refine goOC_call [.r, .f, .f, .r, .r] (hden) ?_); simp -implicitDefEqProofs (maxSteps := 1000000) (disch := (first | omega | (simp only [go_sem] <;> omega) | fail)) only [go_sem, ints, bools, mat]; fail_if_success (with_reducible show chk _ _)) | (rw [goS_two]; refine ⟨?_, ?_⟩))
    · rw [hkl k (by omega), cvR] at hden
      repeat' (first | simp -implicitDefEqProofs (maxSteps := 1000000) (disch := (first | omega | (simp only [go_sem] <;> omega) | fail)) only [go_sem, ints, bools, mat] | ((first | apply goIf_b | apply goG_b | apply goTG_b | apply goOG_b) <;> intro h <;> ((try simp only [hnq] at h); (try simp only [h]); (try simp only [hnr] at h)) <;> (try (exfalso; omega))) | ((first | refine goC_call [.r] (hN) ?_ | refine goOC_call [.r] (hN) ?_); simp -implicitDefEqProofs (maxSteps := 1000000) (disch := (first | omega | (simp only [go_sem] <;> omega) | fail)) only [go_sem, ints, bools, mat]; fail_if_success (with_reducible show chk _ _)) | ((first | refine goC_call [.r, .f, .f, .r, .r] (hden) ?_ | refine goOC_call [.r, .f, .f, .r, .r] (hden) ?_); simp -implicitDefEqProofs (maxSteps := 1000000) (disch := (first | omega | (simp only [go_sem] <;> omega) | fail)) only [go_sem, ints, bools, mat]; fail_if_success (with_reducible show chk _ _)) | (rw [goS_two]; refine ⟨?_, ?_⟩))
      all_goals (refine hJ (k + 1) ⟨by omega, by omega⟩ (by omega) _ ?_)
      all_goals (simp -implicitDefEqProofs (maxSteps := 1000000) (disch := (first | omega | (simp only [go_sem] <;> omega) | fail)) only [go_sem, ints, bools, mat] <;> rfl)
abbrev lnR (l : List Int) (r : Int) : R := .tup [.d (di (if scE l r 1 8 = 0 then ((fcM l r).length : Int) else 0)), .d (di (scE l r 1 8))]
theorem d_spec_LeastNumber (l : List Int) (r : Int) (hl : l.length < 1048577) : Den PA f_spec_LeastNumber [.d (.agg [ints l]), .d (di r)] [.any, .any] (lnR l r) := by
  refine den_go [] l_spec_LeastNumber ?_
  repeat' (first | simp -implicitDefEqProofs (maxSteps := 1000000) (disch := (first | omega | (simp only [go_sem] <;> omega) | fail)) only [go_sem, ints, bools, mat, c_spec_LeastNumber] | ((first | apply goIf_b | apply goG_b | apply goTG_b | apply goOG_b) <;> intro h <;> ((try simp only [hnq] at h); (try simp only [h]); (try simp only [hnr] at h)) <;> (try (exfalso; omega))))
  first | refine goC_call [.r, .r, .r, .r] (d_spec_l04Sought l hl r 1 8) ?_ | refine goOC_call [.r, .r, .r, .r] (d_spec_l04Sought l hl r 1 8) ?_
  by_cases h : scE l r 1 8 = 0
  · obtain ⟨hs, hr, h27⟩ := scE_ok h
    have hfl := fcM_len hs (r := r) (by omega)
    rw [lnR, if_pos h, h]
    repeat' (first | simp -implicitDefEqProofs (maxSteps := 1000000) (disch := (first | omega | (simp only [go_sem] <;> omega) | fail)) only [go_sem, ints, bools, mat] | ((first | apply goIf_b | apply goG_b | apply goTG_b | apply goOG_b) <;> intro h <;> ((try simp only [hnq] at h); (try simp only [h]); (try simp only [hnr] at h)) <;> (try (exfalso; omega))))
    first | refine goC_call [.r, .r] (d_spec_l04First l hs h27 r (by omega) (by omega)) ?_ | refine goOC_call [.r, .r] (d_spec_l04First l hs h27 r (by omega) (by omega)) ?_
    repeat' (first | simp -implicitDefEqProofs (maxSteps := 1000000) (disch := (first | omega | (simp only [go_sem] <;> omega) | fail)) only [go_sem, ints, bools, mat] | ((first | apply goIf_b | apply goG_b | apply goTG_b | apply goOG_b) <;> intro h <;> ((try simp only [hnq] at h); (try simp only [h]); (try simp only [hnr] at h)) <;> (try (exfalso; omega))))
  · rw [lnR, if_neg h]
    repeat' (first | simp -implicitDefEqProofs (maxSteps := 1000000) (disch := (first | omega | (simp only [go_sem] <;> omega) | fail)) only [go_sem, ints, bools, mat] | ((first | apply goIf_b | apply goG_b | apply goTG_b | apply goOG_b) <;> intro h <;> ((try simp only [hnq] at h); (try simp only [h]); (try simp only [hnr] at h)) <;> (try (exfalso; omega))))
theorem d_impl_LeastNumber (l : List Int) (r : Int) (hl : l.length < 1048577) : Den PA f_impl_LeastNumber [.d (.agg [ints l]), .d (di r)] [.any, .any] (lnR l r) := by
  refine den_go [] l_impl_LeastNumber ?_
  repeat' (first | simp -implicitDefEqProofs (maxSteps := 1000000) (disch := (first | omega | (simp only [go_sem] <;> omega) | fail)) only [go_sem, ints, bools, mat, c_impl_LeastNumber] | ((first | apply goIf_b | apply goG_b | apply goTG_b | apply goOG_b) <;> intro h <;> ((try simp only [hnq] at h); (try simp only [h]); (try simp only [hnr] at h)) <;> (try (exfalso; omega))))
  first | refine goC_call [.r, .r, .r, .r] (d_impl_soughtCode l hl r 1 8) ?_ | refine goOC_call [.r, .r, .r, .r] (d_impl_soughtCode l hl r 1 8) ?_
  by_cases h : scE l r 1 8 = 0
  · obtain ⟨hs, hr, h27⟩ := scE_ok h
    have hfl := fcM_len hs (r := r) (by omega)
    rw [lnR, if_pos h, h]
    repeat' (first | simp -implicitDefEqProofs (maxSteps := 1000000) (disch := (first | omega | (simp only [go_sem] <;> omega) | fail)) only [go_sem, ints, bools, mat] | ((first | apply goIf_b | apply goG_b | apply goTG_b | apply goOG_b) <;> intro h <;> ((try simp only [hnq] at h); (try simp only [h]); (try simp only [hnr] at h)) <;> (try (exfalso; omega))))
    first | refine goC_call [.r, .r] (d_impl_firstCover l hs h27 r (by omega)) ?_ | refine goOC_call [.r, .r] (d_impl_firstCover l hs h27 r (by omega)) ?_
    repeat' (first | simp -implicitDefEqProofs (maxSteps := 1000000) (disch := (first | omega | (simp only [go_sem] <;> omega) | fail)) only [go_sem, ints, bools, mat] | ((first | apply goIf_b | apply goG_b | apply goTG_b | apply goOG_b) <;> intro h <;> ((try simp only [hnq] at h); (try simp only [h]); (try simp only [hnr] at h)) <;> (try (exfalso; omega))))
  · rw [lnR, if_neg h]
    repeat' (first | simp -implicitDefEqProofs (maxSteps := 1000000) (disch := (first | omega | (simp only [go_sem] <;> omega) | fail)) only [go_sem, ints, bools, mat] | ((first | apply goIf_b | apply goG_b | apply goTG_b | apply goOG_b) <;> intro h <;> ((try simp only [hnq] at h); (try simp only [h]); (try simp only [hnr] at h)) <;> (try (exfalso; omega))))
theorem d_spec_FirstCover (l : List Int) (r : Int) (hl : l.length < 1048577) : Den PA f_spec_FirstCover [.d (.agg [ints l]), .d (di r)] [.any, .any] (lstF (scE l r 1 8) (fcM l r)) := by
  refine den_go [] l_spec_FirstCover ?_
  repeat' (first | simp -implicitDefEqProofs (maxSteps := 1000000) (disch := (first | omega | (simp only [go_sem] <;> omega) | fail)) only [go_sem, ints, bools, mat, c_spec_FirstCover] | ((first | apply goIf_b | apply goG_b | apply goTG_b | apply goOG_b) <;> intro h <;> ((try simp only [hnq] at h); (try simp only [h]); (try simp only [hnr] at h)) <;> (try (exfalso; omega))))
  first | refine goC_call [.r, .r, .r, .r] (d_spec_l04Sought l hl r 1 8) ?_ | refine goOC_call [.r, .r, .r, .r] (d_spec_l04Sought l hl r 1 8) ?_
  by_cases h : scE l r 1 8 = 0
  · obtain ⟨hs, hr, h27⟩ := scE_ok h
    rw [lstF, if_pos h, h]
    repeat' (first | simp -implicitDefEqProofs (maxSteps := 1000000) (disch := (first | omega | (simp only [go_sem] <;> omega) | fail)) only [go_sem, ints, bools, mat] | ((first | apply goIf_b | apply goG_b | apply goTG_b | apply goOG_b) <;> intro h <;> ((try simp only [hnq] at h); (try simp only [h]); (try simp only [hnr] at h)) <;> (try (exfalso; omega))))
    first | refine goC_call [.r, .r] (d_spec_l04First l hs h27 r (by omega) (by omega)) ?_ | refine goOC_call [.r, .r] (d_spec_l04First l hs h27 r (by omega) (by omega)) ?_
    repeat' (first | simp -implicitDefEqProofs (maxSteps := 1000000) (disch := (first | omega | (simp only [go_sem] <;> omega) | fail)) only [go_sem, ints, bools, mat] | ((first | apply goIf_b | apply goG_b | apply goTG_b | apply goOG_b) <;> intro h <;> ((try simp only [hnq] at h); (try simp only [h]); (try simp only [hnr] at h)) <;> (try (exfalso; omega))))
  · rw [lstF, if_neg h]
    repeat' (first | simp -implicitDefEqProofs (maxSteps := 1000000) (disch := (first | omega | (simp only [go_sem] <;> omega) | fail)) only [go_sem, ints, bools, mat] | ((first | apply goIf_b | apply goG_b | apply goTG_b | apply goOG_b) <;> intro h <;> ((try simp only [hnq] at h); (try simp only [h]); (try simp only [hnr] at h)) <;> (try (exfalso; omega))))
theorem d_impl_FirstCover (l : List Int) (r : Int) (hl : l.length < 1048577) : Den PA f_impl_FirstCover [.d (.agg [ints l]), .d (di r)] [.any, .any] (lstR (scE l r 1 8) (fcM l r)) := by
  refine den_go [] l_impl_FirstCover ?_
  repeat' (first | simp -implicitDefEqProofs (maxSteps := 1000000) (disch := (first | omega | (simp only [go_sem] <;> omega) | fail)) only [go_sem, ints, bools, mat, c_impl_FirstCover] | ((first | apply goIf_b | apply goG_b | apply goTG_b | apply goOG_b) <;> intro h <;> ((try simp only [hnq] at h); (try simp only [h]); (try simp only [hnr] at h)) <;> (try (exfalso; omega))))
  first | refine goC_call [.r, .r, .r, .r] (d_impl_soughtCode l hl r 1 8) ?_ | refine goOC_call [.r, .r, .r, .r] (d_impl_soughtCode l hl r 1 8) ?_
  by_cases h : scE l r 1 8 = 0
  · obtain ⟨hs, hr, h27⟩ := scE_ok h
    rw [lstR_ok h, h]
    repeat' (first | simp -implicitDefEqProofs (maxSteps := 1000000) (disch := (first | omega | (simp only [go_sem] <;> omega) | fail)) only [go_sem, ints, bools, mat] | ((first | apply goIf_b | apply goG_b | apply goTG_b | apply goOG_b) <;> intro h <;> ((try simp only [hnq] at h); (try simp only [h]); (try simp only [hnr] at h)) <;> (try (exfalso; omega))))
    first | refine goC_call [.r, .r] (d_impl_firstCover l hs h27 r (by omega)) ?_ | refine goOC_call [.r, .r] (d_impl_firstCover l hs h27 r (by omega)) ?_
    repeat' (first | simp -implicitDefEqProofs (maxSteps := 1000000) (disch := (first | omega | (simp only [go_sem] <;> omega) | fail)) only [go_sem, ints, bools, mat] | ((first | apply goIf_b | apply goG_b | apply goTG_b | apply goOG_b) <;> intro h <;> ((try simp only [hnq] at h); (try simp only [h]); (try simp only [hnr] at h)) <;> (try (exfalso; omega))))
  · rw [lstR_no h]
    repeat' (first | simp -implicitDefEqProofs (maxSteps := 1000000) (disch := (first | omega | (simp only [go_sem] <;> omega) | fail)) only [go_sem, ints, bools, mat] | ((first | apply goIf_b | apply goG_b | apply goTG_b | apply goOG_b) <;> intro h <;> ((try simp only [hnq] at h); (try simp only [h]); (try simp only [hnr] at h)) <;> (try (exfalso; omega))))
theorem sub_rng {l X : List Int} {w : Int} (h : X.Sublist (allW l)) (hw : w ∈ X) : 0 ≤ w ∧ w < prodM l := by
  have := (allW_mem l w).1 (h.subset hw)
  omega
abbrev cvB (l c : List Int) (r : Int) : Bool := !decide (0 ∈ timesM l c r)
abbrev cvsR (l c : List Int) (r : Int) : R := .tup [.d (db (if ccM l c r = 0 then cvB l c r else false)), .d (di (ccM l c r))]
theorem d_impl_covers (l c : List Int) (r : Int) (hs : isSpaceM l = true) (hcc : isCodeM l c = true) (hc : c.length < 1048577) :
    Den PA f_impl_covers [.d (.agg [ints l]), .d (ints c), .d (di r)] [.any, .any, .any] (.d (db (cvB l c r))) := by
  have hp := isSpaceM_prod hs
  refine den_go [] l_impl_covers ?_
  repeat' (first | simp -implicitDefEqProofs (maxSteps := 1000000) (disch := (first | omega | (simp only [go_sem] <;> omega) | fail)) only [go_sem, ints, bools, mat, c_impl_covers] | ((first | apply goIf_b | apply goG_b | apply goTG_b | apply goOG_b) <;> intro h <;> ((try simp only [hnq] at h); (try simp only [h]); (try simp only [hnr] at h)) <;> (try (exfalso; omega))))
  first | refine goC_call [.r, .r, .r] (d_impl_times l c r hs hcc hc) ?_ | refine goOC_call [.r, .r, .r] (d_impl_times l c r hs hcc hc) ?_
  repeat' (first | simp -implicitDefEqProofs (maxSteps := 1000000) (disch := (first | omega | (simp only [go_sem] <;> omega) | fail)) only [go_sem, ints, bools, mat] | ((first | apply goIf_b | apply goG_b | apply goTG_b | apply goOG_b) <;> intro h <;> ((try simp only [hnq] at h); (try simp only [h]); (try simp only [hnr] at h)) <;> (try (exfalso; omega))))
  first | refine goC_call [.r, .r] (d_slices_Contains_int (timesM l c r) 0 (by rw [timesN_len]; omega)) ?_ | refine goOC_call [.r, .r] (d_slices_Contains_int (timesM l c r) 0 (by rw [timesN_len]; omega)) ?_
  repeat' (first | simp -implicitDefEqProofs (maxSteps := 1000000) (disch := (first | omega | (simp only [go_sem] <;> omega) | fail)) only [go_sem, ints, bools, mat] | ((first | apply goIf_b | apply goG_b | apply goTG_b | apply goOG_b) <;> intro h <;> ((try simp only [hnq] at h); (try simp only [h]); (try simp only [hnr] at h)) <;> (try (exfalso; omega))))
theorem d_impl_CoversSpace (l c : List Int) (r : Int) (hl : l.length < 1048577) (hc : c.length < 1048577) : Den PA f_impl_CoversSpace [.d (.agg [ints l]), .d (ints c), .d (di r)] [.any, .any, .any] (cvsR l c r) := by
  refine den_go [] l_impl_CoversSpace ?_
  repeat' (first | simp -implicitDefEqProofs (maxSteps := 1000000) (disch := (first | omega | (simp only [go_sem] <;> omega) | fail)) only [go_sem, ints, bools, mat, c_impl_CoversSpace] | ((first | apply goIf_b | apply goG_b | apply goTG_b | apply goOG_b) <;> intro h <;> ((try simp only [hnq] at h); (try simp only [h]); (try simp only [hnr] at h)) <;> (try (exfalso; omega))))
  first | refine goC_call [.r, .r, .r] (d_impl_coverCode l c hl hc r) ?_ | refine goOC_call [.r, .r, .r] (d_impl_coverCode l c hl hc r) ?_
  by_cases h : ccM l c r = 0
  · obtain ⟨hs, hcc, _⟩ := ccM_ok h
    rw [cvsR, if_pos h, h]
    repeat' (first | simp -implicitDefEqProofs (maxSteps := 1000000) (disch := (first | omega | (simp only [go_sem] <;> omega) | fail)) only [go_sem, ints, bools, mat] | ((first | apply goIf_b | apply goG_b | apply goTG_b | apply goOG_b) <;> intro h <;> ((try simp only [hnq] at h); (try simp only [h]); (try simp only [hnr] at h)) <;> (try (exfalso; omega))))
    first | refine goC_call [.r, .r, .r] (d_impl_covers l c r hs hcc hc) ?_ | refine goOC_call [.r, .r, .r] (d_impl_covers l c r hs hcc hc) ?_
    repeat' (first | simp -implicitDefEqProofs (maxSteps := 1000000) (disch := (first | omega | (simp only [go_sem] <;> omega) | fail)) only [go_sem, ints, bools, mat] | ((first | apply goIf_b | apply goG_b | apply goTG_b | apply goOG_b) <;> intro h <;> ((try simp only [hnq] at h); (try simp only [h]); (try simp only [hnr] at h)) <;> (try (exfalso; omega))))
  · rw [cvsR, if_neg h]
    generalize ccM l c r = b at h
    repeat' (first | simp -implicitDefEqProofs (maxSteps := 1000000) (disch := (first | omega | (simp only [go_sem] <;> omega) | fail)) only [go_sem, ints, bools, mat] | ((first | apply goIf_b | apply goG_b | apply goTG_b | apply goOG_b) <;> intro h <;> ((try simp only [hnq] at h); (try simp only [h]); (try simp only [hnr] at h)) <;> (try (exfalso; omega))))
theorem ex_l04Draw {cd : D} {l : List Int} (H : SrcH cd l) {lo hi : Int} (h0 : 0 ≤ lo) (h1 : lo ≤ 2) (h2 : 0 ≤ hi) (h3 : hi ≤ 9) : ∃ (X : D) (o : List Int) (d : Int), drL X o ∧ in64 d ∧ Den PA f_spec_l04Draw [.d cd, .d (di lo), .d (di hi)] [.any, .any, .any] (.tup [.d (.agg [X]), .d (di d)]) := by
  obtain ⟨s0, hs0, d0⟩ := ex_from H
  obtain ⟨x, s1, hs1, hx, d1⟩ := ex_draw H hs0
  have hd1 := d1.le .frzA
  obtain ⟨X, o, s2, hs2, hX, d2⟩ := ex_bad H hs1 hx
  obtain ⟨n, s3, hs3, hn, d3⟩ := ex_near H hs2 (most := hi) h2 (by omega)
  obtain ⟨d, s4, hs4, hd, d4⟩ := ex_pik H hs3 [lo, lo + 1, lo + 2, n] (by simp) (by simp)
  have hdi : in64 d := by
    simp only [List.mem_cons, List.mem_nil_iff, or_false] at hd
    unfold in64 at *
    omega
  refine ⟨X, o, d, hX, hdi, den_go [] l_spec_l04Draw ?_⟩
  repeat' (first | simp -implicitDefEqProofs (maxSteps := 1000000) (disch := (first | omega | (simp only [go_sem] <;> omega) | fail)) only [go_sem, ints, bools, mat, c_spec_l04Draw, srcR] | ((first | apply goIf_b | apply goG_b | apply goTG_b | apply goOG_b) <;> intro h <;> ((try simp only [hnq] at h); (try simp only [h]); (try simp only [hnr] at h)) <;> (try (exfalso; omega))))
  first | refine goC_call [.r] (d0) ?_ | refine goOC_call [.r] (d0) ?_
  repeat' (first | simp -implicitDefEqProofs (maxSteps := 1000000) (disch := (first | omega | (simp only [go_sem] <;> omega) | fail)) only [go_sem, ints, bools, mat] | ((first | apply goIf_b | apply goG_b | apply goTG_b | apply goOG_b) <;> intro h <;> ((try simp only [hnq] at h); (try simp only [h]); (try simp only [hnr] at h)) <;> (try (exfalso; omega))))
  first | refine goC_call [.bm] (hd1) ?_ | refine goOC_call [.bm] (hd1) ?_
  repeat' (first | simp -implicitDefEqProofs (maxSteps := 1000000) (disch := (first | omega | (simp only [go_sem] <;> omega) | fail)) only [go_sem, ints, bools, mat] | ((first | apply goIf_b | apply goG_b | apply goTG_b | apply goOG_b) <;> intro h <;> ((try simp only [hnq] at h); (try simp only [h]); (try simp only [hnr] at h)) <;> (try (exfalso; omega))))
  first | refine goC_call [.bm, .r] (d2) ?_ | refine goOC_call [.bm, .r] (d2) ?_
  repeat' (first | simp -implicitDefEqProofs (maxSteps := 1000000) (disch := (first | omega | (simp only [go_sem] <;> omega) | fail)) only [go_sem, ints, bools, mat] | ((first | apply goIf_b | apply goG_b | apply goTG_b | apply goOG_b) <;> intro h <;> ((try simp only [hnq] at h); (try simp only [h]); (try simp only [hnr] at h)) <;> (try (exfalso; omega))))
  first | refine goC_call [.bm, .r] (d3) ?_ | refine goOC_call [.bm, .r] (d3) ?_
  repeat' (first | simp -implicitDefEqProofs (maxSteps := 1000000) (disch := (first | omega | (simp only [go_sem] <;> omega) | fail)) only [go_sem, ints, bools, mat] | ((first | apply goIf_b | apply goG_b | apply goTG_b | apply goOG_b) <;> intro h <;> ((try simp only [hnq] at h); (try simp only [h]); (try simp only [hnr] at h)) <;> (try (exfalso; omega))))
  first | refine goC_call [.bm, .f] (d4) ?_ | refine goOC_call [.bm, .f] (d4) ?_
  repeat' (first | simp -implicitDefEqProofs (maxSteps := 1000000) (disch := (first | omega | (simp only [go_sem] <;> omega) | fail)) only [go_sem, ints, bools, mat] | ((first | apply goIf_b | apply goG_b | apply goTG_b | apply goOG_b) <;> intro h <;> ((try simp only [hnq] at h); (try simp only [h]); (try simp only [hnr] at h)) <;> (try (exfalso; omega))))
def fewT : List (List Int) := [[2], [3], [2, 2], [2, 3], [3, 3], [4, 3], [2, 2, 2], [2, 2, 3], [2, 3, 3], [3, 3, 3], [2, 2, 2, 2], [4, 4], [2, 3, 4], [2, 2, 4], [4, 2, 3], [3, 2, 2, 2]]
theorem fewT_ok : ∀ i : Fin 16, isSpaceM (fewT.getD i.1 []) = true := by decide
theorem few_row {n : Nat} (h : n < 16) : (flat (fewT.map ints))[n]? = some (ints (fewT.getD n [])) := by
  rw [show flat (fewT.map ints) = fewT.map ints from rfl]
  rw [List.getElem?_map, List.getElem?_eq_getElem (show n < fewT.length from h), List.getD_eq_getElem?_getD, List.getElem?_eq_getElem (show n < fewT.length from h)]; rfl
theorem ex_l04Few {cd : D} {l : List Int} (H : SrcH cd l) {lo hi : Int} (h0 : 0 ≤ lo) (h1 : lo ≤ 2) (h2 : 0 ≤ hi) (h3 : hi ≤ 9) : ∃ (X : D) (o : List Int) (d : Int), drL X o ∧ in64 d ∧ Den PA f_spec_l04Few [.d cd, .d (di lo), .d (di hi)] [.any, .any, .any] (.tup [.d (.agg [X]), .d (di d)]) := by
  obtain ⟨s0, hs0, d0⟩ := ex_from H
  obtain ⟨v, s1, hs1, v1, v2, d1⟩ := ex_nxt H hs0 (q := 16) (by omega)
  obtain ⟨i, rfl⟩ : ∃ i : Nat, v = (i : Int) := ⟨v.toNat, by omega⟩
  have hi16 : i < 16 := by omega
  have hx0 := fewT_ok ⟨i, hi16⟩
  have hn0 := isSpaceM_n hx0
  have hrow := few_row hi16
  dsimp only at hx0 hn0
  generalize fewT.getD i [] = x0 at *
  have hown := (d_own_f (x := x0) (by omega)).le .frz
  obtain ⟨v2, s2, hs2, _, _, d2⟩ := ex_nxt H hs1 (q := 20) (by omega)
  by_cases hv : v2 = 0
  · subst hv
    obtain ⟨x, s3, hs3, hx, d3⟩ := ex_draw H hs2
    have hd3 := d3.le .frzA
    obtain ⟨X, o, s4, hs4, hX, d4⟩ := ex_bad H hs3 hx
    obtain ⟨n, s5, hs5, hn, d5⟩ := ex_near H hs4 (most := hi) h2 (by omega)
    obtain ⟨d, s6, hs6, hd, d6⟩ := ex_pik H hs5 [lo, lo, lo + 1, lo + 2, n] (by simp) (by simp)
    have hdi : in64 d := by
      simp only [List.mem_cons, List.mem_nil_iff, or_false] at hd
      unfold in64 at *
      omega
    refine ⟨X, o, d, hX, hdi, den_go [] l_spec_l04Few ?_⟩
    repeat' (first | simp -implicitDefEqProofs (maxSteps := 1000000) (disch := (first | omega | (simp only [go_sem] <;> omega) | fail)) only [go_sem, ints, bools, mat, c_spec_l04Few, srcR] | ((first | apply goIf_b | apply goG_b | apply goTG_b | apply goOG_b) <;> intro h <;> ((try simp only [hnq] at h); (try simp only [h]); (try simp only [hnr] at h)) <;> (try (exfalso; omega))))
    first | refine goC_call [.r] (d0) ?_ | refine goOC_call [.r] (d0) ?_
    repeat' (first | simp -implicitDefEqProofs (maxSteps := 1000000) (disch := (first | omega | (simp only [go_sem] <;> omega) | fail)) only [go_sem, ints, bools, mat] | ((first | apply goIf_b | apply goG_b | apply goTG_b | apply goOG_b) <;> intro h <;> ((try simp only [hnq] at h); (try simp only [h]); (try simp only [hnr] at h)) <;> (try (exfalso; omega))))
    first | refine goC_call [.bm, .r] (d1) ?_ | refine goOC_call [.bm, .r] (d1) ?_
    repeat' (first | simp -implicitDefEqProofs (maxSteps := 1000000) (disch := (first | omega | (simp only [go_sem] <;> omega) | fail)) only [go_sem, ints, bools, mat] | ((first | apply goIf_b | apply goG_b | apply goTG_b | apply goOG_b) <;> intro h <;> ((try simp only [hnq] at h); (try simp only [h]); (try simp only [hnr] at h)) <;> (try (exfalso; omega))))
    erw [hrow]
    repeat' (first | simp -implicitDefEqProofs (maxSteps := 1000000) (disch := (first | omega | (simp only [go_sem] <;> omega) | fail)) only [go_sem, ints, bools, mat] | ((first | apply goIf_b | apply goG_b | apply goTG_b | apply goOG_b) <;> intro h <;> ((try simp only [hnq] at h); (try simp only [h]); (try simp only [hnr] at h)) <;> (try (exfalso; omega))))
    first | refine goC_call [.r] (hown) ?_ | refine goOC_call [.r] (hown) ?_
    repeat' (first | simp -implicitDefEqProofs (maxSteps := 1000000) (disch := (first | omega | (simp only [go_sem] <;> omega) | fail)) only [go_sem, ints, bools, mat] | ((first | apply goIf_b | apply goG_b | apply goTG_b | apply goOG_b) <;> intro h <;> ((try simp only [hnq] at h); (try simp only [h]); (try simp only [hnr] at h)) <;> (try (exfalso; omega))))
    first | refine goC_call [.bm, .r] (d2) ?_ | refine goOC_call [.bm, .r] (d2) ?_
    repeat' (first | simp -implicitDefEqProofs (maxSteps := 1000000) (disch := (first | omega | (simp only [go_sem] <;> omega) | fail)) only [go_sem, ints, bools, mat] | ((first | apply goIf_b | apply goG_b | apply goTG_b | apply goOG_b) <;> intro h <;> ((try simp only [hnq] at h); (try simp only [h]); (try simp only [hnr] at h)) <;> (try (exfalso; omega))))
    first | refine goC_call [.bm] (hd3) ?_ | refine goOC_call [.bm] (hd3) ?_
    repeat' (first | simp -implicitDefEqProofs (maxSteps := 1000000) (disch := (first | omega | (simp only [go_sem] <;> omega) | fail)) only [go_sem, ints, bools, mat] | ((first | apply goIf_b | apply goG_b | apply goTG_b | apply goOG_b) <;> intro h <;> ((try simp only [hnq] at h); (try simp only [h]); (try simp only [hnr] at h)) <;> (try (exfalso; omega))))
    first | refine goC_call [.bm, .r] (d4) ?_ | refine goOC_call [.bm, .r] (d4) ?_
    repeat' (first | simp -implicitDefEqProofs (maxSteps := 1000000) (disch := (first | omega | (simp only [go_sem] <;> omega) | fail)) only [go_sem, ints, bools, mat] | ((first | apply goIf_b | apply goG_b | apply goTG_b | apply goOG_b) <;> intro h <;> ((try simp only [hnq] at h); (try simp only [h]); (try simp only [hnr] at h)) <;> (try (exfalso; omega))))
    first | refine goC_call [.bm, .r] (d5) ?_ | refine goOC_call [.bm, .r] (d5) ?_
    repeat' (first | simp -implicitDefEqProofs (maxSteps := 1000000) (disch := (first | omega | (simp only [go_sem] <;> omega) | fail)) only [go_sem, ints, bools, mat] | ((first | apply goIf_b | apply goG_b | apply goTG_b | apply goOG_b) <;> intro h <;> ((try simp only [hnq] at h); (try simp only [h]); (try simp only [hnr] at h)) <;> (try (exfalso; omega))))
    first | refine goC_call [.bm, .f] (d6) ?_ | refine goOC_call [.bm, .f] (d6) ?_
    repeat' (first | simp -implicitDefEqProofs (maxSteps := 1000000) (disch := (first | omega | (simp only [go_sem] <;> omega) | fail)) only [go_sem, ints, bools, mat] | ((first | apply goIf_b | apply goG_b | apply goTG_b | apply goOG_b) <;> intro h <;> ((try simp only [hnq] at h); (try simp only [h]); (try simp only [hnr] at h)) <;> (try (exfalso; omega))))
  · obtain ⟨X, o, s4, hs4, hX, d4⟩ := ex_bad H hs2 hx0
    obtain ⟨n, s5, hs5, hn, d5⟩ := ex_near H hs4 (most := hi) h2 (by omega)
    obtain ⟨d, s6, hs6, hd, d6⟩ := ex_pik H hs5 [lo, lo, lo + 1, lo + 2, n] (by simp) (by simp)
    have hdi : in64 d := by
      simp only [List.mem_cons, List.mem_nil_iff, or_false] at hd
      unfold in64 at *
      omega
    refine ⟨X, o, d, hX, hdi, den_go [] l_spec_l04Few ?_⟩
    repeat' (first | simp -implicitDefEqProofs (maxSteps := 1000000) (disch := (first | omega | (simp only [go_sem] <;> omega) | fail)) only [go_sem, ints, bools, mat, c_spec_l04Few, srcR] | ((first | apply goIf_b | apply goG_b | apply goTG_b | apply goOG_b) <;> intro h <;> ((try simp only [hnq] at h); (try simp only [h]); (try simp only [hnr] at h)) <;> (try (exfalso; omega))))
    first | refine goC_call [.r] (d0) ?_ | refine goOC_call [.r] (d0) ?_
    repeat' (first | simp -implicitDefEqProofs (maxSteps := 1000000) (disch := (first | omega | (simp only [go_sem] <;> omega) | fail)) only [go_sem, ints, bools, mat] | ((first | apply goIf_b | apply goG_b | apply goTG_b | apply goOG_b) <;> intro h <;> ((try simp only [hnq] at h); (try simp only [h]); (try simp only [hnr] at h)) <;> (try (exfalso; omega))))
    first | refine goC_call [.bm, .r] (d1) ?_ | refine goOC_call [.bm, .r] (d1) ?_
    repeat' (first | simp -implicitDefEqProofs (maxSteps := 1000000) (disch := (first | omega | (simp only [go_sem] <;> omega) | fail)) only [go_sem, ints, bools, mat] | ((first | apply goIf_b | apply goG_b | apply goTG_b | apply goOG_b) <;> intro h <;> ((try simp only [hnq] at h); (try simp only [h]); (try simp only [hnr] at h)) <;> (try (exfalso; omega))))
    erw [hrow]
    repeat' (first | simp -implicitDefEqProofs (maxSteps := 1000000) (disch := (first | omega | (simp only [go_sem] <;> omega) | fail)) only [go_sem, ints, bools, mat] | ((first | apply goIf_b | apply goG_b | apply goTG_b | apply goOG_b) <;> intro h <;> ((try simp only [hnq] at h); (try simp only [h]); (try simp only [hnr] at h)) <;> (try (exfalso; omega))))
    first | refine goC_call [.r] (hown) ?_ | refine goOC_call [.r] (hown) ?_
    repeat' (first | simp -implicitDefEqProofs (maxSteps := 1000000) (disch := (first | omega | (simp only [go_sem] <;> omega) | fail)) only [go_sem, ints, bools, mat] | ((first | apply goIf_b | apply goG_b | apply goTG_b | apply goOG_b) <;> intro h <;> ((try simp only [hnq] at h); (try simp only [h]); (try simp only [hnr] at h)) <;> (try (exfalso; omega))))
    first | refine goC_call [.bm, .r] (d2) ?_ | refine goOC_call [.bm, .r] (d2) ?_
    repeat' (first | simp -implicitDefEqProofs (maxSteps := 1000000) (disch := (first | omega | (simp only [go_sem] <;> omega) | fail)) only [go_sem, ints, bools, mat] | ((first | apply goIf_b | apply goG_b | apply goTG_b | apply goOG_b) <;> intro h <;> ((try simp only [hnq] at h); (try simp only [h]); (try simp only [hnr] at h)) <;> (try (exfalso; omega))))
    first | refine goC_call [.bm, .r] (d4) ?_ | refine goOC_call [.bm, .r] (d4) ?_
    repeat' (first | simp -implicitDefEqProofs (maxSteps := 1000000) (disch := (first | omega | (simp only [go_sem] <;> omega) | fail)) only [go_sem, ints, bools, mat] | ((first | apply goIf_b | apply goG_b | apply goTG_b | apply goOG_b) <;> intro h <;> ((try simp only [hnq] at h); (try simp only [h]); (try simp only [hnr] at h)) <;> (try (exfalso; omega))))
    first | refine goC_call [.bm, .r] (d5) ?_ | refine goOC_call [.bm, .r] (d5) ?_
    repeat' (first | simp -implicitDefEqProofs (maxSteps := 1000000) (disch := (first | omega | (simp only [go_sem] <;> omega) | fail)) only [go_sem, ints, bools, mat] | ((first | apply goIf_b | apply goG_b | apply goTG_b | apply goOG_b) <;> intro h <;> ((try simp only [hnq] at h); (try simp only [h]); (try simp only [hnr] at h)) <;> (try (exfalso; omega))))
    first | refine goC_call [.bm, .f] (d6) ?_ | refine goOC_call [.bm, .f] (d6) ?_
    repeat' (first | simp -implicitDefEqProofs (maxSteps := 1000000) (disch := (first | omega | (simp only [go_sem] <;> omega) | fail)) only [go_sem, ints, bools, mat] | ((first | apply goIf_b | apply goG_b | apply goTG_b | apply goOG_b) <;> intro h <;> ((try simp only [hnq] at h); (try simp only [h]); (try simp only [hnr] at h)) <;> (try (exfalso; omega))))
theorem ex_firstCover {cd : D} {l : List Int} (H : SrcH cd l) : ∃ (X : D) (o : List Int) (d : Int), drL X o ∧ in64 d ∧ Den PA f_spec_DrawFirstCover [.d cd] [.any] (.tup [.d (.agg [X]), .d (di d)]) := by
  obtain ⟨X, o, d, hX, hd, d0⟩ := ex_l04Few H (lo := 1) (hi := 8) (by omega) (by omega) (by omega) (by omega)
  refine ⟨X, o, d, hX, hd, den_go [] l_spec_DrawFirstCover ?_⟩
  repeat' (first | simp -implicitDefEqProofs (maxSteps := 1000000) (disch := (first | omega | (simp only [go_sem] <;> omega) | fail)) only [go_sem, ints, bools, mat, c_spec_DrawFirstCover] | ((first | apply goIf_b | apply goG_b | apply goTG_b | apply goOG_b) <;> intro h <;> ((try simp only [hnq] at h); (try simp only [h]); (try simp only [hnr] at h)) <;> (try (exfalso; omega))))
  first | refine goC_call [.r, .r, .r] (d0) ?_ | refine goOC_call [.r, .r, .r] (d0) ?_
  repeat' (first | simp -implicitDefEqProofs (maxSteps := 1000000) (disch := (first | omega | (simp only [go_sem] <;> omega) | fail)) only [go_sem, ints, bools, mat] | ((first | apply goIf_b | apply goG_b | apply goTG_b | apply goOG_b) <;> intro h <;> ((try simp only [hnq] at h); (try simp only [h]); (try simp only [hnr] at h)) <;> (try (exfalso; omega))))
theorem ex_ballBound {cd : D} {l : List Int} (H : SrcH cd l) : ∃ (X : D) (o : List Int) (d : Int), drL X o ∧ in64 d ∧ Den PA f_spec_DrawBallBound [.d cd] [.any] (.tup [.d (.agg [X]), .d (di d)]) := by
  obtain ⟨X, o, d, hX, hd, d0⟩ := ex_l04Draw H (lo := 0) (hi := 8) (by omega) (by omega) (by omega) (by omega)
  refine ⟨X, o, d, hX, hd, den_go [] l_spec_DrawBallBound ?_⟩
  repeat' (first | simp -implicitDefEqProofs (maxSteps := 1000000) (disch := (first | omega | (simp only [go_sem] <;> omega) | fail)) only [go_sem, ints, bools, mat, c_spec_DrawBallBound] | ((first | apply goIf_b | apply goG_b | apply goTG_b | apply goOG_b) <;> intro h <;> ((try simp only [hnq] at h); (try simp only [h]); (try simp only [hnr] at h)) <;> (try (exfalso; omega))))
  first | refine goC_call [.r, .r, .r] (d0) ?_ | refine goOC_call [.r, .r, .r] (d0) ?_
  repeat' (first | simp -implicitDefEqProofs (maxSteps := 1000000) (disch := (first | omega | (simp only [go_sem] <;> omega) | fail)) only [go_sem, ints, bools, mat] | ((first | apply goIf_b | apply goG_b | apply goTG_b | apply goOG_b) <;> intro h <;> ((try simp only [hnq] at h); (try simp only [h]); (try simp only [hnr] at h)) <;> (try (exfalso; omega))))
theorem code_sub {l c : List Int} (h : c.Sublist (allW l)) : isCodeM l c = true := by
  have ha := (allW_asc l).sublist h
  refine (isCodeM_ok l c).2 ⟨fun j hj => sub_rng h (getD_mem hj), fun j hj => asc_lt ha (by omega) hj⟩
theorem cntN_pos {l c : List Int} {r u : Int} {k : Nat} (h : distM l (c.getD k 0) u ≤ r) : ∀ {j : Nat}, k < j → 1 ≤ cntN l c r u j
  | 0, hk => by omega
  | j + 1, hk => by
    rw [cntN]
    by_cases e : k = j
    · subst e; rw [if_pos h]; have := cntN_bnd l c r u k; omega
    · have := cntN_pos h (show k < j by omega); split <;> omega
theorem cvB_yes {l c : List Int} {r : Int} (h : ∀ w : Nat, w < (prodM l).toNat → ∃ k, k < c.length ∧ distM l (c.getD k 0) w ≤ r) : cvB l c r = true := by
  unfold cvB
  rw [Bool.not_eq_true', decide_eq_false_iff_not]
  intro hm
  obtain ⟨i, hi, e⟩ := List.mem_iff_getElem.1 hm
  have hi2 : i < (prodM l).toNat := by rw [← timesN_len l c r c.length]; exact hi
  obtain ⟨k, hk, hd⟩ := h i hi2
  have h1 := cntN_pos hd (j := c.length) hk
  have h2 := timesN_get c r c.length hi2
  have h3 : (timesN l c r c.length).getD i 0 = 0 := by rw [List.getD_eq_getElem?_getD, List.getElem?_eq_getElem hi, Option.getD_some]; exact e
  omega
theorem d_nil_impl_soughtCode (n lo hi : Int) : Den PA f_impl_soughtCode [.d (.agg [nil]), .d (di n), .d (di lo), .d (di hi)] [.any, .any, .any, .any] (.d (di 1)) := by
  refine den_go [] l_impl_soughtCode ?_
  repeat' (first | simp -implicitDefEqProofs (maxSteps := 1000000) (disch := (first | omega | (simp only [go_sem] <;> omega) | fail)) only [go_sem, ints, bools, mat, c_impl_soughtCode] | ((first | apply goIf_b | apply goG_b | apply goTG_b | apply goOG_b) <;> intro h <;> ((try simp only [hnq] at h); (try simp only [h]); (try simp only [hnr] at h)) <;> (try (exfalso; omega))))
  first | refine goC_call [.r] (d_nil_impl_IsSpace) ?_ | refine goOC_call [.r] (d_nil_impl_IsSpace) ?_
  repeat' (first | simp -implicitDefEqProofs (maxSteps := 1000000) (disch := (first | omega | (simp only [go_sem] <;> omega) | fail)) only [go_sem, ints, bools, mat] | ((first | apply goIf_b | apply goG_b | apply goTG_b | apply goOG_b) <;> intro h <;> ((try simp only [hnq] at h); (try simp only [h]); (try simp only [hnr] at h)) <;> (try (exfalso; omega))))
theorem d_nil_spec_l04Code (n lo hi : Int) : Den PA f_spec_l04Code [.d (.agg [nil]), .d (di n), .d (di lo), .d (di hi)] [.any, .any, .any, .any] (.d (di 1)) := by
  refine den_go [] l_spec_l04Code ?_
  repeat' (first | simp -implicitDefEqProofs (maxSteps := 1000000) (disch := (first | omega | (simp only [go_sem] <;> omega) | fail)) only [go_sem, ints, bools, mat, c_spec_l04Code] | ((first | apply goIf_b | apply goG_b | apply goTG_b | apply goOG_b) <;> intro h <;> ((try simp only [hnq] at h); (try simp only [h]); (try simp only [hnr] at h)) <;> (try (exfalso; omega))))
  first | refine goC_call [.r] (d_nil_spec_l01Is) ?_ | refine goOC_call [.r] (d_nil_spec_l01Is) ?_
  repeat' (first | simp -implicitDefEqProofs (maxSteps := 1000000) (disch := (first | omega | (simp only [go_sem] <;> omega) | fail)) only [go_sem, ints, bools, mat] | ((first | apply goIf_b | apply goG_b | apply goTG_b | apply goOG_b) <;> intro h <;> ((try simp only [hnq] at h); (try simp only [h]); (try simp only [hnr] at h)) <;> (try (exfalso; omega))))
theorem d_nil_spec_l04Sought (n lo hi : Int) : Den PA f_spec_l04Sought [.d (.agg [nil]), .d (di n), .d (di lo), .d (di hi)] [.any, .any, .any, .any] (.d (di 1)) := by
  refine den_go [] l_spec_l04Sought ?_
  repeat' (first | simp -implicitDefEqProofs (maxSteps := 1000000) (disch := (first | omega | (simp only [go_sem] <;> omega) | fail)) only [go_sem, ints, bools, mat, c_spec_l04Sought] | ((first | apply goIf_b | apply goG_b | apply goTG_b | apply goOG_b) <;> intro h <;> ((try simp only [hnq] at h); (try simp only [h]); (try simp only [hnr] at h)) <;> (try (exfalso; omega))))
  first | refine goC_call [.r, .r, .r, .r] (d_nil_spec_l04Code n lo hi) ?_ | refine goOC_call [.r, .r, .r, .r] (d_nil_spec_l04Code n lo hi) ?_
  repeat' (first | simp -implicitDefEqProofs (maxSteps := 1000000) (disch := (first | omega | (simp only [go_sem] <;> omega) | fail)) only [go_sem, ints, bools, mat] | ((first | apply goIf_b | apply goG_b | apply goTG_b | apply goOG_b) <;> intro h <;> ((try simp only [hnq] at h); (try simp only [h]); (try simp only [hnr] at h)) <;> (try (exfalso; omega))))
theorem d_nil_impl_ballCode (w r : Int) : Den PA f_impl_ballCode [.d (.agg [nil]), .d (di w), .d (di r)] [.any, .any, .any] (.d (di 1)) := by
  refine den_go [] l_impl_ballCode ?_
  repeat' (first | simp -implicitDefEqProofs (maxSteps := 1000000) (disch := (first | omega | (simp only [go_sem] <;> omega) | fail)) only [go_sem, ints, bools, mat, c_impl_ballCode] | ((first | apply goIf_b | apply goG_b | apply goTG_b | apply goOG_b) <;> intro h <;> ((try simp only [hnq] at h); (try simp only [h]); (try simp only [hnr] at h)) <;> (try (exfalso; omega))))
  first | refine goC_call [.r, .r] (d_nil_impl_wordCode (ints [w])) ?_ | refine goOC_call [.r, .r] (d_nil_impl_wordCode (ints [w])) ?_
  repeat' (first | simp -implicitDefEqProofs (maxSteps := 1000000) (disch := (first | omega | (simp only [go_sem] <;> omega) | fail)) only [go_sem, ints, bools, mat] | ((first | apply goIf_b | apply goG_b | apply goTG_b | apply goOG_b) <;> intro h <;> ((try simp only [hnq] at h); (try simp only [h]); (try simp only [hnr] at h)) <;> (try (exfalso; omega))))
theorem d_nil_impl_FirstCover (d : Int) : Den PA f_impl_FirstCover [.d (.agg [nil]), .d (di d)] [.any, .any] (.tup [.d nil, .d (di 1)]) := by
  refine den_go [] l_impl_FirstCover ?_
  repeat' (first | simp -implicitDefEqProofs (maxSteps := 1000000) (disch := (first | omega | (simp only [go_sem] <;> omega) | fail)) only [go_sem, ints, bools, mat, c_impl_FirstCover] | ((first | apply goIf_b | apply goG_b | apply goTG_b | apply goOG_b) <;> intro h <;> ((try simp only [hnq] at h); (try simp only [h]); (try simp only [hnr] at h)) <;> (try (exfalso; omega))))
  first | refine goC_call [.r, .r, .r, .r] (d_nil_impl_soughtCode d 1 8) ?_ | refine goOC_call [.r, .r, .r, .r] (d_nil_impl_soughtCode d 1 8) ?_
  repeat' (first | simp -implicitDefEqProofs (maxSteps := 1000000) (disch := (first | omega | (simp only [go_sem] <;> omega) | fail)) only [go_sem, ints, bools, mat] | ((first | apply goIf_b | apply goG_b | apply goTG_b | apply goOG_b) <;> intro h <;> ((try simp only [hnq] at h); (try simp only [h]); (try simp only [hnr] at h)) <;> (try (exfalso; omega))))
theorem d_nil_spec_FirstCover (d : Int) : Den PA f_spec_FirstCover [.d (.agg [nil]), .d (di d)] [.any, .any] (.tup [.d nil, .d (di 1)]) := by
  refine den_go [] l_spec_FirstCover ?_
  repeat' (first | simp -implicitDefEqProofs (maxSteps := 1000000) (disch := (first | omega | (simp only [go_sem] <;> omega) | fail)) only [go_sem, ints, bools, mat, c_spec_FirstCover] | ((first | apply goIf_b | apply goG_b | apply goTG_b | apply goOG_b) <;> intro h <;> ((try simp only [hnq] at h); (try simp only [h]); (try simp only [hnr] at h)) <;> (try (exfalso; omega))))
  first | refine goC_call [.r, .r, .r, .r] (d_nil_spec_l04Sought d 1 8) ?_ | refine goOC_call [.r, .r, .r, .r] (d_nil_spec_l04Sought d 1 8) ?_
  repeat' (first | simp -implicitDefEqProofs (maxSteps := 1000000) (disch := (first | omega | (simp only [go_sem] <;> omega) | fail)) only [go_sem, ints, bools, mat] | ((first | apply goIf_b | apply goG_b | apply goTG_b | apply goOG_b) <;> intro h <;> ((try simp only [hnq] at h); (try simp only [h]); (try simp only [hnr] at h)) <;> (try (exfalso; omega))))
theorem d_nil_impl_LeastNumber (d : Int) : Den PA f_impl_LeastNumber [.d (.agg [nil]), .d (di d)] [.any, .any] (.tup [.d (di 0), .d (di 1)]) := by
  refine den_go [] l_impl_LeastNumber ?_
  repeat' (first | simp -implicitDefEqProofs (maxSteps := 1000000) (disch := (first | omega | (simp only [go_sem] <;> omega) | fail)) only [go_sem, ints, bools, mat, c_impl_LeastNumber] | ((first | apply goIf_b | apply goG_b | apply goTG_b | apply goOG_b) <;> intro h <;> ((try simp only [hnq] at h); (try simp only [h]); (try simp only [hnr] at h)) <;> (try (exfalso; omega))))
  first | refine goC_call [.r, .r, .r, .r] (d_nil_impl_soughtCode d 1 8) ?_ | refine goOC_call [.r, .r, .r, .r] (d_nil_impl_soughtCode d 1 8) ?_
  repeat' (first | simp -implicitDefEqProofs (maxSteps := 1000000) (disch := (first | omega | (simp only [go_sem] <;> omega) | fail)) only [go_sem, ints, bools, mat] | ((first | apply goIf_b | apply goG_b | apply goTG_b | apply goOG_b) <;> intro h <;> ((try simp only [hnq] at h); (try simp only [h]); (try simp only [hnr] at h)) <;> (try (exfalso; omega))))
theorem d_nil_spec_LeastNumber (d : Int) : Den PA f_spec_LeastNumber [.d (.agg [nil]), .d (di d)] [.any, .any] (.tup [.d (di 0), .d (di 1)]) := by
  refine den_go [] l_spec_LeastNumber ?_
  repeat' (first | simp -implicitDefEqProofs (maxSteps := 1000000) (disch := (first | omega | (simp only [go_sem] <;> omega) | fail)) only [go_sem, ints, bools, mat, c_spec_LeastNumber] | ((first | apply goIf_b | apply goG_b | apply goTG_b | apply goOG_b) <;> intro h <;> ((try simp only [hnq] at h); (try simp only [h]); (try simp only [hnr] at h)) <;> (try (exfalso; omega))))
  first | refine goC_call [.r, .r, .r, .r] (d_nil_spec_l04Sought d 1 8) ?_ | refine goOC_call [.r, .r, .r, .r] (d_nil_spec_l04Sought d 1 8) ?_
  repeat' (first | simp -implicitDefEqProofs (maxSteps := 1000000) (disch := (first | omega | (simp only [go_sem] <;> omega) | fail)) only [go_sem, ints, bools, mat] | ((first | apply goIf_b | apply goG_b | apply goTG_b | apply goOG_b) <;> intro h <;> ((try simp only [hnq] at h); (try simp only [h]); (try simp only [hnr] at h)) <;> (try (exfalso; omega))))
def sgS (f : Nat → Int) : Nat → Int
  | 0 => 0
  | n + 1 => sgS f n + f n
theorem sgS_add (f g : Nat → Int) : ∀ n, sgS (fun i => f i + g i) n = sgS f n + sgS g n
  | 0 => rfl
  | n + 1 => by rw [sgS, sgS, sgS, sgS_add f g n]; omega
theorem sgS_congr {f g : Nat → Int} : ∀ {n : Nat}, (∀ i, i < n → f i = g i) → sgS f n = sgS g n
  | 0, _ => rfl
  | n + 1, h => by rw [sgS, sgS, sgS_congr fun i hi => h i (by omega), h n (by omega)]
theorem sgS_zero : ∀ n, sgS (fun _ => 0) n = 0
  | 0 => rfl
  | n + 1 => by rw [sgS, sgS_zero n]; rfl
theorem sgS_ge {f : Nat → Int} : ∀ {n : Nat}, (∀ i, i < n → 1 ≤ f i) → (n : Int) ≤ sgS f n
  | 0, _ => Int.le_refl _
  | n + 1, h => by have h1 := sgS_ge (n := n) fun i hi => h i (by omega); have h2 := h n (by omega); rw [sgS]; omega
theorem sgS_flt (p : Int → Bool) (l : List Int) : ∀ {n : Nat}, n ≤ (prodM l).toNat → sgS (fun i => if p (i : Int) = true then 1 else 0) n = ((((allW l).take n).filter p).length : Int)
  | 0, _ => by simp [sgS]
  | n + 1, h => by
    rw [sgS, sgS_flt p l (n := n) (by omega), take_allW l (by omega), List.filter_append, List.length_append]
    by_cases hp : p (n : Int) = true
    · rw [if_pos hp]; simp [hp]
    · rw [if_neg hp]; simp [hp]
theorem cnt_sum {l : List Int} (hs : isSpaceM l = true) (c : List Int) {r : Int} (hr : 0 ≤ r) : ∀ j : Nat, sgS (fun i => cntN l c r i j) (prodM l).toNat = j * bzM l r
  | 0 => by simp only [cntN]; rw [sgS_zero]; simp
  | j + 1 => by
    have ih := cnt_sum hs c hr j
    have h1 := sgS_flt (fun u => decide (distM l u (c.getD j 0) ≤ r)) l (Nat.le_refl _)
    rw [← allW_len l, List.take_length, allW_len] at h1
    have h2 := ball_len hs (c.getD j 0) hr
    have h3 : sgS (fun i => cntN l c r i (j + 1)) (prodM l).toNat = sgS (fun i => cntN l c r i j + (if decide (distM l (i : Int) (c.getD j 0) ≤ r) = true then 1 else 0)) (prodM l).toNat :=
      sgS_congr fun i hi => by
        rw [cntN, distM_comm l (c.getD j 0)]
        by_cases h : distM l i (c.getD j 0) ≤ r
        · rw [if_pos h, if_pos (decide_eq_true h)]
        · rw [if_neg h, if_neg (by simpa using h)]
    rw [h3, sgS_add, ih, h1]
    unfold ballM at h2
    rw [h2, Int.natCast_add, Int.add_mul]; simp
def bbM (l : List Int) (r : Int) : Int := (prodM l + bzM l r - 1) / bzM l r
abbrev bbR (l : List Int) (r : Int) : R := .tup [.d (di (if rcM l r = 0 then bbM l r else 0)), .d (di (rcM l r))]
theorem rcM_ok' {l : List Int} {r : Int} (h : rcM l r = 0) : isSpaceM l = true ∧ 0 ≤ r ∧ r ≤ 8 := by
  unfold rcM at h
  split at h
  · rename_i h1
    split at h
    · rename_i h2; exact ⟨h1, h2⟩
    · cases h
  · cases h
theorem d_impl_upward (n b : Int) (hn : 0 ≤ n ∧ n ≤ 100000) (hb : 1 ≤ b ∧ b ≤ 100000) : Den PA f_impl_upward [.d (di n), .d (di b)] [.any, .any] (.d (di ((n + b - 1) / b))) := by
  have h0 : 0 ≤ (n + b - 1) / b := Int.ediv_nonneg (by omega) (by omega)
  have h1 : (n + b - 1) / b ≤ n + b - 1 := Int.ediv_le_self _ (by omega)
  refine den_go [] l_impl_upward ?_
  repeat' (first | simp -implicitDefEqProofs (maxSteps := 1000000) (disch := (first | omega | (simp only [go_sem] <;> omega) | fail)) only [go_sem, ints, bools, mat, c_impl_upward] | ((first | apply goIf_b | apply goG_b | apply goTG_b | apply goOG_b) <;> intro h <;> ((try simp only [hnq] at h); (try simp only [h]); (try simp only [hnr] at h)) <;> (try (exfalso; omega))))
theorem d_impl_BallBound (l : List Int) (r : Int) (hl : l.length < 1048577) : Den PA f_impl_BallBound [.d (.agg [ints l]), .d (di r)] [.any, .any] (bbR l r) := by
  refine den_go [] l_impl_BallBound ?_
  repeat' (first | simp -implicitDefEqProofs (maxSteps := 1000000) (disch := (first | omega | (simp only [go_sem] <;> omega) | fail)) only [go_sem, ints, bools, mat, c_impl_BallBound] | ((first | apply goIf_b | apply goG_b | apply goTG_b | apply goOG_b) <;> intro h <;> ((try simp only [hnq] at h); (try simp only [h]); (try simp only [hnr] at h)) <;> (try (exfalso; omega))))
  first | refine goC_call [.r, .r, .r] (d_impl_ballCode0 l r hl) ?_ | refine goOC_call [.r, .r, .r] (d_impl_ballCode0 l r hl) ?_
  by_cases h : rcM l r = 0
  · rw [bbR, if_pos h, h]
    obtain ⟨hs, hr0, hr8⟩ := rcM_ok' h
    have hp1 := prodM_pos (isSpaceM_szs hs)
    have hpr := isSpaceM_prod hs
    have hbz := bz_pos hs hr0
    have hbl := ball_len hs 0 hr0
    repeat' (first | simp -implicitDefEqProofs (maxSteps := 1000000) (disch := (first | omega | (simp only [go_sem] <;> omega) | fail)) only [go_sem, ints, bools, mat] | ((first | apply goIf_b | apply goG_b | apply goTG_b | apply goOG_b) <;> intro h <;> ((try simp only [hnq] at h); (try simp only [h]); (try simp only [hnr] at h)) <;> (try (exfalso; omega))))
    first | refine goC_call [.r] (d_impl_count l hs) ?_ | refine goOC_call [.r] (d_impl_count l hs) ?_
    repeat' (first | simp -implicitDefEqProofs (maxSteps := 1000000) (disch := (first | omega | (simp only [go_sem] <;> omega) | fail)) only [go_sem, ints, bools, mat] | ((first | apply goIf_b | apply goG_b | apply goTG_b | apply goOG_b) <;> intro h <;> ((try simp only [hnq] at h); (try simp only [h]); (try simp only [hnr] at h)) <;> (try (exfalso; omega))))
    first | refine goC_call [.r, .r, .r] (d_impl_ball l hs 0 r (by omega) (by omega)) ?_ | refine goOC_call [.r, .r, .r] (d_impl_ball l hs 0 r (by omega) (by omega)) ?_
    repeat' (first | simp -implicitDefEqProofs (maxSteps := 1000000) (disch := (first | omega | (simp only [go_sem] <;> omega) | fail)) only [go_sem, ints, bools, mat, hbl] | ((first | apply goIf_b | apply goG_b | apply goTG_b | apply goOG_b) <;> intro h <;> ((try simp only [hnq] at h); (try simp only [h]); (try simp only [hnr] at h)) <;> (try (exfalso; omega))))
    first | refine goC_call [.r, .r] (d_impl_upward (prodM l) (bzM l r) (by omega) (by omega)) ?_ | refine goOC_call [.r, .r] (d_impl_upward (prodM l) (bzM l r) (by omega) (by omega)) ?_
    repeat' (first | simp -implicitDefEqProofs (maxSteps := 1000000) (disch := (first | omega | (simp only [go_sem] <;> omega) | fail)) only [go_sem, ints, bools, mat, bbM] | ((first | apply goIf_b | apply goG_b | apply goTG_b | apply goOG_b) <;> intro h <;> ((try simp only [hnq] at h); (try simp only [h]); (try simp only [hnr] at h)) <;> (try (exfalso; omega))))
    all_goals rfl
  · rw [bbR, if_neg h]
    generalize rcM l r = b at h
    repeat' (first | simp -implicitDefEqProofs (maxSteps := 1000000) (disch := (first | omega | (simp only [go_sem] <;> omega) | fail)) only [go_sem, ints, bools, mat] | ((first | apply goIf_b | apply goG_b | apply goTG_b | apply goOG_b) <;> intro h <;> ((try simp only [hnq] at h); (try simp only [h]); (try simp only [hnr] at h)) <;> (try (exfalso; omega))))
theorem d_spec_BallBound (l : List Int) (r : Int) (hl : l.length < 1048577) : Den PA f_spec_BallBound [.d (.agg [ints l]), .d (di r)] [.any, .any] (bbR l r) := by
  refine den_go [] l_spec_BallBound ?_
  repeat' (first | simp -implicitDefEqProofs (maxSteps := 1000000) (disch := (first | omega | (simp only [go_sem] <;> omega) | fail)) only [go_sem, ints, bools, mat, c_spec_BallBound] | ((first | apply goIf_b | apply goG_b | apply goTG_b | apply goOG_b) <;> intro h <;> ((try simp only [hnq] at h); (try simp only [h]); (try simp only [hnr] at h)) <;> (try (exfalso; omega))))
  first | refine goC_call [.r, .r, .r, .r] (d_spec_l04Code8 l hl r) ?_ | refine goOC_call [.r, .r, .r, .r] (d_spec_l04Code8 l hl r) ?_
  by_cases h : rcM l r = 0
  · rw [bbR, if_pos h, h]
    obtain ⟨hs, hr0, hr8⟩ := rcM_ok' h
    have hp1 := prodM_pos (isSpaceM_szs hs)
    have hpr := isSpaceM_prod hs
    have hn := isSpaceM_n hs
    have hbz := bz_pos hs hr0
    have h0 : 0 ≤ (prodM l + bzM l r - 1) / bzM l r := Int.ediv_nonneg (by omega) (by omega)
    have h1 : (prodM l + bzM l r - 1) / bzM l r ≤ prodM l + bzM l r - 1 := Int.ediv_le_self _ (by omega)
    repeat' (first | simp -implicitDefEqProofs (maxSteps := 1000000) (disch := (first | omega | (simp only [go_sem] <;> omega) | fail)) only [go_sem, ints, bools, mat] | ((first | apply goIf_b | apply goG_b | apply goTG_b | apply goOG_b) <;> intro h <;> ((try simp only [hnq] at h); (try simp only [h]); (try simp only [hnr] at h)) <;> (try (exfalso; omega))))
    first | refine goC_call [.r, .r] (d_spec_l01Size l hs r hr0 (by omega)) ?_ | refine goOC_call [.r, .r] (d_spec_l01Size l hs r hr0 (by omega)) ?_
    repeat' (first | simp -implicitDefEqProofs (maxSteps := 1000000) (disch := (first | omega | (simp only [go_sem] <;> omega) | fail)) only [go_sem, ints, bools, mat] | ((first | apply goIf_b | apply goG_b | apply goTG_b | apply goOG_b) <;> intro h <;> ((try simp only [hnq] at h); (try simp only [h]); (try simp only [hnr] at h)) <;> (try (exfalso; omega))))
    first | refine goC_call [.r] (d_spec_l01N l (by omega) (isSpaceM_q hs)) ?_ | refine goOC_call [.r] (d_spec_l01N l (by omega) (isSpaceM_q hs)) ?_
    repeat' (first | simp -implicitDefEqProofs (maxSteps := 1000000) (disch := (first | omega | (simp only [go_sem] <;> omega) | fail)) only [go_sem, ints, bools, mat, bbM] | ((first | apply goIf_b | apply goG_b | apply goTG_b | apply goOG_b) <;> intro h <;> ((try simp only [hnq] at h); (try simp only [h]); (try simp only [hnr] at h)) <;> (try (exfalso; omega))))
  · rw [bbR, if_neg h]
    generalize rcM l r = b at h
    repeat' (first | simp -implicitDefEqProofs (maxSteps := 1000000) (disch := (first | omega | (simp only [go_sem] <;> omega) | fail)) only [go_sem, ints, bools, mat] | ((first | apply goIf_b | apply goG_b | apply goTG_b | apply goOG_b) <;> intro h <;> ((try simp only [hnq] at h); (try simp only [h]); (try simp only [hnr] at h)) <;> (try (exfalso; omega))))
theorem tm_bnd {l c : List Int} {r : Int} {i : Nat} (hi : i < (prodM l).toNat) : 0 ≤ (timesM l c r).getD i 0 ∧ (timesM l c r).getD i 0 ≤ c.length := by
  have h1 := timesN_get c r c.length hi
  have h2 := cntN_bnd l c r i c.length
  show 0 ≤ (timesN l c r c.length).getD i 0 ∧ (timesN l c r c.length).getD i 0 ≤ c.length
  omega
def gcL (cv : List Bool) (S : List Int) : List Bool := S.foldl (fun c u => c.set u.toNat true) cv
@[go_sem] theorem gcL_len (cv : List Bool) : ∀ S : List Int, (gcL cv S).length = cv.length := fun S => by
  induction S generalizing cv with
  | nil => rfl
  | cons u S ih => rw [gcL, List.foldl_cons]; exact (ih (cv.set u.toNat true)).trans (by rw [List.length_set])
theorem gcL_snoc (cv : List Bool) (S : List Int) (u : Int) : gcL cv (S ++ [u]) = (gcL cv S).set u.toNat true := by
  rw [gcL, List.foldl_append]; rfl
theorem getB_set {cv : List Bool} {i j : Nat} (hi : i < cv.length) (v : Bool) : (cv.set j v).getD i false = if j = i then v else cv.getD i false := by
  rw [List.getD_eq_getElem?_getD, List.getElem?_set]
  split
  · rename_i e; subst e; rw [if_pos hi]; rfl
  · rw [List.getD_eq_getElem?_getD]
theorem gcL_get {i : Nat} : ∀ {S : List Int} {cv : List Bool}, (∀ u, u ∈ S → 0 ≤ u) → i < cv.length → ((gcL cv S).getD i false = true ↔ cv.getD i false = true ∨ (i : Int) ∈ S)
  | [], cv, _, _ => by simp [gcL]
  | u :: S, cv, h, hi => by
    have hu := h u List.mem_cons_self
    have ih := gcL_get (i := i) (S := S) (cv := cv.set u.toNat true) (fun v hv => h v (List.mem_cons_of_mem _ hv)) (by rw [List.length_set]; exact hi)
    rw [show gcL cv (u :: S) = gcL (cv.set u.toNat true) S from rfl, ih, getB_set hi, List.mem_cons]
    by_cases e : u.toNat = i
    · rw [if_pos e]
      have : (i : Int) = u := by omega
      simp [this]
    · rw [if_neg e]
      have : ¬ (i : Int) = u := by omega
      simp [this]
theorem setB_same {cv : List Bool} {i : Nat} (hi : i < cv.length) (h : cv.getD i false = true) : cv.set i true = cv := by
  refine List.ext_getElem (by simp) fun k h1 h2 => ?_
  rw [List.getElem_set]
  split
  · rename_i e; subst e
    rw [List.getD_eq_getElem?_getD, List.getElem?_eq_getElem hi, Option.getD_some] at h
    exact h.symm
  · rfl
def gnC (l : List Int) (r : Int) (cv : List Bool) (w : Int) : Int := (((allW l).filter fun u => !(cv.getD u.toNat false) && decide (distM l w u ≤ r)).length : Int)
def mxG (l : List Int) (A B : Int → Int) (p : Int → Bool) : List Int := (allW l).map fun w => if p w = true then A w else B w
@[go_sem] theorem mxG_len (l : List Int) (A B : Int → Int) (p : Int → Bool) : (mxG l A B p).length = (prodM l).toNat := by rw [mxG, List.length_map, allW_len]
abbrev gnL (l : List Int) (r : Int) (cv : List Bool) : List Int := mxG l (gnC l r cv) (gnC l r cv) (fun _ => true)
theorem mxG_get {l : List Int} (A B : Int → Int) (p : Int → Bool) {j : Nat} (hj : j < (prodM l).toNat) : (mxG l A B p).getD j 0 = if p j = true then A j else B j := by
  have h : j < (allW l).length := by rw [allW_len]; exact hj
  have e := allW_get l hj
  rw [List.getD_eq_getElem?_getD, List.getElem?_eq_getElem h, Option.getD_some] at e
  rw [mxG, List.getD_eq_getElem?_getD, List.getElem?_map, List.getElem?_eq_getElem h, Option.map_some, Option.getD_some, e]
theorem mxG_ext {l : List Int} {A B A' B' : Int → Int} {p q : Int → Bool} (h : ∀ j : Nat, j < (prodM l).toNat → (if p j = true then A j else B j) = if q j = true then A' j else B' j) : mxG l A B p = mxG l A' B' q := by
  refine List.map_congr_left fun w hw => ?_
  obtain ⟨h0, h1⟩ := (allW_mem l w).1 hw
  have := h w.toNat (by omega)
  rw [show ((w.toNat : Nat) : Int) = w by omega] at this
  exact this
theorem mxG_set {l : List Int} {A B : Int → Int} {p q : Int → Bool} {j : Nat} {v : Int} (hj : j < (prodM l).toNat) (hv : v = A j) (hq : ∀ i : Nat, i < (prodM l).toNat → q i = (p i || decide (i = j))) : (mxG l A B p).set j v = mxG l A B q := by
  refine List.ext_getElem (by simp [mxG_len]) fun k h1 h2 => ?_
  have hk : k < (prodM l).toNat := by rw [mxG_len] at h2; exact h2
  have e1 := mxG_get (l := l) A B p hk
  have e2 := mxG_get (l := l) A B q hk
  rw [List.getD_eq_getElem?_getD, List.getElem?_eq_getElem (by rw [mxG_len]; exact hk), Option.getD_some] at e1 e2
  rw [List.getElem_set, e2, hq k hk]
  by_cases e : j = k
  · subst e; simp [hv]
  · rw [if_neg e, e1]
    have e' : decide (k = j) = false := decide_eq_false fun h => e h.symm
    rw [e', Bool.or_false]
theorem gnC_bnd (l : List Int) (r : Int) (cv : List Bool) (w : Int) : 0 ≤ gnC l r cv w ∧ gnC l r cv w ≤ (prodM l).toNat := by
  have h := List.length_filter_le (fun u => !(cv.getD u.toNat false) && decide (distM l w u ≤ r)) (allW l)
  rw [allW_len] at h
  unfold gnC; omega
theorem flt_rm {a : Int} (p : Int → Bool) : ∀ {A : List Int}, A.Nodup → a ∈ A → (A.filter p).length = (A.filter fun x => p x && decide (x ≠ a)).length + (if p a = true then 1 else 0)
  | [], _, h => by simp at h
  | x :: A, hn, h => by
    obtain ⟨h1, h2⟩ := List.nodup_cons.1 hn
    by_cases e : x = a
    · subst e
      have e2 : A.filter (fun y => p y && decide (y ≠ x)) = A.filter p := List.filter_congr fun y hy => by
        have : y ≠ x := fun e => h1 (e ▸ hy)
        simp [this]
      rw [List.filter_cons, List.filter_cons]
      simp only [ne_eq, not_true, decide_false, Bool.and_false, Bool.false_eq_true, if_false]
      rw [e2]
      split <;> simp
    · have ih := flt_rm p h2 (by rcases List.mem_cons.1 h with h | h; exact absurd h.symm e; exact h)
      rw [List.filter_cons, List.filter_cons]
      have : decide (x ≠ a) = true := decide_eq_true e
      rw [this, Bool.and_true]
      split
      · rw [List.length_cons, List.length_cons, ih]; omega
      · exact ih
theorem gnC_set {l : List Int} {r : Int} {cv : List Bool} {u : Nat} (hl : cv.length = (prodM l).toNat) (hu : u < (prodM l).toNat) (hc : cv.getD u false = false) (w : Int) : gnC l r (cv.set u true) w = gnC l r cv w - (if distM l w u ≤ r then 1 else 0) := by
  have h := flt_rm (a := (u : Int)) (fun x => !(cv.getD x.toNat false) && decide (distM l w x ≤ r)) (allW_nodup l) ((allW_mem l _).2 (by omega))
  have e : (allW l).filter (fun x => !((cv.set u true).getD x.toNat false) && decide (distM l w x ≤ r)) = (allW l).filter fun x => (!(cv.getD x.toNat false) && decide (distM l w x ≤ r)) && decide (x ≠ (u : Int)) := List.filter_congr fun x hx => by
    obtain ⟨h0, h1⟩ := (allW_mem l x).1 hx
    rw [getB_set (by omega)]
    by_cases e : u = x.toNat
    · have e2 : x = (u : Int) := by omega
      rw [if_pos e]; simp [e2]
    · have e2 : ¬ x = (u : Int) := by omega
      rw [if_neg e]; simp [e2]
  unfold gnC
  rw [e, h]
  simp only [Int.toNat_natCast, hc, Bool.not_false, Bool.true_and, decide_eq_true_eq]
  split <;> simp
def bsx (G : List Int) : Nat → Nat
  | 0 => 0
  | j + 1 => if G.getD (bsx G j) 0 < G.getD j 0 then j else bsx G j
theorem bsx_lt (G : List Int) : ∀ j, bsx G j < j ∨ bsx G j = 0
  | 0 => .inr rfl
  | j + 1 => by
    have := bsx_lt G j
    rw [bsx]; split
    · exact .inl (by omega)
    · omega
theorem bsx_max (G : List Int) : ∀ j i, i < j → G.getD i 0 ≤ G.getD (bsx G j) 0
  | 0, i, h => by omega
  | j + 1, i, h => by
    rw [bsx]
    by_cases e : i = j
    · subst e; split <;> omega
    · have := bsx_max G j i (by omega)
      split <;> omega
abbrev bst (l : List Int) (r : Int) (cv : List Bool) : Nat := bsx (gnL l r cv) (prodM l).toNat
def grd (l : List Int) (r : Int) : Nat → List Bool → List Int → List Int
  | 0, _, K => K
  | f + 1, cv, K => if (gnL l r cv).getD (bst l r cv) 0 = 0 then K else grd l r f (gcL cv (ballM l (bst l r cv) r)) (K ++ [(bst l r cv : Int)])
structure GrJ (l : List Int) (r : Int) (cv : List Bool) (K : List Int) : Prop where
  len : cv.length = (prodM l).toNat
  inc : inC l K
  nod : K.Nodup
  cov : ∀ i : Nat, i < (prodM l).toNat → (cv.getD i false = true ↔ ∃ k, k ∈ K ∧ distM l k i ≤ r)
theorem GrJ.small {l : List Int} {r : Int} {cv : List Bool} {K : List Int} (hs : isSpaceM l = true) (h : GrJ l r cv K) : K.length ≤ (prodM l).toNat := nodup_small hs h.inc h.nod
theorem bst_lt {l : List Int} (hs : isSpaceM l = true) (r : Int) (cv : List Bool) : bst l r cv < (prodM l).toNat := by
  have h1 := bsx_lt (gnL l r cv) (prodM l).toNat
  have h2 := prodM_pos (isSpaceM_szs hs)
  show bsx (gnL l r cv) (prodM l).toNat < _
  omega
theorem bst_get {l : List Int} (hs : isSpaceM l = true) (r : Int) (cv : List Bool) : (gnL l r cv).getD (bst l r cv) 0 = gnC l r cv (bst l r cv) := by
  rw [mxG_get _ _ _ (bst_lt hs r cv), if_pos rfl]
theorem GrJ.next {l : List Int} {r : Int} {cv : List Bool} {K : List Int} (hs : isSpaceM l = true) (h : GrJ l r cv K) (hg : (gnL l r cv).getD (bst l r cv) 0 ≠ 0) : GrJ l r (gcL cv (ballM l (bst l r cv) r)) (K ++ [(bst l r cv : Int)]) := by
  have hb := bst_lt hs r cv
  have hp1 := prodM_pos (isSpaceM_szs hs)
  rw [bst_get hs] at hg
  generalize bst l r cv = b at *
  have hcv : ∀ i : Nat, i < (prodM l).toNat → ((gcL cv (ballM l b r)).getD i false = true ↔ cv.getD i false = true ∨ distM l (b : Int) i ≤ r) := fun i hi => by
    rw [gcL_get (fun u hu => ((ballM_mem l _ r u).1 hu).1.1) (by rw [h.len]; exact hi), ballM_mem, distM_comm l (i : Int)]
    constructor
    · rintro (h | h)
      · exact .inl h
      · exact .inr h.2
    · rintro (h | h)
      · exact .inl h
      · exact .inr ⟨by omega, h⟩
  have hnb : (b : Int) ∉ K := fun hK => by
    apply hg
    unfold gnC
    rw [List.filter_eq_nil_iff.2]
    · rfl
    · intro u hu hx
      obtain ⟨h0, h1⟩ := (allW_mem l u).1 hu
      simp only [Bool.and_eq_true, Bool.not_eq_true', decide_eq_true_eq] at hx
      have := (h.cov u.toNat (by omega)).2 ⟨b, hK, by rw [show ((u.toNat : Nat) : Int) = u by omega]; exact hx.2⟩
      rw [hx.1] at this; cases this
  refine ⟨by rw [gcL_len, h.len], inC_app h.inc fun u hu => by simp only [List.mem_singleton] at hu; omega, ?_, fun i hi => ?_⟩
  · rw [List.nodup_append]
    refine ⟨h.nod, by simp, fun x hx y hy e => ?_⟩
    simp only [List.mem_singleton] at hy
    subst hy; subst e; exact hnb hx
  · rw [hcv i hi, h.cov i hi]
    constructor
    · rintro (⟨k, hk, hd⟩ | hd)
      · exact ⟨k, List.mem_append_left _ hk, hd⟩
      · exact ⟨b, List.mem_append_right _ (by simp), hd⟩
    · rintro ⟨k, hk, hd⟩
      rcases List.mem_append.1 hk with hk | hk
      · exact .inl ⟨k, hk, hd⟩
      · simp only [List.mem_singleton] at hk; subst hk; exact .inr hd
theorem GrJ.all {l : List Int} {r : Int} {cv : List Bool} {K : List Int} (hs : isSpaceM l = true) (hr : 0 ≤ r) (h : GrJ l r cv K) (hg : (gnL l r cv).getD (bst l r cv) 0 = 0) : ∀ i : Nat, i < (prodM l).toNat → ∃ k, k ∈ K ∧ distM l k i ≤ r := fun i hi => by
  refine (h.cov i hi).1 ?_
  have h1 := bsx_max (gnL l r cv) (prodM l).toNat i hi
  rw [show bsx (gnL l r cv) (prodM l).toNat = bst l r cv from rfl, hg, mxG_get _ _ _ hi, if_pos rfl] at h1
  cases hc : cv.getD i false with
  | true => rfl
  | false =>
    exfalso
    have hm : (i : Int) ∈ (allW l).filter fun u => !(cv.getD u.toNat false) && decide (distM l i u ≤ r) := by
      refine List.mem_filter.2 ⟨(allW_mem l _).2 (by omega), ?_⟩
      rw [Int.toNat_natCast, hc, distM_self]
      simp [hr]
    have := List.length_pos_of_mem hm
    unfold gnC at h1
    omega
theorem grd_ok {l : List Int} {r : Int} (hs : isSpaceM l = true) (hr : 0 ≤ r) : ∀ (f : Nat) (cv : List Bool) (K : List Int), GrJ l r cv K → K.length + f = (prodM l).toNat + 1 →
    inC l (grd l r f cv K) ∧ (grd l r f cv K).Nodup ∧ ∀ i : Nat, i < (prodM l).toNat → ∃ k, k ∈ grd l r f cv K ∧ distM l k i ≤ r
  | 0, cv, K, h, e => by have := h.small hs; omega
  | f + 1, cv, K, h, e => by
    rw [grd]
    split
    · rename_i hg; exact ⟨h.inc, h.nod, h.all hs hr hg⟩
    · rename_i hg
      exact grd_ok hs hr f _ _ (h.next hs hg) (by rw [List.length_append, List.length_singleton]; omega)
theorem GrJ.start {l : List Int} (r : Int) : GrJ l r (List.replicate (prodM l).toNat false) [] :=
  ⟨by simp, fun u hu => by simp at hu, List.nodup_nil, fun i hi => by simp [hi]⟩
def grM (l : List Int) (r : Int) : List Int := setI (grd l r ((prodM l).toNat + 1) (List.replicate (prodM l).toNat false) [])
theorem grM_ok {l : List Int} {r : Int} (hs : isSpaceM l = true) (hr : 0 ≤ r) : isCodeM l (grM l r) = true ∧ (grM l r).length ≤ (prodM l).toNat ∧ cvB l (grM l r) r = true := by
  obtain ⟨h1, h2, h3⟩ := grd_ok hs hr ((prodM l).toNat + 1) _ _ (GrJ.start r) (by simp)
  have hin : inC l (grM l r) := fun u hu => h1 u ((setI_mem _ _).1 hu)
  refine ⟨?_, nodup_small hs hin (asc_nodup (setI_asc _)), cvB_yes fun w hw => ?_⟩
  · rw [isCodeM_ok]
    exact ⟨fun j hj => hin _ (getD_mem hj), fun j hj => asc_lt (setI_asc _) (by omega) hj⟩
  · obtain ⟨k, hk, hd⟩ := h3 w hw
    have hk' : k ∈ grM l r := (setI_mem _ _).2 hk
    obtain ⟨i, hi, e⟩ := List.mem_iff_getElem.1 hk'
    refine ⟨i, hi, ?_⟩
    rw [List.getD_eq_getElem?_getD, List.getElem?_eq_getElem hi, Option.getD_some, e]; exact hd
theorem ball_take {l : List Int} (b r : Int) {j : Nat} (hj : j < (prodM l).toNat) : ((allW l).take (j + 1)).filter (fun u => decide (distM l u b ≤ r)) = ((allW l).take j).filter (fun u => decide (distM l u b ≤ r)) ++ (if distM l j b ≤ r then [(j : Int)] else []) := by
  rw [take_allW l hj, List.filter_append]
  by_cases h : distM l j b ≤ r
  · rw [if_pos h]; simp [h]
  · rw [if_neg h]; simp [h]
theorem gn_none {l : List Int} (A : Int → Int) (r : Int) (cv : List Bool) {p : Int → Bool} (hp : ∀ j : Nat, j < (prodM l).toNat → p j = false) : mxG l A (gnC l r cv) p = gnL l r cv := mxG_ext fun j hj => by simp [hp j hj]
theorem gn_full {l : List Int} (r : Int) (cv : List Bool) (B : Int → Int) {p : Int → Bool} (hp : ∀ j : Nat, j < (prodM l).toNat → p j = true ∨ gnC l r cv j = B j) : mxG l (gnC l r cv) B p = gnL l r cv := mxG_ext fun j hj => by
  rcases hp j hj with h | h
  · simp [h]
  · rw [← h]; simp
theorem gn_first {l : List Int} (hs : isSpaceM l = true) {r : Int} (hr : 0 ≤ r) : List.replicate (prodM l).toNat (bzM l r) = gnL l r (List.replicate (prodM l).toNat false) := by
  refine List.ext_getElem (by simp [mxG_len]) fun k h1 h2 => ?_
  have hk : k < (prodM l).toNat := by simpa using h1
  have e := mxG_get (l := l) (gnC l r (List.replicate (prodM l).toNat false)) (gnC l r (List.replicate (prodM l).toNat false)) (fun _ => true) hk
  rw [List.getD_eq_getElem?_getD, List.getElem?_eq_getElem h2, Option.getD_some, if_pos rfl] at e
  rw [e, List.getElem_replicate, ← ball_len hs (k : Int) hr, gnC, ballM]
  congr 2
  refine List.filter_congr fun u hu => ?_
  obtain ⟨h0, h1⟩ := (allW_mem l u).1 hu
  rw [distM_comm]
  simp [show u.toNat < (prodM l).toNat by omega]
def gcB (l : List Int) (r : Int) (cv : List Bool) (b j : Nat) : List Bool := gcL cv (((allW l).take j).filter fun u => decide (distM l u b ≤ r))
@[go_sem] theorem gcB_len (l : List Int) (r : Int) (cv : List Bool) (b j : Nat) : (gcB l r cv b j).length = cv.length := gcL_len _ _
theorem gcB_zero (l : List Int) (r : Int) (cv : List Bool) (b : Nat) : gcB l r cv b 0 = cv := rfl
theorem gcB_all (l : List Int) (r : Int) (cv : List Bool) (b : Nat) : gcB l r cv b (prodM l).toNat = gcL cv (ballM l b r) := by
  unfold gcB ballM
  rw [← allW_len l, List.take_length]
theorem gcB_no {l : List Int} {r : Int} (cv : List Bool) {b j : Nat} (hj : j < (prodM l).toNat) (h : ¬ distM l b j ≤ r) : gcB l r cv b (j + 1) = gcB l r cv b j := by
  unfold gcB
  rw [ball_take _ _ hj, distM_comm, if_neg h, List.append_nil]
theorem gcB_yes {l : List Int} {r : Int} (cv : List Bool) {b j : Nat} (hj : j < (prodM l).toNat) (h : distM l b j ≤ r) : gcB l r cv b (j + 1) = (gcB l r cv b j).set j true := by
  unfold gcB
  rw [ball_take _ _ hj, distM_comm, if_pos h, gcL_snoc, Int.toNat_natCast]
theorem gcB_old {l : List Int} {r : Int} {cv : List Bool} (hl : cv.length = (prodM l).toNat) {b j : Nat} (hj : j < (prodM l).toNat) (h : (gcB l r cv b j).getD j false = true) : gcB l r cv b (j + 1) = gcB l r cv b j := by
  by_cases hd : distM l b j ≤ r
  · rw [gcB_yes cv hj hd, setB_same (by rw [gcB_len, hl]; exact hj) h]
  · exact gcB_no cv hj hd
end Go.Proofs.YtfgjfjgkoabfjacGreat.Va
