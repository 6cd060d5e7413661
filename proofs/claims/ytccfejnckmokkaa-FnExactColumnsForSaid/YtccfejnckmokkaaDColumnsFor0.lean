/- Contracts of the functions that FnExactColumnsFor reaches (part 0). Condition: none. -/
import Derived.Test.YtccfejnckmokkaaCColumnsFor
set_option linter.all false
set_option linter.unusedSimpArgs false
set_option linter.unusedVariables false
namespace Go.Proofs.Ytccfejnckmokkaa.Va
open Go
set_option maxHeartbeats 4000000
set_option maxRecDepth 100000
attribute [go_sem_proc] reduceIte Nat.reduceEqDiff Nat.reduceAdd Nat.reduceBEq Nat.reduceMul Nat.reduceLeDiff Nat.reduceLT Nat.reduceMod Nat.reduceDiv Nat.reduceSub reduceCtorEq
theorem hnq : (∀ {b : Bool}, ((!b) = true) = (b = false)) ∧ (∀ {b : Bool}, ((!b) = false) = (b = true)) := ⟨by intro b; cases b <;> simp, by intro b; cases b <;> simp⟩
theorem hnr : (∀ {p : Prop} [Decidable p], (decide p = true) = p) ∧ (∀ {p : Prop} [Decidable p], (decide p = false) = ¬p) ∧ (∀ {α : Type} [BEq α] [LawfulBEq α] {a b : α}, ((a != b) = true) ↔ a ≠ b) ∧ (∀ {α : Type} [BEq α] [LawfulBEq α] {a b : α}, ((a != b) = false) ↔ a = b) ∧
  (∀ {α : Type} [BEq α] [LawfulBEq α] {a b : α}, ((a == b) = true) ↔ a = b) ∧ (∀ {α : Type} [BEq α] [LawfulBEq α] {a b : α}, ((a == b) = false) ↔ a ≠ b) ∧ (∀ {α : Type} {a b : α}, (a ≠ b) = ¬ a = b) ∧ (∀ {a b : Int}, ¬ a < b ↔ b ≤ a) ∧ (∀ {a b : Int}, ¬ a ≤ b ↔ b < a) ∧
  (∀ {a b : Bool}, ((a && b) = true) = (a = true ∧ b = true)) ∧ (∀ {a b : Bool}, ((a && b) = false) = (a = false ∨ b = false)) ∧ (∀ {a b : Bool}, ((a || b) = true) = (a = true ∨ b = true)) ∧ (∀ {a b : Bool}, ((a || b) = false) = (a = false ∧ b = false)) :=
  ⟨decide_eq_true_eq, decide_eq_false_iff_not .. |> propext, bne_iff_ne, bne_eq_false_iff_eq, beq_iff_eq, beq_eq_false_iff_ne, rfl, Int.not_lt, Int.not_le, by simp, by simp, by simp, by simp⟩
theorem d_spec_l01In (a lo hi : Int) : Den PA f_spec_l01In [.d (di a), .d (di lo), .d (di hi)] [.any, .any, .any] (.d (db (decide (lo ≤ a) && decide (a ≤ hi)))) := by
  refine den_go [] l_spec_l01In ?_
  repeat' (first | simp -implicitDefEqProofs (maxSteps := 1000000) (disch := (first | omega | (simp only [go_sem] <;> omega) | fail)) only [go_sem, ints, bools, mat, c_spec_l01In] | ((first | apply goIf_b | apply goG_b | apply goTG_b | apply goOG_b) <;> intro h <;> ((try simp only [hnq] at h); (try simp only [h]); (try simp only [hnr] at h))))
theorem d_laws_eqInt64S (l m : List Int) (hl : l.length < 1048577) :
    Den PA f_laws_eqInt64S [.d (ints l), .d (ints m)] [.any, .any] (.d (db (decide (l = m)))) := by
  refine den_go [] l_laws_eqInt64S ?_
  repeat' (first | simp -implicitDefEqProofs (maxSteps := 1000000) (disch := (first | omega | (simp only [go_sem] <;> omega) | fail)) only [go_sem, ints, bools, mat, c_laws_eqInt64S] | ((first | apply goIf_b | apply goG_b | apply goTG_b | apply goOG_b) <;> intro h <;> ((try simp only [hnq] at h); (try simp only [h]); (try simp only [hnr] at h))))
  · exact dbF fun e => by have := of_decide_eq_true e; subst this; exact h rfl
  refine go_loop (fun (j : Nat) => ⟨[(0, .d (ints l)), (1, .d (ints m)), (5, .d (di j))], []⟩) (fun j => j ≤ l.length ∧ ∀ i, i < j → l.getD i 0 = m.getD i 0) (fun j => l.length - j) 0 ?_ ?_ ?_
  · simp -implicitDefEqProofs (maxSteps := 1000000) (disch := (first | omega | (simp only [go_sem] <;> omega) | fail)) only [go_sem, ints, bools, mat]; rfl
  · simp
  · rintro j ⟨hj, hi⟩ J hJ
    repeat' (first | simp -implicitDefEqProofs (maxSteps := 1000000) (disch := (first | omega | (simp only [go_sem] <;> omega) | fail)) only [go_sem, ints, bools, mat] | ((first | apply goIf_b | apply goG_b | apply goTG_b | apply goOG_b) <;> intro h <;> ((try simp only [hnq] at h); (try simp only [h]); (try simp only [hnr] at h))))
    · exact dbF fun e => by have := of_decide_eq_true e; subst this; exact h rfl
    · refine hJ (j + 1) ⟨by omega, fun i hi' => ?_⟩ (by omega) _ (by simp -implicitDefEqProofs (maxSteps := 1000000) (disch := (first | omega | (simp only [go_sem] <;> omega) | fail)) only [go_sem, ints, bools, mat]; rfl)
      rcases Nat.lt_or_ge i j with h' | h'
      · exact hi i h'
      · have : i = j := by omega
        subst this; assumption
    · exact dbT (decide_eq_true (eq_getD (by omega) fun i hi' => hi i (by omega)))
def prodM (l : List Int) : Int := l.foldl (· * ·) 1
theorem d_slices_IndexFunc (l : List Int) (p : Int → Bool) (g : List D → Value → Prop) (hg : ∀ n, g [di n] (.bool (p n))) (hl : l.length < 1048577) :
    Den PA f_slices_IndexFunc___int64_int64_ [.d (ints l), .pfn g] [.any, .any] (.d (di (match l.findIdx? p with | some j => j | none => -1))) := by
  refine den_go [] l_slices_IndexFunc___int64_int64_ ?_
  repeat' (first | simp -implicitDefEqProofs (maxSteps := 1000000) (disch := (first | omega | (simp only [go_sem] <;> omega) | fail)) only [go_sem, ints, bools, mat, c_slices_IndexFunc___int64_int64_] | ((first | apply goIf_b | apply goG_b | apply goTG_b | apply goOG_b) <;> intro h <;> ((try simp only [hnq] at h); (try simp only [h]); (try simp only [hnr] at h))))
  refine go_loop (fun (j : Nat) => ⟨[(0, .d (ints l)), (1, .pfn g), (7, .d (di l.length)), (8, .d (di j))], []⟩) (fun j => j ≤ l.length ∧ ∀ i, i < j → p (l.getD i 0) = false) (fun j => l.length - j) 0 ?_ ?_ ?_
  · simp -implicitDefEqProofs (maxSteps := 1000000) (disch := (first | omega | (simp only [go_sem] <;> omega) | fail)) only [go_sem, ints, bools, mat]; rfl
  · simp
  · rintro j ⟨hj, hi⟩ J hJ
    repeat' (first | simp -implicitDefEqProofs (maxSteps := 1000000) (disch := (first | omega | (simp only [go_sem] <;> omega) | fail)) only [go_sem, ints, bools, mat] | ((first | apply goIf_b | apply goG_b | apply goTG_b | apply goOG_b) <;> intro h <;> ((try simp only [hnq] at h); (try simp only [h]); (try simp only [hnr] at h))))
    · refine goV_pfn [di (l.getD j 0)] (.bool (p (l.getD j 0))) (by simp -implicitDefEqProofs (maxSteps := 1000000) (disch := (first | omega | (simp only [go_sem] <;> omega) | fail)) only [go_sem, ints, bools, mat]) rfl (hg _) ?_
      repeat' (first | simp -implicitDefEqProofs (maxSteps := 1000000) (disch := (first | omega | (simp only [go_sem] <;> omega) | fail)) only [go_sem, ints, bools, mat] | ((first | apply goIf_b | apply goG_b | apply goTG_b | apply goOG_b) <;> intro h <;> ((try simp only [hnq] at h); (try simp only [h]); (try simp only [hnr] at h))))
      · rw [findIdx_at (by omega) h hi]
      · refine hJ (j + 1) ⟨by omega, fun i hi' => ?_⟩ (by omega) _ (by simp -implicitDefEqProofs (maxSteps := 1000000) (disch := (first | omega | (simp only [go_sem] <;> omega) | fail)) only [go_sem, ints, bools, mat]; rfl)
        rcases Nat.lt_or_ge i j with h' | h'
        · exact hi i h'
        · have : i = j := by omega
          subst this; assumption
    · rw [findIdx_no fun i hi' => hi i (by omega)]
abbrev nil : D := .v (.slice none 0 0)
def markL (n : Nat) (k : Int) : List Int := (List.range n).map fun (i : Nat) => k + (i : Int)
@[go_sem] theorem markL_len (n : Nat) (k : Int) : (markL n k).length = n := by simp [markL]
theorem markL_get {n : Nat} (k : Int) {j : Nat} (h : j < n) : (markL n k).getD j 0 = k + j := by simp [markL, h]
@[go_sem] theorem take_markL (n : Nat) (k : Int) : (markL n k).take n = markL n k := List.take_of_length_le (by rw [markL_len]; exact Nat.le_refl _)
theorem mark_step (l : List Int) (k : Int) {j : Nat} (h : j < l.length) : (markL j k ++ l.drop j).set j (k + j) = markL (j + 1) k ++ l.drop (j + 1) := by
  apply List.ext_getElem
  · simp [markL]; omega
  · intro i h1 h2
    simp [markL] at h1 h2
    rw [List.getElem_set]
    split
    · subst_vars; simp [markL, List.getElem_append]
    · simp only [List.getElem_append, markL_len]
      split <;> split
      · simp [markL]
      · omega
      · omega
      · simp only [List.getElem_drop]; congr 1; omega
theorem d_laws_markInt64S (l : List Int) (k : Int) (hl : l.length < 1048577) (hk : 0 ≤ k) (hk2 : k < 1000000000000) :
    Den PA f_laws_markInt64S [.own 1 (l.map di), .d (di k)] [.own 1 ((markL l.length k).map di), .any] (.d (di (k + l.length))) := by
  refine den_go [0] l_laws_markInt64S ?_
  repeat' (first | simp -implicitDefEqProofs (maxSteps := 1000000) (disch := (first | omega | (simp only [go_sem] <;> omega) | fail)) only [go_sem, ints, bools, mat, c_laws_markInt64S] | ((first | apply goIf_b | apply goG_b | apply goTG_b | apply goOG_b) <;> intro h <;> ((try simp only [hnq] at h); (try simp only [h]); (try simp only [hnr] at h))))
  refine go_loop (fun (j : Nat) => ⟨[(0, .sl 0 0 l.length 1), (1, .d (di (k + j))), (5, .d (di j)), (19, .sl 0 0 l.length 1)], [some (.dat 1 ((markL j k ++ l.drop j).map di))]⟩) (fun j => j ≤ l.length) (fun j => l.length - j) 0 ?_ ?_ ?_
  · simp -implicitDefEqProofs (maxSteps := 1000000) (disch := (first | omega | (simp only [go_sem] <;> omega) | fail)) only [go_sem, ints, bools, mat]; simp [markL]
  · simp
  · rintro j hj J hJ
    have hlen := markL_len j k
    have hst := fun h => mark_step l k (j := j) h
    repeat' (first | simp -implicitDefEqProofs (maxSteps := 1000000) (disch := (first | omega | (simp only [go_sem] <;> omega) | fail)) only [go_sem, ints, bools, mat] | ((first | apply goIf_b | apply goG_b | apply goTG_b | apply goOG_b) <;> intro h <;> ((try simp only [hnq] at h); (try simp only [h]); (try simp only [hnr] at h))))
    · refine hJ (j + 1) (by omega) (by omega) _ ?_
      simp -implicitDefEqProofs (maxSteps := 1000000) (disch := (first | omega | (simp only [go_sem] <;> omega) | fail)) only [go_sem, ints, bools, mat]
      rw [hst (by omega)]; simp only [Int.natCast_add, Int.natCast_one, Int.add_assoc]
    · have : j = l.length := by omega
      subst this; simp
theorem d_laws_heldInt64S (n : Nat) (k : Int) (hl : n < 1048577) (hk : 0 ≤ k) (hk2 : k < 1000000000000) :
    Den PA f_laws_heldInt64S [.d (ints (markL n k)), .d (di k)] [.any, .any] (.d (di (k + n))) := by
  have hlen := markL_len n k
  refine den_go [] l_laws_heldInt64S ?_
  repeat' (first | simp -implicitDefEqProofs (maxSteps := 1000000) (disch := (first | omega | (simp only [go_sem] <;> omega) | fail)) only [go_sem, ints, bools, mat, c_laws_heldInt64S] | ((first | apply goIf_b | apply goG_b | apply goTG_b | apply goOG_b) <;> intro h <;> ((try simp only [hnq] at h); (try simp only [h]); (try simp only [hnr] at h))))
  refine go_loop (fun (j : Nat) => ⟨[(0, .d (ints (markL n k))), (1, .d (di (k + j))), (5, .d (di j))], []⟩) (fun j => j ≤ n) (fun j => n - j) 0 ?_ ?_ ?_
  · simp -implicitDefEqProofs (maxSteps := 1000000) (disch := (first | omega | (simp only [go_sem] <;> omega) | fail)) only [go_sem, ints, bools, mat]; simp
  · simp
  · rintro j hj J hJ
    have hst := fun h => markL_get k (n := n) (j := j) h
    repeat' (first | simp -implicitDefEqProofs (maxSteps := 1000000) (disch := (first | omega | (simp only [go_sem] <;> omega) | fail)) only [go_sem, ints, bools, mat] | ((first | apply goIf_b | apply goG_b | apply goTG_b | apply goOG_b) <;> intro h <;> ((try simp only [hnq] at h); (try simp only [h]); (try simp only [hnr] at h))))
    · exfalso; rw [hst (by omega)] at h; exact h rfl
    · refine hJ (j + 1) (by omega) (by omega) _ ?_
      simp -implicitDefEqProofs (maxSteps := 1000000) (disch := (first | omega | (simp only [go_sem] <;> omega) | fail)) only [go_sem, ints, bools, mat]
      simp only [Int.natCast_add, Int.natCast_one, Int.add_assoc]
    · have : j = n := by omega
      subst this; rfl
@[go_sem] theorem cast_succ_sub (i : Nat) : ((i + 1 : Nat) : Int) - 1 = (i : Int) := by omega
@[go_sem] theorem cast_zero0 : ((0 : Nat) : Int) = 0 := rfl
def digM : List Int → Int → List Int
  | [], _ => []
  | q :: r, w => (w / prodM r) % q :: digM r w
theorem div_le_self {w p : Int} (h : 0 ≤ w) (hp : 1 ≤ p) : 0 ≤ w / p ∧ w / p ≤ w := by
  refine ⟨Int.ediv_nonneg h (by omega), Int.ediv_le_self _ h⟩
theorem mod_bnd {x q : Int} (h : 2 ≤ q ∧ q ≤ 4) : 0 ≤ x % q ∧ x % q < q ∧ x % q < 4 := by
  have h1 := Int.emod_nonneg x (show q ≠ 0 by omega)
  have h2 := Int.emod_lt_of_pos x (show 0 < q by omega)
  omega
def pad8 (ds : List Int) : List Int := (ds ++ List.replicate 8 0).take 8
@[go_sem] theorem pad8_len (ds : List Int) : (pad8 ds).length = 8 := by simp [pad8]
@[go_sem] theorem and1_norm {x : Int} (h : 0 ≤ x) : ((x.toNat &&& (1 : Int).toNat : Nat) : Int) = x % 2 := by
  rw [show (1 : Int).toNat = 1 from rfl, and_one_toNat]; omega
theorem flat_dig (ds : List (List Int)) : flat (ds.map fun d => D.agg ((pad8 d).map dy)) = ds.flatMap fun d => (pad8 d).map dy := by
  induction ds with
  | nil => rfl
  | cons d r ih => simp only [flat, List.map_cons, List.flatMap_cons] at ih ⊢; rw [ih]; rfl
theorem drop_dig (ds : List (List Int)) : ∀ i, i < ds.length → ((ds.flatMap fun d => (pad8 d).map dy).drop (i * 8)).take 8 = (pad8 (ds.getD i [])).map dy := by
  induction ds with
  | nil => intro i hi; simp at hi
  | cons d r ih =>
    intro i hi
    rcases i with _ | i
    · rw [List.flatMap_cons, Nat.zero_mul, List.drop_zero, List.take_left' (by simp [pad8_len])]; rfl
    · rw [List.flatMap_cons, Nat.succ_mul, Nat.add_comm, ← List.drop_drop, List.drop_left' (by simp [pad8_len]), ih i (by simpa using hi)]; rfl
theorem len_dig (ds : List (List Int)) : (ds.flatMap fun d => (pad8 d).map dy).length = ds.length * 8 := by
  induction ds with
  | nil => rfl
  | cons d r ih => simp [List.flatMap_cons, ih, Nat.succ_mul, Nat.add_comm, pad8_len]
@[go_sem] theorem ldC_dig {ds : List (List Int)} {i : Nat} (h : i < ds.length) : ldC true 8 (flat (ds.map fun d => D.agg ((pad8 d).map dy))) (i * 8) = some (.d (.agg ((pad8 (ds.getD i [])).map dy))) := by
  rw [flat_dig]
  have h1 := drop_dig ds i h
  have h2 := len_dig ds
  unfold ldC
  rw [if_pos rfl]
  split
  · rename_i hc
    rw [hc.1, List.drop_zero, List.take_of_length_le (by omega)] at h1
    rw [h1]
  · rw [if_pos (by omega), h1]
@[go_sem] theorem get_dig {ds : List (List Int)} {i : Nat} (h : i < ds.length) : (ds.map fun d => D.agg ((pad8 d).map dy))[i]? = some (D.agg ((pad8 (ds.getD i [])).map dy)) := by simp [h]
@[go_sem] theorem app_dig (ds : List (List Int)) (d : List Int) : (ds.map fun d => D.agg ((pad8 d).map dy)) ++ [D.agg ((pad8 d).map dy)] = (ds ++ [d]).map fun d => D.agg ((pad8 d).map dy) := by simp
@[go_sem] theorem mul_mod8 (i : Nat) : i * 8 % 8 = 0 := Nat.mul_mod_left i 8
@[go_sem] theorem mul_div8 (i : Nat) : i * 8 / 8 = i := by omega
def digsM (l c : List Int) : List (List Int) := c.map (digM l)
@[go_sem] theorem digsM_len (l c : List Int) : (digsM l c).length = c.length := by simp [digsM]
def allW (l : List Int) : List Int := (List.range (prodM l).toNat).map fun (w : Nat) => (w : Int)
@[go_sem] theorem allW_len (l : List Int) : (allW l).length = (prodM l).toNat := by simp [allW]
def histS (o : List Int) (d : Int) : List Int := o.set d.toNat (o.getD d.toNat 0 + 1)
def hist (n : Nat) (ds : List Int) : List Int := ds.foldl histS (List.replicate n 0)
theorem foldl_hist_len (ds : List Int) : ∀ o : List Int, (ds.foldl histS o).length = o.length := by
  induction ds with
  | nil => intro o; rfl
  | cons d r ih => intro o; rw [List.foldl_cons, ih]; simp [histS]
@[go_sem] theorem hist_len (n : Nat) (ds : List Int) : (hist n ds).length = n := by rw [hist, foldl_hist_len]; simp
attribute [go_sem] Nat.sub_zero
def mn2 (a b : Int) : Int := if b < a then b else a
@[go_sem] theorem mnA_mn2 (a b : Int) : mnA (.d (di a)) (.d (di b)) = some (.d (di (mn2 a b))) := rfl
def mx2 (a b : Int) : Int := if a < b then b else a
@[go_sem] theorem mxA_mx2 (a b : Int) : mxA (.d (di a)) (.d (di b)) = some (.d (di (mx2 a b))) := rfl
theorem chk_intro {c p : Prop} (h : c) (k : p) : chk c p := ⟨h, k⟩
theorem fnOK_mk {P : Program} {sto : Sto} {f : FuncId} {caps : List AV} {g : List D → Value → Prop} (h : okF P f) (boxes : List (List D)) (hb : caps.map (boxR sto) = boxes.map some) (hg : ∀ ds r, g ds r → ∃ rs', Den P f (ds.map .d ++ boxes.map .box) rs' (.d (.v r))) :
    FnOK P sto (.fn f caps) g := ⟨h, boxes, hb, hg⟩
attribute [go_sem] isnA List.drop_length
theorem d_slices_Clone_ints (t : List Int) (h : t.length < 1048577) : Den PA f_slices_Clone___int64_int64_ [.d (ints t)] [.any] (.own 1 (t.map di)) := by
  refine den_go [] l_slices_Clone___int64_int64_ ?_
  repeat' (first | simp -implicitDefEqProofs (maxSteps := 1000000) (disch := (first | omega | (simp only [go_sem] <;> omega) | fail)) only [go_sem, ints, bools, mat, c_slices_Clone___int64_int64_] | ((first | apply goIf_b | apply goG_b | apply goTG_b | apply goOG_b) <;> intro h <;> ((try simp only [hnq] at h); (try simp only [h]); (try simp only [hnr] at h))))
theorem getD_set (o : List Int) (i j : Nat) (v : Int) (hi : i < o.length) : (o.set i v).getD j 0 = if i = j then v else o.getD j 0 := by
  rw [List.getD_eq_getElem?_getD, List.getElem?_set]
  split
  · first | rfl | (rename_i e; subst e; simp [hi])
  · rw [List.getD_eq_getElem?_getD]
theorem leaS_part {k i n : Nat} {es : List D} {s : Sto} (h : n ≤ es.length) : leaS k (some (some (.dat 1 es))) i 0 n 1 s = (.own 1 (es.take n), s.set i none) := by
  simp [leaS, h]
theorem d_slices_IndexFunc_rows (ds : List (List Int)) (p : List Int → Bool) (g : List D → Value → Prop) (hg : ∀ i, i < ds.length → g [ints (ds.getD i [])] (.bool (p (ds.getD i [])))) (hl : ds.length < 1048577) :
    Den PA f_slices_IndexFunc_____int64___int64_ [.d (.lst 1 (ds.map ints)), .pfn g] [.any, .any] (.d (di (match ds.findIdx? p with | some j => j | none => -1))) := by
  refine den_go [] l_slices_IndexFunc_____int64___int64_ ?_
  repeat' (first | simp -implicitDefEqProofs (maxSteps := 1000000) (disch := (first | omega | (simp only [go_sem] <;> omega) | fail)) only [go_sem, ints, bools, mat, c_slices_IndexFunc_____int64___int64_] | ((first | apply goIf_b | apply goG_b | apply goTG_b | apply goOG_b) <;> intro h <;> ((try simp only [hnq] at h); (try simp only [h]); (try simp only [hnr] at h))))
  refine go_loop (fun (j : Nat) => ⟨[(0, .d (.lst 1 (ds.map ints))), (1, .pfn g), (7, .d (di ds.length)), (8, .d (di j)), (19, .any)], []⟩) (fun j => j ≤ ds.length ∧ ∀ i, i < j → p (ds.getD i []) = false) (fun j => ds.length - j) 0 ?_ ?_ ?_
  · (simp -implicitDefEqProofs (maxSteps := 1000000) (disch := (first | omega | (simp only [go_sem] <;> omega) | fail)) only [go_sem, ints, bools, mat] <;> rfl)
  · simp
  · rintro j ⟨hj, hi⟩ J hJ
    repeat' (first | simp -implicitDefEqProofs (maxSteps := 1000000) (disch := (first | omega | (simp only [go_sem] <;> omega) | fail)) only [go_sem, ints, bools, mat] | ((first | apply goIf_b | apply goG_b | apply goTG_b | apply goOG_b) <;> intro h <;> ((try simp only [hnq] at h); (try simp only [h]); (try simp only [hnr] at h))))
    · refine goV_pfn [ints (ds.getD j [])] (.bool (p (ds.getD j []))) (by simp -implicitDefEqProofs (maxSteps := 1000000) (disch := (first | omega | (simp only [go_sem] <;> omega) | fail)) only [go_sem, ints, bools, mat]) rfl (hg j (by omega)) ?_
      repeat' (first | simp -implicitDefEqProofs (maxSteps := 1000000) (disch := (first | omega | (simp only [go_sem] <;> omega) | fail)) only [go_sem, ints, bools, mat] | ((first | apply goIf_b | apply goG_b | apply goTG_b | apply goOG_b) <;> intro h <;> ((try simp only [hnq] at h); (try simp only [h]); (try simp only [hnr] at h))))
      · have e : ds.findIdx? p = some j := by
          rw [List.findIdx?_eq_some_iff_getElem]
          refine ⟨by omega, by simpa [show j < ds.length by omega] using h, fun i hi' => ?_⟩
          have := hi i hi'
          simpa [show i < ds.length by omega] using this
        rw [e]
      · refine hJ (j + 1) ⟨by omega, all_ext hi h⟩ (by omega) _ (by (simp -implicitDefEqProofs (maxSteps := 1000000) (disch := (first | omega | (simp only [go_sem] <;> omega) | fail)) only [go_sem, ints, bools, mat] <;> rfl))
    · have e : ds.findIdx? p = none := by
        rw [List.findIdx?_eq_none_iff]
        intro x hx
        obtain ⟨i, hi', rfl⟩ := List.mem_iff_getElem.1 hx
        have := hi i (by omega)
        simpa [hi'] using this
      rw [e]
theorem thin_first (ds : List (List Int)) (p : List Int → Bool) {i : Nat} (hi : i < ds.length) (h : ∀ k, k < i → p (ds.getD k []) = false) : (ds.take i).filter (fun x => !p x) = ds.take i := by
  rw [List.filter_eq_self]
  intro x hx
  obtain ⟨k, hk, rfl⟩ := List.mem_iff_getElem.1 hx
  rw [List.length_take] at hk
  have := h k (by omega)
  simpa [show k < ds.length by omega] using this
theorem getD_setR (X : List (List Int)) (i j : Nat) (v : List Int) (h : i < X.length) : (X.set i v).getD j [] = if j = i then v else X.getD j [] := by
  simp only [List.getD_eq_getElem?_getD, List.getElem?_set]
  by_cases e : i = j
  · subst e; simp [h]
  · simp [e, show ¬ j = i from fun h => e h.symm]
theorem map_setR (X : List (List Int)) (i : Nat) (v : List Int) : (X.map ints).set i (ints v) = (X.set i v).map ints := by simp
theorem filter_take_succ (ds : List (List Int)) (p : List Int → Bool) {j : Nat} (h : j < ds.length) : (ds.take (j + 1)).filter p = (ds.take j).filter p ++ (if p (ds.getD j []) then [ds.getD j []] else []) := by
  rw [List.take_add_one, List.filter_append]
  simp only [h, List.getElem?_eq_getElem, Option.toList_some, List.getD_eq_getElem?_getD, Option.getD_some, List.filter_cons, List.filter_nil]
theorem take_setR (X : List (List Int)) {i : Nat} (v : List Int) (h : i < X.length) : (X.set i v).take (i + 1) = X.take i ++ [v] := by
  rw [List.take_add_one, List.take_set_of_le (Nat.le_refl _)]
  simp [h]
theorem d_slices_DeleteFunc_rows (ds : List (List Int)) (p : List Int → Bool) (g : List D → Value → Prop) (hg : ∀ i, i < ds.length → g [ints (ds.getD i [])] (.bool (p (ds.getD i [])))) (hl : ds.length < 1048577) :
    Den PA f_slices_DeleteFunc_____int64___int64_ [.own 1 (ds.map ints), .pfn g] [.any, .any] (.own 1 ((ds.filter fun x => !p x).map ints)) := by
  refine den_go [] l_slices_DeleteFunc_____int64___int64_ ?_
  repeat' (first | simp -implicitDefEqProofs (maxSteps := 1000000) (disch := (first | omega | (simp only [go_sem] <;> omega) | fail)) only [go_sem, ints, bools, mat, c_slices_DeleteFunc_____int64___int64_] | ((first | apply goIf_b | apply goG_b | apply goTG_b | apply goOG_b) <;> intro h <;> ((try simp only [hnq] at h); (try simp only [h]); (try simp only [hnr] at h))))
  first | refine goC_of [.r, .g g] (d_slices_IndexFunc_rows ds p g hg hl) (by first | (simp -implicitDefEqProofs (maxSteps := 1000000) (disch := (first | omega | (simp only [go_sem] <;> omega) | fail)) only [go_sem, ints, bools, mat] <;> rfl) | rfl) (by first | (simp -implicitDefEqProofs (maxSteps := 1000000) (disch := (first | omega | (simp only [go_sem] <;> omega) | fail)) only [go_sem, ints, bools, mat] <;> rfl) | rfl) (⟨trivial, fun _ _ h => h, trivial⟩) (by first | (simp -implicitDefEqProofs (maxSteps := 1000000) (disch := (first | omega | (simp only [go_sem] <;> omega) | fail)) only [go_sem, ints, bools, mat] <;> rfl) | rfl) ?_ | refine goOC_of [.r, .g g] (d_slices_IndexFunc_rows ds p g hg hl) (by first | (simp -implicitDefEqProofs (maxSteps := 1000000) (disch := (first | omega | (simp only [go_sem] <;> omega) | fail)) only [go_sem, ints, bools, mat] <;> rfl) | rfl) (by first | (simp -implicitDefEqProofs (maxSteps := 1000000) (disch := (first | omega | (simp only [go_sem] <;> omega) | fail)) only [go_sem, ints, bools, mat] <;> rfl) | rfl) (by first | (simp -implicitDefEqProofs (maxSteps := 1000000) (disch := (first | omega | (simp only [go_sem] <;> omega) | fail)) only [go_sem, ints, bools, mat] <;> rfl) | rfl) (⟨trivial, fun _ _ h => h, trivial⟩) (by first | (simp -implicitDefEqProofs (maxSteps := 1000000) (disch := (first | omega | (simp only [go_sem] <;> omega) | fail)) only [go_sem, ints, bools, mat] <;> rfl) | rfl) ?_
  cases hf : ds.findIdx? p with
  | none =>
    rw [List.findIdx?_eq_none_iff] at hf
    have e : (ds.filter fun x => !p x) = ds := by
      rw [List.filter_eq_self]
      intro x hx; simpa using hf x hx
    repeat' (first | simp -implicitDefEqProofs (maxSteps := 1000000) (disch := (first | omega | (simp only [go_sem] <;> omega) | fail)) only [go_sem, ints, bools, mat] | ((first | apply goIf_b | apply goG_b | apply goTG_b | apply goOG_b) <;> intro h <;> ((try simp only [hnq] at h); (try simp only [h]); (try simp only [hnr] at h))))
    rw [e]
  | some i =>
    obtain ⟨hi, h1, h2⟩ := List.findIdx?_eq_some_iff_getElem.1 hf
    have h1' : p (ds.getD i []) = true := by simpa [hi] using h1
    have h2' : ∀ k, k < i → p (ds.getD k []) = false := fun k hk => by
      have := h2 k hk
      simpa [show k < ds.length by omega] using this
    have e1 : ((ds.take (i + 1)).filter fun x => !p x) = ds.take i := by
      rw [filter_take_succ _ _ hi, thin_first ds p hi h2', h1']; simp
    repeat' (first | simp -implicitDefEqProofs (maxSteps := 1000000) (disch := (first | omega | (simp only [go_sem] <;> omega) | fail)) only [go_sem, ints, bools, mat] | ((first | apply goIf_b | apply goG_b | apply goTG_b | apply goOG_b) <;> intro h <;> ((try simp only [hnq] at h); (try simp only [h]); (try simp only [hnr] at h)) <;> (try (exfalso; omega))))
    refine go_loop (fun (q : Nat × List (List Int)) => ⟨[(0, .sl 0 0 ds.length 1), (1, .pfn g), (5, .d (di ((ds.take q.1).filter fun x => !p x).length)), (6, .d (di q.1)), (42, .any)], [some (.dat 1 (q.2.map ints))]⟩) (fun q => i < q.1 ∧ q.1 ≤ ds.length ∧ q.2.length = ds.length ∧ q.2.take ((ds.take q.1).filter fun x => !p x).length = ((ds.take q.1).filter fun x => !p x) ∧ ((ds.take q.1).filter fun x => !p x).length < q.1 ∧ ∀ k, q.1 ≤ k → q.2.getD k [] = ds.getD k []) (fun q => ds.length - q.1) (i + 1, ds) ?_ ?_ ?_
    · simp -implicitDefEqProofs (maxSteps := 1000000) (disch := (first | omega | (simp only [go_sem] <;> omega) | fail)) only [go_sem, ints, bools, mat]
      rw [e1, List.length_take, Nat.min_eq_left (by omega)]; rfl
    · refine ⟨Nat.lt_succ_self _, hi, rfl, ?_, ?_, fun k _ => rfl⟩
      · rw [e1, List.length_take, Nat.min_eq_left (by omega)]
      · rw [e1, List.length_take]; omega
    · rintro ⟨j, X⟩ ⟨g1, g2, g3, g4, g5, g6⟩ J hJ
      dsimp only at g1 g2 g3 g4 g5 g6 ⊢
      have hgj := fun h : j < ds.length => g6 j (Nat.le_refl _)
      repeat' (first | simp -implicitDefEqProofs (maxSteps := 1000000) (disch := (first | omega | (simp only [go_sem] <;> omega) | fail)) only [go_sem, ints, bools, mat] | ((first | apply goIf_b | apply goG_b | apply goTG_b | apply goOG_b) <;> intro h <;> ((try simp only [hnq] at h); (try simp only [h]); (try simp only [hnr] at h))))
      · have hj : j < ds.length := by omega
        rw [hgj hj]
        have hfs := filter_take_succ ds (fun x => !p x) hj
        refine goV_pfn [ints (ds.getD j [])] (.bool (p (ds.getD j []))) (by simp -implicitDefEqProofs (maxSteps := 1000000) (disch := (first | omega | (simp only [go_sem] <;> omega) | fail)) only [go_sem, ints, bools, mat]) rfl (hg j hj) ?_
        repeat' (first | simp -implicitDefEqProofs (maxSteps := 1000000) (disch := (first | omega | (simp only [go_sem] <;> omega) | fail)) only [go_sem, ints, bools, mat] | ((first | apply goIf_b | apply goG_b | apply goTG_b | apply goOG_b) <;> intro h <;> ((try simp only [hnq] at h); (try simp only [h]); (try simp only [hnr] at h))))
        · rw [h] at hfs
          refine hJ (j + 1, X) ⟨by omega, by omega, g3, ?_, ?_, fun k hk => g6 k (by dsimp only at hk; omega)⟩ (by dsimp only; omega) _ ?_
          · dsimp only; rw [hfs]; simpa using g4
          · dsimp only; rw [hfs]; simp; omega
          · simp -implicitDefEqProofs (maxSteps := 1000000) (disch := (first | omega | (simp only [go_sem] <;> omega) | fail)) only [go_sem, ints, bools, mat]
            rw [hfs]; simp
        · rw [h] at hfs
          refine hJ (j + 1, X.set ((ds.take j).filter fun x => !p x).length (ds.getD j [])) ⟨by omega, by omega, by simpa using g3, ?_, ?_, fun k hk => ?_⟩ (by dsimp only; omega) _ ?_
          · dsimp only; rw [hfs]; simp only [Bool.not_false, if_true, List.length_append, List.length_singleton]; rw [take_setR X _ (by omega), g4]
          · dsimp only; rw [hfs]; simp; omega
          · dsimp only at hk ⊢
            rw [getD_setR _ _ _ _ (by omega), if_neg (by omega)]; exact g6 k (by omega)
          · simp -implicitDefEqProofs (maxSteps := 1000000) (disch := (first | omega | (simp only [go_sem] <;> omega) | fail)) only [go_sem, ints, bools, mat]
            rw [hfs, ← map_setR]; simp [ints]
      · have : j = ds.length := by omega
        subst this
        have hfl : (ds.filter fun x => !p x).length ≤ ds.length := List.length_filter_le _ _
        rw [List.take_length] at g4 g5
        repeat' (first | simp -implicitDefEqProofs (maxSteps := 1000000) (disch := (first | omega | (simp only [go_sem] <;> omega) | fail)) only [go_sem, ints, bools, mat, clrM, leaS_part] | ((first | apply goIf_b | apply goG_b | apply goTG_b | apply goOG_b) <;> intro h <;> ((try simp only [hnq] at h); (try simp only [h]); (try simp only [hnr] at h)) <;> (try (exfalso; omega))))
        rw [List.take_append_of_le_length (by simp; omega), List.take_append_of_le_length (by simp; omega)]
        rw [List.take_take, Nat.min_self, ← List.map_take, g4]
def nxR (l : List Int) (j : Nat) : List (List Int) := (List.range j).map fun (d : Nat) => l ++ [(d : Int)]
theorem nxR_succ (l : List Int) (j : Nat) : nxR l (j + 1) = nxR l j ++ [l ++ [(j : Int)]] := by simp [nxR, List.range_succ]
@[go_sem] theorem nxR_len (l : List Int) (j : Nat) : (nxR l j).length = j := by simp [nxR]
def nxT (q : Nat) (ls : List (List Int)) (i : Nat) : List (List Int) := (ls.take i).flatMap fun l => nxR l q
theorem nxT_succ (q : Nat) (ls : List (List Int)) {i : Nat} (h : i < ls.length) : nxT q ls (i + 1) = nxT q ls i ++ nxR (ls.getD i []) q := by
  rw [nxT, List.take_add_one, List.flatMap_append]
  simp [h, nxT]
theorem nxT_len (q : Nat) (ls : List (List Int)) : ∀ i, i ≤ ls.length → (nxT q ls i).length = i * q
  | 0, _ => by simp [nxT]
  | i + 1, h => by rw [nxT_succ q ls (by omega), List.length_append, nxT_len q ls i (by omega), nxR_len, Nat.add_mul, Nat.one_mul]
def rowsN (q : Nat) : Nat → List (List Int)
  | 0 => [[]]
  | k + 1 => nxT q (rowsN q k) (rowsN q k).length
theorem rowsN_len {q : Nat} (hq : q = 2 ∨ q = 3) {k : Nat} (hk : k ≤ 3) : 1 ≤ (rowsN q k).length ∧ (rowsN q k).length ≤ 27 := by
  rcases hq with rfl | rfl
  · rcases k with _ | _ | _ | _ | k
    iterate 4 decide
    omega
  · rcases k with _ | _ | _ | _ | k
    iterate 4 decide
    omega
theorem rowsN_row {q : Nat} (hq : q = 2 ∨ q = 3) {k : Nat} (hk : k ≤ 3) : ∀ x, x ∈ rowsN q k → x.length ≤ 3 := by
  rcases hq with rfl | rfl
  · rcases k with _ | _ | _ | _ | k
    iterate 4 decide
    omega
  · rcases k with _ | _ | _ | _ | k
    iterate 4 decide
    omega
def badR (l : List Int) : Bool := match l.findIdx? fun d => d != 0 with | some j => l.getD j 0 != 1 | none => true
def colN (q m : Nat) : List (List Int) := (rowsN q m).filter fun x => !badR x
theorem d_impl_columnsFor_1_1 (d : Int) : Den PA f_impl_columnsFor_1_1 [.d (di d)] [.any] (.d (db (d != 0))) := by
  refine den_go [] l_impl_columnsFor_1_1 ?_
  repeat' (first | simp -implicitDefEqProofs (maxSteps := 1000000) (disch := (first | omega | (simp only [go_sem] <;> omega) | fail)) only [go_sem, ints, bools, mat, c_impl_columnsFor_1_1] | ((first | apply goIf_b | apply goG_b | apply goTG_b | apply goOG_b) <;> intro h <;> ((try simp only [hnq] at h); (try simp only [h]); (try simp only [hnr] at h))))
theorem d_impl_columnsFor_1 (x : List Int) (hx : x.length ≤ 3) : Den PA f_impl_columnsFor_1 [.d (ints x)] [.any] (.d (db (badR x))) := by
  refine den_go [] l_impl_columnsFor_1 ?_
  repeat' (first | simp -implicitDefEqProofs (maxSteps := 1000000) (disch := (first | omega | (simp only [go_sem] <;> omega) | fail)) only [go_sem, ints, bools, mat, c_impl_columnsFor_1] | ((first | apply goIf_b | apply goG_b | apply goTG_b | apply goOG_b) <;> intro h <;> ((try simp only [hnq] at h); (try simp only [h]); (try simp only [hnr] at h))))
  first | refine goC_call [.r, .g (fn1 fun d => d != 0)] (d_slices_IndexFunc x (fun d => d != 0) _ (fn1_mk _) (by omega)) ?_ | refine goOC_call [.r, .g (fn1 fun d => d != 0)] (d_slices_IndexFunc x (fun d => d != 0) _ (fn1_mk _) (by omega)) ?_
  repeat' (first | simp -implicitDefEqProofs (maxSteps := 1000000) (disch := (first | omega | (simp only [go_sem] <;> omega) | fail)) only [go_sem, ints, bools, mat] | ((first | apply goIf_b | apply goG_b | apply goTG_b | apply goOG_b) <;> intro h <;> ((try simp only [hnq] at h); (try simp only [h]); (try simp only [hnr] at h))))
  refine chk_intro (fnOK_mk (d_impl_columnsFor_1_1 0).1 [] rfl fun ds r hg => ?_) ?_
  · obtain ⟨n, rfl, rfl⟩ := hg
    exact ⟨_, d_impl_columnsFor_1_1 n⟩
  cases hf : x.findIdx? fun d => d != 0 with
  | none =>
    repeat' (first | simp -implicitDefEqProofs (maxSteps := 1000000) (disch := (first | omega | (simp only [go_sem] <;> omega) | fail)) only [go_sem, ints, bools, mat] | ((first | apply goIf_b | apply goG_b | apply goTG_b | apply goOG_b) <;> intro h <;> ((try simp only [hnq] at h); (try simp only [h]); (try simp only [hnr] at h)) <;> (try (exfalso; omega))))
    simp [badR, hf]
  | some i =>
    obtain ⟨hi, h1, h2⟩ := List.findIdx?_eq_some_iff_getElem.1 hf
    repeat' (first | simp -implicitDefEqProofs (maxSteps := 1000000) (disch := (first | omega | (simp only [go_sem] <;> omega) | fail)) only [go_sem, ints, bools, mat] | ((first | apply goIf_b | apply goG_b | apply goTG_b | apply goOG_b) <;> intro h <;> ((try simp only [hnq] at h); (try simp only [h]); (try simp only [hnr] at h)) <;> (try (exfalso; omega))))
    simp [badR, hf]
def fnL (q : List Int → Prop) (p : List Int → Bool) : List D → Value → Prop := fun ds r => ∃ n, q n ∧ ds = [ints n] ∧ r = .bool (p n)
theorem d_impl_columnsFor33 : Den PA f_impl_columnsFor [.d (di 3), .d (di 3)] [.any, .any] (.own 1 ((colN 3 3).map ints)) := by
  have hq : (3 : Nat) = 2 ∨ (3 : Nat) = 3 := .inr rfl
  refine den_go [] l_impl_columnsFor ?_
  repeat' (first | simp -implicitDefEqProofs (maxSteps := 1000000) (disch := (first | omega | (simp only [go_sem] <;> omega) | fail)) only [go_sem, ints, bools, mat, c_impl_columnsFor] | ((first | apply goIf_b | apply goG_b | apply goTG_b | apply goOG_b) <;> intro h <;> ((try simp only [hnq] at h); (try simp only [h]); (try simp only [hnr] at h))))
  refine go_loop (fun (k : Nat) => ⟨[(0, .d (di 3)), (5, .sl 0 0 (rowsN 3 k).length 1), (12, .d (di 3)), (13, .d (di k))], [some (.dat 1 ((rowsN 3 k).map ints))]⟩) (fun k => k ≤ 3) (fun k => 3 - k) 0 ?_ ?_ ?_
  · (simp -implicitDefEqProofs (maxSteps := 1000000) (disch := (first | omega | (simp only [go_sem] <;> omega) | fail)) only [go_sem, ints, bools, mat] <;> rfl)
  · exact Nat.zero_le _
  · rintro k hk J hJ
    have hrl := rowsN_len hq (k := k) (by omega)
    have hrr := rowsN_row hq (k := k) (by omega)
    repeat' (first | simp -implicitDefEqProofs (maxSteps := 1000000) (disch := (first | omega | (simp only [go_sem] <;> omega) | fail)) only [go_sem, ints, bools, mat] | ((first | apply goIf_b | apply goG_b | apply goTG_b | apply goOG_b) <;> intro h <;> ((try simp only [hnq] at h); (try simp only [h]); (try simp only [hnr] at h)) <;> (try (exfalso; omega))))
    · refine go_loop (fun (i : Nat) => ⟨[(0, .d (di 3)), (6, .sl 0 0 (nxT 3 (rowsN 3 k) i).length 1), (12, .d (di 3)), (13, .d (di k)), (16, .sl 1 0 (rowsN 3 k).length 1), (17, .d (di (rowsN 3 k).length)), (18, .d (di i))], [some (.dat 1 ((nxT 3 (rowsN 3 k) i).map ints)), some (.dat 1 ((rowsN 3 k).map ints))]⟩) (fun i => i ≤ (rowsN 3 k).length) (fun i => (rowsN 3 k).length - i) 0 ?_ ?_ ?_
      · (simp -implicitDefEqProofs (maxSteps := 1000000) (disch := (first | omega | (simp only [go_sem] <;> omega) | fail)) only [go_sem, ints, bools, mat] <;> rfl)
      · exact Nat.zero_le _
      · rintro i hi J2 hJ2
        have htl := nxT_len 3 (rowsN 3 k) i hi
        have htb : i * 3 ≤ 27 * 3 := Nat.mul_le_mul (by omega) (by omega)
        repeat' (first | simp -implicitDefEqProofs (maxSteps := 1000000) (disch := (first | omega | (simp only [go_sem] <;> omega) | fail)) only [go_sem, ints, bools, mat] | ((first | apply goIf_b | apply goG_b | apply goTG_b | apply goOG_b) <;> intro h <;> ((try simp only [hnq] at h); (try simp only [h]); (try simp only [hnr] at h)) <;> (try (exfalso; omega))))
        · have hi' : i < (rowsN 3 k).length := by omega
          have hgl := hrr _ (show (rowsN 3 k).getD i [] ∈ rowsN 3 k by simp [hi'])
          refine go_loop (fun (j : Nat) => ⟨[(0, .d (di 3)), (6, .sl 0 0 ((nxT 3 (rowsN 3 k) i).length + j) 1), (8, .d (ints ((rowsN 3 k).getD i []))), (12, .d (di 3)), (13, .d (di k)), (16, .sl 1 0 (rowsN 3 k).length 1), (17, .d (di (rowsN 3 k).length)), (18, .d (di i)), (22, .d (di 3)), (23, .d (di j))], [some (.dat 1 ((nxT 3 (rowsN 3 k) i ++ nxR ((rowsN 3 k).getD i []) j).map ints)), some (.dat 1 ((rowsN 3 k).map ints))]⟩) (fun j => j ≤ 3) (fun j => 3 - j) 0 ?_ ?_ ?_
          · simp -implicitDefEqProofs (maxSteps := 1000000) (disch := (first | omega | (simp only [go_sem] <;> omega) | fail)) only [go_sem, ints, bools, mat]
            simp [nxR, ints]
          · exact Nat.zero_le _
          · rintro j hj J3 hJ3
            repeat' (first | simp -implicitDefEqProofs (maxSteps := 1000000) (disch := (first | omega | (simp only [go_sem] <;> omega) | fail)) only [go_sem, ints, bools, mat] | ((first | apply goIf_b | apply goG_b | apply goTG_b | apply goOG_b) <;> intro h <;> ((try simp only [hnq] at h); (try simp only [h]); (try simp only [hnr] at h)) <;> (try (exfalso; omega))))
            · first | refine goC_call [.r] (d_slices_Clone_ints ((rowsN 3 k).getD i []) (by omega)) ?_ | refine goOC_call [.r] (d_slices_Clone_ints ((rowsN 3 k).getD i []) (by omega)) ?_
              repeat' (first | simp -implicitDefEqProofs (maxSteps := 1000000) (disch := (first | omega | (simp only [go_sem] <;> omega) | fail)) only [go_sem, ints, bools, mat] | ((first | apply goIf_b | apply goG_b | apply goTG_b | apply goOG_b) <;> intro h <;> ((try simp only [hnq] at h); (try simp only [h]); (try simp only [hnr] at h)) <;> (try (exfalso; omega))))
              refine hJ3 (j + 1) (by omega) (by omega) _ ?_
              simp -implicitDefEqProofs (maxSteps := 1000000) (disch := (first | omega | (simp only [go_sem] <;> omega) | fail)) only [go_sem, ints, bools, mat]
              rw [nxR_succ]
              simp [ints, Nat.add_assoc]
            · have : j = 3 := by omega
              subst this
              repeat' (first | simp -implicitDefEqProofs (maxSteps := 1000000) (disch := (first | omega | (simp only [go_sem] <;> omega) | fail)) only [go_sem, ints, bools, mat] | ((first | apply goIf_b | apply goG_b | apply goTG_b | apply goOG_b) <;> intro h <;> ((try simp only [hnq] at h); (try simp only [h]); (try simp only [hnr] at h)) <;> (try (exfalso; omega))))
              refine hJ2 (i + 1) (by omega) (by omega) _ ?_
              simp -implicitDefEqProofs (maxSteps := 1000000) (disch := (first | omega | (simp only [go_sem] <;> omega) | fail)) only [go_sem, ints, bools, mat]
              rw [nxT_succ 3 (rowsN 3 k) hi', List.length_append, nxR_len]; rfl
        · have : i = (rowsN 3 k).length := by omega
          subst this
          repeat' (first | simp -implicitDefEqProofs (maxSteps := 1000000) (disch := (first | omega | (simp only [go_sem] <;> omega) | fail)) only [go_sem, ints, bools, mat] | ((first | apply goIf_b | apply goG_b | apply goTG_b | apply goOG_b) <;> intro h <;> ((try simp only [hnq] at h); (try simp only [h]); (try simp only [hnr] at h)) <;> (try (exfalso; omega))))
          refine hJ (k + 1) (by omega) (by omega) _ ?_
          simp -implicitDefEqProofs (maxSteps := 1000000) (disch := (first | omega | (simp only [go_sem] <;> omega) | fail)) only [go_sem, ints, bools, mat]
          rfl
    · have : k = 3 := by omega
      subst this
      first | refine goC_call [.o, .g (fnL (fun x => x.length ≤ 3) badR)] (d_slices_DeleteFunc_rows (rowsN 3 3) badR (fnL (fun x => x.length ≤ 3) badR) (fun i hi => ⟨_, hrr _ (by simp [hi]), rfl, rfl⟩) (by omega)) ?_ | refine goOC_call [.o, .g (fnL (fun x => x.length ≤ 3) badR)] (d_slices_DeleteFunc_rows (rowsN 3 3) badR (fnL (fun x => x.length ≤ 3) badR) (fun i hi => ⟨_, hrr _ (by simp [hi]), rfl, rfl⟩) (by omega)) ?_
      repeat' (first | simp -implicitDefEqProofs (maxSteps := 1000000) (disch := (first | omega | (simp only [go_sem] <;> omega) | fail)) only [go_sem, ints, bools, mat] | ((first | apply goIf_b | apply goG_b | apply goTG_b | apply goOG_b) <;> intro h <;> ((try simp only [hnq] at h); (try simp only [h]); (try simp only [hnr] at h)) <;> (try (exfalso; omega))))
      refine chk_intro (fnOK_mk (d_impl_columnsFor_1 [] (by simp)).1 [] rfl fun ds r hg => ?_) ?_
      · obtain ⟨n, hn, rfl, rfl⟩ := hg
        exact ⟨_, d_impl_columnsFor_1 n hn⟩
      repeat' (first | simp -implicitDefEqProofs (maxSteps := 1000000) (disch := (first | omega | (simp only [go_sem] <;> omega) | fail)) only [go_sem, ints, bools, mat] | ((first | apply goIf_b | apply goG_b | apply goTG_b | apply goOG_b) <;> intro h <;> ((try simp only [hnq] at h); (try simp only [h]); (try simp only [hnr] at h)) <;> (try (exfalso; omega))))
      rfl
def pwN (q : Nat) : Nat → Nat
  | 0 => 1
  | k + 1 => pwN q k * q
theorem pwN_bnd {q : Nat} (hq : q = 2 ∨ q = 3) {k : Nat} (hk : k ≤ 3) : 1 ≤ pwN q k ∧ pwN q k ≤ 27 := by
  rcases hq with rfl | rfl
  · rcases k with _ | _ | _ | _ | k
    iterate 4 decide
    omega
  · rcases k with _ | _ | _ | _ | k
    iterate 4 decide
    omega
def cdN (q : Int) (m : Nat) (n : Int) : Nat → List Int × Int × Int
  | 0 => (List.replicate m 0, n, 0)
  | j + 1 => let s := cdN q m n j; (s.1.set (m - 1 - j) (s.2.1 % q), s.2.1 / q, if s.2.1 % q = 0 then s.2.2 else s.2.1 % q)
theorem cdN_len (q : Int) (m : Nat) (n : Int) : ∀ j, (cdN q m n j).1.length = m
  | 0 => by simp [cdN]
  | j + 1 => by simp [cdN, cdN_len q m n j]
theorem cdN_bnd {q : Int} (hq : 2 ≤ q ∧ q ≤ 3) (m : Nat) {n : Int} (hn : 0 ≤ n ∧ n < 27) : ∀ j, 0 ≤ (cdN q m n j).2.1 ∧ (cdN q m n j).2.1 < 27
  | 0 => by simp [cdN]; omega
  | j + 1 => by
    have h := cdN_bnd hq m hn j
    have := div_le_self h.1 (show 1 ≤ q by omega)
    simp only [cdN]; omega
def scN (q m n : Nat) : List (List Int) := (((List.range n).map fun (i : Nat) => cdN q m i m).filter fun s => s.2.2 == 1).map fun s => s.1
theorem scN_succ (q m n : Nat) : scN q m (n + 1) = scN q m n ++ (if (cdN q m n m).2.2 = 1 then [(cdN q m n m).1] else []) := by
  unfold scN
  rw [List.range_succ, List.map_append, List.filter_append, List.map_append]
  by_cases h : (cdN q m n m).2.2 = 1 <;> simp [h]
theorem scN_len (q m n : Nat) : (scN q m n).length ≤ n := by
  unfold scN
  rw [List.length_map]
  exact Nat.le_trans (List.length_filter_le _ _) (by simp)
theorem cdN_zero (q : Int) (m : Nat) : ∀ j, (cdN q m 0 j).2 = (0, 0)
  | 0 => rfl
  | j + 1 => by
    have := cdN_zero q m j
    have h1 : (cdN q m 0 j).2.1 = 0 := by rw [this]
    have h2 : (cdN q m 0 j).2.2 = 0 := by rw [this]
    simp [cdN, h1, h2]
theorem scN_one (q m : Nat) : scN q m 1 = [] := by
  rw [scN_succ, if_neg]; rfl
  rw [show ((0 : Nat) : Int) = 0 from rfl, cdN_zero]; decide
theorem d_spec_l06Columns (q m : Nat) (hq : q = 2 ∨ q = 3) (hm : 1 ≤ m ∧ m ≤ 3) : Den PA f_spec_l06Columns [.d (di q), .d (di m)] [.any, .any] (.own 1 ((scN q m (pwN q m)).map ints)) := by
  refine den_go [] l_spec_l06Columns ?_
  repeat' (first | simp -implicitDefEqProofs (maxSteps := 1000000) (disch := (first | omega | (simp only [go_sem] <;> omega) | fail)) only [go_sem, ints, bools, mat, c_spec_l06Columns] | ((first | apply goIf_b | apply goG_b | apply goTG_b | apply goOG_b) <;> intro h <;> ((try simp only [hnq] at h); (try simp only [h]); (try simp only [hnr] at h))))
  refine go_loop (fun (k : Nat) => ⟨[(0, .d (di q)), (1, .d (di m)), (5, .sl 0 0 0 1), (6, .d (di (pwN q k))), (7, .d (di k))], [some (.dat 1 [])]⟩) (fun k => k ≤ m) (fun k => m - k) 0 ?_ ?_ ?_
  · (simp -implicitDefEqProofs (maxSteps := 1000000) (disch := (first | omega | (simp only [go_sem] <;> omega) | fail)) only [go_sem, ints, bools, mat] <;> rfl)
  · exact Nat.zero_le _
  · rintro k hk J hJ
    have hpw := pwN_bnd hq (k := k) (by omega)
    have hpw1 := fun hh : k < m => pwN_bnd hq (k := k + 1) (by omega)
    have hpe : pwN q (k + 1) = pwN q k * q := rfl
    have hpi : ((pwN q (k + 1) : Nat) : Int) = (pwN q k : Int) * q := by rw [hpe]; simp
    rw [← hpe] at *
    repeat' (first | simp -implicitDefEqProofs (maxSteps := 1000000) (disch := (first | omega | (simp only [go_sem] <;> omega) | fail)) only [go_sem, ints, bools, mat] | ((first | apply goIf_b | apply goG_b | apply goTG_b | apply goOG_b) <;> intro h <;> ((try simp only [hnq] at h); (try simp only [h]); (try simp only [hnr] at h)) <;> (try (exfalso; omega))))
    · refine hJ (k + 1) (by omega) (by omega) _ ?_
      simp -implicitDefEqProofs (maxSteps := 1000000) (disch := (first | omega | (simp only [go_sem] <;> omega) | fail)) only [go_sem, ints, bools, mat]
      rw [hpi]; rfl
    · have : k = m := by omega
      subst this
      repeat' (first | simp -implicitDefEqProofs (maxSteps := 1000000) (disch := (first | omega | (simp only [go_sem] <;> omega) | fail)) only [go_sem, ints, bools, mat] | ((first | apply goIf_b | apply goG_b | apply goTG_b | apply goOG_b) <;> intro h <;> ((try simp only [hnq] at h); (try simp only [h]); (try simp only [hnr] at h)) <;> (try (exfalso; omega))))
      refine go_loop (fun (n : Nat) => ⟨[(0, .d (di q)), (1, .d (di k)), (5, .sl 0 0 (scN q k n).length 1), (6, .d (di (pwN q k))), (8, .d (di n))], [some (.dat 1 ((scN q k n).map ints))]⟩) (fun n => 1 ≤ n ∧ n ≤ pwN q k) (fun n => pwN q k - n) 1 ?_ ?_ ?_
      · simp -implicitDefEqProofs (maxSteps := 1000000) (disch := (first | omega | (simp only [go_sem] <;> omega) | fail)) only [go_sem, ints, bools, mat]
        rw [scN_one]; rfl
      · exact ⟨Nat.le_refl _, hpw.1⟩
      · rintro n ⟨hn1, hn2⟩ J2 hJ2
        have hsl := scN_len q k n
        repeat' (first | simp -implicitDefEqProofs (maxSteps := 1000000) (disch := (first | omega | (simp only [go_sem] <;> omega) | fail)) only [go_sem, ints, bools, mat] | ((first | apply goIf_b | apply goG_b | apply goTG_b | apply goOG_b) <;> intro h <;> ((try simp only [hnq] at h); (try simp only [h]); (try simp only [hnr] at h)) <;> (try (exfalso; omega))))
        · refine go_loop (fun (j : Nat) => ⟨[(0, .d (di q)), (1, .d (di k)), (5, .sl 0 0 (scN q k n).length 1), (6, .d (di (pwN q k))), (8, .d (di n)), (9, .sl 1 0 k 1), (10, .d (di (cdN q k n j).2.1)), (11, .d (di (cdN q k n j).2.2)), (12, .d (di ((k : Int) - 1 - j)))], [some (.dat 1 ((scN q k n).map ints)), some (.dat 1 ((cdN q k n j).1.map di))]⟩) (fun j => j ≤ k) (fun j => k - j) 0 ?_ ?_ ?_
          · simp -implicitDefEqProofs (maxSteps := 1000000) (disch := (first | omega | (simp only [go_sem] <;> omega) | fail)) only [go_sem, ints, bools, mat]
            simp [cdN]
          · exact Nat.zero_le _
          · rintro j hj J3 hJ3
            have hcl := cdN_len q k n j
            have hcb := cdN_bnd (q := q) (by omega) k (n := n) (by omega) j
            have hdb := div_le_self hcb.1 (show (1 : Int) ≤ q by omega)
            have hmb := mod_bnd (x := (cdN q k n j).2.1) (show (2 : Int) ≤ q ∧ (q : Int) ≤ 4 by omega)
            by_cases hjk : j < k
            · have hti : ((k : Int) - 1 - j).toNat = k - 1 - j := by omega
              have hge : ((cdN q k n j).1.set (k - 1 - j) ((cdN q k n j).2.1 % q)).getD (k - 1 - j) 0 = (cdN q k n j).2.1 % q := by rw [getD_set _ _ _ _ (by omega), if_pos rfl]
              have e1 : (cdN q k n (j + 1)).1 = (cdN q k n j).1.set (k - 1 - j) ((cdN q k n j).2.1 % q) := rfl
              have e2 : (cdN q k n (j + 1)).2.1 = (cdN q k n j).2.1 / q := rfl
              have e3 : (cdN q k n (j + 1)).2.2 = if (cdN q k n j).2.1 % q = 0 then (cdN q k n j).2.2 else (cdN q k n j).2.1 % q := rfl
              repeat' (first | simp -implicitDefEqProofs (maxSteps := 1000000) (disch := (first | omega | (simp only [go_sem] <;> omega) | fail)) only [go_sem, ints, bools, mat] | ((first | apply goIf_b | apply goG_b | apply goTG_b | apply goOG_b) <;> intro h <;> ((try simp only [hnq] at h); (try simp only [h]); (try simp only [hnr] at h)) <;> (try (exfalso; omega))))
              · rw [hti] at *
                rw [hge] at *
                refine hJ3 (j + 1) (by omega) (by omega) _ ?_
                rw [e1, e2, e3, if_neg h]
                simp -implicitDefEqProofs (maxSteps := 1000000) (disch := (first | omega | (simp only [go_sem] <;> omega) | fail)) only [go_sem, ints, bools, mat]
                simp; omega
              · rw [hti] at *
                rw [hge] at *
                refine hJ3 (j + 1) (by omega) (by omega) _ ?_
                rw [e1, e2, e3, if_pos h]
                simp -implicitDefEqProofs (maxSteps := 1000000) (disch := (first | omega | (simp only [go_sem] <;> omega) | fail)) only [go_sem, ints, bools, mat]
                simp; omega
            · have : j = k := by omega
              subst this
              repeat' (first | simp -implicitDefEqProofs (maxSteps := 1000000) (disch := (first | omega | (simp only [go_sem] <;> omega) | fail)) only [go_sem, ints, bools, mat] | ((first | apply goIf_b | apply goG_b | apply goTG_b | apply goOG_b) <;> intro h <;> ((try simp only [hnq] at h); (try simp only [h]); (try simp only [hnr] at h)) <;> (try (exfalso; omega))))
              · refine hJ2 (n + 1) ⟨by omega, by omega⟩ (by omega) _ ?_
                simp -implicitDefEqProofs (maxSteps := 1000000) (disch := (first | omega | (simp only [go_sem] <;> omega) | fail)) only [go_sem, ints, bools, mat]
                rw [scN_succ, if_pos h]; simp
              · refine hJ2 (n + 1) ⟨by omega, by omega⟩ (by omega) _ ?_
                simp -implicitDefEqProofs (maxSteps := 1000000) (disch := (first | omega | (simp only [go_sem] <;> omega) | fail)) only [go_sem, ints, bools, mat]
                rw [scN_succ, if_neg h]; simp
        · have : n = pwN q k := by omega
          rw [this]
theorem col_sc {q m : Nat} (hq : q = 2 ∨ q = 3) (hm : 1 ≤ m ∧ m ≤ 3) : scN q m (pwN q m) = colN q m := by
  have : m = 1 ∨ m = 2 ∨ m = 3 := by omega
  rcases hq with rfl | rfl <;> rcases this with rfl | rfl | rfl <;> decide
theorem d_spec_l06Cols (q m : Nat) (hq : q = 2 ∨ q = 3) (hm : 1 ≤ m ∧ m ≤ 3) : Den PA f_spec_l06Columns [.d (di q), .d (di m)] [.any, .any] (.own 1 ((colN q m).map ints)) := by
  rw [← col_sc hq hm]; exact d_spec_l06Columns q m hq hm
theorem flat_n0 : flat [] = [] := rfl
theorem d_IndexFunc_21 (g : List D → Value → Prop) (hg : ∀ l : List Int, l.length ≤ 3 → g [ints l] (.bool (badR l))) : Den PA f_slices_IndexFunc_____int64___int64_ [.ownm [.own 1 ([0].map di), .own 1 ([1].map di)], .pfn g] [.ownm [.own 1 ([0].map di), .own 1 ([1].map di)], .any] (.d (di 0)) := by
  refine den_go [0] l_slices_IndexFunc_____int64___int64_ ?_
  repeat' (first | simp -implicitDefEqProofs (maxSteps := 1000000) (disch := (first | omega | (simp only [go_sem] <;> omega) | fail)) only [go_sem, ints, bools, mat, c_slices_IndexFunc_____int64___int64_] | ((first | apply goIf_b | apply goG_b | apply goTG_b | apply goOG_b) <;> intro h <;> ((try simp only [hnq] at h); (try simp only [h]); (try simp only [hnr] at h)) <;> (try (exfalso; omega))))
  refine go_loop (fun (_ : Unit) => ⟨[(0, .sl 0 0 2 1), (1, .pfn g), (7, .d (di ((2 : Nat) : Int))), (8, .d (di 0)), (19, .sl 0 0 2 1)], [some (.mix [.sl 1 0 1 1, .sl 2 0 1 1]), some (.dat 1 [di 0]), some (.dat 1 [di 1])]⟩) (fun _ => True) (fun _ => 0) () ?_ trivial ?_
  · simp -implicitDefEqProofs (maxSteps := 1000000) (disch := (first | omega | (simp only [go_sem] <;> omega) | fail)) only [go_sem, ints, bools, mat]
    all_goals rfl
  · intro _ _ J _
    repeat' (first | simp -implicitDefEqProofs (maxSteps := 1000000) (disch := (first | omega | (simp only [go_sem] <;> omega) | fail)) only [go_sem, ints, bools, mat] | ((first | apply goIf_b | apply goG_b | apply goTG_b | apply goOG_b) <;> intro h <;> ((try simp only [hnq] at h); (try simp only [h]); (try simp only [hnr] at h)) <;> (try (exfalso; omega))))
    refine goV_pfn [ints [0]] (.bool true) (by simp -implicitDefEqProofs (maxSteps := 1000000) (disch := (first | omega | (simp only [go_sem] <;> omega) | fail)) only [go_sem, ints, bools, mat]) rfl (hg [0] (by decide)) ?_
    repeat' (first | simp -implicitDefEqProofs (maxSteps := 1000000) (disch := (first | omega | (simp only [go_sem] <;> omega) | fail)) only [go_sem, ints, bools, mat] | ((first | apply goIf_b | apply goG_b | apply goTG_b | apply goOG_b) <;> intro h <;> ((try simp only [hnq] at h); (try simp only [h]); (try simp only [hnr] at h)) <;> (try (exfalso; omega))))
theorem d_DeleteFunc_21 (g : List D → Value → Prop) (hg : ∀ l : List Int, l.length ≤ 3 → g [ints l] (.bool (badR l))) : Den PA f_slices_DeleteFunc_____int64___int64_ [.ownm [.own 1 ([0].map di), .own 1 ([1].map di)], .pfn g] [.any, .any] (.ownm [.own 1 ([1].map di)]) := by
  refine den_go [] l_slices_DeleteFunc_____int64___int64_ ?_
  repeat' (first | simp -implicitDefEqProofs (maxSteps := 1000000) (disch := (first | omega | (simp only [go_sem] <;> omega) | fail)) only [go_sem, ints, bools, mat, c_slices_DeleteFunc_____int64___int64_] | ((first | apply goIf_b | apply goG_b | apply goTG_b | apply goOG_b) <;> intro h <;> ((try simp only [hnq] at h); (try simp only [h]); (try simp only [hnr] at h)) <;> (try (exfalso; omega))))
  first | refine goC_of [.o, .g g] (d_IndexFunc_21 g hg) (by first | (simp -implicitDefEqProofs (maxSteps := 1000000) (disch := (first | omega | (simp only [go_sem] <;> omega) | fail)) only [go_sem, ints, bools, mat] <;> rfl) | rfl) (by first | (simp -implicitDefEqProofs (maxSteps := 1000000) (disch := (first | omega | (simp only [go_sem] <;> omega) | fail)) only [go_sem, ints, bools, mat] <;> rfl) | rfl) (⟨trivial, fun _ _ h => h, trivial⟩) (by first | (simp -implicitDefEqProofs (maxSteps := 1000000) (disch := (first | omega | (simp only [go_sem] <;> omega) | fail)) only [go_sem, ints, bools, mat] <;> rfl) | rfl) ?_ | refine goOC_of [.o, .g g] (d_IndexFunc_21 g hg) (by first | (simp -implicitDefEqProofs (maxSteps := 1000000) (disch := (first | omega | (simp only [go_sem] <;> omega) | fail)) only [go_sem, ints, bools, mat] <;> rfl) | rfl) (by first | (simp -implicitDefEqProofs (maxSteps := 1000000) (disch := (first | omega | (simp only [go_sem] <;> omega) | fail)) only [go_sem, ints, bools, mat] <;> rfl) | rfl) (by first | (simp -implicitDefEqProofs (maxSteps := 1000000) (disch := (first | omega | (simp only [go_sem] <;> omega) | fail)) only [go_sem, ints, bools, mat] <;> rfl) | rfl) (⟨trivial, fun _ _ h => h, trivial⟩) (by first | (simp -implicitDefEqProofs (maxSteps := 1000000) (disch := (first | omega | (simp only [go_sem] <;> omega) | fail)) only [go_sem, ints, bools, mat] <;> rfl) | rfl) ?_
  repeat' (first | simp -implicitDefEqProofs (maxSteps := 1000000) (disch := (first | omega | (simp only [go_sem] <;> omega) | fail)) only [go_sem, ints, bools, mat] | ((first | apply goIf_b | apply goG_b | apply goTG_b | apply goOG_b) <;> intro h <;> ((try simp only [hnq] at h); (try simp only [h]); (try simp only [hnr] at h)) <;> (try (exfalso; omega))))
  refine go_loop (fun (i : Nat) => match i with | 0 => ⟨[(0, .sl 0 0 2 1), (1, .pfn g), (5, .d (di ((0 : Nat) : Int))), (6, .d (di ((1 : Nat) : Int))), (42, .any)], [some (.mix [.sl 1 0 1 1, .sl 2 0 1 1]), some (.dat 1 [di 0]), some (.dat 1 [di 1])]⟩ | _ => ⟨[(0, .sl 0 0 2 1), (1, .pfn g), (5, .d (di ((1 : Nat) : Int))), (6, .d (di ((2 : Nat) : Int))), (42, .any)], [some (.mix [.sl 1 0 1 1, .sl 1 0 1 1]), some (.dat 1 [di 1])]⟩) (fun i => i ≤ 1) (fun i => 1 - i) 0 ?_ ?_ ?_
  · simp -implicitDefEqProofs (maxSteps := 1000000) (disch := (first | omega | (simp only [go_sem] <;> omega) | fail)) only [go_sem, ints, bools, mat]
    all_goals rfl
  · exact Nat.zero_le _
  · rintro i hi J hJ
    rcases i with _ | _ | i
    · repeat' (first | simp -implicitDefEqProofs (maxSteps := 1000000) (disch := (first | omega | (simp only [go_sem] <;> omega) | fail)) only [go_sem, ints, bools, mat] | ((first | apply goIf_b | apply goG_b | apply goTG_b | apply goOG_b) <;> intro h <;> ((try simp only [hnq] at h); (try simp only [h]); (try simp only [hnr] at h)) <;> (try (exfalso; omega))))
      refine goV_pfn [ints [1]] (.bool false) (by simp -implicitDefEqProofs (maxSteps := 1000000) (disch := (first | omega | (simp only [go_sem] <;> omega) | fail)) only [go_sem, ints, bools, mat]) rfl (hg [1] (by decide)) ?_
      repeat' (first | simp -implicitDefEqProofs (maxSteps := 1000000) (disch := (first | omega | (simp only [go_sem] <;> omega) | fail)) only [go_sem, ints, bools, mat] | ((first | apply goIf_b | apply goG_b | apply goTG_b | apply goOG_b) <;> intro h <;> ((try simp only [hnq] at h); (try simp only [h]); (try simp only [hnr] at h)) <;> (try (exfalso; omega))))
      refine hJ 1 (by omega) (by omega) _ (by (simp -implicitDefEqProofs (maxSteps := 1000000) (disch := (first | omega | (simp only [go_sem] <;> omega) | fail)) only [go_sem, ints, bools, mat] <;> rfl))
    · repeat' (first | simp -implicitDefEqProofs (maxSteps := 1000000) (disch := (first | omega | (simp only [go_sem] <;> omega) | fail)) only [go_sem, ints, bools, mat, clrM, oneD, List.replicate_succ, List.replicate_zero] | ((first | apply goIf_b | apply goG_b | apply goTG_b | apply goOG_b) <;> intro h <;> ((try simp only [hnq] at h); (try simp only [h]); (try simp only [hnr] at h)) <;> (try (exfalso; omega))))
    · omega
theorem d_columnsFor_21 : Den PA f_impl_columnsFor [.d (di 2), .d (di 1)] [.any, .any] (.ownm [.own 1 ([1].map di)]) := by
  refine den_go [] l_impl_columnsFor ?_
  repeat' (first | simp -implicitDefEqProofs (maxSteps := 1000000) (disch := (first | omega | (simp only [go_sem] <;> omega) | fail)) only [go_sem, ints, bools, mat, c_impl_columnsFor] | ((first | apply goIf_b | apply goG_b | apply goTG_b | apply goOG_b) <;> intro h <;> ((try simp only [hnq] at h); (try simp only [h]); (try simp only [hnr] at h)) <;> (try (exfalso; omega))))
  refine go_loop (fun (i : Nat) => match i with | 0 => ⟨[(0, .d (di 2)), (5, .sl 0 0 1 1), (12, .d (di 1)), (13, .d (di ((0 : Nat) : Int)))], [some (.mix [.sl 1 0 0 1]), some (.dat 1 [])]⟩ | _ => ⟨[(0, .d (di 2)), (5, .sl 0 0 2 1), (12, .d (di 1)), (13, .d (di ((1 : Nat) : Int)))], [some (.mix [.sl 1 0 1 1, .sl 2 0 1 1]), some (.dat 1 [di 0]), some (.dat 1 [di 1])]⟩) (fun i => i ≤ 1) (fun i => 1 - i) 0 ?_ ?_ ?_
  · simp -implicitDefEqProofs (maxSteps := 1000000) (disch := (first | omega | (simp only [go_sem] <;> omega) | fail)) only [go_sem, ints, bools, mat]
    all_goals rfl
  · exact Nat.zero_le _
  · rintro k hk J hJ
    rcases k with _ | _ | k
    · repeat' (first | simp -implicitDefEqProofs (maxSteps := 1000000) (disch := (first | omega | (simp only [go_sem] <;> omega) | fail)) only [go_sem, ints, bools, mat] | ((first | apply goIf_b | apply goG_b | apply goTG_b | apply goOG_b) <;> intro h <;> ((try simp only [hnq] at h); (try simp only [h]); (try simp only [hnr] at h)) <;> (try (exfalso; omega))))
      refine go_loop (fun (i : Nat) => match i with | 0 => ⟨[(0, .d (di 2)), (6, .sl 0 0 0 1), (12, .d (di 1)), (13, .d (di ((0 : Nat) : Int))), (16, .sl 1 0 1 1), (17, .d (di ((1 : Nat) : Int))), (18, .d (di ((0 : Nat) : Int)))], [some (.dat 1 []), some (.mix [.sl 2 0 0 1]), some (.dat 1 [])]⟩ | _ => ⟨[(0, .d (di 2)), (6, .sl 0 0 2 1), (12, .d (di 1)), (13, .d (di ((0 : Nat) : Int))), (16, .sl 1 0 1 1), (17, .d (di ((1 : Nat) : Int))), (18, .d (di ((1 : Nat) : Int)))], [some (.mix [.sl 2 0 1 1, .sl 3 0 1 1]), some (.mix [.sl 4 0 0 1]), some (.dat 1 [di 0]), some (.dat 1 [di 1]), some (.dat 1 [])]⟩) (fun i => i ≤ 1) (fun i => 1 - i) 0 ?_ ?_ ?_
      · simp -implicitDefEqProofs (maxSteps := 1000000) (disch := (first | omega | (simp only [go_sem] <;> omega) | fail)) only [go_sem, ints, bools, mat]
        all_goals rfl
      · exact Nat.zero_le _
      · rintro i hi J2 hJ2
        rcases i with _ | _ | i
        · repeat' (first | simp -implicitDefEqProofs (maxSteps := 1000000) (disch := (first | omega | (simp only [go_sem] <;> omega) | fail)) only [go_sem, ints, bools, mat] | ((first | apply goIf_b | apply goG_b | apply goTG_b | apply goOG_b) <;> intro h <;> ((try simp only [hnq] at h); (try simp only [h]); (try simp only [hnr] at h)) <;> (try (exfalso; omega))))
          refine go_loop (fun (i : Nat) => match i with | 0 => ⟨[(0, .d (di 2)), (6, .sl 0 0 0 1), (8, .sl 1 0 0 1), (12, .d (di 1)), (13, .d (di ((0 : Nat) : Int))), (16, .sl 2 0 1 1), (17, .d (di ((1 : Nat) : Int))), (18, .d (di ((0 : Nat) : Int))), (22, .d (di 2)), (23, .d (di ((0 : Nat) : Int)))], [some (.dat 1 []), some (.dat 1 []), some (.mix [.sl 1 0 0 1])]⟩ | 1 => ⟨[(0, .d (di 2)), (6, .sl 0 0 1 1), (8, .sl 1 0 0 1), (12, .d (di 1)), (13, .d (di ((0 : Nat) : Int))), (16, .sl 2 0 1 1), (17, .d (di ((1 : Nat) : Int))), (18, .d (di ((0 : Nat) : Int))), (22, .d (di 2)), (23, .d (di ((1 : Nat) : Int)))], [some (.mix [.sl 3 0 1 1]), some (.dat 1 []), some (.mix [.sl 1 0 0 1]), some (.dat 1 [di 0])]⟩ | _ => ⟨[(0, .d (di 2)), (6, .sl 0 0 2 1), (8, .sl 1 0 0 1), (12, .d (di 1)), (13, .d (di ((0 : Nat) : Int))), (16, .sl 2 0 1 1), (17, .d (di ((1 : Nat) : Int))), (18, .d (di ((0 : Nat) : Int))), (22, .d (di 2)), (23, .d (di ((2 : Nat) : Int)))], [some (.mix [.sl 3 0 1 1, .sl 4 0 1 1]), some (.dat 1 []), some (.mix [.sl 1 0 0 1]), some (.dat 1 [di 0]), some (.dat 1 [di 1])]⟩) (fun i => i ≤ 2) (fun i => 2 - i) 0 ?_ ?_ ?_
          · simp -implicitDefEqProofs (maxSteps := 1000000) (disch := (first | omega | (simp only [go_sem] <;> omega) | fail)) only [go_sem, ints, bools, mat]
            all_goals rfl
          · exact Nat.zero_le _
          · rintro j hj J3 hJ3
            rcases j with _ | _ | _ | j
            · repeat' (first | simp -implicitDefEqProofs (maxSteps := 1000000) (disch := (first | omega | (simp only [go_sem] <;> omega) | fail)) only [go_sem, ints, bools, mat] | ((first | apply goIf_b | apply goG_b | apply goTG_b | apply goOG_b) <;> intro h <;> ((try simp only [hnq] at h); (try simp only [h]); (try simp only [hnr] at h)) <;> (try (exfalso; omega))))
              first | refine goC_call [.r] (d_slices_Clone_ints [] (by decide)) ?_ | refine goOC_call [.r] (d_slices_Clone_ints [] (by decide)) ?_
              repeat' (first | simp -implicitDefEqProofs (maxSteps := 1000000) (disch := (first | omega | (simp only [go_sem] <;> omega) | fail)) only [go_sem, ints, bools, mat, flat_n0] | ((first | apply goIf_b | apply goG_b | apply goTG_b | apply goOG_b) <;> intro h <;> ((try simp only [hnq] at h); (try simp only [h]); (try simp only [hnr] at h)) <;> (try (exfalso; omega))))
              refine hJ3 1 (by omega) (by omega) _ (by (simp -implicitDefEqProofs (maxSteps := 1000000) (disch := (first | omega | (simp only [go_sem] <;> omega) | fail)) only [go_sem, ints, bools, mat] <;> rfl))
            · repeat' (first | simp -implicitDefEqProofs (maxSteps := 1000000) (disch := (first | omega | (simp only [go_sem] <;> omega) | fail)) only [go_sem, ints, bools, mat] | ((first | apply goIf_b | apply goG_b | apply goTG_b | apply goOG_b) <;> intro h <;> ((try simp only [hnq] at h); (try simp only [h]); (try simp only [hnr] at h)) <;> (try (exfalso; omega))))
              first | refine goC_call [.r] (d_slices_Clone_ints [] (by decide)) ?_ | refine goOC_call [.r] (d_slices_Clone_ints [] (by decide)) ?_
              repeat' (first | simp -implicitDefEqProofs (maxSteps := 1000000) (disch := (first | omega | (simp only [go_sem] <;> omega) | fail)) only [go_sem, ints, bools, mat, flat_n0] | ((first | apply goIf_b | apply goG_b | apply goTG_b | apply goOG_b) <;> intro h <;> ((try simp only [hnq] at h); (try simp only [h]); (try simp only [hnr] at h)) <;> (try (exfalso; omega))))
              refine hJ3 2 (by omega) (by omega) _ (by (simp -implicitDefEqProofs (maxSteps := 1000000) (disch := (first | omega | (simp only [go_sem] <;> omega) | fail)) only [go_sem, ints, bools, mat] <;> rfl))
            · repeat' (first | simp -implicitDefEqProofs (maxSteps := 1000000) (disch := (first | omega | (simp only [go_sem] <;> omega) | fail)) only [go_sem, ints, bools, mat] | ((first | apply goIf_b | apply goG_b | apply goTG_b | apply goOG_b) <;> intro h <;> ((try simp only [hnq] at h); (try simp only [h]); (try simp only [hnr] at h)) <;> (try (exfalso; omega))))
              refine hJ2 1 (by omega) (by omega) _ (by (simp -implicitDefEqProofs (maxSteps := 1000000) (disch := (first | omega | (simp only [go_sem] <;> omega) | fail)) only [go_sem, ints, bools, mat] <;> rfl))
            · omega
        · repeat' (first | simp -implicitDefEqProofs (maxSteps := 1000000) (disch := (first | omega | (simp only [go_sem] <;> omega) | fail)) only [go_sem, ints, bools, mat] | ((first | apply goIf_b | apply goG_b | apply goTG_b | apply goOG_b) <;> intro h <;> ((try simp only [hnq] at h); (try simp only [h]); (try simp only [hnr] at h)) <;> (try (exfalso; omega))))
          refine hJ 1 (by omega) (by omega) _ (by (simp -implicitDefEqProofs (maxSteps := 1000000) (disch := (first | omega | (simp only [go_sem] <;> omega) | fail)) only [go_sem, ints, bools, mat] <;> rfl))
        · omega
    · repeat' (first | simp -implicitDefEqProofs (maxSteps := 1000000) (disch := (first | omega | (simp only [go_sem] <;> omega) | fail)) only [go_sem, ints, bools, mat] | ((first | apply goIf_b | apply goG_b | apply goTG_b | apply goOG_b) <;> intro h <;> ((try simp only [hnq] at h); (try simp only [h]); (try simp only [hnr] at h)) <;> (try (exfalso; omega))))
      first | refine goC_call [.o, .g (fnL (fun x => x.length ≤ 3) badR)] (d_DeleteFunc_21 (fnL (fun x => x.length ≤ 3) badR) (fun l hl => ⟨_, hl, rfl, rfl⟩)) ?_ | refine goOC_call [.o, .g (fnL (fun x => x.length ≤ 3) badR)] (d_DeleteFunc_21 (fnL (fun x => x.length ≤ 3) badR) (fun l hl => ⟨_, hl, rfl, rfl⟩)) ?_
      repeat' (first | simp -implicitDefEqProofs (maxSteps := 1000000) (disch := (first | omega | (simp only [go_sem] <;> omega) | fail)) only [go_sem, ints, bools, mat] | ((first | apply goIf_b | apply goG_b | apply goTG_b | apply goOG_b) <;> intro h <;> ((try simp only [hnq] at h); (try simp only [h]); (try simp only [hnr] at h)) <;> (try (exfalso; omega))))
      refine chk_intro (fnOK_mk (d_impl_columnsFor_1 [] (by simp)).1 [] rfl fun ds r hg => ?_) ?_
      · obtain ⟨n, hn, rfl, rfl⟩ := hg
        exact ⟨_, d_impl_columnsFor_1 n hn⟩
      repeat' (first | simp -implicitDefEqProofs (maxSteps := 1000000) (disch := (first | omega | (simp only [go_sem] <;> omega) | fail)) only [go_sem, ints, bools, mat] | ((first | apply goIf_b | apply goG_b | apply goTG_b | apply goOG_b) <;> intro h <;> ((try simp only [hnq] at h); (try simp only [h]); (try simp only [hnr] at h)) <;> (try (exfalso; omega))))
    · omega
theorem d_hammingCode_21 : Den PA f_impl_hammingCode [.d (di 2), .d (di 1), .d (di 1)] [.any, .any, .any] (.d (di 0)) := by
  refine den_go [] l_impl_hammingCode ?_
  repeat' (first | simp -implicitDefEqProofs (maxSteps := 1000000) (disch := (first | omega | (simp only [go_sem] <;> omega) | fail)) only [go_sem, ints, bools, mat, c_impl_hammingCode] | ((first | apply goIf_b | apply goG_b | apply goTG_b | apply goOG_b) <;> intro h <;> ((try simp only [hnq] at h); (try simp only [h]); (try simp only [hnr] at h)) <;> (try (exfalso; omega))))
  first | refine goC_call [.r, .r] (d_columnsFor_21) ?_ | refine goOC_call [.r, .r] (d_columnsFor_21) ?_
  repeat' (first | simp -implicitDefEqProofs (maxSteps := 1000000) (disch := (first | omega | (simp only [go_sem] <;> omega) | fail)) only [go_sem, ints, bools, mat] | ((first | apply goIf_b | apply goG_b | apply goTG_b | apply goOG_b) <;> intro h <;> ((try simp only [hnq] at h); (try simp only [h]); (try simp only [hnr] at h)) <;> (try (exfalso; omega))))
theorem d_impl_ColumnsFor_21 : Den PA f_impl_ColumnsFor [.d (di 2), .d (di 1)] [.any, .any] (.tup [.ownm [.own 1 ([1].map di)], .d (di 0)]) := by
  refine den_go [] l_impl_ColumnsFor ?_
  repeat' (first | simp -implicitDefEqProofs (maxSteps := 1000000) (disch := (first | omega | (simp only [go_sem] <;> omega) | fail)) only [go_sem, ints, bools, mat, c_impl_ColumnsFor] | ((first | apply goIf_b | apply goG_b | apply goTG_b | apply goOG_b) <;> intro h <;> ((try simp only [hnq] at h); (try simp only [h]); (try simp only [hnr] at h)) <;> (try (exfalso; omega))))
  first | refine goC_call [.r, .r, .r] (d_hammingCode_21) ?_ | refine goOC_call [.r, .r, .r] (d_hammingCode_21) ?_
  repeat' (first | simp -implicitDefEqProofs (maxSteps := 1000000) (disch := (first | omega | (simp only [go_sem] <;> omega) | fail)) only [go_sem, ints, bools, mat] | ((first | apply goIf_b | apply goG_b | apply goTG_b | apply goOG_b) <;> intro h <;> ((try simp only [hnq] at h); (try simp only [h]); (try simp only [hnr] at h)) <;> (try (exfalso; omega))))
  first | refine goC_call [.r, .r] (d_columnsFor_21) ?_ | refine goOC_call [.r, .r] (d_columnsFor_21) ?_
  repeat' (first | simp -implicitDefEqProofs (maxSteps := 1000000) (disch := (first | omega | (simp only [go_sem] <;> omega) | fail)) only [go_sem, ints, bools, mat] | ((first | apply goIf_b | apply goG_b | apply goTG_b | apply goOG_b) <;> intro h <;> ((try simp only [hnq] at h); (try simp only [h]); (try simp only [hnr] at h)) <;> (try (exfalso; omega))))
theorem d_IndexFunc_22 (g : List D → Value → Prop) (hg : ∀ l : List Int, l.length ≤ 3 → g [ints l] (.bool (badR l))) : Den PA f_slices_IndexFunc_____int64___int64_ [.ownm [.own 1 ([0, 0].map di), .own 1 ([0, 1].map di), .own 1 ([1, 0].map di), .own 1 ([1, 1].map di)], .pfn g] [.ownm [.own 1 ([0, 0].map di), .own 1 ([0, 1].map di), .own 1 ([1, 0].map di), .own 1 ([1, 1].map di)], .any] (.d (di 0)) := by
  refine den_go [0] l_slices_IndexFunc_____int64___int64_ ?_
  repeat' (first | simp -implicitDefEqProofs (maxSteps := 1000000) (disch := (first | omega | (simp only [go_sem] <;> omega) | fail)) only [go_sem, ints, bools, mat, c_slices_IndexFunc_____int64___int64_] | ((first | apply goIf_b | apply goG_b | apply goTG_b | apply goOG_b) <;> intro h <;> ((try simp only [hnq] at h); (try simp only [h]); (try simp only [hnr] at h)) <;> (try (exfalso; omega))))
  refine go_loop (fun (_ : Unit) => ⟨[(0, .sl 0 0 4 1), (1, .pfn g), (7, .d (di ((4 : Nat) : Int))), (8, .d (di 0)), (19, .sl 0 0 4 1)], [some (.mix [.sl 1 0 2 1, .sl 2 0 2 1, .sl 3 0 2 1, .sl 4 0 2 1]), some (.dat 1 [di 0, di 0]), some (.dat 1 [di 0, di 1]), some (.dat 1 [di 1, di 0]), some (.dat 1 [di 1, di 1])]⟩) (fun _ => True) (fun _ => 0) () ?_ trivial ?_
  · simp -implicitDefEqProofs (maxSteps := 1000000) (disch := (first | omega | (simp only [go_sem] <;> omega) | fail)) only [go_sem, ints, bools, mat]
    all_goals rfl
  · intro _ _ J _
    repeat' (first | simp -implicitDefEqProofs (maxSteps := 1000000) (disch := (first | omega | (simp only [go_sem] <;> omega) | fail)) only [go_sem, ints, bools, mat] | ((first | apply goIf_b | apply goG_b | apply goTG_b | apply goOG_b) <;> intro h <;> ((try simp only [hnq] at h); (try simp only [h]); (try simp only [hnr] at h)) <;> (try (exfalso; omega))))
    refine goV_pfn [ints [0, 0]] (.bool true) (by simp -implicitDefEqProofs (maxSteps := 1000000) (disch := (first | omega | (simp only [go_sem] <;> omega) | fail)) only [go_sem, ints, bools, mat]) rfl (hg [0, 0] (by decide)) ?_
    repeat' (first | simp -implicitDefEqProofs (maxSteps := 1000000) (disch := (first | omega | (simp only [go_sem] <;> omega) | fail)) only [go_sem, ints, bools, mat] | ((first | apply goIf_b | apply goG_b | apply goTG_b | apply goOG_b) <;> intro h <;> ((try simp only [hnq] at h); (try simp only [h]); (try simp only [hnr] at h)) <;> (try (exfalso; omega))))
theorem d_DeleteFunc_22 (g : List D → Value → Prop) (hg : ∀ l : List Int, l.length ≤ 3 → g [ints l] (.bool (badR l))) : Den PA f_slices_DeleteFunc_____int64___int64_ [.ownm [.own 1 ([0, 0].map di), .own 1 ([0, 1].map di), .own 1 ([1, 0].map di), .own 1 ([1, 1].map di)], .pfn g] [.any, .any] (.ownm [.own 1 ([0, 1].map di), .own 1 ([1, 0].map di), .own 1 ([1, 1].map di)]) := by
  refine den_go [] l_slices_DeleteFunc_____int64___int64_ ?_
  repeat' (first | simp -implicitDefEqProofs (maxSteps := 1000000) (disch := (first | omega | (simp only [go_sem] <;> omega) | fail)) only [go_sem, ints, bools, mat, c_slices_DeleteFunc_____int64___int64_] | ((first | apply goIf_b | apply goG_b | apply goTG_b | apply goOG_b) <;> intro h <;> ((try simp only [hnq] at h); (try simp only [h]); (try simp only [hnr] at h)) <;> (try (exfalso; omega))))
  first | refine goC_of [.o, .g g] (d_IndexFunc_22 g hg) (by first | (simp -implicitDefEqProofs (maxSteps := 1000000) (disch := (first | omega | (simp only [go_sem] <;> omega) | fail)) only [go_sem, ints, bools, mat] <;> rfl) | rfl) (by first | (simp -implicitDefEqProofs (maxSteps := 1000000) (disch := (first | omega | (simp only [go_sem] <;> omega) | fail)) only [go_sem, ints, bools, mat] <;> rfl) | rfl) (⟨trivial, fun _ _ h => h, trivial⟩) (by first | (simp -implicitDefEqProofs (maxSteps := 1000000) (disch := (first | omega | (simp only [go_sem] <;> omega) | fail)) only [go_sem, ints, bools, mat] <;> rfl) | rfl) ?_ | refine goOC_of [.o, .g g] (d_IndexFunc_22 g hg) (by first | (simp -implicitDefEqProofs (maxSteps := 1000000) (disch := (first | omega | (simp only [go_sem] <;> omega) | fail)) only [go_sem, ints, bools, mat] <;> rfl) | rfl) (by first | (simp -implicitDefEqProofs (maxSteps := 1000000) (disch := (first | omega | (simp only [go_sem] <;> omega) | fail)) only [go_sem, ints, bools, mat] <;> rfl) | rfl) (by first | (simp -implicitDefEqProofs (maxSteps := 1000000) (disch := (first | omega | (simp only [go_sem] <;> omega) | fail)) only [go_sem, ints, bools, mat] <;> rfl) | rfl) (⟨trivial, fun _ _ h => h, trivial⟩) (by first | (simp -implicitDefEqProofs (maxSteps := 1000000) (disch := (first | omega | (simp only [go_sem] <;> omega) | fail)) only [go_sem, ints, bools, mat] <;> rfl) | rfl) ?_
  repeat' (first | simp -implicitDefEqProofs (maxSteps := 1000000) (disch := (first | omega | (simp only [go_sem] <;> omega) | fail)) only [go_sem, ints, bools, mat] | ((first | apply goIf_b | apply goG_b | apply goTG_b | apply goOG_b) <;> intro h <;> ((try simp only [hnq] at h); (try simp only [h]); (try simp only [hnr] at h)) <;> (try (exfalso; omega))))
  refine go_loop (fun (i : Nat) => match i with | 0 => ⟨[(0, .sl 0 0 4 1), (1, .pfn g), (5, .d (di ((0 : Nat) : Int))), (6, .d (di ((1 : Nat) : Int))), (42, .any)], [some (.mix [.sl 1 0 2 1, .sl 2 0 2 1, .sl 3 0 2 1, .sl 4 0 2 1]), some (.dat 1 [di 0, di 0]), some (.dat 1 [di 0, di 1]), some (.dat 1 [di 1, di 0]), some (.dat 1 [di 1, di 1])]⟩ | 1 => ⟨[(0, .sl 0 0 4 1), (1, .pfn g), (5, .d (di ((1 : Nat) : Int))), (6, .d (di ((2 : Nat) : Int))), (42, .any)], [some (.mix [.sl 1 0 2 1, .sl 1 0 2 1, .sl 2 0 2 1, .sl 3 0 2 1]), some (.dat 1 [di 0, di 1]), some (.dat 1 [di 1, di 0]), some (.dat 1 [di 1, di 1])]⟩ | 2 => ⟨[(0, .sl 0 0 4 1), (1, .pfn g), (5, .d (di ((2 : Nat) : Int))), (6, .d (di ((3 : Nat) : Int))), (42, .any)], [some (.mix [.sl 1 0 2 1, .sl 2 0 2 1, .sl 2 0 2 1, .sl 3 0 2 1]), some (.dat 1 [di 0, di 1]), some (.dat 1 [di 1, di 0]), some (.dat 1 [di 1, di 1])]⟩ | _ => ⟨[(0, .sl 0 0 4 1), (1, .pfn g), (5, .d (di ((3 : Nat) : Int))), (6, .d (di ((4 : Nat) : Int))), (42, .any)], [some (.mix [.sl 1 0 2 1, .sl 2 0 2 1, .sl 3 0 2 1, .sl 3 0 2 1]), some (.dat 1 [di 0, di 1]), some (.dat 1 [di 1, di 0]), some (.dat 1 [di 1, di 1])]⟩) (fun i => i ≤ 3) (fun i => 3 - i) 0 ?_ ?_ ?_
  · simp -implicitDefEqProofs (maxSteps := 1000000) (disch := (first | omega | (simp only [go_sem] <;> omega) | fail)) only [go_sem, ints, bools, mat]
    all_goals rfl
  · exact Nat.zero_le _
  · rintro i hi J hJ
    rcases i with _ | _ | _ | _ | i
    · repeat' (first | simp -implicitDefEqProofs (maxSteps := 1000000) (disch := (first | omega | (simp only [go_sem] <;> omega) | fail)) only [go_sem, ints, bools, mat] | ((first | apply goIf_b | apply goG_b | apply goTG_b | apply goOG_b) <;> intro h <;> ((try simp only [hnq] at h); (try simp only [h]); (try simp only [hnr] at h)) <;> (try (exfalso; omega))))
      refine goV_pfn [ints [0, 1]] (.bool false) (by simp -implicitDefEqProofs (maxSteps := 1000000) (disch := (first | omega | (simp only [go_sem] <;> omega) | fail)) only [go_sem, ints, bools, mat]) rfl (hg [0, 1] (by decide)) ?_
      repeat' (first | simp -implicitDefEqProofs (maxSteps := 1000000) (disch := (first | omega | (simp only [go_sem] <;> omega) | fail)) only [go_sem, ints, bools, mat] | ((first | apply goIf_b | apply goG_b | apply goTG_b | apply goOG_b) <;> intro h <;> ((try simp only [hnq] at h); (try simp only [h]); (try simp only [hnr] at h)) <;> (try (exfalso; omega))))
      refine hJ 1 (by omega) (by omega) _ (by (simp -implicitDefEqProofs (maxSteps := 1000000) (disch := (first | omega | (simp only [go_sem] <;> omega) | fail)) only [go_sem, ints, bools, mat] <;> rfl))
    · repeat' (first | simp -implicitDefEqProofs (maxSteps := 1000000) (disch := (first | omega | (simp only [go_sem] <;> omega) | fail)) only [go_sem, ints, bools, mat] | ((first | apply goIf_b | apply goG_b | apply goTG_b | apply goOG_b) <;> intro h <;> ((try simp only [hnq] at h); (try simp only [h]); (try simp only [hnr] at h)) <;> (try (exfalso; omega))))
      refine goV_pfn [ints [1, 0]] (.bool false) (by simp -implicitDefEqProofs (maxSteps := 1000000) (disch := (first | omega | (simp only [go_sem] <;> omega) | fail)) only [go_sem, ints, bools, mat]) rfl (hg [1, 0] (by decide)) ?_
      repeat' (first | simp -implicitDefEqProofs (maxSteps := 1000000) (disch := (first | omega | (simp only [go_sem] <;> omega) | fail)) only [go_sem, ints, bools, mat] | ((first | apply goIf_b | apply goG_b | apply goTG_b | apply goOG_b) <;> intro h <;> ((try simp only [hnq] at h); (try simp only [h]); (try simp only [hnr] at h)) <;> (try (exfalso; omega))))
      refine hJ 2 (by omega) (by omega) _ (by (simp -implicitDefEqProofs (maxSteps := 1000000) (disch := (first | omega | (simp only [go_sem] <;> omega) | fail)) only [go_sem, ints, bools, mat] <;> rfl))
    · repeat' (first | simp -implicitDefEqProofs (maxSteps := 1000000) (disch := (first | omega | (simp only [go_sem] <;> omega) | fail)) only [go_sem, ints, bools, mat] | ((first | apply goIf_b | apply goG_b | apply goTG_b | apply goOG_b) <;> intro h <;> ((try simp only [hnq] at h); (try simp only [h]); (try simp only [hnr] at h)) <;> (try (exfalso; omega))))
      refine goV_pfn [ints [1, 1]] (.bool false) (by simp -implicitDefEqProofs (maxSteps := 1000000) (disch := (first | omega | (simp only [go_sem] <;> omega) | fail)) only [go_sem, ints, bools, mat]) rfl (hg [1, 1] (by decide)) ?_
      repeat' (first | simp -implicitDefEqProofs (maxSteps := 1000000) (disch := (first | omega | (simp only [go_sem] <;> omega) | fail)) only [go_sem, ints, bools, mat] | ((first | apply goIf_b | apply goG_b | apply goTG_b | apply goOG_b) <;> intro h <;> ((try simp only [hnq] at h); (try simp only [h]); (try simp only [hnr] at h)) <;> (try (exfalso; omega))))
      refine hJ 3 (by omega) (by omega) _ (by (simp -implicitDefEqProofs (maxSteps := 1000000) (disch := (first | omega | (simp only [go_sem] <;> omega) | fail)) only [go_sem, ints, bools, mat] <;> rfl))
    · repeat' (first | simp -implicitDefEqProofs (maxSteps := 1000000) (disch := (first | omega | (simp only [go_sem] <;> omega) | fail)) only [go_sem, ints, bools, mat, clrM, oneD, List.replicate_succ, List.replicate_zero] | ((first | apply goIf_b | apply goG_b | apply goTG_b | apply goOG_b) <;> intro h <;> ((try simp only [hnq] at h); (try simp only [h]); (try simp only [hnr] at h)) <;> (try (exfalso; omega))))
    · omega
theorem d_columnsFor_22 : Den PA f_impl_columnsFor [.d (di 2), .d (di 2)] [.any, .any] (.ownm [.own 1 ([0, 1].map di), .own 1 ([1, 0].map di), .own 1 ([1, 1].map di)]) := by
  refine den_go [] l_impl_columnsFor ?_
  repeat' (first | simp -implicitDefEqProofs (maxSteps := 1000000) (disch := (first | omega | (simp only [go_sem] <;> omega) | fail)) only [go_sem, ints, bools, mat, c_impl_columnsFor] | ((first | apply goIf_b | apply goG_b | apply goTG_b | apply goOG_b) <;> intro h <;> ((try simp only [hnq] at h); (try simp only [h]); (try simp only [hnr] at h)) <;> (try (exfalso; omega))))
  refine go_loop (fun (i : Nat) => match i with | 0 => ⟨[(0, .d (di 2)), (5, .sl 0 0 1 1), (12, .d (di 2)), (13, .d (di ((0 : Nat) : Int)))], [some (.mix [.sl 1 0 0 1]), some (.dat 1 [])]⟩ | 1 => ⟨[(0, .d (di 2)), (5, .sl 0 0 2 1), (12, .d (di 2)), (13, .d (di ((1 : Nat) : Int)))], [some (.mix [.sl 1 0 1 1, .sl 2 0 1 1]), some (.dat 1 [di 0]), some (.dat 1 [di 1])]⟩ | _ => ⟨[(0, .d (di 2)), (5, .sl 0 0 4 1), (12, .d (di 2)), (13, .d (di ((2 : Nat) : Int)))], [some (.mix [.sl 1 0 2 1, .sl 2 0 2 1, .sl 3 0 2 1, .sl 4 0 2 1]), some (.dat 1 [di 0, di 0]), some (.dat 1 [di 0, di 1]), some (.dat 1 [di 1, di 0]), some (.dat 1 [di 1, di 1])]⟩) (fun i => i ≤ 2) (fun i => 2 - i) 0 ?_ ?_ ?_
  · simp -implicitDefEqProofs (maxSteps := 1000000) (disch := (first | omega | (simp only [go_sem] <;> omega) | fail)) only [go_sem, ints, bools, mat]
    all_goals rfl
  · exact Nat.zero_le _
  · rintro k hk J hJ
    rcases k with _ | _ | _ | k
    · repeat' (first | simp -implicitDefEqProofs (maxSteps := 1000000) (disch := (first | omega | (simp only [go_sem] <;> omega) | fail)) only [go_sem, ints, bools, mat] | ((first | apply goIf_b | apply goG_b | apply goTG_b | apply goOG_b) <;> intro h <;> ((try simp only [hnq] at h); (try simp only [h]); (try simp only [hnr] at h)) <;> (try (exfalso; omega))))
      refine go_loop (fun (i : Nat) => match i with | 0 => ⟨[(0, .d (di 2)), (6, .sl 0 0 0 1), (12, .d (di 2)), (13, .d (di ((0 : Nat) : Int))), (16, .sl 1 0 1 1), (17, .d (di ((1 : Nat) : Int))), (18, .d (di ((0 : Nat) : Int)))], [some (.dat 1 []), some (.mix [.sl 2 0 0 1]), some (.dat 1 [])]⟩ | _ => ⟨[(0, .d (di 2)), (6, .sl 0 0 2 1), (12, .d (di 2)), (13, .d (di ((0 : Nat) : Int))), (16, .sl 1 0 1 1), (17, .d (di ((1 : Nat) : Int))), (18, .d (di ((1 : Nat) : Int)))], [some (.mix [.sl 2 0 1 1, .sl 3 0 1 1]), some (.mix [.sl 4 0 0 1]), some (.dat 1 [di 0]), some (.dat 1 [di 1]), some (.dat 1 [])]⟩) (fun i => i ≤ 1) (fun i => 1 - i) 0 ?_ ?_ ?_
      · simp -implicitDefEqProofs (maxSteps := 1000000) (disch := (first | omega | (simp only [go_sem] <;> omega) | fail)) only [go_sem, ints, bools, mat]
        all_goals rfl
      · exact Nat.zero_le _
      · rintro i hi J2 hJ2
        rcases i with _ | _ | i
        · repeat' (first | simp -implicitDefEqProofs (maxSteps := 1000000) (disch := (first | omega | (simp only [go_sem] <;> omega) | fail)) only [go_sem, ints, bools, mat] | ((first | apply goIf_b | apply goG_b | apply goTG_b | apply goOG_b) <;> intro h <;> ((try simp only [hnq] at h); (try simp only [h]); (try simp only [hnr] at h)) <;> (try (exfalso; omega))))
          refine go_loop (fun (i : Nat) => match i with | 0 => ⟨[(0, .d (di 2)), (6, .sl 0 0 0 1), (8, .sl 1 0 0 1), (12, .d (di 2)), (13, .d (di ((0 : Nat) : Int))), (16, .sl 2 0 1 1), (17, .d (di ((1 : Nat) : Int))), (18, .d (di ((0 : Nat) : Int))), (22, .d (di 2)), (23, .d (di ((0 : Nat) : Int)))], [some (.dat 1 []), some (.dat 1 []), some (.mix [.sl 1 0 0 1])]⟩ | 1 => ⟨[(0, .d (di 2)), (6, .sl 0 0 1 1), (8, .sl 1 0 0 1), (12, .d (di 2)), (13, .d (di ((0 : Nat) : Int))), (16, .sl 2 0 1 1), (17, .d (di ((1 : Nat) : Int))), (18, .d (di ((0 : Nat) : Int))), (22, .d (di 2)), (23, .d (di ((1 : Nat) : Int)))], [some (.mix [.sl 3 0 1 1]), some (.dat 1 []), some (.mix [.sl 1 0 0 1]), some (.dat 1 [di 0])]⟩ | _ => ⟨[(0, .d (di 2)), (6, .sl 0 0 2 1), (8, .sl 1 0 0 1), (12, .d (di 2)), (13, .d (di ((0 : Nat) : Int))), (16, .sl 2 0 1 1), (17, .d (di ((1 : Nat) : Int))), (18, .d (di ((0 : Nat) : Int))), (22, .d (di 2)), (23, .d (di ((2 : Nat) : Int)))], [some (.mix [.sl 3 0 1 1, .sl 4 0 1 1]), some (.dat 1 []), some (.mix [.sl 1 0 0 1]), some (.dat 1 [di 0]), some (.dat 1 [di 1])]⟩) (fun i => i ≤ 2) (fun i => 2 - i) 0 ?_ ?_ ?_
          · simp -implicitDefEqProofs (maxSteps := 1000000) (disch := (first | omega | (simp only [go_sem] <;> omega) | fail)) only [go_sem, ints, bools, mat]
            all_goals rfl
          · exact Nat.zero_le _
          · rintro j hj J3 hJ3
            rcases j with _ | _ | _ | j
            · repeat' (first | simp -implicitDefEqProofs (maxSteps := 1000000) (disch := (first | omega | (simp only [go_sem] <;> omega) | fail)) only [go_sem, ints, bools, mat] | ((first | apply goIf_b | apply goG_b | apply goTG_b | apply goOG_b) <;> intro h <;> ((try simp only [hnq] at h); (try simp only [h]); (try simp only [hnr] at h)) <;> (try (exfalso; omega))))
              first | refine goC_call [.r] (d_slices_Clone_ints [] (by decide)) ?_ | refine goOC_call [.r] (d_slices_Clone_ints [] (by decide)) ?_
              repeat' (first | simp -implicitDefEqProofs (maxSteps := 1000000) (disch := (first | omega | (simp only [go_sem] <;> omega) | fail)) only [go_sem, ints, bools, mat, flat_n0] | ((first | apply goIf_b | apply goG_b | apply goTG_b | apply goOG_b) <;> intro h <;> ((try simp only [hnq] at h); (try simp only [h]); (try simp only [hnr] at h)) <;> (try (exfalso; omega))))
              refine hJ3 1 (by omega) (by omega) _ (by (simp -implicitDefEqProofs (maxSteps := 1000000) (disch := (first | omega | (simp only [go_sem] <;> omega) | fail)) only [go_sem, ints, bools, mat] <;> rfl))
            · repeat' (first | simp -implicitDefEqProofs (maxSteps := 1000000) (disch := (first | omega | (simp only [go_sem] <;> omega) | fail)) only [go_sem, ints, bools, mat] | ((first | apply goIf_b | apply goG_b | apply goTG_b | apply goOG_b) <;> intro h <;> ((try simp only [hnq] at h); (try simp only [h]); (try simp only [hnr] at h)) <;> (try (exfalso; omega))))
              first | refine goC_call [.r] (d_slices_Clone_ints [] (by decide)) ?_ | refine goOC_call [.r] (d_slices_Clone_ints [] (by decide)) ?_
              repeat' (first | simp -implicitDefEqProofs (maxSteps := 1000000) (disch := (first | omega | (simp only [go_sem] <;> omega) | fail)) only [go_sem, ints, bools, mat, flat_n0] | ((first | apply goIf_b | apply goG_b | apply goTG_b | apply goOG_b) <;> intro h <;> ((try simp only [hnq] at h); (try simp only [h]); (try simp only [hnr] at h)) <;> (try (exfalso; omega))))
              refine hJ3 2 (by omega) (by omega) _ (by (simp -implicitDefEqProofs (maxSteps := 1000000) (disch := (first | omega | (simp only [go_sem] <;> omega) | fail)) only [go_sem, ints, bools, mat] <;> rfl))
            · repeat' (first | simp -implicitDefEqProofs (maxSteps := 1000000) (disch := (first | omega | (simp only [go_sem] <;> omega) | fail)) only [go_sem, ints, bools, mat] | ((first | apply goIf_b | apply goG_b | apply goTG_b | apply goOG_b) <;> intro h <;> ((try simp only [hnq] at h); (try simp only [h]); (try simp only [hnr] at h)) <;> (try (exfalso; omega))))
              refine hJ2 1 (by omega) (by omega) _ (by (simp -implicitDefEqProofs (maxSteps := 1000000) (disch := (first | omega | (simp only [go_sem] <;> omega) | fail)) only [go_sem, ints, bools, mat] <;> rfl))
            · omega
        · repeat' (first | simp -implicitDefEqProofs (maxSteps := 1000000) (disch := (first | omega | (simp only [go_sem] <;> omega) | fail)) only [go_sem, ints, bools, mat] | ((first | apply goIf_b | apply goG_b | apply goTG_b | apply goOG_b) <;> intro h <;> ((try simp only [hnq] at h); (try simp only [h]); (try simp only [hnr] at h)) <;> (try (exfalso; omega))))
          refine hJ 1 (by omega) (by omega) _ (by (simp -implicitDefEqProofs (maxSteps := 1000000) (disch := (first | omega | (simp only [go_sem] <;> omega) | fail)) only [go_sem, ints, bools, mat] <;> rfl))
        · omega
    · repeat' (first | simp -implicitDefEqProofs (maxSteps := 1000000) (disch := (first | omega | (simp only [go_sem] <;> omega) | fail)) only [go_sem, ints, bools, mat] | ((first | apply goIf_b | apply goG_b | apply goTG_b | apply goOG_b) <;> intro h <;> ((try simp only [hnq] at h); (try simp only [h]); (try simp only [hnr] at h)) <;> (try (exfalso; omega))))
      refine go_loop (fun (i : Nat) => match i with | 0 => ⟨[(0, .d (di 2)), (6, .sl 0 0 0 1), (12, .d (di 2)), (13, .d (di ((1 : Nat) : Int))), (16, .sl 1 0 2 1), (17, .d (di ((2 : Nat) : Int))), (18, .d (di ((0 : Nat) : Int)))], [some (.dat 1 []), some (.mix [.sl 2 0 1 1, .sl 3 0 1 1]), some (.dat 1 [di 0]), some (.dat 1 [di 1])]⟩ | 1 => ⟨[(0, .d (di 2)), (6, .sl 0 0 2 1), (12, .d (di 2)), (13, .d (di ((1 : Nat) : Int))), (16, .sl 1 0 2 1), (17, .d (di ((2 : Nat) : Int))), (18, .d (di ((1 : Nat) : Int)))], [some (.mix [.sl 2 0 2 1, .sl 3 0 2 1]), some (.mix [.sl 4 0 1 1, .sl 5 0 1 1]), some (.dat 1 [di 0, di 0]), some (.dat 1 [di 0, di 1]), some (.dat 1 [di 0]), some (.dat 1 [di 1])]⟩ | _ => ⟨[(0, .d (di 2)), (6, .sl 0 0 4 1), (12, .d (di 2)), (13, .d (di ((1 : Nat) : Int))), (16, .sl 1 0 2 1), (17, .d (di ((2 : Nat) : Int))), (18, .d (di ((2 : Nat) : Int)))], [some (.mix [.sl 2 0 2 1, .sl 3 0 2 1, .sl 4 0 2 1, .sl 5 0 2 1]), some (.mix [.sl 6 0 1 1, .sl 7 0 1 1]), some (.dat 1 [di 0, di 0]), some (.dat 1 [di 0, di 1]), some (.dat 1 [di 1, di 0]), some (.dat 1 [di 1, di 1]), some (.dat 1 [di 0]), some (.dat 1 [di 1])]⟩) (fun i => i ≤ 2) (fun i => 2 - i) 0 ?_ ?_ ?_
      · simp -implicitDefEqProofs (maxSteps := 1000000) (disch := (first | omega | (simp only [go_sem] <;> omega) | fail)) only [go_sem, ints, bools, mat]
        all_goals rfl
      · exact Nat.zero_le _
      · rintro i hi J2 hJ2
        rcases i with _ | _ | _ | i
        · repeat' (first | simp -implicitDefEqProofs (maxSteps := 1000000) (disch := (first | omega | (simp only [go_sem] <;> omega) | fail)) only [go_sem, ints, bools, mat] | ((first | apply goIf_b | apply goG_b | apply goTG_b | apply goOG_b) <;> intro h <;> ((try simp only [hnq] at h); (try simp only [h]); (try simp only [hnr] at h)) <;> (try (exfalso; omega))))
          refine go_loop (fun (i : Nat) => match i with | 0 => ⟨[(0, .d (di 2)), (6, .sl 0 0 0 1), (8, .sl 1 0 1 1), (12, .d (di 2)), (13, .d (di ((1 : Nat) : Int))), (16, .sl 2 0 2 1), (17, .d (di ((2 : Nat) : Int))), (18, .d (di ((0 : Nat) : Int))), (22, .d (di 2)), (23, .d (di ((0 : Nat) : Int)))], [some (.dat 1 []), some (.dat 1 [di 0]), some (.mix [.sl 1 0 1 1, .sl 3 0 1 1]), some (.dat 1 [di 1])]⟩ | 1 => ⟨[(0, .d (di 2)), (6, .sl 0 0 1 1), (8, .sl 1 0 1 1), (12, .d (di 2)), (13, .d (di ((1 : Nat) : Int))), (16, .sl 2 0 2 1), (17, .d (di ((2 : Nat) : Int))), (18, .d (di ((0 : Nat) : Int))), (22, .d (di 2)), (23, .d (di ((1 : Nat) : Int)))], [some (.mix [.sl 3 0 2 1]), some (.dat 1 [di 0]), some (.mix [.sl 1 0 1 1, .sl 4 0 1 1]), some (.dat 1 [di 0, di 0]), some (.dat 1 [di 1])]⟩ | _ => ⟨[(0, .d (di 2)), (6, .sl 0 0 2 1), (8, .sl 1 0 1 1), (12, .d (di 2)), (13, .d (di ((1 : Nat) : Int))), (16, .sl 2 0 2 1), (17, .d (di ((2 : Nat) : Int))), (18, .d (di ((0 : Nat) : Int))), (22, .d (di 2)), (23, .d (di ((2 : Nat) : Int)))], [some (.mix [.sl 3 0 2 1, .sl 4 0 2 1]), some (.dat 1 [di 0]), some (.mix [.sl 1 0 1 1, .sl 5 0 1 1]), some (.dat 1 [di 0, di 0]), some (.dat 1 [di 0, di 1]), some (.dat 1 [di 1])]⟩) (fun i => i ≤ 2) (fun i => 2 - i) 0 ?_ ?_ ?_
          · simp -implicitDefEqProofs (maxSteps := 1000000) (disch := (first | omega | (simp only [go_sem] <;> omega) | fail)) only [go_sem, ints, bools, mat]
            all_goals rfl
          · exact Nat.zero_le _
          · rintro j hj J3 hJ3
            rcases j with _ | _ | _ | j
            · repeat' (first | simp -implicitDefEqProofs (maxSteps := 1000000) (disch := (first | omega | (simp only [go_sem] <;> omega) | fail)) only [go_sem, ints, bools, mat] | ((first | apply goIf_b | apply goG_b | apply goTG_b | apply goOG_b) <;> intro h <;> ((try simp only [hnq] at h); (try simp only [h]); (try simp only [hnr] at h)) <;> (try (exfalso; omega))))
              first | refine goC_call [.r] (d_slices_Clone_ints [0] (by decide)) ?_ | refine goOC_call [.r] (d_slices_Clone_ints [0] (by decide)) ?_
              repeat' (first | simp -implicitDefEqProofs (maxSteps := 1000000) (disch := (first | omega | (simp only [go_sem] <;> omega) | fail)) only [go_sem, ints, bools, mat, flat_n0] | ((first | apply goIf_b | apply goG_b | apply goTG_b | apply goOG_b) <;> intro h <;> ((try simp only [hnq] at h); (try simp only [h]); (try simp only [hnr] at h)) <;> (try (exfalso; omega))))
              refine hJ3 1 (by omega) (by omega) _ (by (simp -implicitDefEqProofs (maxSteps := 1000000) (disch := (first | omega | (simp only [go_sem] <;> omega) | fail)) only [go_sem, ints, bools, mat] <;> rfl))
            · repeat' (first | simp -implicitDefEqProofs (maxSteps := 1000000) (disch := (first | omega | (simp only [go_sem] <;> omega) | fail)) only [go_sem, ints, bools, mat] | ((first | apply goIf_b | apply goG_b | apply goTG_b | apply goOG_b) <;> intro h <;> ((try simp only [hnq] at h); (try simp only [h]); (try simp only [hnr] at h)) <;> (try (exfalso; omega))))
              first | refine goC_call [.r] (d_slices_Clone_ints [0] (by decide)) ?_ | refine goOC_call [.r] (d_slices_Clone_ints [0] (by decide)) ?_
              repeat' (first | simp -implicitDefEqProofs (maxSteps := 1000000) (disch := (first | omega | (simp only [go_sem] <;> omega) | fail)) only [go_sem, ints, bools, mat, flat_n0] | ((first | apply goIf_b | apply goG_b | apply goTG_b | apply goOG_b) <;> intro h <;> ((try simp only [hnq] at h); (try simp only [h]); (try simp only [hnr] at h)) <;> (try (exfalso; omega))))
              refine hJ3 2 (by omega) (by omega) _ (by (simp -implicitDefEqProofs (maxSteps := 1000000) (disch := (first | omega | (simp only [go_sem] <;> omega) | fail)) only [go_sem, ints, bools, mat] <;> rfl))
            · repeat' (first | simp -implicitDefEqProofs (maxSteps := 1000000) (disch := (first | omega | (simp only [go_sem] <;> omega) | fail)) only [go_sem, ints, bools, mat] | ((first | apply goIf_b | apply goG_b | apply goTG_b | apply goOG_b) <;> intro h <;> ((try simp only [hnq] at h); (try simp only [h]); (try simp only [hnr] at h)) <;> (try (exfalso; omega))))
              refine hJ2 1 (by omega) (by omega) _ (by (simp -implicitDefEqProofs (maxSteps := 1000000) (disch := (first | omega | (simp only [go_sem] <;> omega) | fail)) only [go_sem, ints, bools, mat] <;> rfl))
            · omega
        · repeat' (first | simp -implicitDefEqProofs (maxSteps := 1000000) (disch := (first | omega | (simp only [go_sem] <;> omega) | fail)) only [go_sem, ints, bools, mat] | ((first | apply goIf_b | apply goG_b | apply goTG_b | apply goOG_b) <;> intro h <;> ((try simp only [hnq] at h); (try simp only [h]); (try simp only [hnr] at h)) <;> (try (exfalso; omega))))
          refine go_loop (fun (i : Nat) => match i with | 0 => ⟨[(0, .d (di 2)), (6, .sl 0 0 2 1), (8, .sl 1 0 1 1), (12, .d (di 2)), (13, .d (di ((1 : Nat) : Int))), (16, .sl 2 0 2 1), (17, .d (di ((2 : Nat) : Int))), (18, .d (di ((1 : Nat) : Int))), (22, .d (di 2)), (23, .d (di ((0 : Nat) : Int)))], [some (.mix [.sl 3 0 2 1, .sl 4 0 2 1]), some (.dat 1 [di 1]), some (.mix [.sl 5 0 1 1, .sl 1 0 1 1]), some (.dat 1 [di 0, di 0]), some (.dat 1 [di 0, di 1]), some (.dat 1 [di 0])]⟩ | 1 => ⟨[(0, .d (di 2)), (6, .sl 0 0 3 1), (8, .sl 1 0 1 1), (12, .d (di 2)), (13, .d (di ((1 : Nat) : Int))), (16, .sl 2 0 2 1), (17, .d (di ((2 : Nat) : Int))), (18, .d (di ((1 : Nat) : Int))), (22, .d (di 2)), (23, .d (di ((1 : Nat) : Int)))], [some (.mix [.sl 3 0 2 1, .sl 4 0 2 1, .sl 5 0 2 1]), some (.dat 1 [di 1]), some (.mix [.sl 6 0 1 1, .sl 1 0 1 1]), some (.dat 1 [di 0, di 0]), some (.dat 1 [di 0, di 1]), some (.dat 1 [di 1, di 0]), some (.dat 1 [di 0])]⟩ | _ => ⟨[(0, .d (di 2)), (6, .sl 0 0 4 1), (8, .sl 1 0 1 1), (12, .d (di 2)), (13, .d (di ((1 : Nat) : Int))), (16, .sl 2 0 2 1), (17, .d (di ((2 : Nat) : Int))), (18, .d (di ((1 : Nat) : Int))), (22, .d (di 2)), (23, .d (di ((2 : Nat) : Int)))], [some (.mix [.sl 3 0 2 1, .sl 4 0 2 1, .sl 5 0 2 1, .sl 6 0 2 1]), some (.dat 1 [di 1]), some (.mix [.sl 7 0 1 1, .sl 1 0 1 1]), some (.dat 1 [di 0, di 0]), some (.dat 1 [di 0, di 1]), some (.dat 1 [di 1, di 0]), some (.dat 1 [di 1, di 1]), some (.dat 1 [di 0])]⟩) (fun i => i ≤ 2) (fun i => 2 - i) 0 ?_ ?_ ?_
          · simp -implicitDefEqProofs (maxSteps := 1000000) (disch := (first | omega | (simp only [go_sem] <;> omega) | fail)) only [go_sem, ints, bools, mat]
            all_goals rfl
          · exact Nat.zero_le _
          · rintro j hj J3 hJ3
            rcases j with _ | _ | _ | j
            · repeat' (first | simp -implicitDefEqProofs (maxSteps := 1000000) (disch := (first | omega | (simp only [go_sem] <;> omega) | fail)) only [go_sem, ints, bools, mat] | ((first | apply goIf_b | apply goG_b | apply goTG_b | apply goOG_b) <;> intro h <;> ((try simp only [hnq] at h); (try simp only [h]); (try simp only [hnr] at h)) <;> (try (exfalso; omega))))
              first | refine goC_call [.r] (d_slices_Clone_ints [1] (by decide)) ?_ | refine goOC_call [.r] (d_slices_Clone_ints [1] (by decide)) ?_
              repeat' (first | simp -implicitDefEqProofs (maxSteps := 1000000) (disch := (first | omega | (simp only [go_sem] <;> omega) | fail)) only [go_sem, ints, bools, mat, flat_n0] | ((first | apply goIf_b | apply goG_b | apply goTG_b | apply goOG_b) <;> intro h <;> ((try simp only [hnq] at h); (try simp only [h]); (try simp only [hnr] at h)) <;> (try (exfalso; omega))))
              refine hJ3 1 (by omega) (by omega) _ (by (simp -implicitDefEqProofs (maxSteps := 1000000) (disch := (first | omega | (simp only [go_sem] <;> omega) | fail)) only [go_sem, ints, bools, mat] <;> rfl))
            · repeat' (first | simp -implicitDefEqProofs (maxSteps := 1000000) (disch := (first | omega | (simp only [go_sem] <;> omega) | fail)) only [go_sem, ints, bools, mat] | ((first | apply goIf_b | apply goG_b | apply goTG_b | apply goOG_b) <;> intro h <;> ((try simp only [hnq] at h); (try simp only [h]); (try simp only [hnr] at h)) <;> (try (exfalso; omega))))
              first | refine goC_call [.r] (d_slices_Clone_ints [1] (by decide)) ?_ | refine goOC_call [.r] (d_slices_Clone_ints [1] (by decide)) ?_
              repeat' (first | simp -implicitDefEqProofs (maxSteps := 1000000) (disch := (first | omega | (simp only [go_sem] <;> omega) | fail)) only [go_sem, ints, bools, mat, flat_n0] | ((first | apply goIf_b | apply goG_b | apply goTG_b | apply goOG_b) <;> intro h <;> ((try simp only [hnq] at h); (try simp only [h]); (try simp only [hnr] at h)) <;> (try (exfalso; omega))))
              refine hJ3 2 (by omega) (by omega) _ (by (simp -implicitDefEqProofs (maxSteps := 1000000) (disch := (first | omega | (simp only [go_sem] <;> omega) | fail)) only [go_sem, ints, bools, mat] <;> rfl))
            · repeat' (first | simp -implicitDefEqProofs (maxSteps := 1000000) (disch := (first | omega | (simp only [go_sem] <;> omega) | fail)) only [go_sem, ints, bools, mat] | ((first | apply goIf_b | apply goG_b | apply goTG_b | apply goOG_b) <;> intro h <;> ((try simp only [hnq] at h); (try simp only [h]); (try simp only [hnr] at h)) <;> (try (exfalso; omega))))
              refine hJ2 2 (by omega) (by omega) _ (by (simp -implicitDefEqProofs (maxSteps := 1000000) (disch := (first | omega | (simp only [go_sem] <;> omega) | fail)) only [go_sem, ints, bools, mat] <;> rfl))
            · omega
        · repeat' (first | simp -implicitDefEqProofs (maxSteps := 1000000) (disch := (first | omega | (simp only [go_sem] <;> omega) | fail)) only [go_sem, ints, bools, mat] | ((first | apply goIf_b | apply goG_b | apply goTG_b | apply goOG_b) <;> intro h <;> ((try simp only [hnq] at h); (try simp only [h]); (try simp only [hnr] at h)) <;> (try (exfalso; omega))))
          refine hJ 2 (by omega) (by omega) _ (by (simp -implicitDefEqProofs (maxSteps := 1000000) (disch := (first | omega | (simp only [go_sem] <;> omega) | fail)) only [go_sem, ints, bools, mat] <;> rfl))
        · omega
    · repeat' (first | simp -implicitDefEqProofs (maxSteps := 1000000) (disch := (first | omega | (simp only [go_sem] <;> omega) | fail)) only [go_sem, ints, bools, mat] | ((first | apply goIf_b | apply goG_b | apply goTG_b | apply goOG_b) <;> intro h <;> ((try simp only [hnq] at h); (try simp only [h]); (try simp only [hnr] at h)) <;> (try (exfalso; omega))))
      first | refine goC_call [.o, .g (fnL (fun x => x.length ≤ 3) badR)] (d_DeleteFunc_22 (fnL (fun x => x.length ≤ 3) badR) (fun l hl => ⟨_, hl, rfl, rfl⟩)) ?_ | refine goOC_call [.o, .g (fnL (fun x => x.length ≤ 3) badR)] (d_DeleteFunc_22 (fnL (fun x => x.length ≤ 3) badR) (fun l hl => ⟨_, hl, rfl, rfl⟩)) ?_
      repeat' (first | simp -implicitDefEqProofs (maxSteps := 1000000) (disch := (first | omega | (simp only [go_sem] <;> omega) | fail)) only [go_sem, ints, bools, mat] | ((first | apply goIf_b | apply goG_b | apply goTG_b | apply goOG_b) <;> intro h <;> ((try simp only [hnq] at h); (try simp only [h]); (try simp only [hnr] at h)) <;> (try (exfalso; omega))))
      refine chk_intro (fnOK_mk (d_impl_columnsFor_1 [] (by simp)).1 [] rfl fun ds r hg => ?_) ?_
      · obtain ⟨n, hn, rfl, rfl⟩ := hg
        exact ⟨_, d_impl_columnsFor_1 n hn⟩
      repeat' (first | simp -implicitDefEqProofs (maxSteps := 1000000) (disch := (first | omega | (simp only [go_sem] <;> omega) | fail)) only [go_sem, ints, bools, mat] | ((first | apply goIf_b | apply goG_b | apply goTG_b | apply goOG_b) <;> intro h <;> ((try simp only [hnq] at h); (try simp only [h]); (try simp only [hnr] at h)) <;> (try (exfalso; omega))))
    · omega
theorem d_hammingCode_22 : Den PA f_impl_hammingCode [.d (di 2), .d (di 2), .d (di 1)] [.any, .any, .any] (.d (di 0)) := by
  refine den_go [] l_impl_hammingCode ?_
  repeat' (first | simp -implicitDefEqProofs (maxSteps := 1000000) (disch := (first | omega | (simp only [go_sem] <;> omega) | fail)) only [go_sem, ints, bools, mat, c_impl_hammingCode] | ((first | apply goIf_b | apply goG_b | apply goTG_b | apply goOG_b) <;> intro h <;> ((try simp only [hnq] at h); (try simp only [h]); (try simp only [hnr] at h)) <;> (try (exfalso; omega))))
  first | refine goC_call [.r, .r] (d_columnsFor_22) ?_ | refine goOC_call [.r, .r] (d_columnsFor_22) ?_
  repeat' (first | simp -implicitDefEqProofs (maxSteps := 1000000) (disch := (first | omega | (simp only [go_sem] <;> omega) | fail)) only [go_sem, ints, bools, mat] | ((first | apply goIf_b | apply goG_b | apply goTG_b | apply goOG_b) <;> intro h <;> ((try simp only [hnq] at h); (try simp only [h]); (try simp only [hnr] at h)) <;> (try (exfalso; omega))))
theorem d_impl_ColumnsFor_22 : Den PA f_impl_ColumnsFor [.d (di 2), .d (di 2)] [.any, .any] (.tup [.ownm [.own 1 ([0, 1].map di), .own 1 ([1, 0].map di), .own 1 ([1, 1].map di)], .d (di 0)]) := by
  refine den_go [] l_impl_ColumnsFor ?_
  repeat' (first | simp -implicitDefEqProofs (maxSteps := 1000000) (disch := (first | omega | (simp only [go_sem] <;> omega) | fail)) only [go_sem, ints, bools, mat, c_impl_ColumnsFor] | ((first | apply goIf_b | apply goG_b | apply goTG_b | apply goOG_b) <;> intro h <;> ((try simp only [hnq] at h); (try simp only [h]); (try simp only [hnr] at h)) <;> (try (exfalso; omega))))
  first | refine goC_call [.r, .r, .r] (d_hammingCode_22) ?_ | refine goOC_call [.r, .r, .r] (d_hammingCode_22) ?_
  repeat' (first | simp -implicitDefEqProofs (maxSteps := 1000000) (disch := (first | omega | (simp only [go_sem] <;> omega) | fail)) only [go_sem, ints, bools, mat] | ((first | apply goIf_b | apply goG_b | apply goTG_b | apply goOG_b) <;> intro h <;> ((try simp only [hnq] at h); (try simp only [h]); (try simp only [hnr] at h)) <;> (try (exfalso; omega))))
  first | refine goC_call [.r, .r] (d_columnsFor_22) ?_ | refine goOC_call [.r, .r] (d_columnsFor_22) ?_
  repeat' (first | simp -implicitDefEqProofs (maxSteps := 1000000) (disch := (first | omega | (simp only [go_sem] <;> omega) | fail)) only [go_sem, ints, bools, mat] | ((first | apply goIf_b | apply goG_b | apply goTG_b | apply goOG_b) <;> intro h <;> ((try simp only [hnq] at h); (try simp only [h]); (try simp only [hnr] at h)) <;> (try (exfalso; omega))))
theorem d_IndexFunc_31 (g : List D → Value → Prop) (hg : ∀ l : List Int, l.length ≤ 3 → g [ints l] (.bool (badR l))) : Den PA f_slices_IndexFunc_____int64___int64_ [.ownm [.own 1 ([0].map di), .own 1 ([1].map di), .own 1 ([2].map di)], .pfn g] [.ownm [.own 1 ([0].map di), .own 1 ([1].map di), .own 1 ([2].map di)], .any] (.d (di 0)) := by
  refine den_go [0] l_slices_IndexFunc_____int64___int64_ ?_
  repeat' (first | simp -implicitDefEqProofs (maxSteps := 1000000) (disch := (first | omega | (simp only [go_sem] <;> omega) | fail)) only [go_sem, ints, bools, mat, c_slices_IndexFunc_____int64___int64_] | ((first | apply goIf_b | apply goG_b | apply goTG_b | apply goOG_b) <;> intro h <;> ((try simp only [hnq] at h); (try simp only [h]); (try simp only [hnr] at h)) <;> (try (exfalso; omega))))
  refine go_loop (fun (_ : Unit) => ⟨[(0, .sl 0 0 3 1), (1, .pfn g), (7, .d (di ((3 : Nat) : Int))), (8, .d (di 0)), (19, .sl 0 0 3 1)], [some (.mix [.sl 1 0 1 1, .sl 2 0 1 1, .sl 3 0 1 1]), some (.dat 1 [di 0]), some (.dat 1 [di 1]), some (.dat 1 [di 2])]⟩) (fun _ => True) (fun _ => 0) () ?_ trivial ?_
  · simp -implicitDefEqProofs (maxSteps := 1000000) (disch := (first | omega | (simp only [go_sem] <;> omega) | fail)) only [go_sem, ints, bools, mat]
    all_goals rfl
  · intro _ _ J _
    repeat' (first | simp -implicitDefEqProofs (maxSteps := 1000000) (disch := (first | omega | (simp only [go_sem] <;> omega) | fail)) only [go_sem, ints, bools, mat] | ((first | apply goIf_b | apply goG_b | apply goTG_b | apply goOG_b) <;> intro h <;> ((try simp only [hnq] at h); (try simp only [h]); (try simp only [hnr] at h)) <;> (try (exfalso; omega))))
    refine goV_pfn [ints [0]] (.bool true) (by simp -implicitDefEqProofs (maxSteps := 1000000) (disch := (first | omega | (simp only [go_sem] <;> omega) | fail)) only [go_sem, ints, bools, mat]) rfl (hg [0] (by decide)) ?_
    repeat' (first | simp -implicitDefEqProofs (maxSteps := 1000000) (disch := (first | omega | (simp only [go_sem] <;> omega) | fail)) only [go_sem, ints, bools, mat] | ((first | apply goIf_b | apply goG_b | apply goTG_b | apply goOG_b) <;> intro h <;> ((try simp only [hnq] at h); (try simp only [h]); (try simp only [hnr] at h)) <;> (try (exfalso; omega))))
theorem d_DeleteFunc_31 (g : List D → Value → Prop) (hg : ∀ l : List Int, l.length ≤ 3 → g [ints l] (.bool (badR l))) : Den PA f_slices_DeleteFunc_____int64___int64_ [.ownm [.own 1 ([0].map di), .own 1 ([1].map di), .own 1 ([2].map di)], .pfn g] [.any, .any] (.ownm [.own 1 ([1].map di)]) := by
  refine den_go [] l_slices_DeleteFunc_____int64___int64_ ?_
  repeat' (first | simp -implicitDefEqProofs (maxSteps := 1000000) (disch := (first | omega | (simp only [go_sem] <;> omega) | fail)) only [go_sem, ints, bools, mat, c_slices_DeleteFunc_____int64___int64_] | ((first | apply goIf_b | apply goG_b | apply goTG_b | apply goOG_b) <;> intro h <;> ((try simp only [hnq] at h); (try simp only [h]); (try simp only [hnr] at h)) <;> (try (exfalso; omega))))
  first | refine goC_of [.o, .g g] (d_IndexFunc_31 g hg) (by first | (simp -implicitDefEqProofs (maxSteps := 1000000) (disch := (first | omega | (simp only [go_sem] <;> omega) | fail)) only [go_sem, ints, bools, mat] <;> rfl) | rfl) (by first | (simp -implicitDefEqProofs (maxSteps := 1000000) (disch := (first | omega | (simp only [go_sem] <;> omega) | fail)) only [go_sem, ints, bools, mat] <;> rfl) | rfl) (⟨trivial, fun _ _ h => h, trivial⟩) (by first | (simp -implicitDefEqProofs (maxSteps := 1000000) (disch := (first | omega | (simp only [go_sem] <;> omega) | fail)) only [go_sem, ints, bools, mat] <;> rfl) | rfl) ?_ | refine goOC_of [.o, .g g] (d_IndexFunc_31 g hg) (by first | (simp -implicitDefEqProofs (maxSteps := 1000000) (disch := (first | omega | (simp only [go_sem] <;> omega) | fail)) only [go_sem, ints, bools, mat] <;> rfl) | rfl) (by first | (simp -implicitDefEqProofs (maxSteps := 1000000) (disch := (first | omega | (simp only [go_sem] <;> omega) | fail)) only [go_sem, ints, bools, mat] <;> rfl) | rfl) (by first | (simp -implicitDefEqProofs (maxSteps := 1000000) (disch := (first | omega | (simp only [go_sem] <;> omega) | fail)) only [go_sem, ints, bools, mat] <;> rfl) | rfl) (⟨trivial, fun _ _ h => h, trivial⟩) (by first | (simp -implicitDefEqProofs (maxSteps := 1000000) (disch := (first | omega | (simp only [go_sem] <;> omega) | fail)) only [go_sem, ints, bools, mat] <;> rfl) | rfl) ?_
  repeat' (first | simp -implicitDefEqProofs (maxSteps := 1000000) (disch := (first | omega | (simp only [go_sem] <;> omega) | fail)) only [go_sem, ints, bools, mat] | ((first | apply goIf_b | apply goG_b | apply goTG_b | apply goOG_b) <;> intro h <;> ((try simp only [hnq] at h); (try simp only [h]); (try simp only [hnr] at h)) <;> (try (exfalso; omega))))
  refine go_loop (fun (i : Nat) => match i with | 0 => ⟨[(0, .sl 0 0 3 1), (1, .pfn g), (5, .d (di ((0 : Nat) : Int))), (6, .d (di ((1 : Nat) : Int))), (42, .any)], [some (.mix [.sl 1 0 1 1, .sl 2 0 1 1, .sl 3 0 1 1]), some (.dat 1 [di 0]), some (.dat 1 [di 1]), some (.dat 1 [di 2])]⟩ | 1 => ⟨[(0, .sl 0 0 3 1), (1, .pfn g), (5, .d (di ((1 : Nat) : Int))), (6, .d (di ((2 : Nat) : Int))), (42, .any)], [some (.mix [.sl 1 0 1 1, .sl 1 0 1 1, .sl 2 0 1 1]), some (.dat 1 [di 1]), some (.dat 1 [di 2])]⟩ | _ => ⟨[(0, .sl 0 0 3 1), (1, .pfn g), (5, .d (di ((1 : Nat) : Int))), (6, .d (di ((3 : Nat) : Int))), (42, .any)], [some (.mix [.sl 1 0 1 1, .sl 1 0 1 1, .sl 2 0 1 1]), some (.dat 1 [di 1]), some (.dat 1 [di 2])]⟩) (fun i => i ≤ 2) (fun i => 2 - i) 0 ?_ ?_ ?_
  · simp -implicitDefEqProofs (maxSteps := 1000000) (disch := (first | omega | (simp only [go_sem] <;> omega) | fail)) only [go_sem, ints, bools, mat]
    all_goals rfl
  · exact Nat.zero_le _
  · rintro i hi J hJ
    rcases i with _ | _ | _ | i
    · repeat' (first | simp -implicitDefEqProofs (maxSteps := 1000000) (disch := (first | omega | (simp only [go_sem] <;> omega) | fail)) only [go_sem, ints, bools, mat] | ((first | apply goIf_b | apply goG_b | apply goTG_b | apply goOG_b) <;> intro h <;> ((try simp only [hnq] at h); (try simp only [h]); (try simp only [hnr] at h)) <;> (try (exfalso; omega))))
      refine goV_pfn [ints [1]] (.bool false) (by simp -implicitDefEqProofs (maxSteps := 1000000) (disch := (first | omega | (simp only [go_sem] <;> omega) | fail)) only [go_sem, ints, bools, mat]) rfl (hg [1] (by decide)) ?_
      repeat' (first | simp -implicitDefEqProofs (maxSteps := 1000000) (disch := (first | omega | (simp only [go_sem] <;> omega) | fail)) only [go_sem, ints, bools, mat] | ((first | apply goIf_b | apply goG_b | apply goTG_b | apply goOG_b) <;> intro h <;> ((try simp only [hnq] at h); (try simp only [h]); (try simp only [hnr] at h)) <;> (try (exfalso; omega))))
      refine hJ 1 (by omega) (by omega) _ (by (simp -implicitDefEqProofs (maxSteps := 1000000) (disch := (first | omega | (simp only [go_sem] <;> omega) | fail)) only [go_sem, ints, bools, mat] <;> rfl))
    · repeat' (first | simp -implicitDefEqProofs (maxSteps := 1000000) (disch := (first | omega | (simp only [go_sem] <;> omega) | fail)) only [go_sem, ints, bools, mat] | ((first | apply goIf_b | apply goG_b | apply goTG_b | apply goOG_b) <;> intro h <;> ((try simp only [hnq] at h); (try simp only [h]); (try simp only [hnr] at h)) <;> (try (exfalso; omega))))
      refine goV_pfn [ints [2]] (.bool true) (by simp -implicitDefEqProofs (maxSteps := 1000000) (disch := (first | omega | (simp only [go_sem] <;> omega) | fail)) only [go_sem, ints, bools, mat]) rfl (hg [2] (by decide)) ?_
      repeat' (first | simp -implicitDefEqProofs (maxSteps := 1000000) (disch := (first | omega | (simp only [go_sem] <;> omega) | fail)) only [go_sem, ints, bools, mat] | ((first | apply goIf_b | apply goG_b | apply goTG_b | apply goOG_b) <;> intro h <;> ((try simp only [hnq] at h); (try simp only [h]); (try simp only [hnr] at h)) <;> (try (exfalso; omega))))
      refine hJ 2 (by omega) (by omega) _ (by (simp -implicitDefEqProofs (maxSteps := 1000000) (disch := (first | omega | (simp only [go_sem] <;> omega) | fail)) only [go_sem, ints, bools, mat] <;> rfl))
    · repeat' (first | simp -implicitDefEqProofs (maxSteps := 1000000) (disch := (first | omega | (simp only [go_sem] <;> omega) | fail)) only [go_sem, ints, bools, mat, clrM, oneD, List.replicate_succ, List.replicate_zero] | ((first | apply goIf_b | apply goG_b | apply goTG_b | apply goOG_b) <;> intro h <;> ((try simp only [hnq] at h); (try simp only [h]); (try simp only [hnr] at h)) <;> (try (exfalso; omega))))
    · omega
theorem d_columnsFor_31 : Den PA f_impl_columnsFor [.d (di 3), .d (di 1)] [.any, .any] (.ownm [.own 1 ([1].map di)]) := by
  refine den_go [] l_impl_columnsFor ?_
  repeat' (first | simp -implicitDefEqProofs (maxSteps := 1000000) (disch := (first | omega | (simp only [go_sem] <;> omega) | fail)) only [go_sem, ints, bools, mat, c_impl_columnsFor] | ((first | apply goIf_b | apply goG_b | apply goTG_b | apply goOG_b) <;> intro h <;> ((try simp only [hnq] at h); (try simp only [h]); (try simp only [hnr] at h)) <;> (try (exfalso; omega))))
  refine go_loop (fun (i : Nat) => match i with | 0 => ⟨[(0, .d (di 3)), (5, .sl 0 0 1 1), (12, .d (di 1)), (13, .d (di ((0 : Nat) : Int)))], [some (.mix [.sl 1 0 0 1]), some (.dat 1 [])]⟩ | _ => ⟨[(0, .d (di 3)), (5, .sl 0 0 3 1), (12, .d (di 1)), (13, .d (di ((1 : Nat) : Int)))], [some (.mix [.sl 1 0 1 1, .sl 2 0 1 1, .sl 3 0 1 1]), some (.dat 1 [di 0]), some (.dat 1 [di 1]), some (.dat 1 [di 2])]⟩) (fun i => i ≤ 1) (fun i => 1 - i) 0 ?_ ?_ ?_
  · simp -implicitDefEqProofs (maxSteps := 1000000) (disch := (first | omega | (simp only [go_sem] <;> omega) | fail)) only [go_sem, ints, bools, mat]
    all_goals rfl
  · exact Nat.zero_le _
  · rintro k hk J hJ
    rcases k with _ | _ | k
    · repeat' (first | simp -implicitDefEqProofs (maxSteps := 1000000) (disch := (first | omega | (simp only [go_sem] <;> omega) | fail)) only [go_sem, ints, bools, mat] | ((first | apply goIf_b | apply goG_b | apply goTG_b | apply goOG_b) <;> intro h <;> ((try simp only [hnq] at h); (try simp only [h]); (try simp only [hnr] at h)) <;> (try (exfalso; omega))))
      refine go_loop (fun (i : Nat) => match i with | 0 => ⟨[(0, .d (di 3)), (6, .sl 0 0 0 1), (12, .d (di 1)), (13, .d (di ((0 : Nat) : Int))), (16, .sl 1 0 1 1), (17, .d (di ((1 : Nat) : Int))), (18, .d (di ((0 : Nat) : Int)))], [some (.dat 1 []), some (.mix [.sl 2 0 0 1]), some (.dat 1 [])]⟩ | _ => ⟨[(0, .d (di 3)), (6, .sl 0 0 3 1), (12, .d (di 1)), (13, .d (di ((0 : Nat) : Int))), (16, .sl 1 0 1 1), (17, .d (di ((1 : Nat) : Int))), (18, .d (di ((1 : Nat) : Int)))], [some (.mix [.sl 2 0 1 1, .sl 3 0 1 1, .sl 4 0 1 1]), some (.mix [.sl 5 0 0 1]), some (.dat 1 [di 0]), some (.dat 1 [di 1]), some (.dat 1 [di 2]), some (.dat 1 [])]⟩) (fun i => i ≤ 1) (fun i => 1 - i) 0 ?_ ?_ ?_
      · simp -implicitDefEqProofs (maxSteps := 1000000) (disch := (first | omega | (simp only [go_sem] <;> omega) | fail)) only [go_sem, ints, bools, mat]
        all_goals rfl
      · exact Nat.zero_le _
      · rintro i hi J2 hJ2
        rcases i with _ | _ | i
        · repeat' (first | simp -implicitDefEqProofs (maxSteps := 1000000) (disch := (first | omega | (simp only [go_sem] <;> omega) | fail)) only [go_sem, ints, bools, mat] | ((first | apply goIf_b | apply goG_b | apply goTG_b | apply goOG_b) <;> intro h <;> ((try simp only [hnq] at h); (try simp only [h]); (try simp only [hnr] at h)) <;> (try (exfalso; omega))))
          refine go_loop (fun (i : Nat) => match i with | 0 => ⟨[(0, .d (di 3)), (6, .sl 0 0 0 1), (8, .sl 1 0 0 1), (12, .d (di 1)), (13, .d (di ((0 : Nat) : Int))), (16, .sl 2 0 1 1), (17, .d (di ((1 : Nat) : Int))), (18, .d (di ((0 : Nat) : Int))), (22, .d (di 3)), (23, .d (di ((0 : Nat) : Int)))], [some (.dat 1 []), some (.dat 1 []), some (.mix [.sl 1 0 0 1])]⟩ | 1 => ⟨[(0, .d (di 3)), (6, .sl 0 0 1 1), (8, .sl 1 0 0 1), (12, .d (di 1)), (13, .d (di ((0 : Nat) : Int))), (16, .sl 2 0 1 1), (17, .d (di ((1 : Nat) : Int))), (18, .d (di ((0 : Nat) : Int))), (22, .d (di 3)), (23, .d (di ((1 : Nat) : Int)))], [some (.mix [.sl 3 0 1 1]), some (.dat 1 []), some (.mix [.sl 1 0 0 1]), some (.dat 1 [di 0])]⟩ | 2 => ⟨[(0, .d (di 3)), (6, .sl 0 0 2 1), (8, .sl 1 0 0 1), (12, .d (di 1)), (13, .d (di ((0 : Nat) : Int))), (16, .sl 2 0 1 1), (17, .d (di ((1 : Nat) : Int))), (18, .d (di ((0 : Nat) : Int))), (22, .d (di 3)), (23, .d (di ((2 : Nat) : Int)))], [some (.mix [.sl 3 0 1 1, .sl 4 0 1 1]), some (.dat 1 []), some (.mix [.sl 1 0 0 1]), some (.dat 1 [di 0]), some (.dat 1 [di 1])]⟩ | _ => ⟨[(0, .d (di 3)), (6, .sl 0 0 3 1), (8, .sl 1 0 0 1), (12, .d (di 1)), (13, .d (di ((0 : Nat) : Int))), (16, .sl 2 0 1 1), (17, .d (di ((1 : Nat) : Int))), (18, .d (di ((0 : Nat) : Int))), (22, .d (di 3)), (23, .d (di ((3 : Nat) : Int)))], [some (.mix [.sl 3 0 1 1, .sl 4 0 1 1, .sl 5 0 1 1]), some (.dat 1 []), some (.mix [.sl 1 0 0 1]), some (.dat 1 [di 0]), some (.dat 1 [di 1]), some (.dat 1 [di 2])]⟩) (fun i => i ≤ 3) (fun i => 3 - i) 0 ?_ ?_ ?_
          · simp -implicitDefEqProofs (maxSteps := 1000000) (disch := (first | omega | (simp only [go_sem] <;> omega) | fail)) only [go_sem, ints, bools, mat]
            all_goals rfl
          · exact Nat.zero_le _
          · rintro j hj J3 hJ3
            rcases j with _ | _ | _ | _ | j
            · repeat' (first | simp -implicitDefEqProofs (maxSteps := 1000000) (disch := (first | omega | (simp only [go_sem] <;> omega) | fail)) only [go_sem, ints, bools, mat] | ((first | apply goIf_b | apply goG_b | apply goTG_b | apply goOG_b) <;> intro h <;> ((try simp only [hnq] at h); (try simp only [h]); (try simp only [hnr] at h)) <;> (try (exfalso; omega))))
              first | refine goC_call [.r] (d_slices_Clone_ints [] (by decide)) ?_ | refine goOC_call [.r] (d_slices_Clone_ints [] (by decide)) ?_
              repeat' (first | simp -implicitDefEqProofs (maxSteps := 1000000) (disch := (first | omega | (simp only [go_sem] <;> omega) | fail)) only [go_sem, ints, bools, mat, flat_n0] | ((first | apply goIf_b | apply goG_b | apply goTG_b | apply goOG_b) <;> intro h <;> ((try simp only [hnq] at h); (try simp only [h]); (try simp only [hnr] at h)) <;> (try (exfalso; omega))))
              refine hJ3 1 (by omega) (by omega) _ (by (simp -implicitDefEqProofs (maxSteps := 1000000) (disch := (first | omega | (simp only [go_sem] <;> omega) | fail)) only [go_sem, ints, bools, mat] <;> rfl))
            · repeat' (first | simp -implicitDefEqProofs (maxSteps := 1000000) (disch := (first | omega | (simp only [go_sem] <;> omega) | fail)) only [go_sem, ints, bools, mat] | ((first | apply goIf_b | apply goG_b | apply goTG_b | apply goOG_b) <;> intro h <;> ((try simp only [hnq] at h); (try simp only [h]); (try simp only [hnr] at h)) <;> (try (exfalso; omega))))
              first | refine goC_call [.r] (d_slices_Clone_ints [] (by decide)) ?_ | refine goOC_call [.r] (d_slices_Clone_ints [] (by decide)) ?_
              repeat' (first | simp -implicitDefEqProofs (maxSteps := 1000000) (disch := (first | omega | (simp only [go_sem] <;> omega) | fail)) only [go_sem, ints, bools, mat, flat_n0] | ((first | apply goIf_b | apply goG_b | apply goTG_b | apply goOG_b) <;> intro h <;> ((try simp only [hnq] at h); (try simp only [h]); (try simp only [hnr] at h)) <;> (try (exfalso; omega))))
              refine hJ3 2 (by omega) (by omega) _ (by (simp -implicitDefEqProofs (maxSteps := 1000000) (disch := (first | omega | (simp only [go_sem] <;> omega) | fail)) only [go_sem, ints, bools, mat] <;> rfl))
            · repeat' (first | simp -implicitDefEqProofs (maxSteps := 1000000) (disch := (first | omega | (simp only [go_sem] <;> omega) | fail)) only [go_sem, ints, bools, mat] | ((first | apply goIf_b | apply goG_b | apply goTG_b | apply goOG_b) <;> intro h <;> ((try simp only [hnq] at h); (try simp only [h]); (try simp only [hnr] at h)) <;> (try (exfalso; omega))))
              first | refine goC_call [.r] (d_slices_Clone_ints [] (by decide)) ?_ | refine goOC_call [.r] (d_slices_Clone_ints [] (by decide)) ?_
              repeat' (first | simp -implicitDefEqProofs (maxSteps := 1000000) (disch := (first | omega | (simp only [go_sem] <;> omega) | fail)) only [go_sem, ints, bools, mat, flat_n0] | ((first | apply goIf_b | apply goG_b | apply goTG_b | apply goOG_b) <;> intro h <;> ((try simp only [hnq] at h); (try simp only [h]); (try simp only [hnr] at h)) <;> (try (exfalso; omega))))
              refine hJ3 3 (by omega) (by omega) _ (by (simp -implicitDefEqProofs (maxSteps := 1000000) (disch := (first | omega | (simp only [go_sem] <;> omega) | fail)) only [go_sem, ints, bools, mat] <;> rfl))
            · repeat' (first | simp -implicitDefEqProofs (maxSteps := 1000000) (disch := (first | omega | (simp only [go_sem] <;> omega) | fail)) only [go_sem, ints, bools, mat] | ((first | apply goIf_b | apply goG_b | apply goTG_b | apply goOG_b) <;> intro h <;> ((try simp only [hnq] at h); (try simp only [h]); (try simp only [hnr] at h)) <;> (try (exfalso; omega))))
              refine hJ2 1 (by omega) (by omega) _ (by (simp -implicitDefEqProofs (maxSteps := 1000000) (disch := (first | omega | (simp only [go_sem] <;> omega) | fail)) only [go_sem, ints, bools, mat] <;> rfl))
            · omega
        · repeat' (first | simp -implicitDefEqProofs (maxSteps := 1000000) (disch := (first | omega | (simp only [go_sem] <;> omega) | fail)) only [go_sem, ints, bools, mat] | ((first | apply goIf_b | apply goG_b | apply goTG_b | apply goOG_b) <;> intro h <;> ((try simp only [hnq] at h); (try simp only [h]); (try simp only [hnr] at h)) <;> (try (exfalso; omega))))
          refine hJ 1 (by omega) (by omega) _ (by (simp -implicitDefEqProofs (maxSteps := 1000000) (disch := (first | omega | (simp only [go_sem] <;> omega) | fail)) only [go_sem, ints, bools, mat] <;> rfl))
        · omega
    · repeat' (first | simp -implicitDefEqProofs (maxSteps := 1000000) (disch := (first | omega | (simp only [go_sem] <;> omega) | fail)) only [go_sem, ints, bools, mat] | ((first | apply goIf_b | apply goG_b | apply goTG_b | apply goOG_b) <;> intro h <;> ((try simp only [hnq] at h); (try simp only [h]); (try simp only [hnr] at h)) <;> (try (exfalso; omega))))
      first | refine goC_call [.o, .g (fnL (fun x => x.length ≤ 3) badR)] (d_DeleteFunc_31 (fnL (fun x => x.length ≤ 3) badR) (fun l hl => ⟨_, hl, rfl, rfl⟩)) ?_ | refine goOC_call [.o, .g (fnL (fun x => x.length ≤ 3) badR)] (d_DeleteFunc_31 (fnL (fun x => x.length ≤ 3) badR) (fun l hl => ⟨_, hl, rfl, rfl⟩)) ?_
      repeat' (first | simp -implicitDefEqProofs (maxSteps := 1000000) (disch := (first | omega | (simp only [go_sem] <;> omega) | fail)) only [go_sem, ints, bools, mat] | ((first | apply goIf_b | apply goG_b | apply goTG_b | apply goOG_b) <;> intro h <;> ((try simp only [hnq] at h); (try simp only [h]); (try simp only [hnr] at h)) <;> (try (exfalso; omega))))
      refine chk_intro (fnOK_mk (d_impl_columnsFor_1 [] (by simp)).1 [] rfl fun ds r hg => ?_) ?_
      · obtain ⟨n, hn, rfl, rfl⟩ := hg
        exact ⟨_, d_impl_columnsFor_1 n hn⟩
      repeat' (first | simp -implicitDefEqProofs (maxSteps := 1000000) (disch := (first | omega | (simp only [go_sem] <;> omega) | fail)) only [go_sem, ints, bools, mat] | ((first | apply goIf_b | apply goG_b | apply goTG_b | apply goOG_b) <;> intro h <;> ((try simp only [hnq] at h); (try simp only [h]); (try simp only [hnr] at h)) <;> (try (exfalso; omega))))
    · omega
theorem d_hammingCode_31 : Den PA f_impl_hammingCode [.d (di 3), .d (di 1), .d (di 1)] [.any, .any, .any] (.d (di 0)) := by
  refine den_go [] l_impl_hammingCode ?_
  repeat' (first | simp -implicitDefEqProofs (maxSteps := 1000000) (disch := (first | omega | (simp only [go_sem] <;> omega) | fail)) only [go_sem, ints, bools, mat, c_impl_hammingCode] | ((first | apply goIf_b | apply goG_b | apply goTG_b | apply goOG_b) <;> intro h <;> ((try simp only [hnq] at h); (try simp only [h]); (try simp only [hnr] at h)) <;> (try (exfalso; omega))))
  first | refine goC_call [.r, .r] (d_columnsFor_31) ?_ | refine goOC_call [.r, .r] (d_columnsFor_31) ?_
  repeat' (first | simp -implicitDefEqProofs (maxSteps := 1000000) (disch := (first | omega | (simp only [go_sem] <;> omega) | fail)) only [go_sem, ints, bools, mat] | ((first | apply goIf_b | apply goG_b | apply goTG_b | apply goOG_b) <;> intro h <;> ((try simp only [hnq] at h); (try simp only [h]); (try simp only [hnr] at h)) <;> (try (exfalso; omega))))
theorem d_impl_ColumnsFor_31 : Den PA f_impl_ColumnsFor [.d (di 3), .d (di 1)] [.any, .any] (.tup [.ownm [.own 1 ([1].map di)], .d (di 0)]) := by
  refine den_go [] l_impl_ColumnsFor ?_
  repeat' (first | simp -implicitDefEqProofs (maxSteps := 1000000) (disch := (first | omega | (simp only [go_sem] <;> omega) | fail)) only [go_sem, ints, bools, mat, c_impl_ColumnsFor] | ((first | apply goIf_b | apply goG_b | apply goTG_b | apply goOG_b) <;> intro h <;> ((try simp only [hnq] at h); (try simp only [h]); (try simp only [hnr] at h)) <;> (try (exfalso; omega))))
  first | refine goC_call [.r, .r, .r] (d_hammingCode_31) ?_ | refine goOC_call [.r, .r, .r] (d_hammingCode_31) ?_
  repeat' (first | simp -implicitDefEqProofs (maxSteps := 1000000) (disch := (first | omega | (simp only [go_sem] <;> omega) | fail)) only [go_sem, ints, bools, mat] | ((first | apply goIf_b | apply goG_b | apply goTG_b | apply goOG_b) <;> intro h <;> ((try simp only [hnq] at h); (try simp only [h]); (try simp only [hnr] at h)) <;> (try (exfalso; omega))))
  first | refine goC_call [.r, .r] (d_columnsFor_31) ?_ | refine goOC_call [.r, .r] (d_columnsFor_31) ?_
  repeat' (first | simp -implicitDefEqProofs (maxSteps := 1000000) (disch := (first | omega | (simp only [go_sem] <;> omega) | fail)) only [go_sem, ints, bools, mat] | ((first | apply goIf_b | apply goG_b | apply goTG_b | apply goOG_b) <;> intro h <;> ((try simp only [hnq] at h); (try simp only [h]); (try simp only [hnr] at h)) <;> (try (exfalso; omega))))
theorem flat_lst (z : Nat) (e : List D) (r : List D) : flat (.lst z e :: r) = .lst z e :: flat r := rfl
theorem flat_n : flat [] = [] := rfl
theorem d_laws_eqInt64SS_1 (r0 : List Int) (h0 : r0.length < 1048577) : Den PA f_laws_eqInt64SS [.ownm [.own 1 (r0.map di)], .d (mat [r0])] [.ownm [.own 1 (r0.map di)], .any] (.d (db true)) := by
  refine den_go [0] l_laws_eqInt64SS ?_
  repeat' (first | simp -implicitDefEqProofs (maxSteps := 1000000) (disch := (first | omega | (simp only [go_sem] <;> omega) | fail)) only [go_sem, ints, bools, mat, c_laws_eqInt64SS] | ((first | apply goIf_b | apply goG_b | apply goTG_b | apply goOG_b) <;> intro h <;> ((try simp only [hnq] at h); (try simp only [h]); (try simp only [hnr] at h)) <;> (try (exfalso; omega))))
  refine go_loop (fun (i : Nat) => ⟨[(0, .sl 0 0 1 1), (1, .d (mat [r0])), (5, .d (di i)), (27, .sl 0 0 1 1)], [some (.mix [.sl 1 0 r0.length 1]), some (.dat 1 (r0.map di))]⟩) (fun i => i ≤ 1) (fun i => 1 - i) 0 ?_ ?_ ?_
  · simp -implicitDefEqProofs (maxSteps := 1000000) (disch := (first | omega | (simp only [go_sem] <;> omega) | fail)) only [go_sem, ints, bools, mat]
    all_goals rfl
  · exact Nat.zero_le _
  · rintro i hi J hJ
    rcases i with _ | _ | i
    · have he := d_laws_eqInt64S r0 r0 h0
      rw [decide_eq_true rfl] at he
      repeat' (first | simp -implicitDefEqProofs (maxSteps := 1000000) (disch := (first | omega | (simp only [go_sem] <;> omega) | fail)) only [go_sem, ints, bools, mat, flat_lst, flat_n] | ((first | apply goIf_b | apply goG_b | apply goTG_b | apply goOG_b) <;> intro h <;> ((try simp only [hnq] at h); (try simp only [h]); (try simp only [hnr] at h)) <;> (try (exfalso; omega))))
      first | refine goC_call [.r, .r] (he) ?_ | refine goOC_call [.r, .r] (he) ?_
      repeat' (first | simp -implicitDefEqProofs (maxSteps := 1000000) (disch := (first | omega | (simp only [go_sem] <;> omega) | fail)) only [go_sem, ints, bools, mat] | ((first | apply goIf_b | apply goG_b | apply goTG_b | apply goOG_b) <;> intro h <;> ((try simp only [hnq] at h); (try simp only [h]); (try simp only [hnr] at h)) <;> (try (exfalso; omega))))
      refine hJ 1 (by omega) (by omega) _ (by (simp -implicitDefEqProofs (maxSteps := 1000000) (disch := (first | omega | (simp only [go_sem] <;> omega) | fail)) only [go_sem, ints, bools, mat] <;> rfl))
    · repeat' (first | simp -implicitDefEqProofs (maxSteps := 1000000) (disch := (first | omega | (simp only [go_sem] <;> omega) | fail)) only [go_sem, ints, bools, mat] | ((first | apply goIf_b | apply goG_b | apply goTG_b | apply goOG_b) <;> intro h <;> ((try simp only [hnq] at h); (try simp only [h]); (try simp only [hnr] at h)) <;> (try (exfalso; omega))))
    · omega
theorem d_laws_markInt64SS_1 (r0 : List Int) (h0 : r0.length < 1048577) (k : Int) (hk : 0 ≤ k) (hk2 : k < 1000000) : Den PA f_laws_markInt64SS [.ownm [.own 1 (r0.map di)], .d (di k)] [.ownm [.own 1 ((markL r0.length (k)).map di)], .any] (.d (di (k + r0.length))) := by
  have hm0 := d_laws_markInt64S r0 (k) h0 (by omega) (by omega)
  have hl0 := markL_len r0.length (k)
  refine den_go [0] l_laws_markInt64SS ?_
  repeat' (first | simp -implicitDefEqProofs (maxSteps := 1000000) (disch := (first | omega | (simp only [go_sem] <;> omega) | fail)) only [go_sem, ints, bools, mat, c_laws_markInt64SS] | ((first | apply goIf_b | apply goG_b | apply goTG_b | apply goOG_b) <;> intro h <;> ((try simp only [hnq] at h); (try simp only [h]); (try simp only [hnr] at h)) <;> (try (exfalso; omega))))
  refine go_loop (fun (i : Nat) => match i with | 0 => ⟨[(0, .sl 0 0 1 1), (1, .d (di (k))), (5, .d (di ((0 : Nat) : Int))), (19, .sl 0 0 1 1)], [some (.mix [.sl 1 0 r0.length 1]), some (.dat 1 ((r0).map di))]⟩ | _ => ⟨[(0, .sl 0 0 1 1), (1, .d (di (k + r0.length))), (5, .d (di ((1 : Nat) : Int))), (19, .sl 0 0 1 1)], [some (.mix [.sl 1 0 r0.length 1]), some (.dat 1 ((markL r0.length (k)).map di))]⟩) (fun i => i ≤ 1) (fun i => 1 - i) 0 ?_ ?_ ?_
  · simp -implicitDefEqProofs (maxSteps := 1000000) (disch := (first | omega | (simp only [go_sem] <;> omega) | fail)) only [go_sem, ints, bools, mat]
    all_goals rfl
  · exact Nat.zero_le _
  · rintro i hi J hJ
    rcases i with _ | _ | i
    · repeat' (first | simp -implicitDefEqProofs (maxSteps := 1000000) (disch := (first | omega | (simp only [go_sem] <;> omega) | fail)) only [go_sem, ints, bools, mat] | ((first | apply goIf_b | apply goG_b | apply goTG_b | apply goOG_b) <;> intro h <;> ((try simp only [hnq] at h); (try simp only [h]); (try simp only [hnr] at h)) <;> (try (exfalso; omega))))
      first | refine goC_call [.o, .r] (hm0) ?_ | refine goOC_call [.o, .r] (hm0) ?_
      repeat' (first | simp -implicitDefEqProofs (maxSteps := 1000000) (disch := (first | omega | (simp only [go_sem] <;> omega) | fail)) only [go_sem, ints, bools, mat, hl0] | ((first | apply goIf_b | apply goG_b | apply goTG_b | apply goOG_b) <;> intro h <;> ((try simp only [hnq] at h); (try simp only [h]); (try simp only [hnr] at h)) <;> (try (exfalso; omega))))
      refine hJ 1 (by omega) (by omega) _ (by (simp -implicitDefEqProofs (maxSteps := 1000000) (disch := (first | omega | (simp only [go_sem] <;> omega) | fail)) only [go_sem, ints, bools, mat, hl0] <;> rfl))
    · repeat' (first | simp -implicitDefEqProofs (maxSteps := 1000000) (disch := (first | omega | (simp only [go_sem] <;> omega) | fail)) only [go_sem, ints, bools, mat] | ((first | apply goIf_b | apply goG_b | apply goTG_b | apply goOG_b) <;> intro h <;> ((try simp only [hnq] at h); (try simp only [h]); (try simp only [hnr] at h)) <;> (try (exfalso; omega))))
    · omega
theorem d_laws_heldInt64SS_1 (r0 : List Int) (h0 : r0.length < 1048577) (k : Int) (hk : 0 ≤ k) (hk2 : k < 1000000) : Den PA f_laws_heldInt64SS [.ownm [.own 1 ((markL r0.length (k)).map di)], .d (di k)] [.ownm [.own 1 ((markL r0.length (k)).map di)], .any] (.d (di (k + r0.length))) := by
  have hm0 := d_laws_heldInt64S r0.length (k) h0 (by omega) (by omega)
  have hl0 := markL_len r0.length (k)
  refine den_go [0] l_laws_heldInt64SS ?_
  repeat' (first | simp -implicitDefEqProofs (maxSteps := 1000000) (disch := (first | omega | (simp only [go_sem] <;> omega) | fail)) only [go_sem, ints, bools, mat, c_laws_heldInt64SS, hl0] | ((first | apply goIf_b | apply goG_b | apply goTG_b | apply goOG_b) <;> intro h <;> ((try simp only [hnq] at h); (try simp only [h]); (try simp only [hnr] at h)) <;> (try (exfalso; omega))))
  refine go_loop (fun (i : Nat) => match i with | 0 => ⟨[(0, .sl 0 0 1 1), (1, .d (di (k))), (5, .d (di ((0 : Nat) : Int))), (21, .sl 0 0 1 1)], [some (.mix [.sl 1 0 r0.length 1]), some (.dat 1 ((markL r0.length (k)).map di))]⟩ | _ => ⟨[(0, .sl 0 0 1 1), (1, .d (di (k + r0.length))), (5, .d (di ((1 : Nat) : Int))), (21, .sl 0 0 1 1)], [some (.mix [.sl 1 0 r0.length 1]), some (.dat 1 ((markL r0.length (k)).map di))]⟩) (fun i => i ≤ 1) (fun i => 1 - i) 0 ?_ ?_ ?_
  · simp -implicitDefEqProofs (maxSteps := 1000000) (disch := (first | omega | (simp only [go_sem] <;> omega) | fail)) only [go_sem, ints, bools, mat, hl0]
    all_goals rfl
  · exact Nat.zero_le _
  · rintro i hi J hJ
    rcases i with _ | _ | i
    · repeat' (first | simp -implicitDefEqProofs (maxSteps := 1000000) (disch := (first | omega | (simp only [go_sem] <;> omega) | fail)) only [go_sem, ints, bools, mat, hl0] | ((first | apply goIf_b | apply goG_b | apply goTG_b | apply goOG_b) <;> intro h <;> ((try simp only [hnq] at h); (try simp only [h]); (try simp only [hnr] at h)) <;> (try (exfalso; omega))))
      first | refine goC_call [.r, .r] (hm0) ?_ | refine goOC_call [.r, .r] (hm0) ?_
      repeat' (first | simp -implicitDefEqProofs (maxSteps := 1000000) (disch := (first | omega | (simp only [go_sem] <;> omega) | fail)) only [go_sem, ints, bools, mat, hl0] | ((first | apply goIf_b | apply goG_b | apply goTG_b | apply goOG_b) <;> intro h <;> ((try simp only [hnq] at h); (try simp only [h]); (try simp only [hnr] at h)) <;> (try (exfalso; omega))))
      refine hJ 1 (by omega) (by omega) _ (by (simp -implicitDefEqProofs (maxSteps := 1000000) (disch := (first | omega | (simp only [go_sem] <;> omega) | fail)) only [go_sem, ints, bools, mat, hl0] <;> rfl))
    · repeat' (first | simp -implicitDefEqProofs (maxSteps := 1000000) (disch := (first | omega | (simp only [go_sem] <;> omega) | fail)) only [go_sem, ints, bools, mat, hl0] | ((first | apply goIf_b | apply goG_b | apply goTG_b | apply goOG_b) <;> intro h <;> ((try simp only [hnq] at h); (try simp only [h]); (try simp only [hnr] at h)) <;> (try (exfalso; omega))))
    · omega
theorem d_laws_eqInt64SS_3 (r0 r1 r2 : List Int) (h0 : r0.length < 1048577) (h1 : r1.length < 1048577) (h2 : r2.length < 1048577) : Den PA f_laws_eqInt64SS [.ownm [.own 1 (r0.map di), .own 1 (r1.map di), .own 1 (r2.map di)], .d (mat [r0, r1, r2])] [.ownm [.own 1 (r0.map di), .own 1 (r1.map di), .own 1 (r2.map di)], .any] (.d (db true)) := by
  refine den_go [0] l_laws_eqInt64SS ?_
  repeat' (first | simp -implicitDefEqProofs (maxSteps := 1000000) (disch := (first | omega | (simp only [go_sem] <;> omega) | fail)) only [go_sem, ints, bools, mat, c_laws_eqInt64SS] | ((first | apply goIf_b | apply goG_b | apply goTG_b | apply goOG_b) <;> intro h <;> ((try simp only [hnq] at h); (try simp only [h]); (try simp only [hnr] at h)) <;> (try (exfalso; omega))))
  refine go_loop (fun (i : Nat) => ⟨[(0, .sl 0 0 3 1), (1, .d (mat [r0, r1, r2])), (5, .d (di i)), (27, .sl 0 0 3 1)], [some (.mix [.sl 1 0 r0.length 1, .sl 2 0 r1.length 1, .sl 3 0 r2.length 1]), some (.dat 1 (r0.map di)), some (.dat 1 (r1.map di)), some (.dat 1 (r2.map di))]⟩) (fun i => i ≤ 3) (fun i => 3 - i) 0 ?_ ?_ ?_
  · simp -implicitDefEqProofs (maxSteps := 1000000) (disch := (first | omega | (simp only [go_sem] <;> omega) | fail)) only [go_sem, ints, bools, mat]
    all_goals rfl
  · exact Nat.zero_le _
  · rintro i hi J hJ
    rcases i with _ | _ | _ | _ | i
    · have he := d_laws_eqInt64S r0 r0 h0
      rw [decide_eq_true rfl] at he
      repeat' (first | simp -implicitDefEqProofs (maxSteps := 1000000) (disch := (first | omega | (simp only [go_sem] <;> omega) | fail)) only [go_sem, ints, bools, mat, flat_lst, flat_n] | ((first | apply goIf_b | apply goG_b | apply goTG_b | apply goOG_b) <;> intro h <;> ((try simp only [hnq] at h); (try simp only [h]); (try simp only [hnr] at h)) <;> (try (exfalso; omega))))
      first | refine goC_call [.r, .r] (he) ?_ | refine goOC_call [.r, .r] (he) ?_
      repeat' (first | simp -implicitDefEqProofs (maxSteps := 1000000) (disch := (first | omega | (simp only [go_sem] <;> omega) | fail)) only [go_sem, ints, bools, mat] | ((first | apply goIf_b | apply goG_b | apply goTG_b | apply goOG_b) <;> intro h <;> ((try simp only [hnq] at h); (try simp only [h]); (try simp only [hnr] at h)) <;> (try (exfalso; omega))))
      refine hJ 1 (by omega) (by omega) _ (by (simp -implicitDefEqProofs (maxSteps := 1000000) (disch := (first | omega | (simp only [go_sem] <;> omega) | fail)) only [go_sem, ints, bools, mat] <;> rfl))
    · have he := d_laws_eqInt64S r1 r1 h1
      rw [decide_eq_true rfl] at he
      repeat' (first | simp -implicitDefEqProofs (maxSteps := 1000000) (disch := (first | omega | (simp only [go_sem] <;> omega) | fail)) only [go_sem, ints, bools, mat, flat_lst, flat_n] | ((first | apply goIf_b | apply goG_b | apply goTG_b | apply goOG_b) <;> intro h <;> ((try simp only [hnq] at h); (try simp only [h]); (try simp only [hnr] at h)) <;> (try (exfalso; omega))))
      first | refine goC_call [.r, .r] (he) ?_ | refine goOC_call [.r, .r] (he) ?_
      repeat' (first | simp -implicitDefEqProofs (maxSteps := 1000000) (disch := (first | omega | (simp only [go_sem] <;> omega) | fail)) only [go_sem, ints, bools, mat] | ((first | apply goIf_b | apply goG_b | apply goTG_b | apply goOG_b) <;> intro h <;> ((try simp only [hnq] at h); (try simp only [h]); (try simp only [hnr] at h)) <;> (try (exfalso; omega))))
      refine hJ 2 (by omega) (by omega) _ (by (simp -implicitDefEqProofs (maxSteps := 1000000) (disch := (first | omega | (simp only [go_sem] <;> omega) | fail)) only [go_sem, ints, bools, mat] <;> rfl))
    · have he := d_laws_eqInt64S r2 r2 h2
      rw [decide_eq_true rfl] at he
      repeat' (first | simp -implicitDefEqProofs (maxSteps := 1000000) (disch := (first | omega | (simp only [go_sem] <;> omega) | fail)) only [go_sem, ints, bools, mat, flat_lst, flat_n] | ((first | apply goIf_b | apply goG_b | apply goTG_b | apply goOG_b) <;> intro h <;> ((try simp only [hnq] at h); (try simp only [h]); (try simp only [hnr] at h)) <;> (try (exfalso; omega))))
      first | refine goC_call [.r, .r] (he) ?_ | refine goOC_call [.r, .r] (he) ?_
      repeat' (first | simp -implicitDefEqProofs (maxSteps := 1000000) (disch := (first | omega | (simp only [go_sem] <;> omega) | fail)) only [go_sem, ints, bools, mat] | ((first | apply goIf_b | apply goG_b | apply goTG_b | apply goOG_b) <;> intro h <;> ((try simp only [hnq] at h); (try simp only [h]); (try simp only [hnr] at h)) <;> (try (exfalso; omega))))
      refine hJ 3 (by omega) (by omega) _ (by (simp -implicitDefEqProofs (maxSteps := 1000000) (disch := (first | omega | (simp only [go_sem] <;> omega) | fail)) only [go_sem, ints, bools, mat] <;> rfl))
    · repeat' (first | simp -implicitDefEqProofs (maxSteps := 1000000) (disch := (first | omega | (simp only [go_sem] <;> omega) | fail)) only [go_sem, ints, bools, mat] | ((first | apply goIf_b | apply goG_b | apply goTG_b | apply goOG_b) <;> intro h <;> ((try simp only [hnq] at h); (try simp only [h]); (try simp only [hnr] at h)) <;> (try (exfalso; omega))))
    · omega
theorem d_laws_markInt64SS_3 (r0 r1 r2 : List Int) (h0 : r0.length < 1048577) (h1 : r1.length < 1048577) (h2 : r2.length < 1048577) (k : Int) (hk : 0 ≤ k) (hk2 : k < 1000000) : Den PA f_laws_markInt64SS [.ownm [.own 1 (r0.map di), .own 1 (r1.map di), .own 1 (r2.map di)], .d (di k)] [.ownm [.own 1 ((markL r0.length (k)).map di), .own 1 ((markL r1.length (k + r0.length)).map di), .own 1 ((markL r2.length (k + r0.length + r1.length)).map di)], .any] (.d (di (k + r0.length + r1.length + r2.length))) := by
  have hm0 := d_laws_markInt64S r0 (k) h0 (by omega) (by omega)
  have hl0 := markL_len r0.length (k)
  have hm1 := d_laws_markInt64S r1 (k + r0.length) h1 (by omega) (by omega)
  have hl1 := markL_len r1.length (k + r0.length)
  have hm2 := d_laws_markInt64S r2 (k + r0.length + r1.length) h2 (by omega) (by omega)
  have hl2 := markL_len r2.length (k + r0.length + r1.length)
  refine den_go [0] l_laws_markInt64SS ?_
  repeat' (first | simp -implicitDefEqProofs (maxSteps := 1000000) (disch := (first | omega | (simp only [go_sem] <;> omega) | fail)) only [go_sem, ints, bools, mat, c_laws_markInt64SS] | ((first | apply goIf_b | apply goG_b | apply goTG_b | apply goOG_b) <;> intro h <;> ((try simp only [hnq] at h); (try simp only [h]); (try simp only [hnr] at h)) <;> (try (exfalso; omega))))
  refine go_loop (fun (i : Nat) => match i with | 0 => ⟨[(0, .sl 0 0 3 1), (1, .d (di (k))), (5, .d (di ((0 : Nat) : Int))), (19, .sl 0 0 3 1)], [some (.mix [.sl 1 0 r0.length 1, .sl 2 0 r1.length 1, .sl 3 0 r2.length 1]), some (.dat 1 ((r0).map di)), some (.dat 1 ((r1).map di)), some (.dat 1 ((r2).map di))]⟩ | 1 => ⟨[(0, .sl 0 0 3 1), (1, .d (di (k + r0.length))), (5, .d (di ((1 : Nat) : Int))), (19, .sl 0 0 3 1)], [some (.mix [.sl 1 0 r0.length 1, .sl 2 0 r1.length 1, .sl 3 0 r2.length 1]), some (.dat 1 ((markL r0.length (k)).map di)), some (.dat 1 ((r1).map di)), some (.dat 1 ((r2).map di))]⟩ | 2 => ⟨[(0, .sl 0 0 3 1), (1, .d (di (k + r0.length + r1.length))), (5, .d (di ((2 : Nat) : Int))), (19, .sl 0 0 3 1)], [some (.mix [.sl 1 0 r0.length 1, .sl 2 0 r1.length 1, .sl 3 0 r2.length 1]), some (.dat 1 ((markL r0.length (k)).map di)), some (.dat 1 ((markL r1.length (k + r0.length)).map di)), some (.dat 1 ((r2).map di))]⟩ | _ => ⟨[(0, .sl 0 0 3 1), (1, .d (di (k + r0.length + r1.length + r2.length))), (5, .d (di ((3 : Nat) : Int))), (19, .sl 0 0 3 1)], [some (.mix [.sl 1 0 r0.length 1, .sl 2 0 r1.length 1, .sl 3 0 r2.length 1]), some (.dat 1 ((markL r0.length (k)).map di)), some (.dat 1 ((markL r1.length (k + r0.length)).map di)), some (.dat 1 ((markL r2.length (k + r0.length + r1.length)).map di))]⟩) (fun i => i ≤ 3) (fun i => 3 - i) 0 ?_ ?_ ?_
  · simp -implicitDefEqProofs (maxSteps := 1000000) (disch := (first | omega | (simp only [go_sem] <;> omega) | fail)) only [go_sem, ints, bools, mat]
    all_goals rfl
  · exact Nat.zero_le _
  · rintro i hi J hJ
    rcases i with _ | _ | _ | _ | i
    · repeat' (first | simp -implicitDefEqProofs (maxSteps := 1000000) (disch := (first | omega | (simp only [go_sem] <;> omega) | fail)) only [go_sem, ints, bools, mat] | ((first | apply goIf_b | apply goG_b | apply goTG_b | apply goOG_b) <;> intro h <;> ((try simp only [hnq] at h); (try simp only [h]); (try simp only [hnr] at h)) <;> (try (exfalso; omega))))
      first | refine goC_call [.o, .r] (hm0) ?_ | refine goOC_call [.o, .r] (hm0) ?_
      repeat' (first | simp -implicitDefEqProofs (maxSteps := 1000000) (disch := (first | omega | (simp only [go_sem] <;> omega) | fail)) only [go_sem, ints, bools, mat, hl0] | ((first | apply goIf_b | apply goG_b | apply goTG_b | apply goOG_b) <;> intro h <;> ((try simp only [hnq] at h); (try simp only [h]); (try simp only [hnr] at h)) <;> (try (exfalso; omega))))
      refine hJ 1 (by omega) (by omega) _ (by (simp -implicitDefEqProofs (maxSteps := 1000000) (disch := (first | omega | (simp only [go_sem] <;> omega) | fail)) only [go_sem, ints, bools, mat, hl0] <;> rfl))
    · repeat' (first | simp -implicitDefEqProofs (maxSteps := 1000000) (disch := (first | omega | (simp only [go_sem] <;> omega) | fail)) only [go_sem, ints, bools, mat] | ((first | apply goIf_b | apply goG_b | apply goTG_b | apply goOG_b) <;> intro h <;> ((try simp only [hnq] at h); (try simp only [h]); (try simp only [hnr] at h)) <;> (try (exfalso; omega))))
      first | refine goC_call [.o, .r] (hm1) ?_ | refine goOC_call [.o, .r] (hm1) ?_
      repeat' (first | simp -implicitDefEqProofs (maxSteps := 1000000) (disch := (first | omega | (simp only [go_sem] <;> omega) | fail)) only [go_sem, ints, bools, mat, hl1] | ((first | apply goIf_b | apply goG_b | apply goTG_b | apply goOG_b) <;> intro h <;> ((try simp only [hnq] at h); (try simp only [h]); (try simp only [hnr] at h)) <;> (try (exfalso; omega))))
      refine hJ 2 (by omega) (by omega) _ (by (simp -implicitDefEqProofs (maxSteps := 1000000) (disch := (first | omega | (simp only [go_sem] <;> omega) | fail)) only [go_sem, ints, bools, mat, hl1] <;> rfl))
    · repeat' (first | simp -implicitDefEqProofs (maxSteps := 1000000) (disch := (first | omega | (simp only [go_sem] <;> omega) | fail)) only [go_sem, ints, bools, mat] | ((first | apply goIf_b | apply goG_b | apply goTG_b | apply goOG_b) <;> intro h <;> ((try simp only [hnq] at h); (try simp only [h]); (try simp only [hnr] at h)) <;> (try (exfalso; omega))))
      first | refine goC_call [.o, .r] (hm2) ?_ | refine goOC_call [.o, .r] (hm2) ?_
      repeat' (first | simp -implicitDefEqProofs (maxSteps := 1000000) (disch := (first | omega | (simp only [go_sem] <;> omega) | fail)) only [go_sem, ints, bools, mat, hl2] | ((first | apply goIf_b | apply goG_b | apply goTG_b | apply goOG_b) <;> intro h <;> ((try simp only [hnq] at h); (try simp only [h]); (try simp only [hnr] at h)) <;> (try (exfalso; omega))))
      refine hJ 3 (by omega) (by omega) _ (by (simp -implicitDefEqProofs (maxSteps := 1000000) (disch := (first | omega | (simp only [go_sem] <;> omega) | fail)) only [go_sem, ints, bools, mat, hl2] <;> rfl))
    · repeat' (first | simp -implicitDefEqProofs (maxSteps := 1000000) (disch := (first | omega | (simp only [go_sem] <;> omega) | fail)) only [go_sem, ints, bools, mat] | ((first | apply goIf_b | apply goG_b | apply goTG_b | apply goOG_b) <;> intro h <;> ((try simp only [hnq] at h); (try simp only [h]); (try simp only [hnr] at h)) <;> (try (exfalso; omega))))
    · omega
theorem d_laws_heldInt64SS_3 (r0 r1 r2 : List Int) (h0 : r0.length < 1048577) (h1 : r1.length < 1048577) (h2 : r2.length < 1048577) (k : Int) (hk : 0 ≤ k) (hk2 : k < 1000000) : Den PA f_laws_heldInt64SS [.ownm [.own 1 ((markL r0.length (k)).map di), .own 1 ((markL r1.length (k + r0.length)).map di), .own 1 ((markL r2.length (k + r0.length + r1.length)).map di)], .d (di k)] [.ownm [.own 1 ((markL r0.length (k)).map di), .own 1 ((markL r1.length (k + r0.length)).map di), .own 1 ((markL r2.length (k + r0.length + r1.length)).map di)], .any] (.d (di (k + r0.length + r1.length + r2.length))) := by
  have hm0 := d_laws_heldInt64S r0.length (k) h0 (by omega) (by omega)
  have hl0 := markL_len r0.length (k)
  have hm1 := d_laws_heldInt64S r1.length (k + r0.length) h1 (by omega) (by omega)
  have hl1 := markL_len r1.length (k + r0.length)
  have hm2 := d_laws_heldInt64S r2.length (k + r0.length + r1.length) h2 (by omega) (by omega)
  have hl2 := markL_len r2.length (k + r0.length + r1.length)
  refine den_go [0] l_laws_heldInt64SS ?_
  repeat' (first | simp -implicitDefEqProofs (maxSteps := 1000000) (disch := (first | omega | (simp only [go_sem] <;> omega) | fail)) only [go_sem, ints, bools, mat, c_laws_heldInt64SS, hl0, hl1, hl2] | ((first | apply goIf_b | apply goG_b | apply goTG_b | apply goOG_b) <;> intro h <;> ((try simp only [hnq] at h); (try simp only [h]); (try simp only [hnr] at h)) <;> (try (exfalso; omega))))
  refine go_loop (fun (i : Nat) => match i with | 0 => ⟨[(0, .sl 0 0 3 1), (1, .d (di (k))), (5, .d (di ((0 : Nat) : Int))), (21, .sl 0 0 3 1)], [some (.mix [.sl 1 0 r0.length 1, .sl 2 0 r1.length 1, .sl 3 0 r2.length 1]), some (.dat 1 ((markL r0.length (k)).map di)), some (.dat 1 ((markL r1.length (k + r0.length)).map di)), some (.dat 1 ((markL r2.length (k + r0.length + r1.length)).map di))]⟩ | 1 => ⟨[(0, .sl 0 0 3 1), (1, .d (di (k + r0.length))), (5, .d (di ((1 : Nat) : Int))), (21, .sl 0 0 3 1)], [some (.mix [.sl 1 0 r0.length 1, .sl 2 0 r1.length 1, .sl 3 0 r2.length 1]), some (.dat 1 ((markL r0.length (k)).map di)), some (.dat 1 ((markL r1.length (k + r0.length)).map di)), some (.dat 1 ((markL r2.length (k + r0.length + r1.length)).map di))]⟩ | 2 => ⟨[(0, .sl 0 0 3 1), (1, .d (di (k + r0.length + r1.length))), (5, .d (di ((2 : Nat) : Int))), (21, .sl 0 0 3 1)], [some (.mix [.sl 1 0 r0.length 1, .sl 2 0 r1.length 1, .sl 3 0 r2.length 1]), some (.dat 1 ((markL r0.length (k)).map di)), some (.dat 1 ((markL r1.length (k + r0.length)).map di)), some (.dat 1 ((markL r2.length (k + r0.length + r1.length)).map di))]⟩ | _ => ⟨[(0, .sl 0 0 3 1), (1, .d (di (k + r0.length + r1.length + r2.length))), (5, .d (di ((3 : Nat) : Int))), (21, .sl 0 0 3 1)], [some (.mix [.sl 1 0 r0.length 1, .sl 2 0 r1.length 1, .sl 3 0 r2.length 1]), some (.dat 1 ((markL r0.length (k)).map di)), some (.dat 1 ((markL r1.length (k + r0.length)).map di)), some (.dat 1 ((markL r2.length (k + r0.length + r1.length)).map di))]⟩) (fun i => i ≤ 3) (fun i => 3 - i) 0 ?_ ?_ ?_
  · simp -implicitDefEqProofs (maxSteps := 1000000) (disch := (first | omega | (simp only [go_sem] <;> omega) | fail)) only [go_sem, ints, bools, mat, hl0, hl1, hl2]
    all_goals rfl
  · exact Nat.zero_le _
  · rintro i hi J hJ
    rcases i with _ | _ | _ | _ | i
    · repeat' (first | simp -implicitDefEqProofs (maxSteps := 1000000) (disch := (first | omega | (simp only [go_sem] <;> omega) | fail)) only [go_sem, ints, bools, mat, hl0, hl1, hl2] | ((first | apply goIf_b | apply goG_b | apply goTG_b | apply goOG_b) <;> intro h <;> ((try simp only [hnq] at h); (try simp only [h]); (try simp only [hnr] at h)) <;> (try (exfalso; omega))))
      first | refine goC_call [.r, .r] (hm0) ?_ | refine goOC_call [.r, .r] (hm0) ?_
      repeat' (first | simp -implicitDefEqProofs (maxSteps := 1000000) (disch := (first | omega | (simp only [go_sem] <;> omega) | fail)) only [go_sem, ints, bools, mat, hl0, hl1, hl2] | ((first | apply goIf_b | apply goG_b | apply goTG_b | apply goOG_b) <;> intro h <;> ((try simp only [hnq] at h); (try simp only [h]); (try simp only [hnr] at h)) <;> (try (exfalso; omega))))
      refine hJ 1 (by omega) (by omega) _ (by (simp -implicitDefEqProofs (maxSteps := 1000000) (disch := (first | omega | (simp only [go_sem] <;> omega) | fail)) only [go_sem, ints, bools, mat, hl0, hl1, hl2] <;> rfl))
    · repeat' (first | simp -implicitDefEqProofs (maxSteps := 1000000) (disch := (first | omega | (simp only [go_sem] <;> omega) | fail)) only [go_sem, ints, bools, mat, hl0, hl1, hl2] | ((first | apply goIf_b | apply goG_b | apply goTG_b | apply goOG_b) <;> intro h <;> ((try simp only [hnq] at h); (try simp only [h]); (try simp only [hnr] at h)) <;> (try (exfalso; omega))))
      first | refine goC_call [.r, .r] (hm1) ?_ | refine goOC_call [.r, .r] (hm1) ?_
      repeat' (first | simp -implicitDefEqProofs (maxSteps := 1000000) (disch := (first | omega | (simp only [go_sem] <;> omega) | fail)) only [go_sem, ints, bools, mat, hl0, hl1, hl2] | ((first | apply goIf_b | apply goG_b | apply goTG_b | apply goOG_b) <;> intro h <;> ((try simp only [hnq] at h); (try simp only [h]); (try simp only [hnr] at h)) <;> (try (exfalso; omega))))
      refine hJ 2 (by omega) (by omega) _ (by (simp -implicitDefEqProofs (maxSteps := 1000000) (disch := (first | omega | (simp only [go_sem] <;> omega) | fail)) only [go_sem, ints, bools, mat, hl0, hl1, hl2] <;> rfl))
    · repeat' (first | simp -implicitDefEqProofs (maxSteps := 1000000) (disch := (first | omega | (simp only [go_sem] <;> omega) | fail)) only [go_sem, ints, bools, mat, hl0, hl1, hl2] | ((first | apply goIf_b | apply goG_b | apply goTG_b | apply goOG_b) <;> intro h <;> ((try simp only [hnq] at h); (try simp only [h]); (try simp only [hnr] at h)) <;> (try (exfalso; omega))))
      first | refine goC_call [.r, .r] (hm2) ?_ | refine goOC_call [.r, .r] (hm2) ?_
      repeat' (first | simp -implicitDefEqProofs (maxSteps := 1000000) (disch := (first | omega | (simp only [go_sem] <;> omega) | fail)) only [go_sem, ints, bools, mat, hl0, hl1, hl2] | ((first | apply goIf_b | apply goG_b | apply goTG_b | apply goOG_b) <;> intro h <;> ((try simp only [hnq] at h); (try simp only [h]); (try simp only [hnr] at h)) <;> (try (exfalso; omega))))
      refine hJ 3 (by omega) (by omega) _ (by (simp -implicitDefEqProofs (maxSteps := 1000000) (disch := (first | omega | (simp only [go_sem] <;> omega) | fail)) only [go_sem, ints, bools, mat, hl0, hl1, hl2] <;> rfl))
    · repeat' (first | simp -implicitDefEqProofs (maxSteps := 1000000) (disch := (first | omega | (simp only [go_sem] <;> omega) | fail)) only [go_sem, ints, bools, mat, hl0, hl1, hl2] | ((first | apply goIf_b | apply goG_b | apply goTG_b | apply goOG_b) <;> intro h <;> ((try simp only [hnq] at h); (try simp only [h]); (try simp only [hnr] at h)) <;> (try (exfalso; omega))))
    · omega
theorem d_laws_eqInt64SS_4 (r0 r1 r2 r3 : List Int) (h0 : r0.length < 1048577) (h1 : r1.length < 1048577) (h2 : r2.length < 1048577) (h3 : r3.length < 1048577) : Den PA f_laws_eqInt64SS [.ownm [.own 1 (r0.map di), .own 1 (r1.map di), .own 1 (r2.map di), .own 1 (r3.map di)], .d (mat [r0, r1, r2, r3])] [.ownm [.own 1 (r0.map di), .own 1 (r1.map di), .own 1 (r2.map di), .own 1 (r3.map di)], .any] (.d (db true)) := by
  refine den_go [0] l_laws_eqInt64SS ?_
  repeat' (first | simp -implicitDefEqProofs (maxSteps := 1000000) (disch := (first | omega | (simp only [go_sem] <;> omega) | fail)) only [go_sem, ints, bools, mat, c_laws_eqInt64SS] | ((first | apply goIf_b | apply goG_b | apply goTG_b | apply goOG_b) <;> intro h <;> ((try simp only [hnq] at h); (try simp only [h]); (try simp only [hnr] at h)) <;> (try (exfalso; omega))))
  refine go_loop (fun (i : Nat) => ⟨[(0, .sl 0 0 4 1), (1, .d (mat [r0, r1, r2, r3])), (5, .d (di i)), (27, .sl 0 0 4 1)], [some (.mix [.sl 1 0 r0.length 1, .sl 2 0 r1.length 1, .sl 3 0 r2.length 1, .sl 4 0 r3.length 1]), some (.dat 1 (r0.map di)), some (.dat 1 (r1.map di)), some (.dat 1 (r2.map di)), some (.dat 1 (r3.map di))]⟩) (fun i => i ≤ 4) (fun i => 4 - i) 0 ?_ ?_ ?_
  · simp -implicitDefEqProofs (maxSteps := 1000000) (disch := (first | omega | (simp only [go_sem] <;> omega) | fail)) only [go_sem, ints, bools, mat]
    all_goals rfl
  · exact Nat.zero_le _
  · rintro i hi J hJ
    rcases i with _ | _ | _ | _ | _ | i
    · have he := d_laws_eqInt64S r0 r0 h0
      rw [decide_eq_true rfl] at he
      repeat' (first | simp -implicitDefEqProofs (maxSteps := 1000000) (disch := (first | omega | (simp only [go_sem] <;> omega) | fail)) only [go_sem, ints, bools, mat, flat_lst, flat_n] | ((first | apply goIf_b | apply goG_b | apply goTG_b | apply goOG_b) <;> intro h <;> ((try simp only [hnq] at h); (try simp only [h]); (try simp only [hnr] at h)) <;> (try (exfalso; omega))))
      first | refine goC_call [.r, .r] (he) ?_ | refine goOC_call [.r, .r] (he) ?_
      repeat' (first | simp -implicitDefEqProofs (maxSteps := 1000000) (disch := (first | omega | (simp only [go_sem] <;> omega) | fail)) only [go_sem, ints, bools, mat] | ((first | apply goIf_b | apply goG_b | apply goTG_b | apply goOG_b) <;> intro h <;> ((try simp only [hnq] at h); (try simp only [h]); (try simp only [hnr] at h)) <;> (try (exfalso; omega))))
      refine hJ 1 (by omega) (by omega) _ (by (simp -implicitDefEqProofs (maxSteps := 1000000) (disch := (first | omega | (simp only [go_sem] <;> omega) | fail)) only [go_sem, ints, bools, mat] <;> rfl))
    · have he := d_laws_eqInt64S r1 r1 h1
      rw [decide_eq_true rfl] at he
      repeat' (first | simp -implicitDefEqProofs (maxSteps := 1000000) (disch := (first | omega | (simp only [go_sem] <;> omega) | fail)) only [go_sem, ints, bools, mat, flat_lst, flat_n] | ((first | apply goIf_b | apply goG_b | apply goTG_b | apply goOG_b) <;> intro h <;> ((try simp only [hnq] at h); (try simp only [h]); (try simp only [hnr] at h)) <;> (try (exfalso; omega))))
      first | refine goC_call [.r, .r] (he) ?_ | refine goOC_call [.r, .r] (he) ?_
      repeat' (first | simp -implicitDefEqProofs (maxSteps := 1000000) (disch := (first | omega | (simp only [go_sem] <;> omega) | fail)) only [go_sem, ints, bools, mat] | ((first | apply goIf_b | apply goG_b | apply goTG_b | apply goOG_b) <;> intro h <;> ((try simp only [hnq] at h); (try simp only [h]); (try simp only [hnr] at h)) <;> (try (exfalso; omega))))
      refine hJ 2 (by omega) (by omega) _ (by (simp -implicitDefEqProofs (maxSteps := 1000000) (disch := (first | omega | (simp only [go_sem] <;> omega) | fail)) only [go_sem, ints, bools, mat] <;> rfl))
    · have he := d_laws_eqInt64S r2 r2 h2
      rw [decide_eq_true rfl] at he
      repeat' (first | simp -implicitDefEqProofs (maxSteps := 1000000) (disch := (first | omega | (simp only [go_sem] <;> omega) | fail)) only [go_sem, ints, bools, mat, flat_lst, flat_n] | ((first | apply goIf_b | apply goG_b | apply goTG_b | apply goOG_b) <;> intro h <;> ((try simp only [hnq] at h); (try simp only [h]); (try simp only [hnr] at h)) <;> (try (exfalso; omega))))
      first | refine goC_call [.r, .r] (he) ?_ | refine goOC_call [.r, .r] (he) ?_
      repeat' (first | simp -implicitDefEqProofs (maxSteps := 1000000) (disch := (first | omega | (simp only [go_sem] <;> omega) | fail)) only [go_sem, ints, bools, mat] | ((first | apply goIf_b | apply goG_b | apply goTG_b | apply goOG_b) <;> intro h <;> ((try simp only [hnq] at h); (try simp only [h]); (try simp only [hnr] at h)) <;> (try (exfalso; omega))))
      refine hJ 3 (by omega) (by omega) _ (by (simp -implicitDefEqProofs (maxSteps := 1000000) (disch := (first | omega | (simp only [go_sem] <;> omega) | fail)) only [go_sem, ints, bools, mat] <;> rfl))
    · have he := d_laws_eqInt64S r3 r3 h3
      rw [decide_eq_true rfl] at he
      repeat' (first | simp -implicitDefEqProofs (maxSteps := 1000000) (disch := (first | omega | (simp only [go_sem] <;> omega) | fail)) only [go_sem, ints, bools, mat, flat_lst, flat_n] | ((first | apply goIf_b | apply goG_b | apply goTG_b | apply goOG_b) <;> intro h <;> ((try simp only [hnq] at h); (try simp only [h]); (try simp only [hnr] at h)) <;> (try (exfalso; omega))))
      first | refine goC_call [.r, .r] (he) ?_ | refine goOC_call [.r, .r] (he) ?_
      repeat' (first | simp -implicitDefEqProofs (maxSteps := 1000000) (disch := (first | omega | (simp only [go_sem] <;> omega) | fail)) only [go_sem, ints, bools, mat] | ((first | apply goIf_b | apply goG_b | apply goTG_b | apply goOG_b) <;> intro h <;> ((try simp only [hnq] at h); (try simp only [h]); (try simp only [hnr] at h)) <;> (try (exfalso; omega))))
      refine hJ 4 (by omega) (by omega) _ (by (simp -implicitDefEqProofs (maxSteps := 1000000) (disch := (first | omega | (simp only [go_sem] <;> omega) | fail)) only [go_sem, ints, bools, mat] <;> rfl))
    · repeat' (first | simp -implicitDefEqProofs (maxSteps := 1000000) (disch := (first | omega | (simp only [go_sem] <;> omega) | fail)) only [go_sem, ints, bools, mat] | ((first | apply goIf_b | apply goG_b | apply goTG_b | apply goOG_b) <;> intro h <;> ((try simp only [hnq] at h); (try simp only [h]); (try simp only [hnr] at h)) <;> (try (exfalso; omega))))
    · omega
theorem d_laws_markInt64SS_4 (r0 r1 r2 r3 : List Int) (h0 : r0.length < 1048577) (h1 : r1.length < 1048577) (h2 : r2.length < 1048577) (h3 : r3.length < 1048577) (k : Int) (hk : 0 ≤ k) (hk2 : k < 1000000) : Den PA f_laws_markInt64SS [.ownm [.own 1 (r0.map di), .own 1 (r1.map di), .own 1 (r2.map di), .own 1 (r3.map di)], .d (di k)] [.ownm [.own 1 ((markL r0.length (k)).map di), .own 1 ((markL r1.length (k + r0.length)).map di), .own 1 ((markL r2.length (k + r0.length + r1.length)).map di), .own 1 ((markL r3.length (k + r0.length + r1.length + r2.length)).map di)], .any] (.d (di (k + r0.length + r1.length + r2.length + r3.length))) := by
  have hm0 := d_laws_markInt64S r0 (k) h0 (by omega) (by omega)
  have hl0 := markL_len r0.length (k)
  have hm1 := d_laws_markInt64S r1 (k + r0.length) h1 (by omega) (by omega)
  have hl1 := markL_len r1.length (k + r0.length)
  have hm2 := d_laws_markInt64S r2 (k + r0.length + r1.length) h2 (by omega) (by omega)
  have hl2 := markL_len r2.length (k + r0.length + r1.length)
  have hm3 := d_laws_markInt64S r3 (k + r0.length + r1.length + r2.length) h3 (by omega) (by omega)
  have hl3 := markL_len r3.length (k + r0.length + r1.length + r2.length)
  refine den_go [0] l_laws_markInt64SS ?_
  repeat' (first | simp -implicitDefEqProofs (maxSteps := 1000000) (disch := (first | omega | (simp only [go_sem] <;> omega) | fail)) only [go_sem, ints, bools, mat, c_laws_markInt64SS] | ((first | apply goIf_b | apply goG_b | apply goTG_b | apply goOG_b) <;> intro h <;> ((try simp only [hnq] at h); (try simp only [h]); (try simp only [hnr] at h)) <;> (try (exfalso; omega))))
  refine go_loop (fun (i : Nat) => match i with | 0 => ⟨[(0, .sl 0 0 4 1), (1, .d (di (k))), (5, .d (di ((0 : Nat) : Int))), (19, .sl 0 0 4 1)], [some (.mix [.sl 1 0 r0.length 1, .sl 2 0 r1.length 1, .sl 3 0 r2.length 1, .sl 4 0 r3.length 1]), some (.dat 1 ((r0).map di)), some (.dat 1 ((r1).map di)), some (.dat 1 ((r2).map di)), some (.dat 1 ((r3).map di))]⟩ | 1 => ⟨[(0, .sl 0 0 4 1), (1, .d (di (k + r0.length))), (5, .d (di ((1 : Nat) : Int))), (19, .sl 0 0 4 1)], [some (.mix [.sl 1 0 r0.length 1, .sl 2 0 r1.length 1, .sl 3 0 r2.length 1, .sl 4 0 r3.length 1]), some (.dat 1 ((markL r0.length (k)).map di)), some (.dat 1 ((r1).map di)), some (.dat 1 ((r2).map di)), some (.dat 1 ((r3).map di))]⟩ | 2 => ⟨[(0, .sl 0 0 4 1), (1, .d (di (k + r0.length + r1.length))), (5, .d (di ((2 : Nat) : Int))), (19, .sl 0 0 4 1)], [some (.mix [.sl 1 0 r0.length 1, .sl 2 0 r1.length 1, .sl 3 0 r2.length 1, .sl 4 0 r3.length 1]), some (.dat 1 ((markL r0.length (k)).map di)), some (.dat 1 ((markL r1.length (k + r0.length)).map di)), some (.dat 1 ((r2).map di)), some (.dat 1 ((r3).map di))]⟩ | 3 => ⟨[(0, .sl 0 0 4 1), (1, .d (di (k + r0.length + r1.length + r2.length))), (5, .d (di ((3 : Nat) : Int))), (19, .sl 0 0 4 1)], [some (.mix [.sl 1 0 r0.length 1, .sl 2 0 r1.length 1, .sl 3 0 r2.length 1, .sl 4 0 r3.length 1]), some (.dat 1 ((markL r0.length (k)).map di)), some (.dat 1 ((markL r1.length (k + r0.length)).map di)), some (.dat 1 ((markL r2.length (k + r0.length + r1.length)).map di)), some (.dat 1 ((r3).map di))]⟩ | _ => ⟨[(0, .sl 0 0 4 1), (1, .d (di (k + r0.length + r1.length + r2.length + r3.length))), (5, .d (di ((4 : Nat) : Int))), (19, .sl 0 0 4 1)], [some (.mix [.sl 1 0 r0.length 1, .sl 2 0 r1.length 1, .sl 3 0 r2.length 1, .sl 4 0 r3.length 1]), some (.dat 1 ((markL r0.length (k)).map di)), some (.dat 1 ((markL r1.length (k + r0.length)).map di)), some (.dat 1 ((markL r2.length (k + r0.length + r1.length)).map di)), some (.dat 1 ((markL r3.length (k + r0.length + r1.length + r2.length)).map di))]⟩) (fun i => i ≤ 4) (fun i => 4 - i) 0 ?_ ?_ ?_
  · simp -implicitDefEqProofs (maxSteps := 1000000) (disch := (first | omega | (simp only [go_sem] <;> omega) | fail)) only [go_sem, ints, bools, mat]
    all_goals rfl
  · exact Nat.zero_le _
  · rintro i hi J hJ
    rcases i with _ | _ | _ | _ | _ | i
    · repeat' (first | simp -implicitDefEqProofs (maxSteps := 1000000) (disch := (first | omega | (simp only [go_sem] <;> omega) | fail)) only [go_sem, ints, bools, mat] | ((first | apply goIf_b | apply goG_b | apply goTG_b | apply goOG_b) <;> intro h <;> ((try simp only [hnq] at h); (try simp only [h]); (try simp only [hnr] at h)) <;> (try (exfalso; omega))))
      first | refine goC_call [.o, .r] (hm0) ?_ | refine goOC_call [.o, .r] (hm0) ?_
      repeat' (first | simp -implicitDefEqProofs (maxSteps := 1000000) (disch := (first | omega | (simp only [go_sem] <;> omega) | fail)) only [go_sem, ints, bools, mat, hl0] | ((first | apply goIf_b | apply goG_b | apply goTG_b | apply goOG_b) <;> intro h <;> ((try simp only [hnq] at h); (try simp only [h]); (try simp only [hnr] at h)) <;> (try (exfalso; omega))))
      refine hJ 1 (by omega) (by omega) _ (by (simp -implicitDefEqProofs (maxSteps := 1000000) (disch := (first | omega | (simp only [go_sem] <;> omega) | fail)) only [go_sem, ints, bools, mat, hl0] <;> rfl))
    · repeat' (first | simp -implicitDefEqProofs (maxSteps := 1000000) (disch := (first | omega | (simp only [go_sem] <;> omega) | fail)) only [go_sem, ints, bools, mat] | ((first | apply goIf_b | apply goG_b | apply goTG_b | apply goOG_b) <;> intro h <;> ((try simp only [hnq] at h); (try simp only [h]); (try simp only [hnr] at h)) <;> (try (exfalso; omega))))
      first | refine goC_call [.o, .r] (hm1) ?_ | refine goOC_call [.o, .r] (hm1) ?_
      repeat' (first | simp -implicitDefEqProofs (maxSteps := 1000000) (disch := (first | omega | (simp only [go_sem] <;> omega) | fail)) only [go_sem, ints, bools, mat, hl1] | ((first | apply goIf_b | apply goG_b | apply goTG_b | apply goOG_b) <;> intro h <;> ((try simp only [hnq] at h); (try simp only [h]); (try simp only [hnr] at h)) <;> (try (exfalso; omega))))
      refine hJ 2 (by omega) (by omega) _ (by (simp -implicitDefEqProofs (maxSteps := 1000000) (disch := (first | omega | (simp only [go_sem] <;> omega) | fail)) only [go_sem, ints, bools, mat, hl1] <;> rfl))
    · repeat' (first | simp -implicitDefEqProofs (maxSteps := 1000000) (disch := (first | omega | (simp only [go_sem] <;> omega) | fail)) only [go_sem, ints, bools, mat] | ((first | apply goIf_b | apply goG_b | apply goTG_b | apply goOG_b) <;> intro h <;> ((try simp only [hnq] at h); (try simp only [h]); (try simp only [hnr] at h)) <;> (try (exfalso; omega))))
      first | refine goC_call [.o, .r] (hm2) ?_ | refine goOC_call [.o, .r] (hm2) ?_
      repeat' (first | simp -implicitDefEqProofs (maxSteps := 1000000) (disch := (first | omega | (simp only [go_sem] <;> omega) | fail)) only [go_sem, ints, bools, mat, hl2] | ((first | apply goIf_b | apply goG_b | apply goTG_b | apply goOG_b) <;> intro h <;> ((try simp only [hnq] at h); (try simp only [h]); (try simp only [hnr] at h)) <;> (try (exfalso; omega))))
      refine hJ 3 (by omega) (by omega) _ (by (simp -implicitDefEqProofs (maxSteps := 1000000) (disch := (first | omega | (simp only [go_sem] <;> omega) | fail)) only [go_sem, ints, bools, mat, hl2] <;> rfl))
    · repeat' (first | simp -implicitDefEqProofs (maxSteps := 1000000) (disch := (first | omega | (simp only [go_sem] <;> omega) | fail)) only [go_sem, ints, bools, mat] | ((first | apply goIf_b | apply goG_b | apply goTG_b | apply goOG_b) <;> intro h <;> ((try simp only [hnq] at h); (try simp only [h]); (try simp only [hnr] at h)) <;> (try (exfalso; omega))))
      first | refine goC_call [.o, .r] (hm3) ?_ | refine goOC_call [.o, .r] (hm3) ?_
      repeat' (first | simp -implicitDefEqProofs (maxSteps := 1000000) (disch := (first | omega | (simp only [go_sem] <;> omega) | fail)) only [go_sem, ints, bools, mat, hl3] | ((first | apply goIf_b | apply goG_b | apply goTG_b | apply goOG_b) <;> intro h <;> ((try simp only [hnq] at h); (try simp only [h]); (try simp only [hnr] at h)) <;> (try (exfalso; omega))))
      refine hJ 4 (by omega) (by omega) _ (by (simp -implicitDefEqProofs (maxSteps := 1000000) (disch := (first | omega | (simp only [go_sem] <;> omega) | fail)) only [go_sem, ints, bools, mat, hl3] <;> rfl))
    · repeat' (first | simp -implicitDefEqProofs (maxSteps := 1000000) (disch := (first | omega | (simp only [go_sem] <;> omega) | fail)) only [go_sem, ints, bools, mat] | ((first | apply goIf_b | apply goG_b | apply goTG_b | apply goOG_b) <;> intro h <;> ((try simp only [hnq] at h); (try simp only [h]); (try simp only [hnr] at h)) <;> (try (exfalso; omega))))
    · omega
theorem d_laws_heldInt64SS_4 (r0 r1 r2 r3 : List Int) (h0 : r0.length < 1048577) (h1 : r1.length < 1048577) (h2 : r2.length < 1048577) (h3 : r3.length < 1048577) (k : Int) (hk : 0 ≤ k) (hk2 : k < 1000000) : Den PA f_laws_heldInt64SS [.ownm [.own 1 ((markL r0.length (k)).map di), .own 1 ((markL r1.length (k + r0.length)).map di), .own 1 ((markL r2.length (k + r0.length + r1.length)).map di), .own 1 ((markL r3.length (k + r0.length + r1.length + r2.length)).map di)], .d (di k)] [.ownm [.own 1 ((markL r0.length (k)).map di), .own 1 ((markL r1.length (k + r0.length)).map di), .own 1 ((markL r2.length (k + r0.length + r1.length)).map di), .own 1 ((markL r3.length (k + r0.length + r1.length + r2.length)).map di)], .any] (.d (di (k + r0.length + r1.length + r2.length + r3.length))) := by
  have hm0 := d_laws_heldInt64S r0.length (k) h0 (by omega) (by omega)
  have hl0 := markL_len r0.length (k)
  have hm1 := d_laws_heldInt64S r1.length (k + r0.length) h1 (by omega) (by omega)
  have hl1 := markL_len r1.length (k + r0.length)
  have hm2 := d_laws_heldInt64S r2.length (k + r0.length + r1.length) h2 (by omega) (by omega)
  have hl2 := markL_len r2.length (k + r0.length + r1.length)
  have hm3 := d_laws_heldInt64S r3.length (k + r0.length + r1.length + r2.length) h3 (by omega) (by omega)
  have hl3 := markL_len r3.length (k + r0.length + r1.length + r2.length)
  refine den_go [0] l_laws_heldInt64SS ?_
  repeat' (first | simp -implicitDefEqProofs (maxSteps := 1000000) (disch := (first | omega | (simp only [go_sem] <;> omega) | fail)) only [go_sem, ints, bools, mat, c_laws_heldInt64SS, hl0, hl1, hl2, hl3] | ((first | apply goIf_b | apply goG_b | apply goTG_b | apply goOG_b) <;> intro h <;> ((try simp only [hnq] at h); (try simp only [h]); (try simp only [hnr] at h)) <;> (try (exfalso; omega))))
  refine go_loop (fun (i : Nat) => match i with | 0 => ⟨[(0, .sl 0 0 4 1), (1, .d (di (k))), (5, .d (di ((0 : Nat) : Int))), (21, .sl 0 0 4 1)], [some (.mix [.sl 1 0 r0.length 1, .sl 2 0 r1.length 1, .sl 3 0 r2.length 1, .sl 4 0 r3.length 1]), some (.dat 1 ((markL r0.length (k)).map di)), some (.dat 1 ((markL r1.length (k + r0.length)).map di)), some (.dat 1 ((markL r2.length (k + r0.length + r1.length)).map di)), some (.dat 1 ((markL r3.length (k + r0.length + r1.length + r2.length)).map di))]⟩ | 1 => ⟨[(0, .sl 0 0 4 1), (1, .d (di (k + r0.length))), (5, .d (di ((1 : Nat) : Int))), (21, .sl 0 0 4 1)], [some (.mix [.sl 1 0 r0.length 1, .sl 2 0 r1.length 1, .sl 3 0 r2.length 1, .sl 4 0 r3.length 1]), some (.dat 1 ((markL r0.length (k)).map di)), some (.dat 1 ((markL r1.length (k + r0.length)).map di)), some (.dat 1 ((markL r2.length (k + r0.length + r1.length)).map di)), some (.dat 1 ((markL r3.length (k + r0.length + r1.length + r2.length)).map di))]⟩ | 2 => ⟨[(0, .sl 0 0 4 1), (1, .d (di (k + r0.length + r1.length))), (5, .d (di ((2 : Nat) : Int))), (21, .sl 0 0 4 1)], [some (.mix [.sl 1 0 r0.length 1, .sl 2 0 r1.length 1, .sl 3 0 r2.length 1, .sl 4 0 r3.length 1]), some (.dat 1 ((markL r0.length (k)).map di)), some (.dat 1 ((markL r1.length (k + r0.length)).map di)), some (.dat 1 ((markL r2.length (k + r0.length + r1.length)).map di)), some (.dat 1 ((markL r3.length (k + r0.length + r1.length + r2.length)).map di))]⟩ | 3 => ⟨[(0, .sl 0 0 4 1), (1, .d (di (k + r0.length + r1.length + r2.length))), (5, .d (di ((3 : Nat) : Int))), (21, .sl 0 0 4 1)], [some (.mix [.sl 1 0 r0.length 1, .sl 2 0 r1.length 1, .sl 3 0 r2.length 1, .sl 4 0 r3.length 1]), some (.dat 1 ((markL r0.length (k)).map di)), some (.dat 1 ((markL r1.length (k + r0.length)).map di)), some (.dat 1 ((markL r2.length (k + r0.length + r1.length)).map di)), some (.dat 1 ((markL r3.length (k + r0.length + r1.length + r2.length)).map di))]⟩ | _ => ⟨[(0, .sl 0 0 4 1), (1, .d (di (k + r0.length + r1.length + r2.length + r3.length))), (5, .d (di ((4 : Nat) : Int))), (21, .sl 0 0 4 1)], [some (.mix [.sl 1 0 r0.length 1, .sl 2 0 r1.length 1, .sl 3 0 r2.length 1, .sl 4 0 r3.length 1]), some (.dat 1 ((markL r0.length (k)).map di)), some (.dat 1 ((markL r1.length (k + r0.length)).map di)), some (.dat 1 ((markL r2.length (k + r0.length + r1.length)).map di)), some (.dat 1 ((markL r3.length (k + r0.length + r1.length + r2.length)).map di))]⟩) (fun i => i ≤ 4) (fun i => 4 - i) 0 ?_ ?_ ?_
  · simp -implicitDefEqProofs (maxSteps := 1000000) (disch := (first | omega | (simp only [go_sem] <;> omega) | fail)) only [go_sem, ints, bools, mat, hl0, hl1, hl2, hl3]
    all_goals rfl
  · exact Nat.zero_le _
  · rintro i hi J hJ
    rcases i with _ | _ | _ | _ | _ | i
    · repeat' (first | simp -implicitDefEqProofs (maxSteps := 1000000) (disch := (first | omega | (simp only [go_sem] <;> omega) | fail)) only [go_sem, ints, bools, mat, hl0, hl1, hl2, hl3] | ((first | apply goIf_b | apply goG_b | apply goTG_b | apply goOG_b) <;> intro h <;> ((try simp only [hnq] at h); (try simp only [h]); (try simp only [hnr] at h)) <;> (try (exfalso; omega))))
      first | refine goC_call [.r, .r] (hm0) ?_ | refine goOC_call [.r, .r] (hm0) ?_
      repeat' (first | simp -implicitDefEqProofs (maxSteps := 1000000) (disch := (first | omega | (simp only [go_sem] <;> omega) | fail)) only [go_sem, ints, bools, mat, hl0, hl1, hl2, hl3] | ((first | apply goIf_b | apply goG_b | apply goTG_b | apply goOG_b) <;> intro h <;> ((try simp only [hnq] at h); (try simp only [h]); (try simp only [hnr] at h)) <;> (try (exfalso; omega))))
      refine hJ 1 (by omega) (by omega) _ (by (simp -implicitDefEqProofs (maxSteps := 1000000) (disch := (first | omega | (simp only [go_sem] <;> omega) | fail)) only [go_sem, ints, bools, mat, hl0, hl1, hl2, hl3] <;> rfl))
    · repeat' (first | simp -implicitDefEqProofs (maxSteps := 1000000) (disch := (first | omega | (simp only [go_sem] <;> omega) | fail)) only [go_sem, ints, bools, mat, hl0, hl1, hl2, hl3] | ((first | apply goIf_b | apply goG_b | apply goTG_b | apply goOG_b) <;> intro h <;> ((try simp only [hnq] at h); (try simp only [h]); (try simp only [hnr] at h)) <;> (try (exfalso; omega))))
      first | refine goC_call [.r, .r] (hm1) ?_ | refine goOC_call [.r, .r] (hm1) ?_
      repeat' (first | simp -implicitDefEqProofs (maxSteps := 1000000) (disch := (first | omega | (simp only [go_sem] <;> omega) | fail)) only [go_sem, ints, bools, mat, hl0, hl1, hl2, hl3] | ((first | apply goIf_b | apply goG_b | apply goTG_b | apply goOG_b) <;> intro h <;> ((try simp only [hnq] at h); (try simp only [h]); (try simp only [hnr] at h)) <;> (try (exfalso; omega))))
      refine hJ 2 (by omega) (by omega) _ (by (simp -implicitDefEqProofs (maxSteps := 1000000) (disch := (first | omega | (simp only [go_sem] <;> omega) | fail)) only [go_sem, ints, bools, mat, hl0, hl1, hl2, hl3] <;> rfl))
    · repeat' (first | simp -implicitDefEqProofs (maxSteps := 1000000) (disch := (first | omega | (simp only [go_sem] <;> omega) | fail)) only [go_sem, ints, bools, mat, hl0, hl1, hl2, hl3] | ((first | apply goIf_b | apply goG_b | apply goTG_b | apply goOG_b) <;> intro h <;> ((try simp only [hnq] at h); (try simp only [h]); (try simp only [hnr] at h)) <;> (try (exfalso; omega))))
      first | refine goC_call [.r, .r] (hm2) ?_ | refine goOC_call [.r, .r] (hm2) ?_
      repeat' (first | simp -implicitDefEqProofs (maxSteps := 1000000) (disch := (first | omega | (simp only [go_sem] <;> omega) | fail)) only [go_sem, ints, bools, mat, hl0, hl1, hl2, hl3] | ((first | apply goIf_b | apply goG_b | apply goTG_b | apply goOG_b) <;> intro h <;> ((try simp only [hnq] at h); (try simp only [h]); (try simp only [hnr] at h)) <;> (try (exfalso; omega))))
      refine hJ 3 (by omega) (by omega) _ (by (simp -implicitDefEqProofs (maxSteps := 1000000) (disch := (first | omega | (simp only [go_sem] <;> omega) | fail)) only [go_sem, ints, bools, mat, hl0, hl1, hl2, hl3] <;> rfl))
    · repeat' (first | simp -implicitDefEqProofs (maxSteps := 1000000) (disch := (first | omega | (simp only [go_sem] <;> omega) | fail)) only [go_sem, ints, bools, mat, hl0, hl1, hl2, hl3] | ((first | apply goIf_b | apply goG_b | apply goTG_b | apply goOG_b) <;> intro h <;> ((try simp only [hnq] at h); (try simp only [h]); (try simp only [hnr] at h)) <;> (try (exfalso; omega))))
      first | refine goC_call [.r, .r] (hm3) ?_ | refine goOC_call [.r, .r] (hm3) ?_
      repeat' (first | simp -implicitDefEqProofs (maxSteps := 1000000) (disch := (first | omega | (simp only [go_sem] <;> omega) | fail)) only [go_sem, ints, bools, mat, hl0, hl1, hl2, hl3] | ((first | apply goIf_b | apply goG_b | apply goTG_b | apply goOG_b) <;> intro h <;> ((try simp only [hnq] at h); (try simp only [h]); (try simp only [hnr] at h)) <;> (try (exfalso; omega))))
      refine hJ 4 (by omega) (by omega) _ (by (simp -implicitDefEqProofs (maxSteps := 1000000) (disch := (first | omega | (simp only [go_sem] <;> omega) | fail)) only [go_sem, ints, bools, mat, hl0, hl1, hl2, hl3] <;> rfl))
    · repeat' (first | simp -implicitDefEqProofs (maxSteps := 1000000) (disch := (first | omega | (simp only [go_sem] <;> omega) | fail)) only [go_sem, ints, bools, mat, hl0, hl1, hl2, hl3] | ((first | apply goIf_b | apply goG_b | apply goTG_b | apply goOG_b) <;> intro h <;> ((try simp only [hnq] at h); (try simp only [h]); (try simp only [hnr] at h)) <;> (try (exfalso; omega))))
    · omega
theorem d_IndexFunc_23 (g : List D → Value → Prop) (hg : ∀ l : List Int, l.length ≤ 3 → g [ints l] (.bool (badR l))) : Den PA f_slices_IndexFunc_____int64___int64_ [.ownm [.own 1 ([0, 0, 0].map di), .own 1 ([0, 0, 1].map di), .own 1 ([0, 1, 0].map di), .own 1 ([0, 1, 1].map di), .own 1 ([1, 0, 0].map di), .own 1 ([1, 0, 1].map di), .own 1 ([1, 1, 0].map di), .own 1 ([1, 1, 1].map di)], .pfn g] [.ownm [.own 1 ([0, 0, 0].map di), .own 1 ([0, 0, 1].map di), .own 1 ([0, 1, 0].map di), .own 1 ([0, 1, 1].map di), .own 1 ([1, 0, 0].map di), .own 1 ([1, 0, 1].map di), .own 1 ([1, 1, 0].map di), .own 1 ([1, 1, 1].map di)], .any] (.d (di 0)) := by
  refine den_go [0] l_slices_IndexFunc_____int64___int64_ ?_
  repeat' (first | simp -implicitDefEqProofs (maxSteps := 1000000) (disch := (first | omega | (simp only [go_sem] <;> omega) | fail)) only [go_sem, ints, bools, mat, c_slices_IndexFunc_____int64___int64_] | ((first | apply goIf_b | apply goG_b | apply goTG_b | apply goOG_b) <;> intro h <;> ((try simp only [hnq] at h); (try simp only [h]); (try simp only [hnr] at h)) <;> (try (exfalso; omega))))
  refine go_loop (fun (_ : Unit) => ⟨[(0, .sl 0 0 8 1), (1, .pfn g), (7, .d (di ((8 : Nat) : Int))), (8, .d (di 0)), (19, .sl 0 0 8 1)], [some (.mix [.sl 1 0 3 1, .sl 2 0 3 1, .sl 3 0 3 1, .sl 4 0 3 1, .sl 5 0 3 1, .sl 6 0 3 1, .sl 7 0 3 1, .sl 8 0 3 1]), some (.dat 1 [di 0, di 0, di 0]), some (.dat 1 [di 0, di 0, di 1]), some (.dat 1 [di 0, di 1, di 0]), some (.dat 1 [di 0, di 1, di 1]), some (.dat 1 [di 1, di 0, di 0]), some (.dat 1 [di 1, di 0, di 1]), some (.dat 1 [di 1, di 1, di 0]), some (.dat 1 [di 1, di 1, di 1])]⟩) (fun _ => True) (fun _ => 0) () ?_ trivial ?_
  · simp -implicitDefEqProofs (maxSteps := 1000000) (disch := (first | omega | (simp only [go_sem] <;> omega) | fail)) only [go_sem, ints, bools, mat]
    all_goals rfl
  · intro _ _ J _
    repeat' (first | simp -implicitDefEqProofs (maxSteps := 1000000) (disch := (first | omega | (simp only [go_sem] <;> omega) | fail)) only [go_sem, ints, bools, mat] | ((first | apply goIf_b | apply goG_b | apply goTG_b | apply goOG_b) <;> intro h <;> ((try simp only [hnq] at h); (try simp only [h]); (try simp only [hnr] at h)) <;> (try (exfalso; omega))))
    refine goV_pfn [ints [0, 0, 0]] (.bool true) (by simp -implicitDefEqProofs (maxSteps := 1000000) (disch := (first | omega | (simp only [go_sem] <;> omega) | fail)) only [go_sem, ints, bools, mat]) rfl (hg [0, 0, 0] (by decide)) ?_
    repeat' (first | simp -implicitDefEqProofs (maxSteps := 1000000) (disch := (first | omega | (simp only [go_sem] <;> omega) | fail)) only [go_sem, ints, bools, mat] | ((first | apply goIf_b | apply goG_b | apply goTG_b | apply goOG_b) <;> intro h <;> ((try simp only [hnq] at h); (try simp only [h]); (try simp only [hnr] at h)) <;> (try (exfalso; omega))))
theorem d_DeleteFunc_23 (g : List D → Value → Prop) (hg : ∀ l : List Int, l.length ≤ 3 → g [ints l] (.bool (badR l))) : Den PA f_slices_DeleteFunc_____int64___int64_ [.ownm [.own 1 ([0, 0, 0].map di), .own 1 ([0, 0, 1].map di), .own 1 ([0, 1, 0].map di), .own 1 ([0, 1, 1].map di), .own 1 ([1, 0, 0].map di), .own 1 ([1, 0, 1].map di), .own 1 ([1, 1, 0].map di), .own 1 ([1, 1, 1].map di)], .pfn g] [.any, .any] (.ownm [.own 1 ([0, 0, 1].map di), .own 1 ([0, 1, 0].map di), .own 1 ([0, 1, 1].map di), .own 1 ([1, 0, 0].map di), .own 1 ([1, 0, 1].map di), .own 1 ([1, 1, 0].map di), .own 1 ([1, 1, 1].map di)]) := by
  refine den_go [] l_slices_DeleteFunc_____int64___int64_ ?_
  repeat' (first | simp -implicitDefEqProofs (maxSteps := 1000000) (disch := (first | omega | (simp only [go_sem] <;> omega) | fail)) only [go_sem, ints, bools, mat, c_slices_DeleteFunc_____int64___int64_] | ((first | apply goIf_b | apply goG_b | apply goTG_b | apply goOG_b) <;> intro h <;> ((try simp only [hnq] at h); (try simp only [h]); (try simp only [hnr] at h)) <;> (try (exfalso; omega))))
  first | refine goC_of [.o, .g g] (d_IndexFunc_23 g hg) (by first | (simp -implicitDefEqProofs (maxSteps := 1000000) (disch := (first | omega | (simp only [go_sem] <;> omega) | fail)) only [go_sem, ints, bools, mat] <;> rfl) | rfl) (by first | (simp -implicitDefEqProofs (maxSteps := 1000000) (disch := (first | omega | (simp only [go_sem] <;> omega) | fail)) only [go_sem, ints, bools, mat] <;> rfl) | rfl) (⟨trivial, fun _ _ h => h, trivial⟩) (by first | (simp -implicitDefEqProofs (maxSteps := 1000000) (disch := (first | omega | (simp only [go_sem] <;> omega) | fail)) only [go_sem, ints, bools, mat] <;> rfl) | rfl) ?_ | refine goOC_of [.o, .g g] (d_IndexFunc_23 g hg) (by first | (simp -implicitDefEqProofs (maxSteps := 1000000) (disch := (first | omega | (simp only [go_sem] <;> omega) | fail)) only [go_sem, ints, bools, mat] <;> rfl) | rfl) (by first | (simp -implicitDefEqProofs (maxSteps := 1000000) (disch := (first | omega | (simp only [go_sem] <;> omega) | fail)) only [go_sem, ints, bools, mat] <;> rfl) | rfl) (by first | (simp -implicitDefEqProofs (maxSteps := 1000000) (disch := (first | omega | (simp only [go_sem] <;> omega) | fail)) only [go_sem, ints, bools, mat] <;> rfl) | rfl) (⟨trivial, fun _ _ h => h, trivial⟩) (by first | (simp -implicitDefEqProofs (maxSteps := 1000000) (disch := (first | omega | (simp only [go_sem] <;> omega) | fail)) only [go_sem, ints, bools, mat] <;> rfl) | rfl) ?_
  repeat' (first | simp -implicitDefEqProofs (maxSteps := 1000000) (disch := (first | omega | (simp only [go_sem] <;> omega) | fail)) only [go_sem, ints, bools, mat] | ((first | apply goIf_b | apply goG_b | apply goTG_b | apply goOG_b) <;> intro h <;> ((try simp only [hnq] at h); (try simp only [h]); (try simp only [hnr] at h)) <;> (try (exfalso; omega))))
  refine go_loop (fun (i : Nat) => match i with | 0 => ⟨[(0, .sl 0 0 8 1), (1, .pfn g), (5, .d (di ((0 : Nat) : Int))), (6, .d (di ((1 : Nat) : Int))), (42, .any)], [some (.mix [.sl 1 0 3 1, .sl 2 0 3 1, .sl 3 0 3 1, .sl 4 0 3 1, .sl 5 0 3 1, .sl 6 0 3 1, .sl 7 0 3 1, .sl 8 0 3 1]), some (.dat 1 [di 0, di 0, di 0]), some (.dat 1 [di 0, di 0, di 1]), some (.dat 1 [di 0, di 1, di 0]), some (.dat 1 [di 0, di 1, di 1]), some (.dat 1 [di 1, di 0, di 0]), some (.dat 1 [di 1, di 0, di 1]), some (.dat 1 [di 1, di 1, di 0]), some (.dat 1 [di 1, di 1, di 1])]⟩ | 1 => ⟨[(0, .sl 0 0 8 1), (1, .pfn g), (5, .d (di ((1 : Nat) : Int))), (6, .d (di ((2 : Nat) : Int))), (42, .any)], [some (.mix [.sl 1 0 3 1, .sl 1 0 3 1, .sl 2 0 3 1, .sl 3 0 3 1, .sl 4 0 3 1, .sl 5 0 3 1, .sl 6 0 3 1, .sl 7 0 3 1]), some (.dat 1 [di 0, di 0, di 1]), some (.dat 1 [di 0, di 1, di 0]), some (.dat 1 [di 0, di 1, di 1]), some (.dat 1 [di 1, di 0, di 0]), some (.dat 1 [di 1, di 0, di 1]), some (.dat 1 [di 1, di 1, di 0]), some (.dat 1 [di 1, di 1, di 1])]⟩ | 2 => ⟨[(0, .sl 0 0 8 1), (1, .pfn g), (5, .d (di ((2 : Nat) : Int))), (6, .d (di ((3 : Nat) : Int))), (42, .any)], [some (.mix [.sl 1 0 3 1, .sl 2 0 3 1, .sl 2 0 3 1, .sl 3 0 3 1, .sl 4 0 3 1, .sl 5 0 3 1, .sl 6 0 3 1, .sl 7 0 3 1]), some (.dat 1 [di 0, di 0, di 1]), some (.dat 1 [di 0, di 1, di 0]), some (.dat 1 [di 0, di 1, di 1]), some (.dat 1 [di 1, di 0, di 0]), some (.dat 1 [di 1, di 0, di 1]), some (.dat 1 [di 1, di 1, di 0]), some (.dat 1 [di 1, di 1, di 1])]⟩ | 3 => ⟨[(0, .sl 0 0 8 1), (1, .pfn g), (5, .d (di ((3 : Nat) : Int))), (6, .d (di ((4 : Nat) : Int))), (42, .any)], [some (.mix [.sl 1 0 3 1, .sl 2 0 3 1, .sl 3 0 3 1, .sl 3 0 3 1, .sl 4 0 3 1, .sl 5 0 3 1, .sl 6 0 3 1, .sl 7 0 3 1]), some (.dat 1 [di 0, di 0, di 1]), some (.dat 1 [di 0, di 1, di 0]), some (.dat 1 [di 0, di 1, di 1]), some (.dat 1 [di 1, di 0, di 0]), some (.dat 1 [di 1, di 0, di 1]), some (.dat 1 [di 1, di 1, di 0]), some (.dat 1 [di 1, di 1, di 1])]⟩ | 4 => ⟨[(0, .sl 0 0 8 1), (1, .pfn g), (5, .d (di ((4 : Nat) : Int))), (6, .d (di ((5 : Nat) : Int))), (42, .any)], [some (.mix [.sl 1 0 3 1, .sl 2 0 3 1, .sl 3 0 3 1, .sl 4 0 3 1, .sl 4 0 3 1, .sl 5 0 3 1, .sl 6 0 3 1, .sl 7 0 3 1]), some (.dat 1 [di 0, di 0, di 1]), some (.dat 1 [di 0, di 1, di 0]), some (.dat 1 [di 0, di 1, di 1]), some (.dat 1 [di 1, di 0, di 0]), some (.dat 1 [di 1, di 0, di 1]), some (.dat 1 [di 1, di 1, di 0]), some (.dat 1 [di 1, di 1, di 1])]⟩ | 5 => ⟨[(0, .sl 0 0 8 1), (1, .pfn g), (5, .d (di ((5 : Nat) : Int))), (6, .d (di ((6 : Nat) : Int))), (42, .any)], [some (.mix [.sl 1 0 3 1, .sl 2 0 3 1, .sl 3 0 3 1, .sl 4 0 3 1, .sl 5 0 3 1, .sl 5 0 3 1, .sl 6 0 3 1, .sl 7 0 3 1]), some (.dat 1 [di 0, di 0, di 1]), some (.dat 1 [di 0, di 1, di 0]), some (.dat 1 [di 0, di 1, di 1]), some (.dat 1 [di 1, di 0, di 0]), some (.dat 1 [di 1, di 0, di 1]), some (.dat 1 [di 1, di 1, di 0]), some (.dat 1 [di 1, di 1, di 1])]⟩ | 6 => ⟨[(0, .sl 0 0 8 1), (1, .pfn g), (5, .d (di ((6 : Nat) : Int))), (6, .d (di ((7 : Nat) : Int))), (42, .any)], [some (.mix [.sl 1 0 3 1, .sl 2 0 3 1, .sl 3 0 3 1, .sl 4 0 3 1, .sl 5 0 3 1, .sl 6 0 3 1, .sl 6 0 3 1, .sl 7 0 3 1]), some (.dat 1 [di 0, di 0, di 1]), some (.dat 1 [di 0, di 1, di 0]), some (.dat 1 [di 0, di 1, di 1]), some (.dat 1 [di 1, di 0, di 0]), some (.dat 1 [di 1, di 0, di 1]), some (.dat 1 [di 1, di 1, di 0]), some (.dat 1 [di 1, di 1, di 1])]⟩ | _ => ⟨[(0, .sl 0 0 8 1), (1, .pfn g), (5, .d (di ((7 : Nat) : Int))), (6, .d (di ((8 : Nat) : Int))), (42, .any)], [some (.mix [.sl 1 0 3 1, .sl 2 0 3 1, .sl 3 0 3 1, .sl 4 0 3 1, .sl 5 0 3 1, .sl 6 0 3 1, .sl 7 0 3 1, .sl 7 0 3 1]), some (.dat 1 [di 0, di 0, di 1]), some (.dat 1 [di 0, di 1, di 0]), some (.dat 1 [di 0, di 1, di 1]), some (.dat 1 [di 1, di 0, di 0]), some (.dat 1 [di 1, di 0, di 1]), some (.dat 1 [di 1, di 1, di 0]), some (.dat 1 [di 1, di 1, di 1])]⟩) (fun i => i ≤ 7) (fun i => 7 - i) 0 ?_ ?_ ?_
  · simp -implicitDefEqProofs (maxSteps := 1000000) (disch := (first | omega | (simp only [go_sem] <;> omega) | fail)) only [go_sem, ints, bools, mat]
    all_goals rfl
  · exact Nat.zero_le _
  · rintro i hi J hJ
    rcases i with _ | _ | _ | _ | _ | _ | _ | _ | i
    · repeat' (first | simp -implicitDefEqProofs (maxSteps := 1000000) (disch := (first | omega | (simp only [go_sem] <;> omega) | fail)) only [go_sem, ints, bools, mat] | ((first | apply goIf_b | apply goG_b | apply goTG_b | apply goOG_b) <;> intro h <;> ((try simp only [hnq] at h); (try simp only [h]); (try simp only [hnr] at h)) <;> (try (exfalso; omega))))
      refine goV_pfn [ints [0, 0, 1]] (.bool false) (by simp -implicitDefEqProofs (maxSteps := 1000000) (disch := (first | omega | (simp only [go_sem] <;> omega) | fail)) only [go_sem, ints, bools, mat]) rfl (hg [0, 0, 1] (by decide)) ?_
      repeat' (first | simp -implicitDefEqProofs (maxSteps := 1000000) (disch := (first | omega | (simp only [go_sem] <;> omega) | fail)) only [go_sem, ints, bools, mat] | ((first | apply goIf_b | apply goG_b | apply goTG_b | apply goOG_b) <;> intro h <;> ((try simp only [hnq] at h); (try simp only [h]); (try simp only [hnr] at h)) <;> (try (exfalso; omega))))
      refine hJ 1 (by omega) (by omega) _ (by (simp -implicitDefEqProofs (maxSteps := 1000000) (disch := (first | omega | (simp only [go_sem] <;> omega) | fail)) only [go_sem, ints, bools, mat] <;> rfl))
    · repeat' (first | simp -implicitDefEqProofs (maxSteps := 1000000) (disch := (first | omega | (simp only [go_sem] <;> omega) | fail)) only [go_sem, ints, bools, mat] | ((first | apply goIf_b | apply goG_b | apply goTG_b | apply goOG_b) <;> intro h <;> ((try simp only [hnq] at h); (try simp only [h]); (try simp only [hnr] at h)) <;> (try (exfalso; omega))))
      refine goV_pfn [ints [0, 1, 0]] (.bool false) (by simp -implicitDefEqProofs (maxSteps := 1000000) (disch := (first | omega | (simp only [go_sem] <;> omega) | fail)) only [go_sem, ints, bools, mat]) rfl (hg [0, 1, 0] (by decide)) ?_
      repeat' (first | simp -implicitDefEqProofs (maxSteps := 1000000) (disch := (first | omega | (simp only [go_sem] <;> omega) | fail)) only [go_sem, ints, bools, mat] | ((first | apply goIf_b | apply goG_b | apply goTG_b | apply goOG_b) <;> intro h <;> ((try simp only [hnq] at h); (try simp only [h]); (try simp only [hnr] at h)) <;> (try (exfalso; omega))))
      refine hJ 2 (by omega) (by omega) _ (by (simp -implicitDefEqProofs (maxSteps := 1000000) (disch := (first | omega | (simp only [go_sem] <;> omega) | fail)) only [go_sem, ints, bools, mat] <;> rfl))
    · repeat' (first | simp -implicitDefEqProofs (maxSteps := 1000000) (disch := (first | omega | (simp only [go_sem] <;> omega) | fail)) only [go_sem, ints, bools, mat] | ((first | apply goIf_b | apply goG_b | apply goTG_b | apply goOG_b) <;> intro h <;> ((try simp only [hnq] at h); (try simp only [h]); (try simp only [hnr] at h)) <;> (try (exfalso; omega))))
      refine goV_pfn [ints [0, 1, 1]] (.bool false) (by simp -implicitDefEqProofs (maxSteps := 1000000) (disch := (first | omega | (simp only [go_sem] <;> omega) | fail)) only [go_sem, ints, bools, mat]) rfl (hg [0, 1, 1] (by decide)) ?_
      repeat' (first | simp -implicitDefEqProofs (maxSteps := 1000000) (disch := (first | omega | (simp only [go_sem] <;> omega) | fail)) only [go_sem, ints, bools, mat] | ((first | apply goIf_b | apply goG_b | apply goTG_b | apply goOG_b) <;> intro h <;> ((try simp only [hnq] at h); (try simp only [h]); (try simp only [hnr] at h)) <;> (try (exfalso; omega))))
      refine hJ 3 (by omega) (by omega) _ (by (simp -implicitDefEqProofs (maxSteps := 1000000) (disch := (first | omega | (simp only [go_sem] <;> omega) | fail)) only [go_sem, ints, bools, mat] <;> rfl))
    · repeat' (first | simp -implicitDefEqProofs (maxSteps := 1000000) (disch := (first | omega | (simp only [go_sem] <;> omega) | fail)) only [go_sem, ints, bools, mat] | ((first | apply goIf_b | apply goG_b | apply goTG_b | apply goOG_b) <;> intro h <;> ((try simp only [hnq] at h); (try simp only [h]); (try simp only [hnr] at h)) <;> (try (exfalso; omega))))
      refine goV_pfn [ints [1, 0, 0]] (.bool false) (by simp -implicitDefEqProofs (maxSteps := 1000000) (disch := (first | omega | (simp only [go_sem] <;> omega) | fail)) only [go_sem, ints, bools, mat]) rfl (hg [1, 0, 0] (by decide)) ?_
      repeat' (first | simp -implicitDefEqProofs (maxSteps := 1000000) (disch := (first | omega | (simp only [go_sem] <;> omega) | fail)) only [go_sem, ints, bools, mat] | ((first | apply goIf_b | apply goG_b | apply goTG_b | apply goOG_b) <;> intro h <;> ((try simp only [hnq] at h); (try simp only [h]); (try simp only [hnr] at h)) <;> (try (exfalso; omega))))
      refine hJ 4 (by omega) (by omega) _ (by (simp -implicitDefEqProofs (maxSteps := 1000000) (disch := (first | omega | (simp only [go_sem] <;> omega) | fail)) only [go_sem, ints, bools, mat] <;> rfl))
    · repeat' (first | simp -implicitDefEqProofs (maxSteps := 1000000) (disch := (first | omega | (simp only [go_sem] <;> omega) | fail)) only [go_sem, ints, bools, mat] | ((first | apply goIf_b | apply goG_b | apply goTG_b | apply goOG_b) <;> intro h <;> ((try simp only [hnq] at h); (try simp only [h]); (try simp only [hnr] at h)) <;> (try (exfalso; omega))))
      refine goV_pfn [ints [1, 0, 1]] (.bool false) (by simp -implicitDefEqProofs (maxSteps := 1000000) (disch := (first | omega | (simp only [go_sem] <;> omega) | fail)) only [go_sem, ints, bools, mat]) rfl (hg [1, 0, 1] (by decide)) ?_
      repeat' (first | simp -implicitDefEqProofs (maxSteps := 1000000) (disch := (first | omega | (simp only [go_sem] <;> omega) | fail)) only [go_sem, ints, bools, mat] | ((first | apply goIf_b | apply goG_b | apply goTG_b | apply goOG_b) <;> intro h <;> ((try simp only [hnq] at h); (try simp only [h]); (try simp only [hnr] at h)) <;> (try (exfalso; omega))))
      refine hJ 5 (by omega) (by omega) _ (by (simp -implicitDefEqProofs (maxSteps := 1000000) (disch := (first | omega | (simp only [go_sem] <;> omega) | fail)) only [go_sem, ints, bools, mat] <;> rfl))
    · repeat' (first | simp -implicitDefEqProofs (maxSteps := 1000000) (disch := (first | omega | (simp only [go_sem] <;> omega) | fail)) only [go_sem, ints, bools, mat] | ((first | apply goIf_b | apply goG_b | apply goTG_b | apply goOG_b) <;> intro h <;> ((try simp only [hnq] at h); (try simp only [h]); (try simp only [hnr] at h)) <;> (try (exfalso; omega))))
      refine goV_pfn [ints [1, 1, 0]] (.bool false) (by simp -implicitDefEqProofs (maxSteps := 1000000) (disch := (first | omega | (simp only [go_sem] <;> omega) | fail)) only [go_sem, ints, bools, mat]) rfl (hg [1, 1, 0] (by decide)) ?_
      repeat' (first | simp -implicitDefEqProofs (maxSteps := 1000000) (disch := (first | omega | (simp only [go_sem] <;> omega) | fail)) only [go_sem, ints, bools, mat] | ((first | apply goIf_b | apply goG_b | apply goTG_b | apply goOG_b) <;> intro h <;> ((try simp only [hnq] at h); (try simp only [h]); (try simp only [hnr] at h)) <;> (try (exfalso; omega))))
      refine hJ 6 (by omega) (by omega) _ (by (simp -implicitDefEqProofs (maxSteps := 1000000) (disch := (first | omega | (simp only [go_sem] <;> omega) | fail)) only [go_sem, ints, bools, mat] <;> rfl))
    · repeat' (first | simp -implicitDefEqProofs (maxSteps := 1000000) (disch := (first | omega | (simp only [go_sem] <;> omega) | fail)) only [go_sem, ints, bools, mat] | ((first | apply goIf_b | apply goG_b | apply goTG_b | apply goOG_b) <;> intro h <;> ((try simp only [hnq] at h); (try simp only [h]); (try simp only [hnr] at h)) <;> (try (exfalso; omega))))
      refine goV_pfn [ints [1, 1, 1]] (.bool false) (by simp -implicitDefEqProofs (maxSteps := 1000000) (disch := (first | omega | (simp only [go_sem] <;> omega) | fail)) only [go_sem, ints, bools, mat]) rfl (hg [1, 1, 1] (by decide)) ?_
      repeat' (first | simp -implicitDefEqProofs (maxSteps := 1000000) (disch := (first | omega | (simp only [go_sem] <;> omega) | fail)) only [go_sem, ints, bools, mat] | ((first | apply goIf_b | apply goG_b | apply goTG_b | apply goOG_b) <;> intro h <;> ((try simp only [hnq] at h); (try simp only [h]); (try simp only [hnr] at h)) <;> (try (exfalso; omega))))
      refine hJ 7 (by omega) (by omega) _ (by (simp -implicitDefEqProofs (maxSteps := 1000000) (disch := (first | omega | (simp only [go_sem] <;> omega) | fail)) only [go_sem, ints, bools, mat] <;> rfl))
    · repeat' (first | simp -implicitDefEqProofs (maxSteps := 1000000) (disch := (first | omega | (simp only [go_sem] <;> omega) | fail)) only [go_sem, ints, bools, mat, clrM, oneD, List.replicate_succ, List.replicate_zero] | ((first | apply goIf_b | apply goG_b | apply goTG_b | apply goOG_b) <;> intro h <;> ((try simp only [hnq] at h); (try simp only [h]); (try simp only [hnr] at h)) <;> (try (exfalso; omega))))
    · omega
end Go.Proofs.Ytccfejnckmokkaa.Va
