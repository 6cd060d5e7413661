/- Contracts of the functions that FnShiftsAndBundles reaches (part 1). Condition: none. -/
import Derived.Test.YtgmocipfgfnolacGreatDFnShiftsAndBundles0
set_option linter.all false
set_option linter.unusedSimpArgs false
set_option linter.unusedVariables false
namespace Go.Proofs.YtgmocipfgfnolacGreat.Va
open Go
set_option maxHeartbeats 4000000
set_option maxRecDepth 100000
theorem d_spec_FirstShifts (l c : List Int) (hl : l.length < 1048577) (hc : c.length < 1048577) : Den PA f_spec_FirstShifts [.d (.agg [ints l]), .d (ints c)] [.any, .any] (lstR (fsE l c) (fsV l c)) := by
  refine den_go [] l_spec_FirstShifts ?_
  refine go_c0 ?_
  have yc := d_spec_l02Full l hl c hc; first | refine goC_call [.r, .r] yc ?_ | refine goOC_call [.r, .r] yc ?_
  by_cases h : sgM l c = 0
  · obtain ⟨hs, hcc, hc0⟩ := sgM_ok h
    have hcw := inC_code hcc
    have hn := isSpaceM_n hs
    have hpr := isSpaceM_prod hs
    have hp1 := prodM_pos (isSpaceM_szs hs)
    have hal := allW_len l
    rw [h]
    have e1 : fsE l c = fsC (fsN l c (prodM l).toNat) := by unfold fsE; rw [if_pos h]
    have y1 := kc [.r] (d_spec_l01N l (by omega) (isSpaceM_q hs)); refine go_c0 ?_
    refine go_loop (fun (p : Nat × List Int × List Int) => ⟨[(1, .d (ints c)), (2, .ref 0 0), (7, .sl 1 0 (prodM l).toNat 1), (8, .sl 2 0 p.2.2.length 1), (23, .d (di (prodM l).toNat)), (24, .d (di p.1))], [some (.var [ints l]), some (.dat 1 ((setM l p.2.1).map db)), some (.dat 1 (p.2.2.map di))]⟩) (fun p => p.1 ≤ (prodM l).toNat ∧ fsN l c p.1 = some p.2) (fun p => (prodM l).toNat - p.1) (0, [], []) ?_ ?_ ?_
    · exact go_r0
    · exact ⟨Nat.zero_le _, rfl⟩
    · rintro ⟨w, X, O⟩ ⟨h1, h2⟩ J hJ
      dsimp only at h1 h2 ⊢
      obtain ⟨hX, hj, hO⟩ := fs_ok hs w X O h2
      by_cases hwl : w < (prodM l).toNat
      · have hg := setM_get hX hwl
        by_cases hwX : (w : Int) ∈ X
        · rw [decide_eq_true hwX] at hg
          have z1 := hg; refine go_c1 ?_
          refine hJ (w + 1, X, O) ⟨by dsimp only; omega, ?_⟩ (by dsimp only; omega) _ go_r0
          dsimp only
          rw [fsN, h2, fsS, if_pos hwX]
        · rw [decide_eq_false hwX] at hg
          have h4 : fsN l c (w + 1) = fsT l c (X, O) ((allW l).find? (cndB l c w X)) := by
            rw [fsN, h2, fsS, if_neg hwX]
          have z1 := hg; refine go_c1 ?_
          refine go_loop (fun (p : Nat × Option Int) => ⟨[(1, .d (ints c)), (2, .ref 0 0), (7, .sl 1 0 (prodM l).toNat 1), (8, .sl 2 0 (match p.2 with | none => O.length | some _ => O.length + 1) 1), (9, .d (di w)), (10, .d (db p.2.isSome)), (11, .d (di p.1)), (23, .d (di (prodM l).toNat)), (24, .d (di w))], [some (.var [ints l]), some (.dat 1 ((setM l (match p.2 with | none => X | some v => X ++ shM l c v)).map db)), some (.dat 1 ((match p.2 with | none => O | some v => O ++ [v]).map di))]⟩)
            (fun p => p.1 ≤ (prodM l).toNat ∧ match p.2 with | none => ∀ i : Nat, i < p.1 → cndB l c w X i = false | some v => (allW l).find? (cndB l c w X) = some v) (fun p => (prodM l).toNat - p.1) (0, none) ?_ ?_ ?_
          · exact go_r0
          · exact ⟨Nat.zero_le _, fun i hi => by dsimp only at hi; omega⟩
          · rintro ⟨v, o⟩ ⟨g1, g2⟩ J2 hJ2
            dsimp only at g1 g2 ⊢
            cases o with
            | none =>
              dsimp only [Option.isSome] at g2 ⊢
              by_cases hvl : v < (prodM l).toNat
              · have hvw := allW_get l hvl
                have hsl := shM_len l c v
                have e5 : ((shM l c v).any fun y => y == (w : Int)) = decide ((w : Int) ∈ shM l c v) := by
                  rw [Bool.eq_iff_iff, List.any_eq_true, decide_eq_true_eq]
                  exact ⟨fun ⟨y, a, b⟩ => by simp at b; rw [← b]; exact a, fun h => ⟨_, h, by simp⟩⟩
                have y1 := kc [.r] (d_spec_l01N l (by omega) (isSpaceM_q hs)); have y2 := kc [.r, .r, .r] (d_spec_l01Shifted l c hs hc hcw v (by omega) (by omega)); refine go_c0 ?_
                have yc := d_spec_l01Has (shM l c v) w (by omega); first | refine goC_call [.r, .r] yc ?_ | refine goOC_call [.r, .r] yc ?_
                rw [e5]
                by_cases hm : (w : Int) ∈ shM l c v
                · rw [decide_eq_true hm]
                  refine go_c0 ?_
                  have yc := d_spec_l06Mark l c X hs hc hcw hX v (by omega) (by omega); first | refine goC_call [.r, .r, .r, .o] yc ?_ | refine goOC_call [.r, .r, .r, .o] yc ?_
                  by_cases hf : freR l c X v = true
                  · rw [hf, if_pos rfl]
                    refine go_c0 ?_
                    refine hJ2 (v + 1, some (v : Int)) ⟨by dsimp only; omega, ?_⟩ (by dsimp only; omega) _ go_r0
                    dsimp only
                    rw [List.find?_eq_some_iff_getElem]
                    have hvl2 : v < (allW l).length := by rw [allW_len]; exact hvl
                    have hvg : (allW l)[v] = (v : Int) := by simpa [hvl2] using hvw
                    refine ⟨by rw [cndB, decide_eq_true hm, hf]; rfl, v, hvl2, hvg, fun i hi => ?_⟩
                    have hil2 : i < (allW l).length := by omega
                    have hig : (allW l)[i] = (i : Int) := by simpa [hil2] using allW_get l (i := i) (by omega)
                    rw [hig, g2 i hi]; rfl
                  · have hf' : freR l c X v = false := by simpa using hf
                    rw [hf', if_neg (by simp)]
                    refine go_c0 ?_
                    refine hJ2 (v + 1, none) ⟨by dsimp only; omega, ?_⟩ (by dsimp only; omega) _ go_r0
                    exact all_ext g2 (by rw [cndB, hf', Bool.and_false])
                · rw [decide_eq_false hm]
                  refine go_c0 ?_
                  refine hJ2 (v + 1, none) ⟨by dsimp only; omega, ?_⟩ (by dsimp only; omega) _ go_r0
                  exact all_ext g2 (by rw [cndB, decide_eq_false hm, Bool.false_and])
              · have : v = (prodM l).toNat := by omega
                subst this
                have hnf : (allW l).find? (cndB l c w X) = none := by
                  rw [List.find?_eq_none]
                  intro u hu
                  have := (allW_mem l u).1 hu
                  have := g2 u.toNat (by omega)
                  rw [Int.toNat_of_nonneg (by omega)] at this
                  rw [this]; simp
                rw [hnf] at h4
                have hall : fsN l c (prodM l).toNat = none := by
                  have := fs_none h4 ((prodM l).toNat - (w + 1))
                  rwa [show w + 1 + ((prodM l).toNat - (w + 1)) = (prodM l).toNat by omega] at this
                have e2 : fsE l c = 4 := by rw [e1, hall]; rfl
                rw [lstR_no (by rw [e2]; decide), e2]
                have y1 := kc [.r] (d_spec_l01N l (by omega) (isSpaceM_q hs)); exact go_e0
            | some u =>
              dsimp only [Option.isSome] at g2 ⊢
              rw [g2] at h4
              repeat' (first | simp -implicitDefEqProofs (maxSteps := 1000000) (disch := (first | omega | (simp only [go_sem] <;> omega) | fail)) only [go_sem, ints, bools, mat] | ((first | apply goIf_b | apply goG_b | apply goTG_b | apply goOG_b) <;> intro h <;> ((try simp only [hnq] at h); (try simp only [h]); (try simp only [hnr] at h)) <;> (try (exfalso; omega))))
              have yc := d_spec_l01N l (by omega) (isSpaceM_q hs); first | refine goC_call [.r] yc ?_ | refine goOC_call [.r] yc ?_
              repeat' (first | simp -implicitDefEqProofs (maxSteps := 1000000) (disch := (first | omega | (simp only [go_sem] <;> omega) | fail)) only [go_sem, ints, bools, mat] | ((first | apply goIf_b | apply goG_b | apply goTG_b | apply goOG_b) <;> intro h <;> ((try simp only [hnq] at h); (try simp only [h]); (try simp only [hnr] at h)) <;> (try (exfalso; omega))))
              all_goals (refine hJ (w + 1, X ++ shM l c u, O ++ [u]) ⟨by dsimp only; omega, h4⟩ (by dsimp only; omega) _ ?_)
              all_goals simp -implicitDefEqProofs (maxSteps := 1000000) (disch := (first | omega | (simp only [go_sem] <;> omega) | fail)) only [go_sem, ints, bools, mat]
              all_goals rfl
      · have : w = (prodM l).toNat := by omega
        subst this
        have e2 : fsE l c = 0 := by rw [e1, h2]; rfl
        have e3 : fsV l c = O := by unfold fsV; rw [h2]; rfl
        rw [e3, e2, lstR_ok rfl]
        exact go_e0
  · have e1 : fsE l c = sgM l c := by unfold fsE; rw [if_neg h]
    rw [e1, lstR_no h]
    generalize sgM l c = b at h
    repeat' (first | simp -implicitDefEqProofs (maxSteps := 1000000) (disch := (first | omega | (simp only [go_sem] <;> omega) | fail)) only [go_sem, ints, bools, mat] | ((first | apply goIf_b | apply goG_b | apply goTG_b | apply goOG_b) <;> intro h <;> ((try simp only [hnq] at h); (try simp only [h]); (try simp only [hnr] at h)) <;> (try (exfalso; omega))))
    all_goals (exfalso; omega)
theorem pad8_inj {a b : List Int} (h : a.length = b.length) (h8 : a.length ≤ 8) : (pad8 a == pad8 b) = decide (a = b) := by
  rw [Bool.eq_iff_iff, beq_iff_eq, decide_eq_true_eq]
  constructor
  · intro e
    refine eq_getD h fun j hj => ?_
    have := congrArg (fun l => l.getD j 0) e
    simpa only [pad8_get h8, pad8_get (show b.length ≤ 8 by omega)] using this
  · intro e; rw [e]
theorem d_slices_Index_dig (ds : List (List Int)) (a : List Int) (h8 : a.length ≤ 8) (hd : ∀ i, i < ds.length → (ds.getD i []).length = a.length) (hl : ds.length < 1048577) :
    Den PA f_slices_Index___impl_digits_impl_digits_ [.d (.lst 8 (digs ds)), .d (dig a)] [.any, .any] (.d (di (match ds.findIdx? (fun x => decide (a = x)) with | some j => j | none => -1))) := by
  have ea := pad8_len a
  refine den_go [] l_slices_Index___impl_digits_impl_digits_ ?_
  refine go_c0 ?_
  refine go_loop (fun (j : Nat) => ⟨[(0, .d (.lst 8 (digs ds))), (3, .ref 0 0), (7, .d (di ds.length)), (8, .d (di j))], [some (.var ((pad8 a).map dy))]⟩) (fun j => j ≤ ds.length ∧ ∀ i, i < j → decide (a = ds.getD i []) = false) (fun j => ds.length - j) 0 ?_ ?_ ?_
  · exact go_r0
  · simp
  · rintro j ⟨hj, hi⟩ J hJ
    by_cases hjl : j < ds.length
    · have e1 := hd j hjl
      have ej := pad8_len (ds.getD j [])
      have e2 := pad8_inj (a := a) (b := ds.getD j []) e1.symm h8
      repeat' (first | simp -implicitDefEqProofs (maxSteps := 1000000) (disch := (first | omega | (simp only [go_sem] <;> omega) | fail)) only [go_sem, ints, bools, mat] | ((first | apply goIf_b | apply goG_b | apply goTG_b | apply goOG_b) <;> intro h <;> ((try simp only [hnq] at h); (try simp only [h]); (try simp only [hnr] at h)) <;> (try (exfalso; omega))))
      · have hk : a = ds.getD j [] := by
          have := decide_eq_true (p := pad8 a = pad8 (ds.getD j [])) (by assumption)
          have e3 : (pad8 a == pad8 (ds.getD j [])) = true := by rw [beq_iff_eq]; assumption
          rw [e2] at e3; exact of_decide_eq_true e3
        have e : ds.findIdx? (fun x => decide (a = x)) = some j := by
          rw [List.findIdx?_eq_some_iff_getElem]
          refine ⟨hjl, by rw [decide_eq_true_eq, hk]; simp [hjl], fun i hi' => ?_⟩
          have := hi i hi'
          simpa [show i < ds.length by omega] using this
        rw [e]
      · refine hJ (j + 1) ⟨by omega, all_ext hi ?_⟩ (by omega) _ go_r0
        rw [← e2, beq_eq_false_iff_ne]; assumption
    · have : j = ds.length := by omega
      subst this
      have e : ds.findIdx? (fun x => decide (a = x)) = none := by
        rw [List.findIdx?_eq_none_iff]
        intro x hx
        obtain ⟨i, hi', rfl⟩ := List.mem_iff_getElem.1 hx
        have := hi i (by omega)
        simpa [hi'] using this
      rw [e]
      exact go_e0
theorem d_slices_Contains_dig (ds : List (List Int)) (a : List Int) (h8 : a.length ≤ 8) (hd : ∀ i, i < ds.length → (ds.getD i []).length = a.length) (hl : ds.length < 1048577) :
    Den PA f_slices_Contains___impl_digits_impl_digits_ [.d (.lst 8 (digs ds)), .d (dig a)] [.any, .any] (.d (db (decide (a ∈ ds)))) := by
  have ea := pad8_len a
  refine den_go [] l_slices_Contains___impl_digits_impl_digits_ ?_
  have y1 := kc [.r, .r] (d_slices_Index_dig ds a h8 hd hl); refine go_c0 ?_
  refine dbv ?_
  cases h : ds.findIdx? (fun x => decide (a = x)) with
  | none =>
    rw [List.findIdx?_eq_none_iff] at h
    symm
    have : a ∉ ds := fun hm => by have := h a hm; simp at this
    rw [decide_eq_false this]; rfl
  | some j =>
    obtain ⟨hj, h1, _⟩ := List.findIdx?_eq_some_iff_getElem.1 h
    symm
    rw [decide_eq_true_eq] at h1
    rw [decide_eq_true (show a ∈ ds by rw [h1]; exact List.getElem_mem hj)]
    simp
theorem d_slices_Index_int (l : List Int) (v : Int) (hl : l.length < 1048577) : Den PA f_slices_Index___int64_int64_ [.d (ints l), .d (di v)] [.any, .any] (.d (di (match l.findIdx? (fun x => v == x) with | some j => j | none => -1))) := by
  refine den_go [] l_slices_Index___int64_int64_ ?_
  refine go_c0 ?_
  refine go_loop (fun (j : Nat) => ⟨[(0, .d (ints l)), (1, .d (di v)), (7, .d (di l.length)), (8, .d (di j))], []⟩) (fun j => j ≤ l.length ∧ ∀ i, i < j → (v == l.getD i 0) = false) (fun j => l.length - j) 0 ?_ ?_ ?_
  · exact go_r0
  · simp
  · rintro j ⟨hj, hi⟩ J hJ
    repeat' (first | simp -implicitDefEqProofs (maxSteps := 1000000) (disch := (first | omega | (simp only [go_sem] <;> omega) | fail)) only [go_sem, ints, bools, mat] | ((first | apply goIf_b | apply goG_b | apply goTG_b | apply goOG_b) <;> intro h <;> ((try simp only [hnq] at h); (try simp only [h]); (try simp only [hnr] at h))))
    · have e : l.findIdx? (fun x => v == x) = some j := by
        rw [List.findIdx?_eq_some_iff_getElem]
        refine ⟨by omega, by simpa [show j < l.length by omega] using h, fun i hi' => ?_⟩
        have := hi i hi'
        simpa [show i < l.length by omega] using this
      rw [e]
    · refine hJ (j + 1) ⟨by omega, all_ext hi (by simpa using h)⟩ (by omega) _ go_r0
    · have e : l.findIdx? (fun x => v == x) = none := by
        rw [List.findIdx?_eq_none_iff]
        intro x hx
        obtain ⟨i, hi', rfl⟩ := List.mem_iff_getElem.1 hx
        have := hi i (by omega)
        simpa [hi'] using this
      rw [e]
theorem d_slices_Contains_int (l : List Int) (v : Int) (hl : l.length < 1048577) : Den PA f_slices_Contains___int64_int64_ [.d (ints l), .d (di v)] [.any, .any] (.d (db (decide (v ∈ l)))) := by
  refine den_go [] l_slices_Contains___int64_int64_ ?_
  have y1 := kc [.r, .r] (d_slices_Index_int l v hl); refine go_c0 ?_
  refine dbv ?_
  cases h : l.findIdx? (fun x => v == x) with
  | none =>
    rw [List.findIdx?_eq_none_iff] at h
    symm
    have : v ∉ l := fun hm => by have := h v hm; simp at this
    rw [decide_eq_false this]; rfl
  | some j =>
    obtain ⟨hj, h1, _⟩ := List.findIdx?_eq_some_iff_getElem.1 h
    symm
    rw [beq_iff_eq] at h1
    rw [decide_eq_true (show v ∈ l by rw [h1]; exact List.getElem_mem hj)]
    simp
def bndB (l : List Int) (i u x : Int) : Bool := (distM l u x == 3) && ((digM l u).getD i.toNat 0 != (digM l x).getD i.toNat 0)
def bnS (l : List Int) (i : Int) (Q : List Int) (u x : Int) : List Int := if bndB l i u x = true ∧ x ∉ Q then Q ++ [x] else Q
def bnI (l : List Int) (i : Int) (c : List Int) (Q : List Int) (u : Int) : Nat → List Int
  | 0 => Q
  | j + 1 => bnS l i (bnI l i c Q u j) u (c.getD j 0)
def bnO (l : List Int) (i : Int) (c : List Int) : Nat → Nat → List Int → List Int
  | 0, _, Q => Q
  | f + 1, k, Q => if k < Q.length then bnO l i c f (k + 1) (bnI l i c Q (Q.getD k 0) c.length) else Q
abbrev bnM (l c : List Int) (w i : Int) : List Int := bnO l i c (c.length + 1) 0 [w]
theorem bnS_ok {l : List Int} {i : Int} {c Q : List Int} {u x : Int} (hn : Q.Nodup) (hs : ∀ y, y ∈ Q → y ∈ c) (hx : x ∈ c) : (bnS l i Q u x).Nodup ∧ (∀ y, y ∈ bnS l i Q u x → y ∈ c) ∧ ∃ r, bnS l i Q u x = Q ++ r := by
  unfold bnS
  split
  · rename_i h
    refine ⟨List.nodup_append.2 ⟨hn, by simp, fun a ha b hb e => by simp at hb; subst hb e; exact h.2 ha⟩, fun y hy => ?_, _, rfl⟩
    rcases List.mem_append.1 hy with h | h
    · exact hs y h
    · simp at h; subst h; exact hx
  · exact ⟨hn, hs, [], by simp⟩
theorem bnI_ok {l : List Int} {i : Int} {c Q : List Int} {u : Int} (hn : Q.Nodup) (hs : ∀ y, y ∈ Q → y ∈ c) : ∀ j, j ≤ c.length → (bnI l i c Q u j).Nodup ∧ (∀ y, y ∈ bnI l i c Q u j → y ∈ c) ∧ ∃ r, bnI l i c Q u j = Q ++ r
  | 0, _ => ⟨hn, hs, [], by simp [bnI]⟩
  | j + 1, h => by
    obtain ⟨h1, h2, r, h3⟩ := bnI_ok (l := l) (i := i) (u := u) hn hs j (by omega)
    obtain ⟨g1, g2, r2, g3⟩ := bnS_ok (l := l) (i := i) (u := u) (x := c.getD j 0) h1 h2 (mem_getD (by omega))
    exact ⟨g1, g2, r ++ r2, by rw [bnI, g3, h3, List.append_assoc]⟩
theorem sub_len : ∀ {Q c : List Int}, Q.Nodup → (∀ y, y ∈ Q → y ∈ c) → Q.length ≤ c.length
  | [], c, _, _ => Nat.zero_le _
  | x :: r, c, hn, hs => by
    obtain ⟨h1, h2⟩ := List.nodup_cons.1 hn
    have hx := hs x (by simp)
    have ih := sub_len (Q := r) (c := c.erase x) h2 fun y hy => (List.mem_erase_of_ne (fun e => by subst e; exact h1 hy)).2 (hs y (by simp [hy]))
    have := List.length_erase_of_mem hx
    have := List.length_pos_of_mem hx
    rw [List.length_cons]; omega
theorem getD_app {Q r : List Int} {k : Nat} (h : k < Q.length) : (Q ++ r).getD k 0 = Q.getD k 0 := by
  simp [List.getD_eq_getElem?_getD, List.getElem?_append, h]
theorem bnI_get {l : List Int} {i : Int} {c Q : List Int} {u : Int} (hn : Q.Nodup) (hs : ∀ y, y ∈ Q → y ∈ c) {j k : Nat} (hj : j ≤ c.length) (hk : k < Q.length) : (bnI l i c Q u j).getD k 0 = Q.getD k 0 := by
  obtain ⟨_, _, r, h⟩ := bnI_ok (l := l) (i := i) (u := u) hn hs j hj
  rw [h, getD_app hk]
structure BnQ (l c : List Int) (w i : Int) (k : Nat) (Q : List Int) : Prop where
  le : k ≤ Q.length
  nd : Q.Nodup
  sub : ∀ y, y ∈ Q → y ∈ c
  fin : bnO l i c (c.length + 1 - k) k Q = bnM l c w i
  mw : w ∈ Q
theorem BnQ.len {l c : List Int} {w i : Int} {k : Nat} {Q : List Int} (h : BnQ l c w i k Q) : Q.length ≤ c.length := sub_len h.nd h.sub
theorem BnQ.first {l c : List Int} {w i : Int} (hw : w ∈ c) : BnQ l c w i 0 [w] := ⟨Nat.zero_le _, by simp, fun y hy => by simp at hy; subst hy; exact hw, rfl, by simp⟩
theorem BnQ.next {l c : List Int} {w i : Int} {k : Nat} {Q : List Int} (h : BnQ l c w i k Q) (hk : k < Q.length) : BnQ l c w i (k + 1) (bnI l i c Q (Q.getD k 0) c.length) := by
  obtain ⟨h1, h2, r, h3⟩ := bnI_ok (l := l) (i := i) (u := Q.getD k 0) h.nd h.sub c.length (Nat.le_refl _)
  have hl := BnQ.len h
  have hf := h.fin
  rw [show c.length + 1 - k = (c.length + 1 - (k + 1)) + 1 by omega, bnO, if_pos hk] at hf
  exact ⟨by rw [h3, List.length_append]; omega, h1, h2, hf, by rw [h3]; exact List.mem_append_left _ h.mw⟩
theorem BnQ.last {l c : List Int} {w i : Int} {Q : List Int} (h : BnQ l c w i Q.length Q) : Q = bnM l c w i := by
  have hf := h.fin
  have hl := BnQ.len h
  rw [show c.length + 1 - Q.length = (c.length - Q.length) + 1 by omega, bnO, if_neg (Nat.lt_irrefl _)] at hf
  exact hf
theorem dig_mem {l Q : List Int} (hs : isSpaceM l = true) (hQ : inC l Q) {x : Int} (hx : 0 ≤ x ∧ x < prodM l) : digM l x ∈ digsM l Q ↔ x ∈ Q := by
  unfold digsM
  rw [List.mem_map]
  constructor
  · rintro ⟨y, hy, e⟩
    have := word_eq (isSpaceM_szs hs) (hQ y hy) hx fun i hi => by rw [e]
    rw [← this]; exact hy
  · intro h; exact ⟨x, h, rfl⟩
theorem putI_set {Q : List Int} (x : Int) : putI (setI Q) x = setI (Q ++ [x]) := by
  refine (setI_eq (putI_asc (setI_asc Q) x) fun y => ?_).symm
  rw [putI_mem, setI_mem, List.mem_append, List.mem_singleton]
theorem flat_digs (l Q : List Int) {k i : Nat} (hk : k < Q.length) (hi : i < 8) : (flat (digs (digsM l Q)))[k * 8 + i]? = some (dy ((pad8 (digM l (Q.getD k 0))).getD i 0)) := by
  have h1 : (digs (digsM l Q))[k]? = some (D.agg ((pad8 (digM l (Q.getD k 0))).map dy)) := by
    have := digsM_get l Q hk
    have h2 : k < (digsM l Q).length := by rw [digsM_len]; exact hk
    rw [List.getElem?_map, List.getElem?_eq_getElem h2]
    rw [List.getD_eq_getElem?_getD, List.getElem?_eq_getElem h2, Option.getD_some] at this
    rw [this]; rfl
  have h3 := flat_getElem (z := 8) (es := digs (digsM l Q)) (fun e he => by
    obtain ⟨a, _, rfl⟩ := List.mem_map.1 he
    show ((pad8 a).map dy).length = 8
    rw [List.length_map, pad8_len]) h1 i hi
  rw [h3]
  show ((pad8 (digM l (Q.getD k 0))).map dy)[i]? = _
  exact getY (by rw [pad8_len]; exact hi)
theorem d_impl_bundle (l c : List Int) (w i : Int) (hs : isSpaceM l = true) (hcc : isCodeM l c = true) (hw : w ∈ c) (hi : 0 ≤ i ∧ i < l.length) :
    Den PA f_impl_bundle [.d (.agg [ints l]), .d (ints c), .d (di w), .d (di i)] [.any, .any, .any, .any] (.own 1 ((setI (bnM l c w i)).map di)) := by
  have hn := isSpaceM_n hs
  have hz := isSpaceM_szs hs
  have hpr := isSpaceM_prod hs
  have hcw := inC_code hcc
  have hwb := hcw w hw
  have hcl := nodup_small hs hcw (asc_nodup (code_asc hcc))
  refine den_go [] l_impl_bundle ?_
  have y1 := kc [.r, .r] (d_impl_digitsOfAll l hs c (by omega) (inC_big hs hcw)); have y2 := kc [.r, .r] (d_impl_digitsOf l hs w hwb.1 (by omega)); refine go_c0 ?_
  refine go_loop (fun (p : Nat × List Int) => ⟨[(3, .d (di i)), (4, .ref 0 0), (9, .sl 1 0 c.length 8), (10, .sl 2 0 p.2.length 8), (11, .d (di p.1))], [some (.var [ints l]), some (.dat 8 (digs (digsM l c))), some (.dat 8 (digs (digsM l p.2)))]⟩) (fun p => BnQ l c w i p.1 p.2) (fun p => c.length - p.1) (0, [w]) ?_ ?_ ?_
  · (simp -implicitDefEqProofs (maxSteps := 1000000) (disch := (first | omega | (simp only [go_sem] <;> omega) | fail)) only [go_sem, ints, bools, mat, digsM] <;> rfl)
  · exact BnQ.first hw
  · rintro ⟨k, Q⟩ hQ J hJ
    dsimp only at hQ ⊢
    have hql := BnQ.len hQ
    have hkq := hQ.le
    by_cases hk : k < Q.length
    · refine go_c0 ?_
      have hg0 := fun j (hj : j ≤ c.length) => bnI_ok (l := l) (i := i) (u := Q.getD k 0) hQ.nd hQ.sub j hj
      refine go_loop (fun (j : Nat) => ⟨[(3, .d (di i)), (4, .ref 0 0), (9, .sl 1 0 c.length 8), (10, .sl 2 0 (bnI l i c Q (Q.getD k 0) j).length 8), (11, .d (di k)), (30, .sl 1 0 c.length 8), (31, .d (di c.length)), (32, .d (di j))], [some (.var [ints l]), some (.dat 8 (digs (digsM l c))), some (.dat 8 (digs (digsM l (bnI l i c Q (Q.getD k 0) j))))]⟩) (fun j => j ≤ c.length) (fun j => c.length - j) 0 ?_ ?_ ?_
      · exact go_r0
      · simp
      · rintro j hj J2 hJ2
        obtain ⟨g1, g2, r, g3⟩ := hg0 j hj
        have hil := sub_len g1 g2
        have hilk : Q.length ≤ (bnI l i c Q (Q.getD k 0) j).length := by rw [g3, List.length_append]; omega
        have hgk := bnI_get (l := l) (i := i) (u := Q.getD k 0) hQ.nd hQ.sub hj hk
        have hinc : inC l (bnI l i c Q (Q.getD k 0) j) := fun u hu => hcw u (g2 u hu)
        have hgd := digsM_get l (bnI l i c Q (Q.getD k 0) j) (i := k) (by omega)
        rw [hgk] at hgd
        by_cases hjl : j < c.length
        · have hgc := digsM_get l c (i := j) hjl
          have hcj := inC_get hcw j hjl
          have ec := digM_len l (c.getD j 0)
          have eu := digM_len l (Q.getD k 0)
          have ec8 := pad8_len (digM l (c.getD j 0))
          have eu8 := pad8_len (digM l (Q.getD k 0))
          have hpc := pad8_get (ds := digM l (c.getD j 0)) (by omega) i.toNat
          have hpu := pad8_get (ds := digM l (Q.getD k 0)) (by omega) i.toNat
          refine go_c0 ?_
          rw [hgc, hgd]
          have yc := d_impl_far (digM l (c.getD j 0)) (digM l (Q.getD k 0)) (by omega) (by omega); first | refine goC_call [.r, .r] yc ?_ | refine goOC_call [.r, .r] yc ?_
          rw [show farM (digM l (c.getD j 0)) (digM l (Q.getD k 0)) = distM l (Q.getD k 0) (c.getD j 0) from farM_comm _ _]
          have hfd := flat_digs l (bnI l i c Q (Q.getD k 0) j) (k := k) (i := i.toNat) (by omega) (by omega)
          rw [hgk] at hfd
          have hxx : ∀ b : Bool, bndB l i (Q.getD k 0) (c.getD j 0) = b → (b = false ∨ c.getD j 0 ∈ bnI l i c Q (Q.getD k 0) j) → bnI l i c Q (Q.getD k 0) (j + 1) = bnI l i c Q (Q.getD k 0) j := fun b hb h => by
            rw [bnI, bnS, if_neg]
            rintro ⟨h1, h2⟩
            rcases h with h | h
            · rw [hb, h] at h1; cases h1
            · exact h2 h
          repeat' (first | simp -implicitDefEqProofs (maxSteps := 1000000) (disch := (first | omega | (simp only [go_sem] <;> omega) | fail)) only [go_sem, ints, bools, mat, hfd] | ((first | apply goIf_b | apply goG_b | apply goTG_b | apply goOG_b) <;> intro h <;> ((try simp only [hnq] at h); (try simp only [h]); (try simp only [hnr] at h)) <;> (try (exfalso; omega))))
          · have hbt : bndB l i (Q.getD k 0) (c.getD j 0) = true := by
              rw [bndB, Bool.and_eq_true, beq_iff_eq, bne_iff_ne, ← hpu, ← hpc]
              exact ⟨by assumption, fun e => by have h9 := ‹¬(pad8 (digM l (c.getD j 0))).getD i.toNat 0 = (pad8 (digM l (Q.getD k 0))).getD i.toNat 0›; exact h9 e.symm⟩
            have yc := d_slices_Contains_dig (digsM l (bnI l i c Q (Q.getD k 0) j)) (digM l (c.getD j 0)) (by omega) (fun m hm => by rw [digsM_len] at hm; rw [digsM_get l _ hm, digM_len, digM_len]) (by rw [digsM_len]; omega); first | refine goC_call [.r, .r] yc ?_ | refine goOC_call [.r, .r] yc ?_
            by_cases hm : c.getD j 0 ∈ bnI l i c Q (Q.getD k 0) j
            · rw [decide_eq_true ((dig_mem hs hinc hcj).2 hm)]
              refine go_c0 ?_
              refine hJ2 (j + 1) (by omega) (by omega) _ ?_
              rw [hxx _ rfl (.inr hm)]
              exact go_r0
            · rw [decide_eq_false fun h => hm ((dig_mem hs hinc hcj).1 h)]
              have hap : bnI l i c Q (Q.getD k 0) (j + 1) = bnI l i c Q (Q.getD k 0) j ++ [c.getD j 0] := by rw [bnI, bnS, if_pos ⟨hbt, hm⟩]
              refine go_c0 ?_
              refine hJ2 (j + 1) (by omega) (by omega) _ ?_
              rw [hap]
              simp -implicitDefEqProofs (maxSteps := 1000000) (disch := (first | omega | (simp only [go_sem] <;> omega) | fail)) only [go_sem, ints, bools, mat, digsM]
              simp only [List.map_append, List.map_cons, List.map_nil, List.length_append, List.length_cons, List.length_nil]
              rfl
          · refine hJ2 (j + 1) (by omega) (by omega) _ ?_
            rw [hxx false (by rw [bndB, ← hpu, ← hpc, Bool.and_eq_false_iff]; right; rw [bne_eq_false_iff_eq]; exact Eq.symm (by assumption)) (.inl rfl)]
            exact go_r0
          · refine hJ2 (j + 1) (by omega) (by omega) _ ?_
            rw [hxx false (by rw [bndB, Bool.and_eq_false_iff]; left; rw [beq_eq_false_iff_ne]; assumption) (.inl rfl)]
            exact go_r0
        · have : j = c.length := by omega
          subst this
          refine go_c0 ?_
          refine hJ (k + 1, bnI l i c Q (Q.getD k 0) c.length) (BnQ.next hQ hk) (by dsimp only; omega) _ go_r0
    · have : k = Q.length := by omega
      subst this
      have hfin := BnQ.last hQ
      have hinc : inC l Q := fun u hu => hcw u (hQ.sub u hu)
      rw [← hfin]
      have hso := d_slices_Sort Q (by omega)
      rw [sortI_nodup hQ.nd] at hso
      refine go_c0 ?_
      refine go_loop (fun (j : Nat) => ⟨[(4, .ref 0 0), (14, .sl 1 0 j 1), (67, .sl 2 0 Q.length 8), (68, .d (di Q.length)), (69, .d (di j))], [some (.var [ints l]), some (.dat 1 ((Q.take j).map di)), some (.dat 8 (digs (digsM l Q)))]⟩) (fun j => j ≤ Q.length) (fun j => Q.length - j) 0 ?_ ?_ ?_
      · exact go_r0
      · simp
      · rintro j hj J2 hJ2
        by_cases hjl : j < Q.length
        · have hgc := digsM_get l Q (i := j) hjl
          have hcj := inC_get hinc j hjl
          have ec := digM_len l (Q.getD j 0)
          have ec8 := pad8_len (digM l (Q.getD j 0))
          refine go_c0 ?_
          rw [hgc]
          refine go_c0 ?_
          have yc := d_impl_wordOf l (digM l (Q.getD j 0)) hs (by omega) (fun m hm => dig_lt hz _ hm); first | refine goC_call [.r, .r] yc ?_ | refine goOC_call [.r, .r] yc ?_
          rw [word_digM hz hcj.1 hcj.2 l.length (Nat.le_refl _)]
          refine go_c0 ?_
          refine hJ2 (j + 1) (by omega) (by omega) _ ?_
          simp -implicitDefEqProofs (maxSteps := 1000000) (disch := (first | omega | (simp only [go_sem] <;> omega) | fail)) only [go_sem, ints, bools, mat]
          rw [take_one Q hjl, show prodM [] = 1 from rfl, Int.ediv_one]; rfl
        · have : j = Q.length := by omega
          subst this
          refine go_c0 ?_
          have hsl := setI_len_nodup hQ.nd
          have z1 := hsl; have y1 := kc [.o] hso; exact go_e1
theorem l06_any {Q : List Int} (x : Int) : (Q.any fun y => y == x) = decide (x ∈ Q) := by
  rw [Bool.eq_iff_iff, List.any_eq_true, decide_eq_true_eq]
  exact ⟨fun ⟨y, a, b⟩ => by rw [beq_iff_eq] at b; rw [← b]; exact a, fun h => ⟨_, h, by simp⟩⟩
theorem setI_dec (Q : List Int) (x : Int) : decide (x ∈ setI Q) = decide (x ∈ Q) := by
  rw [Bool.eq_iff_iff, decide_eq_true_eq, decide_eq_true_eq, setI_mem]
theorem d_spec_l06Bundle (l c : List Int) (w i : Int) (hs : isSpaceM l = true) (hcc : isCodeM l c = true) (hw : w ∈ c) (hi : 0 ≤ i ∧ i < l.length) :
    Den PA f_spec_l06Bundle [.d (.agg [ints l]), .d (ints c), .d (di w), .d (di i)] [.any, .any, .any, .any] (.own 1 ((setI (bnM l c w i)).map di)) := by
  have hn := isSpaceM_n hs
  have hz := isSpaceM_szs hs
  have hpr := isSpaceM_prod hs
  have hcw := inC_code hcc
  have hwb := hcw w hw
  have hcl := nodup_small hs hcw (asc_nodup (code_asc hcc))
  refine den_go [] l_spec_l06Bundle ?_
  refine go_c0 ?_
  refine go_loop (fun (p : Nat × List Int) => ⟨[(1, .d (ints c)), (3, .d (di i)), (4, .ref 0 0), (9, .sl 1 0 (setI p.2).length 1), (10, .sl 2 0 p.2.length 1), (11, .d (di p.1))], [some (.var [ints l]), some (.dat 1 ((setI p.2).map di)), some (.dat 1 (p.2.map di))]⟩) (fun p => BnQ l c w i p.1 p.2) (fun p => c.length - p.1) (0, [w]) ?_ ?_ ?_
  · rw [show setI [w] = [w] from setI_self (by simp [Asc])]
    exact go_r0
  · exact BnQ.first hw
  · rintro ⟨k, Q⟩ hQ J hJ
    dsimp only at hQ ⊢
    have hql := BnQ.len hQ
    have hkq := hQ.le
    by_cases hk : k < Q.length
    · refine go_c0 ?_
      have hg0 := fun j (hj : j ≤ c.length) => bnI_ok (l := l) (i := i) (u := Q.getD k 0) hQ.nd hQ.sub j hj
      refine go_loop (fun (j : Nat) => ⟨[(1, .d (ints c)), (3, .d (di i)), (4, .ref 0 0), (9, .sl 1 0 (setI (bnI l i c Q (Q.getD k 0) j)).length 1), (10, .sl 2 0 (bnI l i c Q (Q.getD k 0) j).length 1), (11, .d (di k)), (12, .d (di j))], [some (.var [ints l]), some (.dat 1 ((setI (bnI l i c Q (Q.getD k 0) j)).map di)), some (.dat 1 ((bnI l i c Q (Q.getD k 0) j).map di))]⟩) (fun j => j ≤ c.length) (fun j => c.length - j) 0 ?_ ?_ ?_
      · exact go_r0
      · simp
      · rintro j hj J2 hJ2
        obtain ⟨g1, g2, r, g3⟩ := hg0 j hj
        have hil := sub_len g1 g2
        have hsil := setI_len (bnI l i c Q (Q.getD k 0) j)
        have hilk : Q.length ≤ (bnI l i c Q (Q.getD k 0) j).length := by rw [g3, List.length_append]; omega
        have hgk := bnI_get (l := l) (i := i) (u := Q.getD k 0) hQ.nd hQ.sub hj hk
        have hinc : inC l (bnI l i c Q (Q.getD k 0) j) := fun u hu => hcw u (g2 u hu)
        by_cases hjl : j < c.length
        · have hcj := inC_get hcw j hjl
          have hqk := inC_get (fun u hu => hcw u (hQ.sub u hu) : inC l Q) k hk
          have ec := digM_len l (c.getD j 0)
          have eu := digM_len l (Q.getD k 0)
          have hxx : ∀ b : Bool, bndB l i (Q.getD k 0) (c.getD j 0) = b → (b = false ∨ c.getD j 0 ∈ bnI l i c Q (Q.getD k 0) j) → bnI l i c Q (Q.getD k 0) (j + 1) = bnI l i c Q (Q.getD k 0) j := fun b hb h => by
            rw [bnI, bnS, if_neg]
            rintro ⟨h1, h2⟩
            rcases h with h | h
            · rw [hb, h] at h1; cases h1
            · exact h2 h
          have z1 := hgk; refine go_c1 ?_
          have yc := d_spec_l01Distance l hs (Q.getD k 0) (c.getD j 0) hqk.1 (by omega) hcj.1 (by omega); first | refine goC_call [.r, .r, .r] yc ?_ | refine goOC_call [.r, .r, .r] yc ?_
          repeat' (first | simp -implicitDefEqProofs (maxSteps := 1000000) (disch := (first | omega | (simp only [go_sem] <;> omega) | fail)) only [go_sem, ints, bools, mat, hgk] | ((first | apply goIf_b | apply goG_b | apply goTG_b | apply goOG_b) <;> intro h <;> ((try simp only [hnq] at h); (try simp only [h]); (try simp only [hnr] at h)) <;> (try (exfalso; omega))) | ((first | refine goC_call [.r, .r] (d_spec_l01Digits l hs (Q.getD k 0) hqk.1 (by omega)) ?_ | refine goOC_call [.r, .r] (d_spec_l01Digits l hs (Q.getD k 0) hqk.1 (by omega)) ?_); simp -implicitDefEqProofs (maxSteps := 1000000) (disch := (first | omega | (simp only [go_sem] <;> omega) | fail)) only [go_sem, ints, bools, mat, hgk]; fail_if_success (with_reducible show chk _ _)) | ((first | refine goC_call [.r, .r] (d_spec_l01Digits l hs (c.getD j 0) hcj.1 (by omega)) ?_ | refine goOC_call [.r, .r] (d_spec_l01Digits l hs (c.getD j 0) hcj.1 (by omega)) ?_); simp -implicitDefEqProofs (maxSteps := 1000000) (disch := (first | omega | (simp only [go_sem] <;> omega) | fail)) only [go_sem, ints, bools, mat, hgk]; fail_if_success (with_reducible show chk _ _)))
          · have hbt : bndB l i (Q.getD k 0) (c.getD j 0) = true := by
              rw [bndB, Bool.and_eq_true, beq_iff_eq, bne_iff_ne]
              exact ⟨by assumption, by assumption⟩
            have yc := d_spec_l01Has (setI (bnI l i c Q (Q.getD k 0) j)) (c.getD j 0) (by omega); first | refine goC_call [.r, .r] yc ?_ | refine goOC_call [.r, .r] yc ?_
            rw [l06_any, setI_dec]
            by_cases hm : c.getD j 0 ∈ bnI l i c Q (Q.getD k 0) j
            · rw [decide_eq_true hm]
              refine go_c0 ?_
              refine hJ2 (j + 1) (by omega) (by omega) _ ?_
              rw [hxx _ rfl (.inr hm)]
              exact go_r0
            · rw [decide_eq_false hm]
              have hap : bnI l i c Q (Q.getD k 0) (j + 1) = bnI l i c Q (Q.getD k 0) j ++ [c.getD j 0] := by rw [bnI, bnS, if_pos ⟨hbt, hm⟩]
              refine go_c0 ?_
              have yc := d_spec_l01Put (setI (bnI l i c Q (Q.getD k 0) j)) (c.getD j 0) (by omega); first | refine goC_call [.o, .r] yc ?_ | refine goOC_call [.o, .r] yc ?_
              rw [putI_set]
              refine go_c0 ?_
              refine hJ2 (j + 1) (by omega) (by omega) _ ?_
              rw [hap]
              exact go_r0
          · refine hJ2 (j + 1) (by omega) (by omega) _ ?_
            rw [hxx false (by rw [bndB, Bool.and_eq_false_iff]; right; rw [bne_eq_false_iff_eq]; assumption) (.inl rfl)]
            exact go_r0
          · refine hJ2 (j + 1) (by omega) (by omega) _ ?_
            rw [hxx false (by rw [bndB, Bool.and_eq_false_iff]; left; rw [beq_eq_false_iff_ne]; assumption) (.inl rfl)]
            exact go_r0
        · have : j = c.length := by omega
          subst this
          refine go_c0 ?_
          refine hJ (k + 1, bnI l i c Q (Q.getD k 0) c.length) (BnQ.next hQ hk) (by dsimp only; omega) _ go_r0
    · have : k = Q.length := by omega
      subst this
      have hfin := BnQ.last hQ
      rw [← hfin]
      exact go_e0
theorem d_impl_isPlace (l : List Int) (i : Int) (hl : l.length < 1048577) : Den PA f_impl_isPlace [.d (.agg [ints l]), .d (di i)] [.any, .any] (.d (db (decide (0 ≤ i ∧ i < l.length)))) := by
  refine den_go [] l_impl_isPlace ?_
  repeat' (first | simp -implicitDefEqProofs (maxSteps := 1000000) (disch := (first | omega | (simp only [go_sem] <;> omega) | fail)) only [go_sem, ints, bools, mat, c_impl_isPlace] | ((first | apply goIf_b | apply goG_b | apply goTG_b | apply goOG_b) <;> intro h <;> ((try simp only [hnq] at h); (try simp only [h]); (try simp only [hnr] at h)) <;> (try (exfalso; omega))))
  · have y1 := kc [.r] (d_impl_places l hl); refine go_c0 ?_
    refine dbv ?_
    rw [Bool.eq_iff_iff, decide_eq_true_eq, decide_eq_true_eq]
    exact ⟨fun h => ⟨by assumption, h⟩, fun h => h.2⟩
  · exact dbv (decide_eq_false fun h => by omega).symm
def mxL (l : List Int) : Nat → Int
  | 0 => l.getD 0 0
  | k + 1 => if mxL l k < l.getD k 0 then l.getD k 0 else mxL l k
theorem mxL_gt (l : List Int) (m : Int) : ∀ k, m < mxL l k ↔ m < l.getD 0 0 ∨ ∃ i, i < k ∧ m < l.getD i 0
  | 0 => by simp [mxL]
  | k + 1 => by
    have ih := mxL_gt l m k
    have e : m < mxL l (k + 1) ↔ m < mxL l k ∨ m < l.getD k 0 := by rw [mxL]; split <;> omega
    rw [e, ih]
    constructor
    · rintro ((h | ⟨i, a, b⟩) | h)
      · exact .inl h
      · exact .inr ⟨i, by omega, b⟩
      · exact .inr ⟨k, by omega, h⟩
    · rintro (h | ⟨i, a, b⟩)
      · exact .inl (.inl h)
      · by_cases e : i = k
        · subst e; exact .inr b
        · exact .inl (.inr ⟨i, by omega, b⟩)
theorem d_slices_Max (l : List Int) (h0 : 0 < l.length) (hl : l.length < 1048577) : Den PA f_slices_Max___int64_int64_ [.d (ints l)] [.any] (.d (di (mxL l l.length))) := by
  refine den_go [] l_slices_Max___int64_int64_ ?_
  refine go_c0 ?_
  refine go_loop (fun (k : Nat) => ⟨[(0, .d (ints l)), (3, .d (di (mxL l k))), (4, .d (di k))], []⟩) (fun k => 1 ≤ k ∧ k ≤ l.length) (fun k => l.length - k) 1 ?_ ?_ ?_
  · simp -implicitDefEqProofs (maxSteps := 1000000) (disch := (first | omega | (simp only [go_sem] <;> omega) | fail)) only [go_sem, ints, bools, mat]
    rw [mxL, mxL, if_neg (Int.lt_irrefl _)]
  · exact ⟨Nat.le_refl _, h0⟩
  · rintro k ⟨h1, h2⟩ J hJ
    by_cases hkl : k < l.length
    · refine go_c0 ?_
      refine hJ (k + 1) ⟨by omega, by omega⟩ (by omega) _ ?_
      simp -implicitDefEqProofs (maxSteps := 1000000) (disch := (first | omega | (simp only [go_sem] <;> omega) | fail)) only [go_sem, ints, bools, mat]
      rw [mxL]; rfl
    · have : k = l.length := by omega
      subst this
      exact go_e0
abbrev buM (l c : List Int) (w i : Int) : Int := if gcM l c [w] = 0 then (if 0 ≤ i ∧ i < l.length then (if (∀ k, k < l.length → l.getD k 0 = 2) ∧ perfB l c 1 = true ∧ w ∈ c then 0 else 5) else 2) else gcM l c [w]
theorem buM_ok {l c : List Int} {w i : Int} (h : buM l c w i = 0) : isSpaceM l = true ∧ isCodeM l c = true ∧ w ∈ c ∧ (0 ≤ i ∧ i < l.length) ∧ ∀ k, k < l.length → l.getD k 0 = 2 := by
  unfold buM at h
  split at h
  · rename_i hg
    obtain ⟨a, b, d⟩ := gcM_ok hg
    split at h
    · rename_i hi
      split at h
      · rename_i hh; exact ⟨a, d, hh.2.2, hi, hh.1⟩
      · cases h
    · cases h
  · rename_i hg; exact (hg h).elim
theorem mx_two {l : List Int} (hz : szs l) (h0 : 0 < l.length) : 2 < mxL l l.length ↔ ¬ ∀ k, k < l.length → l.getD k 0 = 2 := by
  rw [mxL_gt]
  constructor
  · rintro (h | ⟨i, a, b⟩) hh
    · have := hh 0 h0; omega
    · have := hh i a; omega
  · intro h
    obtain ⟨k, hk⟩ := Classical.not_forall.1 h
    obtain ⟨h1, h2⟩ := Classical.not_imp.1 hk
    have := hz k h1
    exact .inr ⟨k, h1, by omega⟩
theorem d_impl_bundleCode (l c : List Int) (w i : Int) (hl : l.length < 1048577) (hc : c.length < 1048577) : Den PA f_impl_bundleCode [.d (.agg [ints l]), .d (ints c), .d (di w), .d (di i)] [.any, .any, .any, .any] (.d (di (buM l c w i))) := by
  refine den_go [] l_impl_bundleCode ?_
  refine go_c0 ?_
  have yc := d_impl_codeCode l hl c hc _ [w] (.inl rfl) (by simp); first | refine goC_call [.r, .r, .r] yc ?_ | refine goOC_call [.r, .r, .r] yc ?_
  by_cases h : gcM l c [w] = 0
  · obtain ⟨hs, _, hcc⟩ := gcM_ok h
    have hn := isSpaceM_n hs
    have hz := isSpaceM_szs hs
    rw [buM, if_pos h, h]
    refine go_c0 ?_
    have yc := d_impl_isPlace l i hl; first | refine goC_call [.r, .r] yc ?_ | refine goOC_call [.r, .r] yc ?_
    by_cases hi : 0 ≤ i ∧ i < l.length
    · rw [decide_eq_true hi, if_pos hi]
      refine go_c0 ?_
      have yc := d_slices_Max l (by omega) hl; first | refine goC_call [.r] yc ?_ | refine goOC_call [.r] yc ?_
      by_cases h2 : ∀ k, k < l.length → l.getD k 0 = 2
      · have hm : ¬ 2 < mxL l l.length := fun h9 => (mx_two hz (by omega)).1 h9 h2
        by_cases hp : perfB l c 1 = true
        · have hper := d_impl_isPerfect l c 1 hs hcc hc
          rw [hp] at hper
          by_cases hw : w ∈ c
          · rw [if_pos ⟨h2, hp, hw⟩]
            have y1 := kc [.r, .r, .r] hper; refine go_c0 ?_
            have yc := d_slices_Contains_int c w hc; first | refine goC_call [.r, .r] yc ?_ | refine goOC_call [.r, .r] yc ?_
            rw [decide_eq_true hw]
            exact go_e0
          · rw [if_neg fun h9 => hw h9.2.2]
            have y1 := kc [.r, .r, .r] hper; refine go_c0 ?_
            have yc := d_slices_Contains_int c w hc; first | refine goC_call [.r, .r] yc ?_ | refine goOC_call [.r, .r] yc ?_
            rw [decide_eq_false hw]
            exact go_e0
        · have hp' : perfB l c 1 = false := by simpa using hp
          have hper := d_impl_isPerfect l c 1 hs hcc hc
          rw [hp'] at hper
          rw [if_neg fun h9 => hp h9.2.1]
          have y1 := kc [.r, .r, .r] hper; exact go_e0
      · have hm : 2 < mxL l l.length := (mx_two hz (by omega)).2 h2
        rw [if_neg fun h9 => h2 h9.1]
        exact go_e0
    · rw [decide_eq_false hi, if_neg hi]
      exact go_e0
  · rw [buM, if_neg h]
    generalize gcM l c [w] = b at h
    repeat' (first | simp -implicitDefEqProofs (maxSteps := 1000000) (disch := (first | omega | (simp only [go_sem] <;> omega) | fail)) only [go_sem, ints, bools, mat] | ((first | apply goIf_b | apply goG_b | apply goTG_b | apply goOG_b) <;> intro h <;> ((try simp only [hnq] at h); (try simp only [h]); (try simp only [hnr] at h)) <;> (try (exfalso; omega))))
    all_goals (exfalso; omega)
theorem buM_eq (l c : List Int) (w i : Int) : buM l c w i = if ggM l c = 0 then (if (0 ≤ w ∧ w ≤ prodM l - 1) ∧ 0 ≤ i ∧ i ≤ (l.length : Int) - 1 then (if (∀ k, k < l.length → l.getD k 0 = 2) ∧ perfB l c 1 = true ∧ w ∈ c then 0 else 5) else 2) else ggM l c := by
  unfold buM
  generalize (if (∀ k, k < l.length → l.getD k 0 = 2) ∧ perfB l c 1 = true ∧ w ∈ c then (0 : Int) else 5) = X
  by_cases hs : isSpaceM l = true
  · have ha : areW l [w] = true ↔ 0 ≤ w ∧ w < prodM l := by
      rw [areW_ok]
      constructor
      · intro h; have := h 0 (by simp); simpa using this
      · intro h j hj
        have : j = 0 := by simp at hj; exact hj
        subst this; simpa using h
    by_cases hcc : isCodeM l c = true
    · have eg : ggM l c = 0 := by simp [ggM, hs, hcc]
      rw [eg, if_pos rfl]
      by_cases hw : areW l [w] = true
      · have hw2 := ha.1 hw
        have e1 : gcM l c [w] = 0 := by simp [gcM, wcM, hs, hw, hcc]
        rw [e1, if_pos rfl]
        by_cases hi : 0 ≤ i ∧ i < l.length
        · rw [if_pos hi, if_pos ⟨⟨hw2.1, by omega⟩, hi.1, by omega⟩]
        · rw [if_neg hi, if_neg fun h => hi ⟨h.2.1, by omega⟩]
      · have hw2 : ¬ (0 ≤ w ∧ w ≤ prodM l - 1) := fun h => hw (ha.2 ⟨h.1, by omega⟩)
        have e1 : gcM l c [w] = 2 := by simp [gcM, wcM, hs, hw]
        rw [e1, if_neg (by decide), if_neg fun h => hw2 h.1]
    · have eg : ggM l c = 2 := by simp [ggM, hs, hcc]
      have e1 : gcM l c [w] = 2 := by
        by_cases hw : areW l [w] = true <;> simp [gcM, wcM, hs, hw, hcc]
      rw [eg, e1]; rfl
  · have eg : ggM l c = 1 := by simp [ggM, hs]
    have e1 : gcM l c [w] = 1 := by simp [gcM, wcM, hs]
    rw [eg, e1]; rfl
theorem d_spec_l06Given (l c : List Int) (w i : Int) (hl : l.length < 1048577) (hc : c.length < 1048577) : Den PA f_spec_l06Given [.d (.agg [ints l]), .d (ints c), .d (di w), .d (di i)] [.any, .any, .any, .any] (.d (di (buM l c w i))) := by
  rw [buM_eq]
  refine den_go [] l_spec_l06Given ?_
  refine go_c0 ?_
  have yc := d_spec_l01Given l hl c hc; first | refine goC_call [.r, .r] yc ?_ | refine goOC_call [.r, .r] yc ?_
  by_cases h : ggM l c = 0
  · obtain ⟨hs, hcc⟩ := ggM_ok h
    have hn := isSpaceM_n hs
    have hz := isSpaceM_szs hs
    have hpr := isSpaceM_prod hs
    have hp1 := prodM_pos hz
    rw [if_pos h, h]
    repeat' (first | simp -implicitDefEqProofs (maxSteps := 1000000) (disch := (first | omega | (simp only [go_sem] <;> omega) | fail)) only [go_sem, ints, bools, mat] | ((first | apply goIf_b | apply goG_b | apply goTG_b | apply goOG_b) <;> intro h <;> ((try simp only [hnq] at h); (try simp only [h]); (try simp only [hnr] at h)) <;> (try (exfalso; omega))) | ((first | refine goC_call [.r] (d_spec_l01N l (by omega) (isSpaceM_q hs)) ?_ | refine goOC_call [.r] (d_spec_l01N l (by omega) (isSpaceM_q hs)) ?_); simp -implicitDefEqProofs (maxSteps := 1000000) (disch := (first | omega | (simp only [go_sem] <;> omega) | fail)) only [go_sem, ints, bools, mat]; fail_if_success (with_reducible show chk _ _)) | ((first | refine goC_call [.r, .r, .r] (d_spec_l01In w 0 (prodM l - 1)) ?_ | refine goOC_call [.r, .r, .r] (d_spec_l01In w 0 (prodM l - 1)) ?_); simp -implicitDefEqProofs (maxSteps := 1000000) (disch := (first | omega | (simp only [go_sem] <;> omega) | fail)) only [go_sem, ints, bools, mat]; fail_if_success (with_reducible show chk _ _)) | ((first | refine goC_call [.r, .r, .r] (d_spec_l01In i 0 ((l.length : Int) - 1)) ?_ | refine goOC_call [.r, .r, .r] (d_spec_l01In i 0 ((l.length : Int) - 1)) ?_); simp -implicitDefEqProofs (maxSteps := 1000000) (disch := (first | omega | (simp only [go_sem] <;> omega) | fail)) only [go_sem, ints, bools, mat]; fail_if_success (with_reducible show chk _ _)))
    · rw [if_pos ⟨by assumption, by assumption⟩]
      have hwr : 0 ≤ w ∧ w ≤ prodM l - 1 := by assumption
      refine go_loop (fun (k : Nat) => ⟨[(1, .d (ints c)), (2, .d (di w)), (4, .ref 0 0), (10, .d (di k))], [some (.var [ints l])]⟩) (fun k => k ≤ l.length ∧ ∀ i, i < k → l.getD i 0 = 2) (fun k => l.length - k) 0 ?_ ?_ ?_
      · exact go_r0
      · exact ⟨Nat.zero_le _, fun i hi => by omega⟩
      · rintro k ⟨hk, hi2⟩ J hJ
        by_cases hkl : k < l.length
        · repeat' (first | simp -implicitDefEqProofs (maxSteps := 1000000) (disch := (first | omega | (simp only [go_sem] <;> omega) | fail)) only [go_sem, ints, bools, mat] | ((first | apply goIf_b | apply goG_b | apply goTG_b | apply goOG_b) <;> intro h <;> ((try simp only [hnq] at h); (try simp only [h]); (try simp only [hnr] at h)) <;> (try (exfalso; omega))))
          · rw [if_neg fun h9 => by have := h9.1 k hkl; omega]
          · refine hJ (k + 1) ⟨by omega, all_ext hi2 (by omega)⟩ (by omega) _ go_r0
        · have : k = l.length := by omega
          subst this
          have hper := d_spec_l06Is l c 1 hs hcc hc
          by_cases hp : perfB l c 1 = true
          · rw [hp] at hper
            by_cases hw : w ∈ c
            · rw [if_pos ⟨hi2, hp, hw⟩]
              have y1 := kc [.r, .r, .r] hper; refine go_c0 ?_
              have yc := d_spec_l01Has c w hc; first | refine goC_call [.r, .r] yc ?_ | refine goOC_call [.r, .r] yc ?_
              rw [l06_any, decide_eq_true hw]
              exact go_e0
            · rw [if_neg fun h9 => hw h9.2.2]
              have y1 := kc [.r, .r, .r] hper; refine go_c0 ?_
              have yc := d_spec_l01Has c w hc; first | refine goC_call [.r, .r] yc ?_ | refine goOC_call [.r, .r] yc ?_
              rw [l06_any, decide_eq_false hw]
              exact go_e0
          · have hp' : perfB l c 1 = false := by simpa using hp
            rw [hp'] at hper
            rw [if_neg fun h9 => hp h9.2.1]
            have y1 := kc [.r, .r, .r] hper; exact go_e0
    · rw [if_neg fun h9 => by omega]
    · rw [if_neg fun h9 => by omega]
  · rw [if_neg h]
    generalize ggM l c = b at h
    repeat' (first | simp -implicitDefEqProofs (maxSteps := 1000000) (disch := (first | omega | (simp only [go_sem] <;> omega) | fail)) only [go_sem, ints, bools, mat] | ((first | apply goIf_b | apply goG_b | apply goTG_b | apply goOG_b) <;> intro h <;> ((try simp only [hnq] at h); (try simp only [h]); (try simp only [hnr] at h)) <;> (try (exfalso; omega))))
    all_goals (exfalso; omega)
theorem d_impl_BundleOf (l c : List Int) (w i : Int) (hl : l.length < 1048577) (hc : c.length < 1048577) : Den PA f_impl_BundleOf [.d (.agg [ints l]), .d (ints c), .d (di w), .d (di i)] [.any, .any, .any, .any] (lstR (buM l c w i) (setI (bnM l c w i))) := by
  refine den_go [] l_impl_BundleOf ?_
  refine go_c0 ?_
  have yc := d_impl_bundleCode l c w i hl hc; first | refine goC_call [.r, .r, .r, .r] yc ?_ | refine goOC_call [.r, .r, .r, .r] yc ?_
  by_cases h : buM l c w i = 0
  · obtain ⟨hs, hcc, hw, hi, _⟩ := buM_ok h
    rw [lstR_ok h, h]
    have y1 := kc [.r, .r, .r, .r] (d_impl_bundle l c w i hs hcc hw hi); exact go_e0
  · rw [lstR_no h]
    generalize buM l c w i = b at h
    repeat' (first | simp -implicitDefEqProofs (maxSteps := 1000000) (disch := (first | omega | (simp only [go_sem] <;> omega) | fail)) only [go_sem, ints, bools, mat] | ((first | apply goIf_b | apply goG_b | apply goTG_b | apply goOG_b) <;> intro h <;> ((try simp only [hnq] at h); (try simp only [h]); (try simp only [hnr] at h)) <;> (try (exfalso; omega))))
    all_goals (exfalso; omega)
theorem d_spec_BundleOf (l c : List Int) (w i : Int) (hl : l.length < 1048577) (hc : c.length < 1048577) : Den PA f_spec_BundleOf [.d (.agg [ints l]), .d (ints c), .d (di w), .d (di i)] [.any, .any, .any, .any] (lstR (buM l c w i) (setI (bnM l c w i))) := by
  refine den_go [] l_spec_BundleOf ?_
  refine go_c0 ?_
  have yc := d_spec_l06Given l c w i hl hc; first | refine goC_call [.r, .r, .r, .r] yc ?_ | refine goOC_call [.r, .r, .r, .r] yc ?_
  by_cases h : buM l c w i = 0
  · obtain ⟨hs, hcc, hw, hi, _⟩ := buM_ok h
    rw [lstR_ok h, h]
    have y1 := kc [.r, .r, .r, .r] (d_spec_l06Bundle l c w i hs hcc hw hi); exact go_e0
  · rw [lstR_no h]
    generalize buM l c w i = b at h
    repeat' (first | simp -implicitDefEqProofs (maxSteps := 1000000) (disch := (first | omega | (simp only [go_sem] <;> omega) | fail)) only [go_sem, ints, bools, mat] | ((first | apply goIf_b | apply goG_b | apply goTG_b | apply goOG_b) <;> intro h <;> ((try simp only [hnq] at h); (try simp only [h]); (try simp only [hnr] at h)) <;> (try (exfalso; omega))))
    all_goals (exfalso; omega)
theorem bnM_nodup {l c : List Int} {w i : Int} (hw : w ∈ c) : (bnM l c w i).Nodup ∧ ∀ y, y ∈ bnM l c w i → y ∈ c := by
  have key : ∀ f k Q, Q.Nodup → (∀ y, y ∈ Q → y ∈ c) → (bnO l i c f k Q).Nodup ∧ ∀ y, y ∈ bnO l i c f k Q → y ∈ c := by
    intro f
    induction f with
    | zero => intro k Q h1 h2; exact ⟨h1, h2⟩
    | succ f ih =>
      intro k Q h1 h2
      rw [bnO]
      split
      · obtain ⟨a, b, _⟩ := bnI_ok (l := l) (i := i) (u := Q.getD k 0) h1 h2 c.length (Nat.le_refl _)
        exact ih _ _ a b
      · exact ⟨h1, h2⟩
  exact key _ _ _ (by simp) (fun y hy => by simp at hy; subst hy; exact hw)
theorem bn_len {l c : List Int} {w i : Int} (h : buM l c w i = 0) : (setI (bnM l c w i)).length ≤ c.length := by
  obtain ⟨hs, hcc, hw, hi, _⟩ := buM_ok h
  obtain ⟨a, b⟩ := bnM_nodup (l := l) (i := i) hw
  exact Nat.le_trans (setI_len _) (sub_len a b)
def swD (d : List Int) (i : Nat) : List Int := d.set i (1 - d.getD i 0)
@[go_sem] theorem swD_len (d : List Int) (i : Nat) : (swD d i).length = d.length := by simp [swD]
def swW (l B : List Int) (i u : Int) : Int := if u ∈ B then wordN l (swD (digM l u) i.toNat) l.length else u
theorem swD_bnd {l : List Int} (hz : szs l) (h2 : ∀ k, k < l.length → l.getD k 0 = 2) (u : Int) (i : Nat) : ∀ k, k < l.length → 0 ≤ (swD (digM l u) i).getD k 0 ∧ (swD (digM l u) i).getD k 0 < l.getD k 0 := fun k hk => by
  have h1 := dig_lt hz u hk
  have h3 := h2 k hk
  unfold swD
  rw [List.getD_eq_getElem?_getD, List.getElem?_set]
  split
  · rename_i e
    subst e
    rw [if_pos (by rw [digM_len]; exact hk)]; simp only [Option.getD_some]; omega
  · rw [← List.getD_eq_getElem?_getD]; exact h1
theorem pad8_sw {d : List Int} (h8 : d.length ≤ 8) {i : Nat} (hi : i < d.length) (v : Int) : (pad8 d).set i v = pad8 (d.set i v) := by
  rw [pad8_eq h8, pad8_eq (by simpa using h8), List.set_append, if_pos hi, List.length_set]
theorem d_impl_SwitchBundle_1 (l B : List Int) (i u : Int) (hs : isSpaceM l = true) (h2 : ∀ k, k < l.length → l.getD k 0 = 2) (hi : 0 ≤ i ∧ i < l.length) (hB : B.length < 1048577) (hu : 0 ≤ u ∧ u < prodM l) :
    Den PA f_impl_SwitchBundle_1 [.d (di u), .box [ints l], .box [ints B], .box [di i]] [.any, .any, .any, .any] (.d (di (swW l B i u))) := by
  have hn := isSpaceM_n hs
  have hz := isSpaceM_szs hs
  have hpr := isSpaceM_prod hs
  have eu := digM_len l u
  have eu8 := pad8_len (digM l u)
  have hdi := dig_lt hz u (i := i.toNat) (by omega)
  have hq := h2 i.toNat (by omega)
  have hpg := pad8_get (ds := digM l u) (by omega) i.toNat
  have hps := pad8_sw (d := digM l u) (by omega) (i := i.toNat) (by omega) (1 - (digM l u).getD i.toNat 0)
  refine den_go [] l_impl_SwitchBundle_1 ?_
  have y1 := kc [.r, .r] (d_impl_digitsOf l hs u hu.1 (by omega)); refine go_c0 ?_
  have yc := d_slices_Contains_int B u hB; first | refine goC_call [.r, .r] yc ?_ | refine goOC_call [.r, .r] yc ?_
  by_cases hm : u ∈ B
  · have e : swW l B i u = wordN l (swD (digM l u) i.toNat) l.length := by rw [swW, if_pos hm]
    rw [decide_eq_true hm, e]
    have z1 := hpg; refine go_c1 ?_
    rw [hps]
    have yc := d_impl_wordOf l (swD (digM l u) i.toNat) hs (by rw [swD_len]; omega) (swD_bnd hz h2 u i.toNat); first | refine goC_call [.r, .r] yc ?_ | refine goOC_call [.r, .r] yc ?_
    repeat' (first | simp -implicitDefEqProofs (maxSteps := 1000000) (disch := (first | omega | (simp only [go_sem] <;> omega) | fail)) only [go_sem, ints, bools, mat] | ((first | apply goIf_b | apply goG_b | apply goTG_b | apply goOG_b) <;> intro h <;> ((try simp only [hnq] at h); (try simp only [h]); (try simp only [hnr] at h)) <;> (try (exfalso; omega))))
    exact ⟨rfl, trivial⟩
  · have e : swW l B i u = u := by rw [swW, if_neg hm]
    rw [decide_eq_false hm, e]
    refine go_c0 ?_
    have yc := d_impl_wordOf l (digM l u) hs (by omega) (fun m hm => dig_lt hz _ hm); first | refine goC_call [.r, .r] yc ?_ | refine goOC_call [.r, .r] yc ?_
    rw [word_digM hz hu.1 hu.2 l.length (Nat.le_refl _)]
    refine go_c0 ?_
    rw [show prodM [] = 1 from rfl, Int.ediv_one]
abbrev swM (l c : List Int) (w i : Int) : List Int := setI (c.map (swW l (setI (bnM l c w i)) i))
theorem d_impl_SwitchBundle (l c : List Int) (w i : Int) (hl : l.length < 1048577) (hc : c.length < 1048577) : Den PA f_impl_SwitchBundle [.d (.agg [ints l]), .d (ints c), .d (di w), .d (di i)] [.any, .any, .any, .any] (lstR (buM l c w i) (swM l c w i)) := by
  refine den_go [] l_impl_SwitchBundle ?_
  refine go_c0 ?_
  have yc := d_impl_bundleCode l c w i hl hc; first | refine goC_call [.r, .r, .r, .r] yc ?_ | refine goOC_call [.r, .r, .r, .r] yc ?_
  by_cases h : buM l c w i = 0
  · obtain ⟨hs, hcc, hw, hi, h2⟩ := buM_ok h
    have hbl := bn_len h
    have hcw := inC_code hcc
    rw [lstR_ok h, h]
    repeat' (first | simp -implicitDefEqProofs (maxSteps := 1000000) (disch := (first | omega | (simp only [go_sem] <;> omega) | fail)) only [go_sem, ints, bools, mat] | ((first | apply goIf_b | apply goG_b | apply goTG_b | apply goOG_b) <;> intro h <;> ((try simp only [hnq] at h); (try simp only [h]); (try simp only [hnr] at h)) <;> (try (exfalso; omega))))
    have yc := d_impl_bundle l c w i hs hcc hw hi; first | refine goC_call [.r, .r, .r, .r] yc ?_ | refine goOC_call [.r, .r, .r, .r] yc ?_
    repeat' (first | simp -implicitDefEqProofs (maxSteps := 1000000) (disch := (first | omega | (simp only [go_sem] <;> omega) | fail)) only [go_sem, ints, bools, mat] | ((first | apply goIf_b | apply goG_b | apply goTG_b | apply goOG_b) <;> intro h <;> ((try simp only [hnq] at h); (try simp only [h]); (try simp only [hnr] at h)) <;> (try (exfalso; omega))))
    have yc := d_impl_mapped c (swW l (setI (bnM l c w i)) i) hc; first | refine goC_call [.r, .g (fnT c (swW l (setI (bnM l c w i)) i))] yc ?_ | refine goOC_call [.r, .g (fnT c (swW l (setI (bnM l c w i)) i))] yc ?_
    repeat' (first | simp -implicitDefEqProofs (maxSteps := 1000000) (disch := (first | omega | (simp only [go_sem] <;> omega) | fail)) only [go_sem, ints, bools, mat] | ((first | apply goIf_b | apply goG_b | apply goTG_b | apply goOG_b) <;> intro h <;> ((try simp only [hnq] at h); (try simp only [h]); (try simp only [hnr] at h)) <;> (try (exfalso; omega))))
    refine chk_intro (fnOK_mk (d_impl_SwitchBundle_1 l (setI (bnM l c w i)) i w hs h2 hi (by omega) (hcw w hw)).1 [[ints l], [ints (setI (bnM l c w i))], [di i]] (by simp -implicitDefEqProofs (maxSteps := 1000000) (disch := (first | omega | (simp only [go_sem] <;> omega) | fail)) only [go_sem, ints, bools, mat]) fun ds r hgg => ?_) ?_
    · obtain ⟨u, hu, rfl, rfl⟩ := hgg
      exact ⟨_, d_impl_SwitchBundle_1 l (setI (bnM l c w i)) i u hs h2 hi (by omega) (hcw u hu)⟩
    exact go_e0
  · rw [lstR_no h]
    generalize buM l c w i = b at h
    repeat' (first | simp -implicitDefEqProofs (maxSteps := 1000000) (disch := (first | omega | (simp only [go_sem] <;> omega) | fail)) only [go_sem, ints, bools, mat] | ((first | apply goIf_b | apply goG_b | apply goTG_b | apply goOG_b) <;> intro h <;> ((try simp only [hnq] at h); (try simp only [h]); (try simp only [hnr] at h)) <;> (try (exfalso; omega))))
    all_goals (exfalso; omega)
theorem d_spec_SwitchBundle (l c : List Int) (w i : Int) (hl : l.length < 1048577) (hc : c.length < 1048577) : Den PA f_spec_SwitchBundle [.d (.agg [ints l]), .d (ints c), .d (di w), .d (di i)] [.any, .any, .any, .any] (lstR (buM l c w i) (swM l c w i)) := by
  refine den_go [] l_spec_SwitchBundle ?_
  refine go_c0 ?_
  have yc := d_spec_l06Given l c w i hl hc; first | refine goC_call [.r, .r, .r, .r] yc ?_ | refine goOC_call [.r, .r, .r, .r] yc ?_
  by_cases h : buM l c w i = 0
  · obtain ⟨hs, hcc, hw, hi, h2⟩ := buM_ok h
    have hn := isSpaceM_n hs
    have hz := isSpaceM_szs hs
    have hpr := isSpaceM_prod hs
    have hbl := bn_len h
    have hcw := inC_code hcc
    rw [lstR_ok h, h, show swM l c w i = _ from (putsN_map c (swW l (setI (bnM l c w i)) i)).symm]
    refine go_c0 ?_
    have yc := d_spec_l06Bundle l c w i hs hcc hw hi; first | refine goC_call [.r, .r, .r, .r] yc ?_ | refine goOC_call [.r, .r, .r, .r] yc ?_
    generalize setI (bnM l c w i) = B at hbl
    refine go_c0 ?_
    refine go_loop (fun (k : Nat) => ⟨[(1, .d (ints c)), (3, .d (di i)), (4, .ref 0 0), (11, .sl 1 0 B.length 1), (12, .sl 2 0 (putsN (fun k => swW l B i (c.getD k 0)) k).length 1), (13, .d (di k))], [some (.var [ints l]), some (.dat 1 (B.map di)), some (.dat 1 ((putsN (fun k => swW l B i (c.getD k 0)) k).map di))]⟩) (fun k => k ≤ c.length) (fun k => c.length - k) 0 ?_ ?_ ?_
    · exact go_r0
    · simp
    · rintro k hk J hJ
      have hpl := putsN_len (fun k => swW l B i (c.getD k 0)) k
      by_cases hkl : k < c.length
      · have hck := inC_get hcw k hkl
        have eu := digM_len l (c.getD k 0)
        have hdi := dig_lt hz (c.getD k 0) (i := i.toNat) (by omega)
        have hq := h2 i.toNat (by omega)
        refine go_c0 ?_
        have yc := d_spec_l01Has B (c.getD k 0) (by omega); first | refine goC_call [.r, .r] yc ?_ | refine goOC_call [.r, .r] yc ?_
        rw [l06_any]
        by_cases hm : c.getD k 0 ∈ B
        · have e : swW l B i (c.getD k 0) = wordN l (swD (digM l (c.getD k 0)) i.toNat) l.length := by rw [swW, if_pos hm]
          rw [decide_eq_true hm]
          repeat' (first | simp -implicitDefEqProofs (maxSteps := 1000000) (disch := (first | omega | (simp only [go_sem] <;> omega) | fail)) only [go_sem, ints, bools, mat] | ((first | apply goIf_b | apply goG_b | apply goTG_b | apply goOG_b) <;> intro h <;> ((try simp only [hnq] at h); (try simp only [h]); (try simp only [hnr] at h)) <;> (try (exfalso; omega))))
          have yc := d_spec_l01Digits l hs (c.getD k 0) hck.1 (by omega); first | refine goC_call [.r, .r] yc ?_ | refine goOC_call [.r, .r] yc ?_
          repeat' (first | simp -implicitDefEqProofs (maxSteps := 1000000) (disch := (first | omega | (simp only [go_sem] <;> omega) | fail)) only [go_sem, ints, bools, mat] | ((first | apply goIf_b | apply goG_b | apply goTG_b | apply goOG_b) <;> intro h <;> ((try simp only [hnq] at h); (try simp only [h]); (try simp only [hnr] at h)) <;> (try (exfalso; omega))))
          have yc := d_spec_l01Word l (swD (digM l (c.getD k 0)) i.toNat) hs (by rw [swD_len]; omega) (swD_bnd hz h2 (c.getD k 0) i.toNat); first | refine goC_call [.r, .r] yc ?_ | refine goOC_call [.r, .r] yc ?_
          repeat' (first | simp -implicitDefEqProofs (maxSteps := 1000000) (disch := (first | omega | (simp only [go_sem] <;> omega) | fail)) only [go_sem, ints, bools, mat] | ((first | apply goIf_b | apply goG_b | apply goTG_b | apply goOG_b) <;> intro h <;> ((try simp only [hnq] at h); (try simp only [h]); (try simp only [hnr] at h)) <;> (try (exfalso; omega))))
          refine chk_intro rfl ?_
          have y1 := kc [.o, .r] (d_spec_l01Put (putsN (fun k => swW l B i (c.getD k 0)) k) (wordN l (swD (digM l (c.getD k 0)) i.toNat) l.length) (by omega)); refine go_c0 ?_
          refine hJ (k + 1) (by omega) (by omega) _ ?_
          rw [putsN, e]
          exact go_r0
        · have e : swW l B i (c.getD k 0) = c.getD k 0 := by rw [swW, if_neg hm]
          rw [decide_eq_false hm]
          have y1 := kc [.o, .r] (d_spec_l01Put (putsN (fun k => swW l B i (c.getD k 0)) k) (c.getD k 0) (by omega)); refine go_c0 ?_
          refine hJ (k + 1) (by omega) (by omega) _ ?_
          rw [putsN, e]
          exact go_r0
      · have : k = c.length := by omega
        subst this
        exact go_e0
  · rw [lstR_no h]
    generalize buM l c w i = b at h
    repeat' (first | simp -implicitDefEqProofs (maxSteps := 1000000) (disch := (first | omega | (simp only [go_sem] <;> omega) | fail)) only [go_sem, ints, bools, mat] | ((first | apply goIf_b | apply goG_b | apply goTG_b | apply goOG_b) <;> intro h <;> ((try simp only [hnq] at h); (try simp only [h]); (try simp only [hnr] at h)) <;> (try (exfalso; omega))))
    all_goals (exfalso; omega)
def nxR (l : List Int) (j : Nat) : List (List Int) := (List.range j).map fun (d : Nat) => l ++ [(d : Int)]
@[go_sem] theorem nxR_len (l : List Int) (j : Nat) : (nxR l j).length = j := by simp [nxR]
def nxT (q : Nat) (ls : List (List Int)) (i : Nat) : List (List Int) := (ls.take i).flatMap fun l => nxR l q
def rowsN (q : Nat) : Nat → List (List Int)
  | 0 => [[]]
  | k + 1 => nxT q (rowsN q k) (rowsN q k).length
def badR (l : List Int) : Bool := match l.findIdx? fun d => d != 0 with | some j => l.getD j 0 != 1 | none => true
def colN (q m : Nat) : List (List Int) := (rowsN q m).filter fun x => !badR x
def hsN (cs : List (List Int)) (a : List Int) (k : Nat) : Nat → Int
  | 0 => 0
  | i + 1 => hsN cs a k i + a.getD i 0 * (cs.getD i []).getD k 0
def in3 (cs : List (List Int)) (m : Nat) : Prop := ∀ i, i < cs.length → (cs.getD i []).length = m ∧ ∀ k, 0 ≤ (cs.getD i []).getD k 0 ∧ (cs.getD i []).getD k 0 < 4
theorem hsN_bnd {cs : List (List Int)} {a : List Int} {m : Nat} (ha : in4 a) (h : in3 cs m) (k : Nat) : ∀ i : Nat, i ≤ cs.length → 0 ≤ hsN cs a k i ∧ hsN cs a k i ≤ 9 * i
  | 0, _ => by simp [hsN]
  | i + 1, hi => by
    have h1 := hsN_bnd ha h k i (by omega)
    have h2 := ha i
    have h3 := (h i (by omega)).2 k
    have h4 : 0 ≤ a.getD i 0 * (cs.getD i []).getD k 0 := Int.mul_nonneg h2.1 h3.1
    have h5 : a.getD i 0 * (cs.getD i []).getD k 0 ≤ 3 * 3 := Int.mul_le_mul (by omega) (by omega) h3.1 (by omega)
    rw [hsN]; omega
def hamB (q : Int) (m : Nat) (cs : List (List Int)) (a : List Int) : Bool := (List.range m).all fun k => hsN cs a k cs.length % q == 0
def hamL (q m : Nat) : List Int := List.replicate (colN q m).length (q : Int)
def hamP (q m : Nat) (a : List Int) : Bool := hamB q m (colN q m) a
structure Ham (q m : Nat) : Prop where
  hq : q = 2 ∨ q = 3
  hm : m ≤ 3
  hlen : 1 ≤ (colN q m).length ∧ (colN q m).length ≤ 8
  hsp : isSpaceM (hamL q m) = true
  hin : in3 (colN q m) m
@[go_sem] theorem hamL_len (q m : Nat) : (hamL q m).length = (colN q m).length := by simp [hamL]
def pwN (q : Nat) : Nat → Nat
  | 0 => 1
  | k + 1 => pwN q k * q
theorem pwN_bnd {q : Nat} (hq : q = 2 ∨ q = 3) {k : Nat} (hk : k ≤ 3) : 1 ≤ pwN q k ∧ pwN q k ≤ 27 := by
  rcases hq with rfl | rfl
  · rcases k with _ | _ | _ | _ | k
    iterate 4 decide
    omega
  · rcases k with _ | _ | _ | _ | k
    iterate 4 decide
    omega
def cdN (q : Int) (m : Nat) (n : Int) : Nat → List Int × Int × Int
  | 0 => (List.replicate m 0, n, 0)
  | j + 1 => let s := cdN q m n j; (s.1.set (m - 1 - j) (s.2.1 % q), s.2.1 / q, if s.2.1 % q = 0 then s.2.2 else s.2.1 % q)
theorem cdN_len (q : Int) (m : Nat) (n : Int) : ∀ j, (cdN q m n j).1.length = m
  | 0 => by simp [cdN]
  | j + 1 => by simp [cdN, cdN_len q m n j]
theorem cdN_bnd {q : Int} (hq : 2 ≤ q ∧ q ≤ 3) (m : Nat) {n : Int} (hn : 0 ≤ n ∧ n < 27) : ∀ j, 0 ≤ (cdN q m n j).2.1 ∧ (cdN q m n j).2.1 < 27
  | 0 => by simp [cdN]; omega
  | j + 1 => by
    have h := cdN_bnd hq m hn j
    have := div_le_self h.1 (show 1 ≤ q by omega)
    simp only [cdN]; omega
def scN (q m n : Nat) : List (List Int) := (((List.range n).map fun (i : Nat) => cdN q m i m).filter fun s => s.2.2 == 1).map fun s => s.1
theorem scN_succ (q m n : Nat) : scN q m (n + 1) = scN q m n ++ (if (cdN q m n m).2.2 = 1 then [(cdN q m n m).1] else []) := by
  unfold scN
  rw [List.range_succ, List.map_append, List.filter_append, List.map_append]
  by_cases h : (cdN q m n m).2.2 = 1 <;> simp [h]
theorem scN_len (q m n : Nat) : (scN q m n).length ≤ n := by
  unfold scN
  rw [List.length_map]
  exact Nat.le_trans (List.length_filter_le _ _) (by simp)
theorem cdN_zero (q : Int) (m : Nat) : ∀ j, (cdN q m 0 j).2 = (0, 0)
  | 0 => rfl
  | j + 1 => by
    have := cdN_zero q m j
    have h1 : (cdN q m 0 j).2.1 = 0 := by rw [this]
    have h2 : (cdN q m 0 j).2.2 = 0 := by rw [this]
    simp [cdN, h1, h2]
theorem scN_one (q m : Nat) : scN q m 1 = [] := by
  rw [scN_succ, if_neg]; rfl
  rw [show ((0 : Nat) : Int) = 0 from rfl, cdN_zero]; decide
theorem d_spec_l06Columns (q m : Nat) (hq : q = 2 ∨ q = 3) (hm : 1 ≤ m ∧ m ≤ 3) : Den PA f_spec_l06Columns [.d (di q), .d (di m)] [.any, .any] (.own 1 ((scN q m (pwN q m)).map ints)) := by
  refine den_go [] l_spec_l06Columns ?_
  refine go_c0 ?_
  refine go_loop (fun (k : Nat) => ⟨[(0, .d (di q)), (1, .d (di m)), (5, .sl 0 0 0 1), (6, .d (di (pwN q k))), (7, .d (di k))], [some (.dat 1 [])]⟩) (fun k => k ≤ m) (fun k => m - k) 0 ?_ ?_ ?_
  · exact go_r0
  · exact Nat.zero_le _
  · rintro k hk J hJ
    have hpw := pwN_bnd hq (k := k) (by omega)
    have hpw1 := fun hh : k < m => pwN_bnd hq (k := k + 1) (by omega)
    have hpe : pwN q (k + 1) = pwN q k * q := rfl
    have hpi : ((pwN q (k + 1) : Nat) : Int) = (pwN q k : Int) * q := by rw [hpe]; simp
    rw [← hpe] at *
    repeat' (first | simp -implicitDefEqProofs (maxSteps := 1000000) (disch := (first | omega | (simp only [go_sem] <;> omega) | fail)) only [go_sem, ints, bools, mat] | ((first | apply goIf_b | apply goG_b | apply goTG_b | apply goOG_b) <;> intro h <;> ((try simp only [hnq] at h); (try simp only [h]); (try simp only [hnr] at h)) <;> (try (exfalso; omega))))
    · refine hJ (k + 1) (by omega) (by omega) _ ?_
      simp -implicitDefEqProofs (maxSteps := 1000000) (disch := (first | omega | (simp only [go_sem] <;> omega) | fail)) only [go_sem, ints, bools, mat]
      rw [hpi]; rfl
    · have : k = m := by omega
      subst this
      refine go_c0 ?_
      refine go_loop (fun (n : Nat) => ⟨[(0, .d (di q)), (1, .d (di k)), (5, .sl 0 0 (scN q k n).length 1), (6, .d (di (pwN q k))), (8, .d (di n))], [some (.dat 1 ((scN q k n).map ints))]⟩) (fun n => 1 ≤ n ∧ n ≤ pwN q k) (fun n => pwN q k - n) 1 ?_ ?_ ?_
      · simp -implicitDefEqProofs (maxSteps := 1000000) (disch := (first | omega | (simp only [go_sem] <;> omega) | fail)) only [go_sem, ints, bools, mat]
        rw [scN_one]; rfl
      · exact ⟨Nat.le_refl _, hpw.1⟩
      · rintro n ⟨hn1, hn2⟩ J2 hJ2
        have hsl := scN_len q k n
        repeat' (first | simp -implicitDefEqProofs (maxSteps := 1000000) (disch := (first | omega | (simp only [go_sem] <;> omega) | fail)) only [go_sem, ints, bools, mat] | ((first | apply goIf_b | apply goG_b | apply goTG_b | apply goOG_b) <;> intro h <;> ((try simp only [hnq] at h); (try simp only [h]); (try simp only [hnr] at h)) <;> (try (exfalso; omega))))
        · refine go_loop (fun (j : Nat) => ⟨[(0, .d (di q)), (1, .d (di k)), (5, .sl 0 0 (scN q k n).length 1), (6, .d (di (pwN q k))), (8, .d (di n)), (9, .sl 1 0 k 1), (10, .d (di (cdN q k n j).2.1)), (11, .d (di (cdN q k n j).2.2)), (12, .d (di ((k : Int) - 1 - j)))], [some (.dat 1 ((scN q k n).map ints)), some (.dat 1 ((cdN q k n j).1.map di))]⟩) (fun j => j ≤ k) (fun j => k - j) 0 ?_ ?_ ?_
          · simp -implicitDefEqProofs (maxSteps := 1000000) (disch := (first | omega | (simp only [go_sem] <;> omega) | fail)) only [go_sem, ints, bools, mat]
            simp [cdN]
          · exact Nat.zero_le _
          · rintro j hj J3 hJ3
            have hcl := cdN_len q k n j
            have hcb := cdN_bnd (q := q) (by omega) k (n := n) (by omega) j
            have hdb := div_le_self hcb.1 (show (1 : Int) ≤ q by omega)
            have hmb := mod_bnd (x := (cdN q k n j).2.1) (show (2 : Int) ≤ q ∧ (q : Int) ≤ 4 by omega)
            by_cases hjk : j < k
            · have hti : ((k : Int) - 1 - j).toNat = k - 1 - j := by omega
              have hge : ((cdN q k n j).1.set (k - 1 - j) ((cdN q k n j).2.1 % q)).getD (k - 1 - j) 0 = (cdN q k n j).2.1 % q := by rw [getD_set _ _ _ _ (by omega), if_pos rfl]
              have e1 : (cdN q k n (j + 1)).1 = (cdN q k n j).1.set (k - 1 - j) ((cdN q k n j).2.1 % q) := rfl
              have e2 : (cdN q k n (j + 1)).2.1 = (cdN q k n j).2.1 / q := rfl
              have e3 : (cdN q k n (j + 1)).2.2 = if (cdN q k n j).2.1 % q = 0 then (cdN q k n j).2.2 else (cdN q k n j).2.1 % q := rfl
              repeat' (first | simp -implicitDefEqProofs (maxSteps := 1000000) (disch := (first | omega | (simp only [go_sem] <;> omega) | fail)) only [go_sem, ints, bools, mat] | ((first | apply goIf_b | apply goG_b | apply goTG_b | apply goOG_b) <;> intro h <;> ((try simp only [hnq] at h); (try simp only [h]); (try simp only [hnr] at h)) <;> (try (exfalso; omega))))
              · rw [hti] at *
                rw [hge] at *
                refine hJ3 (j + 1) (by omega) (by omega) _ ?_
                rw [e1, e2, e3, if_neg h]
                simp -implicitDefEqProofs (maxSteps := 1000000) (disch := (first | omega | (simp only [go_sem] <;> omega) | fail)) only [go_sem, ints, bools, mat]
                simp; omega
              · rw [hti] at *
                rw [hge] at *
                refine hJ3 (j + 1) (by omega) (by omega) _ ?_
                rw [e1, e2, e3, if_pos h]
                simp -implicitDefEqProofs (maxSteps := 1000000) (disch := (first | omega | (simp only [go_sem] <;> omega) | fail)) only [go_sem, ints, bools, mat]
                simp; omega
            · have : j = k := by omega
              subst this
              repeat' (first | simp -implicitDefEqProofs (maxSteps := 1000000) (disch := (first | omega | (simp only [go_sem] <;> omega) | fail)) only [go_sem, ints, bools, mat] | ((first | apply goIf_b | apply goG_b | apply goTG_b | apply goOG_b) <;> intro h <;> ((try simp only [hnq] at h); (try simp only [h]); (try simp only [hnr] at h)) <;> (try (exfalso; omega))))
              · refine hJ2 (n + 1) ⟨by omega, by omega⟩ (by omega) _ ?_
                simp -implicitDefEqProofs (maxSteps := 1000000) (disch := (first | omega | (simp only [go_sem] <;> omega) | fail)) only [go_sem, ints, bools, mat]
                rw [scN_succ, if_pos h]; simp
              · refine hJ2 (n + 1) ⟨by omega, by omega⟩ (by omega) _ ?_
                simp -implicitDefEqProofs (maxSteps := 1000000) (disch := (first | omega | (simp only [go_sem] <;> omega) | fail)) only [go_sem, ints, bools, mat]
                rw [scN_succ, if_neg h]; simp
        · have : n = pwN q k := by omega
          rw [this]
theorem in3_chk {cs : List (List Int)} {m : Nat} (h : cs.all (fun x => x.length == m && x.all fun d => decide (0 ≤ d) && decide (d < 4)) = true) : in3 cs m := fun i hi => by
  have h1 := List.all_eq_true.1 h (cs.getD i []) (by simp [hi])
  rw [Bool.and_eq_true, beq_iff_eq, List.all_eq_true] at h1
  refine ⟨h1.1, fun k => ?_⟩
  rcases Nat.lt_or_ge k (cs.getD i []).length with hk | hk
  · have := h1.2 _ (mem_getD hk)
    simpa using this
  · have : (cs.getD i []).getD k 0 = 0 := by rw [List.getD_eq_getElem?_getD, List.getElem?_eq_none hk]; rfl
    rw [this]; decide
theorem ham22 : Ham 2 2 := ⟨.inl rfl, by decide, by decide, by decide, in3_chk (by decide)⟩
theorem ham23 : Ham 2 3 := ⟨.inl rfl, by decide, by decide, by decide, in3_chk (by decide)⟩
theorem ham32 : Ham 3 2 := ⟨.inr rfl, by decide, by decide, by decide, in3_chk (by decide)⟩
theorem col_sc {q m : Nat} (hq : q = 2 ∨ q = 3) (hm : 1 ≤ m ∧ m ≤ 3) : scN q m (pwN q m) = colN q m := by
  have : m = 1 ∨ m = 2 ∨ m = 3 := by omega
  rcases hq with rfl | rfl <;> rcases this with rfl | rfl | rfl <;> decide
theorem d_spec_l06Cols (q m : Nat) (hq : q = 2 ∨ q = 3) (hm : 1 ≤ m ∧ m ≤ 3) : Den PA f_spec_l06Columns [.d (di q), .d (di m)] [.any, .any] (.own 1 ((colN q m).map ints)) := by
  rw [← col_sc hq hm]; exact d_spec_l06Columns q m hq hm
theorem d_spec_l06Hamming (q m : Nat) (h2 : 1 ≤ m) (hh : Ham q m) : Den PA f_spec_l06Hamming [.d (di q), .d (di m)] [.any, .any] (.tup [.agg [.own 1 ((hamL q m).map di)], .own 1 ((thoseM (hamL q m) (hamP q m)).map di)]) := by
  obtain ⟨hq, hm, hlen, hsp, hin⟩ := hh
  have hz := isSpaceM_szs hsp
  have hn := isSpaceM_n hsp
  have hp := isSpaceM_prod hsp
  have hp1 := prodM_pos (isSpaceM_szs hsp)
  have hal := allW_len (hamL q m)
  refine den_go [] l_spec_l06Hamming ?_
  have y1 := kc [.r, .r] (d_spec_l06Cols q m hq ⟨h2, hm⟩); refine go_c0 ?_
  have ehl : hamL q m = List.replicate (colN q m).length (q : Int) := rfl
  refine go_loop (fun (i : Nat) => ⟨[(0, .d (di q)), (1, .d (di m)), (4, .ref 0 0), (6, .sl 1 0 (colN q m).length 1), (7, .ref 2 0), (8, .sl 3 0 0 1), (9, .d (di i))], [some (.var [D.v (.slice none 0 0)]), some (.dat 1 ((colN q m).map ints)), some (.mix [.sl 4 0 i 1]), some (.dat 1 []), some (.dat 1 ((List.replicate i (q : Int)).map di))]⟩) (fun i => i ≤ (colN q m).length) (fun i => (colN q m).length - i) 0 ?_ ?_ ?_
  · exact go_r0
  · exact Nat.zero_le _
  · rintro i hi J hJ
    by_cases hil : i < (colN q m).length
    · refine go_c0 ?_
      refine hJ (i + 1) (by omega) (by omega) _ ?_
      simp -implicitDefEqProofs (maxSteps := 1000000) (disch := (first | omega | (simp only [go_sem] <;> omega) | fail)) only [go_sem, ints, bools, mat]
      rw [List.replicate_succ']; simp
    · have : i = (colN q m).length := by omega
      subst this
      refine go_c0 ?_
      rw [← ehl]
      refine go_loop (fun (w : Nat) => ⟨[(0, .d (di q)), (1, .d (di m)), (4, .ref 0 0), (6, .sl 1 0 (colN q m).length 1), (7, .ref 2 0), (8, .sl 3 0 (((allW (hamL q m)).take w).filter fun w => hamP q m (digM (hamL q m) w)).length 1), (10, .d (di w))], [some (.var [D.v (.slice none 0 0)]), some (.dat 1 ((colN q m).map ints)), some (.mix [.sl 4 0 (colN q m).length 1]), some (.dat 1 ((((allW (hamL q m)).take w).filter fun w => hamP q m (digM (hamL q m) w)).map di)), some (.dat 1 ((hamL q m).map di))]⟩) (fun w => w ≤ (prodM (hamL q m)).toNat) (fun w => (prodM (hamL q m)).toNat - w) 0 ?_ ?_ ?_
      · exact go_r0
      · exact Nat.zero_le _
      · rintro w hw J2 hJ2
        have hlh := hamL_len q m
        have hszn : ∀ i, i < (hamL q m).length → 2 ≤ (hamL q m).getD i 0 ∧ (hamL q m).getD i 0 ≤ 4 := fun i hi => by
          rw [hlh] at hi
          have : (hamL q m).getD i 0 = q := by rw [ehl]; simp [hi]
          omega
        have hwt := fun h => allW_get (hamL q m) (i := w) h
        have hfl := filter_len_le (fun w => hamP q m (digM (hamL q m) w)) ((allW (hamL q m)).take w) w (by simp; omega)
        refine go_c0 ?_
        have yc := d_spec_l01N (hamL q m) (by omega) hszn; first | refine goC_call [.r] yc ?_ | refine goOC_call [.r] yc ?_
        by_cases hwl : w < (prodM (hamL q m)).toNat
        · refine go_c0 ?_
          have yc := d_spec_l01Digits (hamL q m) hsp w (by omega) (by omega); first | refine goC_call [.r, .r] yc ?_ | refine goOC_call [.r, .r] yc ?_
          have hdl : (digM (hamL q m) w).length = (colN q m).length := by rw [digM_len, hamL_len]
          have hd4 : in4 (digM (hamL q m) w) := digM_bnd w hz
          refine go_c0 ?_
          refine go_loop (fun (k : Nat) => ⟨[(0, .d (di q)), (1, .d (di m)), (4, .ref 0 0), (6, .sl 1 0 (colN q m).length 1), (7, .ref 2 0), (8, .sl 3 0 (((allW (hamL q m)).take w).filter fun w => hamP q m (digM (hamL q m) w)).length 1), (10, .d (di w)), (11, .sl 4 0 (digM (hamL q m) w).length 1), (12, .d (db (hamB q k (colN q m) (digM (hamL q m) w)))), (13, .d (di k))], [some (.var [D.v (.slice none 0 0)]), some (.dat 1 ((colN q m).map ints)), some (.mix [.sl 5 0 (colN q m).length 1]), some (.dat 1 ((((allW (hamL q m)).take w).filter fun w => hamP q m (digM (hamL q m) w)).map di)), some (.dat 1 ((digM (hamL q m) w).map di)), some (.dat 1 ((hamL q m).map di))]⟩) (fun k => k ≤ m) (fun k => m - k) 0 ?_ ?_ ?_
          · exact go_r0
          · exact Nat.zero_le _
          · rintro k hk J3 hJ3
            by_cases hkm : k < m
            · refine go_c0 ?_
              refine go_loop (fun (i : Nat) => ⟨[(0, .d (di q)), (1, .d (di m)), (4, .ref 0 0), (6, .sl 1 0 (colN q m).length 1), (7, .ref 2 0), (8, .sl 3 0 (((allW (hamL q m)).take w).filter fun w => hamP q m (digM (hamL q m) w)).length 1), (10, .d (di w)), (11, .sl 4 0 (digM (hamL q m) w).length 1), (12, .d (db (hamB q k (colN q m) (digM (hamL q m) w)))), (13, .d (di k)), (14, .d (di (hsN (colN q m) (digM (hamL q m) w) k i))), (15, .d (di i))], [some (.var [D.v (.slice none 0 0)]), some (.dat 1 ((colN q m).map ints)), some (.mix [.sl 5 0 (colN q m).length 1]), some (.dat 1 ((((allW (hamL q m)).take w).filter fun w => hamP q m (digM (hamL q m) w)).map di)), some (.dat 1 ((digM (hamL q m) w).map di)), some (.dat 1 ((hamL q m).map di))]⟩) (fun i => i ≤ (colN q m).length) (fun i => (colN q m).length - i) 0 ?_ ?_ ?_
              · exact go_r0
              · exact Nat.zero_le _
              · rintro i hi J4 hJ4
                have hb := hsN_bnd hd4 hin k i hi
                have hb1 := fun hh : i < (colN q m).length => hsN_bnd hd4 hin k (i + 1) hh
                have hai := hd4 i
                have hci := fun hh : i < (colN q m).length => (hin i hh).1
                have hck := fun hh : i < (colN q m).length => (hin i hh).2 k
                have hmu : i < (colN q m).length → 0 ≤ (digM (hamL q m) w).getD i 0 * ((colN q m).getD i []).getD k 0 ∧ (digM (hamL q m) w).getD i 0 * ((colN q m).getD i []).getD k 0 ≤ 9 := fun hh => by
                  have h5 : (digM (hamL q m) w).getD i 0 * ((colN q m).getD i []).getD k 0 ≤ 3 * 3 := Int.mul_le_mul (by omega) (by have := hck hh; omega) (hck hh).1 (by omega)
                  exact ⟨Int.mul_nonneg hai.1 (hck hh).1, by omega⟩
                by_cases hil : i < (colN q m).length
                · refine go_c0 ?_
                  refine hJ4 (i + 1) (by omega) (by omega) _ ?_
                  simp -implicitDefEqProofs (maxSteps := 1000000) (disch := (first | omega | (simp only [go_sem] <;> omega) | fail)) only [go_sem, ints, bools, mat]
                  rw [hsN]; rfl
                · have : i = (colN q m).length := by omega
                  subst this
                  have hmb := mod_bnd (x := hsN (colN q m) (digM (hamL q m) w) k (colN q m).length) (show (2 : Int) ≤ q ∧ (q : Int) ≤ 4 by omega)
                  have hbs : hamB q (k + 1) (colN q m) (digM (hamL q m) w) = (hamB q k (colN q m) (digM (hamL q m) w) && (hsN (colN q m) (digM (hamL q m) w) k (colN q m).length % q == 0)) := by
                    simp [hamB, List.range_succ]
                  repeat' (first | simp -implicitDefEqProofs (maxSteps := 1000000) (disch := (first | omega | (simp only [go_sem] <;> omega) | fail)) only [go_sem, ints, bools, mat] | ((first | apply goIf_b | apply goG_b | apply goTG_b | apply goOG_b) <;> intro h <;> ((try simp only [hnq] at h); (try simp only [h]); (try simp only [hnr] at h)) <;> (try (exfalso; omega))))
                  · refine hJ3 (k + 1) (by omega) (by omega) _ ?_
                    simp -implicitDefEqProofs (maxSteps := 1000000) (disch := (first | omega | (simp only [go_sem] <;> omega) | fail)) only [go_sem, ints, bools, mat]
                    rw [hbs]
                    simp_all
                  · refine hJ3 (k + 1) (by omega) (by omega) _ ?_
                    simp -implicitDefEqProofs (maxSteps := 1000000) (disch := (first | omega | (simp only [go_sem] <;> omega) | fail)) only [go_sem, ints, bools, mat]
                    rw [hbs]
                    simp_all
            · have : k = m := by omega
              subst this
              repeat' (first | simp -implicitDefEqProofs (maxSteps := 1000000) (disch := (first | omega | (simp only [go_sem] <;> omega) | fail)) only [go_sem, ints, bools, mat] | ((first | apply goIf_b | apply goG_b | apply goTG_b | apply goOG_b) <;> intro h <;> ((try simp only [hnq] at h); (try simp only [h]); (try simp only [hnr] at h)) <;> (try (exfalso; omega))))
              · refine hJ2 (w + 1) (by omega) (by omega) _ ?_
                simp -implicitDefEqProofs (maxSteps := 1000000) (disch := (first | omega | (simp only [go_sem] <;> omega) | fail)) only [go_sem, ints, bools, mat]
                rw [take_allW _ hwl, List.filter_append]
                have h' : hamP q k (digM (hamL q k) w) = true := h
                simp [h']
              · refine hJ2 (w + 1) (by omega) (by omega) _ ?_
                simp -implicitDefEqProofs (maxSteps := 1000000) (disch := (first | omega | (simp only [go_sem] <;> omega) | fail)) only [go_sem, ints, bools, mat]
                rw [take_allW _ hwl, List.filter_append]
                have h' : hamP q k (digM (hamL q k) w) = false := h
                simp [h']
        · have : w = (prodM (hamL q m)).toNat := by omega
          subst this
          rw [List.take_of_length_le (by rw [hal]; exact Nat.le_refl _)]
          refine go_c0 ?_
          rfl
abbrev sn (l : List Int) : D := .v (.string (strOfNums l))
@[go_sem] theorem str_46 : (ByteArray.mk #[46]) = strOfNums [46] := rfl
@[go_sem] theorem str_nil : (ByteArray.mk #[]) = strOfNums [] := rfl
@[go_sem] theorem str_45 : (ByteArray.mk #[45]) = strOfNums [45] := rfl
theorem str_app (a b : List Int) : strOfNums a ++ strOfNums b = strOfNums (a ++ b) := by
  apply ByteArray.ext
  simp [strOfNums]
@[go_sem] theorem eqsA_addN {a b : List Int} (h : a.length + b.length < 1048577) : eqsA .add (.d (.v (.string (strOfNums a)))) (.d (.v (.string (strOfNums b)))) = some (.d (.v (.string (strOfNums (a ++ b))))) := by
  have h2 : (strOfNums a).size + (strOfNums b).size ≤ maxLen := by
    rw [strOfNums_size, strOfNums_size]; exact Nat.le_trans (Nat.le_of_lt h) (by decide)
  simp only [eqsA]
  rw [if_pos h2, str_app]
@[go_sem] theorem eqsA_neq_self {s : ByteArray} : eqsA .neq (.d (.v (.string s))) (.d (.v (.string s))) = some (.d (.v (.bool false))) := by simp [eqsA]
@[go_sem] theorem lnsA_n {l : List Int} : lnsA (.d (.v (.string (strOfNums l)))) = some (.d (.v (.int .i64 l.length))) := by simp [lnsA, strOfNums_size]
theorem str_ext (l : List Int) (a b : Nat) : (strOfNums l).extract a b = strOfNums ((l.take b).drop a) := by
  apply ByteArray.ext
  simp [strOfNums, ByteArray.data_extract, List.map_drop, List.map_take, List.drop_take]
@[go_sem] theorem sltA_n {tm : List (Nat × AV)} {l : List Int} {lo hi : Option Opd} : sltA tm (.d (.v (.string (strOfNums l)))) lo hi = (bndA tm l.length lo hi).map fun p => .d (.v (.string (strOfNums ((l.take p.2).drop p.1)))) := by
  simp only [sltA, strOfNums_size, str_ext]
theorem BY.take {l : List Int} (h : BY l) (n : Nat) : BY (l.take n) := fun x hx => h x (List.mem_of_mem_take hx)
theorem BY.drop {l : List Int} (h : BY l) (n : Nat) : BY (l.drop n) := fun x hx => h x (List.mem_of_mem_drop hx)
def spL : List Int → List (List Int)
  | [] => [[]]
  | x :: r => if x = 46 then [] :: spL r else match spL r with
    | p :: ps => (x :: p) :: ps
    | [] => [[x]]
@[go_sem] theorem flat_sn (l : List (List Int)) : flat (l.map fun x => sn x) = l.map fun x => sn x := by
  induction l with
  | nil => rfl
  | cons x r ih => simp only [flat, List.map_cons, List.flatMap_cons, D.cells] at ih ⊢; rw [ih]; rfl
@[go_sem] theorem getSn {l : List (List Int)} {j : Nat} (h : j < l.length) : (l.map fun x => sn x)[j]? = some (sn (l.getD j [])) := by simp [h]
def ptS (m c : Int) : Int := if 48 ≤ c ∧ c ≤ 51 then or2 m (c - 48) else m
def ptB (p : List Int) : Int := p.foldl ptS 0
def psT (l : List Int) : List Int := (spL l).map ptB
@[go_sem] theorem psT_len (l : List Int) : (psT l).length = (spL l).length := by simp [psT]
theorem wrapU_bnd (x : Int) : 0 ≤ IntKind.wrap .u64 x ∧ IntKind.wrap .u64 x < 18446744073709551616 := by
  have e : IntKind.wrap .u64 x = x % 18446744073709551616 := rfl
  rw [e]; omega
@[go_sem] theorem binA_shr33 {a : Int} : binA .shr (.d (.v (.int .u64 a))) (.d (.v (.int .u64 33))) = some (.d (.v (.int .u64 (a / 8589934592)))) := by
  have e : min (33 : Int).toNat 64 = 33 := rfl
  have h1 : (0 : Int) ≤ 2 ^ 33 := by decide
  simp only [binA, binI, BinOp.isShift, true_or, if_true, if_neg (show ¬ (33 : Int) < 0 by omega), IntKind.bits, e, Option.map_some, Int.fdiv_eq_ediv_of_nonneg _ h1]
  rfl
@[go_sem] theorem binA_mask24 {a : Int} (h : 0 ≤ a) (h' : a < 18446744073709551616) : binA .and (.d (.v (.int .u64 a))) (.d (.v (.int .u64 16777215))) = some (.d (.v (.int .u64 (a % 16777216)))) := by
  have e1 : (BitVec.ofInt 64 a).toNat = a.toNat := by rw [BitVec.toNat_ofInt]; omega
  have e2 : (BitVec.ofInt 64 16777215).toNat = 16777215 := by decide
  have e3 : (BitVec.ofInt 64 a &&& BitVec.ofInt 64 16777215).toNat = a.toNat % 16777216 := by
    rw [BitVec.toNat_and, e1, e2]; exact Nat.and_two_pow_sub_one_eq_mod a.toNat 24
  have e4 : binI .and .u64 a 16777215 = some (.int .u64 (IntKind.wrap .u64 ((BitVec.ofInt 64 a &&& BitVec.ofInt 64 16777215).toNat : Nat))) := rfl
  simp only [binA, e4, BinOp.isShift, or_true, if_true, e3, Option.map_some]
  rw [wrap_u64 (by omega) (by omega)]
  congr 4
  omega
attribute [go_sem] mkBlk
def leaB (o : Option (Option Blk)) (k i : Nat) (s : Sto) : R × Sto :=
  match o with
  | some (some (.var cs)) => (.boxm (cs.map .d), s.set i none)
  | some (some (.mix cs)) => (.boxm (leaL (leaA k) cs (s.set i none)).1, (leaL (leaA k) cs (s.set i none)).2)
  | _ => (.any, s)
@[go_sem] theorem leaA_ref (k i : Nat) (s : Sto) : leaA (k + 1) (.ref i 0) s = leaB s[i]? k i s := by
  simp only [leaA, leaB] <;> (rcases s[i]? with _ | _ | b <;> first | rfl | (cases b <;> rfl))
@[go_sem] theorem leaB_var (cs : List D) (k i : Nat) (s : Sto) : leaB (some (some (.var cs))) k i s = (.boxm (cs.map .d), s.set i none) := rfl
@[go_sem] theorem RLes_boxm (x y xs ys : List R) : RLes (.boxm x :: xs) (.boxm y :: ys) = (x = y ∧ RLes xs ys) := by
  apply propext
  constructor
  · intro h; cases h with | cons h hs => cases h; exact ⟨rfl, hs⟩
  · rintro ⟨rfl, hs⟩; exact .cons .refl hs
abbrev du (n : Int) : D := .v (.int .u64 n)
abbrev Src := Nat × Int
abbrev srcR (cd : D) (s : Src) : R := .boxm [.d cd, .d (di s.1), .d (du s.2)]
def okS (l : List Int) (s : Src) : Prop := s.1 ≤ l.length ∧ 0 ≤ s.2 ∧ s.2 < 18446744073709551616
def nxH (h : Int) : Int := IntKind.wrap .u64 (IntKind.wrap .u64 (h * 6364136223846793005) + 1442695040888963407)
def nxX (l : List Int) (s : Src) : Int := nxH s.2 / 8589934592 % 16777216 + (if s.1 < l.length then l.getD s.1 0 else 0)
def nxS (l : List Int) (s : Src) : Src := (if s.1 < l.length then s.1 + 1 else s.1, nxH s.2)
def nxt (l : List Int) (s : Src) (q : Int) : Int × Src := if q < 1 then (0, s) else (nxX l s % q, nxS l s)
theorem nxS_ok {l : List Int} {s : Src} (h : okS l s) : okS l (nxS l s) := by
  refine ⟨?_, wrapU_bnd _⟩
  unfold nxS; dsimp only
  split
  · omega
  · exact h.1
theorem nxt_ok {l : List Int} {s : Src} (h : okS l s) (q : Int) : okS l (nxt l s q).2 := by
  unfold nxt
  split
  · exact h
  · exact nxS_ok h
theorem nxt_bnd {l : List Int} {s : Src} {q : Int} (hq : 1 ≤ q) : 0 ≤ (nxt l s q).1 ∧ (nxt l s q).1 < q := by
  unfold nxt
  rw [if_neg (by omega)]
  exact ⟨Int.emod_nonneg _ (by omega), Int.emod_lt_of_pos _ (by omega)⟩
theorem d_spec_l01Next (cd : D) (l : List Int) (hb : IsBts cd l) (hl : l.length < 1048577) (s : Src) (hs : okS l s) (q : Int) : Den PA f_spec_l01Next [srcR cd s, .d (di q)] [srcR cd (nxt l s q).2, .any] (.d (di (nxt l s q).1)) := by
  obtain ⟨at0, h⟩ := s
  obtain ⟨h1, h2, h3⟩ := hs
  dsimp only at h1 h2 h3
  refine den_go [0] l_spec_l01Next ?_
  by_cases hq : q < 1
  · have e : nxt l (at0, h) q = (0, (at0, h)) := if_pos hq
    rw [e]
    simp only [srcR]; exact go_e0
  · have e : nxt l (at0, h) q = (nxX l (at0, h) % q, nxS l (at0, h)) := if_neg hq
    have hh := wrapU_bnd (IntKind.wrap .u64 (h * 6364136223846793005) + 1442695040888963407)
    rw [e]
    rcases hb with ⟨rfl, hby⟩ | ⟨rfl, rfl⟩
    · by_cases ha : at0 < l.length
      · have hba := hby _ (mem_getD ha)
        have ex : nxX l (at0, h) = nxH h / 8589934592 % 16777216 + l.getD at0 0 := by simp only [nxX, if_pos ha]
        have es : nxS l (at0, h) = (at0 + 1, nxH h) := by simp only [nxS, if_pos ha]
        rw [ex, es]
        simp only [srcR]; refine go_c0 ?_
        exact ⟨rfl, rfl⟩
      · have ex : nxX l (at0, h) = nxH h / 8589934592 % 16777216 := by simp only [nxX, if_neg ha, Int.add_zero]
        have es : nxS l (at0, h) = (at0, nxH h) := by simp only [nxS, if_neg ha]
        rw [ex, es]
        simp only [srcR]; refine go_c0 ?_
        exact ⟨rfl, rfl⟩
    · have ha : ¬ at0 < ([] : List Int).length := by simp
      have ex : nxX [] (at0, h) = nxH h / 8589934592 % 16777216 := by simp only [nxX, if_neg ha, Int.add_zero]
      have es : nxS [] (at0, h) = (at0, nxH h) := by simp only [nxS, if_neg ha]
      rw [ex, es]
      simp only [srcR]; refine go_c0 ?_
      exact ⟨rfl, rfl⟩
def pik (l : List Int) (s : Src) (xs : List Int) : Int × Src := (xs.getD (nxt l s xs.length).1.toNat 0, (nxt l s xs.length).2)
theorem pik_mem {l : List Int} {s : Src} {xs : List Int} (h : 0 < xs.length) : (pik l s xs).1 ∈ xs := by
  have h1 := nxt_bnd (l := l) (s := s) (q := (xs.length : Int)) (by omega)
  exact mem_getD (by omega)
theorem d_spec_l01Pick (cd : D) (l : List Int) (hb : IsBts cd l) (hl : l.length < 1048577) (s : Src) (hs : okS l s) (xs : List Int) (h0 : 0 < xs.length) (h1 : xs.length < 1000) : Den PA f_spec_l01Pick [srcR cd s, .d (ints xs)] [srcR cd (pik l s xs).2, .any] (.d (di (pik l s xs).1)) := by
  have hbn := nxt_bnd (l := l) (s := s) (q := (xs.length : Int)) (by omega)
  have hnx := d_spec_l01Next cd l hb hl s hs xs.length
  refine den_go [0] l_spec_l01Pick ?_
  simp only [srcR]; have y1 := kc [.bm, .r] hnx; refine go_c0 ?_
  exact ⟨rfl, rfl⟩
theorem pik_ok {l : List Int} {s : Src} (h : okS l s) (xs : List Int) : okS l (pik l s xs).2 := nxt_ok h _
structure SrcH (cd : D) (l : List Int) : Prop where
  hb : IsBts cd l
  hl : l.length < 1048577
theorem d_nxt {cd : D} {l : List Int} (H : SrcH cd l) {s : Src} (hs : okS l s) (q : Int) : Den PA f_spec_l01Next [srcR cd s, .d (di q)] [srcR cd (nxt l s q).2, .any] (.d (di (nxt l s q).1)) := d_spec_l01Next cd l H.hb H.hl s hs q
theorem d_pik {cd : D} {l : List Int} (H : SrcH cd l) {s : Src} (hs : okS l s) (xs : List Int) (h0 : 0 < xs.length) (h1 : xs.length < 1000) : Den PA f_spec_l01Pick [srcR cd s, .d (ints xs)] [srcR cd (pik l s xs).2, .any] (.d (di (pik l s xs).1)) := d_spec_l01Pick cd l H.hb H.hl s hs xs h0 h1
theorem ex_nxt {cd : D} {l : List Int} (H : SrcH cd l) {s : Src} (hs : okS l s) {q : Int} (hq : 1 ≤ q) : ∃ (v : Int) (s' : Src), okS l s' ∧ 0 ≤ v ∧ v < q ∧ Den PA f_spec_l01Next [srcR cd s, .d (di q)] [srcR cd s', .any] (.d (di v)) :=
  ⟨_, _, nxt_ok hs q, (nxt_bnd hq).1, (nxt_bnd hq).2, d_nxt H hs q⟩
theorem ex_pik {cd : D} {l : List Int} (H : SrcH cd l) {s : Src} (hs : okS l s) (xs : List Int) (h0 : 0 < xs.length) (h1 : xs.length < 1000) : ∃ (v : Int) (s' : Src), okS l s' ∧ v ∈ xs ∧ Den PA f_spec_l01Pick [srcR cd s, .d (ints xs)] [srcR cd s', .any] (.d (di v)) :=
  ⟨_, _, pik_ok hs xs, pik_mem h0, d_pik H hs xs h0 h1⟩
theorem ex_near {cd : D} {l : List Int} (H : SrcH cd l) {s : Src} (hs : okS l s) {most : Int} (h0 : 0 ≤ most) (h1 : most < 1000000000000) : ∃ (v : Int) (s' : Src), okS l s' ∧ in64 v ∧ Den PA f_spec_l01Near [srcR cd s, .d (di most)] [srcR cd s', .any] (.d (di v)) := by
  obtain ⟨v0, s0, hs0, a1, a2, d0⟩ := ex_nxt H hs (q := 14) (by omega)
  by_cases hv : v0 = 0
  · subst hv
    obtain ⟨v1, s1, hs1, hm, d1⟩ := ex_pik H hs0 [-1, most + 1, 1099511627776, -4611686018427387904] (by simp) (by simp)
    refine ⟨v1, s1, hs1, ?_, den_go [0] l_spec_l01Near ?_⟩
    · simp only [List.mem_cons, List.mem_nil_iff, or_false] at hm
      unfold in64; omega
    · simp only [srcR]; have y1 := kc [.bm, .r] d0; have y2 := kc [.bm, .f] d1; exact go_e0
  · obtain ⟨v1, s1, hs1, b1, b2, d1⟩ := ex_nxt H hs0 (q := most + 1) (by omega)
    refine ⟨v1, s1, hs1, ?_, den_go [0] l_spec_l01Near ?_⟩
    · unfold in64; omega
    · simp only [srcR]; have y1 := kc [.bm, .r] d0; have y2 := kc [.bm, .r] d1; exact go_e0
def dwN (l : List Int) (most kind : Int) : Nat → List Int → Src → List Int × Src
  | 0, o, s => (o, s)
  | k + 1, o, s => if most < prodM o * (if kind = 0 then pik l s [2, 2, 3, 4] else (kind, s)).1 then (o, (if kind = 0 then pik l s [2, 2, 3, 4] else (kind, s)).2) else dwN l most kind k (o ++ [(if kind = 0 then pik l s [2, 2, 3, 4] else (kind, s)).1]) (if kind = 0 then pik l s [2, 2, 3, 4] else (kind, s)).2
theorem prodM_snoc (o : List Int) (q : Int) : prodM (o ++ [q]) = prodM o * q := by simp [prodM, List.foldl_append]
def szO (o : List Int) : Prop := (∀ i, i < o.length → 2 ≤ o.getD i 0 ∧ o.getD i 0 ≤ 4) ∧ 1 ≤ prodM o ∧ prodM o ≤ 256
theorem szO_snoc {o : List Int} {q : Int} (h : szO o) (hq : 2 ≤ q ∧ q ≤ 4) (hp : prodM o * q ≤ 256) : szO (o ++ [q]) := by
  refine ⟨fun i hi => ?_, ?_, ?_⟩
  · rcases Nat.lt_or_ge i o.length with h1 | h1
    · have := h.1 i h1
      have e : (o ++ [q]).getD i 0 = o.getD i 0 := by simp [List.getD_eq_getElem?_getD, List.getElem?_append_left h1]
      rw [e]; exact this
    · have e1 : i = o.length := by simp at hi; omega
      subst e1
      have e : (o ++ [q]).getD o.length 0 = q := by simp
      rw [e]; exact hq
  · rw [prodM_snoc]
    have h5 : (1 : Int) * 1 ≤ prodM o * q := Int.mul_le_mul h.2.1 (by omega) (by omega) (by have := h.2.1; omega)
    omega
  · rw [prodM_snoc]; exact hp
theorem szO_space {o : List Int} (h : szO o) (h0 : 0 < o.length) (h8 : o.length ≤ 8) : isSpaceM o = true := (isSpaceM_ok o).2 ⟨⟨by omega, h8⟩, h.1, by have := h.2.2; omega⟩
theorem ex_drawOf {cd : D} {l : List Int} (H : SrcH cd l) {s : Src} (hs : okS l s) {most : Int} (h0 : 8 ≤ most) (h1 : most ≤ 256) : ∃ (o : List Int) (s' : Src), okS l s' ∧ isSpaceM o = true ∧ Den PA f_spec_l01DrawOf [srcR cd s, .d (di most)] [srcR cd s', .any] (.agg [.own 1 (o.map di)]) := by
  obtain ⟨kind, s1, hs1, hk, d1⟩ := ex_pik H hs [0, 2, 2, 3, 3] (by simp) (by simp)
  obtain ⟨n, s2, hs2, n1, n2, d2⟩ := ex_nxt H hs1 (q := 8) (by omega)
  have hkind : 0 ≤ kind ∧ kind ≤ 3 ∧ kind ≠ 1 := by
    simp only [List.mem_cons, List.mem_nil_iff, or_false] at hk; omega
  have key : ∀ (k : Nat) (o : List Int) (s : Src), szO o → okS l s → o.length + k ≤ 8 → szO (dwN l most kind k o s).1 ∧ okS l (dwN l most kind k o s).2 ∧ (dwN l most kind k o s).1.length ≤ 8 := by
    intro k
    induction k with
    | zero => intro o s a b c; exact ⟨a, b, by simp only [dwN]; omega⟩
    | succ k ih =>
      intro o s a b c
      have hr : 2 ≤ (if kind = 0 then pik l s [2, 2, 3, 4] else (kind, s)).1 ∧ (if kind = 0 then pik l s [2, 2, 3, 4] else (kind, s)).1 ≤ 4 ∧ okS l (if kind = 0 then pik l s [2, 2, 3, 4] else (kind, s)).2 := by
        by_cases e : kind = 0
        · rw [if_pos e]
          have hm := pik_mem (l := l) (s := s) (xs := [2, 2, 3, 4]) (by simp)
          simp only [List.mem_cons, List.mem_nil_iff, or_false] at hm
          exact ⟨by omega, by omega, pik_ok b _⟩
        · rw [if_neg e]; exact ⟨by dsimp only; omega, by dsimp only; omega, b⟩
      rw [dwN]
      generalize (if kind = 0 then pik l s [2, 2, 3, 4] else (kind, s)) = r at *
      by_cases hm : most < prodM o * r.1
      · rw [if_pos hm]
        exact ⟨a, hr.2.2, by dsimp only; omega⟩
      · rw [if_neg hm]
        exact ih _ _ (szO_snoc a ⟨hr.1, hr.2.1⟩ (by omega)) hr.2.2 (by simp; omega)
  have hz0 : szO [] := ⟨fun i hi => by simp at hi, by decide, by decide⟩
  have hfin := key (1 + n).toNat [] s2 hz0 hs2 (by simp; omega)
  obtain ⟨X, hX⟩ : ∃ X, X = dwN l most kind (1 + n).toNat [] s2 := ⟨_, rfl⟩
  rw [← hX] at hfin
  refine ⟨if X.1.length = 0 then [2] else X.1, X.2, hfin.2.1, ?_, den_go [0] l_spec_l01DrawOf ?_⟩
  · split
    · decide
    · exact szO_space hfin.1 (by omega) hfin.2.2
  · simp only [srcR]; have y1 := kc [.bm, .f] d1; have y2 := kc [.bm, .r] d2; refine go_c0 ?_
    refine go_loop (fun (p : Nat × List Int × Src) => ⟨[(0, .ref 0 0), (1, .d (di most)), (4, .ref 1 0), (5, .ref 2 0), (6, .d (di kind)), (7, .d (di p.1)), (49, .ref 0 0)], [some (.var [cd, di p.2.2.1, du p.2.2.2]), some (.var [D.v (.slice none 0 0)]), some (.mix [.sl 3 0 p.2.1.length 1]), some (.dat 1 (p.2.1.map di))]⟩) (fun p => dwN l most kind p.1 p.2.1 p.2.2 = X ∧ szO p.2.1 ∧ okS l p.2.2 ∧ p.2.1.length + p.1 ≤ 8) (fun p => p.1) ((1 + n).toNat, [], s2) ?_ ?_ ?_
    · simp -implicitDefEqProofs (maxSteps := 1000000) (disch := (first | omega | (simp only [go_sem] <;> omega) | fail)) only [go_sem, ints, bools, mat]
      have e : ((1 + n).toNat : Int) = 1 + n := by omega
      rw [e]
    · exact ⟨hX.symm, hz0, hs2, by dsimp only; simp only [List.length_nil]; omega⟩
    · rintro ⟨k, o, s⟩ ⟨g1, g2, g3, g4⟩ J hJ
      dsimp only at g1 g2 g3 g4 ⊢
      have hn := d_spec_l01N o (by omega) g2.1
      have hp := g2.2
      rcases k with _ | k
      · have e : X = (o, s) := by rw [← g1]; rfl
        rw [e]
        by_cases ho : o.length = 0
        · have e2 : o = [] := List.eq_nil_of_length_eq_zero ho
          subst e2
          exact go_e0
        · rw [if_neg ho]
          exact go_e0
      · rw [dwN] at g1
        by_cases hk0 : kind = 0
        · obtain ⟨q, s3, hs3, hq, d3⟩ : ∃ (q : Int) (s3 : Src), okS l s3 ∧ (q = (pik l s [2, 2, 3, 4]).1 ∧ s3 = (pik l s [2, 2, 3, 4]).2) ∧ Den PA f_spec_l01Pick [srcR cd s, .d (ints [2, 2, 3, 4])] [srcR cd s3, .any] (.d (di q)) := ⟨_, _, pik_ok g3 _, ⟨rfl, rfl⟩, d_pik H g3 [2, 2, 3, 4] (by simp) (by simp)⟩
          have hm := pik_mem (l := l) (s := s) (xs := [2, 2, 3, 4]) (by simp)
          simp only [List.mem_cons, List.mem_nil_iff, or_false] at hm
          rw [← hq.1] at hm
          simp only [if_pos hk0] at g1
          rw [← hq.1, ← hq.2] at g1
          have y1 := kc [.bm, .f] d3; refine go_c0 ?_
          have yc := hn; first | refine goC_call [.r] yc ?_ | refine goOC_call [.r] yc ?_
          have hpq : 0 ≤ prodM o * q ∧ prodM o * q ≤ 256 * 4 := ⟨Int.mul_nonneg (by omega) (by omega), Int.mul_le_mul (by omega) (by omega) (by omega) (by omega)⟩
          repeat' (first | simp -implicitDefEqProofs (maxSteps := 1000000) (disch := (first | omega | (simp only [go_sem] <;> omega) | fail)) only [go_sem, ints, bools, mat] | ((first | apply goIf_b | apply goG_b | apply goTG_b | apply goOG_b) <;> intro h <;> ((try simp only [hnq] at h); (try simp only [h]); (try simp only [hnr] at h)) <;> (try (exfalso; omega))))
          · rw [if_pos (by assumption)] at g1
            rw [← g1]
            have e2 : o = [] := List.eq_nil_of_length_eq_zero (by omega)
            subst e2
            exact ⟨rfl, rfl⟩
          · rw [if_pos (by assumption)] at g1
            rw [← g1]
            dsimp only
            rw [if_neg (show ¬ o.length = 0 by omega)]
            exact ⟨rfl, rfl⟩
          · rw [if_neg (by omega)] at g1
            refine hJ (k, o ++ [q], s3) ⟨g1, szO_snoc g2 (by omega) (by omega), hs3, by dsimp only; simp; omega⟩ (by dsimp only; omega) _ ?_
            exact go_a0
        · simp only [if_neg hk0] at g1
          have hpq : 0 ≤ prodM o * kind ∧ prodM o * kind ≤ 256 * 4 := ⟨Int.mul_nonneg (by omega) (by omega), Int.mul_le_mul (by omega) (by omega) (by omega) (by omega)⟩
          repeat' (first | simp -implicitDefEqProofs (maxSteps := 1000000) (disch := (first | omega | (simp only [go_sem] <;> omega) | fail)) only [go_sem, ints, bools, mat] | ((first | apply goIf_b | apply goG_b | apply goTG_b | apply goOG_b) <;> intro h <;> ((try simp only [hnq] at h); (try simp only [h]); (try simp only [hnr] at h)) <;> (try (exfalso; omega))))
          have yc := hn; first | refine goC_call [.r] yc ?_ | refine goOC_call [.r] yc ?_
          repeat' (first | simp -implicitDefEqProofs (maxSteps := 1000000) (disch := (first | omega | (simp only [go_sem] <;> omega) | fail)) only [go_sem, ints, bools, mat] | ((first | apply goIf_b | apply goG_b | apply goTG_b | apply goOG_b) <;> intro h <;> ((try simp only [hnq] at h); (try simp only [h]); (try simp only [hnr] at h)) <;> (try (exfalso; omega))))
          · rw [if_pos (by assumption)] at g1
            rw [← g1]
            have e2 : o = [] := List.eq_nil_of_length_eq_zero (by omega)
            subst e2
            exact ⟨rfl, rfl⟩
          · rw [if_pos (by assumption)] at g1
            rw [← g1]
            dsimp only
            rw [if_neg (show ¬ o.length = 0 by omega)]
            exact ⟨rfl, rfl⟩
          · rw [if_neg (by omega)] at g1
            refine hJ (k, o ++ [kind], s) ⟨g1, szO_snoc g2 (by omega) (by omega), g3, by dsimp only; simp; omega⟩ (by dsimp only; omega) _ ?_
            exact go_a0
theorem ex_draw {cd : D} {l : List Int} (H : SrcH cd l) {s : Src} (hs : okS l s) : ∃ (o : List Int) (s' : Src), okS l s' ∧ isSpaceM o = true ∧ Den PA f_spec_l01Draw [srcR cd s] [srcR cd s'] (.agg [.own 1 (o.map di)]) := by
  obtain ⟨m, s1, hs1, hm, d1⟩ := ex_pik H hs [16, 81, 256, 256] (by simp) (by simp)
  simp only [List.mem_cons, List.mem_nil_iff, or_false] at hm
  obtain ⟨o, s2, hs2, ho, d2⟩ := ex_drawOf H hs1 (most := m) (by omega) (by omega)
  refine ⟨o, s2, hs2, ho, den_go [0] l_spec_l01Draw ?_⟩
  simp only [srcR]; have y1 := kc [.bm, .f] d1; have y2 := kc [.bm, .r] d2; exact go_e0
def hsh (l : List Int) : Nat → Int
  | 0 => 14111 + (l.length : Int)
  | i + 1 => IntKind.wrap .u64 (IntKind.wrap .u64 (IntKind.wrap .u64 (hsh l i * 1099511628211) + l.getD i 0) + 251)
theorem hsh_bnd {l : List Int} (h : l.length < 1048577) : ∀ i, 0 ≤ hsh l i ∧ hsh l i < 18446744073709551616
  | 0 => by simp only [hsh]; omega
  | _ + 1 => wrapU_bnd _
theorem ex_from {cd : D} {l : List Int} (H : SrcH cd l) : ∃ s' : Src, okS l s' ∧ Den PA f_spec_l01From [.d cd] [.any] (srcR cd s') := by
  have hl := H.hl
  refine ⟨(0, hsh l (min l.length 4096)), ⟨Nat.zero_le _, hsh_bnd hl _⟩, den_go [] l_spec_l01From ?_⟩
  rcases H.hb with ⟨rfl, hby⟩ | ⟨rfl, rfl⟩
  · simp only [srcR]; refine go_c0 ?_
    refine go_loop (fun (i : Nat) => ⟨[(0, .d (.lst 1 (l.map dy))), (3, .ref 0 0), (4, .d (di i))], [some (.var [.lst 1 (l.map dy), di 0, du (hsh l i)])]⟩) (fun i => i ≤ min l.length 4096) (fun i => min l.length 4096 - i) 0 ?_ ?_ ?_
    · exact go_r0
    · exact Nat.zero_le _
    · rintro i hi J hJ
      have hb := hsh_bnd hl i
      by_cases hil : i < min l.length 4096
      · have hbi := hby _ (mem_getD (show i < l.length by omega))
        refine go_c0 ?_
        refine hJ (i + 1) (by omega) (by omega) _ go_r0
      · have e : i = min l.length 4096 := by omega
        by_cases h4 : l.length ≤ 4096
        · refine go_c0 ?_
          rw [← e]
        · refine go_c0 ?_
          rw [← e]
  · simp only [srcR]; refine go_c0 ?_
    refine go_loop (fun (_ : Unit) => ⟨[(0, .d (.v (.slice none 0 0))), (3, .ref 0 0), (4, .d (di 0))], [some (.var [.v (.slice none 0 0), di 0, du (hsh [] 0)])]⟩) (fun _ => True) (fun _ => 0) () ?_ trivial ?_
    · exact go_r0
    · intro _ _ J _
      refine go_c0 ?_
      rfl
theorem d_own_f {x : List Int} (hx : x.length < 1048577) : Den PA f_spec_l01Own [.d (ints x)] [.any] (.own 1 (x.map di)) := d_spec_l01Own x hx
def drL (X : D) (o : List Int) : Prop := IsInts X o ∧ o.length < 1048577 ∧ ∀ n, n ∈ o → in64 n
theorem ex_bad {cd : D} {l : List Int} (H : SrcH cd l) {s : Src} (hs : okS l s) {x : List Int} (hx : isSpaceM x = true) : ∃ (X : D) (o : List Int) (s' : Src), okS l s' ∧ drL X o ∧ Den PA f_spec_l01Bad [srcR cd s, .d (.agg [ints x])] [srcR cd s', .any] (.d (.agg [X])) := by
  have hn := isSpaceM_n hx
  have hq := isSpaceM_q hx
  have hin : ∀ n, n ∈ x → in64 n := fun n h => by
    obtain ⟨i, hi, rfl⟩ := List.mem_iff_getElem.1 h
    have := hq i hi
    simp [hi] at this
    unfold in64; omega
  obtain ⟨v, s1, hs1, v1, v2, d1⟩ := ex_nxt H hs (q := 50) (by omega)
  by_cases h0 : v = 0
  · subst h0
    refine ⟨nil, [], s1, hs1, ⟨.inr ⟨rfl, rfl⟩, by simp, by simp⟩, den_go [0] l_spec_l01Bad ?_⟩
    simp only [srcR]; have y1 := kc [.r] (d_spec_l01Own x (by omega)); have y2 := kc [.bm, .r] d1; exact go_e0
  · by_cases h1 : v = 1
    · subst h1
      obtain ⟨i, s2, hs2, i1, i2, d2⟩ := ex_nxt H hs1 (q := (x.length : Int)) (by omega)
      obtain ⟨w, s3, hs3, hw, d3⟩ := ex_pik H hs2 [1, 5, 0, -1, 1099511627776] (by simp) (by simp)
      refine ⟨ints (x.set i.toNat w), x.set i.toNat w, s3, hs3, ⟨.inl rfl, by simp; omega, fun n h => ?_⟩, den_go [0] l_spec_l01Bad ?_⟩
      · rcases List.mem_or_eq_of_mem_set h with h | rfl
        · exact hin n h
        · simp only [List.mem_cons, List.mem_nil_iff, or_false] at hw
          unfold in64; omega
      · repeat' (first | simp -implicitDefEqProofs (maxSteps := 1000000) (disch := (first | omega | (simp only [go_sem] <;> omega) | fail)) only [go_sem, ints, bools, mat, c_spec_l01Bad, srcR] | ((first | apply goIf_b | apply goG_b | apply goTG_b | apply goOG_b) <;> intro h <;> ((try simp only [hnq] at h); (try simp only [h]); (try simp only [hnr] at h)) <;> (try (exfalso; omega))))
        have yc := d_spec_l01Own x (by omega); first | refine goC_call [.r] yc ?_ | refine goOC_call [.r] yc ?_
        repeat' (first | simp -implicitDefEqProofs (maxSteps := 1000000) (disch := (first | omega | (simp only [go_sem] <;> omega) | fail)) only [go_sem, ints, bools, mat] | ((first | apply goIf_b | apply goG_b | apply goTG_b | apply goOG_b) <;> intro h <;> ((try simp only [hnq] at h); (try simp only [h]); (try simp only [hnr] at h)) <;> (try (exfalso; omega))))
        have yc := d1; first | refine goC_call [.bm, .r] yc ?_ | refine goOC_call [.bm, .r] yc ?_
        repeat' (first | simp -implicitDefEqProofs (maxSteps := 1000000) (disch := (first | omega | (simp only [go_sem] <;> omega) | fail)) only [go_sem, ints, bools, mat] | ((first | apply goIf_b | apply goG_b | apply goTG_b | apply goOG_b) <;> intro h <;> ((try simp only [hnq] at h); (try simp only [h]); (try simp only [hnr] at h)) <;> (try (exfalso; omega))))
        rw [goS_two]
        refine ⟨?_, ?_⟩
        · have y1 := kc [.bm, .r] d2; have y2 := kc [.bm, .f] d3; exact go_e0
        · have y1 := kc [.bm, .r] d2; have y2 := kc [.bm, .f] d3; exact go_e0
    · by_cases h2 : v = 2
      · subst h2
        refine ⟨ints (x ++ List.replicate (6 - x.length) 4), x ++ List.replicate (6 - x.length) 4, s1, hs1, ⟨.inl rfl, by simp; omega, fun n h => ?_⟩, den_go [0] l_spec_l01Bad ?_⟩
        · rcases List.mem_append.1 h with h | h
          · exact hin n h
          · rw [List.mem_replicate] at h; rw [h.2]; unfold in64; omega
        · simp only [srcR]; have y1 := kc [.r] (d_spec_l01Own x (by omega)); have y2 := kc [.bm, .r] d1; refine go_c0 ?_
          refine go_loop (fun (j : Nat) => ⟨[(4, .ref 0 0), (5, .ref 1 0), (42, .ref 2 0)], [some (.var [D.v (.slice none 0 0)]), some (.mix [.sl 3 0 (x.length + j) 1]), some (.var [cd, di s1.1, du s1.2]), some (.dat 1 ((x ++ List.replicate j 4).map di))]⟩) (fun j => j ≤ 6 - x.length) (fun j => 6 - x.length - j) 0 ?_ ?_ ?_
          · simp -implicitDefEqProofs (maxSteps := 1000000) (disch := (first | omega | (simp only [go_sem] <;> omega) | fail)) only [go_sem, ints, bools, mat]
            simp
          · exact Nat.zero_le _
          · rintro j hj J hJ
            by_cases hlt : j < 6 - x.length
            · refine go_c0 ?_
              refine hJ (j + 1) (by omega) (by omega) _ ?_
              simp -implicitDefEqProofs (maxSteps := 1000000) (disch := (first | omega | (simp only [go_sem] <;> omega) | fail)) only [go_sem, ints, bools, mat]
              rw [List.replicate_succ']
              simp [Nat.add_assoc]
            · have e : j = 6 - x.length := by omega
              refine go_c0 ?_
              rw [← e]
              repeat' (first | simp -implicitDefEqProofs (maxSteps := 1000000) (disch := (first | omega | (simp only [go_sem] <;> omega) | fail)) only [go_sem, ints, bools, mat] | ((first | apply goIf_b | apply goG_b | apply goTG_b | apply goOG_b) <;> intro h <;> ((try simp only [hnq] at h); (try simp only [h]); (try simp only [hnr] at h)) <;> (try (exfalso; omega))))
      · refine ⟨ints x, x, s1, hs1, ⟨.inl rfl, by omega, hin⟩, den_go [0] l_spec_l01Bad ?_⟩
        simp only [srcR]; have y1 := kc [.r] (d_spec_l01Own x (by omega)); have y2 := kc [.bm, .r] d1; exact go_e0
theorem ex_badCode {cd : D} {l : List Int} (H : SrcH cd l) {s : Src} (hs : okS l s) {x : List Int} (hx : isSpaceM x = true) {c : List Int} (hc : c.length < 1048576) (hci : ∀ n, n ∈ c → in64 n) : ∃ (o : List Int) (s' : Src), okS l s' ∧ o.length < 1048577 ∧ (∀ n, n ∈ o → in64 n) ∧ Den PA f_spec_l01BadCode [srcR cd s, .d (.agg [ints x]), .d (ints c)] [srcR cd s', .any, .any] (.own 1 (o.map di)) := by
  have hn := isSpaceM_n hx
  have hq := isSpaceM_q hx
  have hp := isSpaceM_prod hx
  have hp1 := prodM_pos (isSpaceM_szs hx)
  obtain ⟨v, s1, hs1, v1, v2, d1⟩ := ex_nxt H hs (q := 30) (by omega)
  by_cases h0 : v = 0
  · subst h0
    obtain ⟨w, s2, hs2, hw, d2⟩ := ex_pik H hs1 [-1, prodM x, 0, 1099511627776] (by simp) (by simp)
    refine ⟨c ++ [w], s2, hs2, by simp; omega, fun n h => ?_, den_go [0] l_spec_l01BadCode ?_⟩
    · rcases List.mem_append.1 h with h | h
      · exact hci n h
      · simp only [List.mem_singleton] at h
        simp only [List.mem_cons, List.mem_nil_iff, or_false] at hw
        unfold in64; omega
    · simp only [srcR]; have y1 := kc [.r] (d_spec_l01Own c (by omega)); have y2 := kc [.bm, .r] d1; have y3 := kc [.r] (d_spec_l01N x (by omega) hq); have y4 := kc [.bm, .f] d2; exact go_e0
  · by_cases h1 : v = 1
    · subst h1
      by_cases hl1 : 1 < c.length
      · refine ⟨c.set 0 (c.getD 1 0), s1, hs1, by simp; omega, fun n h => ?_, den_go [0] l_spec_l01BadCode ?_⟩
        · rcases List.mem_or_eq_of_mem_set h with h | rfl
          · exact hci n h
          · exact hci _ (mem_getD hl1)
        · simp only [srcR]; have y1 := kc [.r] (d_spec_l01Own c (by omega)); have y2 := kc [.bm, .r] d1; refine go_c0 ?_
          rfl
      · refine ⟨c, s1, hs1, by omega, hci, den_go [0] l_spec_l01BadCode ?_⟩
        simp only [srcR]; have y1 := kc [.r] (d_spec_l01Own c (by omega)); have y2 := kc [.bm, .r] d1; exact go_e0
    · refine ⟨c, s1, hs1, by omega, hci, den_go [0] l_spec_l01BadCode ?_⟩
      simp only [srcR]; have y1 := kc [.r] (d_spec_l01Own c (by omega)); have y2 := kc [.bm, .r] d1; exact go_e0
def smN (a : List Int) : Nat → Int
  | 0 => 0
  | j + 1 => smN a j + a.getD j 0
theorem smN_bnd {a : List Int} (h : ∀ i, 0 ≤ a.getD i 0 ∧ a.getD i 0 < 4) : ∀ j : Nat, 0 ≤ smN a j ∧ smN a j ≤ 3 * j
  | 0 => by simp [smN]
  | j + 1 => by have h1 := smN_bnd h j; have h2 := h j; rw [smN]; omega
def sdP (x : List Int) (b r w : Int) : Bool := smN (digM x w) x.length % b == r
def gdN (x : List Int) (d : Int) : Nat → List Int
  | 0 => []
  | w + 1 => if (List.range (gdN x d w).length).all (fun k => decide (d ≤ distM x ((gdN x d w).getD k 0) w)) = true then gdN x d w ++ [(w : Int)] else gdN x d w
theorem gdN_len (x : List Int) (d : Int) : ∀ w, (gdN x d w).length ≤ w
  | 0 => by simp [gdN]
  | w + 1 => by
    have := gdN_len x d w
    rw [gdN]; split
    · simp; omega
    · omega
theorem gdN_mem (x : List Int) (d : Int) : ∀ w, ∀ u, u ∈ gdN x d w → 0 ≤ u ∧ u < w
  | 0 => fun u h => by simp [gdN] at h
  | w + 1 => fun u h => by
    rw [gdN] at h
    split at h
    · rcases List.mem_append.1 h with h | h
      · have := gdN_mem x d w u h; omega
      · simp at h; omega
    · have := gdN_mem x d w u h; omega
theorem ex_drawCode {cd : D} {l : List Int} (H : SrcH cd l) {s : Src} (hs : okS l s) {x : List Int} (hx : isSpaceM x = true) : ∃ (o : List Int) (s' : Src), okS l s' ∧ o.length ≤ 1024 ∧ inC x o ∧ Den PA f_spec_l01DrawCode [srcR cd s, .d (.agg [ints x])] [srcR cd s', .any] (.own 1 (o.map di)) := by
  have hn := isSpaceM_n hx
  have hq := isSpaceM_q hx
  have hp := isSpaceM_prod hx
  have hz := isSpaceM_szs hx
  have hp1 := prodM_pos hz
  have hal := allW_len x
  have hN := d_spec_l01N x (by omega) hq
  obtain ⟨v, s1, hs1, v1, v2, d1⟩ := ex_nxt H hs (q := 4) (by omega)
  by_cases h0 : v = 0
  · subst h0
    obtain ⟨b, s2, hs2, hb, d2⟩ := ex_pik H hs1 [2, 2, 3, 4] (by simp) (by simp)
    simp only [List.mem_cons, List.mem_nil_iff, or_false] at hb
    obtain ⟨r, s3, hs3, r1, r2, d3⟩ := ex_nxt H hs2 (q := 2) (by omega)
    refine ⟨(allW x).filter (sdP x b r), s3, hs3, ?_, ?_, den_go [0] l_spec_l01DrawCode ?_⟩
    · have := List.length_filter_le (sdP x b r) (allW x); omega
    · intro u hu; exact (allW_mem' hx u).1 (List.mem_filter.1 hu).1
    · simp only [srcR]; have y1 := kc [.bm, .r] d1; have y2 := kc [.bm, .f] d2; have y3 := kc [.bm, .r] d3; refine go_c0 ?_
      refine go_loop (fun (w : Nat) => ⟨[(3, .ref 0 0), (5, .sl 1 0 (((allW x).take w).filter (sdP x b r)).length 1), (6, .d (di b)), (7, .d (di r)), (8, .d (di w)), (109, .ref 2 0)], [some (.var [ints x]), some (.dat 1 ((((allW x).take w).filter (sdP x b r)).map di)), some (.var [cd, di s3.1, du s3.2])]⟩) (fun w => w ≤ (prodM x).toNat) (fun w => (prodM x).toNat - w) 0 ?_ ?_ ?_
      · exact go_r0
      · exact Nat.zero_le _
      · rintro w hw J hJ
        have hfl := filter_len_le (sdP x b r) ((allW x).take w) w (by simp; omega)
        by_cases hwl : w < (prodM x).toNat
        · have hdl := digM_len x w
          have hd4 := digM_bnd w hz
          have y1 := kc [.r] hN; have y2 := kc [.r, .r] (d_spec_l01Digits x hx w (by omega) (by omega)); refine go_c0 ?_
          refine go_loop (fun (j : Nat) => ⟨[(3, .ref 0 0), (5, .sl 1 0 (((allW x).take w).filter (sdP x b r)).length 1), (6, .d (di b)), (7, .d (di r)), (8, .d (di w)), (9, .sl 2 0 (digM x w).length 1), (10, .d (di (smN (digM x w) j))), (37, .d (di (digM x w).length)), (38, .d (di j)), (109, .ref 3 0)], [some (.var [ints x]), some (.dat 1 ((((allW x).take w).filter (sdP x b r)).map di)), some (.dat 1 ((digM x w).map di)), some (.var [cd, di s3.1, du s3.2])]⟩) (fun j => j ≤ x.length) (fun j => x.length - j) 0 ?_ ?_ ?_
          · exact go_r0
          · exact Nat.zero_le _
          · rintro j hj J2 hJ2
            have hsb := smN_bnd hd4 j
            have hdj := hd4 j
            by_cases hjl : j < x.length
            · refine go_c0 ?_
              refine hJ2 (j + 1) (by omega) (by omega) _ ?_
              simp -implicitDefEqProofs (maxSteps := 1000000) (disch := (first | omega | (simp only [go_sem] <;> omega) | fail)) only [go_sem, ints, bools, mat]
              rw [smN]; rfl
            · have e : j = x.length := by omega
              subst e
              have hmb := mod_bnd (x := smN (digM x w) x.length) (show 2 ≤ b ∧ b ≤ 4 by omega)
              repeat' (first | simp -implicitDefEqProofs (maxSteps := 1000000) (disch := (first | omega | (simp only [go_sem] <;> omega) | fail)) only [go_sem, ints, bools, mat] | ((first | apply goIf_b | apply goG_b | apply goTG_b | apply goOG_b) <;> intro h <;> ((try simp only [hnq] at h); (try simp only [h]); (try simp only [hnr] at h)) <;> (try (exfalso; omega))))
              · refine hJ (w + 1) (by omega) (by omega) _ ?_
                simp -implicitDefEqProofs (maxSteps := 1000000) (disch := (first | omega | (simp only [go_sem] <;> omega) | fail)) only [go_sem, ints, bools, mat]
                rw [take_allW _ hwl, List.filter_append]
                have h' : sdP x b r w = true := by unfold sdP; simpa using h
                simp [h']
              · refine hJ (w + 1) (by omega) (by omega) _ ?_
                simp -implicitDefEqProofs (maxSteps := 1000000) (disch := (first | omega | (simp only [go_sem] <;> omega) | fail)) only [go_sem, ints, bools, mat]
                rw [take_allW _ hwl, List.filter_append]
                have h' : sdP x b r w = false := by unfold sdP; simpa using h
                simp [h']
        · have e : w = (prodM x).toNat := by omega
          subst e
          rw [List.take_of_length_le (by rw [hal]; exact Nat.le_refl _)]
          have y1 := kc [.r] hN; exact go_e0
  · by_cases h1 : v = 1
    · subst h1
      obtain ⟨d, s2, hs2, hd, d2⟩ := ex_pik H hs1 [2, 3, 3] (by simp) (by simp)
      refine ⟨gdN x d (prodM x).toNat, s2, hs2, ?_, ?_, den_go [0] l_spec_l01DrawCode ?_⟩
      · have := gdN_len x d (prodM x).toNat; omega
      · intro u hu; have := gdN_mem x d _ u hu; omega
      · simp only [srcR]; have y1 := kc [.bm, .r] d1; have y2 := kc [.bm, .f] d2; refine go_c0 ?_
        refine go_loop (fun (w : Nat) => ⟨[(3, .ref 0 0), (5, .sl 1 0 (gdN x d w).length 1), (12, .d (di d)), (13, .d (di w)), (109, .ref 2 0)], [some (.var [ints x]), some (.dat 1 ((gdN x d w).map di)), some (.var [cd, di s2.1, du s2.2])]⟩) (fun w => w ≤ (prodM x).toNat) (fun w => (prodM x).toNat - w) 0 ?_ ?_ ?_
        · exact go_r0
        · exact Nat.zero_le _
        · rintro w hw J hJ
          have hgl := gdN_len x d w
          by_cases hwl : w < (prodM x).toNat
          · have y1 := kc [.r] hN; refine go_c0 ?_
            refine go_loop (fun (k : Nat) => ⟨[(3, .ref 0 0), (5, .sl 1 0 (gdN x d w).length 1), (12, .d (di d)), (13, .d (di w)), (14, .d (db ((List.range k).all fun k => decide (d ≤ distM x ((gdN x d w).getD k 0) w)))), (70, .d (di (gdN x d w).length)), (71, .d (di k)), (109, .ref 2 0)], [some (.var [ints x]), some (.dat 1 ((gdN x d w).map di)), some (.var [cd, di s2.1, du s2.2])]⟩) (fun k => k ≤ (gdN x d w).length) (fun k => (gdN x d w).length - k) 0 ?_ ?_ ?_
            · exact go_r0
            · exact Nat.zero_le _
            · rintro k hk J2 hJ2
              by_cases hkl : k < (gdN x d w).length
              · have hgm := gdN_mem x d w _ (mem_getD hkl)
                have hdi := d_spec_l01Distance x hx ((gdN x d w).getD k 0) w hgm.1 (by omega) (by omega) (by omega)
                have hst : ((List.range (k + 1)).all fun k => decide (d ≤ distM x ((gdN x d w).getD k 0) w)) = (((List.range k).all fun k => decide (d ≤ distM x ((gdN x d w).getD k 0) w)) && decide (d ≤ distM x ((gdN x d w).getD k 0) w)) := by
                  rw [List.range_succ, List.all_append, List.all_cons, List.all_nil, Bool.and_true]
                rw [List.range_succ] at hst
                cases hg : (List.range k).all fun k => decide (d ≤ distM x ((gdN x d w).getD k 0) w) with
                | false =>
                  refine go_c0 ?_
                  refine hJ2 (k + 1) (by omega) (by omega) _ ?_
                  simp -implicitDefEqProofs (maxSteps := 1000000) (disch := (first | omega | (simp only [go_sem] <;> omega) | fail)) only [go_sem, ints, bools, mat]
                  rw [hst, hg]; rfl
                | true =>
                  have y1 := kc [.r, .r, .r] hdi; refine go_c0 ?_
                  refine hJ2 (k + 1) (by omega) (by omega) _ ?_
                  simp -implicitDefEqProofs (maxSteps := 1000000) (disch := (first | omega | (simp only [go_sem] <;> omega) | fail)) only [go_sem, ints, bools, mat]
                  rw [hst, hg, Bool.true_and]; rfl
              · have e : k = (gdN x d w).length := by omega
                subst e
                cases hg : (List.range (gdN x d w).length).all fun k => decide (d ≤ distM x ((gdN x d w).getD k 0) w) with
                | false =>
                  refine go_c0 ?_
                  refine hJ (w + 1) (by omega) (by omega) _ ?_
                  simp -implicitDefEqProofs (maxSteps := 1000000) (disch := (first | omega | (simp only [go_sem] <;> omega) | fail)) only [go_sem, ints, bools, mat]
                  rw [gdN, if_neg (by rw [hg]; decide)]; rfl
                | true =>
                  refine go_c0 ?_
                  refine hJ (w + 1) (by omega) (by omega) _ ?_
                  simp -implicitDefEqProofs (maxSteps := 1000000) (disch := (first | omega | (simp only [go_sem] <;> omega) | fail)) only [go_sem, ints, bools, mat]
                  rw [gdN, if_pos hg]; simp
          · have e : w = (prodM x).toNat := by omega
            subst e
            have y1 := kc [.r] hN; exact go_e0
    · obtain ⟨m, s2, hs2, hm, d2⟩ := ex_pik H hs1 [3, 8, 20] (by simp) (by simp)
      simp only [List.mem_cons, List.mem_nil_iff, or_false] at hm
      obtain ⟨n, s3, hs3, n1, n2, d3⟩ := ex_nxt H hs2 (q := m) (by omega)
      obtain ⟨X, hX⟩ : ∃ X : Nat → List Int × Src, X = fun k => Nat.rec (motive := fun _ => List Int × Src) ([], s3) (fun _ p => (putI p.1 (nxt l p.2 (prodM x)).1, (nxt l p.2 (prodM x)).2)) k := ⟨_, rfl⟩
      have X0 : X 0 = ([], s3) := by rw [hX]; rfl
      have XS : ∀ k, X (k + 1) = (putI (X k).1 (nxt l (X k).2 (prodM x)).1, (nxt l (X k).2 (prodM x)).2) := fun k => by rw [hX]
      have key : ∀ k, (X k).1.length ≤ k ∧ inC x (X k).1 ∧ okS l (X k).2 := by
        intro k
        induction k with
        | zero => rw [X0]; exact ⟨Nat.le_refl _, fun u hu => by simp at hu, hs3⟩
        | succ k ih =>
          rw [XS]
          refine ⟨?_, fun u hu => ?_, nxt_ok ih.2.2 _⟩
          · have := putI_len (X k).1 (nxt l (X k).2 (prodM x)).1
            dsimp only; omega
          · rcases (putI_mem u).1 hu with h | h
            · exact ih.2.1 u h
            · subst h; exact nxt_bnd (by omega)
      have hk := key n.toNat
      refine ⟨(X n.toNat).1, (X n.toNat).2, hk.2.2, by omega, hk.2.1, den_go [0] l_spec_l01DrawCode ?_⟩
      simp only [srcR]; have y1 := kc [.bm, .r] d1; have y2 := kc [.bm, .f] d2; have y3 := kc [.bm, .r] d3; refine go_c0 ?_
      refine go_loop (fun (k : Nat) => ⟨[(0, .ref 0 0), (3, .ref 1 0), (5, .sl 2 0 (X k).1.length 1), (16, .d (di (n - k))), (109, .ref 0 0)], [some (.var [cd, di (X k).2.1, du (X k).2.2]), some (.var [ints x]), some (.dat 1 ((X k).1.map di))]⟩) (fun k => k ≤ n.toNat) (fun k => n.toNat - k) 0 ?_ ?_ ?_
      · simp -implicitDefEqProofs (maxSteps := 1000000) (disch := (first | omega | (simp only [go_sem] <;> omega) | fail)) only [go_sem, ints, bools, mat]
        rw [X0]
        simp
      · exact Nat.zero_le _
      · rintro k hkn J hJ
        have hkk := key k
        by_cases hlt : k < n.toNat
        · have dn := d_nxt H hkk.2.2 (prodM x)
          have dp := d_spec_l01Put (X k).1 (nxt l (X k).2 (prodM x)).1 (by omega)
          have y1 := kc [.r] hN; have y2 := kc [.bm, .r] dn; have y3 := kc [.o, .r] dp; refine go_c0 ?_
          refine hJ (k + 1) (by omega) (by omega) _ ?_
          rw [XS]
          simp -implicitDefEqProofs (maxSteps := 1000000) (disch := (first | omega | (simp only [go_sem] <;> omega) | fail)) only [go_sem, ints, bools, mat]
          have e : n - (k : Int) - 1 = n - ((k + 1 : Nat) : Int) := by omega
          rw [e]
        · have e : k = n.toNat := by omega
          subst e
          exact go_e0
theorem inC_in64 {x c : List Int} (hx : isSpaceM x = true) (h : inC x c) : ∀ n, n ∈ c → in64 n := fun n hn => by
  have h1 := h n hn
  have h2 := isSpaceM_prod hx
  unfold in64; omega
theorem d_nil_impl_IsSpace : Den PA f_impl_IsSpace [.d (.agg [nil])] [.any] (.d (db false)) := by
  refine den_go [] l_impl_IsSpace ?_
  exact go_e0
theorem d_nil_spec_l01Is : Den PA f_spec_l01Is [.d (.agg [nil])] [.any] (.d (db false)) := by
  refine den_go [] l_spec_l01Is ?_
  have y1 := kc [.r, .r, .r] (d_spec_l01In 0 1 8); exact go_e0
theorem d_nil_impl_wordCode (x : D) : Den PA f_impl_wordCode [.d (.agg [nil]), .d x] [.any, .any] (.d (di 1)) := by
  refine den_go [] l_impl_wordCode ?_
  have y1 := kc [.r] d_nil_impl_IsSpace; exact go_e0
theorem d_nil_impl_codeCode (c x : D) : Den PA f_impl_codeCode [.d (.agg [nil]), .d c, .d x] [.any, .any, .any] (.d (di 1)) := by
  refine den_go [] l_impl_codeCode ?_
  have y1 := kc [.r, .r] (d_nil_impl_wordCode x); exact go_e0
theorem d_nil_impl_someCode (c x : D) : Den PA f_impl_someCode [.d (.agg [nil]), .d c, .d x] [.any, .any, .any] (.d (di 1)) := by
  refine den_go [] l_impl_someCode ?_
  have y1 := kc [.r, .r, .r] (d_nil_impl_codeCode c x); exact go_e0
theorem d_nil_spec_l01Given (c : D) : Den PA f_spec_l01Given [.d (.agg [nil]), .d c] [.any, .any] (.d (di 1)) := by
  refine den_go [] l_spec_l01Given ?_
  have y1 := kc [.r] d_nil_spec_l01Is; exact go_e0
theorem d_laws_likeInts (l m : List Int) (hl : l.length < 1048577) : Den PA f_laws_likeInts [.d (ints l), .d (ints m)] [.any, .any] (.d (db (decide (l = m)))) := by
  refine den_go [] l_laws_likeInts ?_
  repeat' (first | simp -implicitDefEqProofs (maxSteps := 1000000) (disch := (first | omega | (simp only [go_sem] <;> omega) | fail)) only [go_sem, ints, bools, mat, c_laws_likeInts] | ((first | apply goIf_b | apply goG_b | apply goTG_b | apply goOG_b) <;> intro h <;> ((try simp only [hnq] at h); (try simp only [h]); (try simp only [hnr] at h)) <;> (try (exfalso; omega))))
  · exact dbF fun e => by have := of_decide_eq_true e; subst this; exact h rfl
  · refine go_loop (fun (j : Nat) => ⟨[(0, .d (ints l)), (1, .d (ints m)), (5, .d (di j))], []⟩) (fun j => j ≤ l.length ∧ ∀ i, i < j → l.getD i 0 = m.getD i 0) (fun j => l.length - j) 0 ?_ ?_ ?_
    · exact go_r0
    · simp
    · rintro j ⟨hj, hi⟩ J hJ
      repeat' (first | simp -implicitDefEqProofs (maxSteps := 1000000) (disch := (first | omega | (simp only [go_sem] <;> omega) | fail)) only [go_sem, ints, bools, mat] | ((first | apply goIf_b | apply goG_b | apply goTG_b | apply goOG_b) <;> intro h <;> ((try simp only [hnq] at h); (try simp only [h]); (try simp only [hnr] at h)) <;> (try (exfalso; omega))))
      · exact dbF fun e => by have := of_decide_eq_true e; subst this; exact h rfl
      · refine hJ (j + 1) ⟨by omega, all_ext hi (by assumption)⟩ (by omega) _ go_r0
      · exact dbT (decide_eq_true (eq_getD (by omega) fun i hi' => hi i (by omega)))
theorem d_laws_likeInts_nil : Den PA f_laws_likeInts [.d nil, .d nil] [.any, .any] (.d (db true)) := by
  refine den_go [] l_laws_likeInts ?_
  refine go_c0 ?_
  refine go_loop (fun (_ : Unit) => ⟨[(0, .d nil), (1, .d nil), (5, .d (di 0))], []⟩) (fun _ => True) (fun _ => 0) () ?_ trivial ?_
  · exact go_r0
  · intro _ _ J _
    exact go_e0
theorem d_laws_hasInt (l : List Int) (x : Int) (hl : l.length < 1048577) : Den PA f_laws_hasInt [.d (ints l), .d (di x)] [.any, .any] (.d (db (decide (x ∈ l)))) := by
  refine den_go [] l_laws_hasInt ?_
  refine go_c0 ?_
  refine go_loop (fun (j : Nat) => ⟨[(0, .d (ints l)), (1, .d (di x)), (5, .d (di j))], []⟩) (fun j => j ≤ l.length ∧ ∀ i, i < j → l.getD i 0 ≠ x) (fun j => l.length - j) 0 ?_ ?_ ?_
  · exact go_r0
  · simp
  · rintro j ⟨hj, hi⟩ J hJ
    repeat' (first | simp -implicitDefEqProofs (maxSteps := 1000000) (disch := (first | omega | (simp only [go_sem] <;> omega) | fail)) only [go_sem, ints, bools, mat] | ((first | apply goIf_b | apply goG_b | apply goTG_b | apply goOG_b) <;> intro h <;> ((try simp only [hnq] at h); (try simp only [h]); (try simp only [hnr] at h)) <;> (try (exfalso; omega))))
    · exact dbT (decide_eq_true (by rw [← h]; exact mem_getD (by omega)))
    · refine hJ (j + 1) ⟨by omega, all_ext hi (by assumption)⟩ (by omega) _ go_r0
    · refine dbF fun e => ?_
      obtain ⟨i, hi', e2⟩ := List.mem_iff_getElem.1 (of_decide_eq_true e)
      exact hi i (by omega) (by simpa [hi'] using e2)
theorem d_impl_CountWords (l : List Int) (hs : isSpaceM l = true) : Den PA f_impl_CountWords [.d (.agg [ints l])] [.any] (.tup [.d (di (prodM l)), .d (di 0)]) := by
  have hn := isSpaceM_n hs
  have his := d_impl_IsSpace l (by omega)
  rw [hs] at his
  refine den_go [] l_impl_CountWords ?_
  have y1 := kc [.r] his; have y2 := kc [.r] (d_impl_count l hs); exact go_e0
theorem lenA_bts {x : D} {l : List Int} (h : IsBts x l) : lenA (.d x) = some (.d (di l.length)) := by
  rcases h with ⟨rfl, _⟩ | ⟨rfl, rfl⟩
  · simp [lenA]
  · rfl
theorem d_laws_big {x : D} {l : List Int} (h : IsBts x l) : Den PA f_laws_big [.d x] [.any] (.d (db (decide (4096 < (l.length : Int))))) := by
  have hl := lenA_bts h
  refine den_go [] l_laws_big ?_
  have z1 := hl; exact go_e1
theorem ex_small {cd : D} {l : List Int} (H : SrcH cd l) {s : Src} (hs : okS l s) : ∃ (o : List Int) (s' : Src), okS l s' ∧ isSpaceM o = true ∧ Den PA f_spec_l01Small [srcR cd s] [srcR cd s'] (.agg [.own 1 (o.map di)]) := by
  obtain ⟨m, s1, hs1, hm, d1⟩ := ex_pik H hs [8, 27, 81] (by simp) (by simp)
  simp only [List.mem_cons, List.mem_nil_iff, or_false] at hm
  obtain ⟨o, s2, hs2, ho, d2⟩ := ex_drawOf H hs1 (most := m) (by omega) (by omega)
  refine ⟨o, s2, hs2, ho, den_go [0] l_spec_l01Small ?_⟩
  simp only [srcR]; have y1 := kc [.bm, .f] d1; have y2 := kc [.bm, .r] d2; exact go_e0
theorem those_in {x : List Int} (hx : isSpaceM x = true) (p : List Int → Bool) : inC x (thoseM x p) ∧ (thoseM x p).length ≤ 1024 := by
  have hp := isSpaceM_prod hx
  have hp1 := prodM_pos (isSpaceM_szs hx)
  have hal := allW_len x
  refine ⟨fun u hu => (allW_mem' hx u).1 (List.mem_filter.1 hu).1, ?_⟩
  have := List.length_filter_le (fun w => p (digM x w)) (allW x)
  unfold thoseM; omega
theorem ex_perfect {cd : D} {l : List Int} (H : SrcH cd l) {s : Src} (hs : okS l s) : ∃ (x c : List Int) (r : Int) (s' : Src), okS l s' ∧ isSpaceM x = true ∧ inC x c ∧ c.length ≤ 1024 ∧ 0 ≤ r ∧ r ≤ 8 ∧ Den PA f_spec_l06DrawPerfect [srcR cd s] [srcR cd s'] (.tup [.d (.agg [ints x]), .own 1 (c.map di), .d (di r)]) := by
  obtain ⟨v, s1, hs1, v1, v2, d1⟩ := ex_nxt H hs (q := 6) (by omega)
  by_cases h0 : v = 0
  · subst h0
    have ht := those_in ham23.hsp (hamP 2 3)
    refine ⟨hamL 2 3, thoseM (hamL 2 3) (hamP 2 3), 1, s1, hs1, ham23.hsp, ht.1, ht.2, by omega, by omega, den_go [0] l_spec_l06DrawPerfect ?_⟩
    have dh := d_spec_l06Hamming 2 3 (by omega) ham23
    generalize hamL 2 3 = L at *
    generalize thoseM L (hamP 2 3) = T at *
    repeat' (first | simp -implicitDefEqProofs (maxSteps := 1000000) (disch := (first | omega | (simp only [go_sem] <;> omega) | fail)) only [go_sem, ints, bools, mat, c_spec_l06DrawPerfect, srcR] | ((first | apply goIf_b | apply goG_b | apply goTG_b | apply goOG_b) <;> intro h <;> ((try simp only [hnq] at h); (try simp only [h]); (try simp only [hnr] at h)) <;> (try (exfalso; omega))))
    have yc := d1; first | refine goC_call [.bm, .r] yc ?_ | refine goOC_call [.bm, .r] yc ?_
    repeat' (first | simp -implicitDefEqProofs (maxSteps := 1000000) (disch := (first | omega | (simp only [go_sem] <;> omega) | fail)) only [go_sem, ints, bools, mat] | ((first | apply goIf_b | apply goG_b | apply goTG_b | apply goOG_b) <;> intro h <;> ((try simp only [hnq] at h); (try simp only [h]); (try simp only [hnr] at h)) <;> (try (exfalso; omega))))
    have yc := dh; first | refine goC_call [.r, .r] yc ?_ | refine goOC_call [.r, .r] yc ?_
    repeat' (first | simp -implicitDefEqProofs (maxSteps := 1000000) (disch := (first | omega | (simp only [go_sem] <;> omega) | fail)) only [go_sem, ints, bools, mat] | ((first | apply goIf_b | apply goG_b | apply goTG_b | apply goOG_b) <;> intro h <;> ((try simp only [hnq] at h); (try simp only [h]); (try simp only [hnr] at h)) <;> (try (exfalso; omega))))
    exact ⟨rfl, rfl, trivial⟩
  · by_cases h1 : v = 1
    · subst h1
      have ht := those_in ham32.hsp (hamP 3 2)
      refine ⟨hamL 3 2, thoseM (hamL 3 2) (hamP 3 2), 1, s1, hs1, ham32.hsp, ht.1, ht.2, by omega, by omega, den_go [0] l_spec_l06DrawPerfect ?_⟩
      have dh := d_spec_l06Hamming 3 2 (by omega) ham32
      generalize hamL 3 2 = L at *
      generalize thoseM L (hamP 3 2) = T at *
      repeat' (first | simp -implicitDefEqProofs (maxSteps := 1000000) (disch := (first | omega | (simp only [go_sem] <;> omega) | fail)) only [go_sem, ints, bools, mat, c_spec_l06DrawPerfect, srcR] | ((first | apply goIf_b | apply goG_b | apply goTG_b | apply goOG_b) <;> intro h <;> ((try simp only [hnq] at h); (try simp only [h]); (try simp only [hnr] at h)) <;> (try (exfalso; omega))))
      have yc := d1; first | refine goC_call [.bm, .r] yc ?_ | refine goOC_call [.bm, .r] yc ?_
      repeat' (first | simp -implicitDefEqProofs (maxSteps := 1000000) (disch := (first | omega | (simp only [go_sem] <;> omega) | fail)) only [go_sem, ints, bools, mat] | ((first | apply goIf_b | apply goG_b | apply goTG_b | apply goOG_b) <;> intro h <;> ((try simp only [hnq] at h); (try simp only [h]); (try simp only [hnr] at h)) <;> (try (exfalso; omega))))
      have yc := dh; first | refine goC_call [.r, .r] yc ?_ | refine goOC_call [.r, .r] yc ?_
      repeat' (first | simp -implicitDefEqProofs (maxSteps := 1000000) (disch := (first | omega | (simp only [go_sem] <;> omega) | fail)) only [go_sem, ints, bools, mat] | ((first | apply goIf_b | apply goG_b | apply goTG_b | apply goOG_b) <;> intro h <;> ((try simp only [hnq] at h); (try simp only [h]); (try simp only [hnr] at h)) <;> (try (exfalso; omega))))
      exact ⟨rfl, rfl, trivial⟩
    · by_cases h2 : v = 2
      · subst h2
        refine ⟨[2, 2, 2, 2, 2], [0, 31], 2, s1, hs1, by decide, fun u hu => ?_, by simp, by omega, by omega, den_go [0] l_spec_l06DrawPerfect ?_⟩
        · simp only [List.mem_cons, List.mem_nil_iff, or_false] at hu
          have e : prodM [2, 2, 2, 2, 2] = 32 := by decide
          rw [e]; omega
        · simp only [srcR]; have y1 := kc [.bm, .r] d1; exact go_e0
      · by_cases h3 : v = 3
        · subst h3
          obtain ⟨x, s2, hs2, hx, d2⟩ := ex_small H hs1
          have hd2 := d2.le .frzA
          have hn := isSpaceM_n hx
          have hp1 := prodM_pos (isSpaceM_szs hx)
          obtain ⟨u, s3, hs3, u1, u2, d3⟩ := ex_nxt H hs2 (q := prodM x) (by omega)
          refine ⟨x, [u], x.length, s3, hs3, hx, fun y hy => by simp at hy; subst hy; exact ⟨u1, u2⟩, by simp, by omega, by omega, den_go [0] l_spec_l06DrawPerfect ?_⟩
          repeat' (first | simp -implicitDefEqProofs (maxSteps := 1000000) (disch := (first | omega | (simp only [go_sem] <;> omega) | fail)) only [go_sem, ints, bools, mat, c_spec_l06DrawPerfect, srcR] | ((first | apply goIf_b | apply goG_b | apply goTG_b | apply goOG_b) <;> intro h <;> ((try simp only [hnq] at h); (try simp only [h]); (try simp only [hnr] at h)) <;> (try (exfalso; omega))))
          have yc := d1; first | refine goC_call [.bm, .r] yc ?_ | refine goOC_call [.bm, .r] yc ?_
          repeat' (first | simp -implicitDefEqProofs (maxSteps := 1000000) (disch := (first | omega | (simp only [go_sem] <;> omega) | fail)) only [go_sem, ints, bools, mat] | ((first | apply goIf_b | apply goG_b | apply goTG_b | apply goOG_b) <;> intro h <;> ((try simp only [hnq] at h); (try simp only [h]); (try simp only [hnr] at h)) <;> (try (exfalso; omega))))
          have yc := hd2; first | refine goC_call [.bm] yc ?_ | refine goOC_call [.bm] yc ?_
          repeat' (first | simp -implicitDefEqProofs (maxSteps := 1000000) (disch := (first | omega | (simp only [go_sem] <;> omega) | fail)) only [go_sem, ints, bools, mat] | ((first | apply goIf_b | apply goG_b | apply goTG_b | apply goOG_b) <;> intro h <;> ((try simp only [hnq] at h); (try simp only [h]); (try simp only [hnr] at h)) <;> (try (exfalso; omega))))
          have yc := d_spec_l01N x (by omega) (isSpaceM_q hx); first | refine goC_call [.r] yc ?_ | refine goOC_call [.r] yc ?_
          repeat' (first | simp -implicitDefEqProofs (maxSteps := 1000000) (disch := (first | omega | (simp only [go_sem] <;> omega) | fail)) only [go_sem, ints, bools, mat] | ((first | apply goIf_b | apply goG_b | apply goTG_b | apply goOG_b) <;> intro h <;> ((try simp only [hnq] at h); (try simp only [h]); (try simp only [hnr] at h)) <;> (try (exfalso; omega))))
          have yc := d3; first | refine goC_call [.bm, .r] yc ?_ | refine goOC_call [.bm, .r] yc ?_
          repeat' (first | simp -implicitDefEqProofs (maxSteps := 1000000) (disch := (first | omega | (simp only [go_sem] <;> omega) | fail)) only [go_sem, ints, bools, mat] | ((first | apply goIf_b | apply goG_b | apply goTG_b | apply goOG_b) <;> intro h <;> ((try simp only [hnq] at h); (try simp only [h]); (try simp only [hnr] at h)) <;> (try (exfalso; omega))))
          rw [goS_two]
          refine ⟨?_, ?_⟩
          · exact go_e0
          · exact go_e0
        · have ht := those_in ham22.hsp (hamP 2 2)
          refine ⟨hamL 2 2, thoseM (hamL 2 2) (hamP 2 2), 1, s1, hs1, ham22.hsp, ht.1, ht.2, by omega, by omega, den_go [0] l_spec_l06DrawPerfect ?_⟩
          have dh := d_spec_l06Hamming 2 2 (by omega) ham22
          generalize hamL 2 2 = L at *
          generalize thoseM L (hamP 2 2) = T at *
          repeat' (first | simp -implicitDefEqProofs (maxSteps := 1000000) (disch := (first | omega | (simp only [go_sem] <;> omega) | fail)) only [go_sem, ints, bools, mat, c_spec_l06DrawPerfect, srcR] | ((first | apply goIf_b | apply goG_b | apply goTG_b | apply goOG_b) <;> intro h <;> ((try simp only [hnq] at h); (try simp only [h]); (try simp only [hnr] at h)) <;> (try (exfalso; omega))))
          have yc := d1; first | refine goC_call [.bm, .r] yc ?_ | refine goOC_call [.bm, .r] yc ?_
          repeat' (first | simp -implicitDefEqProofs (maxSteps := 1000000) (disch := (first | omega | (simp only [go_sem] <;> omega) | fail)) only [go_sem, ints, bools, mat] | ((first | apply goIf_b | apply goG_b | apply goTG_b | apply goOG_b) <;> intro h <;> ((try simp only [hnq] at h); (try simp only [h]); (try simp only [hnr] at h)) <;> (try (exfalso; omega))))
          have yc := dh; first | refine goC_call [.r, .r] yc ?_ | refine goOC_call [.r, .r] yc ?_
          repeat' (first | simp -implicitDefEqProofs (maxSteps := 1000000) (disch := (first | omega | (simp only [go_sem] <;> omega) | fail)) only [go_sem, ints, bools, mat] | ((first | apply goIf_b | apply goG_b | apply goTG_b | apply goOG_b) <;> intro h <;> ((try simp only [hnq] at h); (try simp only [h]); (try simp only [hnr] at h)) <;> (try (exfalso; omega))))
          exact ⟨rfl, trivial⟩
theorem ex_with {cd : D} {l : List Int} (H : SrcH cd l) : ∃ (X : D) (o c : List Int) (r : Int), drL X o ∧ c.length < 1048577 ∧ (∀ n, n ∈ c → in64 n) ∧ in64 r ∧ Den PA f_spec_l06With [.d cd] [.any] (.tup [.d (.agg [X]), .own 1 (c.map di), .d (di r)]) := by
  obtain ⟨s0, hs0, d0⟩ := ex_from H
  obtain ⟨x, c0, r0, s1, hs1, hx, hc0, hl0, r1, r2, d1⟩ := ex_perfect H hs0
  have hn := isSpaceM_n hx
  have hq := isSpaceM_q hx
  have hp := isSpaceM_prod hx
  have hp1 := prodM_pos (isSpaceM_szs hx)
  have hN := d_spec_l01N x (by omega) hq
  obtain ⟨a, s2, hs2, a1, a2, d2⟩ := ex_nxt H hs1 (q := 2) (by omega)
  -- the first half: perhaps shifted
  obtain ⟨u, s3, hs3, u1, u2, d3⟩ := ex_nxt H hs2 (q := prodM x) (by omega)
  have hsh := d_spec_l01Shifted x c0 hx (by omega) hc0 u u1 (by omega)
  have hsl : (shM x c0 u).length ≤ c0.length := Nat.le_trans (setI_len _) (by simp)
  have hsi : inC x (shM x c0 u) := shM_in hx _ _
  by_cases ha : a = 0
  · subst ha
    obtain ⟨v, s4, hs4, v1, v2, d4⟩ := ex_nxt H hs3 (q := 8) (by omega)
    by_cases h0 : v = 0
    · subst h0
      obtain ⟨r, s5, hs5, hr, d5⟩ := ex_near H hs4 (most := 8) (by omega) (by omega)
      obtain ⟨X, o, s6, hs6, hX, d6⟩ := ex_bad H hs5 hx
      obtain ⟨c, s7, hs7, hcl, hci, d7⟩ := ex_badCode H hs6 hx (c := shM x c0 u) (by omega) (inC_in64 hx hsi)
      refine ⟨X, o, c, r, hX, hcl, hci, hr, den_go [] l_spec_l06With ?_⟩
      repeat' (first | simp -implicitDefEqProofs (maxSteps := 1000000) (disch := (first | omega | (simp only [go_sem] <;> omega) | fail)) only [go_sem, ints, bools, mat, c_spec_l06With, srcR] | ((first | apply goIf_b | apply goG_b | apply goTG_b | apply goOG_b) <;> intro h <;> ((try simp only [hnq] at h); (try simp only [h]); (try simp only [hnr] at h)) <;> (try (exfalso; omega))))
      have yc := d0; first | refine goC_call [.r] yc ?_ | refine goOC_call [.r] yc ?_
      repeat' (first | simp -implicitDefEqProofs (maxSteps := 1000000) (disch := (first | omega | (simp only [go_sem] <;> omega) | fail)) only [go_sem, ints, bools, mat] | ((first | apply goIf_b | apply goG_b | apply goTG_b | apply goOG_b) <;> intro h <;> ((try simp only [hnq] at h); (try simp only [h]); (try simp only [hnr] at h)) <;> (try (exfalso; omega))))
      have yc := d1; first | refine goC_call [.bm] yc ?_ | refine goOC_call [.bm] yc ?_
      repeat' (first | simp -implicitDefEqProofs (maxSteps := 1000000) (disch := (first | omega | (simp only [go_sem] <;> omega) | fail)) only [go_sem, ints, bools, mat] | ((first | apply goIf_b | apply goG_b | apply goTG_b | apply goOG_b) <;> intro h <;> ((try simp only [hnq] at h); (try simp only [h]); (try simp only [hnr] at h)) <;> (try (exfalso; omega))))
      have yc := d2; first | refine goC_call [.bm, .r] yc ?_ | refine goOC_call [.bm, .r] yc ?_
      repeat' (first | simp -implicitDefEqProofs (maxSteps := 1000000) (disch := (first | omega | (simp only [go_sem] <;> omega) | fail)) only [go_sem, ints, bools, mat] | ((first | apply goIf_b | apply goG_b | apply goTG_b | apply goOG_b) <;> intro h <;> ((try simp only [hnq] at h); (try simp only [h]); (try simp only [hnr] at h)) <;> (try (exfalso; omega))))
      have yc := hN; first | refine goC_call [.r] yc ?_ | refine goOC_call [.r] yc ?_
      repeat' (first | simp -implicitDefEqProofs (maxSteps := 1000000) (disch := (first | omega | (simp only [go_sem] <;> omega) | fail)) only [go_sem, ints, bools, mat] | ((first | apply goIf_b | apply goG_b | apply goTG_b | apply goOG_b) <;> intro h <;> ((try simp only [hnq] at h); (try simp only [h]); (try simp only [hnr] at h)) <;> (try (exfalso; omega))))
      have yc := d3; first | refine goC_call [.bm, .r] yc ?_ | refine goOC_call [.bm, .r] yc ?_
      repeat' (first | simp -implicitDefEqProofs (maxSteps := 1000000) (disch := (first | omega | (simp only [go_sem] <;> omega) | fail)) only [go_sem, ints, bools, mat] | ((first | apply goIf_b | apply goG_b | apply goTG_b | apply goOG_b) <;> intro h <;> ((try simp only [hnq] at h); (try simp only [h]); (try simp only [hnr] at h)) <;> (try (exfalso; omega))))
      have yc := hsh; first | refine goC_call [.r, .r, .r] yc ?_ | refine goOC_call [.r, .r, .r] yc ?_
      repeat' (first | simp -implicitDefEqProofs (maxSteps := 1000000) (disch := (first | omega | (simp only [go_sem] <;> omega) | fail)) only [go_sem, ints, bools, mat] | ((first | apply goIf_b | apply goG_b | apply goTG_b | apply goOG_b) <;> intro h <;> ((try simp only [hnq] at h); (try simp only [h]); (try simp only [hnr] at h)) <;> (try (exfalso; omega))))
      have yc := d4; first | refine goC_call [.bm, .r] yc ?_ | refine goOC_call [.bm, .r] yc ?_
      repeat' (first | simp -implicitDefEqProofs (maxSteps := 1000000) (disch := (first | omega | (simp only [go_sem] <;> omega) | fail)) only [go_sem, ints, bools, mat] | ((first | apply goIf_b | apply goG_b | apply goTG_b | apply goOG_b) <;> intro h <;> ((try simp only [hnq] at h); (try simp only [h]); (try simp only [hnr] at h)) <;> (try (exfalso; omega))))
      have yc := d5; first | refine goC_call [.bm, .r] yc ?_ | refine goOC_call [.bm, .r] yc ?_
      repeat' (first | simp -implicitDefEqProofs (maxSteps := 1000000) (disch := (first | omega | (simp only [go_sem] <;> omega) | fail)) only [go_sem, ints, bools, mat] | ((first | apply goIf_b | apply goG_b | apply goTG_b | apply goOG_b) <;> intro h <;> ((try simp only [hnq] at h); (try simp only [h]); (try simp only [hnr] at h)) <;> (try (exfalso; omega))))
      have yc := d6; first | refine goC_call [.bm, .r] yc ?_ | refine goOC_call [.bm, .r] yc ?_
      repeat' (first | simp -implicitDefEqProofs (maxSteps := 1000000) (disch := (first | omega | (simp only [go_sem] <;> omega) | fail)) only [go_sem, ints, bools, mat] | ((first | apply goIf_b | apply goG_b | apply goTG_b | apply goOG_b) <;> intro h <;> ((try simp only [hnq] at h); (try simp only [h]); (try simp only [hnr] at h)) <;> (try (exfalso; omega))))
      have yc := d7; first | refine goC_call [.bm, .r, .f] yc ?_ | refine goOC_call [.bm, .r, .f] yc ?_
      exact go_e0
    · by_cases h1 : v = 1
      · subst h1
        obtain ⟨y, s5, hs5, hy, d5⟩ := ex_small H hs4
        have hd5 := d5.le .frzA
        obtain ⟨c1, s6, hs6, hl1, hc1, d5'⟩ := ex_drawCode H hs5 hy
        obtain ⟨X, o, s7, hs7, hX, d6⟩ := ex_bad H hs6 hy
        obtain ⟨c, s8, hs8, hcl, hci, d7⟩ := ex_badCode H hs7 hy (c := c1) (by omega) (inC_in64 hy hc1)
        refine ⟨X, o, c, r0, hX, hcl, hci, by unfold in64; omega, den_go [] l_spec_l06With ?_⟩
        repeat' (first | simp -implicitDefEqProofs (maxSteps := 1000000) (disch := (first | omega | (simp only [go_sem] <;> omega) | fail)) only [go_sem, ints, bools, mat, c_spec_l06With, srcR] | ((first | apply goIf_b | apply goG_b | apply goTG_b | apply goOG_b) <;> intro h <;> ((try simp only [hnq] at h); (try simp only [h]); (try simp only [hnr] at h)) <;> (try (exfalso; omega))))
        have yc := d0; first | refine goC_call [.r] yc ?_ | refine goOC_call [.r] yc ?_
        repeat' (first | simp -implicitDefEqProofs (maxSteps := 1000000) (disch := (first | omega | (simp only [go_sem] <;> omega) | fail)) only [go_sem, ints, bools, mat] | ((first | apply goIf_b | apply goG_b | apply goTG_b | apply goOG_b) <;> intro h <;> ((try simp only [hnq] at h); (try simp only [h]); (try simp only [hnr] at h)) <;> (try (exfalso; omega))))
        have yc := d1; first | refine goC_call [.bm] yc ?_ | refine goOC_call [.bm] yc ?_
        repeat' (first | simp -implicitDefEqProofs (maxSteps := 1000000) (disch := (first | omega | (simp only [go_sem] <;> omega) | fail)) only [go_sem, ints, bools, mat] | ((first | apply goIf_b | apply goG_b | apply goTG_b | apply goOG_b) <;> intro h <;> ((try simp only [hnq] at h); (try simp only [h]); (try simp only [hnr] at h)) <;> (try (exfalso; omega))))
        have yc := d2; first | refine goC_call [.bm, .r] yc ?_ | refine goOC_call [.bm, .r] yc ?_
        repeat' (first | simp -implicitDefEqProofs (maxSteps := 1000000) (disch := (first | omega | (simp only [go_sem] <;> omega) | fail)) only [go_sem, ints, bools, mat] | ((first | apply goIf_b | apply goG_b | apply goTG_b | apply goOG_b) <;> intro h <;> ((try simp only [hnq] at h); (try simp only [h]); (try simp only [hnr] at h)) <;> (try (exfalso; omega))))
        have yc := hN; first | refine goC_call [.r] yc ?_ | refine goOC_call [.r] yc ?_
        repeat' (first | simp -implicitDefEqProofs (maxSteps := 1000000) (disch := (first | omega | (simp only [go_sem] <;> omega) | fail)) only [go_sem, ints, bools, mat] | ((first | apply goIf_b | apply goG_b | apply goTG_b | apply goOG_b) <;> intro h <;> ((try simp only [hnq] at h); (try simp only [h]); (try simp only [hnr] at h)) <;> (try (exfalso; omega))))
        have yc := d3; first | refine goC_call [.bm, .r] yc ?_ | refine goOC_call [.bm, .r] yc ?_
        repeat' (first | simp -implicitDefEqProofs (maxSteps := 1000000) (disch := (first | omega | (simp only [go_sem] <;> omega) | fail)) only [go_sem, ints, bools, mat] | ((first | apply goIf_b | apply goG_b | apply goTG_b | apply goOG_b) <;> intro h <;> ((try simp only [hnq] at h); (try simp only [h]); (try simp only [hnr] at h)) <;> (try (exfalso; omega))))
        have yc := hsh; first | refine goC_call [.r, .r, .r] yc ?_ | refine goOC_call [.r, .r, .r] yc ?_
        repeat' (first | simp -implicitDefEqProofs (maxSteps := 1000000) (disch := (first | omega | (simp only [go_sem] <;> omega) | fail)) only [go_sem, ints, bools, mat] | ((first | apply goIf_b | apply goG_b | apply goTG_b | apply goOG_b) <;> intro h <;> ((try simp only [hnq] at h); (try simp only [h]); (try simp only [hnr] at h)) <;> (try (exfalso; omega))))
        have yc := d4; first | refine goC_call [.bm, .r] yc ?_ | refine goOC_call [.bm, .r] yc ?_
        repeat' (first | simp -implicitDefEqProofs (maxSteps := 1000000) (disch := (first | omega | (simp only [go_sem] <;> omega) | fail)) only [go_sem, ints, bools, mat] | ((first | apply goIf_b | apply goG_b | apply goTG_b | apply goOG_b) <;> intro h <;> ((try simp only [hnq] at h); (try simp only [h]); (try simp only [hnr] at h)) <;> (try (exfalso; omega))))
        have yc := hd5; first | refine goC_call [.bm] yc ?_ | refine goOC_call [.bm] yc ?_
        repeat' (first | simp -implicitDefEqProofs (maxSteps := 1000000) (disch := (first | omega | (simp only [go_sem] <;> omega) | fail)) only [go_sem, ints, bools, mat] | ((first | apply goIf_b | apply goG_b | apply goTG_b | apply goOG_b) <;> intro h <;> ((try simp only [hnq] at h); (try simp only [h]); (try simp only [hnr] at h)) <;> (try (exfalso; omega))))
        have yc := d5'; first | refine goC_call [.bm, .r] yc ?_ | refine goOC_call [.bm, .r] yc ?_
        repeat' (first | simp -implicitDefEqProofs (maxSteps := 1000000) (disch := (first | omega | (simp only [go_sem] <;> omega) | fail)) only [go_sem, ints, bools, mat] | ((first | apply goIf_b | apply goG_b | apply goTG_b | apply goOG_b) <;> intro h <;> ((try simp only [hnq] at h); (try simp only [h]); (try simp only [hnr] at h)) <;> (try (exfalso; omega))))
        have yc := d6; first | refine goC_call [.bm, .r] yc ?_ | refine goOC_call [.bm, .r] yc ?_
        repeat' (first | simp -implicitDefEqProofs (maxSteps := 1000000) (disch := (first | omega | (simp only [go_sem] <;> omega) | fail)) only [go_sem, ints, bools, mat] | ((first | apply goIf_b | apply goG_b | apply goTG_b | apply goOG_b) <;> intro h <;> ((try simp only [hnq] at h); (try simp only [h]); (try simp only [hnr] at h)) <;> (try (exfalso; omega))))
        have yc := d7; first | refine goC_call [.bm, .r, .f] yc ?_ | refine goOC_call [.bm, .r, .f] yc ?_
        exact go_e0
      · obtain ⟨X, o, s5, hs5, hX, d6⟩ := ex_bad H hs4 hx
        obtain ⟨c, s6, hs6, hcl, hci, d7⟩ := ex_badCode H hs5 hx (c := shM x c0 u) (by omega) (inC_in64 hx hsi)
        refine ⟨X, o, c, r0, hX, hcl, hci, by unfold in64; omega, den_go [] l_spec_l06With ?_⟩
        repeat' (first | simp -implicitDefEqProofs (maxSteps := 1000000) (disch := (first | omega | (simp only [go_sem] <;> omega) | fail)) only [go_sem, ints, bools, mat, c_spec_l06With, srcR] | ((first | apply goIf_b | apply goG_b | apply goTG_b | apply goOG_b) <;> intro h <;> ((try simp only [hnq] at h); (try simp only [h]); (try simp only [hnr] at h)) <;> (try (exfalso; omega))))
        have yc := d0; first | refine goC_call [.r] yc ?_ | refine goOC_call [.r] yc ?_
        repeat' (first | simp -implicitDefEqProofs (maxSteps := 1000000) (disch := (first | omega | (simp only [go_sem] <;> omega) | fail)) only [go_sem, ints, bools, mat] | ((first | apply goIf_b | apply goG_b | apply goTG_b | apply goOG_b) <;> intro h <;> ((try simp only [hnq] at h); (try simp only [h]); (try simp only [hnr] at h)) <;> (try (exfalso; omega))))
        have yc := d1; first | refine goC_call [.bm] yc ?_ | refine goOC_call [.bm] yc ?_
        repeat' (first | simp -implicitDefEqProofs (maxSteps := 1000000) (disch := (first | omega | (simp only [go_sem] <;> omega) | fail)) only [go_sem, ints, bools, mat] | ((first | apply goIf_b | apply goG_b | apply goTG_b | apply goOG_b) <;> intro h <;> ((try simp only [hnq] at h); (try simp only [h]); (try simp only [hnr] at h)) <;> (try (exfalso; omega))))
        have yc := d2; first | refine goC_call [.bm, .r] yc ?_ | refine goOC_call [.bm, .r] yc ?_
        repeat' (first | simp -implicitDefEqProofs (maxSteps := 1000000) (disch := (first | omega | (simp only [go_sem] <;> omega) | fail)) only [go_sem, ints, bools, mat] | ((first | apply goIf_b | apply goG_b | apply goTG_b | apply goOG_b) <;> intro h <;> ((try simp only [hnq] at h); (try simp only [h]); (try simp only [hnr] at h)) <;> (try (exfalso; omega))))
        have yc := hN; first | refine goC_call [.r] yc ?_ | refine goOC_call [.r] yc ?_
        repeat' (first | simp -implicitDefEqProofs (maxSteps := 1000000) (disch := (first | omega | (simp only [go_sem] <;> omega) | fail)) only [go_sem, ints, bools, mat] | ((first | apply goIf_b | apply goG_b | apply goTG_b | apply goOG_b) <;> intro h <;> ((try simp only [hnq] at h); (try simp only [h]); (try simp only [hnr] at h)) <;> (try (exfalso; omega))))
        have yc := d3; first | refine goC_call [.bm, .r] yc ?_ | refine goOC_call [.bm, .r] yc ?_
        repeat' (first | simp -implicitDefEqProofs (maxSteps := 1000000) (disch := (first | omega | (simp only [go_sem] <;> omega) | fail)) only [go_sem, ints, bools, mat] | ((first | apply goIf_b | apply goG_b | apply goTG_b | apply goOG_b) <;> intro h <;> ((try simp only [hnq] at h); (try simp only [h]); (try simp only [hnr] at h)) <;> (try (exfalso; omega))))
        have yc := hsh; first | refine goC_call [.r, .r, .r] yc ?_ | refine goOC_call [.r, .r, .r] yc ?_
        repeat' (first | simp -implicitDefEqProofs (maxSteps := 1000000) (disch := (first | omega | (simp only [go_sem] <;> omega) | fail)) only [go_sem, ints, bools, mat] | ((first | apply goIf_b | apply goG_b | apply goTG_b | apply goOG_b) <;> intro h <;> ((try simp only [hnq] at h); (try simp only [h]); (try simp only [hnr] at h)) <;> (try (exfalso; omega))))
        have yc := d4; first | refine goC_call [.bm, .r] yc ?_ | refine goOC_call [.bm, .r] yc ?_
        repeat' (first | simp -implicitDefEqProofs (maxSteps := 1000000) (disch := (first | omega | (simp only [go_sem] <;> omega) | fail)) only [go_sem, ints, bools, mat] | ((first | apply goIf_b | apply goG_b | apply goTG_b | apply goOG_b) <;> intro h <;> ((try simp only [hnq] at h); (try simp only [h]); (try simp only [hnr] at h)) <;> (try (exfalso; omega))))
        have yc := d6; first | refine goC_call [.bm, .r] yc ?_ | refine goOC_call [.bm, .r] yc ?_
        repeat' (first | simp -implicitDefEqProofs (maxSteps := 1000000) (disch := (first | omega | (simp only [go_sem] <;> omega) | fail)) only [go_sem, ints, bools, mat] | ((first | apply goIf_b | apply goG_b | apply goTG_b | apply goOG_b) <;> intro h <;> ((try simp only [hnq] at h); (try simp only [h]); (try simp only [hnr] at h)) <;> (try (exfalso; omega))))
        have yc := d7; first | refine goC_call [.bm, .r, .f] yc ?_ | refine goOC_call [.bm, .r, .f] yc ?_
        exact go_e0
  · obtain ⟨v, s4, hs4, v1, v2, d4⟩ := ex_nxt H hs2 (q := 8) (by omega)
    by_cases h0 : v = 0
    · subst h0
      obtain ⟨r, s5, hs5, hr, d5⟩ := ex_near H hs4 (most := 8) (by omega) (by omega)
      obtain ⟨X, o, s6, hs6, hX, d6⟩ := ex_bad H hs5 hx
      obtain ⟨c, s7, hs7, hcl, hci, d7⟩ := ex_badCode H hs6 hx (c := c0) (by omega) (inC_in64 hx hc0)
      refine ⟨X, o, c, r, hX, hcl, hci, hr, den_go [] l_spec_l06With ?_⟩
      repeat' (first | simp -implicitDefEqProofs (maxSteps := 1000000) (disch := (first | omega | (simp only [go_sem] <;> omega) | fail)) only [go_sem, ints, bools, mat, c_spec_l06With, srcR] | ((first | apply goIf_b | apply goG_b | apply goTG_b | apply goOG_b) <;> intro h <;> ((try simp only [hnq] at h); (try simp only [h]); (try simp only [hnr] at h)) <;> (try (exfalso; omega))))
      have yc := d0; first | refine goC_call [.r] yc ?_ | refine goOC_call [.r] yc ?_
      repeat' (first | simp -implicitDefEqProofs (maxSteps := 1000000) (disch := (first | omega | (simp only [go_sem] <;> omega) | fail)) only [go_sem, ints, bools, mat] | ((first | apply goIf_b | apply goG_b | apply goTG_b | apply goOG_b) <;> intro h <;> ((try simp only [hnq] at h); (try simp only [h]); (try simp only [hnr] at h)) <;> (try (exfalso; omega))))
      have yc := d1; first | refine goC_call [.bm] yc ?_ | refine goOC_call [.bm] yc ?_
      repeat' (first | simp -implicitDefEqProofs (maxSteps := 1000000) (disch := (first | omega | (simp only [go_sem] <;> omega) | fail)) only [go_sem, ints, bools, mat] | ((first | apply goIf_b | apply goG_b | apply goTG_b | apply goOG_b) <;> intro h <;> ((try simp only [hnq] at h); (try simp only [h]); (try simp only [hnr] at h)) <;> (try (exfalso; omega))))
      have yc := d2; first | refine goC_call [.bm, .r] yc ?_ | refine goOC_call [.bm, .r] yc ?_
      repeat' (first | simp -implicitDefEqProofs (maxSteps := 1000000) (disch := (first | omega | (simp only [go_sem] <;> omega) | fail)) only [go_sem, ints, bools, mat] | ((first | apply goIf_b | apply goG_b | apply goTG_b | apply goOG_b) <;> intro h <;> ((try simp only [hnq] at h); (try simp only [h]); (try simp only [hnr] at h)) <;> (try (exfalso; omega))))
      have yc := d4; first | refine goC_call [.bm, .r] yc ?_ | refine goOC_call [.bm, .r] yc ?_
      repeat' (first | simp -implicitDefEqProofs (maxSteps := 1000000) (disch := (first | omega | (simp only [go_sem] <;> omega) | fail)) only [go_sem, ints, bools, mat] | ((first | apply goIf_b | apply goG_b | apply goTG_b | apply goOG_b) <;> intro h <;> ((try simp only [hnq] at h); (try simp only [h]); (try simp only [hnr] at h)) <;> (try (exfalso; omega))))
      have yc := d5; first | refine goC_call [.bm, .r] yc ?_ | refine goOC_call [.bm, .r] yc ?_
      repeat' (first | simp -implicitDefEqProofs (maxSteps := 1000000) (disch := (first | omega | (simp only [go_sem] <;> omega) | fail)) only [go_sem, ints, bools, mat] | ((first | apply goIf_b | apply goG_b | apply goTG_b | apply goOG_b) <;> intro h <;> ((try simp only [hnq] at h); (try simp only [h]); (try simp only [hnr] at h)) <;> (try (exfalso; omega))))
      have yc := d6; first | refine goC_call [.bm, .r] yc ?_ | refine goOC_call [.bm, .r] yc ?_
      repeat' (first | simp -implicitDefEqProofs (maxSteps := 1000000) (disch := (first | omega | (simp only [go_sem] <;> omega) | fail)) only [go_sem, ints, bools, mat] | ((first | apply goIf_b | apply goG_b | apply goTG_b | apply goOG_b) <;> intro h <;> ((try simp only [hnq] at h); (try simp only [h]); (try simp only [hnr] at h)) <;> (try (exfalso; omega))))
      have yc := d7; first | refine goC_call [.bm, .r, .f] yc ?_ | refine goOC_call [.bm, .r, .f] yc ?_
      exact go_e0
    · by_cases h1 : v = 1
      · subst h1
        obtain ⟨y, s5, hs5, hy, d5⟩ := ex_small H hs4
        have hd5 := d5.le .frzA
        obtain ⟨c1, s6, hs6, hl1, hc1, d5'⟩ := ex_drawCode H hs5 hy
        obtain ⟨X, o, s7, hs7, hX, d6⟩ := ex_bad H hs6 hy
        obtain ⟨c, s8, hs8, hcl, hci, d7⟩ := ex_badCode H hs7 hy (c := c1) (by omega) (inC_in64 hy hc1)
        refine ⟨X, o, c, r0, hX, hcl, hci, by unfold in64; omega, den_go [] l_spec_l06With ?_⟩
        repeat' (first | simp -implicitDefEqProofs (maxSteps := 1000000) (disch := (first | omega | (simp only [go_sem] <;> omega) | fail)) only [go_sem, ints, bools, mat, c_spec_l06With, srcR] | ((first | apply goIf_b | apply goG_b | apply goTG_b | apply goOG_b) <;> intro h <;> ((try simp only [hnq] at h); (try simp only [h]); (try simp only [hnr] at h)) <;> (try (exfalso; omega))))
        have yc := d0; first | refine goC_call [.r] yc ?_ | refine goOC_call [.r] yc ?_
        repeat' (first | simp -implicitDefEqProofs (maxSteps := 1000000) (disch := (first | omega | (simp only [go_sem] <;> omega) | fail)) only [go_sem, ints, bools, mat] | ((first | apply goIf_b | apply goG_b | apply goTG_b | apply goOG_b) <;> intro h <;> ((try simp only [hnq] at h); (try simp only [h]); (try simp only [hnr] at h)) <;> (try (exfalso; omega))))
        have yc := d1; first | refine goC_call [.bm] yc ?_ | refine goOC_call [.bm] yc ?_
        repeat' (first | simp -implicitDefEqProofs (maxSteps := 1000000) (disch := (first | omega | (simp only [go_sem] <;> omega) | fail)) only [go_sem, ints, bools, mat] | ((first | apply goIf_b | apply goG_b | apply goTG_b | apply goOG_b) <;> intro h <;> ((try simp only [hnq] at h); (try simp only [h]); (try simp only [hnr] at h)) <;> (try (exfalso; omega))))
        have yc := d2; first | refine goC_call [.bm, .r] yc ?_ | refine goOC_call [.bm, .r] yc ?_
        repeat' (first | simp -implicitDefEqProofs (maxSteps := 1000000) (disch := (first | omega | (simp only [go_sem] <;> omega) | fail)) only [go_sem, ints, bools, mat] | ((first | apply goIf_b | apply goG_b | apply goTG_b | apply goOG_b) <;> intro h <;> ((try simp only [hnq] at h); (try simp only [h]); (try simp only [hnr] at h)) <;> (try (exfalso; omega))))
        have yc := d4; first | refine goC_call [.bm, .r] yc ?_ | refine goOC_call [.bm, .r] yc ?_
        repeat' (first | simp -implicitDefEqProofs (maxSteps := 1000000) (disch := (first | omega | (simp only [go_sem] <;> omega) | fail)) only [go_sem, ints, bools, mat] | ((first | apply goIf_b | apply goG_b | apply goTG_b | apply goOG_b) <;> intro h <;> ((try simp only [hnq] at h); (try simp only [h]); (try simp only [hnr] at h)) <;> (try (exfalso; omega))))
        have yc := hd5; first | refine goC_call [.bm] yc ?_ | refine goOC_call [.bm] yc ?_
        repeat' (first | simp -implicitDefEqProofs (maxSteps := 1000000) (disch := (first | omega | (simp only [go_sem] <;> omega) | fail)) only [go_sem, ints, bools, mat] | ((first | apply goIf_b | apply goG_b | apply goTG_b | apply goOG_b) <;> intro h <;> ((try simp only [hnq] at h); (try simp only [h]); (try simp only [hnr] at h)) <;> (try (exfalso; omega))))
        have yc := d5'; first | refine goC_call [.bm, .r] yc ?_ | refine goOC_call [.bm, .r] yc ?_
        repeat' (first | simp -implicitDefEqProofs (maxSteps := 1000000) (disch := (first | omega | (simp only [go_sem] <;> omega) | fail)) only [go_sem, ints, bools, mat] | ((first | apply goIf_b | apply goG_b | apply goTG_b | apply goOG_b) <;> intro h <;> ((try simp only [hnq] at h); (try simp only [h]); (try simp only [hnr] at h)) <;> (try (exfalso; omega))))
        have yc := d6; first | refine goC_call [.bm, .r] yc ?_ | refine goOC_call [.bm, .r] yc ?_
        repeat' (first | simp -implicitDefEqProofs (maxSteps := 1000000) (disch := (first | omega | (simp only [go_sem] <;> omega) | fail)) only [go_sem, ints, bools, mat] | ((first | apply goIf_b | apply goG_b | apply goTG_b | apply goOG_b) <;> intro h <;> ((try simp only [hnq] at h); (try simp only [h]); (try simp only [hnr] at h)) <;> (try (exfalso; omega))))
        have yc := d7; first | refine goC_call [.bm, .r, .f] yc ?_ | refine goOC_call [.bm, .r, .f] yc ?_
        exact go_e0
      · obtain ⟨X, o, s5, hs5, hX, d6⟩ := ex_bad H hs4 hx
        obtain ⟨c, s6, hs6, hcl, hci, d7⟩ := ex_badCode H hs5 hx (c := c0) (by omega) (inC_in64 hx hc0)
        refine ⟨X, o, c, r0, hX, hcl, hci, by unfold in64; omega, den_go [] l_spec_l06With ?_⟩
        repeat' (first | simp -implicitDefEqProofs (maxSteps := 1000000) (disch := (first | omega | (simp only [go_sem] <;> omega) | fail)) only [go_sem, ints, bools, mat, c_spec_l06With, srcR] | ((first | apply goIf_b | apply goG_b | apply goTG_b | apply goOG_b) <;> intro h <;> ((try simp only [hnq] at h); (try simp only [h]); (try simp only [hnr] at h)) <;> (try (exfalso; omega))))
        have yc := d0; first | refine goC_call [.r] yc ?_ | refine goOC_call [.r] yc ?_
        repeat' (first | simp -implicitDefEqProofs (maxSteps := 1000000) (disch := (first | omega | (simp only [go_sem] <;> omega) | fail)) only [go_sem, ints, bools, mat] | ((first | apply goIf_b | apply goG_b | apply goTG_b | apply goOG_b) <;> intro h <;> ((try simp only [hnq] at h); (try simp only [h]); (try simp only [hnr] at h)) <;> (try (exfalso; omega))))
        have yc := d1; first | refine goC_call [.bm] yc ?_ | refine goOC_call [.bm] yc ?_
        repeat' (first | simp -implicitDefEqProofs (maxSteps := 1000000) (disch := (first | omega | (simp only [go_sem] <;> omega) | fail)) only [go_sem, ints, bools, mat] | ((first | apply goIf_b | apply goG_b | apply goTG_b | apply goOG_b) <;> intro h <;> ((try simp only [hnq] at h); (try simp only [h]); (try simp only [hnr] at h)) <;> (try (exfalso; omega))))
        have yc := d2; first | refine goC_call [.bm, .r] yc ?_ | refine goOC_call [.bm, .r] yc ?_
        repeat' (first | simp -implicitDefEqProofs (maxSteps := 1000000) (disch := (first | omega | (simp only [go_sem] <;> omega) | fail)) only [go_sem, ints, bools, mat] | ((first | apply goIf_b | apply goG_b | apply goTG_b | apply goOG_b) <;> intro h <;> ((try simp only [hnq] at h); (try simp only [h]); (try simp only [hnr] at h)) <;> (try (exfalso; omega))))
        have yc := d4; first | refine goC_call [.bm, .r] yc ?_ | refine goOC_call [.bm, .r] yc ?_
        repeat' (first | simp -implicitDefEqProofs (maxSteps := 1000000) (disch := (first | omega | (simp only [go_sem] <;> omega) | fail)) only [go_sem, ints, bools, mat] | ((first | apply goIf_b | apply goG_b | apply goTG_b | apply goOG_b) <;> intro h <;> ((try simp only [hnq] at h); (try simp only [h]); (try simp only [hnr] at h)) <;> (try (exfalso; omega))))
        have yc := d6; first | refine goC_call [.bm, .r] yc ?_ | refine goOC_call [.bm, .r] yc ?_
        repeat' (first | simp -implicitDefEqProofs (maxSteps := 1000000) (disch := (first | omega | (simp only [go_sem] <;> omega) | fail)) only [go_sem, ints, bools, mat] | ((first | apply goIf_b | apply goG_b | apply goTG_b | apply goOG_b) <;> intro h <;> ((try simp only [hnq] at h); (try simp only [h]); (try simp only [hnr] at h)) <;> (try (exfalso; omega))))
        have yc := d7; first | refine goC_call [.bm, .r, .f] yc ?_ | refine goOC_call [.bm, .r, .f] yc ?_
        exact go_e0
@[go_sem] theorem leaA_is (k : Nat) (x : AV) (v : Value) (s : Sto) : leaA (k + 1) (.is x v) s = leaA k x s := rfl
@[go_sem] theorem leaA_iref (k : Nat) (cs : List D) (c : Nat) (s : Sto) : leaA (k + 1) (.iref cs c) s = (.any, s) := rfl
@[go_sem] theorem leaA_fn (k : Nat) (f : FuncId) (xs : List AV) (s : Sto) : leaA (k + 1) (.fn f xs) s = (.any, s) := rfl
def leaBm (p : List R × Sto) : R × Sto := (.boxm p.1, p.2)
@[go_sem] theorem leaBm_ok (ls : List R) (s : Sto) : leaBm (ls, s) = (.boxm ls, s) := rfl
@[go_sem] theorem leaB_mix (cs : List AV) (k i : Nat) (s : Sto) : leaB (some (some (.mix cs))) k i s = leaBm (leaL (leaA k) cs (s.set i none)) := rfl
theorem leaS_pre {i n : Nat} {es : List D} {s : Sto} (h : n ≤ es.length) : leaS (some (some (.dat 1 es))) i 0 n 1 s = (.own 1 (es.take n), s.set i none) := by
  simp [leaS, h, Nat.mod_one]
theorem ballM_those (l : List Int) (w r : Int) : thoseM l (fun a => decide (farM (digM l w) a ≤ r)) = ballM l w r := by
  unfold thoseM ballM
  congr 1; funext u
  rw [← distM_comm l w u, distM]
theorem d_impl_ball_1 (a b : List Int) (r : Int) (ha : a.length = b.length) (h8 : a.length ≤ 8) : Den PA f_impl_ball_1 [.d (dig a), .box ((pad8 b).map dy), .box [di r]] [.any, .any, .any] (.d (db (decide (farM b a ≤ r)))) := by
  refine den_go [] l_impl_ball_1 ?_
  have y1 := kc [.r, .r] (d_impl_far b a ha.symm (by omega)); exact go_e0
theorem d_impl_ball (l : List Int) (hs : isSpaceM l = true) (w r : Int) (hw : 0 ≤ w) (hw2 : w < 1000000000000) : Den PA f_impl_ball [.d (.agg [ints l]), .d (di w), .d (di r)] [.any, .any, .any] (.own 1 ((ballM l w r).map di)) := by
  have hn := isSpaceM_n hs
  have e := digM_len l w
  refine den_go [] l_impl_ball ?_
  repeat' (first | simp -implicitDefEqProofs (maxSteps := 1000000) (disch := (first | omega | (simp only [go_sem] <;> omega) | fail)) only [go_sem, ints, bools, mat, c_impl_ball] | ((first | apply goIf_b | apply goG_b | apply goTG_b | apply goOG_b) <;> intro h <;> ((try simp only [hnq] at h); (try simp only [h]); (try simp only [hnr] at h))))
  have yc := d_impl_digitsOf l hs w hw hw2; first | refine goC_call [.r, .r] yc ?_ | refine goOC_call [.r, .r] yc ?_
  repeat' (first | simp -implicitDefEqProofs (maxSteps := 1000000) (disch := (first | omega | (simp only [go_sem] <;> omega) | fail)) only [go_sem, ints, bools, mat, dig] | ((first | apply goIf_b | apply goG_b | apply goTG_b | apply goOG_b) <;> intro h <;> ((try simp only [hnq] at h); (try simp only [h]); (try simp only [hnr] at h))))
  have yc := d_impl_those l hs (fun a => decide (farM (digM l w) a ≤ r)) _ (fun u => fnD_mk hs (fun a => decide (farM (digM l w) a ≤ r)) u); first | refine goC_call [.r, .g (fnD l.length fun a => decide (farM (digM l w) a ≤ r))] yc ?_ | refine goOC_call [.r, .g (fnD l.length fun a => decide (farM (digM l w) a ≤ r))] yc ?_
  repeat' (first | simp -implicitDefEqProofs (maxSteps := 1000000) (disch := (first | omega | (simp only [go_sem] <;> omega) | fail)) only [go_sem, ints, bools, mat] | ((first | apply goIf_b | apply goG_b | apply goTG_b | apply goOG_b) <;> intro h <;> ((try simp only [hnq] at h); (try simp only [h]); (try simp only [hnr] at h))))
  refine chk_intro (fnOK_mk (d_impl_ball_1 [] [] 0 rfl (by simp)).1 [(pad8 (digM l w)).map dy, [di r]] rfl fun ds v hgg => ?_) ?_
  · obtain ⟨a, ha, _, rfl, rfl⟩ := hgg
    exact ⟨_, d_impl_ball_1 a (digM l w) r (by rw [ha, digM_len]) (by omega)⟩
  rw [ballM_those]
  repeat' (first | simp -implicitDefEqProofs (maxSteps := 1000000) (disch := (first | omega | (simp only [go_sem] <;> omega) | fail)) only [go_sem, ints, bools, mat] | ((first | apply goIf_b | apply goG_b | apply goTG_b | apply goOG_b) <;> intro h <;> ((try simp only [hnq] at h); (try simp only [h]); (try simp only [hnr] at h))))
def cf : List Int → Nat → Int
  | [], k => if k = 0 then 1 else 0
  | q :: r, k => mulB (q - 1) (cf r) k
theorem flat_cnt (n a : Nat) (A B : Int) (g : Nat → List (List Int)) (h : ∀ d, d < n → ((g d).length : Int) = if d = a then A else B) :
    ((((List.range n).flatMap g).length : Nat) : Int) = n * B + if a < n then A - B else 0 := by
  induction n with
  | zero => simp
  | succ n ih =>
    have hs := h n (by omega)
    rw [List.range_succ, List.flatMap_append, List.length_append, Int.natCast_add, ih fun d hd => h d (by omega)]
    simp only [List.flatMap_cons, List.flatMap_nil, List.append_nil]
    rw [hs]
    have e : ((n + 1 : Nat) : Int) * B = n * B + B := by rw [Int.natCast_add, Int.add_mul]; simp
    rw [e]
    rcases Nat.lt_trichotomy n a with q | q | q
    · rw [if_neg (show ¬ n = a by omega), if_neg (show ¬ a < n by omega), if_neg (show ¬ a < n + 1 by omega)]; omega
    · rw [if_pos q, if_neg (show ¬ a < n by omega), if_pos (show a < n + 1 by omega)]; omega
    · rw [if_neg (show ¬ n = a by omega), if_pos (show a < n by omega), if_pos (show a < n + 1 by omega)]; omega
theorem cf_part (r a : List Int) (d a0 : Int) (k : Nat) : ((((vecs r).map fun v => d :: v).filter fun v => farM v (a0 :: a) == (k : Int)).length : Int) =
    if d = a0 then (((vecs r).filter fun v => farM v a == (k : Int)).length : Int) else dn (fun k => (((vecs r).filter fun v => farM v a == (k : Int)).length : Int)) k := by
  rw [List.filter_map, List.length_map]
  split
  · rename_i e
    congr 2
    apply List.filter_congr
    intro v _
    simp only [Function.comp, farM, if_pos e, Int.zero_add]
  · rename_i e
    unfold dn
    split
    · rename_i hk
      subst hk
      rw [List.filter_eq_nil_iff.2]
      · rfl
      · intro v _
        have := (farM_bnd v a).1
        simp only [Function.comp, farM, if_neg e, beq_iff_eq]; omega
    · rename_i hk
      congr 2
      apply List.filter_congr
      intro v _
      simp only [Function.comp, farM, if_neg e]
      rw [Bool.eq_iff_iff, beq_iff_eq, beq_iff_eq]; omega
theorem cf_ok : ∀ {l a : List Int}, szs l → a.length = l.length → (∀ i, i < l.length → 0 ≤ a.getD i 0 ∧ a.getD i 0 < l.getD i 0) → ∀ k : Nat, (((vecs l).filter fun v => farM v a == (k : Int)).length : Int) = cf l k
  | [], a, _, hl, _, k => by
    have : a = [] := List.eq_nil_of_length_eq_zero hl
    subst this
    rw [vecs, cf]
    by_cases hk : k = 0
    · subst hk; simp [farM]
    · rw [if_neg hk, List.filter_eq_nil_iff.2]
      · rfl
      · intro v hv
        simp at hv; subst hv
        simp [farM]; omega
  | q :: r, [], _, hl, _, k => by simp at hl
  | q :: r, a0 :: a, h, hl, hb, k => by
    have hq := h 0 (by simp)
    simp at hq
    have h0 := hb 0 (by simp)
    simp at h0
    have ih := fun k => cf_ok (l := r) (a := a) (szs_tail h) (by simpa using hl) (fun i hi => by simpa using hb (i + 1) (by simpa using hi)) k
    rw [vecs, List.filter_flatMap, flat_cnt q.toNat a0.toNat (cf r k) (dn (cf r) k), if_pos (by omega), cf, mulB]
    · rw [show ((q.toNat : Nat) : Int) = (q - 1) + 1 by omega, Int.add_mul]; omega
    · intro d hd
      rw [cf_part]
      have e2 : dn (fun k => (((vecs r).filter fun v => farM v a == (k : Int)).length : Int)) k = dn (cf r) k := by
        congr 1; funext k; exact ih k
      rw [e2, ih]
      by_cases e : d = a0.toNat
      · rw [if_pos e, if_pos (by omega)]
      · rw [if_neg e, if_neg (by omega)]
def sumN (f : Nat → Int) : Nat → Int
  | 0 => 0
  | n + 1 => sumN f n + f n
def bzM (l : List Int) (r : Int) : Int := sumN (cf l) (r.toNat + 1)
theorem cnt_le {α : Type} (L : List α) (f : α → Int) (h : ∀ x, x ∈ L → 0 ≤ f x) : ∀ n : Nat, ((L.filter fun x => decide (f x < n)).length : Int) = sumN (fun k => ((L.filter fun x => f x == (k : Int)).length : Int)) n
  | 0 => by
    rw [List.filter_eq_nil_iff.2]
    · rfl
    · intro x hx
      have := h x hx
      simp only [decide_eq_true_eq]; omega
  | n + 1 => by
    rw [sumN, ← cnt_le L f h n]
    clear h
    induction L with
    | nil => rfl
    | cons x L ih =>
      rw [List.filter_cons, List.filter_cons, List.filter_cons]
      rcases Int.lt_trichotomy (f x) n with q | q | q
      · rw [if_pos (decide_eq_true (by omega)), if_pos (decide_eq_true q), if_neg (by rw [beq_iff_eq]; omega)]
        simp only [List.length_cons]; omega
      · rw [if_pos (decide_eq_true (by omega)), if_neg (by rw [decide_eq_true_eq]; omega), if_pos (by rw [beq_iff_eq]; exact q)]
        simp only [List.length_cons]; omega
      · rw [if_neg (by rw [decide_eq_true_eq]; omega), if_neg (by rw [decide_eq_true_eq]; omega), if_neg (by rw [beq_iff_eq]; omega)]
        exact ih
theorem dig_in {l : List Int} (h : szs l) (w : Int) : ∀ i, i < l.length → 0 ≤ (digM l w).getD i 0 ∧ (digM l w).getD i 0 < l.getD i 0 := fun i hi =>
  ⟨(digM_bnd w h i).1, (dig_lt h w hi).2⟩
theorem ball_len {l : List Int} (hs : isSpaceM l = true) (w : Int) {r : Int} (hr : 0 ≤ r) : ((ballM l w r).length : Int) = bzM l r := by
  have hz := isSpaceM_szs hs
  have h1 : (ballM l w r).length = ((vecs l).filter fun v => decide (farM v (digM l w) < ((r.toNat + 1 : Nat) : Int))).length := by
    rw [← vecs_ok hz, List.filter_map, List.length_map, ballM]
    congr 1
    apply List.filter_congr
    intro u _
    simp only [Function.comp, distM]
    congr 1
    apply propext
    constructor <;> intro h <;> omega
  rw [h1, cnt_le _ _ (fun v _ => (farM_bnd v _).1), bzM]
  congr 1
  funext k
  exact cf_ok hz (digM_len l w) (dig_in hz w) k
theorem cf_app (q : Int) : ∀ (p : List Int) (k : Nat), cf (p ++ [q]) k = mulB (q - 1) (cf p) k
  | [], k => rfl
  | a :: p, k => by
    rw [List.cons_append, cf, show cf (p ++ [q]) = mulB (q - 1) (cf p) from funext (cf_app q p), mulB_comm]
    rfl
theorem cf_bnd : ∀ (l : List Int), (∀ i, i < l.length → 2 ≤ l.getD i 0 ∧ l.getD i 0 ≤ 4) → ∀ k, 0 ≤ cf l k ∧ cf l k ≤ 4 ^ l.length
  | [], _, k => by
    rw [cf]; split <;> simp
  | q :: r, h, k => by
    have hq := h 0 (by simp)
    simp at hq
    have ih := cf_bnd r fun i hi => by simpa using h (i + 1) (by simpa using hi)
    have h1 := ih k
    have h2 : 0 ≤ dn (cf r) k ∧ dn (cf r) k ≤ 4 ^ r.length := by
      unfold dn; split
      · exact ⟨Int.le_refl _, Int.pow_nonneg (by omega)⟩
      · exact ih _
    have h3 : (q - 1) * dn (cf r) k ≤ 3 * 4 ^ r.length := Int.mul_le_mul (by omega) h2.2 h2.1 (by omega)
    have h4 : 0 ≤ (q - 1) * dn (cf r) k := Int.mul_nonneg (by omega) h2.1
    rw [cf, mulB, List.length_cons, Int.pow_succ]
    omega
theorem cf_zero : ∀ (l : List Int) (k : Nat), l.length < k → cf l k = 0
  | [], k, h => by rw [cf, if_neg (by simp at h; omega)]
  | q :: r, k, h => by
    simp at h
    rw [cf, mulB, cf_zero r k (by omega), dn, if_neg (by omega), cf_zero r (k - 1) (by omega)]; simp
theorem sumN_big (f : Nat → Int) {m : Nat} (h : ∀ k, m ≤ k → f k = 0) : ∀ n, m ≤ n → sumN f n = sumN f m
  | 0, hn => by
    have : m = 0 := by omega
    subst this; rfl
  | n + 1, hn => by
    rcases Nat.lt_or_ge n m with q | q
    · have : m = n + 1 := by omega
      subst this; rfl
    · rw [sumN, h n q, sumN_big f h n q]; omega
def rowS (l : List Int) (i k : Nat) : List Int := (List.range (l.length + 1)).map fun j => if k < j then cf (l.take (i + 1)) j else cf (l.take i) j
@[go_sem] theorem rowS_len (l : List Int) (i k : Nat) : (rowS l i k).length = l.length + 1 := by simp [rowS]
theorem rowS_get (l : List Int) (i k : Nat) {j : Nat} (h : j < l.length + 1) : (rowS l i k).getD j 0 = if k < j then cf (l.take (i + 1)) j else cf (l.take i) j := by simp [rowS, h]
theorem rowS_step (l : List Int) {i k : Nat} (hi : i < l.length) (hk : k < l.length) : (rowS l i (k + 1)).set (k + 1) (cf (l.take i) (k + 1) + cf (l.take i) k * (l.getD i 0 - 1)) = rowS l i k := by
  refine eq_getD (by rw [List.length_set, rowS_len, rowS_len]) fun j hj => ?_
  rw [List.length_set, rowS_len] at hj
  rw [rowS_get l i k hj, List.getD_eq_getElem?_getD, List.getElem?_set]
  by_cases e : k + 1 = j
  · subst e
    rw [if_pos rfl, if_pos (by rw [rowS_len]; omega), if_pos (by omega), take_one l hi, cf_app, mulB, dn, if_neg (by omega), Nat.add_sub_cancel, Int.mul_comm]
    rfl
  · rw [if_neg e]
    have := rowS_get l i (k + 1) hj
    rw [List.getD_eq_getElem?_getD] at this
    rw [this]
    by_cases e2 : k + 1 < j
    · rw [if_pos e2, if_pos (by omega)]
    · rw [if_neg e2, if_neg (by omega)]
theorem rowS_next (l : List Int) {i : Nat} (hi : i < l.length) : rowS l i 0 = rowS l (i + 1) (i + 2) := by
  refine eq_getD (by rw [rowS_len, rowS_len]) fun j hj => ?_
  rw [rowS_len] at hj
  rw [rowS_get l i 0 hj, rowS_get l (i + 1) (i + 2) hj]
  by_cases e : j = 0
  · subst e
    rw [if_neg (by omega), if_neg (by omega), take_one l hi, cf_app, mulB, dn, if_pos rfl]; simp
  · rw [if_pos (by omega)]
    by_cases e2 : i + 2 < j
    · rw [if_pos e2, cf_zero _ _ (by simp; omega), cf_zero _ _ (by simp; omega)]
    · rw [if_neg e2]
theorem rowS_0 {l : List Int} : (List.replicate (l.length + 1) (0 : Int)).set 0 1 = rowS l 0 1 := by
  refine eq_getD (by rw [List.length_set, List.length_replicate, rowS_len]) fun j hj => ?_
  rw [List.length_set, List.length_replicate] at hj
  rw [rowS_get l 0 1 hj, List.getD_eq_getElem?_getD, List.getElem?_set]
  by_cases e : j = 0
  · subst e; simp [cf]
  · rw [if_neg (by omega)]
    have : ∀ n, n ≠ 0 → cf (l.take 1) n = if n = 1 then cf (l.take 1) 1 else 0 := fun n hn => by
      split
      · rename_i e; rw [e]
      · exact cf_zero _ _ (by simp; omega)
    by_cases e2 : j = 1
    · subst e2
      rw [if_neg (by omega), List.take_zero, cf, if_neg (by omega)]
      simp [hj]
    · rw [if_pos (by omega), this j e, if_neg e2]
      simp [hj]
theorem rowS_end (l : List Int) {k : Nat} (hk : k < l.length + 1) : (rowS l l.length (l.length + 1)).getD k 0 = cf l k := by
  rw [rowS_get l _ _ hk, if_neg (by omega), List.take_length]
theorem sumN_bnd (f : Nat → Int) (B : Int) (h : ∀ k, 0 ≤ f k ∧ f k ≤ B) : ∀ n : Nat, 0 ≤ sumN f n ∧ sumN f n ≤ n * B
  | 0 => by simp [sumN]
  | n + 1 => by
    have h1 := sumN_bnd f B h n
    have h2 := h n
    rw [sumN, Int.natCast_add, Int.add_mul]; omega
theorem pow4_le {n : Nat} (h : n ≤ 8) : (4 : Int) ^ n ≤ 65536 := by
  have h1 : (4 : Nat) ^ n ≤ 65536 := Nat.le_trans (Nat.pow_le_pow_right (by omega) h) (by decide)
  have h2 : ((4 ^ n : Nat) : Int) ≤ 65536 := by omega
  rw [Int.natCast_pow] at h2
  exact h2
theorem d_spec_l01Size (l : List Int) (hs : isSpaceM l = true) (r : Int) (hr : 0 ≤ r) (hr2 : r < 1000000) : Den PA f_spec_l01Size [.d (.agg [ints l]), .d (di r)] [.any, .any] (.d (di (bzM l r))) := by
  have hn := isSpaceM_n hs
  have hq := isSpaceM_q hs
  have hcb : ∀ i k, 0 ≤ cf (l.take i) k ∧ cf (l.take i) k ≤ 65536 := fun i k => by
    have h1 := cf_bnd (l.take i) (fun j hj => by
      simp at hj
      have := hq j (by omega)
      rwa [List.getD_eq_getElem?_getD, List.getElem?_take, if_pos (by omega), ← List.getD_eq_getElem?_getD]) k
    have h2 : (4 : Int) ^ (l.take i).length ≤ 65536 := pow4_le (by simp; omega)
    omega
  refine den_go [] l_spec_l01Size ?_
  refine go_c0 ?_
  rw [rowS_0]
  refine go_loop (fun (i : Nat) => ⟨[(1, .d (di r)), (2, .ref 0 0), (5, .sl 1 0 (l.length + 1) 1), (6, .d (di i))], [some (.var [ints l]), some (.dat 1 ((rowS l i (i + 1)).map di))]⟩) (fun i => i ≤ l.length) (fun i => l.length - i) 0 ?_ ?_ ?_
  · exact go_r0
  · omega
  · rintro i hi J hJ
    by_cases hil : i < l.length
    · refine go_c0 ?_
      have hqi := hq i hil
      refine go_loop (fun (k : Nat) => ⟨[(1, .d (di r)), (2, .ref 0 0), (5, .sl 1 0 (l.length + 1) 1), (6, .d (di i)), (7, .d (di k))], [some (.var [ints l]), some (.dat 1 ((rowS l i k).map di))]⟩) (fun k => k ≤ i + 1) (fun k => k) (i + 1) ?_ ?_ ?_
      · exact go_r0
      · omega
      · rintro k hk J2 hJ2
        rcases k with _ | k
        · refine go_c0 ?_
          refine hJ (i + 1) (by omega) (by omega) _ ?_
          simp -implicitDefEqProofs (maxSteps := 1000000) (disch := (first | omega | (simp only [go_sem] <;> omega) | fail)) only [go_sem, ints, bools, mat]
          rw [rowS_next l hil]
          rfl
        · have e1 := rowS_get l i (k + 1) (j := k + 1) (by omega)
          have e2 := rowS_get l i (k + 1) (j := k) (by omega)
          rw [if_neg (by omega)] at e1 e2
          have b1 := hcb i (k + 1)
          have b2 := hcb i k
          have b3 : cf (l.take i) k * (l.getD i 0 - 1) ≤ 65536 * 3 := Int.mul_le_mul b2.2 (by omega) (by omega) (by omega)
          have b4 : 0 ≤ cf (l.take i) k * (l.getD i 0 - 1) := Int.mul_nonneg b2.1 (by omega)
          have e3 := rowS_step l hil (k := k) (by omega)
          have z1 := e1; have z2 := e2; refine go_c2 ?_
          refine hJ2 k (by omega) (by omega) _ ?_
          have z1 := e1; have z2 := e2; have z3 := e3; exact go_a3
    · have : i = l.length := by omega
      subst this
      refine go_c0 ?_
      refine go_loop (fun (k : Nat) => ⟨[(1, .d (di r)), (5, .sl 0 0 (l.length + 1) 1), (8, .d (di (sumN (cf l) k))), (9, .d (di k))], [some (.dat 1 ((rowS l l.length (l.length + 1)).map di))]⟩) (fun k => k ≤ l.length + 1 ∧ (k : Int) ≤ r + 1) (fun k => l.length + 1 - k) 0 ?_ ?_ ?_
      · exact go_r0
      · omega
      · rintro k ⟨hk, hkr⟩ J2 hJ2
        have b1 : 0 ≤ sumN (cf l) k ∧ sumN (cf l) k ≤ k * 65536 := sumN_bnd _ _ (fun j => by have := hcb l.length j; rwa [List.take_length] at this) k
        have b2 := hcb l.length k
        rw [List.take_length] at b2
        by_cases hc : k < l.length + 1 ∧ (k : Int) ≤ r
        · have e1 := rowS_end l hc.1
          obtain ⟨hc1, hc2⟩ := hc
          have z1 := e1; refine go_c1 ?_
          refine hJ2 (k + 1) (by omega) (by omega) _ ?_
          simp -implicitDefEqProofs (maxSteps := 1000000) (disch := (first | omega | (simp only [go_sem] <;> omega) | fail)) only [go_sem, ints, bools, mat, e1]
          rfl
        · have e : sumN (cf l) k = bzM l r := by
            unfold bzM
            by_cases hk2 : k < l.length + 1
            · have : r.toNat + 1 = k := by omega
              rw [this]
            · have : k = l.length + 1 := by omega
              subst this
              exact (sumN_big (cf l) (fun j hj => cf_zero l j (by omega)) _ (by omega)).symm
          rw [e]
          exact go_e0
def cvL (l X : List Int) : List Bool := (allW l).map fun u => decide (u ∈ X)
@[go_sem] theorem cvL_len (l X : List Int) : (cvL l X).length = (prodM l).toNat := by simp [cvL, allW_len]
theorem cvL_get (l X : List Int) {i : Nat} (h : i < (prodM l).toNat) : (cvL l X).getD i false = decide ((i : Int) ∈ X) := by
  have h2 : i < (allW l).length := by rw [allW_len]; exact h
  have e := allW_get l h
  rw [List.getD_eq_getElem?_getD, List.getElem?_eq_getElem h2, Option.getD_some] at e
  simp [cvL, h2, e]
theorem cvL_getI {l X : List Int} {u : Int} (h : 0 ≤ u ∧ u < prodM l) : (cvL l X).getD u.toNat false = decide (u ∈ X) := by
  rw [cvL_get l X (by omega), Int.toNat_of_nonneg h.1]
theorem cvL_eq {l X : List Int} {L : List Bool} (h : L.length = (prodM l).toNat) (h2 : ∀ i : Nat, i < (prodM l).toNat → L.getD i false = decide ((i : Int) ∈ X)) : L = cvL l X := by
  apply List.ext_getElem (by rw [h, cvL_len])
  intro i h3 h4
  have := h2 i (by omega)
  have e := cvL_get l X (i := i) (by omega)
  rw [List.getD_eq_getElem?_getD, List.getElem?_eq_getElem h3, Option.getD_some] at this
  rw [List.getD_eq_getElem?_getD, List.getElem?_eq_getElem h4, Option.getD_some] at e
  rw [this, e]
theorem cvL_set {l X Y : List Int} {u : Int} (hu : 0 ≤ u) (b : Bool) (h : ∀ v : Int, 0 ≤ v → v < prodM l → (v ∈ Y ↔ if v = u then b = true else v ∈ X)) : (cvL l X).set u.toNat b = cvL l Y := by
  refine cvL_eq (by rw [List.length_set, cvL_len]) fun i hi => ?_
  rw [List.getD_eq_getElem?_getD, List.getElem?_set]
  have hv := h i (by omega) (by omega)
  by_cases e : u.toNat = i
  · rw [if_pos e, if_pos (by rw [cvL_len]; omega), Option.getD_some]
    rw [if_pos (by omega)] at hv
    simp only [hv]; cases b <;> simp
  · rw [if_neg e, ← List.getD_eq_getElem?_getD, cvL_get l X hi]
    rw [if_neg (by omega)] at hv
    simp only [hv]
theorem cvL_nil (l : List Int) : List.replicate (prodM l).toNat false = cvL l [] :=
  cvL_eq (by simp) fun i hi => by simp [hi]
def opn (l X : List Int) : Option Int := (allW l).find? fun u => !decide (u ∈ X)
def idxO : Option Int → Int
  | none => -1
  | some u => u
theorem opn_idx (l X : List Int) : (match (cvL l X).findIdx? (fun x => false == x) with | some j => (j : Int) | none => -1) = idxO (opn l X) := by
  have e : (cvL l X).findIdx? (fun x => false == x) = (allW l).findIdx? (fun u => !decide (u ∈ X)) := by
    rw [cvL, List.findIdx?_map]
    congr 1; funext u; simp only [Function.comp]
    cases decide (u ∈ X) <;> rfl
  rw [e, opn, find_idx]
  cases h : (allW l).findIdx? (fun u => !decide (u ∈ X)) with
  | none => rfl
  | some j =>
    obtain ⟨hj, _, _⟩ := List.findIdx?_eq_some_iff_getElem.1 h
    rw [allW_len] at hj
    show (j : Int) = (allW l).getD j 0
    rw [allW_get l hj]
theorem opn_some {l X : List Int} {o : Int} (h : opn l X = some o) : (0 ≤ o ∧ o < prodM l) ∧ o ∉ X ∧ ∀ u, 0 ≤ u → u < o → u ∈ X := by
  unfold opn at h
  have h1 := List.find?_some h
  have h2 := List.mem_of_find?_eq_some h
  rw [allW_mem] at h2
  refine ⟨by omega, by simpa using h1, fun u hu huo => ?_⟩
  rw [find_idx] at h
  cases hf : (allW l).findIdx? (fun u => !decide (u ∈ X)) with
  | none => rw [hf] at h; cases h
  | some j =>
    rw [hf] at h
    obtain ⟨hj, g1, g2⟩ := List.findIdx?_eq_some_iff_getElem.1 hf
    have hj' : j < (prodM l).toNat := by rwa [allW_len] at hj
    have hoj : (allW l).getD j 0 = o := by injection h
    rw [allW_get l hj'] at hoj
    have hk : u.toNat < j := by omega
    have := g2 u.toNat hk
    have e := allW_get l (i := u.toNat) (by omega)
    rw [List.getD_eq_getElem?_getD, List.getElem?_eq_getElem (by omega), Option.getD_some] at e
    rw [e] at this
    have : decide (((u.toNat : Nat) : Int) ∈ X) = true := by simpa using this
    rw [Int.toNat_of_nonneg hu] at this
    simpa using this
theorem opn_none {l X : List Int} (h : opn l X = none) : ∀ u, 0 ≤ u → u < prodM l → u ∈ X := fun u h0 h1 => by
  unfold opn at h
  rw [List.find?_eq_none] at h
  have := h u ((allW_mem l u).2 (by omega))
  simpa using this
def muX (l X : List Int) : Nat := ((allW l).filter fun u => !decide (u ∈ X)).length
theorem filter_lt {α : Type} {p q : α → Bool} : ∀ (L : List α), (∀ x, x ∈ L → p x = true → q x = true) → (∃ x, x ∈ L ∧ q x = true ∧ p x = false) → (L.filter p).length < (L.filter q).length
  | [], _, ⟨x, hx, _⟩ => by cases hx
  | x :: L, h, hx => by
    rw [List.filter_cons, List.filter_cons]
    by_cases hp : p x = true
    · rw [if_pos hp, if_pos (h x List.mem_cons_self hp), List.length_cons, List.length_cons]
      obtain ⟨y, hy, hq, hn⟩ := hx
      have := filter_lt L (fun z hz => h z (List.mem_cons_of_mem _ hz)) ⟨y, (List.mem_cons.1 hy).resolve_left (fun e => by subst e; rw [hp] at hn; cases hn), hq, hn⟩
      omega
    · rw [if_neg hp]
      by_cases hq : q x = true
      · rw [if_pos hq, List.length_cons]
        have : (L.filter p).length ≤ (L.filter q).length := by
          have h1 : L.filter p = (L.filter q).filter p := by
            rw [List.filter_filter]
            apply List.filter_congr
            intro z hz
            cases hpz : p z with
            | false => rfl
            | true => rw [h z (List.mem_cons_of_mem _ hz) hpz]; rfl
          rw [h1]; exact List.length_filter_le _ _
        omega
      · rw [if_neg hq]
        obtain ⟨y, hy, hq', hn⟩ := hx
        exact filter_lt L (fun z hz => h z (List.mem_cons_of_mem _ hz)) ⟨y, (List.mem_cons.1 hy).resolve_left (fun e => by subst e; exact hq hq'), hq', hn⟩
theorem muX_lt {l X Y : List Int} {w : Int} (hw : 0 ≤ w ∧ w < prodM l) (hX : w ∉ X) (hY : w ∈ Y) : muX l (X ++ Y) < muX l X := by
  refine filter_lt _ (fun u _ h => ?_) ⟨w, (allW_mem l w).2 (by omega), by simpa using hX, by simp [hY]⟩
  simp at h ⊢
  exact h.1
theorem muX_le (l X : List Int) : muX l X ≤ (prodM l).toNat := by
  have := List.length_filter_le (fun u => !decide (u ∈ X)) (allW l)
  rw [allW_len] at this
  exact this
theorem distM_self (l : List Int) (w : Int) : distM l w w = 0 := by
  have key : ∀ a : List Int, farM a a = 0 := by
    intro a
    induction a with
    | nil => rfl
    | cons x a ih => rw [farM, if_pos rfl, ih]; rfl
  exact key _
theorem ball_self {l : List Int} {w r : Int} (hw : 0 ≤ w ∧ w < prodM l) (hr : 0 ≤ r) : w ∈ ballM l w r := by
  rw [ballM_mem, distM_self]; omega
theorem ball_in (l : List Int) (w r : Int) : inC l (ballM l w r) := fun u hu => by
  rw [ballM_mem] at hu; omega
def freW (l : List Int) (r : Int) (X : List Int) (w : Int) : Bool := !((ballM l w r).any fun u => decide (u ∈ X))
def lvO (l : List Int) (r : Int) (X c : List Int) (f : Int → List (List Int)) : Option Int → List (List Int)
  | none => [c]
  | some o => (ballM l o r).flatMap fun w => if freW l r X w = true then f w else []
def lvs (l : List Int) (r : Int) : Nat → List Int → List Int → List (List Int)
  | 0, _, _ => []
  | n + 1, X, c => lvO l r X c (fun w => lvs l r n (X ++ ballM l w r) (c ++ [w])) (opn l X)
theorem fre_muX {l X : List Int} {r w : Int} (hr : 0 ≤ r) (hw : 0 ≤ w ∧ w < prodM l) (h : freW l r X w = true) : w ∉ X ∧ muX l (X ++ ballM l w r) < muX l X := by
  have h1 : w ∉ X := fun hm => by
    simp only [freW, Bool.not_eq_true', List.any_eq_false, decide_eq_true_eq] at h
    exact h w (ball_self hw hr) hm
  exact ⟨h1, muX_lt hw h1 (ball_self hw hr)⟩
def lvJ (l : List Int) (r : Int) (n : Nat) (X c B : List Int) (j : Nat) : List (List Int) := (B.take j).flatMap fun w => if freW l r X w = true then lvs l r n (X ++ ballM l w r) (c ++ [w]) else []
theorem lvJ_step {l : List Int} {r : Int} {n : Nat} {X c B : List Int} {j : Nat} (h : j < B.length) : lvJ l r n X c B (j + 1) = lvJ l r n X c B j ++ if freW l r X (B.getD j 0) = true then lvs l r n (X ++ ballM l (B.getD j 0) r) (c ++ [B.getD j 0]) else [] := by
  unfold lvJ
  rw [take_one B h, List.flatMap_append]; simp
theorem lvJ_le {l : List Int} {r : Int} {n : Nat} {X c B : List Int} {j : Nat} (h : j ≤ B.length) : (lvJ l r n X c B j).length ≤ (lvJ l r n X c B B.length).length := by
  have e : lvJ l r n X c B B.length = lvJ l r n X c B j ++ (B.drop j).flatMap fun w => if freW l r X w = true then lvs l r n (X ++ ballM l w r) (c ++ [w]) else [] := by
    unfold lvJ
    rw [← List.flatMap_append, List.take_length, List.take_append_drop]
  rw [e, List.length_append]; omega
theorem lvs_open {l : List Int} {r : Int} {n : Nat} {X c : List Int} {o : Int} (h : opn l X = some o) : lvs l r (n + 1) X c = lvJ l r n X c (ballM l o r) (ballM l o r).length := by
  rw [lvs, h, lvO, lvJ, List.take_length]
theorem lvs_done {l : List Int} {r : Int} {n : Nat} {X c : List Int} (h : opn l X = none) : lvs l r (n + 1) X c = [c] := by rw [lvs, h]; rfl
def nearM (l : List Int) (r : Int) : List (List Int) := (allW l).map fun w => ballM l w r
@[go_sem] theorem nearM_len (l : List Int) (r : Int) : (nearM l r).length = (prodM l).toNat := by simp [nearM, allW_len]
theorem nearM_get {l : List Int} (r : Int) {w : Int} (h : 0 ≤ w ∧ w < prodM l) : (nearM l r).getD w.toNat [] = ballM l w r := by
  have h2 : w.toNat < (allW l).length := by rw [allW_len]; omega
  have e := allW_get l (i := w.toNat) (by omega)
  rw [List.getD_eq_getElem?_getD, List.getElem?_eq_getElem h2, Option.getD_some] at e
  simp [nearM, h2, e, Int.toNat_of_nonneg h.1]
theorem d_impl_perfects_1_1 (Y : List Bool) (u : Int) (hu : 0 ≤ u) (hu2 : u < Y.length) (hY : Y.length < 1048577) :
    Den PA f_impl_perfects_1_1 [.d (di u), .box [bools Y]] [.any, .any] (.d (db (Y.getD u.toNat false))) := by
  refine den_go [] l_impl_perfects_1_1 ?_
  exact go_e0
theorem d_impl_CountPerfect_1 (x : D) (m : Int) (hm : 0 ≤ m) (hm2 : m < 4611686018427387904) (g : Value) :
    DenG PA f_impl_CountPerfect_1 2 [.d x, .is (.boxm [.d (di m)]) g] [.any, .boxm [.d (di (m + 1))]] (.tup []) := by
  refine den_goG [1] l_impl_CountPerfect_1 (by simp) ?_
  exact go_e0
theorem d_Index_cv (l X : List Int) (hs : isSpaceM l = true) : Den PA f_slices_Index___bool_bool_ [.d (bools (cvL l X)), .d (db false)] [.any, .any] (.d (di (idxO (opn l X)))) := by
  have hpr := isSpaceM_prod hs
  rw [← opn_idx]
  exact d_slices_Index_bool (cvL l X) false (by rw [cvL_len]; omega)
theorem lvJ_0 (l : List Int) (r : Int) (n : Nat) (X c B : List Int) (m : Int) : m + ((lvJ l r n X c B 0).length : Int) = m := by simp [lvJ]
theorem any_mem {L : List Int} {p q : Int → Bool} (h : ∀ u, u ∈ L → p u = q u) : L.any p = L.any q := by
  rw [Bool.eq_iff_iff, List.any_eq_true, List.any_eq_true]
  constructor
  · rintro ⟨x, hx, hp⟩; exact ⟨x, hx, by rw [← h x hx]; exact hp⟩
  · rintro ⟨x, hx, hp⟩; exact ⟨x, hx, by rw [h x hx]; exact hp⟩
theorem cvL_mark (l X : List Int) {W : List Int} {k : Nat} (h0 : 0 ≤ W.getD k 0) (hk : k < W.length) : (cvL l (X ++ W.take k)).set (W.getD k 0).toNat true = cvL l (X ++ W.take (k + 1)) := cvL_set h0 true fun v _ _ => by
  rw [take_one W hk]
  by_cases e : v = W.getD k 0
  · rw [if_pos e]; simp only [List.mem_append, List.mem_singleton]; exact ⟨fun _ => trivial, fun _ => .inr (.inr e)⟩
  · rw [if_neg e]; simp only [List.mem_append, List.mem_singleton]
    exact ⟨fun h => h.elim .inl fun h => h.elim .inr fun h => (e h).elim, fun h => h.elim .inl fun h => .inr (.inl h)⟩
theorem cvL_unmark (l : List Int) {X W : List Int} {k : Nat} (h0 : 0 ≤ W.getD k 0) (hk : k < W.length) (hn : W.Nodup) (hd : ∀ u, u ∈ W → u ∉ X) : (cvL l (X ++ W.drop k)).set (W.getD k 0).toNat false = cvL l (X ++ W.drop (k + 1)) := cvL_set h0 false fun v _ _ => by
  have e1 : W.drop k = W.getD k 0 :: W.drop (k + 1) := by
    rw [List.drop_eq_getElem_cons hk]
    simp [hk]
  have hm : W.getD k 0 ∉ W.drop (k + 1) := by
    have := hn.drop (i := k)
    rw [e1, List.pairwise_cons] at this
    exact fun h => this.1 _ h rfl
  rw [e1]
  by_cases e : v = W.getD k 0
  · rw [if_pos e]; simp only [List.mem_append]
    refine ⟨fun h => ?_, fun h => (by cases h)⟩
    rcases h with h | h
    · exact (hd v (e ▸ mem_getD hk) h).elim
    · exact (hm (e ▸ h)).elim
  · rw [if_neg e]; simp only [List.mem_append, List.mem_cons]
    exact ⟨fun h => h.elim .inl fun h => .inr (.inr h), fun h => h.elim .inl fun h => h.elim (fun h => (e h).elim) .inr⟩
theorem d_perf_C (l : List Int) (hs : isSpaceM l = true) (r : Int) (hr0 : 0 ≤ r) : ∀ (n : Nat) (X c : List Int) (m : Int) (g0 g1 g2 g3 g4 g : Value), muX l X < n → inC l X → c.length + muX l X < 1048576 →
    0 ≤ m → m + (lvs l r n X c).length < 4611686018427387904 →
    DenG PA f_impl_perfects_1 5 [.is (.boxm [.own 1 ((cvL l X).map db)]) g0, .is (.boxm [.own 1 (c.map di)]) g1, .is (.box [.v (.func (.func f_impl_CountPerfect_1) #[] [g].toArray)]) g2, .is (.box [mat (nearM l r)]) g3,
        .is (.box [.v (.func (.func f_impl_perfects_1) #[] [g0, g1, g2, g3, g4].toArray)]) g4, .is (.boxm [.d (di m)]) g]
      [.boxm [.own 1 ((cvL l X).map db)], .boxm [.own 1 (c.map di)], .any, .any, .any, .boxm [.d (di (m + (lvs l r n X c).length))]] (.tup []) := by
  have hpr := isSpaceM_prod hs
  have hp1 := prodM_pos (isSpaceM_szs hs)
  intro n
  induction n with
  | zero => intro X c m g0 g1 g2 g3 g4 g hmu; omega
  | succ n ih =>
    intro X c m g0 g1 g2 g3 g4 g hmu hX hcl hm hml
    refine den_goG [0, 1, 2, 3, 4, 5] l_impl_perfects_1 (by simp) ?_
    refine go_c0 ?_
    have yc := d_Index_cv l X hs; first | refine goC_call [.r, .r] yc ?_ | refine goOC_call [.r, .r] yc ?_
    cases ho : opn l X with
    | none =>
      rw [lvs_done ho] at hml
      simp only [List.length_cons, List.length_nil] at hml
      rw [lvs_done ho]
      repeat' (first | simp -implicitDefEqProofs (maxSteps := 1000000) (disch := (first | omega | (simp only [go_sem] <;> omega) | fail)) only [go_sem, ints, bools, mat, idxO] | ((first | apply goIf_b | apply goG_b | apply goTG_b | apply goOG_b) <;> intro h <;> ((try simp only [hnq] at h); (try simp only [h]); (try simp only [hnr] at h)) <;> (try (exfalso; omega))))
      have y1 := kc [.r] (d_slices_Clone_ints c (by omega)); have y2 := kc [.o] (d_slices_Sort c (by omega)); refine go_c0 ?_
      refine goV_val f_impl_CountPerfect_1 [g] [82] [] rfl (by simp -implicitDefEqProofs (maxSteps := 1000000) (disch := (first | omega | (simp only [go_sem] <;> omega) | fail)) only [go_sem, ints, bools, mat]) ?_
      refine go_c0 ?_
      refine goCG_call [.r, .i .bm] (d_impl_CountPerfect_1 (ints (sortI c)) m hm (by omega) g) ?_
      exact go_e0
    | some o =>
      obtain ⟨hob, hoX, _⟩ := opn_some ho
      rw [lvs_open ho] at hml ⊢
      have hB := ball_in l o r
      have hBl : (ballM l o r).length ≤ (prodM l).toNat := by unfold ballM; exact filter_len_le _ _ _ (by rw [allW_len]; exact Nat.le_refl _)
      have eo := nearM_get r hob
      generalize hBe : ballM l o r = B at *
      repeat' (first | simp -implicitDefEqProofs (maxSteps := 1000000) (disch := (first | omega | (simp only [go_sem] <;> omega) | fail)) only [go_sem, ints, bools, mat, idxO, eo] | ((first | apply goIf_b | apply goG_b | apply goTG_b | apply goOG_b) <;> intro h <;> ((try simp only [hnq] at h); (try simp only [h]); (try simp only [hnr] at h)) <;> (try (exfalso; omega))))
      refine go_loop (fun (p : Nat × List Int) => ⟨[(0, .ref 0 0), (1, .ref 1 0), (3, .iref [mat (nearM l r)] 0), (4, .iref [.v (.func (.func f_impl_perfects_1) #[] [g0, g1, g2, g3, g4].toArray)] 0), (27, .d (ints B)), (28, .d (di B.length)), (29, .d (di p.1)),
          (77, .is (.ref 0 0) g0), (78, .is (.ref 1 0) g1), (79, .is (.iref [.v (.func (.func f_impl_CountPerfect_1) #[] [g].toArray)] 0) g2), (80, .is (.iref [mat (nearM l r)] 0) g3), (81, .is (.iref [.v (.func (.func f_impl_perfects_1) #[] [g0, g1, g2, g3, g4].toArray)] 0) g4), (82, .is (.ref 2 0) g)],
          [some (.mix [.sl 3 0 (prodM l).toNat 1]), some (.mix [.sl 4 0 c.length 1]), some (.var [di (m + (lvJ l r n X c B p.1).length)]), some (.dat 1 ((cvL l X).map db)), some (.dat 1 ((c ++ p.2).map di))]⟩)
        (fun p => p.1 ≤ B.length) (fun p => B.length - p.1) (0, []) ?_ ?_ ?_
      · simp -implicitDefEqProofs (maxSteps := 1000000) (disch := (first | omega | (simp only [go_sem] <;> omega) | fail)) only [go_sem, ints, bools, mat, lvJ_0]
      · exact Nat.zero_le _
      · rintro ⟨j, t⟩ hj J hJ
        dsimp only at hj ⊢
        by_cases hjl : j < B.length
        · have hwb := inC_get hB j hjl
          have hst := lvJ_step (l := l) (r := r) (n := n) (X := X) (c := c) (B := B) hjl
          have hle := lvJ_le (l := l) (r := r) (n := n) (X := X) (c := c) (B := B) (show j + 1 ≤ B.length by omega)
          have hW := ball_in l (B.getD j 0) r
          have hWn := ballM_nodup l (B.getD j 0) r
          have hWl : (ballM l (B.getD j 0) r).length ≤ (prodM l).toNat := by unfold ballM; exact filter_len_le _ _ _ (by rw [allW_len]; exact Nat.le_refl _)
          have eW := nearM_get r hwb
          have hWf : freW l r X (B.getD j 0) = !((ballM l (B.getD j 0) r).any fun u => (cvL l X).getD u.toNat false) := by
            rw [freW]
            congr 1
            exact any_mem fun u hu => (cvL_getI (hW u hu)).symm
          generalize hWe : ballM l (B.getD j 0) r = W at *
          generalize hwe : B.getD j 0 = w at *
          repeat' (first | simp -implicitDefEqProofs (maxSteps := 1000000) (disch := (first | omega | (simp only [go_sem] <;> omega) | fail)) only [go_sem, ints, bools, mat, hwe, eW] | ((first | apply goIf_b | apply goG_b | apply goTG_b | apply goOG_b) <;> intro h <;> ((try simp only [hnq] at h); (try simp only [h]); (try simp only [hnr] at h)) <;> (try (exfalso; omega))))
          have yc := d_slices_ContainsFunc_in W (fun u => (cvL l X).getD u.toNat false) (fnI (fun u => 0 ≤ u ∧ u < prodM l) fun u => (cvL l X).getD u.toNat false) (fun i hi => ⟨_, inC_get hW i hi, rfl, rfl⟩) (by omega); first | refine goC_call [.r, .g (fnI (fun u => 0 ≤ u ∧ u < prodM l) fun u => (cvL l X).getD u.toNat false)] yc ?_ | refine goOC_call [.r, .g (fnI (fun u => 0 ≤ u ∧ u < prodM l) fun u => (cvL l X).getD u.toNat false)] yc ?_
          repeat' (first | simp -implicitDefEqProofs (maxSteps := 1000000) (disch := (first | omega | (simp only [go_sem] <;> omega) | fail)) only [go_sem, ints, bools, mat] | ((first | apply goIf_b | apply goG_b | apply goTG_b | apply goOG_b) <;> intro h <;> ((try simp only [hnq] at h); (try simp only [h]); (try simp only [hnr] at h)) <;> (try (exfalso; omega))))
          refine chk_intro (fnOK_mk (d_impl_perfects_1_1 [false] 0 (by omega) (by simp) (by simp)).1 [[bools (cvL l X)]] (by simp -implicitDefEqProofs (maxSteps := 1000000) (disch := (first | omega | (simp only [go_sem] <;> omega) | fail)) only [go_sem, ints, bools, mat]) fun ds r hgg => ?_) ?_
          · obtain ⟨u, hu, rfl, rfl⟩ := hgg
            exact ⟨_, d_impl_perfects_1_1 (cvL l X) u hu.1 (by rw [cvL_len]; omega) (by rw [cvL_len]; omega)⟩
          repeat' (first | simp -implicitDefEqProofs (maxSteps := 1000000) (disch := (first | omega | (simp only [go_sem] <;> omega) | fail)) only [go_sem, ints, bools, mat] | ((first | apply goIf_b | apply goG_b | apply goTG_b | apply goOG_b) <;> intro h <;> ((try simp only [hnq] at h); (try simp only [h]); (try simp only [hnr] at h)) <;> (try (exfalso; omega))))
          · have hany := h
            rw [hany] at hWf
            rw [hWf] at hst
            refine hJ (j + 1, t) (by dsimp only; omega) (by dsimp only; omega) _ ?_
            simp -implicitDefEqProofs (maxSteps := 1000000) (disch := (first | omega | (simp only [go_sem] <;> omega) | fail)) only [go_sem, ints, bools, mat, hst]
            rfl
          · have hany := h
            rw [hany] at hWf
            have hWf : freW l r X w = true := hWf
            rw [hWf, if_pos rfl] at hst
            obtain ⟨hwX, hmu2⟩ := fre_muX hr0 hwb hWf
            rw [hWe] at hmu2
            have hdis : ∀ u, u ∈ W → u ∉ X := fun u hu => by
              simp only [freW, Bool.not_eq_true', List.any_eq_false, decide_eq_true_eq] at hWf
              rw [hWe] at hWf
              exact hWf u hu
            have hlen : (lvJ l r n X c B (j + 1)).length = (lvJ l r n X c B j).length + (lvs l r n (X ++ W) (c ++ [w])).length := by rw [hst, List.length_append]
            refine go_loop (fun (k : Nat) => ⟨[(0, .ref 0 0), (1, .ref 1 0), (3, .iref [mat (nearM l r)] 0), (4, .iref [.v (.func (.func f_impl_perfects_1) #[] [g0, g1, g2, g3, g4].toArray)] 0), (8, .d (di w)), (27, .d (ints B)), (28, .d (di B.length)), (29, .d (di j)), (42, .d (ints W)), (43, .d (di W.length)), (44, .d (di k)),
                (77, .is (.ref 0 0) g0), (78, .is (.ref 1 0) g1), (79, .is (.iref [.v (.func (.func f_impl_CountPerfect_1) #[] [g].toArray)] 0) g2), (80, .is (.iref [mat (nearM l r)] 0) g3), (81, .is (.iref [.v (.func (.func f_impl_perfects_1) #[] [g0, g1, g2, g3, g4].toArray)] 0) g4), (82, .is (.ref 2 0) g)],
                [some (.mix [.sl 3 0 (prodM l).toNat 1]), some (.mix [.sl 4 0 c.length 1]), some (.var [di (m + (lvJ l r n X c B j).length)]), some (.dat 1 ((cvL l (X ++ W.take k)).map db)), some (.dat 1 ((c ++ t).map di))]⟩)
              (fun k => k ≤ W.length) (fun k => W.length - k) 0 ?_ ?_ ?_
            · simp -implicitDefEqProofs (maxSteps := 1000000) (disch := (first | omega | (simp only [go_sem] <;> omega) | fail)) only [go_sem, ints, bools, mat, List.take_zero, List.append_nil, eW]
            · exact Nat.zero_le _
            · intro k hk J2 hJ2
              by_cases hkl : k < W.length
              · have hub := inC_get hW k hkl
                have ecv := cvL_mark l X hub.1 hkl
                have z1 := ecv; refine go_c1 ?_
                refine hJ2 (k + 1) (by omega) (by omega) _ ?_
                simp -implicitDefEqProofs (maxSteps := 1000000) (disch := (first | omega | (simp only [go_sem] <;> omega) | fail)) only [go_sem, ints, bools, mat, ecv]
                rfl
              · have hke : k = W.length := by omega
                subst hke
                repeat' (first | simp -implicitDefEqProofs (maxSteps := 1000000) (disch := (first | omega | (simp only [go_sem] <;> omega) | fail)) only [go_sem, ints, bools, mat, List.take_length] | ((first | apply goIf_b | apply goG_b | apply goTG_b | apply goOG_b) <;> intro h <;> ((try simp only [hnq] at h); (try simp only [h]); (try simp only [hnr] at h)) <;> (try (exfalso; omega))))
                refine goV_val f_impl_perfects_1 [g0, g1, g2, g3, g4] [77, 78, 79, 80, 81] [82] rfl (by simp -implicitDefEqProofs (maxSteps := 1000000) (disch := (first | omega | (simp only [go_sem] <;> omega) | fail)) only [go_sem, ints, bools, mat]) ?_
                refine go_c0 ?_
                refine goCG_call [.i .bm, .i .bm, .i .b, .i .b, .i .b, .i .bm] (ih (X ++ W) (c ++ [w]) (m + (lvJ l r n X c B j).length) g0 g1 g2 g3 g4 g (by omega) (inC_app hX hW) (by simp; omega) (by omega) (by omega)) ?_
                repeat' (first | simp -implicitDefEqProofs (maxSteps := 1000000) (disch := (first | omega | (simp only [go_sem] <;> omega) | fail)) only [go_sem, ints, bools, mat, List.take_left] | ((first | apply goIf_b | apply goG_b | apply goTG_b | apply goOG_b) <;> intro h <;> ((try simp only [hnq] at h); (try simp only [h]); (try simp only [hnr] at h)) <;> (try (exfalso; omega))))
                refine go_loop (fun (k : Nat) => ⟨[(0, .ref 0 0), (1, .ref 1 0), (3, .iref [mat (nearM l r)] 0), (4, .iref [.v (.func (.func f_impl_perfects_1) #[] [g0, g1, g2, g3, g4].toArray)] 0), (27, .d (ints B)), (28, .d (di B.length)), (29, .d (di j)), (66, .d (ints W)), (67, .d (di W.length)), (68, .d (di k)),
                    (77, .is (.ref 0 0) g0), (78, .is (.ref 1 0) g1), (79, .is (.iref [.v (.func (.func f_impl_CountPerfect_1) #[] [g].toArray)] 0) g2), (80, .is (.iref [mat (nearM l r)] 0) g3), (81, .is (.iref [.v (.func (.func f_impl_perfects_1) #[] [g0, g1, g2, g3, g4].toArray)] 0) g4), (82, .is (.ref 2 0) g)],
                    [some (.mix [.sl 3 0 (prodM l).toNat 1]), some (.mix [.sl 4 0 c.length 1]), some (.var [di (m + (lvJ l r n X c B j).length + (lvs l r n (X ++ W) (c ++ [w])).length)]), some (.dat 1 ((cvL l (X ++ W.drop k)).map db)), some (.dat 1 ((c ++ [w]).map di))]⟩)
                  (fun k => k ≤ W.length) (fun k => W.length - k) 0 ?_ ?_ ?_
                · simp -implicitDefEqProofs (maxSteps := 1000000) (disch := (first | omega | (simp only [go_sem] <;> omega) | fail)) only [go_sem, ints, bools, mat, List.drop_zero, eW]
                · exact Nat.zero_le _
                · intro k hk J2 hJ2
                  by_cases hkl : k < W.length
                  · have hub := inC_get hW k hkl
                    have ecv := cvL_unmark l hub.1 hkl hWn hdis
                    have z1 := ecv; refine go_c1 ?_
                    refine hJ2 (k + 1) (by omega) (by omega) _ ?_
                    simp -implicitDefEqProofs (maxSteps := 1000000) (disch := (first | omega | (simp only [go_sem] <;> omega) | fail)) only [go_sem, ints, bools, mat, ecv]
                    rfl
                  · have hke : k = W.length := by omega
                    subst hke
                    repeat' (first | simp -implicitDefEqProofs (maxSteps := 1000000) (disch := (first | omega | (simp only [go_sem] <;> omega) | fail)) only [go_sem, ints, bools, mat, List.drop_length, List.append_nil] | ((first | apply goIf_b | apply goG_b | apply goTG_b | apply goOG_b) <;> intro h <;> ((try simp only [hnq] at h); (try simp only [h]); (try simp only [hnr] at h)) <;> (try (exfalso; omega))))
                    refine hJ (j + 1, [w]) (by dsimp only; omega) (by dsimp only; omega) _ ?_
                    simp -implicitDefEqProofs (maxSteps := 1000000) (disch := (first | omega | (simp only [go_sem] <;> omega) | fail)) only [go_sem, ints, bools, mat, List.drop_length, List.append_nil, hlen, Int.natCast_add, Int.add_assoc]
        · have hje : j = B.length := by omega
          subst hje
          repeat' (first | simp -implicitDefEqProofs (maxSteps := 1000000) (disch := (first | omega | (simp only [go_sem] <;> omega) | fail)) only [go_sem, ints, bools, mat, leaS_pre, List.take_left] | ((first | apply goIf_b | apply goG_b | apply goTG_b | apply goOG_b) <;> intro h <;> ((try simp only [hnq] at h); (try simp only [h]); (try simp only [hnr] at h)) <;> (try (exfalso; omega))))
def allP (l : List Int) (r : Int) : List (List Int) := if prodM l % bzM l r = 0 then lvs l r ((prodM l).toNat + 1) [] [] else []
theorem bz_pos {l : List Int} (hs : isSpaceM l = true) {r : Int} (hr : 0 ≤ r) : 1 ≤ bzM l r ∧ bzM l r ≤ prodM l := by
  have hp1 := prodM_pos (isSpaceM_szs hs)
  rw [← ball_len hs 0 hr]
  constructor
  · have := ball_self (l := l) (w := 0) (r := r) ⟨Int.le_refl _, by omega⟩ hr
    have := List.length_pos_of_mem this
    omega
  · have : (ballM l 0 r).length ≤ (prodM l).toNat := by unfold ballM; exact filter_len_le _ _ _ (by rw [allW_len]; exact Nat.le_refl _)
    omega
theorem near_take (l : List Int) (r : Int) {j : Nat} (h : j < (prodM l).toNat) : (nearM l r).take (j + 1) = (nearM l r).take j ++ [ballM l j r] := by
  have e := nearM_get (l := l) r (w := (j : Int)) (by omega)
  rw [Int.toNat_natCast] at e
  have h2 : j < (nearM l r).length := by rw [nearM_len]; exact h
  rw [List.take_add_one, List.getElem?_eq_getElem h2]
  rw [List.getD_eq_getElem?_getD, List.getElem?_eq_getElem h2, Option.getD_some] at e
  rw [e]; rfl
theorem d_impl_perfects_C (l : List Int) (hs : isSpaceM l = true) (r : Int) (hr0 : 0 ≤ r) (g : Value) (hlv : ((allP l r).length : Int) < 4611686018427387904) :
    DenG PA f_impl_perfects 3 [.d (.agg [ints l]), .d (di r), .d (.v (.func (.func f_impl_CountPerfect_1) #[] [g].toArray)), .is (.boxm [.d (di 0)]) g] [.any, .any, .any, .boxm [.d (di (allP l r).length)]] (.tup []) := by
  have hpr := isSpaceM_prod hs
  have hp1 := prodM_pos (isSpaceM_szs hs)
  have hbz := bz_pos hs hr0
  refine den_goG [3] l_impl_perfects (by simp) ?_
  have y1 := kc [.r] (d_impl_count l hs); refine go_c0 ?_
  refine go_loop (fun (j : Nat) => ⟨[(1, .d (di r)), (3, .ref 0 0), (5, .ref 1 0), (6, .ref 2 0), (13, .d (di (prodM l))), (14, .d (di j)), (43, .is (.ref 3 0) g)],
      [some (.var [ints l]), some (.var [.v (.func (.func f_impl_CountPerfect_1) #[] [g].toArray)]), some (.mix [.sl 4 0 j 1]), some (.var [di 0]), some (.dat 1 (((nearM l r).take j).map ints))]⟩) (fun j => j ≤ (prodM l).toNat) (fun j => (prodM l).toNat - j) 0 ?_ ?_ ?_
  · exact go_a0
  · exact Nat.zero_le _
  · intro j hj J hJ
    by_cases hjl : j < (prodM l).toNat
    · have hb := (d_impl_ball l hs j r (by omega) (by omega)).le .frz
      have e := near_take l r hjl
      have y1 := kc [.r, .r, .r] hb; refine go_c0 ?_
      refine hJ (j + 1) (by omega) (by omega) _ ?_
      simp -implicitDefEqProofs (maxSteps := 1000000) (disch := (first | omega | (simp only [go_sem] <;> omega) | fail)) only [go_sem, ints, bools, mat, e]
      rfl
    · have hje : j = (prodM l).toNat := by omega
      subst hje
      have e0 := nearM_get (l := l) r (w := 0) (by omega)
      rw [show (0 : Int).toNat = 0 from rfl] at e0
      have el := ball_len hs 0 hr0
      have en : ((prodM l).toNat : Int) = prodM l := by omega
      by_cases hd : prodM l % bzM l r = 0
      · have hall : allP l r = lvs l r ((prodM l).toNat + 1) [] [] := if_pos hd
        rw [hall] at hlv ⊢
        have z1 := e0; have z2 := el; have z3 := en; refine go_c3 ?_
        refine goC_real [9] [.ref 3 0] (by simp -implicitDefEqProofs (maxSteps := 1000000) (disch := (first | omega | (simp only [go_sem] <;> omega) | fail)) only [go_sem, ints, bools, mat]) fun ρ hρ => ?_
        have hg := hρ 43 3 g (by simp only [List.mem_cons, or_true, true_or])
        subst hg
        have hmu := muX_le l []
        have hden := d_perf_C l hs r hr0 ((prodM l).toNat + 1) [] [] 0 (ρ 7) (ρ 8) (ρ 1) (ρ 2) (ρ 9) (ρ 3) (by omega) (fun u hu => by cases hu) (by simp; omega) (by omega) (by omega)
        rw [← cvL_nil, Int.zero_add] at hden
        refine go_c0 ?_
        refine goCG_call [.i .bm, .i .bm, .i .b, .i .b, .i .b, .i .bm] hden ?_
        exact go_e0
      · have hall : allP l r = [] := if_neg hd
        rw [hall]
        have z1 := e0; have z2 := el; have z3 := en; exact go_e3
def pfE (l : List Int) (r : Int) : Int := if isSpaceM l = true then (if 1 ≤ r ∧ r ≤ 8 then (if prodM l ≤ 64 then 0 else 3) else 2) else 1
theorem pfE_ok {l : List Int} {r : Int} (h : pfE l r = 0) : isSpaceM l = true ∧ (1 ≤ r ∧ r ≤ 8) ∧ prodM l ≤ 64 := by
  unfold pfE at h
  split at h
  · rename_i h1
    split at h
    · rename_i h2
      split at h
      · rename_i h3; exact ⟨h1, h2, h3⟩
      · omega
    · omega
  · omega
theorem d_impl_perfectCode (l : List Int) (hl : l.length < 1048577) (r : Int) : Den PA f_impl_perfectCode [.d (.agg [ints l]), .d (di r)] [.any, .any] (.d (di (pfE l r))) := by
  refine den_go [] l_impl_perfectCode ?_
  refine go_c0 ?_
  have yc := d_impl_IsSpace l hl; first | refine goC_call [.r] yc ?_ | refine goOC_call [.r] yc ?_
  by_cases h1 : isSpaceM l = true
  · rw [h1]
    by_cases h2 : 1 ≤ r ∧ r ≤ 8
    · obtain ⟨h2, h3⟩ := h2
      refine go_c0 ?_
      have yc := d_impl_count l h1; first | refine goC_call [.r] yc ?_ | refine goOC_call [.r] yc ?_
      by_cases h4 : prodM l ≤ 64
      · rw [pfE, if_pos h1, if_pos ⟨h2, h3⟩, if_pos h4]
        exact go_e0
      · rw [pfE, if_pos h1, if_pos ⟨h2, h3⟩, if_neg h4]
        exact go_e0
    · rw [pfE, if_pos h1, if_neg h2]
      exact go_e0
  · have h2 : isSpaceM l = false := by simpa using h1
    rw [pfE, if_neg h1, h2]
    exact go_e0
def lexB : List Int → List Int → Bool
  | a :: x, b :: y => if a = b then lexB x y else decide (a < b)
  | _, _ => false
theorem lexB_tri : ∀ {x y : List Int}, x.length = y.length → lexB x y = false → lexB y x = false → x = y
  | [], [], _, _, _ => rfl
  | a :: x, b :: y, hl, h1, h2 => by
    rw [lexB] at h1 h2
    by_cases e : a = b
    · subst e
      rw [if_pos rfl] at h1 h2
      rw [lexB_tri (by simpa using hl) h1 h2]
    · rw [if_neg e] at h1
      rw [if_neg fun h => e h.symm] at h2
      simp at h1 h2; omega
theorem lexB_trans : ∀ {x y z : List Int}, x.length = y.length → y.length = z.length → lexB x y = true → lexB y z = true → lexB x z = true
  | [], [], [], _, _, h, _ => by cases h
  | a :: x, b :: y, d :: z, h1, h2, h3, h4 => by
    rw [lexB] at h3 h4 ⊢
    by_cases e : a = b
    · subst e
      rw [if_pos rfl] at h3
      by_cases e2 : a = d
      · subst e2
        rw [if_pos rfl] at h4 ⊢
        exact lexB_trans (by simpa using h1) (by simpa using h2) h3 h4
      · rw [if_neg e2] at h4 ⊢; exact h4
    · rw [if_neg e] at h3
      by_cases e2 : b = d
      · subst e2
        rw [if_neg e]; exact h3
      · rw [if_neg e2] at h4
        simp at h3 h4
        rw [if_neg (by omega)]; simp; omega
def lesB (a x : List Int) : List Int := if lexB x a = true then x else a
theorem lesB_len {a x : List Int} {m : Nat} (ha : a.length = m) (hx : x.length = m) : (lesB a x).length = m := by
  unfold lesB; split <;> assumption
theorem lesB_assoc {a x y : List Int} {m : Nat} (ha : a.length = m) (hx : x.length = m) (hy : y.length = m) : lesB (lesB a x) y = lesB a (lesB x y) := by
  unfold lesB
  by_cases h1 : lexB x a = true
  · rw [if_pos h1]
    by_cases h2 : lexB y x = true
    · rw [if_pos h2, if_pos (lexB_trans (by omega) (by omega) h2 h1)]
    · rw [if_neg h2, if_pos h1]
  · rw [if_neg h1]
    by_cases h2 : lexB y x = true
    · rw [if_pos h2]
    · rw [if_neg h2, if_neg h1]
      by_cases h3 : lexB y a = true
      · rw [if_pos h3]
        by_cases h4 : lexB a x = true
        · exact absurd (lexB_trans (by omega) (by omega) h3 h4) h2
        · have e := lexB_tri (x := a) (y := x) (by omega) (by simpa using h4) (by simpa using h1)
          subst e; exact absurd h3 h2
      · rw [if_neg h3]
def minL : List (List Int) → List Int
  | [] => []
  | a :: L => L.foldl lesB a
theorem minL_len {m : Nat} : ∀ {L : List (List Int)} {a : List Int}, a.length = m → (∀ x, x ∈ L → x.length = m) → (L.foldl lesB a).length = m
  | [], _, ha, _ => ha
  | x :: L, a, ha, h => minL_len (L := L) (lesB_len ha (h x List.mem_cons_self)) fun y hy => h y (List.mem_cons_of_mem _ hy)
theorem foldl_les {m : Nat} : ∀ {L : List (List Int)} {a b : List Int}, a.length = m → b.length = m → (∀ x, x ∈ L → x.length = m) → L.foldl lesB (lesB a b) = lesB a (L.foldl lesB b)
  | [], _, _, _, _, _ => rfl
  | x :: L, a, b, ha, hb, h => by
    have hx := h x List.mem_cons_self
    rw [List.foldl_cons, List.foldl_cons, lesB_assoc ha hb hx]
    exact foldl_les ha (lesB_len hb hx) fun y hy => h y (List.mem_cons_of_mem _ hy)
theorem minL_app {m : Nat} {A B : List (List Int)} (hA : A ≠ []) (hB : B ≠ []) (h : ∀ x, x ∈ A ++ B → x.length = m) : minL (A ++ B) = lesB (minL A) (minL B) := by
  cases A with
  | nil => exact absurd rfl hA
  | cons a A =>
    cases B with
    | nil => exact absurd rfl hB
    | cons b B =>
      have ha : a.length = m := h a (by simp)
      have hb : b.length = m := h b (by simp)
      show (A ++ b :: B).foldl lesB a = lesB (A.foldl lesB a) (B.foldl lesB b)
      rw [List.foldl_append, List.foldl_cons]
      exact foldl_les (minL_len ha fun x hx => h x (by simp [hx])) hb fun x hx => h x (by simp [hx])
theorem minL_mem {m : Nat} {L : List (List Int)} (h0 : L ≠ []) : minL L ∈ L := by
  cases L with
  | nil => exact absurd rfl h0
  | cons a L =>
    have key : ∀ (L : List (List Int)) (a : List Int), L.foldl lesB a = a ∨ L.foldl lesB a ∈ L := by
      intro L
      induction L with
      | nil => intro a; exact .inl rfl
      | cons x L ih =>
        intro a
        rw [List.foldl_cons]
        rcases ih (lesB a x) with e | e
        · rw [e]; unfold lesB
          split
          · exact .inr List.mem_cons_self
          · exact .inl rfl
        · exact .inr (List.mem_cons_of_mem _ e)
    show L.foldl lesB a ∈ a :: L
    rcases key L a with e | e
    · rw [e]; exact List.mem_cons_self
    · exact List.mem_cons_of_mem _ e
structure Pck (l : List Int) (r : Int) (X c : List Int) : Prop where
  nd : X.Nodup
  inX : inC l X
  len : (X.length : Int) = c.length * bzM l r
  sub : ∀ w, w ∈ c → w ∈ X
  cnd : c.Nodup
theorem Pck.nil (l : List Int) (r : Int) : Pck l r [] [] := ⟨List.nodup_nil, fun u hu => (by cases hu), by simp, fun u hu => hu, List.nodup_nil⟩
theorem fre_dis {l X : List Int} {r w : Int} (h : freW l r X w = true) : ∀ u, u ∈ ballM l w r → u ∉ X := fun u hu => by
  simp only [freW, Bool.not_eq_true', List.any_eq_false, decide_eq_true_eq] at h
  exact h u hu
theorem Pck.step {l X c : List Int} {r w : Int} (hs : isSpaceM l = true) (hr : 0 ≤ r) (h : Pck l r X c) (hw : 0 ≤ w ∧ w < prodM l) (hf : freW l r X w = true) : Pck l r (X ++ ballM l w r) (c ++ [w]) := by
  have hd := fre_dis hf
  have hwX := hd w (ball_self hw hr)
  refine ⟨List.nodup_append.2 ⟨h.nd, ballM_nodup l w r, fun a ha b hb e => hd b hb (e ▸ ha)⟩, inC_app h.inX (ball_in l w r), ?_, fun u hu => ?_, List.nodup_append.2 ⟨h.cnd, by simp, fun a ha b hb e => ?_⟩⟩
  · rw [List.length_append, List.length_append, Int.natCast_add, h.len, ball_len hs w hr]
    simp only [List.length_cons, List.length_nil, Int.natCast_add, Int.add_mul]; simp
  · rcases List.mem_append.1 hu with hu | hu
    · exact List.mem_append_left _ (h.sub u hu)
    · simp at hu; subst hu; exact List.mem_append_right _ (ball_self hw hr)
  · simp at hb; subst hb; exact hwX (h.sub b (e ▸ ha))
theorem muX_add {l X : List Int} {W : List Int} (hW : inC l W) (hn : W.Nodup) (hd : ∀ u, u ∈ W → u ∉ X) : muX l (X ++ W) + W.length = muX l X := by
  have key : ∀ (A : List Int), A.Nodup → (A.filter fun u => !decide (u ∈ X ++ W)).length + (A.filter fun u => decide (u ∈ W)).length = (A.filter fun u => !decide (u ∈ X)).length := by
    intro A _
    induction A with
    | nil => rfl
    | cons x A ih =>
      have ih := ih (by rename_i h; exact (List.nodup_cons.1 h).2)
      rw [List.filter_cons, List.filter_cons, List.filter_cons]
      by_cases h1 : x ∈ X
      · have h2 : x ∉ W := fun hw => hd x hw h1
        simp [h1, h2] at ih ⊢; exact ih
      · by_cases h2 : x ∈ W
        · simp [h1, h2] at ih ⊢; omega
        · simp [h1, h2] at ih ⊢; omega
  have h1 := key (allW l) (allW_nodup l)
  have h2 : ((allW l).filter fun u => decide (u ∈ W)).length = W.length := by
    apply List.Perm.length_eq
    apply (List.perm_ext_iff_of_nodup ((allW_nodup l).filter _) hn).2
    intro u
    rw [List.mem_filter, allW_mem, decide_eq_true_eq]
    exact ⟨fun h => h.2, fun h => ⟨by have := hW u h; omega, h⟩⟩
  unfold muX; omega
theorem Pck.mu {l X c : List Int} {r : Int} (h : Pck l r X c) : muX l X + X.length = (prodM l).toNat := by
  have := muX_add (l := l) (X := []) h.inX h.nd (fun u _ hu => by cases hu)
  rw [List.nil_append] at this
  rw [this]
  unfold muX
  rw [List.filter_eq_self.2 (fun u _ => by simp), allW_len]
theorem lvs_pck {l : List Int} {r : Int} (hs : isSpaceM l = true) (hr : 0 ≤ r) : ∀ (n : Nat) {X c : List Int}, Pck l r X c → ∀ x, x ∈ lvs l r n X c → ∃ Y, Pck l r Y x ∧ opn l Y = none
  | 0, X, c, h, x, hx => by cases hx
  | n + 1, X, c, h, x, hx => by
    cases ho : opn l X with
    | none =>
      rw [lvs_done ho] at hx
      simp at hx; subst hx
      exact ⟨X, h, ho⟩
    | some o =>
      rw [lvs_open ho, lvJ, List.take_length, List.mem_flatMap] at hx
      obtain ⟨w, hw, hx⟩ := hx
      split at hx
      · rename_i hf
        exact lvs_pck hs hr n (h.step hs hr (ball_in l o r w hw) hf) x hx
      · cases hx
theorem opn_mu {l X : List Int} (h : opn l X = none) : muX l X = 0 := by
  unfold muX
  rw [List.filter_eq_nil_iff.2]
  · rfl
  · intro u hu
    rw [allW_mem] at hu
    simp [opn_none h u hu.1 (by omega)]
theorem Pck.full {l Y x : List Int} {r : Int} (hs : isSpaceM l = true) (h : Pck l r Y x) (ho : opn l Y = none) : (x.length : Int) * bzM l r = prodM l := by
  have hp1 := prodM_pos (isSpaceM_szs hs)
  have h1 := h.mu
  rw [opn_mu ho] at h1
  rw [← h.len]; omega
theorem lvs_len {l : List Int} {r : Int} (hs : isSpaceM l = true) (hr : 0 ≤ r) {n : Nat} {X c : List Int} (h : Pck l r X c) : ∀ x, x ∈ (lvs l r n X c).map setI → x.length = (prodM l / bzM l r).toNat := fun x hx => by
  obtain ⟨y, hy, rfl⟩ := List.mem_map.1 hx
  obtain ⟨Y, h1, h2⟩ := lvs_pck hs hr n h y hy
  have hb := bz_pos hs hr
  rw [setI_len_nodup h1.cnd, ← h1.full hs h2, Int.mul_ediv_cancel _ (by omega)]; omega
theorem lvs_cnt {l : List Int} {r : Int} (hs : isSpaceM l = true) (hr : 0 ≤ r) : ∀ (n : Nat) {X c : List Int}, Pck l r X c → (lvs l r n X c).length ≤ (bzM l r).toNat ^ (muX l X / (bzM l r).toNat)
  | 0, X, c, h => Nat.zero_le _
  | n + 1, X, c, h => by
    have hb := bz_pos hs hr
    cases ho : opn l X with
    | none =>
      rw [lvs_done ho]
      exact Nat.pow_pos (by omega)
    | some o =>
      rw [lvs_open ho, lvJ, List.take_length]
      have hbl := ball_len hs o hr
      have key : ∀ (B : List Int), inC l B → (B.flatMap fun w => if freW l r X w = true then lvs l r n (X ++ ballM l w r) (c ++ [w]) else []).length ≤ B.length * ((bzM l r).toNat ^ (muX l X / (bzM l r).toNat - 1) * if muX l X < (bzM l r).toNat then 0 else 1) := by
        intro B
        induction B with
        | nil => intro _; simp
        | cons w B ih =>
          intro hB
          have hw := hB w List.mem_cons_self
          rw [List.flatMap_cons, List.length_append, List.length_cons, Nat.add_mul, Nat.one_mul, Nat.add_comm (B.length * _)]
          refine Nat.add_le_add ?_ (ih fun u hu => hB u (List.mem_cons_of_mem _ hu))
          split
          · rename_i hf
            have hmu := muX_add (ball_in l w r) (ballM_nodup l w r) (fre_dis hf)
            have hbl2 := ball_len hs w hr
            have h1 := lvs_cnt hs hr n (h.step hs hr hw hf)
            have e : (muX l (X ++ ballM l w r)) / (bzM l r).toNat = muX l X / (bzM l r).toNat - 1 := by
              have e2 : muX l X = muX l (X ++ ballM l w r) + (bzM l r).toNat := by omega
              rw [e2, Nat.add_div_right _ (by omega), Nat.succ_sub_one]
            rw [e] at h1
            rw [if_neg (by omega), Nat.mul_one]
            exact h1
          · exact Nat.zero_le _
      refine Nat.le_trans (key _ (ball_in l o r)) ?_
      split
      · simp
      · rename_i hlt
        have hd : 1 ≤ muX l X / (bzM l r).toNat := (Nat.le_div_iff_mul_le (by omega)).2 (by omega)
        have e : muX l X / (bzM l r).toNat = (muX l X / (bzM l r).toNat - 1) + 1 := by omega
        rw [Nat.mul_one]
        conv => rhs; rw [e, Nat.pow_succ]
        rw [Nat.mul_comm]
        exact Nat.mul_le_mul_left _ (by omega)
theorem pow_small : ∀ b : Nat, b < 65 → b ^ (64 / b) < 4611686018427387904 := by decide
theorem pow_le64 {b m : Nat} (hb : 1 ≤ b) (hb2 : b ≤ 64) (hm : m ≤ 64) : b ^ (m / b) < 4611686018427387904 :=
  Nat.lt_of_le_of_lt (Nat.pow_le_pow_right hb (Nat.div_le_div_right hm)) (pow_small b (by omega))
theorem allP_cnt {l : List Int} {r : Int} (hs : isSpaceM l = true) (hr : 0 ≤ r) (h64 : prodM l ≤ 64) : ((allP l r).length : Int) < 4611686018427387904 := by
  have hb := bz_pos hs hr
  unfold allP
  split
  · have h1 := lvs_cnt hs hr ((prodM l).toNat + 1) (Pck.nil l r)
    have h2 := muX_le l []
    have h3 := pow_le64 (b := (bzM l r).toNat) (m := muX l []) (by omega) (by omega) (by omega)
    omega
  · simp
theorem drop_getD {l : List Int} {i : Nat} (h : i < l.length) : l.drop i = l.getD i 0 :: l.drop (i + 1) := by
  rw [List.drop_eq_getElem_cons h]; simp [h]
theorem d_spec_l06Before (a b : List Int) (hl : a.length ≤ b.length) (hb : b.length < 1048577) : Den PA f_spec_l06Before [.d (ints a), .d (ints b)] [.any, .any] (.d (db (lexB a b))) := by
  refine den_go [] l_spec_l06Before ?_
  refine go_c0 ?_
  refine go_loop (fun (i : Nat) => ⟨[(0, .d (ints a)), (1, .d (ints b)), (5, .d (di i))], []⟩) (fun i => i ≤ a.length ∧ lexB (a.drop i) (b.drop i) = lexB a b) (fun i => a.length - i) 0 ?_ ?_ ?_
  · exact go_r0
  · exact ⟨Nat.zero_le _, rfl⟩
  · rintro i ⟨hi, he⟩ J hJ
    by_cases hil : i < a.length
    · rw [drop_getD hil, drop_getD (show i < b.length by omega), lexB] at he
      by_cases e : a.getD i 0 = b.getD i 0
      · rw [if_pos e] at he
        refine go_c0 ?_
        refine hJ (i + 1) ⟨by omega, he⟩ (by omega) _ ?_
        exact go_r0
      · rw [if_neg e] at he
        rw [← he]
        exact go_e0
    · have hie : i = a.length := by omega
      subst hie
      rw [List.drop_length, lexB] at he
      · rw [← he]
        exact go_e0
      · intro a x b y h; cases h
theorem putI_setI (c : List Int) (w : Int) : putI (setI c) w = setI (c ++ [w]) := by
  symm
  refine setI_eq (putI_asc (setI_asc c) w) fun x => ?_
  rw [putI_mem, setI_mem, List.mem_append, List.mem_singleton]
def freT (X W : List Int) (j : Nat) : Bool := !((W.take j).any fun u => decide (u ∈ X))
theorem freT_step {X W : List Int} {j : Nat} (hj : j < W.length) (hn : W.Nodup) : (freT X W j && !decide (W.getD j 0 ∈ X ++ W.take j)) = freT X W (j + 1) := by
  have hm : W.getD j 0 ∉ W.take j := fun h => by
    obtain ⟨i, hi, e⟩ := List.mem_iff_getElem.1 h
    simp at hi
    rw [List.getElem_take] at e
    have e2 : W.getD j 0 = W[j] := by simp [hj]
    rw [e2] at e
    have := (List.getElem_inj hn).1 e
    omega
  unfold freT
  rw [take_one W hj, List.any_append]
  simp only [List.any_cons, List.any_nil, Bool.or_false, List.mem_append, hm, or_false, Bool.not_or]
theorem lvJ_nil (l : List Int) (r : Int) (n : Nat) (X c B : List Int) : lvJ l r n X c B 0 = [] := rfl
abbrev srS (l : List Int) (r : Int) (n : Nat) (X c : List Int) : R := .tup [.d (di (lvs l r n X c).length), .d (ints (minL ((lvs l r n X c).map setI)))]
end Go.Proofs.YtgmocipfgfnolacGreat.Va
