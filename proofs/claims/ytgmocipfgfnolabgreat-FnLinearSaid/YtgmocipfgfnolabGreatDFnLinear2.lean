/- Contracts of the functions that FnLinear reaches (part 2). Condition: none. -/
import Derived.Test.YtgmocipfgfnolabGreatDFnLinear1
set_option linter.all false
set_option linter.unusedSimpArgs false
set_option linter.unusedVariables false
namespace Go.Proofs.YtgmocipfgfnolabGreat.Va
open Go
set_option maxHeartbeats 4000000
set_option maxRecDepth 100000
theorem ln_facts {X : D} {o c : List Int} (hX : drL X o) (hc : c.length < 1048577) : (∃ B E W b e k, LnF X c B E W b e k) ∨ ∃ b e e2, LnN X c b e e2 := by
  obtain ⟨hX1, hX2, hX3⟩ := hX
  rcases hX1 with rfl | ⟨rfl, rfl⟩
  · have h1 := d_impl_IsLinear o c hX2 hc
    have h2 := d_spec_IsLinear o c hX2 hc
    have h3 := d_impl_LeastBasis o c hX2 hc
    have h4 := d_spec_LeastBasis o c hX2 hc
    have h5 := d_impl_DualCode o c hX2 hc
    have h6 := d_spec_DualCode o c hX2 hc
    have h7 := d_impl_DualCounts o c hX2 hc
    have h8 := d_spec_DualCounts o c hX2 hc
    have h9 := d_impl_DimensionOf o c hX2 hc
    have h10 := d_spec_DimensionOf o c hX2 hc
    by_cases h : lnM o c = 0
    · obtain ⟨hs, hcc, hl⟩ := lnM_ok h
      have hp := lin_plain hl
      have hpr := isSpaceM_prod hs
      have hn := isSpaceM_n hs
      have hdln := grp_len hs (duM_grp hs hp c)
      have hbl := bsN_len hs hcc hl o.length
      have hwl : (wcountM o (duM o c)).length = o.length + 1 := hist_len _ _
      rw [lstR_ok h] at h3 h4 h5 h6 h7 h8
      rw [dimR, if_pos h, h] at h9 h10
      exact .inl ⟨_, _, _, _, _, _, ⟨by show (bsN _ _ _).length < _; omega, by omega, by omega, h1, h2, h3, h4, h5, h6, h7, h8, h9, h10⟩⟩
    · rw [lstR_no h] at h3 h4 h5 h6 h7 h8
      rw [dimR, if_neg h] at h9 h10
      exact .inr ⟨_, _, _, ⟨h1, h2, h3, h4, h5, h6, h7, h8, h9, h10⟩⟩
  · exact .inr ⟨false, 1, 1, ⟨d_nil_impl_IsLinear c, d_nil_spec_IsLinear c, d_nil_impl_LeastBasis c, d_nil_spec_LeastBasis c, d_nil_impl_DualCode c, d_nil_spec_DualCode c, d_nil_impl_DualCounts c, d_nil_spec_DualCounts c, d_nil_impl_DimensionOf c, d_nil_spec_DimensionOf c⟩⟩
theorem sy_facts {X : D} {o c : List Int} {w : Int} (hX : drL X o) (hc : c.length < 1048577) : (∃ S : List Int, S.length < 1048577 ∧ Den PA f_impl_SyndromeOf [.d (.agg [X]), .d (ints c), .d (di w)] [.any, .any, .any] (.tup [.own 1 (S.map di), .d (di 0)]) ∧ Den PA f_spec_SyndromeOf [.d (.agg [X]), .d (ints c), .d (di w)] [.any, .any, .any] (.tup [.own 1 (S.map di), .d (di 0)])) ∨ ∃ e : Int, Den PA f_impl_SyndromeOf [.d (.agg [X]), .d (ints c), .d (di w)] [.any, .any, .any] (.tup [.d nil, .d (di e)]) ∧ Den PA f_spec_SyndromeOf [.d (.agg [X]), .d (ints c), .d (di w)] [.any, .any, .any] (.tup [.d nil, .d (di e)]) := by
  obtain ⟨hX1, hX2, hX3⟩ := hX
  rcases hX1 with rfl | ⟨rfl, rfl⟩
  · have h1 := d_impl_SyndromeOf o c w hX2 hc
    have h2 := d_spec_SyndromeOf o c w hX2 hc
    by_cases h : pcM o c [w] = 0
    · rw [lstR_ok h] at h1 h2
      exact .inl ⟨_, by rw [synM_len]; omega, h1, h2⟩
    · rw [lstR_no h] at h1 h2
      exact .inr ⟨_, h1, h2⟩
  · exact .inr ⟨1, d_nil_impl_SyndromeOf c w, d_nil_spec_SyndromeOf c w⟩
theorem smN_rep (n : Nat) : ∀ j, smN (List.replicate n 0) j = 0
  | 0 => rfl
  | j + 1 => by
    rw [smN, smN_rep n j]
    rcases Nat.lt_or_ge j n with h | h
    · simp [h]
    · simp [List.getD_eq_getElem?_getD, List.getElem?_eq_none (show (List.replicate n (0 : Int)).length ≤ j by simp; omega)]
theorem sum_rep (n : Nat) (hn : n < 100) : Den PA f_laws_sum [.d (ints (List.replicate n 0))] [.any] (.d (di 0)) := by
  have h := d_laws_sum (List.replicate n 0) (by simp; omega) fun i => by
    rcases Nat.lt_or_ge i n with h | h
    · simp [h]
    · simp [List.getD_eq_getElem?_getD, List.getElem?_eq_none (show (List.replicate n (0 : Int)).length ≤ i by simp; omega)]
  rw [smN_rep] at h; exact h
def gcL (cv : List Bool) (S : List Int) : List Bool := S.foldl (fun c u => c.set u.toNat true) cv
@[go_sem] theorem gcL_len (cv : List Bool) : ∀ S : List Int, (gcL cv S).length = cv.length := fun S => by
  induction S generalizing cv with
  | nil => rfl
  | cons u S ih => rw [gcL, List.foldl_cons]; exact (ih (cv.set u.toNat true)).trans (by rw [List.length_set])
def gnC (l : List Int) (r : Int) (cv : List Bool) (w : Int) : Int := (((allW l).filter fun u => !(cv.getD u.toNat false) && decide (distM l w u ≤ r)).length : Int)
def mxG (l : List Int) (A B : Int → Int) (p : Int → Bool) : List Int := (allW l).map fun w => if p w = true then A w else B w
@[go_sem] theorem mxG_len (l : List Int) (A B : Int → Int) (p : Int → Bool) : (mxG l A B p).length = (prodM l).toNat := by rw [mxG, List.length_map, allW_len]
abbrev gnL (l : List Int) (r : Int) (cv : List Bool) : List Int := mxG l (gnC l r cv) (gnC l r cv) (fun _ => true)
theorem mxG_get {l : List Int} (A B : Int → Int) (p : Int → Bool) {j : Nat} (hj : j < (prodM l).toNat) : (mxG l A B p).getD j 0 = if p j = true then A j else B j := by
  have h : j < (allW l).length := by rw [allW_len]; exact hj
  have e := allW_get l hj
  rw [List.getD_eq_getElem?_getD, List.getElem?_eq_getElem h, Option.getD_some] at e
  rw [mxG, List.getD_eq_getElem?_getD, List.getElem?_map, List.getElem?_eq_getElem h, Option.map_some, Option.getD_some, e]
def bsx (G : List Int) : Nat → Nat
  | 0 => 0
  | j + 1 => if G.getD (bsx G j) 0 < G.getD j 0 then j else bsx G j
theorem bsx_max (G : List Int) : ∀ j i, i < j → G.getD i 0 ≤ G.getD (bsx G j) 0
  | 0, i, h => by omega
  | j + 1, i, h => by
    rw [bsx]
    by_cases e : i = j
    · subst e; split <;> omega
    · have := bsx_max G j i (by omega)
      split <;> omega
abbrev bst (l : List Int) (r : Int) (cv : List Bool) : Nat := bsx (gnL l r cv) (prodM l).toNat
structure GrJ (l : List Int) (r : Int) (cv : List Bool) (K : List Int) : Prop where
  len : cv.length = (prodM l).toNat
  inc : inC l K
  nod : K.Nodup
  cov : ∀ i : Nat, i < (prodM l).toNat → (cv.getD i false = true ↔ ∃ k, k ∈ K ∧ distM l k i ≤ r)
theorem GrJ.all {l : List Int} {r : Int} {cv : List Bool} {K : List Int} (hs : isSpaceM l = true) (hr : 0 ≤ r) (h : GrJ l r cv K) (hg : (gnL l r cv).getD (bst l r cv) 0 = 0) : ∀ i : Nat, i < (prodM l).toNat → ∃ k, k ∈ K ∧ distM l k i ≤ r := fun i hi => by
  refine (h.cov i hi).1 ?_
  have h1 := bsx_max (gnL l r cv) (prodM l).toNat i hi
  rw [show bsx (gnL l r cv) (prodM l).toNat = bst l r cv from rfl, hg, mxG_get _ _ _ hi, if_pos rfl] at h1
  cases hc : cv.getD i false with
  | true => rfl
  | false =>
    exfalso
    have hm : (i : Int) ∈ (allW l).filter fun u => !(cv.getD u.toNat false) && decide (distM l i u ≤ r) := by
      refine List.mem_filter.2 ⟨(allW_mem l _).2 (by omega), ?_⟩
      rw [Int.toNat_natCast, hc, distM_self]
      simp [hr]
    have := List.length_pos_of_mem hm
    unfold gnC at h1
    omega
def gcB (l : List Int) (r : Int) (cv : List Bool) (b j : Nat) : List Bool := gcL cv (((allW l).take j).filter fun u => decide (distM l u b ≤ r))
@[go_sem] theorem gcB_len (l : List Int) (r : Int) (cv : List Bool) (b j : Nat) : (gcB l r cv b j).length = cv.length := gcL_len _ _
def nB (cv : List Bool) : List Bool := cv.map Bool.not
@[go_sem] theorem nB_len (cv : List Bool) : (nB cv).length = cv.length := by simp [nB]
def gcK (l : List Int) (r : Int) (cv : List Bool) (b k : Nat) : List Bool := gcL cv ((ballM l b r).take k)
@[go_sem] theorem gcK_len (l : List Int) (r : Int) (cv : List Bool) (b k : Nat) : (gcK l r cv b k).length = cv.length := gcL_len _ _
end Go.Proofs.YtgmocipfgfnolabGreat.Va
