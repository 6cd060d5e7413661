/- A general frame for proofs by contracts: Sorting a slice of whole numbers of one's own, out of the library's contract. Condition: none. -/
import Derived.Test.YtgailliklpkjjaaDoorVa1
import Derived.Sort.Grow
import Derived.Lib.Join
import Derived.Below
import Derived.Lib.Bytealg
set_option linter.all false
set_option linter.unusedSimpArgs false
set_option linter.unusedVariables false
/-! Sorting a slice of whole numbers of one's own, out of the library's contract. Condition: none. -/
namespace Go.Proofs.YtgailliklpkjjaaDoor.Va
open Go Go.Sort

/-- What the library's contract of slices.Sort says of a function. -/
def SortCalls (P : Program) (f : FuncId) : Prop :=
  ∀ (blk off cap : Nat) (zs : List Int) (w : World), Holds (Value.int .i64) w blk off zs.toArray → blk < w.heap.size → zs.length < 4611686018427387904 →
    Calls P f #[.slice (some ⟨blk, off, none⟩) zs.length cap] w fun e w' =>
      e = .returned (.tuple #[]) ∧ ∃ n os, w' = grow (putRow (Value.int .i64) (Go.Sort.ahead w n) blk off (zs.mergeSort fun x y => decide (x ≤ y)).toArray) os

theorem toArray_get! (l : List Int) (j : Nat) : l.toArray[j]! = l.getD j 0 := by
  by_cases h : j < l.length
  · rw [getElem!_pos _ j (by simpa using h)]; simp [h]
  · rw [getElem!_neg _ j (by simpa using h)]; simp [h]

theorem den_sort {P : Program} {f : FuncId} (hok : okF P f) (hC : SortCalls P f) (l : List Int) (hl : l.length < 4611686018427387904) :
    Den P f [.own 1 (l.map di)] [.own 1 ((l.mergeSort fun x y => decide (x ≤ y)).map di)] (.tup []) := by
  refine ⟨hok, fun w F us bs hars hnd hlt hF => ?_⟩
  cases hars with
  | @cons _ _ u us' b1 b2 h hs =>
    cases hs
    cases h with
    | @own z es b o cap cs t fv hb hn hc ho hz hr hf =>
      have hfl : flat (l.map di) = l.map di := flat_di l
      have hlen : (l.map di).length = l.length := by simp
      rw [hfl] at hr hf
      have hbl : b < w.heap.size := hlt b (by simp)
      have hfj : ∀ j, j < l.length → fv j = .int .i64 (l.getD j 0) := fun j hj => by
        have := hr j (di (l.getD j 0)) (getI hj)
        generalize fv j = u at this
        cases this with
        | v h => rfl
      have hcell : ∀ j, j < l.length → w.cell? ⟨b, o + j, none⟩ = some (.int .i64 (l.getD j 0)) := fun j hj => by
        rw [cell_of_row w _ _ _ _ (0, 0) hb, hf j (by simpa using hj), hfj j hj]
      have hH : Holds (Value.int .i64) w b o l.toArray := fun j hj => by
        simp at hj
        refine ⟨by rw [hcell j hj, toArray_get!], ?_⟩
        simp [World.frozen?, hb]
      have hcall := hC b o cap l w hH hbl hl
      rw [hlen]
      refine hcall.mono fun e w' hR => ?_
      obtain ⟨rfl, n, os, rfl⟩ := hR
      have hsl : (l.mergeSort fun x y => decide (x ≤ y)).length = l.length := List.length_mergeSort l
      generalize (l.mergeSort fun x y => decide (x ≤ y)) = m at hsl
      have hput : (grow (putRow (Value.int .i64) (Go.Sort.ahead w n) b o m.toArray) os).heap[b]? = some (.cells (putCells (Value.int .i64) o m.toArray cs) t (0, 0)) := by
        rw [heap_grow_old _ _ (by simpa using hbl)]
        simp [putRow, mapBlock, Array.getElem?_modify, hb, onCells]
      have hsz : (putCells (Value.int .i64) o m.toArray cs).size = cs.size := by simp [putCells]
      have hother : ∀ k, k < w.heap.size → k ≠ b → (grow (putRow (Value.int .i64) (Go.Sort.ahead w n) b o m.toArray) os).heap[k]? = w.heap[k]? := fun k hk hkb => by
        rw [heap_grow_old _ _ (by simpa using hk)]
        simp [putRow, mapBlock, Array.getElem?_modify, Ne.symm hkb]
      have hsize : w.heap.size ≤ (grow (putRow (Value.int .i64) (Go.Sort.ahead w n) b o m.toArray) os).heap.size := by simp
      refine ⟨.tuple #[], [b], rfl, ⟨rfl, rfl, rfl, hsize, fun k hk hn' => hother k hk (fun e => hn' (by simp [e])), fun k hk => ?_⟩, by simp, fun b' hb' => ?_, ?_⟩
      · by_cases e : k = b
        · subst e
          simp only [bsz, hput, hb, hsz]
        · simp only [bsz, hother k hk e]
      · simp at hb'; subst hb'; exact ⟨.inl (by simp), Nat.lt_of_lt_of_le hbl hsize⟩
      · have h1 : ARs P (grow (putRow (Value.int .i64) (Go.Sort.ahead w n) b o m.toArray) os)
            (fun b' => b' < (grow (putRow (Value.int .i64) (Go.Sort.ahead w n) b o m.toArray) os).heap.size ∧ b' ∉ [b] ∧ (F b' ∨ b' ∈ [b] ∨ w.heap.size ≤ b')) [.own 1 (m.map di)] [.slice (some ⟨b, o, none⟩) l.length cap] ([b] ++ []) := by
          refine .cons ?_ .nil
          have hm : (m.map di).length = l.length := by simpa using hsl
          have := AR.own (P := P) (w := (grow (putRow (Value.int .i64) (Go.Sort.ahead w n) b o m.toArray) os))
            (F := (fun b' => b' < (grow (putRow (Value.int .i64) (Go.Sort.ahead w n) b o m.toArray) os).heap.size ∧ b' ∉ [b] ∧ (F b' ∨ b' ∈ [b] ∨ w.heap.size ≤ b')))
            (z := 1) (es := m.map di) (b := b) (o := o) (cap := cap) (fun j => .int .i64 (m.getD j 0)) hput (by rw [hm]; simpa using hn) hc (by rw [hsz]; exact ho)
            (fun e he => by obtain ⟨x, _, rfl⟩ := List.mem_map.1 he; rfl)
            (fun j d hd => by
              rw [flat_di] at hd
              have hj : j < m.length := by simpa using (List.getElem?_eq_some_iff.1 hd).1
              rw [getI hj] at hd; cases hd; exact .v rfl)
            (fun j hj => by
              rw [flat_di] at hj
              simp at hj
              have hcj := hf j (by simp; omega)
              simp only [putCells, Array.getElem?_mapIdx, hcj, Option.map_some]
              rw [if_pos ⟨by omega, by simp; omega⟩, show o + j - o = j by omega, toArray_get!])
          rw [hm] at this
          exact this
        have h2 := ARs.cons (AR.tup (P := P) (us := []) ARs.nil) h1
        simpa using h2

theorem okF_low {P : Program} {f : FuncId} {np : Nat} {an : List An} {af : AF} (hl : lowF P f np an = some af) : okF P f := by
  unfold lowF at hl
  obtain ⟨fn, hfn, hl⟩ := Option.bind_eq_some_iff.1 hl
  split at hl
  · cases hl
  rename_i hname
  obtain ⟨c, hc, hl⟩ := Option.bind_eq_some_iff.1 hl
  exact ⟨fn, hfn, by simpa using hname, by rw [hc]; rfl⟩

/-- Less may be told of a result. -/
theorem Den.le {P : Program} {f : FuncId} {args args' : List R} {res res' : R} (h : Den P f args args' res) (hr : RLe res res') : Den P f args args' res' := by
  refine ⟨h.1, fun w F us bs h1 h2 h3 h4 => (h.2 w F us bs h1 h2 h3 h4).mono fun e w' hR => ?_⟩
  obtain ⟨v, bs', rfl, hk, hn, hb, ha⟩ := hR
  obtain ⟨bs2, hs, hF⟩ := ARs.le (RLes.cons hr (RLes.refl args')) ha hn
  refine ⟨v, bs2, rfl, hk, hn.sublist hs, fun b hb' => hb b (hs.subset hb'), hF _ (fun b hb' => ⟨hb'.1, fun hx => hb'.2.1 (hs.subset hx), hb'.2.2⟩) (fun b hb1 hb2 => ⟨(hb b hb1).2, hb2, ?_⟩)⟩
  rcases (hb b hb1).1 with h5 | h5
  · exact .inr (.inl h5)
  · exact .inr (.inr h5)
end Go.Proofs.YtgailliklpkjjaaDoor.Va

/-! Joining strings, out of the library's contract. Condition: none. -/
namespace Go.Proofs.YtgailliklpkjjaaDoor.Va
open Go Go.Proofs Go.RowKit

abbrev ds (s : ByteArray) : D := .v (.string s)
/-- What the library's contract of strings.Join says of a function. -/
def JoinCalls (P : Program) (f : FuncId) : Prop :=
  ∀ (bk o c : Nat) (xs : List ByteArray) (sep : ByteArray) (w : World), (∀ (j : Nat) x, xs[j]? = some x → w.cell? ⟨bk, o + j, none⟩ = some (.string x)) → bk < w.heap.size → xs.length ≤ 140737488355328 → xs.length ≤ c →
    (Lib.join (xs.map (·.data.toList)) sep.data.toList).length ≤ 140737488355328 →
    Calls P f #[.slice (some ⟨bk, o, none⟩) xs.length c, .string sep] w fun e w' => e = .returned (.string ⟨(Lib.join (xs.map (·.data.toList)) sep.data.toList).toArray⟩) ∧ Below w.heap.size w w'

theorem Kp.of_below {G : Nat → Prop} {w w' : World} (h : Below w.heap.size w w') : Kp G w w' :=
  ⟨h.os, h.tape, h.output, h.size, fun k hk _ => h.block k hk, fun k hk => by simp only [Va.bsz, h.block k hk]⟩
theorem flat_str (xs : List ByteArray) : flat (xs.map ds) = xs.map ds := by
  induction xs with
  | nil => rfl
  | cons x r ih => simp only [flat, List.map_cons, List.flatMap_cons, D.cells] at ih ⊢; rw [ih]; rfl

theorem den_join {P : Program} {f : FuncId} (hok : okF P f) (hC : JoinCalls P f) (xs : List ByteArray) (sep : ByteArray) (hn : xs.length ≤ 140737488355328)
    (hl : (Lib.join (xs.map (·.data.toList)) sep.data.toList).length ≤ 140737488355328) :
    Den P f [.d (.lst 1 (xs.map ds)), .d (ds sep)] [.any, .any] (.d (ds ⟨(Lib.join (xs.map (·.data.toList)) sep.data.toList).toArray⟩)) := by
  refine ⟨hok, fun w F us bs hars hnd hlt hF => ?_⟩
  cases hars with
  | @cons _ _ u us' b1 b2 h hs =>
    cases hs with
    | @cons _ _ u2 us2 b3 b4 h2 hs2 =>
      cases hs2
      cases h with
      | d h =>
        cases h2 with
        | d h2 =>
          obtain ⟨rfl, _⟩ := RD.v_inv h2
          cases h with
          | @lst _ _ b o cap fv hnc hc hFb hz hr hw =>
            rw [flat_str] at hr hw
            have hcell : ∀ (j : Nat) x, xs[j]? = some x → w.cell? ⟨b, o + j, none⟩ = some (.string x) := fun j x hx => by
              have hj := (List.getElem?_eq_some_iff.1 hx).1
              rw [hw j (by simpa using hj)]
              have h4 := hr j (ds x) (by simp [hx])
              generalize fv j = v at h4
              cases h4 with
              | v _ => rfl
            have hcall := hC b o cap xs sep w hcell (hF b hFb).1 hn (by simpa using hnc) hl
            rw [show (xs.map ds).length = xs.length by simp]
            refine hcall.mono fun e w' hR => ?_
            obtain ⟨rfl, hB⟩ := hR
            exact ⟨_, [], rfl, Kp.of_below hB, .nil, fun b hb => by simp at hb, by
              have h1 := ARs.cons (AR.any (P := P) (w := w') (F := fun b => b < w'.heap.size ∧ b ∉ [] ∧ (F b ∨ b ∈ [] ++ ([] ++ []) ∨ w.heap.size ≤ b)) (u := .slice (some ⟨b, o, none⟩) xs.length cap)) (ARs.cons (AR.any (u := .string sep)) ARs.nil)
              exact ARs.cons (AR.d (x := ds _) (RC.v (x := .string _) rfl)) h1⟩
end Go.Proofs.YtgailliklpkjjaaDoor.Va

/-! Strings as lists of numbers: places and counts of bytes. Condition: none. -/
namespace Go.Proofs.YtgailliklpkjjaaDoor.Va
open Go Go.Proofs

/-- Each number is a byte. -/
def BY (l : List Int) : Prop := ∀ x, x ∈ l → 0 ≤ x ∧ x < 256
theorem BY.tail {x : Int} {l : List Int} (h : BY (x :: l)) : BY l := fun y hy => h y (by simp [hy])
theorem byte_eq {x c : Int} (hx : 0 ≤ x ∧ x < 256) (hc : 0 ≤ c ∧ c < 256) : (UInt8.ofNat x.toNat = UInt8.ofNat c.toNat) ↔ x = c := by
  constructor
  · intro h
    have := congrArg UInt8.toNat h
    simp only [UInt8.toNat_ofNat'] at this
    omega
  · rintro rfl; rfl
theorem byte_nat {x : Int} (hx : 0 ≤ x ∧ x < 256) : ((UInt8.ofNat x.toNat).toNat : Int) = x := by
  simp only [UInt8.toNat_ofNat']; omega
theorem str_of (s : ByteArray) : strOfNums (s.data.toList.map fun b => (b.toNat : Int)) = s := by
  apply ByteArray.ext
  simp [strOfNums, List.map_map, Function.comp_def]
theorem str_BY (s : ByteArray) : BY (s.data.toList.map fun b => (b.toNat : Int)) := fun x hx => by
  obtain ⟨b, _, rfl⟩ := List.mem_map.1 hx
  have := b.toNat_lt
  omega
theorem str_inj {a b : List Int} (ha : BY a) (hb : BY b) (h : strOfNums a = strOfNums b) : a = b := by
  have h1 := congrArg (fun s => s.data.toList) h
  simp only [strOfNums_data] at h1
  clear h
  induction a generalizing b with
  | nil => cases b with
    | nil => rfl
    | cons y s => simp at h1
  | cons x r ih => cases b with
    | nil => simp at h1
    | cons y s =>
      simp only [List.map_cons, List.cons.injEq] at h1
      rw [(byte_eq (ha x (by simp)) (hb y (by simp))).1 h1.1, ih ha.tail hb.tail h1.2]
theorem cnt_n {l : List Int} {c : Int} (hl : BY l) (hc : 0 ≤ c ∧ c < 256) : cntStr (strOfNums l) c.toNat.toUInt8 = (l.count c : Nat) := by
  unfold cntStr
  rw [Lib.foldl_data, Lib.count_foldl, strOfNums_data]
  have : Lib.countByte (l.map fun n => UInt8.ofNat n.toNat) c.toNat.toUInt8 = l.count c := by
    unfold Lib.countByte
    induction l with
    | nil => rfl
    | cons x r ih =>
      rw [List.map_cons, List.count_cons, List.count_cons, ih hl.tail]
      congr 1
      have := byte_eq (hl x (by simp)) hc
      have e : c.toNat.toUInt8 = UInt8.ofNat c.toNat := rfl
      rw [e]
      by_cases h : x = c
      · subst h; simp
      · have h2 : ¬ UInt8.ofNat x.toNat = UInt8.ofNat c.toNat := fun h' => h (this.1 h')
        simp [h, h2]
  rw [this]; simp
/-- The first place of a number, or -1. -/
def fxL (c : Int) : List Int → Int
  | [] => -1
  | x :: r => if x = c then 0 else if fxL c r = -1 then -1 else fxL c r + 1
theorem fx_n {l : List Int} {c : Int} (hl : BY l) (hc : 0 ≤ c ∧ c < 256) : firstIdx (strOfNums l) c.toNat.toUInt8 = fxL c l := by
  rw [Lib.firstIdx_eq, strOfNums_data]
  induction l with
  | nil => rfl
  | cons x r ih =>
    rw [List.map_cons, Lib.indexByte, ih hl.tail, fxL]
    have := byte_eq (hl x (by simp)) hc
    have e : c.toNat.toUInt8 = UInt8.ofNat c.toNat := rfl
    rw [e]
    by_cases h : x = c
    · subst h; simp
    · have h2 : ¬ UInt8.ofNat x.toNat = UInt8.ofNat c.toNat := fun h' => h (this.1 h')
      simp [h, h2]
theorem fx_cases (c : Int) : ∀ l : List Int, (fxL c l = -1 ∧ c ∉ l) ∨ ∃ k : Nat, fxL c l = k ∧ k < l.length ∧ l = l.take k ++ c :: l.drop (k + 1) ∧ c ∉ l.take k
  | [] => .inl ⟨rfl, by simp⟩
  | x :: r => by
    by_cases h : x = c
    · subst h; exact .inr ⟨0, by simp [fxL], by simp, by simp, by simp⟩
    · rcases fx_cases c r with ⟨h1, h2⟩ | ⟨k, h1, h2, h3, h4⟩
      · exact .inl ⟨by simp [fxL, h, h1], by simp [h2]; exact fun e => h e.symm⟩
      · refine .inr ⟨k + 1, ?_, by simp; omega, ?_, ?_⟩
        · rw [fxL, if_neg h, if_neg (by omega), h1]; simp
        · simp only [List.take_succ_cons, List.drop_succ_cons, List.cons_append]
          rw [← h3]
        · simp only [List.take_succ_cons, List.mem_cons, not_or]
          exact ⟨fun e => h e.symm, h4⟩
end Go.Proofs.YtgailliklpkjjaaDoor.Va
