/- A general frame for proofs by contracts: The frame of a proof: plain data, how data lie in memory, and what a step may leave as it was. Condition: none. -/
import Derived.Calls
import Derived.Orders
import Derived.Laws.Sem
import Derived.Laws.Rows
import Derived.Laws.World
import Derived.Laws.AppendOwn
import GoSem.ClaimData
import Derived.Laws.BytesArg
import Derived.Laws.Externs
import Derived.Laws.Cells
import Derived.Laws.Entries
import Derived.Laws.Append
import Derived.ChangeKeysEq
import Derived.Laws.CopyRow
import Derived.Laws.Slices
import Derived.Laws.Tables
set_option linter.all false
set_option linter.unusedSimpArgs false
set_option linter.unusedVariables false
/-! The frame of a proof: plain data, how data lie in memory, and what a step may leave as it was. Condition: none. -/
namespace Go.Proofs.Ytccfejnckmokkaa.Va
open Go

inductive D where
  | v (x : Value)
  | agg (xs : List D)
  | lst (z : Nat) (elems : List D)

def D.cells : D → List D
  | .agg xs => xs
  | d => [d]

def flat (es : List D) : List D := es.flatMap D.cells

inductive RC (w : World) (F : Nat → Prop) : D → Value → Prop
  | v {x : Value} (h : x.oneCell' = true) : RC w F (.v x) x
  | lst {z : Nat} {elems : List D} {b o cap : Nat} (f : Nat → Value) (hn : elems.length ≤ cap) (hc : cap ≤ maxLen) (hF : F b)
      (hz : ∀ e, e ∈ elems → e.cells.length = z) (hr : ∀ j d, (flat elems)[j]? = some d → RC w F d (f j))
      (hw : ∀ j, j < (flat elems).length → w.cell? ⟨b, o + j, none⟩ = some (f j)) :
      RC w F (.lst z elems) (.slice (some ⟨b, o, none⟩) elems.length cap)

theorem RC.one {w : World} {F : Nat → Prop} {d : D} {u : Value} (h : RC w F d u) : u.oneCell' = true := by
  cases h with
  | v h => exact h
  | lst => rfl

theorem RC.mono {w w' : World} {F F' : Nat → Prop} {d : D} {u : Value} (h : RC w F d u) (h1 : ∀ b, F b → F' b)
    (h2 : ∀ b, F b → w'.heap[b]? = w.heap[b]?) : RC w' F' d u := by
  induction h with
  | v h => exact .v h
  | lst f hn hc hF hz hr hw ih => exact .lst f hn hc (h1 _ hF) hz ih (fun j hj => (World.cell?_of_block (h2 _ hF)).trans (hw j hj))

def RD (w : World) (F : Nat → Prop) : D → Value → Prop
  | .agg xs, u => ∃ us : Array Value, u = .agg us ∧ us.size = xs.length ∧ ∀ j d, xs[j]? = some d → RC w F d (us.getD j undef)
  | d, u => RC w F d u

theorem RD.mono {w w' : World} {F F' : Nat → Prop} {d : D} {u : Value} (h : RD w F d u) (h1 : ∀ b, F b → F' b)
    (h2 : ∀ b, F b → w'.heap[b]? = w.heap[b]?) : RD w' F' d u := by
  cases d with
  | agg xs => obtain ⟨us, hu, hs, hc⟩ := h; exact ⟨us, hu, hs, fun j d hd => (hc j d hd).mono h1 h2⟩
  | v x => exact RC.mono h h1 h2
  | lst z e => exact RC.mono h h1 h2

def bsz (w : World) (k : Nat) : Nat :=
  match w.heap[k]? with
  | some (.cells cs _ _) => cs.size
  | _ => 0

structure Kp (G : Nat → Prop) (w w' : World) : Prop where
  os : w'.os = w.os
  tape : w'.tape = w.tape
  output : w'.output = w.output
  size : w.heap.size ≤ w'.heap.size
  block : ∀ k, k < w.heap.size → ¬ G k → w'.heap[k]? = w.heap[k]?
  bsz : ∀ k, k < w.heap.size → bsz w' k = bsz w k

theorem Kp.refl (G : Nat → Prop) (w : World) : Kp G w w := ⟨rfl, rfl, rfl, Nat.le_refl _, fun _ _ _ => rfl, fun _ _ => rfl⟩
theorem Kp.trans {G H K : Nat → Prop} {a b c : World} (h : Kp G a b) (k : Kp H b c) (h1 : ∀ i, i < a.heap.size → G i → K i) (h2 : ∀ i, i < a.heap.size → H i → K i) : Kp K a c :=
  ⟨k.os.trans h.os, k.tape.trans h.tape, k.output.trans h.output, Nat.le_trans h.size k.size,
    fun i hi hn => (k.block i (Nat.lt_of_lt_of_le hi h.size) (fun x => hn (h2 i hi x))).trans (h.block i hi (fun x => hn (h1 i hi x))),
    fun i hi => (k.bsz i (Nat.lt_of_lt_of_le hi h.size)).trans (h.bsz i hi)⟩
theorem Kp.mono {G K : Nat → Prop} {a b : World} (h : Kp G a b) (h1 : ∀ i, i < a.heap.size → G i → K i) : Kp K a b :=
  ⟨h.os, h.tape, h.output, h.size, fun i hi hn => h.block i hi (fun x => hn (h1 i hi x)), h.bsz⟩
theorem Kp.alloc (G : Nat → Prop) (w : World) (o : Obj) : Kp G w (w.alloc o) := ⟨rfl, rfl, rfl, by simp, fun k hk _ => heap_alloc_old w o k hk, fun k hk => by simp only [Va.bsz, heap_alloc_old w o k hk]⟩
theorem Kp.drew (G : Nat → Prop) (w : World) : Kp G w w.drew := ⟨rfl, rfl, rfl, Nat.le_refl _, fun _ _ _ => rfl, fun _ _ => rfl⟩
def okF (P : Program) (f : FuncId) : Prop := ∃ fn, P.funcs[f]? = some fn ∧ (fn.name == "runtime.NumGoroutine") = false ∧ fn.body.isNone = false

def PFN (P : Program) (w : World) (F : Nat → Prop) (g : List D → Value → Prop) (u : Value) : Prop :=
  ∃ (f : FuncId) (caps : Array Value) (S : Nat → Prop), u = .func (.func f) #[] caps ∧ okF P f ∧ (∀ b, S b → F b ∧ b < w.heap.size) ∧
    ∀ w' : World, (∀ b, S b → w'.heap[b]? = w.heap[b]?) → w.heap.size ≤ w'.heap.size →
      ∀ (ds : List D) (r : Value) (us : Array Value), g ds r → us.size = ds.length →
        (∀ j d, ds[j]? = some d → RD w' (fun b => b < w'.heap.size) d (us.getD j undef)) →
        Calls P f (us ++ caps) w' fun e w'' => e = .returned r ∧ Kp (fun _ => False) w' w''

theorem PFN.mono {P : Program} {w w' : World} {F F' : Nat → Prop} {g : List D → Value → Prop} {u : Value} (h : PFN P w F g u)
    (h1 : ∀ b, F b → F' b) (h2 : ∀ b, F b → w'.heap[b]? = w.heap[b]?) (hs : w.heap.size ≤ w'.heap.size) : PFN P w' F' g u := by
  obtain ⟨f, caps, S, hu, hok, hS, hc⟩ := h
  refine ⟨f, caps, S, hu, hok, fun b hb => ⟨h1 b (hS b hb).1, Nat.lt_of_lt_of_le (hS b hb).2 hs⟩, fun w2 hb hs2 => ?_⟩
  exact hc w2 (fun b hb' => (hb b hb').trans (h2 b (hS b hb').1)) (Nat.le_trans hs hs2)

inductive AV where
  | d (x : D)
  | agg (xs : List AV)
  | tup (xs : List AV)
  | ref (i c : Nat)
  | sl (i c n z : Nat)
  | iref (cells : List D) (c : Nat)
  | fn (f : FuncId) (caps : List AV)
  | pfn (g : List D → Value → Prop)
  | emp
  | is (x : AV) (v : Value)
  | any

structure Loc where
  b : Nat
  o : Nat
  size : Nat

inductive VR (P : Program) (w : World) (F : Nat → Prop) (loc : List Loc) : AV → Value → Prop
  | d {x : D} {u : Value} (h : RD w F x u) : VR P w F loc (.d x) u
  | agg {xs : List AV} (us : Array Value) (hs : us.size = xs.length) (h1 : ∀ j, (us.getD j undef).oneCell' = true ∨ us.size ≤ j)
      (h : ∀ j x, xs[j]? = some x → VR P w F loc x (us.getD j undef)) : VR P w F loc (.agg xs) (.agg us)
  | tup {xs : List AV} (us : Array Value) (hs : us.size = xs.length) (h : ∀ j x, xs[j]? = some x → VR P w F loc x (us.getD j undef)) :
      VR P w F loc (.tup xs) (.tuple us)
  | ref {i c : Nat} {l : Loc} (h : loc[i]? = some l) : VR P w F loc (.ref i c) (.pointer (some ⟨l.b, l.o + c, none⟩))
  | sl {i c n z cap x : Nat} {l : Loc} (h : loc[i]? = some l) (hx : x = l.o + c ∨ cap = 0) (hn : n ≤ cap) (hc : cap ≤ maxLen) (hs : l.o + c + cap * z ≤ l.size) :
      VR P w F loc (.sl i c n z) (.slice (some ⟨l.b, x, none⟩) n cap)
  | emp {a : Addr} : VR P w F loc .emp (.slice (some a) 0 0)
  | iref {cells : List D} {c b o : Nat} (f : Nat → Value) (hF : F b) (hr : ∀ j d, cells[j]? = some d → RC w F d (f j))
      (hw : ∀ j, j < cells.length → w.cell? ⟨b, o + j, none⟩ = some (f j)) : VR P w F loc (.iref cells c) (.pointer (some ⟨b, o + c, none⟩))
  | fn {f : FuncId} {caps : List AV} (us : Array Value) (hs : us.size = caps.length) (h : ∀ j x, caps[j]? = some x → VR P w F loc x (us.getD j undef)) :
      VR P w F loc (.fn f caps) (.func (.func f) #[] us)
  | pfn {g : List D → Value → Prop} {u : Value} (h : PFN P w F g u) : VR P w F loc (.pfn g) u
  | is {x : AV} {v u : Value} (h : VR P w F loc x u) (e : u = v) : VR P w F loc (.is x v) u
  | any {u : Value} : VR P w F loc .any u

theorem VR.mono {P : Program} {w w' : World} {F F' : Nat → Prop} {loc loc' : List Loc} {x : AV} {u : Value} (h : VR P w F loc x u)
    (h1 : ∀ b, F b → F' b) (h2 : ∀ b, F b → w'.heap[b]? = w.heap[b]?) (hs : w.heap.size ≤ w'.heap.size)
    (h3 : ∀ (i : Nat) (l : Loc), loc[i]? = some l → loc'[i]? = some l) : VR P w' F' loc' x u := by
  induction h with
  | d h => exact .d (h.mono h1 h2)
  | agg us hs ho h ih => exact .agg us hs ho ih
  | tup us hs h ih => exact .tup us hs ih
  | ref h => exact .ref (h3 _ _ h)
  | sl h x a b c => exact .sl (h3 _ _ h) x a b c
  | emp => exact .emp
  | iref f hF hr hw => exact .iref f (h1 _ hF) (fun j d hd => (hr j d hd).mono h1 h2) (fun j hj => (World.cell?_of_block (h2 _ hF)).trans (hw j hj))
  | fn us hs h ih => exact .fn us hs ih
  | pfn h => exact .pfn (h.mono h1 h2 hs)
  | is h e ih => exact .is ih e
  | any => exact .any

inductive Blk where
  | dat (z : Nat) (elems : List D)
  | var (cells : List D)
  | mix (cells : List AV)

def Blk.len : Blk → Nat
  | .dat _ es => (flat es).length
  | .var cs => cs.length
  | .mix cs => cs.length

def RB (P : Program) (w : World) (F : Nat → Prop) (loc : List Loc) : Blk → (Nat → Value) → Prop
  | .dat z es, f => (∀ e, e ∈ es → e.cells.length = z) ∧ ∀ j d, (flat es)[j]? = some d → RC w F d (f j)
  | .var cs, f => ∀ j d, cs[j]? = some d → RC w F d (f j)
  | .mix cs, f => ∀ j x, cs[j]? = some x → VR P w F loc x (f j) ∧ (f j).oneCell' = true

theorem RB.mono {P : Program} {w w' : World} {F F' : Nat → Prop} {loc loc' : List Loc} {B : Blk} {f : Nat → Value} (h : RB P w F loc B f)
    (h1 : ∀ b, F b → F' b) (h2 : ∀ b, F b → w'.heap[b]? = w.heap[b]?) (hs : w.heap.size ≤ w'.heap.size)
    (h3 : ∀ (i : Nat) (l : Loc), loc[i]? = some l → loc'[i]? = some l) : RB P w' F' loc' B f := by
  cases B with
  | dat z es => exact ⟨h.1, fun j d hd => (h.2 j d hd).mono h1 h2⟩
  | var cs => exact fun j d hd => (h j d hd).mono h1 h2
  | mix cs => exact fun j x hx => ⟨(h j x hx).1.mono h1 h2 hs h3, (h j x hx).2⟩

abbrev Sto := List (Option Blk)
structure ASt where
  tm : List (Nat × AV)
  sto : Sto

def Own (sto : Sto) (loc : List Loc) (b : Nat) : Prop := ∃ (i : Nat) (B : Blk) (l : Loc), sto[i]? = some (some B) ∧ loc[i]? = some l ∧ l.b = b
def Fre (A : Nat → Prop) (w : World) (sto : Sto) (loc : List Loc) (b : Nat) : Prop := b < w.heap.size ∧ ¬ Own sto loc b ∧ A b

def At (w : World) (l : Loc) (n : Nat) (f : Nat → Value) : Prop :=
  ∃ (cs : Array Value) (t : TypeId), w.heap[l.b]? = some (.cells cs t (0, 0)) ∧ cs.size = l.size ∧ l.o + n ≤ l.size ∧ ∀ j, j < n → cs[l.o + j]? = some (f j)

structure SR (P : Program) (w0 : World) (G A : Nat → Prop) (sto : Sto) (loc : List Loc) (w : World) : Prop where
  len : loc.length = sto.length
  inj : ∀ (i j : Nat) (B C : Blk) (l m : Loc), sto[i]? = some (some B) → sto[j]? = some (some C) → loc[i]? = some l → loc[j]? = some m → l.b = m.b → i = j
  mine : ∀ b, Own sto loc b → G b ∨ w0.heap.size ≤ b
  blk : ∀ (i : Nat) (B : Blk) (l : Loc), sto[i]? = some (some B) → loc[i]? = some l → ∃ f, At w l B.len f ∧ RB P w (Fre A w sto loc) loc B f
  kept : Kp G w0 w
  al : ∀ b, G b ∨ w0.heap.size ≤ b → A b

def val (gh : List Value) (N : Nat) (a : Act) (k : Nat) : Value := if k < N then a.tmps.getD k undef else if k < N + 1000 then gh.getD (k - N) undef else .pointer (some ⟨k - N - 1000, 0, none⟩)

structure SAT (P : Program) (w0 : World) (G A : Nat → Prop) (gh : List Value) (N : Nat) (st : ASt) (a : Act) (w : World) : Prop where
  defers : a.defers = []
  size : a.tmps.size = N
  ex : ∃ loc : List Loc, SR P w0 G A st.sto loc w ∧ ∀ k x, (k, x) ∈ st.tm → VR P w (Fre A w st.sto loc) loc x (val gh N a k)

end Go.Proofs.Ytccfejnckmokkaa.Va

/-! Steps of the frame: what a step leaves as it was stays known. Condition: none. -/
namespace Go.Proofs.Ytccfejnckmokkaa.Va
open Go

section
variable {P : Program} {w0 : World} {G A : Nat → Prop} {gh : List Value} {N : Nat}

theorem Own.ext {sto : Sto} {loc loc' : List Loc} {b : Nat} (h : Own sto loc b) (h3 : ∀ (i : Nat) (l : Loc), loc[i]? = some l → loc'[i]? = some l) : Own sto loc' b := by
  obtain ⟨i, B, l, h1, h2, h4⟩ := h; exact ⟨i, B, l, h1, h3 _ _ h2, h4⟩

theorem At.lt {w : World} {l : Loc} {n : Nat} {f : Nat → Value} (h : At w l n f) : l.b < w.heap.size := by
  obtain ⟨cs, t, h, _⟩ := h; exact (Array.getElem?_eq_some_iff.1 h).1

theorem At.same {w w' : World} {l : Loc} {n : Nat} {f : Nat → Value} (h : At w l n f) (e : w'.heap[l.b]? = w.heap[l.b]?) : At w' l n f := by
  obtain ⟨cs, t, h, r⟩ := h; exact ⟨cs, t, e.trans h, r⟩

theorem At.cell {w : World} {l : Loc} {n : Nat} {f : Nat → Value} (h : At w l n f) {j : Nat} (hj : j < n) : w.cell? ⟨l.b, l.o + j, none⟩ = some (f j) := by
  obtain ⟨cs, t, h, _, _, r⟩ := h
  rw [cell_of_row w l.b (l.o + j) cs t (0, 0) h]; exact r j hj

theorem At.froz {w : World} {l : Loc} {n : Nat} {f : Nat → Value} (h : At w l n f) (k : Nat) : w.frozen? ⟨l.b, k, none⟩ = false := by
  obtain ⟨cs, t, h, _⟩ := h; exact frozen_of_row w l.b k cs t h

theorem SR.lt {sto : Sto} {loc : List Loc} {w : World} (h : SR P w0 G A sto loc w) {b : Nat} (ho : Own sto loc b) : b < w.heap.size := by
  obtain ⟨i, B, l, h1, h2, rfl⟩ := ho
  obtain ⟨f, hf, _⟩ := h.blk i B l h1 h2
  exact hf.lt

theorem SR.step {sto sto' : Sto} {loc loc' : List Loc} {w w' : World} {K : Nat → Prop} (h : SR P w0 G A sto loc w) (hk : Kp K w w')
    (hK : ∀ b, K b → Own sto loc b) (hlen : loc'.length = sto'.length) (hext : ∀ (i : Nat) (l : Loc), loc[i]? = some l → loc'[i]? = some l)
    (hown : ∀ b, Own sto' loc' b → Own sto loc b ∨ w.heap.size ≤ b)
    (hinj : ∀ (i j : Nat) (B C : Blk) (l m : Loc), sto'[i]? = some (some B) → sto'[j]? = some (some C) → loc'[i]? = some l → loc'[j]? = some m → l.b = m.b → i = j)
    (hblk : (∀ x u, VR P w (Fre A w sto loc) loc x u → VR P w' (Fre A w' sto' loc') loc' x u) →
      (∀ d u, RC w (Fre A w sto loc) d u → RC w' (Fre A w' sto' loc') d u) →
      ∀ (i : Nat) (B : Blk) (l : Loc), sto'[i]? = some (some B) → loc'[i]? = some l →
        (sto[i]? = some (some B) ∧ loc[i]? = some l ∧ ¬ K l.b) ∨ ∃ f, At w' l B.len f ∧ RB P w' (Fre A w' sto' loc') loc' B f) :
    SR P w0 G A sto' loc' w' ∧ (∀ x u, VR P w (Fre A w sto loc) loc x u → VR P w' (Fre A w' sto' loc') loc' x u) := by
  have hF : ∀ b, Fre A w sto loc b → Fre A w' sto' loc' b := fun b hb =>
    ⟨Nat.lt_of_lt_of_le hb.1 hk.size, fun ho => (hown b ho).elim hb.2.1 (fun hs => absurd hb.1 (by omega)), hb.2.2⟩
  have hB : ∀ b, Fre A w sto loc b → w'.heap[b]? = w.heap[b]? := fun b hb => hk.block b hb.1 (fun x => hb.2.1 (hK b x))
  have hV : ∀ x u, VR P w (Fre A w sto loc) loc x u → VR P w' (Fre A w' sto' loc') loc' x u := fun x u hx => hx.mono hF hB hk.size hext
  refine ⟨⟨hlen, hinj, ?_, ?_, ?_, h.al⟩, hV⟩
  · intro b hb
    rcases hown b hb with ho | ho
    · exact h.mine b ho
    · exact .inr (Nat.le_trans h.kept.size ho)
  · intro i B l h1 h2
    rcases hblk hV (fun d u hd => hd.mono hF hB) i B l h1 h2 with ⟨h3, h4, h5⟩ | hr
    · obtain ⟨f, ha, hr⟩ := h.blk i B l h3 h4
      exact ⟨f, ha.same (hk.block l.b ha.lt h5), hr.mono hF hB hk.size hext⟩
    · exact hr
  · refine h.kept.trans hk (fun _ _ x => x) (fun i hi hKi => ?_)
    rcases h.mine i (hK i hKi) with x | x
    · exact x
    · omega

/-! ### Slots -/

def lk : List (Nat × AV) → Nat → AV
  | [], _ => .any
  | (j, x) :: r, k => if j = k then x else lk r k

def del (k : Nat) : List (Nat × AV) → List (Nat × AV)
  | [] => []
  | (j, x) :: r => if j = k then del k r else (j, x) :: del k r

def pt (k : Nat) (x : AV) (tm : List (Nat × AV)) : List (Nat × AV) := (k, x) :: del k tm

theorem lk_mem (tm : List (Nat × AV)) (k : Nat) : lk tm k = .any ∨ (k, lk tm k) ∈ tm := by
  induction tm with
  | nil => exact .inl rfl
  | cons p r ih =>
    obtain ⟨j, x⟩ := p
    by_cases h : j = k
    · subst h; simp [lk]
    · simp only [lk, if_neg h]
      exact ih.imp id (fun h => List.mem_cons_of_mem _ h)

theorem del_mem {k : Nat} {tm : List (Nat × AV)} {p : Nat × AV} (h : p ∈ del k tm) : p ∈ tm ∧ p.1 ≠ k := by
  induction tm with
  | nil => simp [del] at h
  | cons q r ih =>
    obtain ⟨j, x⟩ := q
    by_cases e : j = k
    · simp only [del, if_pos e] at h
      exact ⟨List.mem_cons_of_mem _ (ih h).1, (ih h).2⟩
    · simp only [del, if_neg e, List.mem_cons] at h
      rcases h with rfl | h
      · exact ⟨List.mem_cons_self, e⟩
      · exact ⟨List.mem_cons_of_mem _ (ih h).1, (ih h).2⟩

theorem val_put_same {a : Act} {d : Nat} {v : Value} (hN : a.tmps.size = N) (h : d < N) : val gh N (a.put (some d) v) d = v := by
  simp only [val, if_pos h, Act.put]
  simp [hN, h]

theorem val_put_ne {a : Act} {d k : Nat} {v : Value} (h : k ≠ d) : val gh N (a.put (some d) v) k = val gh N a k := by
  simp only [val, Act.put]
  split
  · simp [Ne.symm h]
  · rfl

theorem val_put_none {a : Act} {k : Nat} {v : Value} : val gh N (a.put none v) k = val gh N a k := rfl

theorem SAT.lk {st : ASt} {a : Act} {w : World} {loc : List Loc} (h : ∀ k x, (k, x) ∈ st.tm → VR P w (Fre A w st.sto loc) loc x (val gh N a k)) (k : Nat) :
    VR P w (Fre A w st.sto loc) loc (lk st.tm k) (val gh N a k) := by
  rcases lk_mem st.tm k with e | e
  · rw [e]; exact .any
  · exact h _ _ e

def ptO (d : Option Nat) (x : AV) (tm : List (Nat × AV)) : List (Nat × AV) :=
  match d with
  | some d => pt d x tm
  | none => tm

theorem SAT.of_step {st : ASt} {sto' : Sto} {a : Act} {w w' : World} {loc loc' : List Loc} {d : Option Nat} {x : AV} {v : Value} (hd : a.defers = []) (hN : a.tmps.size = N)
    (htm : ∀ k x, (k, x) ∈ st.tm → VR P w (Fre A w st.sto loc) loc x (val gh N a k))
    (hdN : ∀ k, d = some k → k < N)
    (h : SR P w0 G A sto' loc' w' ∧ (∀ x u, VR P w (Fre A w st.sto loc) loc x u → VR P w' (Fre A w' sto' loc') loc' x u))
    (hx : VR P w' (Fre A w' sto' loc') loc' x v) :
    SAT P w0 G A gh N ⟨ptO d x st.tm, sto'⟩ (a.put d v) w' := by
  refine ⟨?_, ?_, loc', h.1, ?_⟩
  · cases d <;> exact hd
  · cases d with
    | none => exact hN
    | some k => simp [Act.put, hN]
  · intro k y hy
    cases d with
    | none => exact h.2 _ _ (htm k y hy)
    | some e =>
      simp only [ptO, pt, List.mem_cons] at hy
      rcases hy with hy | hy
      · cases hy
        rw [val_put_same hN (hdN _ rfl)]; exact hx
      · obtain ⟨hy, hne⟩ := del_mem hy
        rw [val_put_ne hne]; exact h.2 _ _ (htm k y hy)

theorem SAT.quiet {st : ASt} {a : Act} {w : World} {loc : List Loc} {d : Option Nat} {x : AV} {v : Value} (hd : a.defers = []) (hN : a.tmps.size = N)
    (hs : SR P w0 G A st.sto loc w) (htm : ∀ k x, (k, x) ∈ st.tm → VR P w (Fre A w st.sto loc) loc x (val gh N a k))
    (hdN : ∀ k, d = some k → k < N) (hx : VR P w (Fre A w st.sto loc) loc x v) :
    SAT P w0 G A gh N ⟨ptO d x st.tm, st.sto⟩ (a.put d v) w :=
  SAT.of_step hd hN htm hdN ⟨hs, fun _ _ h => h⟩ hx

theorem SAT.less {st : ASt} {tm' : List (Nat × AV)} {a : Act} {w : World} (h : SAT P w0 G A gh N st a w) (hs : ∀ p, p ∈ tm' → p ∈ st.tm) :
    SAT P w0 G A gh N ⟨tm', st.sto⟩ a w := by
  obtain ⟨h1, h2, loc, h3, h4⟩ := h
  exact ⟨h1, h2, loc, h3, fun k x hx => h4 k x (hs _ hx)⟩

/-! ### The store -/

theorem getElem?_set_some {α : Type} {l : List α} {i j : Nat} {x y : α} (h : (l.set i x)[j]? = some y) : (i = j ∧ y = x ∧ j < l.length) ∨ (i ≠ j ∧ l[j]? = some y) := by
  by_cases e : i = j
  · subst e
    have hl : i < l.length := by
      rcases Nat.lt_or_ge i l.length with x | x
      · exact x
      · rw [List.getElem?_eq_none (by simpa using x)] at h; cases h
    rw [List.getElem?_set_self hl] at h
    exact .inl ⟨rfl, (Option.some.inj h).symm, hl⟩
  · rw [List.getElem?_set_ne e] at h; exact .inr ⟨e, h⟩

theorem SR.kill {sto : Sto} {loc : List Loc} {w : World} (h : SR P w0 G A sto loc w) (i : Nat) :
    SR P w0 G A (sto.set i none) loc w ∧ (∀ x u, VR P w (Fre A w sto loc) loc x u → VR P w (Fre A w (sto.set i none) loc) loc x u) := by
  have old : ∀ (j : Nat) (B : Blk), (sto.set i none)[j]? = some (some B) → sto[j]? = some (some B) := fun j B hj => by
    rcases getElem?_set_some hj with ⟨_, e, _⟩ | ⟨_, e⟩
    · cases e
    · exact e
  refine h.step (K := fun _ => False) (Kp.refl _ w) (fun _ => False.elim) (by simpa using h.len) (fun _ _ h => h) ?_ ?_ ?_
  · rintro b ⟨j, B, l, h1, h2, h3⟩; exact .inl ⟨j, B, l, old j B h1, h2, h3⟩
  · intro a b B C l m h1 h2; exact h.inj a b B C l m (old _ _ h1) (old _ _ h2)
  · intro _ _ j B l h1 h2; exact .inl ⟨old _ _ h1, h2, fun x => x⟩

theorem SR.write {sto : Sto} {loc : List Loc} {w w' : World} (h : SR P w0 G A sto loc w) {i : Nat} {B B' : Blk} {l : Loc} (hi : sto[i]? = some (some B)) (hl : loc[i]? = some l)
    (hk : Kp (fun b => b = l.b) w w') {f : Nat → Value} (hat : At w' l B'.len f)
    (hB : (∀ x u, VR P w (Fre A w sto loc) loc x u → VR P w' (Fre A w' (sto.set i (some B')) loc) loc x u) →
      (∀ d u, RC w (Fre A w sto loc) d u → RC w' (Fre A w' (sto.set i (some B')) loc) d u) → RB P w' (Fre A w' (sto.set i (some B')) loc) loc B' f) :
    SR P w0 G A (sto.set i (some B')) loc w' ∧ (∀ x u, VR P w (Fre A w sto loc) loc x u → VR P w' (Fre A w' (sto.set i (some B')) loc) loc x u) := by
  have old : ∀ (j : Nat) (C : Blk), (sto.set i (some B'))[j]? = some (some C) → ∃ C', sto[j]? = some (some C') := fun j C hj => by
    rcases getElem?_set_some hj with ⟨rfl, _, _⟩ | ⟨_, e⟩
    · exact ⟨B, hi⟩
    · exact ⟨C, e⟩
  refine h.step (K := fun b => b = l.b) hk (fun b e => ⟨i, B, l, hi, hl, e.symm⟩) (by simpa using h.len) (fun _ _ h => h) ?_ ?_ ?_
  · rintro b ⟨j, C, m, h1, h2, h3⟩; obtain ⟨C', h4⟩ := old j C h1; exact .inl ⟨j, C', m, h4, h2, h3⟩
  · intro a b C E m n h1 h2; obtain ⟨C', h4⟩ := old _ _ h1; obtain ⟨E', h5⟩ := old _ _ h2; exact h.inj a b C' E' m n h4 h5
  · intro hV hR j C m h1 h2
    rcases getElem?_set_some h1 with ⟨rfl, e, _⟩ | ⟨hne, e⟩
    · cases e
      rw [hl] at h2; cases h2
      exact .inr ⟨f, hat, hB hV hR⟩
    · exact .inl ⟨e, h2, fun hb => hne (h.inj i j B C l m hi e hl h2 hb.symm)⟩

theorem SR.new {sto : Sto} {loc : List Loc} {w w' : World} (h : SR P w0 G A sto loc w) (hk : Kp (fun _ => False) w w') {B : Blk} {l : Loc} (hl : w.heap.size ≤ l.b)
    {f : Nat → Value} (hat : At w' l B.len f)
    (hB : (∀ x u, VR P w (Fre A w sto loc) loc x u → VR P w' (Fre A w' (sto ++ [some B]) (loc ++ [l])) (loc ++ [l]) x u) →
      (∀ d u, RC w (Fre A w sto loc) d u → RC w' (Fre A w' (sto ++ [some B]) (loc ++ [l])) d u) → RB P w' (Fre A w' (sto ++ [some B]) (loc ++ [l])) (loc ++ [l]) B f) :
    SR P w0 G A (sto ++ [some B]) (loc ++ [l]) w' ∧ (∀ x u, VR P w (Fre A w sto loc) loc x u → VR P w' (Fre A w' (sto ++ [some B]) (loc ++ [l])) (loc ++ [l]) x u) := by
  have cases_ : ∀ (j : Nat) (C : Blk) (m : Loc), (sto ++ [some B])[j]? = some (some C) → (loc ++ [l])[j]? = some m →
      (sto[j]? = some (some C) ∧ loc[j]? = some m) ∨ (j = sto.length ∧ C = B ∧ m = l) := fun j C m h1 h2 => by
    rcases Nat.lt_or_ge j sto.length with x | x
    · rw [List.getElem?_append_left x] at h1
      rw [List.getElem?_append_left (by rw [h.len]; exact x)] at h2
      exact .inl ⟨h1, h2⟩
    · rw [List.getElem?_append_right x] at h1
      rw [List.getElem?_append_right (by rw [h.len]; exact x)] at h2
      rcases Nat.lt_or_ge (j - sto.length) 1 with y | y
      · have hj : j = sto.length := by omega
        subst hj
        rw [h.len] at h2
        simp at h1 h2
        exact .inr ⟨rfl, h1.symm, h2.symm⟩
      · rw [List.getElem?_eq_none (by simpa using y)] at h1; cases h1
  refine h.step (K := fun _ => False) hk (fun _ => False.elim) (by simp [h.len]) (fun i m hm => by
    rw [List.getElem?_append_left]; exact hm; exact (List.getElem?_eq_some_iff.1 hm).1) ?_ ?_ ?_
  · rintro b ⟨j, C, m, h1, h2, rfl⟩
    rcases cases_ j C m h1 h2 with ⟨h3, h4⟩ | ⟨_, _, rfl⟩
    · exact .inl ⟨j, C, m, h3, h4, rfl⟩
    · exact .inr hl
  · intro a b C E m n h1 h2 h3 h4 e
    rcases cases_ a C m h1 h3 with ⟨x1, x2⟩ | ⟨rfl, _, rfl⟩ <;> rcases cases_ b E n h2 h4 with ⟨y1, y2⟩ | ⟨rfl, _, rfl⟩
    · exact h.inj a b C E m n x1 y1 x2 y2 e
    · have := h.lt ⟨a, C, m, x1, x2, rfl⟩; omega
    · have := h.lt ⟨b, E, n, y1, y2, rfl⟩; omega
    · rfl
  · intro hV hR j C m h1 h2
    rcases cases_ j C m h1 h2 with ⟨h3, h4⟩ | ⟨_, rfl, rfl⟩
    · exact .inl ⟨h3, h4, fun x => x⟩
    · exact .inr ⟨f, hat, hB hV hR⟩
end
end Go.Proofs.Ytccfejnckmokkaa.Va

/-! Operations that only compute or read: what they come to. Condition: none. -/
namespace Go.Proofs.Ytccfejnckmokkaa.Va
open Go

inductive Opd where
  | t (k : Nat)
  | c (x : Value)
  | f (f : FuncId)

inductive AOp where
  | mv (x : Opd)
  | pick (c a b : Opd)
  | bin (op : BinOp) (x y : Opd)
  | eqb (ng : Bool) (x y : Opd)
  | eqs (op : BinOp) (x y : Opd)
  | eqg (n : Nat) (k : IntKind) (ng : Bool) (x y : Opd)
  | isn (ng : Bool) (x : Opd)
  | un (op : UnOp) (x : Opd)
  | cvt (k : IntKind) (x : Opd)
  | b2s (x : Opd)
  | xts (ix : Bool) (x y : Opd)
  | ld (agg : Bool) (n : Nat) (x : Opd)
  | fld (off n : Nat) (agg : Bool) (x : Opd)
  | fad (off : Nat) (x : Opd)
  | ixs (z : Nat) (x i : Opd)
  | ixa (len z : Nat) (x i : Opd)
  | ixv (len : Nat) (x i : Opd)
  | ixt (x i : Opd)
  | slc (z : Nat) (x : Opd) (lo hi : Option Opd)
  | slt (x : Opd) (lo hi : Option Opd)
  | em0 (x : Opd) (hi mx : Opd)
  | bld (zs : List D) (parts : List (Nat × Opd))
  | mkf (f : FuncId) (caps : List Opd)
  | len (x : Opd)
  | lns (x : Opd)
  | cap (x : Opd)
  | mn (x y : Opd)
  | mx (x y : Opd)
  | ext (x : Opd) (i : Nat)
  | nlc (x : Opd)
  | alloc (zs : List D)
  | box (x : Opd)
  | bsl (z : Nat) (xs : List Opd)
  | mks (z : Nat) (zero : D) (bytes : Nat) (n c : Opd)
  | st (agg : Bool) (n : Nat) (x y : Opd)
  | app (z : Nat) (bytes : Nat) (x y : Opd)
  | apm (z : Nat) (zero : D) (bytes : Nat) (x y : Opd)
  | cpy (z : Nat) (x y : Opd)
  | clr (z : Nat) (zero : D) (x : Opd)
  | sla (n z : Nat) (x : Opd)
  | call (f : FuncId) (xs : List Opd)
  | cav (x : Opd) (xs : List Opd)

def lowO (N : Nat) : Operand → Option Opd
  | .tmp t => if t < N then some (.t t) else none
  | .const v => if v.oneCell' then some (.c v) else none
  | .func f => some (.f f)
  | .global g => some (.t (N + 1000 + g))

def szOf (P : Program) (t : TypeId) : Option Nat := (P.info? t).map (·.size)
def slEl (P : Program) (t : TypeId) : Option TypeId :=
  match P.underlying t with
  | some (.slice e) => some e
  | _ => none
def isAggT (P : Program) (t : TypeId) : Option Bool :=
  match P.underlying t with
  | some (.struct _) | some (.array _ _) => some true
  | some _ => some false
  | none => none

def bytesOf (P : Program) (t : TypeId) : Option Nat := (P.info? t).map (·.bytes)
def zerosOf (P : Program) (t : TypeId) : Option (List Value) := (P.info? t).bind fun i => i.zero.bind fun z => if z.cells.all (·.oneCell') && z.cells.size == i.size then some z.cells.toList else none

def lowOs (N : Nat) : List Operand → Option (List Opd)
  | [] => some []
  | x :: r => (lowO N x).bind fun y => (lowOs N r).map (y :: ·)

def lowOO (N : Nat) : Option Operand → Option (Option Opd)
  | none => some none
  | some x => (lowO N x).map some

def lowB (P : Program) (N : Nat) : Builtin → List Operand → List TypeId → Option AOp
  | .len, [x], [t] => (lowO N x).bind fun x' =>
    match P.underlying t with
    | some (.slice _) => some (.len x')
    | some .string => some (.lns x')
    | _ => none
  | .cap, [x], [t] => (lowO N x).bind fun x' =>
    match P.underlying t with
    | some (.slice _) => some (.cap x')
    | _ => none
  | .min, [x, y], _ => (lowO N x).bind fun x' => (lowO N y).map (.mn x' ·)
  | .max, [x, y], _ => (lowO N x).bind fun x' => (lowO N y).map (.mx x' ·)
  | _, _, _ => none

def zeroD (P : Program) (e : TypeId) : Option D := (P.info? e).bind fun i =>
  match i.zero with
  | some (.agg cs) => if cs.all (·.oneCell') = true ∧ cs.size = i.size then some (.agg (cs.toList.map .v)) else none
  | some v => if v.oneCell' = true ∧ i.size = 1 then some (.v v) else none
  | none => none

def lowPs (P : Program) (N : Nat) (place : Nat → Option Nat) : List (Nat × Operand) → Option (List (Nat × Opd))
  | [] => some []
  | (i, x) :: r => (place i).bind fun o => (lowO N x).bind fun y => (lowPs P N place r).map ((o, y) :: ·)

def lowX (P : Program) (N : Nat) (f : FuncId) : List Operand → Option AOp
  | [x, y] => (lowO N x).bind fun x' => (lowO N y).bind fun y' => (P.funcs[f]?).bind fun fn =>
    if fn.body.isNone = true ∧ fn.origin = "" then
      (if fn.name = "internal/bytealg.CountString" then some (.xts false x' y') else if fn.name = "internal/bytealg.IndexByteString" then some (.xts true x' y') else none)
    else none
  | _ => none
def lowQ (P : Program) (N : Nat) : Op → Option AOp
  | .move x | .assign x => (lowO N x).map .mv
  | .pick c a b => (lowO N c).bind fun c => (lowO N a).bind fun a => (lowO N b).map (.pick c a ·)
  | .binOp op t x y _ => (lowO N x).bind fun x' => (lowO N y).bind fun y' =>
    match P.underlying t with
    | some (.int _) => some (.bin op x' y')
    | some .bool => (match op with | .eql => some (.eqb false x' y') | .neq => some (.eqb true x' y') | _ => none)
    | some .string => some (.eqs op x' y')
    | some (.slice _) => (match op, x, y with
      | .eql, _, .const (.slice none 0 0) => some (.isn false x')
      | .neq, _, .const (.slice none 0 0) => some (.isn true x')
      | _, _, _ => none)
    | some (.array n e) => if P.eqGuardType P.depth t = true then none else (match P.underlying e, szOf P e, op with
      | some (.int k), some 1, .eql => some (.eqg n k false x' y')
      | some (.int k), some 1, .neq => some (.eqg n k true x' y')
      | _, _, _ => none)
    | _ => none
  | .unOp op _ x => (lowO N x).map (.un op)
  | .convert src dst x => (lowO N x).bind fun x' =>
    match P.underlying src, P.underlying dst with
    | some (.int _), some (.int k) => some (.cvt k x')
    | some (.slice e), some .string => (match P.underlying e with | some (.int .u8) => some (.b2s x') | _ => none)
    | _, _ => none
  | .load t x => (lowO N x).bind fun x' => (isAggT P t).bind fun ag => (szOf P t).map fun n => .ld ag n x'
  | .fieldAddr s x f => (lowO N x).bind fun x' =>
    match P.underlying s with
    | some (.struct fs) => (fs[f]?).bind fun f => (szOf P f.type).bind fun n => if n = 0 then none else some (.fad f.offset x')
    | _ => none
  | .field s x f => (lowO N x).bind fun x' =>
    match P.underlying s with
    | some (.struct fs) => (fs[f]?).bind fun f => (isAggT P f.type).bind fun ag => (szOf P f.type).map fun n => .fld f.offset n ag x'
    | _ => none
  | .indexAddr t x i => (lowO N x).bind fun x' => (lowO N i).bind fun i' =>
    match P.underlying t with
    | some (.slice e) => (szOf P e).map fun z => .ixs z x' i'
    | some (.array n e) => (szOf P e).map fun z => .ixa n z x' i'
    | _ => none
  | .index t x i => (lowO N x).bind fun x' => (lowO N i).bind fun i' =>
    match P.underlying t with
    | some (.array n e) => (match isAggT P e, szOf P e with | some false, some 1 => some (.ixv n x' i') | _, _ => none)
    | some .string => some (.ixt x' i')
    | _ => none
  | .slice t x lo hi mx => (lowO N x).bind fun x' =>
    match P.underlying t, lo, hi, mx with
    | some (.slice e), lo, hi, none => (szOf P e).bind fun z => (lowOO N lo).bind fun lo => (lowOO N hi).map fun hi => .slc z x' lo hi
    | some (.slice e), none, some h, some m => (szOf P e).bind fun _ => (lowO N h).bind fun h => (lowO N m).map fun m => .em0 x' h m
    | some .string, lo, hi, none => (lowOO N lo).bind fun lo => (lowOO N hi).map fun hi => .slt x' lo hi
    | _, _, _, _ => none
  | .build t ps => (zeroD P t).bind fun d =>
    match d, P.underlying t with
    | .agg zs, some (.struct fs) => if fs.all (fun f => (szOf P f.type).isSome) then (lowPs P N (fun i => (fs[i]?).bind fun f => (szOf P f.type).bind fun n => if n = 1 ∧ f.offset < zs.length then some f.offset else none) ps.toList).map (.bld zs) else none
    | .agg zs, some (.array _ e) => if szOf P e = some 1 then (lowPs P N (fun i => if i < zs.length then some i else none) ps.toList).map (.bld zs) else none
    | _, _ => none
  | .makeFunc fn first caps => (match fn, first.toList with | .func f, [] => (lowOs N caps.toList).map (.mkf f) | _, _ => none)
  | .extract x i => (lowO N x).map (.ext · i)
  | .nilCheck x => (lowO N x).map .nlc
  | .call c => (match c.callee with | .builtin b => lowB P N b c.args.toList c.argTypes.toList | .value (.func f) => lowX P N f c.args.toList | _ => none)
  | _ => none

/-! ### What they come to -/

def evO (tm : List (Nat × AV)) : Opd → AV
  | .t k => lk tm k
  | .c x => .d (.v x)
  | .f f => .fn f []

def bitsI (op : BinOp) (k : IntKind) (a b : Int) : Int :=
  match op with
  | .and => k.wrap (BitVec.ofInt k.bits a &&& BitVec.ofInt k.bits b).toNat
  | .or => k.wrap (BitVec.ofInt k.bits a ||| BitVec.ofInt k.bits b).toNat
  | .xor => k.wrap (BitVec.ofInt k.bits a ^^^ BitVec.ofInt k.bits b).toNat
  | _ => k.wrap (BitVec.ofInt k.bits a &&& ~~~BitVec.ofInt k.bits b).toNat

def binI (op : BinOp) (k : IntKind) (a b : Int) : Option Value :=
  match op with
  | .add => some (.int k (k.wrap (a + b)))
  | .sub => some (.int k (k.wrap (a - b)))
  | .mul => some (.int k (k.wrap (a * b)))
  | .quo => if b = 0 then none else some (.int k (k.wrap (a.tdiv b)))
  | .rem => if b = 0 then none else some (.int k (a.tmod b))
  | .and | .or | .xor | .andNot => some (.int k (bitsI op k a b))
  | .shl => if b < 0 then none else some (.int k (k.wrap (a * 2 ^ min b.toNat k.bits)))
  | .shr => if b < 0 then none else some (.int k (a.fdiv (2 ^ min b.toNat k.bits)))
  | .eql => some (.bool (a == b))
  | .neq => some (.bool (a != b))
  | .lss => some (.bool (decide (a < b)))
  | .leq => some (.bool (decide (a ≤ b)))
  | .gtr => some (.bool (decide (b < a)))
  | .geq => some (.bool (decide (b ≤ a)))

def BinOp.isShift : BinOp → Bool
  | .shl | .shr => true
  | _ => false

def binA (op : BinOp) : AV → AV → Option AV
  | .d (.v (.int k a)), .d (.v (.int k' b)) => if BinOp.isShift op = true ∨ k = k' then (binI op k a b).map fun v => .d (.v v) else none
  | _, _ => none

def eqbA (ng : Bool) : AV → AV → Option AV
  | .d (.v (.bool a)), .d (.v (.bool b)) => some (.d (.v (.bool (if ng then a != b else a == b))))
  | _, _ => none

def eqsA (op : BinOp) : AV → AV → Option AV
  | .d (.v (.string a)), .d (.v (.string b)) =>
    match op with
    | .eql => some (.d (.v (.bool (a.toList == b.toList))))
    | .neq => some (.d (.v (.bool (!(a.toList == b.toList)))))
    | .add => if a.size + b.size ≤ maxLen then some (.d (.v (.string (a ++ b)))) else none
    | _ => none
  | _, _ => none

def kindI (k : IntKind) : List D → Option (List Int)
  | [] => some []
  | .v (.int k' n) :: r => if k' = k then (kindI k r).map (n :: ·) else none
  | _ :: _ => none

def eqgA (n : Nat) (k : IntKind) (ng : Bool) : AV → AV → Option AV
  | .d (.agg xs), .d (.agg ys) => (kindI k xs).bind fun a => (kindI k ys).bind fun b => if a.length = n ∧ b.length = n then some (.d (.v (.bool (if ng then !(a == b) else a == b)))) else none
  | _, _ => none

def b2sB : Option (Option Blk) → Nat → Nat → Option AV
  | some (some (.dat _ es)), c, n => (kindI .u8 es).bind fun l => if c + n ≤ l.length then some (.d (.v (.string (strOfNums ((l.drop c).take n))))) else none
  | _, _, _ => none
def b2sA (sto : Sto) : AV → Option AV
  | .d (.v (.slice none _ _)) => some (.d (.v (.string ByteArray.empty)))
  | .d (.lst _ es) => (kindI .u8 es).map fun l => .d (.v (.string (strOfNums l)))
  | .sl i c n _ => b2sB sto[i]? c n
  | _ => none

def cntStr (s : ByteArray) (c : UInt8) : Int := s.foldl (fun (n : Int) x => if x == c then n + 1 else n) ((0 : Nat) : Int)
def xtsA (ix : Bool) : AV → AV → Option AV
  | .d (.v (.string s)), .d (.v (.int .u8 c)) => some (.d (.v (.int .i64 (if ix then firstIdx s c.toNat.toUInt8 else cntStr s c.toNat.toUInt8))))
  | _, _ => none

def isnA (ng : Bool) : AV → Option AV
  | .d (.v (.slice none 0 0)) => some (.d (.v (.bool (!ng))))
  | .d (.lst _ _) | .sl _ _ _ _ | .emp => some (.d (.v (.bool ng)))
  | _ => none

def unA (op : UnOp) : AV → Option AV
  | .d (.v (.bool b)) => (match op with | .not => some (.d (.v (.bool !b))) | _ => none)
  | .d (.v (.int k n)) => (match op with
    | .neg => some (.d (.v (.int k (k.wrap (0 - n)))))
    | .xor => some (.d (.v (.int k (bitsI .xor k (if k.signed then -1 else k.max) n))))
    | _ => none)
  | _ => none

def pickA : AV → AV → AV → Option AV
  | .d (.v (.bool t)), .d (.v (.bool p)), .d (.v (.bool q)) => some (.d (.v (.bool (cond t p q))))
  | .d (.v (.bool true)), a, _ => some a
  | .d (.v (.bool false)), _, b => some b
  | _, _, _ => none

def allD : List AV → Option (List D)
  | [] => some []
  | .d x :: r => (allD r).map (x :: ·)
  | _ :: _ => none

def mkAgg (xs : List AV) : AV :=
  match allD xs with
  | some ds => .d (.agg ds)
  | none => .agg xs

def ldD (agg : Bool) (n : Nat) (es : List D) (z c : Nat) : Option AV :=
  if agg then (if n = z ∧ c % z = 0 then (match es[c / z]? with | some (.agg xs) => some (.d (.agg xs)) | _ => none) else none)
  else ((flat es)[c]?).map .d

def ldC (agg : Bool) (n : Nat) (cs : List D) (c : Nat) : Option AV :=
  if agg then (if c = 0 ∧ n = cs.length then some (.d (.agg cs)) else if c + n ≤ cs.length then some (.d (.agg ((cs.drop c).take n))) else none)
  else (cs[c]?).map .d

def ldM (agg : Bool) (n : Nat) (cs : List AV) (c : Nat) : Option AV :=
  if agg then (if c + n ≤ cs.length then some (mkAgg ((cs.drop c).take n)) else none) else cs[c]?

def ldA (sto : Sto) (agg : Bool) (n : Nat) : AV → Option AV
  | .ref i c => (match sto[i]? with
    | some (some (.dat z es)) => ldD agg n es z c
    | some (some (.var cs)) => ldC agg n cs c
    | some (some (.mix cs)) => ldM agg n cs c
    | _ => none)
  | .iref cs c => ldC agg n cs c
  | _ => none

def fldA (off n : Nat) (agg : Bool) : AV → Option AV
  | .d (.agg xs) => ldC agg n xs off
  | .agg xs => ldM agg n xs off
  | _ => none

def fadA (off : Nat) : AV → Option AV
  | .ref i c => some (.ref i (c + off))
  | .iref cs c => some (.iref cs (c + off))
  | _ => none

def intA : AV → Option Int
  | .d (.v (.int _ n)) => some n
  | _ => none

def ixsA (z : Nat) (x : AV) (i : Int) : Option AV :=
  match x with
  | .sl b c n z' => if z = z' ∧ 0 ≤ i ∧ i < (n : Int) then some (.ref b (c + i.toNat * z)) else none
  | .d (.lst z' es) => if z = z' ∧ 0 ≤ i ∧ i < (es.length : Int) then some (.iref (flat es) (i.toNat * z)) else none
  | _ => none

def ixaA (len z : Nat) (x : AV) (i : Int) : Option AV :=
  if 0 ≤ i ∧ i < (len : Int) then
    match x with
    | .ref b c => some (.ref b (c + i.toNat * z))
    | .iref cs c => some (.iref cs (c + i.toNat * z))
    | _ => none
  else none

def ixvA (len : Nat) (x : AV) (i : Int) : Option AV :=
  if 0 ≤ i ∧ i < (len : Int) then
    match x with
    | .d (.agg xs) => (xs[i.toNat]?).map .d
    | .agg xs => xs[i.toNat]?
    | _ => none
  else none

def ixtA (x : AV) (i : Int) : Option AV :=
  match x with
  | .d (.v (.string s)) => if 0 ≤ i then (s[i.toNat]?).map (fun b => .d (.v (.int .u8 b.toNat))) else none
  | _ => none

def lenA : AV → Option AV
  | .sl _ _ n _ => some (.d (.v (.int .i64 n)))
  | .d (.lst _ es) => some (.d (.v (.int .i64 es.length)))
  | .d (.v (.slice none 0 0)) => some (.d (.v (.int .i64 0)))
  | .emp => some (.d (.v (.int .i64 0)))
  | _ => none

def lnsA : AV → Option AV
  | .d (.v (.string s)) => some (.d (.v (.int .i64 s.size)))
  | _ => none

def capA : AV → Option AV
  | .d (.v (.slice none 0 0)) => some (.d (.v (.int .i64 0)))
  | .emp => some (.d (.v (.int .i64 0)))
  | _ => none

def bndA (tm : List (Nat × AV)) (n : Nat) (lo hi : Option Opd) : Option (Nat × Nat) :=
  (match hi with | none => some (n : Int) | some h => intA (evO tm h)).bind fun h =>
  (match lo with | none => some (0 : Int) | some l => intA (evO tm l)).bind fun l =>
  if 0 ≤ l ∧ l ≤ h ∧ h ≤ (n : Int) then some (l.toNat, h.toNat) else none

def slcA (tm : List (Nat × AV)) (z : Nat) (x : AV) (lo hi : Option Opd) : Option AV :=
  match x with
  | .sl b c n z' => if z = z' then (bndA tm n lo hi).map fun p => .sl b (c + p.1 * z) (p.2 - p.1) z else none
  | .d (.lst z' es) => if z = z' then (bndA tm es.length lo hi).map fun p => .d (.lst z ((es.drop p.1).take (p.2 - p.1))) else none
  | .d (.v (.slice none 0 0)) => (bndA tm 0 lo hi).map fun _ => .d (.v (.slice none 0 0))
  | _ => none

def sltA (tm : List (Nat × AV)) (x : AV) (lo hi : Option Opd) : Option AV :=
  match x with
  | .d (.v (.string s)) => (bndA tm s.size lo hi).map fun p => .d (.v (.string (s.extract p.1 p.2)))
  | _ => none

def em0A (x h m : AV) : Option AV :=
  match h, m with
  | .d (.v (.int _ 0)), .d (.v (.int _ 0)) => (match x with
    | .d (.v (.slice none 0 0)) => some (.d (.v (.slice none 0 0)))
    | .sl _ _ _ _ | .d (.lst _ _) | .emp => some .emp
    | _ => none)
  | _, _ => none

def mnA : AV → AV → Option AV
  | .d (.v (.int k a)), .d (.v (.int _ b)) => some (.d (.v (.int k (if b < a then b else a))))
  | _, _ => none
def mxA : AV → AV → Option AV
  | .d (.v (.int k a)), .d (.v (.int _ b)) => some (.d (.v (.int k (if a < b then b else a))))
  | _, _ => none

def extA (i : Nat) : AV → Option AV
  | .tup xs => xs[i]?
  | _ => none

def nlcA : AV → Option AV
  | .ref i c => some (.ref i c)
  | .iref cs c => some (.iref cs c)
  | _ => none

def oneA : AV → Bool
  | .d (.agg _) | .agg _ | .tup _ | .any | .is _ _ => false
  | _ => true

def bldA : List AV → List (Nat × AV) → Option (List AV)
  | cs, [] => some cs
  | cs, (o, x) :: r => if oneA x then bldA (cs.set o x) r else none

def evQ (st : ASt) : AOp → Option AV
  | .mv x => some (evO st.tm x)
  | .pick c a b => pickA (evO st.tm c) (evO st.tm a) (evO st.tm b)
  | .bin op x y => binA op (evO st.tm x) (evO st.tm y)
  | .eqb ng x y => eqbA ng (evO st.tm x) (evO st.tm y)
  | .eqs op x y => eqsA op (evO st.tm x) (evO st.tm y)
  | .eqg n k ng x y => eqgA n k ng (evO st.tm x) (evO st.tm y)
  | .isn ng x => isnA ng (evO st.tm x)
  | .un op x => unA op (evO st.tm x)
  | .cvt k x => (intA (evO st.tm x)).map fun n => .d (.v (.int k (k.wrap n)))
  | .b2s x => b2sA st.sto (evO st.tm x)
  | .xts ix x y => xtsA ix (evO st.tm x) (evO st.tm y)
  | .ld ag n x => ldA st.sto ag n (evO st.tm x)
  | .fld off n ag x => fldA off n ag (evO st.tm x)
  | .fad off x => fadA off (evO st.tm x)
  | .ixs z x i => (intA (evO st.tm i)).bind (ixsA z (evO st.tm x))
  | .ixa n z x i => (intA (evO st.tm i)).bind (ixaA n z (evO st.tm x))
  | .ixv n x i => (intA (evO st.tm i)).bind (ixvA n (evO st.tm x))
  | .ixt x i => (intA (evO st.tm i)).bind (ixtA (evO st.tm x))
  | .slc z x lo hi => slcA st.tm z (evO st.tm x) lo hi
  | .slt x lo hi => sltA st.tm (evO st.tm x) lo hi
  | .em0 x h m => em0A (evO st.tm x) (evO st.tm h) (evO st.tm m)
  | .mkf f caps => some (.fn f (caps.map (evO st.tm)))
  | .len x => lenA (evO st.tm x)
  | .lns x => lnsA (evO st.tm x)
  | .cap x => capA (evO st.tm x)
  | .mn x y => mnA (evO st.tm x) (evO st.tm y)
  | .mx x y => mxA (evO st.tm x) (evO st.tm y)
  | .ext x i => extA i (evO st.tm x)
  | .nlc x => nlcA (evO st.tm x)
  | .bld zs ps => (bldA (zs.map .d) (ps.map fun p => (p.1, evO st.tm p.2))).map mkAgg
  | _ => none
end Go.Proofs.Ytccfejnckmokkaa.Va

/-! Operations that only compute or read: each does what it is said to. Condition: none. -/
namespace Go.Proofs.Ytccfejnckmokkaa.Va
open Go

section
variable {P : Program} {w0 : World} {G A : Nat → Prop} {gh : List Value} {N : Nat}

theorem RD.v_inv {w : World} {F : Nat → Prop} {x u : Value} (h : RD w F (.v x) u) : u = x ∧ x.oneCell' = true := by
  cases h with
  | v h => exact ⟨rfl, h⟩

theorem RC.rd {w : World} {F : Nat → Prop} {d : D} {u : Value} (h : RC w F d u) : RD w F d u := by
  cases d with
  | agg xs => cases h
  | v x => exact h
  | lst z es => exact h

theorem VR.v_inv {w : World} {F : Nat → Prop} {loc : List Loc} {x u : Value} (h : VR P w F loc (.d (.v x)) u) : u = x := by
  cases h with
  | d h => exact h.v_inv.1

theorem VR.ofv {w : World} {F : Nat → Prop} {loc : List Loc} {x : Value} (h : x.oneCell' = true) : VR P w F loc (.d (.v x)) x := .d (.v h)

theorem evO_ok {st : ASt} {a : Act} {w : World} {loc : List Loc} (htm : ∀ k x, (k, x) ∈ st.tm → VR P w (Fre A w st.sto loc) loc x (val gh N a k))
    {x : Operand} {y : Opd} (h : lowO N x = some y) : VR P w (Fre A w st.sto loc) loc (evO st.tm y) (a.eval x) := by
  cases x with
  | tmp t =>
    simp only [lowO] at h
    split at h
    · rename_i ht
      cases h
      have := SAT.lk htm t
      simp only [val, if_pos ht] at this
      exact this
    · cases h
  | const v =>
    simp only [lowO] at h
    split at h
    · rename_i ht; cases h; exact .d (.v ht)
    · cases h
  | global g =>
    cases h
    have := SAT.lk htm (N + 1000 + g)
    simp only [val, if_neg (show ¬ N + 1000 + g < N by omega), if_neg (show ¬ N + 1000 + g < N + 1000 by omega), show N + 1000 + g - N - 1000 = g by omega] at this
    exact this
  | func f => cases h; exact .fn (caps := []) #[] rfl (fun j x hx => by simp at hx)

theorem info_of_szOf {t : TypeId} {n : Nat} (h : szOf P t = some n) : ∃ i, P.info? t = some i ∧ i.size = n := by
  obtain ⟨i, h1, h2⟩ := Option.map_eq_some_iff.1 h; exact ⟨i, h1, h2⟩

theorem run_underlying' {t : TypeId} {d : TypeDesc} (w : World) (h : P.underlying t = some d) : (underlying t).run P w = .ok d w := by
  simp [underlying, h]

theorem run_sizeOf' {t : TypeId} {n : Nat} (w : World) (h : szOf P t = some n) : (sizeOf t).run P w = .ok n w := by
  obtain ⟨i, h1, rfl⟩ := info_of_szOf h; simp [sizeOf, typeInfo, h1]

theorem run_isAgg' {t : TypeId} {b : Bool} (w : World) (h : isAggT P t = some b) : (isAgg t).run P w = .ok b w := by
  unfold isAggT at h
  unfold isAgg
  split at h
  · rename_i hu; cases h; simp [run_underlying' w hu]
  · rename_i hu; cases h; simp [run_underlying' w hu]
  · rename_i d h1 h2 h3
    cases h
    rw [Sem.run_bind, run_underlying' w h3]
    cases d <;> first | (exact absurd rfl (h1 _)) | (exact absurd rfl (h2 _ _)) | simp
  · cases h

theorem add_none (b o n : Nat) : Addr.add ⟨b, o, none⟩ n = ⟨b, o + n, none⟩ := Addr.add_lit b o n

/-! ### Integers, bools, strings -/

theorem run_binI {op : BinOp} {k k' : IntKind} {a b : Int} {v : Value} (t : TypeId) (w : World) (hk : BinOp.isShift op = true ∨ k = k') (h : binI op k a b = some v) :
    (binOp op t (.int k a) (.int k' b)).run P w = .ok v w := by
  cases op <;> simp only [BinOp.isShift, binI, Bool.false_eq_true, false_or, true_or] at hk h <;>
    (try subst hk) <;>
    first
    | (cases h; simp [binOp, Op.intArith, Op.intBits, Op.intCmp, bitsI, GT.gt, GE.ge]; done)
    | (split at h
       · cases h
       · rename_i hb; cases h; simp [binOp, Op.intDiv, Op.shift, hb]; done)

theorem run_eqGuard_int {op : BinOp} (t : TypeId) (x y : Operand) (k k' : IntKind) (a b : Int) (w : World) : (eqGuard op t x y (.int k a) (.int k' b)).run P w = .ok () w := by
  unfold eqGuard; cases op <;> simp

theorem run_equal_bool {t : TypeId} {a b : Bool} (w : World) (h : P.underlying t = some .bool) : (Op.equal t (.bool a) (.bool b)).run P w = .ok (a == b) w := by
  have key : ∀ d, (Op.equalIn (d + 1) t (.bool a) (.bool b)).run P w = .ok (a == b) w := fun d => by
    simp [Op.equalIn, run_underlying' w h]
  exact key 9999

theorem kindI_ok {k : IntKind} : ∀ {xs : List D} {a : List Int}, kindI k xs = some a → xs.length = a.length ∧ ∀ (j : Nat) (d : D), xs[j]? = some d → d = D.v (.int k (a.getD j 0))
  | [], a, h => by cases h; exact ⟨rfl, fun j d hd => by simp at hd⟩
  | .v (.int k' n) :: r, a, h => by
    simp only [kindI] at h
    split at h
    · rename_i e
      subst e
      obtain ⟨b, h1, rfl⟩ := Option.map_eq_some_iff.1 h
      obtain ⟨i1, i2⟩ := kindI_ok h1
      refine ⟨by simp [i1], fun j d hd => ?_⟩
      cases j with
      | zero => simp at hd; subst hd; rfl
      | succ j => simpa using i2 j d (by simpa using hd)
    · cases h
theorem kindI_flat {k : IntKind} : ∀ {xs : List D} {a : List Int}, kindI k xs = some a → flat xs = xs
  | [], a, h => rfl
  | .v (.int k' n) :: r, a, h => by
    simp only [kindI] at h
    split at h
    · obtain ⟨b, h1, rfl⟩ := Option.map_eq_some_iff.1 h
      have := kindI_flat h1
      simp only [flat, List.flatMap_cons, D.cells] at this ⊢
      rw [this]; rfl
    · cases h
theorem b2sB_some {x : Option (Option Blk)} {c n : Nat} {r : AV} (h : b2sB x c n = some r) :
    ∃ z es l, x = some (some (.dat z es)) ∧ kindI .u8 es = some l ∧ c + n ≤ l.length ∧ r = .d (.v (.string (strOfNums ((l.drop c).take n)))) := by
  match x, h with
  | some (some (.dat z es)), h =>
    simp only [b2sB] at h
    obtain ⟨l, h1, h2⟩ := Option.bind_eq_some_iff.1 h
    by_cases h3 : c + n ≤ l.length
    · rw [if_pos h3] at h2; cases h2; exact ⟨z, es, l, rfl, h1, h3, rfl⟩
    · rw [if_neg h3] at h2; cases h2
theorem ext_find {fn : Func} (ix : Bool) (hn : fn.name = if ix then "internal/bytealg.IndexByteString" else "internal/bytealg.CountString") (ho : fn.origin = "") :
    Extern.findNext fn = none ∧ Extern.find fn = some (if ix then Extern.BytealgIndexByte.indexByte else Extern.BytealgCount.count) := by
  cases ix
  · have hn : fn.name = "internal/bytealg.CountString" := hn
    constructor
    · unfold Extern.findNext
      rw [hn, ho]
      have h1 : Extern.allNextRows.lookup "internal/bytealg.CountString" = none := by kernel_rfl
      have h2 : Extern.allNextRows.lookup "" = none := by kernel_rfl
      simp only [h1, h2]; rfl
    · unfold Extern.find
      rw [hn, ho]
      have h1 : Extern.allGenericRows.lookup "internal/bytealg.CountString" = none := by kernel_rfl
      have h2 : Extern.allTypedRows.lookup "internal/bytealg.CountString" = none := by kernel_rfl
      have h3 : Extern.allRows.lookup "internal/bytealg.CountString" = some Extern.BytealgCount.count := by kernel_rfl
      simp only [h1, h2, h3]; rfl
  · have hn : fn.name = "internal/bytealg.IndexByteString" := hn
    constructor
    · unfold Extern.findNext
      rw [hn, ho]
      have h1 : Extern.allNextRows.lookup "internal/bytealg.IndexByteString" = none := by kernel_rfl
      have h2 : Extern.allNextRows.lookup "" = none := by kernel_rfl
      simp only [h1, h2]; rfl
    · unfold Extern.find
      rw [hn, ho]
      have h1 : Extern.allGenericRows.lookup "internal/bytealg.IndexByteString" = none := by kernel_rfl
      have h2 : Extern.allTypedRows.lookup "internal/bytealg.IndexByteString" = none := by kernel_rfl
      have h3 : Extern.allRows.lookup "internal/bytealg.IndexByteString" = some Extern.BytealgIndexByte.indexByte := by kernel_rfl
      simp only [h1, h2, h3]; rfl
theorem run_count_string {P : Program} (s : ByteArray) (c : Int) (w : World) : (Extern.BytealgCount.count #[.string s, .int .u8 c]).run P w = .ok (.int .i64 (cntStr s c.toNat.toUInt8)) w := by
  change Sem.run P (do
    let b ← Extern.Bytes.bytesOf (.string s)
    let c' ← Extern.Bytes.asByte (.int .u8 c)
    pure (goInt (b.foldl (fun n x => if x == c' then n + 1 else n) (0 : Nat)))) w = _
  simp only [Extern.Bytes.bytesOf, Extern.Bytes.asByte, Sem.run_bind, Sem.run_pure, Result.andThen]
  rfl
theorem run_ext {fn : Func} {f : FuncId} {ix : Bool} (hf : P.funcs[f]? = some fn) (hb : fn.body.isNone = true) (ho : fn.origin = "") (hn : fn.name = if ix then "internal/bytealg.IndexByteString" else "internal/bytealg.CountString") (s : ByteArray) (c : Int) (w : World) :
    (callFunc f #[.string s, .int .u8 c]).run P w = .ok (.value (.int .i64 (if ix then firstIdx s c.toNat.toUInt8 else cntStr s c.toNat.toUInt8))) w := by
  obtain ⟨h1, h2⟩ := ext_find ix hn ho
  have h3 : (fn.name == "runtime.NumGoroutine") = false := by rw [hn]; cases ix <;> decide
  rw [run_callFunc_extern hf h3 hb h1 h2]
  cases ix
  · simp [run_count_string]
  · simp [run_indexByte_string]
theorem run_eqItems_int {e : TypeId} {k : IntKind} (he : P.underlying e = some (.int k)) (hg : isAggT P e = some false) (d : Nat) (xs ys : Array Value) (a b : List Int) (k' : IntKind) (w : World) :
    ∀ (is : List Nat), (∀ i, i ∈ is → xs[i]? = some (.int k' (a.getD i 0)) ∧ ys[i]? = some (.int k' (b.getD i 0))) →
      (Op.eqItems (d + 1) e 1 xs ys is).run P w = .ok (is.all fun i => a.getD i 0 == b.getD i 0) w
  | [], _ => by simp [Op.eqItems]
  | i :: is, h => by
    obtain ⟨h1, h2⟩ := h i (by simp)
    have ih := run_eqItems_int he hg d xs ys a b k' w is (fun j hj => h j (by simp [hj]))
    have p1 : (part e xs (i * 1)).run P w = .ok (.int k' (a.getD i 0)) w := by simp [part, run_isAgg' w hg, h1]
    have p2 : (part e ys (i * 1)).run P w = .ok (.int k' (b.getD i 0)) w := by simp [part, run_isAgg' w hg, h2]
    have p3 := run_equalIn_int (P := P) w d e k' k (a.getD i 0) (b.getD i 0) he
    simp only [Op.eqItems, Sem.run_bind, p1, p2, p3, Result.andThen_ok, List.all_cons]
    cases hb : (a.getD i 0 == b.getD i 0) with
    | false => simp
    | true => simpa using ih
theorem all_range_eq {a b : List Int} {n : Nat} (ha : a.length = n) (hb : b.length = n) : ((List.range n).all fun i => a.getD i 0 == b.getD i 0) = (a == b) := by
  rw [Bool.eq_iff_iff, List.all_eq_true, beq_iff_eq]
  constructor
  · intro h
    apply List.ext_getElem (by omega)
    intro j h1 h2
    have := h j (List.mem_range.2 (by omega))
    simpa [h1, h2] using this
  · intro h i _; subst h; simp
theorem run_equal_ints {t e : TypeId} {n : Nat} {k k' : IntKind} (hu : P.underlying t = some (.array n e)) (he : P.underlying e = some (.int k)) (hz : szOf P e = some 1) (xs ys : Array Value) (a b : List Int) (w : World)
    (ha : a.length = n) (hb : b.length = n) (hx : ∀ i, i < n → xs[i]? = some (.int k' (a.getD i 0))) (hy : ∀ i, i < n → ys[i]? = some (.int k' (b.getD i 0))) :
    (Op.equalIn 10000 t (.agg xs) (.agg ys)).run P w = .ok (a == b) w := by
  obtain ⟨i, hi, hi1⟩ := Option.map_eq_some_iff.1 hz
  have hc : P.cellsOf e = 1 := by simp [Program.cellsOf, hi, hi1]
  have hg : isAggT P e = some false := by simp [isAggT, he]
  rw [show (10000 : Nat) = 9998 + 1 + 1 from rfl, run_equalIn_array w (9998 + 1) xs ys hu hi, hc, run_eqItems_int he hg 9998 xs ys a b k' w (List.range n) (fun i hi => ⟨hx i (List.mem_range.1 hi), hy i (List.mem_range.1 hi)⟩), all_range_eq ha hb]

theorem run_equal_slice {t e : TypeId} {u : Value} {b : Bool} (w : World) (h : P.underlying t = some (.slice e))
    (hu : (u = .slice none 0 0 ∧ b = true) ∨ (∃ a n c, u = .slice (some a) n c ∧ b = false)) : (Op.equal t u (.slice none 0 0)).run P w = .ok b w := by
  have key : ∀ d, (Op.equalIn (d + 1) t u (.slice none 0 0)).run P w = .ok b w := fun d => by
    rcases hu with ⟨rfl, rfl⟩ | ⟨a, n, c, rfl, rfl⟩ <;> simp [Op.equalIn, run_underlying' w h]
  exact key 9999

/-! ### Memory that is read -/

theorem run_loadCells' {w : World} {b o n : Nat} {f : Nat → Value} (h : ∀ j, j < n → w.cell? ⟨b, o + j, none⟩ = some (f j)) :
    (loadCells ⟨b, o, none⟩ n).run P w = .ok ((List.range n).map f).toArray w := by
  have := run_loadCells_list (P := P) w ⟨b, o, none⟩ ((List.range n).map f) (fun j v hv => by
    rw [List.getElem?_map] at hv
    rcases Nat.lt_or_ge j n with hj | hj
    · rw [List.getElem?_range hj] at hv
      simp at hv
      rw [add_none, h j hj, hv]
    · rw [List.getElem?_eq_none (by simpa using hj)] at hv
      simp at hv)
  simpa using this

theorem run_load1 {w : World} {t : TypeId} {b o : Nat} {v : Value} (ha : isAggT P t = some false) (h : w.cell? ⟨b, o, none⟩ = some v) :
    (Instr.loadAt t (.pointer (some ⟨b, o, none⟩))).run P w = .ok v w := by
  simp [Instr.loadAt, Instr.sureAddr, loadVar, run_isAgg' w ha, h]

theorem run_loadn {w : World} {t : TypeId} {b o n : Nat} {f : Nat → Value} (ha : isAggT P t = some true) (hz : szOf P t = some n)
    (h : ∀ j, j < n → w.cell? ⟨b, o + j, none⟩ = some (f j)) :
    (Instr.loadAt t (.pointer (some ⟨b, o, none⟩))).run P w = .ok (.agg ((List.range n).map f).toArray) w := by
  simp [Instr.loadAt, Instr.sureAddr, loadVar, run_isAgg' w ha, run_sizeOf' w hz, run_loadCells' h]

theorem getD_range {n j : Nat} {f : Nat → Value} (h : j < n) : (((List.range n).map f).toArray).getD j undef = f j := by
  simp [h]

theorem RD.of_cells {w : World} {F : Nat → Prop} {cs : List D} {f : Nat → Value} (hr : ∀ j d, cs[j]? = some d → RC w F d (f j)) {c n : Nat} (h : c + n ≤ cs.length) :
    RD w F (.agg ((cs.drop c).take n)) (.agg ((List.range n).map (fun j => f (c + j))).toArray) := by
  have hl : ((cs.drop c).take n).length = n := by simp; omega
  refine ⟨_, rfl, by rw [hl]; simp, fun j d hd => ?_⟩
  have hj : j < n := by
    rcases Nat.lt_or_ge j n with x | x
    · exact x
    · rw [List.getElem?_eq_none (by omega)] at hd; cases hd
  rw [getD_range hj]
  rw [List.getElem?_take, if_pos hj, List.getElem?_drop] at hd
  exact hr _ _ hd

theorem ldC_ok {w : World} {F : Nat → Prop} {loc : List Loc} {t : TypeId} {ag : Bool} {n : Nat} (ha : isAggT P t = some ag) (hz : szOf P t = some n)
    {cs : List D} {f : Nat → Value} (hr : ∀ j d, cs[j]? = some d → RC w F d (f j)) {b o c : Nat} {x : AV} (he : ldC ag n cs c = some x) :
    ∃ v, VR P w F loc x v ∧ ∀ w' : World, (∀ j, j < cs.length → w'.cell? ⟨b, o + j, none⟩ = some (f j)) →
      (Instr.loadAt t (.pointer (some ⟨b, o + c, none⟩))).run P w' = .ok v w' := by
  cases ag with
  | false =>
    simp only [ldC, Bool.false_eq_true, if_false] at he
    obtain ⟨d, hd, rfl⟩ := Option.map_eq_some_iff.1 he
    have hrc := hr c d hd
    exact ⟨f c, .d hrc.rd, fun w' hw => run_load1 ha (hw c (List.getElem?_eq_some_iff.1 hd).1)⟩
  | true =>
    simp only [ldC, if_true] at he
    have key : ∀ (h : c + n ≤ cs.length), ∃ v, VR P w F loc (.d (.agg ((cs.drop c).take n))) v ∧ ∀ w' : World, (∀ j, j < cs.length → w'.cell? ⟨b, o + j, none⟩ = some (f j)) →
        (Instr.loadAt t (.pointer (some ⟨b, o + c, none⟩))).run P w' = .ok v w' := fun h =>
      ⟨_, .d (RD.of_cells hr h), fun w' hw => run_loadn ha hz (f := fun j => f (c + j)) (fun j hj => by
        have := hw (c + j) (by omega)
        rwa [← Nat.add_assoc] at this)⟩
    split at he
    · rename_i h
      obtain ⟨rfl, rfl⟩ := h
      cases he
      have := key (by omega)
      simpa using this
    · split at he
      · rename_i h; cases he; exact key h
      · cases he

theorem flat_getElem {z : Nat} : ∀ {es : List D}, (∀ e, e ∈ es → e.cells.length = z) → ∀ {e : Nat} {d : D}, es[e]? = some d → ∀ j, j < z → (flat es)[e * z + j]? = d.cells[j]?
  | [], _, e, d, h, _, _ => by simp at h
  | x :: r, hz, e, d, h, j, hj => by
    have hx := hz x List.mem_cons_self
    simp only [flat, List.flatMap_cons]
    cases e with
    | zero =>
      simp at h
      subst h
      rw [Nat.zero_mul, Nat.zero_add, List.getElem?_append_left (by omega)]
    | succ e =>
      have h' : r[e]? = some d := by simpa using h
      have ih := flat_getElem (es := r) (fun e he => hz e (List.mem_cons_of_mem _ he)) h' j hj
      rw [List.getElem?_append_right (by rw [hx, Nat.add_mul]; omega)]
      rw [hx, show (e + 1) * z + j - z = e * z + j by rw [Nat.add_mul]; omega]
      exact ih

theorem flat_length {z : Nat} {es : List D} (h : ∀ e, e ∈ es → e.cells.length = z) : (flat es).length = es.length * z := by
  induction es with
  | nil => simp [flat]
  | cons x r ih =>
    have := ih (fun e he => h e (List.mem_cons_of_mem _ he))
    simp only [flat, List.flatMap_cons, List.length_append, List.length_cons] at this ⊢
    rw [this, h x List.mem_cons_self, Nat.add_mul]; omega

theorem ldD_ok {w : World} {F : Nat → Prop} {loc : List Loc} {t : TypeId} {ag : Bool} {n z : Nat} (ha : isAggT P t = some ag) (hz : szOf P t = some n)
    {es : List D} (hu : ∀ e, e ∈ es → e.cells.length = z) {f : Nat → Value} (hr : ∀ j d, (flat es)[j]? = some d → RC w F d (f j)) {b o c : Nat} {x : AV} (he : ldD ag n es z c = some x) :
    ∃ v, VR P w F loc x v ∧ ∀ w' : World, (∀ j, j < (flat es).length → w'.cell? ⟨b, o + j, none⟩ = some (f j)) →
      (Instr.loadAt t (.pointer (some ⟨b, o + c, none⟩))).run P w' = .ok v w' := by
  cases ag with
  | false =>
    simp only [ldD, Bool.false_eq_true, if_false] at he
    exact ldC_ok ha hz hr (by simpa [ldC] using he)
  | true =>
    simp only [ldD, if_true] at he
    split at he
    · rename_i h
      obtain ⟨rfl, hc⟩ := h
      split at he
      · rename_i xs hx
        cases he
        have hm : D.agg xs ∈ es := List.mem_of_getElem? hx
        have hl : xs.length = n := hu _ hm
        have hcn : c / n * n = c := by rw [Nat.mul_comm]; have := Nat.div_add_mod c n; omega
        have hget : ∀ j, j < n → (flat es)[c + j]? = xs[j]? := fun j hj => by
          have := flat_getElem hu hx j hj
          rw [hcn] at this; exact this
        refine ⟨.agg ((List.range n).map (fun j => f (c + j))).toArray, .d ⟨_, rfl, by simp [hl], fun j d hd => ?_⟩, fun w' hw => run_loadn ha hz (f := fun j => f (c + j)) (fun j hj => ?_)⟩
        · have hj : j < n := by rw [← hl]; exact (List.getElem?_eq_some_iff.1 hd).1
          rw [getD_range hj]
          exact hr _ _ ((hget j hj).trans hd)
        · have hj' : j < xs.length := by omega
          have := hget j hj
          rw [List.getElem?_eq_getElem hj'] at this
          have := hw (c + j) (List.getElem?_eq_some_iff.1 this).1
          rwa [← Nat.add_assoc] at this
      · cases he
    · cases he

theorem allD_ok {xs : List AV} {ds : List D} (h : allD xs = some ds) : xs = ds.map AV.d := by
  induction xs generalizing ds with
  | nil => simp [allD] at h; subst h; rfl
  | cons x r ih =>
    cases x <;> simp only [allD] at h <;> try (cases h; done)
    obtain ⟨ds', h1, rfl⟩ := Option.map_eq_some_iff.1 h
    rw [ih h1]; rfl

theorem VR.rc {w : World} {F : Nat → Prop} {loc : List Loc} {d : D} {v : Value} (h : VR P w F loc (.d d) v) (h1 : v.oneCell' = true) : RC w F d v := by
  cases h with
  | d h =>
    cases d with
    | agg xs => obtain ⟨us, rfl, _⟩ := h; cases h1
    | v x => exact h
    | lst z es => exact h

theorem mkAgg_ok {w : World} {F : Nat → Prop} {loc : List Loc} {xs : List AV} {us : Array Value} (hs : us.size = xs.length)
    (h : ∀ j x, xs[j]? = some x → VR P w F loc x (us.getD j undef) ∧ (us.getD j undef).oneCell' = true) : VR P w F loc (mkAgg xs) (.agg us) := by
  unfold mkAgg
  split
  · rename_i ds hd
    have := allD_ok hd
    subst this
    refine .d ⟨us, rfl, by simpa using hs, fun j d hj => ?_⟩
    have := h j (.d d) (by simp [hj])
    exact this.1.rc this.2
  · refine .agg us hs (fun j => ?_) (fun j x hx => (h j x hx).1)
    rcases Nat.lt_or_ge j us.size with hj | hj
    · have hj' : j < xs.length := by omega
      exact .inl (h j xs[j] (List.getElem?_eq_getElem hj')).2
    · exact .inr hj

theorem ldM_ok {w : World} {F : Nat → Prop} {loc : List Loc} {t : TypeId} {ag : Bool} {n : Nat} (ha : isAggT P t = some ag) (hz : szOf P t = some n)
    {cs : List AV} {f : Nat → Value} (hr : ∀ j x, cs[j]? = some x → VR P w F loc x (f j) ∧ (f j).oneCell' = true) {b o c : Nat} {x : AV} (he : ldM ag n cs c = some x) :
    ∃ v, VR P w F loc x v ∧ ∀ w' : World, (∀ j, j < cs.length → w'.cell? ⟨b, o + j, none⟩ = some (f j)) →
      (Instr.loadAt t (.pointer (some ⟨b, o + c, none⟩))).run P w' = .ok v w' := by
  cases ag with
  | false =>
    simp only [ldM, Bool.false_eq_true, if_false] at he
    exact ⟨f c, (hr c x he).1, fun w' hw => run_load1 ha (hw c (List.getElem?_eq_some_iff.1 he).1)⟩
  | true =>
    simp only [ldM, if_true] at he
    split at he
    · rename_i h
      cases he
      refine ⟨.agg ((List.range n).map (fun j => f (c + j))).toArray, mkAgg_ok (by simp; omega) (fun j x hx => ?_), fun w' hw => run_loadn ha hz (f := fun j => f (c + j)) (fun j hj => ?_)⟩
      · have hj : j < n := by
          rcases Nat.lt_or_ge j n with y | y
          · exact y
          · rw [List.getElem?_eq_none (by simp; omega)] at hx; cases hx
        rw [getD_range hj]
        rw [List.getElem?_take, if_pos hj, List.getElem?_drop] at hx
        exact hr _ _ hx
      · have := hw (c + j) (by omega)
        rwa [← Nat.add_assoc] at this
    · cases he

theorem zeroD_ok {e : TypeId} {d : D} (h : zeroD P e = some d) : ∃ (i : TypeInfo) (z : Value), P.info? e = some i ∧ i.zero = some z ∧ z.cells.size = i.size ∧ d.cells.length = i.size ∧
    (∀ c, c ∈ z.cells.toList → c.oneCell' = true) ∧ d.cells = z.cells.toList.map .v := by
  obtain ⟨i, hi, h⟩ := Option.bind_eq_some_iff.1 h
  split at h
  · rename_i cs hz
    split at h
    · rename_i hc
      cases h
      exact ⟨i, _, hi, hz, hc.2, by simp [D.cells, hc.2], fun c hm => (Array.all_eq_true_iff_forall_mem.1 hc.1) c (by simpa [Value.cells] using hm), rfl⟩
    · cases h
  · rename_i v hne hz
    split at h
    · rename_i hc
      cases h
      have hcs : v.cells = #[v] := by
        cases v <;> first | rfl | (exact absurd rfl (hne _))
      exact ⟨i, v, hi, hz, by rw [hcs, hc.2]; rfl, by simp [D.cells, hc.2], fun c hm => by rw [hcs] at hm; simp at hm; subst hm; exact hc.1, by rw [hcs]; rfl⟩
    · cases h
  · cases h

theorem run_zeroValue' {e : TypeId} {i : TypeInfo} {z : Value} (w : World) (hi : P.info? e = some i) (hz : i.zero = some z) : (zeroValue e).run P w = .ok z w := by
  simp [zeroValue, typeInfo, hi, hz]

theorem VR.one {w : World} {F : Nat → Prop} {loc : List Loc} {x : AV} {u : Value} (h : VR P w F loc x u) (hd : ∀ ds, x ≠ .d (.agg ds)) (ha : ∀ xs, x ≠ .agg xs) (ht : ∀ xs, x ≠ .tup xs) (hn : x ≠ .any) (hi : ∀ y v, x ≠ .is y v) : u.oneCell' = true := by
  cases h with
  | @d x u h =>
    cases x with
    | agg ds => exact absurd rfl (hd ds)
    | v x => exact RC.one h
    | lst z es => exact RC.one h
  | agg us hs h1 h => exact absurd rfl (ha _)
  | tup us hs h => exact absurd rfl (ht _)
  | ref h => rfl
  | sl => rfl
  | iref => rfl
  | fn => rfl
  | pfn h => obtain ⟨f, caps, S, rfl, _⟩ := h; rfl
  | emp => rfl
  | is => exact absurd rfl (hi _ _)
  | any => exact absurd rfl hn

theorem oneCell_cells {v : Value} (h : v.oneCell' = true) : v.cells = #[v] := by cases v <;> first | rfl | cases h


theorem VR.oneA {w : World} {F : Nat → Prop} {loc : List Loc} {x : AV} {u : Value} (h : VR P w F loc x u) (ho : oneA x = true) : u.oneCell' = true :=
  h.one (fun ds e => by subst e; cases ho) (fun ds e => by subst e; cases ho) (fun ds e => by subst e; cases ho) (fun e => by subst e; cases ho) (fun y v e => by subst e; cases ho)

theorem run_fieldsL (w' : World) : ∀ (l : List Field), (∀ f, f ∈ l → (szOf P f.type).isSome = true) →
    (l.mapM fun f => (do pure (f.offset, ← sizeOf f.type) : Sem (Nat × Nat))).run P w' = .ok (l.map fun f => (f.offset, (szOf P f.type).getD 0)) w'
  | [], _ => rfl
  | f :: r, hf => by
    obtain ⟨n, hn⟩ := Option.isSome_iff_exists.1 (hf f List.mem_cons_self)
    have ih := run_fieldsL w' r (fun g hg => hf g (List.mem_cons_of_mem _ hg))
    simp only [List.mapM_cons, Sem.run_bind, run_sizeOf' w' hn, Result.andThen_ok, Sem.run_pure, hn, List.map_cons, Option.getD_some] at ih ⊢
    rw [ih]
    rfl
theorem run_fields (w' : World) (fs : Array Field) (h : (fs.all fun f => (szOf P f.type).isSome) = true) :
    (fs.mapM fun f => (do pure (f.offset, ← sizeOf f.type) : Sem (Nat × Nat))).run P w' = .ok (fs.map fun f => (f.offset, (szOf P f.type).getD 0)) w' := by
  rw [Array.mapM_eq_mapM_toList, Sem.run_map, run_fieldsL w' fs.toList (fun f hf => (Array.all_eq_true_iff_forall_mem.1 h) f (by simpa using hf))]
  rcases fs with ⟨l⟩
  simp
theorem run_build_struct (w' : World) {t : TypeId} {fs : Array Field} {i : TypeInfo} {zv : Value} (hi : P.info? t = some i) (hzv : i.zero = some zv) (hu : P.underlying t = some (.struct fs))
    (h : (fs.all fun f => (szOf P f.type).isSome) = true) {vs : Array (Nat × Value)} {out : Array Value}
    (hf : Instr.fill ((fs.map fun f => (f.offset, (szOf P f.type).getD 0))[·]?) zv.cells vs.toList = some out) : (Instr.build t vs).run P w' = .ok (.agg out) w' := by
  have hm := run_fields w' fs h
  simp only [Instr.build, Sem.run_bind, run_zeroValue' w' hi hzv, Result.andThen_ok, run_underlying' w' hu] at hm ⊢
  rw [hm]
  simp only [Result.andThen_ok, hf, Sem.run_pure]
theorem run_build_array (w' : World) {t e : TypeId} {n z : Nat} {i : TypeInfo} {zv : Value} (hi : P.info? t = some i) (hzv : i.zero = some zv) (hu : P.underlying t = some (.array n e))
    (hz : szOf P e = some z) {vs : Array (Nat × Value)} {out : Array Value}
    (hf : Instr.fill (fun i => some (i * z, z)) zv.cells vs.toList = some out) : (Instr.build t vs).run P w' = .ok (.agg out) w' := by
  simp only [Instr.build, Sem.run_bind, run_zeroValue' w' hi hzv, Result.andThen_ok, run_underlying' w' hu, run_sizeOf' w' hz]
  simp only [hf, Sem.run_pure]

theorem fill_ok {w : World} {F : Nat → Prop} {loc : List Loc} {place : Nat → Option (Nat × Nat)} : ∀ (ps : List (Nat × Value)) (qs : List (Nat × AV)) (cells : Array Value) (cs xs : List AV),
    ps.length = qs.length → (∀ (j : Nat) (p : Nat × Value) (q : Nat × AV), ps[j]? = some p → qs[j]? = some q → place p.1 = some (q.1, 1) ∧ q.1 < cs.length ∧ VR P w F loc q.2 p.2) →
    cells.size = cs.length → (∀ j x, cs[j]? = some x → VR P w F loc x (cells.getD j undef) ∧ (cells.getD j undef).oneCell' = true) → bldA cs qs = some xs →
    ∃ out, Instr.fill place cells ps = some out ∧ out.size = xs.length ∧ ∀ j x, xs[j]? = some x → VR P w F loc x (out.getD j undef) ∧ (out.getD j undef).oneCell' = true
  | [], [], cells, cs, xs, _, _, hs, h, hb => by
    simp only [bldA] at hb; cases hb
    exact ⟨cells, rfl, hs, h⟩
  | [], _ :: _, _, _, _, hl, _, _, _, _ => by simp at hl
  | _ :: _, [], _, _, _, hl, _, _, _, _ => by simp at hl
  | (i, v) :: ps, (o, x) :: qs, cells, cs, xs, hl, hp, hs, h, hb => by
    obtain ⟨h1, h2, h3⟩ := hp 0 (i, v) (o, x) rfl rfl
    simp only [bldA] at hb
    split at hb
    · rename_i ho
      have hv1 := h3.oneA ho
      have hvc := oneCell_cells hv1
      have ih := fill_ok ps qs (cells.setIfInBounds o v) (cs.set o x) xs (by simpa using hl)
        (fun j p q e1 e2 => by
          have := hp (j + 1) p q (by simpa using e1) (by simpa using e2)
          exact ⟨this.1, by simpa using this.2.1, this.2.2⟩) (by simpa using hs)
        (fun j y hy => by
          rcases getElem?_set_some hy with ⟨rfl, rfl, hlt⟩ | ⟨hne, hy'⟩
          · have : (cells.setIfInBounds o v).getD o undef = v := by
              have : o < cells.size := by omega
              simp [this]
            rw [this]; exact ⟨h3, hv1⟩
          · have : (cells.setIfInBounds o v).getD j undef = cells.getD j undef := by
              simp [Array.getElem?_setIfInBounds_ne hne]
            rw [this]; exact h j y hy') hb
      obtain ⟨out, e1, e2, e3⟩ := ih
      refine ⟨out, ?_, e2, e3⟩
      have hlt : ¬ (o + 1 > cells.size) := by omega
      simp only [Instr.fill, h1, hvc]
      simp [hlt]
      have : (match (v, 0) with | (c, j) => cells.setIfInBounds (o + j) c) = cells.setIfInBounds o v := rfl
      exact e1
    · cases hb

theorem lowPs_ok {st : ASt} {a : Act} {w : World} {loc : List Loc} (htm : ∀ k x, (k, x) ∈ st.tm → VR P w (Fre A w st.sto loc) loc x (val gh N a k)) {place : Nat → Option Nat} :
    ∀ {ps : List (Nat × Operand)} {qs : List (Nat × Opd)}, lowPs P N place ps = some qs → ps.length = qs.length ∧
      ∀ (j : Nat) (p : Nat × Value) (q : Nat × AV), (ps.map fun p => (p.1, a.eval p.2))[j]? = some p → (qs.map fun q => (q.1, evO st.tm q.2))[j]? = some q →
        place p.1 = some q.1 ∧ VR P w (Fre A w st.sto loc) loc q.2 p.2
  | [], qs, h => by simp [lowPs] at h; subst h; exact ⟨rfl, fun j p q hp => by simp at hp⟩
  | (i, x) :: r, qs, h => by
    simp only [lowPs] at h
    obtain ⟨o, h1, h⟩ := Option.bind_eq_some_iff.1 h
    obtain ⟨y, h2, h⟩ := Option.bind_eq_some_iff.1 h
    obtain ⟨qs', h3, rfl⟩ := Option.map_eq_some_iff.1 h
    obtain ⟨ih1, ih2⟩ := lowPs_ok htm h3
    refine ⟨by simp [ih1], fun j p q hp hq => ?_⟩
    cases j with
    | zero => simp at hp hq; subst hp hq; exact ⟨h1, evO_ok htm h2⟩
    | succ j => exact ih2 j p q (by simpa using hp) (by simpa using hq)

end
end Go.Proofs.Ytccfejnckmokkaa.Va

/-! Operations that only compute or read: one law for all of them. Condition: none. -/
namespace Go.Proofs.Ytccfejnckmokkaa.Va
open Go

section
variable {P : Program} {w0 : World} {G A : Nat → Prop} {gh : List Value} {N : Nat}

def rdQ (st : ASt) : AOp → List Nat
  | .ld _ _ x => (match evO st.tm x with | .ref i _ => [i] | _ => [])
  | .b2s x => (match evO st.tm x with | .sl i _ _ _ => [i] | _ => [])
  | _ => []

def Rd (st : ASt) (loc : List Loc) (q : AOp) (b : Nat) : Prop := ¬ Own st.sto loc b ∨ ∃ i l, i ∈ rdQ st q ∧ loc[i]? = some l ∧ l.b = b

theorem VR.int_inv {w : World} {F : Nat → Prop} {loc : List Loc} {x : AV} {u : Value} {n : Int} (h : VR P w F loc x u) (hx : intA x = some n) : ∃ k, u = .int k n := by
  unfold intA at hx
  split at hx
  · rename_i k m; cases hx; exact ⟨k, h.v_inv⟩
  · cases hx

theorem evOs_ok {st : ASt} {a : Act} {w : World} {loc : List Loc} (htm : ∀ k x, (k, x) ∈ st.tm → VR P w (Fre A w st.sto loc) loc x (val gh N a k)) :
    ∀ {xs : List Operand} {ys : List Opd}, lowOs N xs = some ys → xs.length = ys.length ∧ ∀ j y, (ys.map (evO st.tm))[j]? = some y → VR P w (Fre A w st.sto loc) loc y ((xs.map a.eval).toArray.getD j undef)
  | [], ys, h => by simp [lowOs] at h; subst h; exact ⟨rfl, fun j y hy => by simp at hy⟩
  | x :: r, ys, h => by
    simp only [lowOs] at h
    obtain ⟨y, h1, h2⟩ := Option.bind_eq_some_iff.1 h
    obtain ⟨ys', h3, rfl⟩ := Option.map_eq_some_iff.1 h2
    obtain ⟨hl, ih⟩ := evOs_ok htm h3
    refine ⟨by simp [hl], fun j y' hy => ?_⟩
    cases j with
    | zero => simp at hy; subst hy; simpa using evO_ok htm h1
    | succ j => 
      have := ih j y' (by simpa using hy)
      simpa using this

theorem run_fieldPlace {b o n : Nat} {f : Field} (w : World) (h : szOf P f.type = some n) (hn : n ≠ 0) : (fieldPlace ⟨b, o, none⟩ f).run P w = .ok ⟨b, o + f.offset, none⟩ w := by
  simp [fieldPlace, run_sizeOf' w h, hn, add_none]

theorem bnd_ok {st : ASt} {a : Act} {w : World} {loc : List Loc} (htm : ∀ k x, (k, x) ∈ st.tm → VR P w (Fre A w st.sto loc) loc x (val gh N a k))
    {lo hi : Option Operand} {lo' hi' : Option Opd} (h1 : lowOO N lo = some lo') (h2 : lowOO N hi = some hi') {n cap : Nat} (isS : Bool) (hcap : n ≤ cap) {p : Nat × Nat}
    (h : bndA st.tm n lo' hi' = some p) (w' : World) :
    p.1 ≤ p.2 ∧ p.2 ≤ n ∧ (Instr.sliceBounds isS n cap (lo.map a.eval) (hi.map a.eval) none).run P w' = .ok (p.1, p.2, cap) w' := by
  unfold bndA at h
  obtain ⟨hh, e1, h⟩ := Option.bind_eq_some_iff.1 h
  obtain ⟨ll, e2, h⟩ := Option.bind_eq_some_iff.1 h
  split at h
  case isFalse => cases h
  rename_i hb
  cases h
  have hs : ∀ (k : IntKind) (i : Int) (y : Nat) (code : BoundsCode), 0 ≤ i → i ≤ y → (Instr.sliceBound (.int k i) y code).run P w' = .ok i.toNat w' := fun k i y code h0 h1 => by
    simp [Instr.sliceBound, asIntOf, h0, h1]
  refine ⟨by simp only; omega, by simp only; omega, ?_⟩
  cases lo with
  | none =>
    cases h1
    cases e2
    cases hi with
    | none => cases h2; cases e1; simp [Instr.sliceBounds]
    | some x =>
      obtain ⟨y, hy, rfl⟩ := Option.map_eq_some_iff.1 h2
      obtain ⟨k, hk⟩ := (evO_ok htm hy).int_inv e1
      simp [Instr.sliceBounds, hk, hs _ _ cap _ (by omega : 0 ≤ hh) (by omega)]
  | some z =>
    obtain ⟨z', hz, rfl⟩ := Option.map_eq_some_iff.1 h1
    obtain ⟨kz, hkz⟩ := (evO_ok htm hz).int_inv e2
    cases hi with
    | none =>
      cases h2; cases e1
      simp [Instr.sliceBounds, hkz, hs _ _ n _ (by omega : 0 ≤ ll) (by omega)]
    | some x =>
      obtain ⟨y, hy, rfl⟩ := Option.map_eq_some_iff.1 h2
      obtain ⟨k, hk⟩ := (evO_ok htm hy).int_inv e1
      simp [Instr.sliceBounds, hk, hkz, hs _ _ cap _ (by omega : 0 ≤ hh) (by omega), hs kz ll hh.toNat _ (by omega) (by omega)]

theorem quiet_sound {st : ASt} {a : Act} {w : World} {loc : List Loc} {o : Oper} {q : AOp} {x : AV} (hs : SR P w0 G A st.sto loc w)
    (htm : ∀ k x, (k, x) ∈ st.tm → VR P w (Fre A w st.sto loc) loc x (val gh N a k)) (hq : lowQ P N o.op = some q) (he : evQ st q = some x) :
    ∃ v, VR P w (Fre A w st.sto loc) loc x v ∧ ∀ w' : World, (∀ b, b < w.heap.size → Rd st loc q b → w'.heap[b]? = w.heap[b]?) → (execOp a.eval o).run P w' = .ok (.value v) w' := by
  cases ho : o.op <;> simp only [lowQ, ho] at hq <;> try (cases hq; done)
  case move x' =>
    obtain ⟨y, hy, rfl⟩ := Option.map_eq_some_iff.1 hq
    cases he
    exact ⟨_, evO_ok htm hy, fun w' _ => by simp [execOp, ho]⟩
  case assign x' =>
    obtain ⟨y, hy, rfl⟩ := Option.map_eq_some_iff.1 hq
    cases he
    exact ⟨_, evO_ok htm hy, fun w' _ => by simp [execOp, ho]⟩
  case pick c b1 b2 =>
    obtain ⟨c', hc, hq⟩ := Option.bind_eq_some_iff.1 hq
    obtain ⟨a', ha, hq⟩ := Option.bind_eq_some_iff.1 hq
    obtain ⟨b', hb, rfl⟩ := Option.map_eq_some_iff.1 hq
    have vc := evO_ok htm hc
    have va := evO_ok htm ha
    have vb := evO_ok htm hb
    simp only [evQ] at he
    unfold pickA at he
    split at he
    · rename_i t p q e1 e2 e3
      cases he
      rw [e1] at vc; rw [e2] at va; rw [e3] at vb
      refine ⟨.bool (cond t p q), .ofv rfl, fun w' _ => ?_⟩
      simp only [execOp, ho, vc.v_inv, va.v_inv, vb.v_inv]
      cases t <;> simp [asBool]
    · rename_i e1 _
      cases he
      rw [e1] at vc
      exact ⟨_, va, fun w' _ => by simp [execOp, ho, vc.v_inv, asBool]⟩
    · rename_i e1 _
      cases he
      rw [e1] at vc
      exact ⟨_, vb, fun w' _ => by simp [execOp, ho, vc.v_inv, asBool]⟩
    · cases he
  case binOp op t x1 y1 yt =>
    obtain ⟨x', hx, hq⟩ := Option.bind_eq_some_iff.1 hq
    obtain ⟨y', hy, hq⟩ := Option.bind_eq_some_iff.1 hq
    have vx := evO_ok htm hx
    have vy := evO_ok htm hy
    split at hq
    · cases hq
      simp only [evQ] at he
      unfold binA at he
      split at he
      · rename_i k m k' n e1 e2
        split at he
        · rename_i hk
          obtain ⟨v, hv, rfl⟩ := Option.map_eq_some_iff.1 he
          rw [e1] at vx; rw [e2] at vy
          refine ⟨v, .ofv ?_, fun w' _ => ?_⟩
          · unfold binI at hv
            split at hv <;> (try split at hv) <;> cases hv <;> rfl
          · simp only [execOp, ho, vx.v_inv, vy.v_inv]
            simp [run_eqGuard_int, run_binI t _ hk hv]
        · cases he
      · cases he
    · rename_i hu
      have : ∃ ng, q = .eqb ng x' y' ∧ (op = if ng then BinOp.neq else BinOp.eql) := by
        cases op <;> simp at hq <;> first | exact ⟨false, hq.symm, rfl⟩ | exact ⟨true, hq.symm, rfl⟩
      obtain ⟨ng, rfl, hop⟩ := this
      simp only [evQ] at he
      unfold eqbA at he
      split at he
      · rename_i p q e1 e2
        cases he
        rw [e1] at vx; rw [e2] at vy
        refine ⟨_, .ofv rfl, fun w' _ => ?_⟩
        simp only [execOp, ho, vx.v_inv, vy.v_inv]
        cases ng <;> simp [hop, eqGuard, binOp, run_equal_bool _ hu] <;> cases p <;> cases q <;> rfl
      · cases he
    · rename_i hu
      cases hq
      simp only [evQ] at he
      unfold eqsA at he
      split at he
      · rename_i p q e1 e2
        rw [e1] at vx; rw [e2] at vy
        split at he
        · cases he
          exact ⟨_, .ofv rfl, fun w' _ => by simp [execOp, ho, vx.v_inv, vy.v_inv, eqGuard, binOp, Op.stringOp]⟩
        · cases he
          exact ⟨_, .ofv rfl, fun w' _ => by simp [execOp, ho, vx.v_inv, vy.v_inv, eqGuard, binOp, Op.stringOp]⟩
        · split at he
          · rename_i hl
            cases he
            refine ⟨_, .ofv rfl, fun w' _ => ?_⟩
            have h63 : ¬ (((p.size + q.size : Nat) : Int) > IntKind.i64.max) := by
              have : IntKind.i64.max = 9223372036854775807 := by decide
              rw [this]; unfold maxLen at hl; omega
            simp only [execOp, ho, vx.v_inv, vy.v_inv]
            simp only [eqGuard, binOp, Op.stringOp, h63, if_false]
            simp
          · cases he
        · cases he
      · cases he
    · rename_i e hu
      have : ∃ ng, q = .isn ng x' ∧ (op = if ng then BinOp.neq else BinOp.eql) ∧ y1 = .const (.slice none 0 0) := by
        split at hq <;> cases hq
        · exact ⟨false, rfl, rfl, rfl⟩
        · exact ⟨true, rfl, rfl, rfl⟩
      obtain ⟨ng, rfl, hop, rfl⟩ := this
      simp only [evQ] at he
      have key : ∃ (u : Value) (b : Bool), a.eval x1 = u ∧ x = .d (.v (.bool (if ng then !b else b))) ∧ ((u = .slice none 0 0 ∧ b = true) ∨ (∃ a n c, u = .slice (some a) n c ∧ b = false)) := by
        unfold isnA at he
        split at he
        · rename_i e1
          cases he
          rw [e1] at vx
          exact ⟨_, true, vx.v_inv, by cases ng <;> rfl, .inl ⟨rfl, rfl⟩⟩
        · rename_i z es e1
          cases he
          rw [e1] at vx
          generalize a.eval x1 = u at vx
          cases vx with
          | d h => cases h with
            | lst f => exact ⟨_, false, rfl, by cases ng <;> rfl, .inr ⟨_, _, _, rfl, rfl⟩⟩
        · rename_i e1
          cases he
          rw [e1] at vx
          generalize a.eval x1 = u at vx
          cases vx with
          | sl => exact ⟨_, false, rfl, by cases ng <;> rfl, .inr ⟨_, _, _, rfl, rfl⟩⟩
        · rename_i e1
          cases he
          rw [e1] at vx
          generalize a.eval x1 = u at vx
          cases vx with
          | emp => exact ⟨_, false, rfl, by cases ng <;> rfl, .inr ⟨_, _, _, rfl, rfl⟩⟩
        · cases he
      obtain ⟨u, b, hu1, rfl, hub⟩ := key
      refine ⟨_, .ofv rfl, fun w' _ => ?_⟩
      have hr := run_equal_slice w' hu hub
      simp only [execOp, ho, hu1]
      rcases hub with ⟨rfl, rfl⟩ | ⟨a1, n, c, rfl, rfl⟩ <;> cases ng <;> simp [hop, eqGuard, binOp, Act.eval, hr]
    · rename_i n e hu
      split at hq
      · cases hq
      · rename_i hgd
        have : ∃ (k : IntKind) (ng : Bool), q = .eqg n k ng x' y' ∧ (op = if ng then BinOp.neq else BinOp.eql) ∧ P.underlying e = some (.int k) ∧ szOf P e = some 1 := by
          split at hq <;> cases hq
          · exact ⟨_, false, rfl, rfl, by assumption, by assumption⟩
          · exact ⟨_, true, rfl, rfl, by assumption, by assumption⟩
        obtain ⟨k, ng, rfl, hop, he1, he2⟩ := this
        simp only [evQ] at he
        unfold eqgA at he
        split at he
        · rename_i xs ys e1 e2
          obtain ⟨l1, hl1, he⟩ := Option.bind_eq_some_iff.1 he
          obtain ⟨l2, hl2, he⟩ := Option.bind_eq_some_iff.1 he
          split at he
          · rename_i hlen
            cases he
            rw [e1] at vx; rw [e2] at vy
            obtain ⟨i1, i2⟩ := kindI_ok hl1
            obtain ⟨j1, j2⟩ := kindI_ok hl2
            have get : ∀ (zs : List D) (l : List Int) (u : Value), VR P w (Fre A w st.sto loc) loc (.d (.agg zs)) u → zs.length = l.length → (∀ (j : Nat) (d : D), zs[j]? = some d → d = D.v (.int k (l.getD j 0))) → ∃ us : Array Value, u = .agg us ∧ ∀ i, i < l.length → us[i]? = some (.int k (l.getD i 0)) := by
              intro zs l u hv hzl hzd
              cases hv with
              | d h =>
                obtain ⟨us, rfl, hsz, hc⟩ := h
                refine ⟨us, rfl, fun i hi => ?_⟩
                have hi2 : i < zs.length := by omega
                have := hc i _ (List.getElem?_eq_getElem hi2)
                rw [hzd i _ (List.getElem?_eq_getElem hi2)] at this
                have hi3 : i < us.size := by omega
                have hu2 : us.getD i undef = us[i] := by simp [hi3]
                rw [hu2] at this
                rw [Array.getElem?_eq_getElem hi3]
                generalize us[i] = v at this
                cases this with
                | v _ => rfl
            obtain ⟨us, hus, hu1⟩ := get xs l1 _ vx i1 i2
            obtain ⟨vs, hvs, hv1⟩ := get ys l2 _ vy j1 j2
            have hr := fun w' => run_equal_ints (P := P) (k' := k) hu he1 he2 us vs l1 l2 w' hlen.1 hlen.2 (fun i hi => hu1 i (by omega)) (fun i hi => hv1 i (by omega))
            refine ⟨_, .ofv rfl, fun w' _ => ?_⟩
            have hgd' : P.eqGuardType P.depth t = false := by simpa using hgd
            simp only [execOp, ho, hus, hvs]
            cases ng
            · simp only [hop, Bool.false_eq_true, if_false, Sem.run_bind, run_eqGuard_agg _ _ _ _ _ _ _ hgd', run_eql_struct, hr, Result.andThen_ok]; rfl
            · simp only [hop, if_true, Sem.run_bind, run_eqGuard_agg _ _ _ _ _ _ _ hgd', run_neq_struct, hr, Result.andThen_ok]; rfl
          · cases he
        · cases he
    · cases hq
  case unOp op t x1 =>
    obtain ⟨x', hx, rfl⟩ := Option.map_eq_some_iff.1 hq
    have vx := evO_ok htm hx
    simp only [evQ] at he
    unfold unA at he
    split at he
    · rename_i b1 e1
      rw [e1] at vx
      split at he
      · cases he; exact ⟨_, .ofv rfl, fun w' _ => by simp [execOp, ho, vx.v_inv, Op.unary]⟩
      · cases he
    · rename_i k n e1
      rw [e1] at vx
      split at he
      · cases he; exact ⟨_, .ofv rfl, fun w' _ => by simp [execOp, ho, vx.v_inv, Op.unary, Op.intArith]⟩
      · cases he; exact ⟨_, .ofv rfl, fun w' _ => by simp [execOp, ho, vx.v_inv, Op.unary, Op.intBits, bitsI]⟩
      · cases he
    · cases he
  case convert src dst x1 =>
    obtain ⟨x', hx, hq⟩ := Option.bind_eq_some_iff.1 hq
    have vx := evO_ok htm hx
    split at hq
    · rename_i k1 k h1 h2
      cases hq
      simp only [evQ] at he
      obtain ⟨n, hn, rfl⟩ := Option.map_eq_some_iff.1 he
      obtain ⟨k3, e3⟩ := vx.int_inv hn
      exact ⟨_, .ofv rfl, fun w' _ => by simp [execOp, ho, e3, convert, run_underlying' w' h1, run_underlying' w' h2, Conv.intToInt]⟩
    · rename_i e h1 h2
      split at hq
      · rename_i h3
        cases hq
        simp only [evQ] at he
        unfold b2sA at he
        split at he
        · rename_i n c e1
          cases he
          rw [e1] at vx
          have hu := vx.v_inv
          exact ⟨_, .ofv rfl, fun w' _ => by simp [execOp, ho, hu, run_convert_bytes_nil w' src e h1 h3 n c dst h2]⟩
        · rename_i z es e1
          obtain ⟨l, hl, rfl⟩ := Option.map_eq_some_iff.1 he
          rw [e1] at vx
          obtain ⟨i1, i2⟩ := kindI_ok hl
          have hfl := kindI_flat hl
          generalize hu : a.eval x1 = u at vx
          cases vx with
          | d h =>
            cases h with
            | @lst _ _ b o cap f hn hc hF hz hr hw =>
              rw [hfl] at hr hw
              refine ⟨_, .ofv rfl, fun w' hw' => ?_⟩
              have hcell : ∀ j, j < es.length → w'.cell? ⟨b, o + j, none⟩ = some (.int .u8 (l.getD j 0)) := fun j hj => by
                rw [World.cell?_of_block (w' := w') (a := ⟨b, o + j, none⟩) (hw' b hF.1 (.inl hF.2.1)), hw j hj]
                have h4 := hr j _ (List.getElem?_eq_getElem hj)
                rw [i2 j _ (List.getElem?_eq_getElem hj)] at h4
                generalize f j = v at h4
                cases h4 with
                | v _ => rfl
              simp [execOp, ho, hu, run_convert_bytes_arg w' src e h1 h3 b o es.length cap l i1.symm hcell dst h2]
        · rename_i i c n z e1
          rw [e1] at vx
          obtain ⟨z2, es, l, hB, hl, hcn, rfl⟩ := b2sB_some he
          obtain ⟨i1, i2⟩ := kindI_ok hl
          have hfl := kindI_flat hl
          generalize hu : a.eval x1 = u at vx
          cases vx with
          | @sl _ _ _ _ cap x lc hlc hx hn hc hs2 =>
            obtain ⟨f, hat, hr⟩ := hs.blk i _ lc hB hlc
            have hrd : Rd st loc (.b2s x') lc.b := .inr ⟨i, lc, by simp [rdQ, e1], hlc, rfl⟩
            refine ⟨_, .ofv rfl, fun w' hw' => ?_⟩
            have hat' := hat.same (hw' _ hat.lt hrd)
            have hcell : ∀ j, j < n → w'.cell? ⟨lc.b, x + j, none⟩ = some (.int .u8 (((l.drop c).take n).getD j 0)) := fun j hj => by
              have hxe : x = lc.o + c := hx.resolve_right (by omega)
              have hlen : (Blk.dat z2 es).len = l.length := by simp only [Blk.len, hfl]; exact i1
              have h5 := hat'.cell (j := c + j) (by rw [hlen]; omega)
              rw [hxe, Nat.add_assoc, h5]
              have hj2 : c + j < es.length := by omega
              have h4 := hr.2 (c + j) (es[c + j]) (by rw [hfl]; exact List.getElem?_eq_getElem hj2)
              rw [i2 (c + j) _ (List.getElem?_eq_getElem hj2)] at h4
              generalize f (c + j) = v at h4
              cases h4 with
              | v _ =>
                have : ((l.drop c).take n).getD j 0 = l.getD (c + j) 0 := by
                  simp [List.getD_eq_getElem?_getD, hj]
                rw [this]
            have hlen2 : ((l.drop c).take n).length = n := by simp; omega
            simp [execOp, ho, hu, run_convert_bytes_arg w' src e h1 h3 lc.b x n cap _ hlen2 hcell dst h2]
        · cases he
      · cases hq
    · cases hq
  case load t x1 =>
    obtain ⟨x', hx, hq⟩ := Option.bind_eq_some_iff.1 hq
    obtain ⟨ag, hag, hq⟩ := Option.bind_eq_some_iff.1 hq
    obtain ⟨n, hn, rfl⟩ := Option.map_eq_some_iff.1 hq
    have vx := evO_ok htm hx
    simp only [evQ] at he
    unfold ldA at he
    split at he
    · rename_i i c e1
      rw [e1] at vx
      generalize hu : a.eval x1 = u at vx
      cases vx with
      | @ref _ _ l hl =>
        have hrd : ∀ B, st.sto[i]? = some (some B) → Rd st loc (.ld ag n x') l.b := fun B hB => .inr ⟨i, l, by simp [rdQ, e1], hl, rfl⟩
        split at he
        · rename_i z es hB
          obtain ⟨f, hat, hr⟩ := hs.blk i _ l hB hl
          obtain ⟨v, hv, hrun⟩ := ldD_ok (loc := loc) hag hn hr.1 hr.2 (b := l.b) (o := l.o) he
          exact ⟨v, hv, fun w' hw => by simp [execOp, ho, hu, hrun w' (fun j hj => (hat.same (hw _ hat.lt (hrd _ hB))).cell hj)]⟩
        · rename_i cs hB
          obtain ⟨f, hat, hr⟩ := hs.blk i _ l hB hl
          obtain ⟨v, hv, hrun⟩ := ldC_ok (loc := loc) hag hn hr (b := l.b) (o := l.o) he
          exact ⟨v, hv, fun w' hw => by simp [execOp, ho, hu, hrun w' (fun j hj => (hat.same (hw _ hat.lt (hrd _ hB))).cell hj)]⟩
        · rename_i cs hB
          obtain ⟨f, hat, hr⟩ := hs.blk i _ l hB hl
          obtain ⟨v, hv, hrun⟩ := ldM_ok (loc := loc) hag hn hr (b := l.b) (o := l.o) he
          exact ⟨v, hv, fun w' hw => by simp [execOp, ho, hu, hrun w' (fun j hj => (hat.same (hw _ hat.lt (hrd _ hB))).cell hj)]⟩
        · cases he
    · rename_i cs c e1
      rw [e1] at vx
      generalize hu : a.eval x1 = u at vx
      cases vx with
      | @iref _ _ b o f hF hr hw =>
        obtain ⟨v, hv, hrun⟩ := ldC_ok (loc := loc) hag hn hr (b := b) (o := o) he
        exact ⟨v, hv, fun w' hw' => by simp [execOp, ho, hu, hrun w' (fun j hj => (World.cell?_of_block (w' := w') (a := ⟨b, o + j, none⟩) (hw' b hF.1 (.inl hF.2.1))).trans (hw j hj))]⟩
    · cases he
  case fieldAddr s x1 f =>
    obtain ⟨x', hx, hq⟩ := Option.bind_eq_some_iff.1 hq
    have vx := evO_ok htm hx
    split at hq
    · rename_i fs hfs
      obtain ⟨fd, hfd, hq⟩ := Option.bind_eq_some_iff.1 hq
      obtain ⟨n, hn, hq⟩ := Option.bind_eq_some_iff.1 hq
      split at hq
      · cases hq
      · rename_i hn0
        cases hq
        simp only [evQ] at he
        unfold fadA at he
        split at he
        · rename_i i c e1
          cases he
          rw [e1] at vx
          generalize hu : a.eval x1 = u at vx
          cases vx with
          | @ref _ _ l hl =>
            refine ⟨.pointer (some ⟨l.b, l.o + (c + fd.offset), none⟩), .ref hl, fun w' _ => ?_⟩
            simp [execOp, ho, hu, Instr.fieldAt, run_underlying' w' hfs, hfd, Instr.sureAddr, run_fieldPlace w' hn hn0, Nat.add_assoc]
        · rename_i cs c e1
          cases he
          rw [e1] at vx
          generalize hu : a.eval x1 = u at vx
          cases vx with
          | @iref _ _ b o f1 hF hr hw =>
            refine ⟨.pointer (some ⟨b, o + (c + fd.offset), none⟩), .iref f1 hF hr hw, fun w' _ => ?_⟩
            simp [execOp, ho, hu, Instr.fieldAt, run_underlying' w' hfs, hfd, Instr.sureAddr, run_fieldPlace w' hn hn0, Nat.add_assoc]
        · cases he
    · cases hq
  case field s x1 f =>
    obtain ⟨x', hx, hq⟩ := Option.bind_eq_some_iff.1 hq
    have vx := evO_ok htm hx
    split at hq
    · rename_i fs hfs
      obtain ⟨fd, hfd, hq⟩ := Option.bind_eq_some_iff.1 hq
      obtain ⟨ag, hag, hq⟩ := Option.bind_eq_some_iff.1 hq
      obtain ⟨n, hn, rfl⟩ := Option.map_eq_some_iff.1 hq
      simp only [evQ] at he
      have key : ∃ (us : Array Value) (v : Value), a.eval x1 = .agg us ∧ VR P w (Fre A w st.sto loc) loc x v ∧ ∀ w', (part fd.type us fd.offset).run P w' = .ok v w' := by
        unfold fldA at he
        split at he
        · rename_i xs e1
          rw [e1] at vx
          generalize hu : a.eval x1 = u at vx
          cases vx with
          | d h =>
            obtain ⟨us, rfl, hsz, hc⟩ := h
            cases ag with
            | false =>
              simp only [ldC, Bool.false_eq_true, if_false] at he
              obtain ⟨d, hd, rfl⟩ := Option.map_eq_some_iff.1 he
              have hlt : fd.offset < us.size := by rw [hsz]; exact (List.getElem?_eq_some_iff.1 hd).1
              refine ⟨us, us.getD fd.offset undef, rfl, .d (hc _ _ hd).rd, fun w' => ?_⟩
              simp [part, run_isAgg' w' hag, hlt]
            | true =>
              have key : ∀ (h : fd.offset + n ≤ xs.length), ∃ (us' : Array Value) (v : Value), Value.agg us = .agg us' ∧ VR P w (Fre A w st.sto loc) loc (.d (.agg ((xs.drop fd.offset).take n))) v ∧
                  ∀ w', (part fd.type us' fd.offset).run P w' = .ok v w' := fun h => by
                refine ⟨us, .agg (us.extract fd.offset (fd.offset + n)), rfl, .d ⟨_, rfl, by simp; omega, fun j d hd => ?_⟩, fun w' => by simp [part, run_isAgg' w' hag, run_sizeOf' w' hn]⟩
                have hj : j < n := by
                  rcases Nat.lt_or_ge j n with y | y
                  · exact y
                  · rw [List.getElem?_eq_none (by simp; omega)] at hd; cases hd
                rw [List.getElem?_take, if_pos hj, List.getElem?_drop] at hd
                have := hc _ _ hd
                have hlt : fd.offset + j < us.size := by omega
                simp [hlt, show j < min (fd.offset + n) us.size - fd.offset by omega] at this ⊢
                exact this
              simp only [ldC, if_true] at he
              split at he
              · rename_i h
                obtain ⟨h0, rfl⟩ := h
                cases he
                have := key (by omega)
                rw [h0] at this
                simpa [h0] using this
              · split at he
                · rename_i h; cases he; exact key h
                · cases he
        · rename_i xs e1
          rw [e1] at vx
          generalize hu : a.eval x1 = u at vx
          cases vx with
          | agg us hsz h1 h =>
            cases ag with
            | false =>
              simp only [ldM, Bool.false_eq_true, if_false] at he
              have hlt : fd.offset < us.size := by rw [hsz]; exact (List.getElem?_eq_some_iff.1 he).1
              exact ⟨us, us.getD fd.offset undef, rfl, h _ _ he, fun w' => by simp [part, run_isAgg' w' hag, hlt]⟩
            | true =>
              simp only [ldM, if_true] at he
              split at he
              · rename_i hle
                cases he
                refine ⟨us, .agg (us.extract fd.offset (fd.offset + n)), rfl, mkAgg_ok (by simp; omega) (fun j y hy => ?_), fun w' => by simp [part, run_isAgg' w' hag, run_sizeOf' w' hn]⟩
                have hj : j < n := by
                  rcases Nat.lt_or_ge j n with z | z
                  · exact z
                  · rw [List.getElem?_eq_none (by simp; omega)] at hy; cases hy
                rw [List.getElem?_take, if_pos hj, List.getElem?_drop] at hy
                have hv := h _ _ hy
                have hlt : fd.offset + j < us.size := by omega
                have ho1 := (h1 (fd.offset + j)).resolve_right (by omega)
                have e : (us.extract fd.offset (fd.offset + n)).getD j undef = us.getD (fd.offset + j) undef := by
                  simp [hlt, show j < min (fd.offset + n) us.size - fd.offset by omega]
                rw [e]
                exact ⟨hv, ho1⟩
              · cases he
        · cases he
      obtain ⟨us, v, h1, h2, h3⟩ := key
      exact ⟨v, h2, fun w' _ => by simp [execOp, ho, h1, Instr.field, run_underlying' w' hfs, hfd, asAgg, h3 w']⟩
    · cases hq
  case indexAddr t x1 i1 =>
    obtain ⟨x', hx, hq⟩ := Option.bind_eq_some_iff.1 hq
    obtain ⟨i', hi, hq⟩ := Option.bind_eq_some_iff.1 hq
    have vx := evO_ok htm hx
    have vi := evO_ok htm hi
    split at hq
    · rename_i e hu
      obtain ⟨z, hz, rfl⟩ := Option.map_eq_some_iff.1 hq
      simp only [evQ] at he
      obtain ⟨n, hn, he⟩ := Option.bind_eq_some_iff.1 he
      obtain ⟨k, hk⟩ := vi.int_inv hn
      unfold ixsA at he
      split at he
      · rename_i b c m z' e1
        split at he
        · rename_i hb
          obtain ⟨rfl, h0, h1⟩ := hb
          cases he
          rw [e1] at vx
          generalize hux : a.eval x1 = u at vx
          cases vx with
          | @sl _ _ _ _ cap x0 l hl hx0 hle hc hsz =>
            have hx0' : x0 = l.o + c := by rcases hx0 with h | h; exact h; omega
            subst hx0'
            refine ⟨.pointer (some ⟨l.b, l.o + (c + n.toNat * z), none⟩), .ref hl, fun w' _ => ?_⟩
            simp [execOp, ho, hux, hk, Instr.indexAt, asIntOf, run_underlying' w' hu, run_sizeOf' w' hz, h0, h1, add_none, Nat.add_assoc]
        · cases he
      · rename_i z' es e1
        split at he
        · rename_i hb
          obtain ⟨rfl, h0, h1⟩ := hb
          cases he
          rw [e1] at vx
          generalize hux : a.eval x1 = u at vx
          cases vx with
          | d h => cases h with
            | @lst _ _ b o cap f hle hc hF hzz hr hw =>
              refine ⟨.pointer (some ⟨b, o + n.toNat * z, none⟩), .iref f hF hr hw, fun w' _ => ?_⟩
              simp [execOp, ho, hux, hk, Instr.indexAt, asIntOf, run_underlying' w' hu, run_sizeOf' w' hz, h0, h1, add_none]
        · cases he
      · cases he
    · rename_i m e hu
      obtain ⟨z, hz, rfl⟩ := Option.map_eq_some_iff.1 hq
      simp only [evQ] at he
      obtain ⟨n, hn, he⟩ := Option.bind_eq_some_iff.1 he
      obtain ⟨k, hk⟩ := vi.int_inv hn
      unfold ixaA at he
      split at he
      · rename_i hb
        obtain ⟨h0, h1⟩ := hb
        split at he
        · rename_i b c e1
          cases he
          rw [e1] at vx
          generalize hux : a.eval x1 = u at vx
          cases vx with
          | @ref _ _ l hl =>
            refine ⟨.pointer (some ⟨l.b, l.o + (c + n.toNat * z), none⟩), .ref hl, fun w' _ => ?_⟩
            simp [execOp, ho, hux, hk, Instr.indexAt, asIntOf, run_underlying' w' hu, run_sizeOf' w' hz, h0, h1, add_none, Nat.add_assoc, Instr.sureAddr]
        · rename_i cs c e1
          cases he
          rw [e1] at vx
          generalize hux : a.eval x1 = u at vx
          cases vx with
          | @iref _ _ b o f hF hr hw =>
            refine ⟨.pointer (some ⟨b, o + (c + n.toNat * z), none⟩), .iref f hF hr hw, fun w' _ => ?_⟩
            simp [execOp, ho, hux, hk, Instr.indexAt, asIntOf, run_underlying' w' hu, run_sizeOf' w' hz, h0, h1, add_none, Nat.add_assoc, Instr.sureAddr]
        · cases he
      · cases he
    · cases hq
  case index t x1 i1 =>
    obtain ⟨x', hx, hq⟩ := Option.bind_eq_some_iff.1 hq
    obtain ⟨i', hi, hq⟩ := Option.bind_eq_some_iff.1 hq
    have vx := evO_ok htm hx
    have vi := evO_ok htm hi
    split at hq
    · rename_i m e hu
      split at hq
      · rename_i hag hz
        cases hq
        simp only [evQ] at he
        obtain ⟨n, hn, he⟩ := Option.bind_eq_some_iff.1 he
        obtain ⟨k, hk⟩ := vi.int_inv hn
        unfold ixvA at he
        split at he
        · rename_i hb
          obtain ⟨h0, h1⟩ := hb
          have key : ∃ us : Array Value, a.eval x1 = .agg us ∧ n.toNat < us.size ∧ VR P w (Fre A w st.sto loc) loc x (us.getD n.toNat undef) := by
            split at he
            · rename_i xs e1
              obtain ⟨d, hd, rfl⟩ := Option.map_eq_some_iff.1 he
              rw [e1] at vx
              generalize hux : a.eval x1 = u at vx
              cases vx with
              | d h =>
                obtain ⟨us, rfl, hsz, hc⟩ := h
                exact ⟨us, rfl, by rw [hsz]; exact (List.getElem?_eq_some_iff.1 hd).1, .d (hc _ _ hd).rd⟩
            · rename_i xs e1
              rw [e1] at vx
              generalize hux : a.eval x1 = u at vx
              cases vx with
              | agg us hsz ho1 h => exact ⟨us, rfl, by rw [hsz]; exact (List.getElem?_eq_some_iff.1 he).1, h _ _ he⟩
            · cases he
          obtain ⟨us, hus, hlt, hv⟩ := key
          refine ⟨_, hv, fun w' _ => ?_⟩
          simp [execOp, ho, hus, hk, Instr.index, asIntOf, run_underlying' w' hu, run_sizeOf' w' hz, h0, h1, part, run_isAgg' w' hag, hlt]
        · cases he
      · cases hq
    · rename_i hu
      cases hq
      simp only [evQ] at he
      obtain ⟨n, hn, he⟩ := Option.bind_eq_some_iff.1 he
      obtain ⟨k, hk⟩ := vi.int_inv hn
      unfold ixtA at he
      split at he
      · rename_i s e1
        rw [e1] at vx
        split at he
        · rename_i h0
          obtain ⟨b, hb, rfl⟩ := Option.map_eq_some_iff.1 he
          refine ⟨_, .ofv rfl, fun w' _ => ?_⟩
          simp [execOp, ho, vx.v_inv, hk, Instr.index, asIntOf, run_underlying' w' hu, h0, hb]
        · cases he
      · cases he
    · cases hq
  case slice t x1 lo hi mx =>
    obtain ⟨x', hx, hq⟩ := Option.bind_eq_some_iff.1 hq
    have vx := evO_ok htm hx
    have hsl : ∀ (e : TypeId), P.underlying t = some (.slice e) → ∀ (u : Value) (l h m : Option Value) (w' : World), (Instr.sliceAt t u l h m).run P w' = (Instr.slice t u l h m).run P w' := fun e hu u l h m w' => by
      simp [Instr.sliceAt, run_underlying' w' hu]
    split at hq
    · rename_i e hu _
      obtain ⟨z, hz, hq⟩ := Option.bind_eq_some_iff.1 hq
      obtain ⟨lo', hlo, hq⟩ := Option.bind_eq_some_iff.1 hq
      obtain ⟨hi', hhi, rfl⟩ := Option.map_eq_some_iff.1 hq
      simp only [evQ] at he
      unfold slcA at he
      split at he
      · rename_i b c n z' e1
        split at he
        · rename_i hzz
          subst hzz
          obtain ⟨p, hp, rfl⟩ := Option.map_eq_some_iff.1 he
          rw [e1] at vx
          generalize hux : a.eval x1 = u at vx
          cases vx with
          | @sl _ _ _ _ cap x0 l hl hx0 hle hc hsz =>
            have hb := fun w' => bnd_ok htm hlo hhi true hle hp w'
            have hb1 := (hb w).1
            have hb2 := (hb w).2.1
            refine ⟨.slice (some ⟨l.b, if cap = p.1 then x0 else x0 + p.1 * z, none⟩) (p.2 - p.1) (cap - p.1), .sl hl ?_ (by omega) (by omega) ?_, fun w' _ => ?_⟩
            · by_cases h : cap = p.1
              · right; omega
              · left; rw [if_neg h]; rcases hx0 with h' | h' <;> omega
            · have : p.1 * z + (cap - p.1) * z = cap * z := by rw [← Nat.add_mul]; congr 1; omega
              omega
            · simp only [execOp, ho, hux]
              simp [hsl e hu, Instr.slice, run_underlying' w' hu, (hb w').2.2, run_sizeOf' w' hz]
              by_cases h : cap = p.1 <;> simp [h, add_none]
        · cases he
      · rename_i z' es e1
        split at he
        · rename_i hzz
          subst hzz
          obtain ⟨p, hp, rfl⟩ := Option.map_eq_some_iff.1 he
          rw [e1] at vx
          generalize hux : a.eval x1 = u at vx
          cases vx with
          | d h => cases h with
            | @lst _ _ b o cap f hle hc hF hzz hr hw =>
              have hb := fun w' => bnd_ok htm hlo hhi true hle hp w'
              have hb1 := (hb w).1
              have hb2 := (hb w).2.1
              have hlen : ((es.drop p.1).take (p.2 - p.1)).length = p.2 - p.1 := by simp; omega
              have hz' : ∀ e', e' ∈ (es.drop p.1).take (p.2 - p.1) → e'.cells.length = z := fun e' he' => hzz e' (List.mem_of_mem_drop (List.mem_of_mem_take he'))
              have hfl : ∀ j, j < (flat ((es.drop p.1).take (p.2 - p.1))).length → (flat ((es.drop p.1).take (p.2 - p.1)))[j]? = (flat es)[p.1 * z + j]? := fun j hj => by
                have h1 : flat es = flat (es.take p.1) ++ (flat ((es.drop p.1).take (p.2 - p.1)) ++ flat ((es.drop p.1).drop (p.2 - p.1))) := by
                  simp only [flat, ← List.flatMap_append, List.take_append_drop]
                have h2 : (flat (es.take p.1)).length = p.1 * z := by
                  rw [flat_length (fun e he => hzz e (List.mem_of_mem_take he)), List.length_take]; congr 1; omega
                rw [h1, List.getElem?_append_right (by omega), h2, show p.1 * z + j - p.1 * z = j by omega, List.getElem?_append_left hj]
              have hfl2 : ∀ j, j < (flat ((es.drop p.1).take (p.2 - p.1))).length → p.1 * z + j < (flat es).length := fun j hj => by
                have := hfl j hj
                rw [List.getElem?_eq_getElem hj] at this
                exact (List.getElem?_eq_some_iff.1 this.symm).1
              by_cases hcp : cap = p.1
              · refine ⟨.slice (some ⟨b, o, none⟩) (p.2 - p.1) (cap - p.1), .d ?_, fun w' _ => ?_⟩
                · have h0 : (es.drop p.1).take (p.2 - p.1) = [] := List.eq_nil_of_length_eq_zero (by omega)
                  have := RC.lst (w := w) (F := Fre A w st.sto loc) (z := z) (elems := []) (b := b) (o := o) (cap := cap - p.1) (fun _ => undef) (Nat.zero_le _) (by omega) hF
                    (fun e he => by simp at he) (fun j d hd => by simp [flat] at hd) (fun j hj => by simp [flat] at hj)
                  rw [h0]
                  have h1 : p.2 - p.1 = 0 := by rw [← hlen, h0]; rfl
                  rw [h1]; exact this
                · simp only [execOp, ho, hux]
                  simp [hsl e hu, Instr.slice, run_underlying' w' hu, (hb w').2.2, run_sizeOf' w' hz]
                  simp [hcp]
              · refine ⟨.slice (some ⟨b, o + p.1 * z, none⟩) (p.2 - p.1) (cap - p.1), .d ?_, fun w' _ => ?_⟩
                · have := RC.lst (w := w) (F := Fre A w st.sto loc) (z := z) (elems := (es.drop p.1).take (p.2 - p.1)) (b := b) (o := o + p.1 * z) (cap := cap - p.1) (fun j => f (p.1 * z + j))
                    (by omega) (by omega) hF hz' (fun j d hd => hr _ _ ((hfl j (List.getElem?_eq_some_iff.1 hd).1).symm.trans hd))
                    (fun j hj => by rw [Nat.add_assoc]; exact hw _ (hfl2 j hj))
                  rw [hlen] at this
                  exact this
                · simp only [execOp, ho, hux]
                  simp [hsl e hu, Instr.slice, run_underlying' w' hu, (hb w').2.2, run_sizeOf' w' hz]
                  simp [hcp, add_none]
        · cases he
      · rename_i e1
        obtain ⟨p, hp, rfl⟩ := Option.map_eq_some_iff.1 he
        rw [e1] at vx
        refine ⟨.slice none 0 0, .ofv rfl, fun w' _ => ?_⟩
        have hb := bnd_ok htm hlo hhi true (Nat.le_refl 0) hp w'
        have hb1 := hb.1
        have hb2 := hb.2.1
        simp only [execOp, ho, vx.v_inv]
        simp [hsl e hu, Instr.slice, run_underlying' w' hu, hb.2.2, run_sizeOf' w' hz]
        have h1 : p.1 = 0 := by omega
        have h2 : p.2 = 0 := by omega
        simp [h1, h2]
      · cases he
    · rename_i e h1 m1 hu _
      obtain ⟨z, hz, hq⟩ := Option.bind_eq_some_iff.1 hq
      obtain ⟨h', hh, hq⟩ := Option.bind_eq_some_iff.1 hq
      obtain ⟨m', hm, rfl⟩ := Option.map_eq_some_iff.1 hq
      have vh := evO_ok htm hh
      have vm := evO_ok htm hm
      simp only [evQ] at he
      unfold em0A at he
      split at he
      · rename_i kh km e1 e2
        rw [e1] at vh; rw [e2] at vm
        have hbs : ∀ (n cap : Nat) (w' : World), (Instr.sliceBounds true n cap none (some (.int kh 0)) (some (.int km 0))).run P w' = .ok (0, 0, 0) w' := fun n cap w' => by
          simp [Instr.sliceBounds, Instr.sliceBound, asIntOf]
        split at he
        · rename_i e3
          cases he
          rw [e3] at vx
          refine ⟨.slice none 0 0, .ofv rfl, fun w' _ => ?_⟩
          simp only [execOp, ho, vx.v_inv, vh.v_inv, vm.v_inv, Option.map_some, Option.map_none]
          simp [hsl e hu, Instr.slice, run_underlying' w' hu, hbs, run_sizeOf' w' hz]
        · rename_i b c n z' e3
          cases he
          rw [e3] at vx
          generalize hux : a.eval x1 = u at vx
          cases vx with
          | @sl _ _ _ _ cap x0 l hl hx0 hle hc hsz =>
            refine ⟨.slice (some ⟨l.b, x0, none⟩) 0 0, .emp, fun w' _ => ?_⟩
            simp only [execOp, ho, hux, vh.v_inv, vm.v_inv, Option.map_some, Option.map_none]
            simp [hsl e hu, Instr.slice, run_underlying' w' hu, hbs, run_sizeOf' w' hz]
        · rename_i z' es e3
          cases he
          rw [e3] at vx
          generalize hux : a.eval x1 = u at vx
          cases vx with
          | d h => cases h with
            | @lst _ _ b o cap f hle hc hF hzz hr hw =>
              refine ⟨.slice (some ⟨b, o, none⟩) 0 0, .emp, fun w' _ => ?_⟩
              simp only [execOp, ho, hux, vh.v_inv, vm.v_inv, Option.map_some, Option.map_none]
              simp [hsl e hu, Instr.slice, run_underlying' w' hu, hbs, run_sizeOf' w' hz]
        · rename_i e3
          cases he
          rw [e3] at vx
          generalize hux : a.eval x1 = u at vx
          cases vx with
          | @emp aa =>
            refine ⟨.slice (some aa) 0 0, .emp, fun w' _ => ?_⟩
            simp only [execOp, ho, hux, vh.v_inv, vm.v_inv, Option.map_some, Option.map_none]
            simp [hsl e hu, Instr.slice, run_underlying' w' hu, hbs, run_sizeOf' w' hz]
        · cases he
      · cases he
    · rename_i hu _
      obtain ⟨lo', hlo, hq⟩ := Option.bind_eq_some_iff.1 hq
      obtain ⟨hi', hhi, rfl⟩ := Option.map_eq_some_iff.1 hq
      simp only [evQ] at he
      unfold sltA at he
      split at he
      · rename_i s e1
        obtain ⟨p, hp, rfl⟩ := Option.map_eq_some_iff.1 he
        rw [e1] at vx
        refine ⟨_, .ofv rfl, fun w' _ => ?_⟩
        have hb := bnd_ok htm hlo hhi false (Nat.le_refl s.size) hp w'
        simp only [execOp, ho, vx.v_inv]
        simp [Instr.sliceAt, Instr.slice, run_underlying' w' hu, hb.2.2]
      · cases he
    · cases hq
  case build t ps =>
    obtain ⟨d, hd, hq⟩ := Option.bind_eq_some_iff.1 hq
    obtain ⟨i, zv, hi, hzv, z1, z2, z3, z4⟩ := zeroD_ok hd
    have fin : ∀ (zs : List D) (place : Nat → Option Nat) (pl : Nat → Option (Nat × Nat)) (qs : List (Nat × Opd)), d = .agg zs → q = .bld zs qs → lowPs P N place ps.toList = some qs →
        (∀ i o, place i = some o → pl i = some (o, 1) ∧ o < zs.length) →
        (∀ (w' : World) (vs : Array (Nat × Value)) (out : Array Value), Instr.fill pl zv.cells vs.toList = some out → (Instr.build t vs).run P w' = .ok (.agg out) w') →
        ∃ v, VR P w (Fre A w st.sto loc) loc x v ∧ ∀ w' : World, (∀ b, b < w.heap.size → Rd st loc q b → w'.heap[b]? = w.heap[b]?) → (execOp a.eval o).run P w' = .ok (.value v) w' :=
      fun zs place pl qs e1 e2 e3 e4 e5 => by
        subst e1 e2
        simp only [D.cells] at z2 z4
        simp only [evQ] at he
        obtain ⟨xs, hxs, rfl⟩ := Option.map_eq_some_iff.1 he
        obtain ⟨p1, p2⟩ := lowPs_ok htm e3
        have hzl : zs.length = zv.cells.size := by rw [z4]; simp
        obtain ⟨out, o1, o2, o3⟩ := fill_ok (P := P) (w := w) (F := Fre A w st.sto loc) (loc := loc) (place := pl) (ps.toList.map fun p => (p.1, a.eval p.2)) (qs.map fun q => (q.1, evO st.tm q.2)) zv.cells (zs.map .d) xs
          (by simpa using p1) (fun j p q hp hq => by
            obtain ⟨r1, r2⟩ := p2 j p q hp hq
            obtain ⟨r3, r4⟩ := e4 _ _ r1
            exact ⟨r3, by simpa using r4, r2⟩) (by simp [hzl]) (fun j y hy => by
            rw [List.getElem?_map] at hy
            obtain ⟨dd, hdd, rfl⟩ := Option.map_eq_some_iff.1 hy
            rw [z4, List.getElem?_map] at hdd
            obtain ⟨cv, hcv, rfl⟩ := Option.map_eq_some_iff.1 hdd
            have hcm := z3 cv (List.mem_of_getElem? hcv)
            have : zv.cells.getD j undef = cv := by
              obtain ⟨hlt, rfl⟩ := List.getElem?_eq_some_iff.1 hcv
              simp at hlt; simp [hlt]
            rw [this]; exact ⟨.ofv hcm, hcm⟩) hxs
        refine ⟨.agg out, mkAgg_ok o2 o3, fun w' _ => ?_⟩
        simp only [execOp, ho]
        rw [Sem.run_bind, e5 w' _ out (by simpa using o1)]
        rfl
    split at hq
    · rename_i zs fs hu
      split at hq
      · rename_i hall
        obtain ⟨qs, hqs, rfl⟩ := Option.map_eq_some_iff.1 hq
        refine fin zs _ ((fs.map fun f => (f.offset, (szOf P f.type).getD 0))[·]?) qs rfl rfl hqs (fun i o hi => ?_) (fun w' vs out hf => run_build_struct w' hi hzv hu hall hf)
        obtain ⟨f, hf, hi⟩ := Option.bind_eq_some_iff.1 hi
        obtain ⟨n, hn, hi⟩ := Option.bind_eq_some_iff.1 hi
        split at hi
        · rename_i hh
          obtain ⟨rfl, hlt⟩ := hh
          cases hi
          simp [hf, hn, hlt]
        · cases hi
      · cases hq
    · rename_i zs n e hu
      split at hq
      · rename_i hsz
        obtain ⟨qs, hqs, rfl⟩ := Option.map_eq_some_iff.1 hq
        refine fin zs _ (fun i => some (i * 1, 1)) qs rfl rfl hqs (fun i o hi => by
          split at hi
          · rename_i hlt; cases hi; simp [hlt]
          · cases hi) (fun w' vs out hf => run_build_array w' hi hzv hu hsz hf)
      · cases hq
    · cases hq
  case makeFunc fn first caps =>
    cases fn <;> (try (simp only at hq)) <;> try (cases hq; done)
    rename_i f
    cases hfl : first.toList with
    | cons y ys => rw [hfl] at hq; cases hq
    | nil =>
      rw [hfl] at hq
      obtain ⟨ys, hys, rfl⟩ := Option.map_eq_some_iff.1 hq
      simp only [evQ] at he
      cases he
      obtain ⟨hl, hv⟩ := evOs_ok htm hys
      have hfirst : first = #[] := by
        rcases first with ⟨l⟩
        simp at hfl
        subst hfl; rfl
      refine ⟨.func (.func f) #[] (caps.map a.eval), .fn _ (by simpa using hl) (fun j x hx => by simpa using hv j x hx), fun w' _ => ?_⟩
      simp [execOp, ho, Instr.makeFunc, hfirst]
  case extract x1 i1 =>
    obtain ⟨y, hy, rfl⟩ := Option.map_eq_some_iff.1 hq
    have vx := evO_ok htm hy
    simp only [evQ] at he
    unfold extA at he
    split at he
    · rename_i xs e1
      rw [e1] at vx
      generalize hux : a.eval x1 = u at vx
      cases vx with
      | tup us hsz h =>
        have hlt : i1 < us.size := by rw [hsz]; exact (List.getElem?_eq_some_iff.1 he).1
        exact ⟨us.getD i1 undef, h _ _ he, fun w' _ => by simp [execOp, ho, hux, Instr.extract, hlt]⟩
    · cases he
  case nilCheck x1 =>
    obtain ⟨y, hy, rfl⟩ := Option.map_eq_some_iff.1 hq
    have vx := evO_ok htm hy
    simp only [evQ] at he
    unfold nlcA at he
    split at he
    · rename_i i c e1
      cases he
      rw [e1] at vx
      generalize hux : a.eval x1 = u at vx
      cases vx with
      | ref hl => exact ⟨_, .ref hl, fun w' _ => by simp [execOp, ho, hux]⟩
    · rename_i cs c e1
      cases he
      rw [e1] at vx
      generalize hux : a.eval x1 = u at vx
      cases vx with
      | iref f hF hr hw => exact ⟨_, .iref f hF hr hw, fun w' _ => by simp [execOp, ho, hux]⟩
    · cases he
  case call c =>
    obtain ⟨callee, args, argTypes⟩ := c
    simp only at hq
    by_cases hcv : ∃ x, callee = .value x
    · obtain ⟨xf, rfl⟩ := hcv
      cases xf <;> simp only at hq <;> try (cases hq; done)
      rename_i f
      rcases args with ⟨args⟩
      unfold lowX at hq
      split at hq
      · rename_i x1 y1 ea
        simp only at ea
        subst ea
        obtain ⟨x', hx, hq⟩ := Option.bind_eq_some_iff.1 hq
        obtain ⟨y', hy, hq⟩ := Option.bind_eq_some_iff.1 hq
        obtain ⟨fn, hfn, hq⟩ := Option.bind_eq_some_iff.1 hq
        have vx := evO_ok htm hx
        have vy := evO_ok htm hy
        have key : ∃ ix : Bool, q = .xts ix x' y' ∧ fn.body.isNone = true ∧ fn.origin = "" ∧ fn.name = if ix then "internal/bytealg.IndexByteString" else "internal/bytealg.CountString" := by
          split at hq
          · rename_i hbo
            split at hq
            · rename_i hnm; cases hq; exact ⟨false, rfl, hbo.1, hbo.2, hnm⟩
            · split at hq
              · rename_i hnm; cases hq; exact ⟨true, rfl, hbo.1, hbo.2, hnm⟩
              · cases hq
          · cases hq
        obtain ⟨ix, rfl, hb, hor, hnm⟩ := key
        simp only [evQ] at he
        unfold xtsA at he
        split at he
        · rename_i s c e1 e2
          cases he
          rw [e1] at vx; rw [e2] at vy
          have hu := vx.v_inv
          have hv := vy.v_inv
          exact ⟨_, .ofv rfl, fun w' _ => by
            have hex : (execOp a.eval o).run P w' = (callFunc f #[.string s, .int .u8 c]).run P w' := by
              have hfe : a.eval (.func f) = .func (.func f) #[] #[] := rfl
              simp [execOp, ho, resolve, hfe, Deferred.ofValue, invoke, hu, hv]
            rw [hex]; exact run_ext hfn hb hor hnm s c w'⟩
        · cases he
      · cases hq
    cases callee <;> (try simp only at hq) <;> try (cases hq; done)
    · exact absurd ⟨_, rfl⟩ hcv
    rename_i b
    have hex : ∀ (w' : World) (v : Value), (builtin b argTypes o.type (args.map fun | .const _ => true | _ => false) (args.map a.eval)).run P w' = .ok (.value v) w' →
        (execOp a.eval o).run P w' = .ok (.value v) w' := fun w' v h => by
      simp only [execOp, ho, resolve, Sem.run_bind, Sem.run_pure, Result.andThen_ok, invoke]
      exact h
    rcases args with ⟨args⟩
    rcases argTypes with ⟨tys⟩
    unfold lowB at hq
    split at hq
    · rename_i x1 t ea et
      simp only at ea et
      subst ea et
      obtain ⟨x', hx, hq⟩ := Option.bind_eq_some_iff.1 hq
      have vx := evO_ok htm hx
      split at hq
      · rename_i e hu
        cases hq
        simp only [evQ] at he
        have sl : ∀ (n : Nat) (ad : Option Addr) (c : Nat), a.eval x1 = .slice ad n c → ∀ w' : World, (execOp a.eval o).run P w' = .ok (.value (.int .i64 n)) w' := fun n ad c h1 w' => by
          apply hex
          simp [builtin, Builtin.len_, h1, run_underlying' w' hu, goInt]
        unfold lenA at he
        split at he
        · rename_i b c n z e1
          cases he
          rw [e1] at vx
          generalize hux : a.eval x1 = u at vx
          cases vx with
          | sl hl hx0 hle hc hsz => exact ⟨_, .ofv rfl, fun w' _ => sl _ _ _ hux w'⟩
        · rename_i z es e1
          cases he
          rw [e1] at vx
          generalize hux : a.eval x1 = u at vx
          cases vx with
          | d h => cases h with
            | lst f hle hc hF hzz hr hw => exact ⟨_, .ofv rfl, fun w' _ => sl _ _ _ hux w'⟩
        · rename_i e1
          cases he
          rw [e1] at vx
          exact ⟨_, .ofv rfl, fun w' _ => sl _ _ _ vx.v_inv w'⟩
        · rename_i e1
          cases he
          rw [e1] at vx
          generalize hux : a.eval x1 = u at vx
          cases vx with
          | emp => exact ⟨_, .ofv rfl, fun w' _ => sl _ _ _ hux w'⟩
        · cases he
      · rename_i hu
        cases hq
        simp only [evQ] at he
        unfold lnsA at he
        split at he
        · rename_i s e1
          cases he
          rw [e1] at vx
          exact ⟨_, .ofv rfl, fun w' _ => hex _ _ (by simp [builtin, Builtin.len_, vx.v_inv, run_underlying' w' hu, goInt])⟩
        · cases he
      · cases hq
    · rename_i x1 t ea et
      simp only at ea et
      subst ea et
      obtain ⟨x', hx, hq⟩ := Option.bind_eq_some_iff.1 hq
      have vx := evO_ok htm hx
      split at hq
      · rename_i e hu
        cases hq
        simp only [evQ] at he
        unfold capA at he
        split at he
        · rename_i e1
          cases he
          rw [e1] at vx
          exact ⟨_, .ofv rfl, fun w' _ => hex _ _ (by simp [builtin, Builtin.cap_, vx.v_inv, run_underlying' w' hu, goInt])⟩
        · rename_i e1
          cases he
          rw [e1] at vx
          generalize hux : a.eval x1 = u at vx
          cases vx with
          | emp => exact ⟨_, .ofv rfl, fun w' _ => hex _ _ (by simp [builtin, Builtin.cap_, hux, run_underlying' w' hu, goInt])⟩
        · cases he
      · cases hq
    · rename_i x1 y1 ea
      simp only at ea
      subst ea
      obtain ⟨x', hx, hq⟩ := Option.bind_eq_some_iff.1 hq
      obtain ⟨y', hy, rfl⟩ := Option.map_eq_some_iff.1 hq
      have vx := evO_ok htm hx
      have vy := evO_ok htm hy
      simp only [evQ] at he
      unfold mnA at he
      split at he
      · rename_i k m k2 n e1 e2
        cases he
        rw [e1] at vx; rw [e2] at vy
        exact ⟨_, .ofv rfl, fun w' _ => hex _ _ (by simp [builtin, Builtin.min_, Builtin.min2, vx.v_inv, vy.v_inv])⟩
      · cases he
    · rename_i x1 y1 ea
      simp only at ea
      subst ea
      obtain ⟨x', hx, hq⟩ := Option.bind_eq_some_iff.1 hq
      obtain ⟨y', hy, rfl⟩ := Option.map_eq_some_iff.1 hq
      have vx := evO_ok htm hx
      have vy := evO_ok htm hy
      simp only [evQ] at he
      unfold mxA at he
      split at he
      · rename_i k m k2 n e1 e2
        cases he
        rw [e1] at vx; rw [e2] at vy
        exact ⟨_, .ofv rfl, fun w' _ => hex _ _ (by simp [builtin, Builtin.max_, Builtin.max2, vx.v_inv, vy.v_inv])⟩
      · cases he
    · cases hq

end
end Go.Proofs.Ytccfejnckmokkaa.Va

/-! Operations that make or write memory: what they come to. Condition: none. -/
namespace Go.Proofs.Ytccfejnckmokkaa.Va
open Go

section
variable {P : Program} {w0 : World} {G A : Nat → Prop} {gh : List Value} {N : Nat}

theorem setRow_old (w : World) (g k : Nat) (cs : Array Value) (h : k ≠ g) : (w.setRow g cs).heap[k]? = w.heap[k]? := setRow_other w g k cs h

theorem Kp.setRow {K : Nat → Prop} (w : World) (g : Nat) (cs : Array Value) {old : Array Value} {t : TypeId} (hg : w.heap[g]? = some (.cells old t (0, 0))) (hs : cs.size = old.size) (h : K g) : Kp K w (w.setRow g cs) :=
  ⟨rfl, rfl, rfl, by simp, fun k _ hn => setRow_old w g k cs (fun e => hn (e ▸ h)), fun k _ => by
    by_cases e : k = g
    · subst e
      simp only [Va.bsz, setRow_heap w k old cs t (0, 0) hg, hg, hs]
    · simp only [Va.bsz, setRow_old w g k cs e]⟩

theorem SR.take {sto : Sto} {loc : List Loc} {w w' : World} (h : SR P w0 G A sto loc w) {i : Nat} {B B' : Blk} {l l' : Loc} (hi : sto[i]? = some (some B)) (hl : loc[i]? = some l)
    (hk : Kp (fun b => b = l.b) w w') (hb : l'.b = l.b) {f : Nat → Value} (hat : At w' l' B'.len f)
    (hB : (∀ x u, VR P w (Fre A w sto loc) loc x u → VR P w' (Fre A w' (sto.set i none ++ [some B']) (loc ++ [l'])) (loc ++ [l']) x u) →
      (∀ d u, RC w (Fre A w sto loc) d u → RC w' (Fre A w' (sto.set i none ++ [some B']) (loc ++ [l'])) d u) → RB P w' (Fre A w' (sto.set i none ++ [some B']) (loc ++ [l'])) (loc ++ [l']) B' f) :
    SR P w0 G A (sto.set i none ++ [some B']) (loc ++ [l']) w' ∧
      (∀ x u, VR P w (Fre A w sto loc) loc x u → VR P w' (Fre A w' (sto.set i none ++ [some B']) (loc ++ [l'])) (loc ++ [l']) x u) := by
  have hlen := h.len
  have cases_ : ∀ (j : Nat) (C : Blk) (m : Loc), (sto.set i none ++ [some B'])[j]? = some (some C) → (loc ++ [l'])[j]? = some m →
      (j ≠ i ∧ sto[j]? = some (some C) ∧ loc[j]? = some m) ∨ (j = sto.length ∧ C = B' ∧ m = l') := fun j C m h1 h2 => by
    rcases Nat.lt_or_ge j sto.length with x | x
    · rw [List.getElem?_append_left (by simpa using x)] at h1
      rw [List.getElem?_append_left (by rw [hlen]; exact x)] at h2
      rcases getElem?_set_some h1 with ⟨_, e, _⟩ | ⟨hne, e⟩
      · cases e
      · exact .inl ⟨Ne.symm hne, e, h2⟩
    · rw [List.getElem?_append_right (by simpa using x)] at h1
      rw [List.getElem?_append_right (by rw [hlen]; exact x)] at h2
      simp only [List.length_set] at h1
      rcases Nat.lt_or_ge (j - sto.length) 1 with y | y
      · have hj : j = sto.length := by omega
        subst hj
        rw [hlen] at h2
        simp at h1 h2
        exact .inr ⟨rfl, h1.symm, h2.symm⟩
      · rw [List.getElem?_eq_none (by simpa using y)] at h1; cases h1
  refine h.step (K := fun b => b = l.b) hk (fun b e => ⟨i, B, l, hi, hl, e.symm⟩) (by simp [hlen]) (fun j m hm => by
    rw [List.getElem?_append_left]; exact hm; exact (List.getElem?_eq_some_iff.1 hm).1) ?_ ?_ ?_
  · rintro b ⟨j, C, m, h1, h2, rfl⟩
    rcases cases_ j C m h1 h2 with ⟨_, h3, h4⟩ | ⟨_, _, rfl⟩
    · exact .inl ⟨j, C, m, h3, h4, rfl⟩
    · exact .inl ⟨i, B, l, hi, hl, hb.symm⟩
  · intro a b C E m n h1 h2 h3 h4 e
    rcases cases_ a C m h1 h3 with ⟨x0, x1, x2⟩ | ⟨rfl, _, rfl⟩ <;> rcases cases_ b E n h2 h4 with ⟨y0, y1, y2⟩ | ⟨rfl, _, rfl⟩
    · exact h.inj a b C E m n x1 y1 x2 y2 e
    · exact absurd (h.inj a i C B m l x1 hi x2 hl (e.trans hb)) x0
    · exact absurd (h.inj i b B E l n hi y1 hl y2 (hb.symm.trans e)).symm y0
    · rfl
  · intro hV hR j C m h1 h2
    rcases cases_ j C m h1 h2 with ⟨x0, h3, h4⟩ | ⟨_, rfl, rfl⟩
    · exact .inl ⟨h3, h4, fun e => x0 (h.inj j i C B m l h3 hi h4 hl e)⟩
    · exact .inr ⟨f, hat, hB hV hR⟩

theorem flat_append (a b : List D) : flat (a ++ b) = flat a ++ flat b := by simp [flat]

theorem flat_view {z k n : Nat} {es : List D} (hz : ∀ e, e ∈ es → e.cells.length = z) (hk : k + n ≤ es.length) :
    (flat ((es.drop k).take n)).length = n * z ∧ ∀ j, j < n * z → (flat ((es.drop k).take n))[j]? = (flat es)[k * z + j]? := by
  have hlen : ((es.drop k).take n).length = n := by simp; omega
  have hl : (flat ((es.drop k).take n)).length = n * z := by
    rw [flat_length (fun e he => hz e (List.mem_of_mem_drop (List.mem_of_mem_take he))), hlen]
  refine ⟨hl, fun j hj => ?_⟩
  have h1 : flat es = flat (es.take k) ++ (flat ((es.drop k).take n) ++ flat ((es.drop k).drop n)) := by
    simp only [flat, ← List.flatMap_append, List.take_append_drop]
  have h2 : (flat (es.take k)).length = k * z := by
    rw [flat_length (fun e he => hz e (List.mem_of_mem_take he)), List.length_take]; congr 1; omega
  rw [h1, List.getElem?_append_right (by omega), h2, show k * z + j - k * z = j by omega, List.getElem?_append_left (by omega)]

def srcE (sto : Sto) (z : Nat) : AV → Option (List D)
  | .d (.v (.slice none 0 0)) => some []
  | .emp => some []
  | .d (.lst z' es) => if z = z' then some es else none
  | .sl i c n z' => (match sto[i]? with
    | some (some (.dat z'' es)) => if z = z' ∧ z = z'' ∧ c % z = 0 ∧ c / z + n ≤ es.length then some ((es.drop (c / z)).take n) else none
    | _ => none)
  | _ => none

theorem divmod {c z : Nat} (h : c % z = 0) : c / z * z = c := by
  rw [Nat.mul_comm]; have := Nat.div_add_mod c z; omega

theorem view_ok {sto : Sto} {loc : List Loc} {w : World} (h : SR P w0 G A sto loc w) {i c n z : Nat} {es : List D} {u : Value}
    (hv : VR P w (Fre A w sto loc) loc (.sl i c n z) u) (hB : sto[i]? = some (some (.dat z es))) :
    ∃ (l : Loc) (x cap : Nat) (cs : Array Value) (t : TypeId) (f : Nat → Value), loc[i]? = some l ∧ u = .slice (some ⟨l.b, x, none⟩) n cap ∧ (x = l.o + c ∨ cap = 0) ∧ n ≤ cap ∧ cap ≤ maxLen ∧
      l.o + c + cap * z ≤ l.size ∧ w.heap[l.b]? = some (.cells cs t (0, 0)) ∧ cs.size = l.size ∧ (∀ e, e ∈ es → e.cells.length = z) ∧ l.o + (flat es).length ≤ l.size ∧
      (∀ j, j < (flat es).length → cs[l.o + j]? = some (f j)) ∧ (∀ j d, (flat es)[j]? = some d → RC w (Fre A w sto loc) d (f j)) := by
  cases hv with
  | @sl _ _ _ _ cap x l hl hx hle hcap hsz =>
    obtain ⟨f, ⟨cs, t, ha1, ha2, ha3, ha4⟩, hr⟩ := h.blk i _ l hB hl
    exact ⟨l, x, cap, cs, t, f, hl, rfl, hx, hle, hcap, hsz, ha1, ha2, hr.1, ha3, ha4, hr.2⟩

theorem src_ok {sto : Sto} {loc : List Loc} {w : World} (h : SR P w0 G A sto loc w) {y : AV} {u : Value} {z : Nat} {es : List D}
    (hv : VR P w (Fre A w sto loc) loc y u) (he : srcE sto z y = some es) :
    (u = .slice none 0 0 ∧ es = []) ∨ ((∀ e, e ∈ es → e.cells.length = z) ∧ ∃ (ad : Addr) (cap : Nat) (news : List Value), u = .slice (some ad) es.length cap ∧ news.length = es.length * z ∧
      (∀ j v, news[j]? = some v → w.cell? (ad.add j) = some v) ∧ (∀ j d, (flat es)[j]? = some d → RC w (Fre A w sto loc) d (news.getD j undef)) ∧ ∀ v, v ∈ news → v.oneCell' = true) := by
  have fin : ∀ (b x cap : Nat) (f : Nat → Value), u = .slice (some ⟨b, x, none⟩) es.length cap → (∀ e, e ∈ es → e.cells.length = z) →
      (∀ j, j < (flat es).length → w.cell? ⟨b, x + j, none⟩ = some (f j)) → (∀ j d, (flat es)[j]? = some d → RC w (Fre A w sto loc) d (f j)) →
      ∃ (ad : Addr) (cap : Nat) (news : List Value), u = .slice (some ad) es.length cap ∧ news.length = es.length * z ∧
      (∀ j v, news[j]? = some v → w.cell? (ad.add j) = some v) ∧ (∀ j d, (flat es)[j]? = some d → RC w (Fre A w sto loc) d (news.getD j undef)) ∧ ∀ v, v ∈ news → v.oneCell' = true :=
    fun b x cap f hu hz hw hr => by
      refine ⟨⟨b, x, none⟩, cap, (List.range (flat es).length).map f, hu, by rw [List.length_map, List.length_range, flat_length hz], fun j v hj => ?_, fun j d hd => ?_, fun v hm => ?_⟩
      · rw [List.getElem?_map] at hj
        obtain ⟨k, hk, rfl⟩ := Option.map_eq_some_iff.1 hj
        obtain ⟨hlt, rfl⟩ := List.getElem?_eq_some_iff.1 hk
        rw [add_none]; simp at hlt ⊢; exact hw j hlt
      · have hlt := (List.getElem?_eq_some_iff.1 hd).1
        have : ((List.range (flat es).length).map f).getD j undef = f j := by simp [hlt]
        rw [this]; exact hr j d hd
      · obtain ⟨j, hj, rfl⟩ := List.mem_map.1 hm
        have hlt := List.mem_range.1 hj
        exact (hr j _ (List.getElem?_eq_getElem hlt)).one
  unfold srcE at he
  split at he
  · cases he; exact .inl ⟨hv.v_inv, rfl⟩
  · cases he
    cases hv with
    | @emp a => exact .inr ⟨fun e he => by simp at he, a, 0, [], rfl, by simp, fun j v hj => by simp at hj, fun j d hd => by simp [flat] at hd, fun v hm => by simp at hm⟩
  · split at he
    · rename_i hz
      cases he
      subst hz
      cases hv with
      | d hd => cases hd with
        | @lst _ _ b o cap f hle hc hF hzz hr hw => exact .inr ⟨hzz, fin b o cap f rfl hzz hw hr⟩
    · cases he
  · rename_i i c n z'
    split at he
    · rename_i z'' es' hB
      split at he
      · rename_i hh
        obtain ⟨rfl, rfl, hc, hn⟩ := hh
        cases he
        obtain ⟨l, x, cap, cs, t, f, hl, rfl, hx, hle, hcap, hsz, ha1, ha2, hzz, ha3, ha4, hr⟩ := view_ok h hv hB
        have hzz' : ∀ e, e ∈ (es'.drop (c / z)).take n → e.cells.length = z := fun e he => hzz e (List.mem_of_mem_drop (List.mem_of_mem_take he))
        have hvw := flat_view hzz hn
        rw [divmod hc] at hvw
        have hlen : ((es'.drop (c / z)).take n).length = n := by
          rw [List.length_take, List.length_drop]; exact Nat.min_eq_left (Nat.le_sub_of_add_le (by rw [Nat.add_comm]; exact hn))
        have hlt : ∀ j, j < (flat ((es'.drop (c / z)).take n)).length → c + j < (flat es').length := fun j hj => by
          have := hvw.2 j (by rw [← hvw.1]; exact hj)
          rw [List.getElem?_eq_getElem hj] at this
          exact (List.getElem?_eq_some_iff.1 this.symm).1
        refine .inr ⟨hzz', fin l.b x cap (fun j => f (c + j)) (by rw [hlen]) hzz' (fun j hj => ?_) (fun j d hd => ?_)⟩
        · have hn0 : cap ≠ 0 := fun e => by
            have : ((es'.drop (c / z)).take n).length = 0 := by rw [hlen]; omega
            have := List.eq_nil_of_length_eq_zero this
            rw [this] at hj; simp [flat] at hj
          have hx' := hx.resolve_right hn0
          subst hx'
          rw [cell_of_row w l.b _ cs t (0, 0) ha1, Nat.add_assoc]
          exact ha4 _ (hlt j hj)
        · have hj := (List.getElem?_eq_some_iff.1 hd).1
          exact hr _ _ ((hvw.2 j (by rw [← hvw.1]; exact hj)).symm.trans hd)
      · cases he
    · cases he
  · cases he

end
end Go.Proofs.Ytccfejnckmokkaa.Va

/-! Operations that make or write memory: each does what it is said to (first part). Condition: none. -/
namespace Go.Proofs.Ytccfejnckmokkaa.Va
open Go

section
variable {P : Program} {w0 : World} {G A : Nat → Prop} {gh : List Value} {N : Nat}

def MemOK (P : Program) (w0 : World) (G A : Nat → Prop) (sto : Sto) (loc : List Loc) (w : World) (s : Sem Next) (K : Nat → Prop) (x : AV) (sto' : Sto) : Prop :=
  ∃ (r : Next) (v : Value) (w' : World) (loc' : List Loc), s.run P w = .ok r w' ∧ (r = .value v ∨ (r = .skip ∧ v = undef)) ∧ Kp K w w' ∧
    SR P w0 G A sto' loc' w' ∧ (∀ y u, VR P w (Fre A w sto loc) loc y u → VR P w' (Fre A w' sto' loc') loc' y u) ∧ VR P w' (Fre A w' sto' loc') loc' x v

theorem At.new (w : World) (cs : Array Value) (t : TypeId) (n : Nat) (f : Nat → Value) (h : ∀ j, j < n → cs[j]? = some (f j)) (hn : n ≤ cs.size) :
    At (w.alloc (.cells cs t)) ⟨w.heap.size, 0, cs.size⟩ n f :=
  ⟨cs, t, heap_alloc_new w _, rfl, by simpa using hn, fun j hj => by simpa using h j hj⟩

theorem last_ext {α : Type} (l : List α) (x : α) : (l ++ [x])[l.length]? = some x := by simp

theorem mem_new {sto : Sto} {loc : List Loc} {w w1 : World} (h : SR P w0 G A sto loc w) (h1 : Kp (fun _ => False) w w1) (hs : w1.heap.size = w.heap.size) (cs : Array Value) (t : TypeId) {B : Blk} (f : Nat → Value)
    (hf : ∀ j, j < B.len → cs[j]? = some (f j)) (hn : B.len ≤ cs.size)
    (hB : (∀ y u, VR P w (Fre A w sto loc) loc y u → VR P (w1.alloc (.cells cs t)) (Fre A (w1.alloc (.cells cs t)) (sto ++ [some B]) (loc ++ [⟨w.heap.size, 0, cs.size⟩])) (loc ++ [⟨w.heap.size, 0, cs.size⟩]) y u) →
      (∀ d u, RC w (Fre A w sto loc) d u → RC (w1.alloc (.cells cs t)) (Fre A (w1.alloc (.cells cs t)) (sto ++ [some B]) (loc ++ [⟨w.heap.size, 0, cs.size⟩])) d u) →
      RB P (w1.alloc (.cells cs t)) (Fre A (w1.alloc (.cells cs t)) (sto ++ [some B]) (loc ++ [⟨w.heap.size, 0, cs.size⟩])) (loc ++ [⟨w.heap.size, 0, cs.size⟩]) B f) :
    Kp (fun _ => False) w (w1.alloc (.cells cs t)) ∧ SR P w0 G A (sto ++ [some B]) (loc ++ [⟨w.heap.size, 0, cs.size⟩]) (w1.alloc (.cells cs t)) ∧
      (∀ y u, VR P w (Fre A w sto loc) loc y u → VR P (w1.alloc (.cells cs t)) (Fre A (w1.alloc (.cells cs t)) (sto ++ [some B]) (loc ++ [⟨w.heap.size, 0, cs.size⟩])) (loc ++ [⟨w.heap.size, 0, cs.size⟩]) y u) := by
  have hk : Kp (fun _ => False) w (w1.alloc (.cells cs t)) := h1.trans (Kp.alloc _ _ _) (fun _ _ x => x) (fun _ _ x => x)
  refine ⟨hk, ?_⟩
  have hat : At (w1.alloc (.cells cs t)) ⟨w.heap.size, 0, cs.size⟩ B.len f := by
    have := At.new w1 cs t B.len f hf hn
    rw [hs] at this; exact this
  exact h.new hk (Nat.le_refl _) hat hB

/-! ### alloc, box -/

theorem mem_alloc {sto : Sto} {loc : List Loc} {w : World} (h : SR P w0 G A sto loc w) {e : TypeId} {d : D} (hd : zeroD P e = some d) :
    MemOK P w0 G A sto loc w (do pure (.value (← Instr.alloc e true (.tuple #[])))) (fun _ => False) (.ref sto.length 0) (sto ++ [some (.var d.cells)]) := by
  obtain ⟨i, z, hi, hz, h1, h2, h3, h4⟩ := zeroD_ok hd
  have hlen : d.cells.length = z.cells.size := by rw [h4]; simp
  obtain ⟨k1, k2, k3⟩ := mem_new h (Kp.refl _ w) rfl z.cells e (B := .var d.cells) (fun j => z.cells.getD j undef) (fun j hj => by
    have : j < z.cells.size := by rw [← hlen]; exact hj
    simp [this]) (by show d.cells.length ≤ _; omega) (fun _ _ => fun j d' hd' => by
      rw [h4, List.getElem?_map] at hd'
      obtain ⟨c, hc, rfl⟩ := Option.map_eq_some_iff.1 hd'
      have : z.cells.getD j undef = c := by
        obtain ⟨hlt, rfl⟩ := List.getElem?_eq_some_iff.1 hc
        simp at hlt; simp [hlt]
      show RC _ _ _ (z.cells.getD j undef)
      rw [this]; exact .v (h3 _ (List.mem_of_getElem? hc)))
  refine ⟨_, .pointer (some ⟨w.heap.size, 0, none⟩), _, _, ?_, .inl rfl, k1, k2, k3, ?_⟩
  · simp [Instr.alloc, run_zeroValue' w hi hz, newVar, newRow]
  · have : (loc ++ [⟨w.heap.size, 0, z.cells.size⟩])[sto.length]? = some (⟨w.heap.size, 0, z.cells.size⟩ : Loc) := by rw [← h.len]; exact last_ext _ _
    exact .ref this

def boxB : AV → Option Blk
  | .d (.agg ds) => some (.var ds)
  | .d x => some (.var [x])
  | .agg xs => some (.mix xs)
  | .tup _ => none
  | .any => none
  | .is _ _ => none
  | .pfn g => some (.mix [.pfn g])
  | x => some (.mix [x])

theorem mem_box {sto : Sto} {loc : List Loc} {w : World} (h : SR P w0 G A sto loc w) {e : TypeId} {x : AV} {u : Value} {B : Blk} (hv : VR P w (Fre A w sto loc) loc x u) (hb : boxB x = some B) :
    MemOK P w0 G A sto loc w (do pure (.value (← Instr.box e u))) (fun _ => False) (.ref sto.length 0) (sto ++ [some B]) := by
  have fin : ∀ (hlen : B.len = u.cells.size), (∀ w' F' loc', (∀ y u, VR P w (Fre A w sto loc) loc y u → VR P w' F' loc' y u) → (∀ d u, RC w (Fre A w sto loc) d u → RC w' F' d u) → RB P w' F' loc' B (fun j => u.cells.getD j undef)) →
      MemOK P w0 G A sto loc w (do pure (.value (← Instr.box e u))) (fun _ => False) (.ref sto.length 0) (sto ++ [some B]) := fun hlen hB => by
    obtain ⟨k1, k2, k3⟩ := mem_new h (Kp.refl _ w) rfl u.cells e (B := B) (fun j => u.cells.getD j undef) (fun j hj => by
      have : j < u.cells.size := by rw [← hlen]; exact hj
      simp [this]) (by omega) (fun hV hR => hB _ _ _ hV hR)
    refine ⟨_, .pointer (some ⟨w.heap.size, 0, none⟩), _, _, ?_, .inl rfl, k1, k2, k3, ?_⟩
    · simp [Instr.box, newVar, newRow]
    · have : (loc ++ [⟨w.heap.size, 0, u.cells.size⟩])[sto.length]? = some (⟨w.heap.size, 0, u.cells.size⟩ : Loc) := by rw [← h.len]; exact last_ext _ _
      exact .ref this
  have single : ∀ (y : AV), VR P w (Fre A w sto loc) loc y u → u.oneCell' = true → B = .mix [y] → 
      MemOK P w0 G A sto loc w (do pure (.value (← Instr.box e u))) (fun _ => False) (.ref sto.length 0) (sto ++ [some B]) := fun y hy h1 hBe => by
    subst hBe
    have hc := oneCell_cells h1
    refine fin (by rw [hc]; rfl) (fun w' F' loc' hV hR j z hz => ?_)
    rw [hc]
    cases j with
    | zero => simp at hz; subst hz; exact ⟨by simpa using hV _ _ hy, by simpa using h1⟩
    | succ j => simp at hz
  unfold boxB at hb
  split at hb
  · rename_i ds
    cases hb
    cases hv with
    | d hd =>
      obtain ⟨us, rfl, hs, hc⟩ := hd
      exact fin (by simp [Blk.len, Value.cells, hs]) (fun w' F' loc' hV hR j d hd => hR _ _ (hc j d hd))
  · rename_i x hne
    cases hb
    cases hv with
    | d hd =>
      have hrc : RC w (Fre A w sto loc) x u := by
        cases x with
        | agg ds => exact absurd rfl (hne ds)
        | v x => exact hd
        | lst z es => exact hd
      have hc := oneCell_cells hrc.one
      refine fin (by rw [hc]; rfl) (fun w' F' loc' hV hR j z hz => ?_)
      rw [hc]
      cases j with
      | zero => simp at hz; subst hz; simpa using hR _ _ hrc
      | succ j => simp at hz
  · rename_i xs
    cases hb
    cases hv with
    | agg us hs h1 hx =>
      refine fin (by simp [Blk.len, Value.cells, hs]) (fun w' F' loc' hV hR j z hz => ⟨hV _ _ (hx j z hz), ?_⟩)
      have hlt : j < us.size := by rw [hs]; exact (List.getElem?_eq_some_iff.1 hz).1
      exact (h1 j).resolve_right (by omega)
  · cases hb
  · cases hb
  · cases hb
  · cases hb
    exact single _ hv (hv.one (by simp) (by simp) (by simp) (by simp) (by simp)) rfl
  · rename_i x h1 h2 h3 h4 h5 h6 h7
    cases hb
    exact single _ hv (hv.one (fun ds e => h1 ds e) (fun xs e => h3 xs e) (fun xs e => h4 xs e) (fun e => h5 e) (fun y v e => h6 y v e)) rfl

/-! ### make -/

theorem wrap_nat {c : Nat} (h : c ≤ 140737488355328) : IntKind.i64.wrap (c : Int) = c := by
  simp [IntKind.wrap, IntKind.bits, IntKind.signed]; omega

theorem mem_make {sto : Sto} {loc : List Loc} {w : World} (h : SR P w0 G A sto loc w) {t e : TypeId} {d : D} {z bytes : Nat} (ht : P.underlying t = some (.slice e)) (hd : zeroD P e = some d)
    (hz : szOf P e = some z) (hb : bytesOf P e = some bytes) {k k' : IntKind} {n c : Int} (h0 : 0 ≤ n) (hnc : n ≤ c) (hc1 : c ≤ 140737488355328) (hc2 : c * bytes ≤ 140737488355328) :
    MemOK P w0 G A sto loc w (do pure (.value (← Instr.makeSlice t (.int k n) (.int k' c)))) (fun _ => False) (.sl sto.length 0 n.toNat z) (sto ++ [some (.dat z (List.replicate n.toNat d))]) := by
  obtain ⟨i, zv, hi, hzv, h1, h2, h3, h4⟩ := zeroD_ok hd
  obtain ⟨i', hi', rfl⟩ := Option.map_eq_some_iff.1 hz
  rw [hi] at hi'; cases hi'
  obtain ⟨i', hi', rfl⟩ := Option.map_eq_some_iff.1 hb
  rw [hi] at hi'; cases hi'
  obtain ⟨n, rfl⟩ := Int.eq_ofNat_of_zero_le h0
  obtain ⟨c, rfl⟩ := Int.eq_ofNat_of_zero_le (Int.le_trans h0 hnc)
  have hnc' : n ≤ c := by omega
  have hc1' : c ≤ 140737488355328 := by omega
  have hc2' : c * i.bytes ≤ 140737488355328 := by
    have : ((c * i.bytes : Nat) : Int) ≤ 140737488355328 := by simpa using hc2
    omega
  simp only [Int.toNat_natCast]
  let cells : Array Value := (Array.range (c * i.size)).map fun j => (if c * i.size = 0 then #[] else zv.cells)[j % (if c * i.size = 0 then (#[] : Array Value) else zv.cells).size]!
  have hsize : cells.size = c * i.size := by simp [cells]
  have hcell : ∀ j, j < c * i.size → cells[j]? = some (zv.cells.getD (j % i.size) undef) := fun j hj => by
    have hne : ¬ c * i.size = 0 := by omega
    have hp : 0 < i.size := Nat.pos_of_ne_zero (fun e => by rw [e] at hj; simp at hj)
    have hm : j % i.size < zv.cells.size := by rw [h1]; exact Nat.mod_lt _ hp
    simp only [cells, hne, if_false]
    rw [Array.getElem?_map, Array.getElem?_range]
    simp only [hj, if_true, Option.map_some, h1]
    rw [getElem!_pos zv.cells _ hm]
    simp [hm]
  have hflat : ∀ j, j < n * i.size → (flat (List.replicate n d))[j]? = some (.v (zv.cells.getD (j % i.size) undef)) := fun j hj => by
    have hp : 0 < i.size := Nat.pos_of_ne_zero (fun e => by rw [e] at hj; simp at hj)
    have hm : j % i.size < i.size := Nat.mod_lt _ hp
    have hq : j / i.size < n := (Nat.div_lt_iff_lt_mul hp).2 hj
    have := flat_getElem (z := i.size) (es := List.replicate n d) (fun e he => by rw [(List.mem_replicate.1 he).2]; exact h2) (e := j / i.size) (d := d) (by simp [hq]) (j % i.size) hm
    rw [show j / i.size * i.size + j % i.size = j by rw [Nat.mul_comm]; exact Nat.div_add_mod j i.size] at this
    rw [this, h4, List.getElem?_map]
    have : j % i.size < zv.cells.size := by omega
    simp [this]
  have hlen : (flat (List.replicate n d)).length = n * i.size := by
    rw [flat_length (z := i.size) (fun e he => by rw [(List.mem_replicate.1 he).2]; exact h2)]; simp
  have hle : n * i.size ≤ c * i.size := Nat.mul_le_mul_right _ hnc'
  obtain ⟨k1, k2, k3⟩ := mem_new h (Kp.refl _ w) rfl cells e (B := .dat i.size (List.replicate n d)) (fun j => zv.cells.getD (j % i.size) undef)
    (fun j hj => hcell j (by have : j < (flat (List.replicate n d)).length := hj; omega)) (by show (flat _).length ≤ _; omega)
    (fun _ _ => ⟨fun e he => by rw [(List.mem_replicate.1 he).2]; exact h2, fun j d' hd' => by
      have hj : j < n * i.size := by rw [← hlen]; exact (List.getElem?_eq_some_iff.1 hd').1
      rw [hflat j hj] at hd'
      cases hd'
      have hp : 0 < i.size := Nat.pos_of_ne_zero (fun e => by rw [e] at hj; simp at hj)
      have hm : j % i.size < zv.cells.size := by rw [h1]; exact Nat.mod_lt _ hp
      refine .v (h3 _ ?_)
      simp [hm]⟩)
  refine ⟨_, .slice (some ⟨w.heap.size, 0, none⟩) n c, _, _, ?_, .inl rfl, k1, k2, k3, ?_⟩
  · have b1 : ¬ ((i.bytes : Int) * (c : Int) > 2 ^ 48) := by
      have : ((c * i.bytes : Nat) : Int) ≤ 140737488355328 := by omega
      rw [Int.mul_comm]; simp at this; omega
    simp only [Sem.run_bind, Instr.makeSlice, run_underlying' w ht, Result.andThen_ok, asInt, asIntOf, Sem.run_pure, typeInfo, run_program, hi, wrap_nat hc1', wrap_nat (Nat.le_trans hnc' hc1')]
    have b2 : ¬ ((c : Int) < 0) := by omega
    have b3 : ¬ ((n : Int) < 0) := by omega
    have b4 : ¬ ((n : Int) > (c : Int)) := by omega
    simp only [b1, b2, b3, b4, decide_false, Bool.or_self, Bool.false_eq_true, if_false, run_askRoom, Result.andThen_ok, sizeOf, typeInfo, Sem.run_bind, run_program, hi, Sem.run_pure, Int.toNat_natCast]
    by_cases h00 : c * i.size = 0
    · simp [h00, newRow, cells]
    · simp [h00, newRow, cells, run_zeroValue' w hi hzv]
  · have : (loc ++ [⟨w.heap.size, 0, cells.size⟩])[sto.length]? = some (⟨w.heap.size, 0, cells.size⟩ : Loc) := by rw [← h.len]; exact last_ext _ _
    exact .sl this (.inl rfl) hnc' (by unfold maxLen; omega) (by simp [hsize])

end
end Go.Proofs.Ytccfejnckmokkaa.Va

/-! Operations that make or write memory: each does what it is said to (second part). Condition: none. -/
namespace Go.Proofs.Ytccfejnckmokkaa.Va
open Go

section
variable {P : Program} {w0 : World} {G A : Nat → Prop} {gh : List Value} {N : Nat}

theorem RD.cells {w : World} {F : Nat → Prop} {d : D} {u : Value} (h : RD w F d u) : u.cells.size = d.cells.length ∧ ∀ j c, d.cells[j]? = some c → RC w F c (u.cells.getD j undef) := by
  have one : ∀ d, D.cells d = [d] → RC w F d u → u.cells.size = d.cells.length ∧ ∀ j c, d.cells[j]? = some c → RC w F c (u.cells.getD j undef) := fun d hd hc => by
    have hu := oneCell_cells hc.one
    rw [hd, hu]
    refine ⟨rfl, fun j c hj => ?_⟩
    cases j with
    | zero => simp at hj; subst hj; simpa using hc
    | succ j => simp at hj
  cases d with
  | agg xs => obtain ⟨us, rfl, hs, hc⟩ := h; exact ⟨hs, hc⟩
  | v x => exact one _ rfl h
  | lst z es => exact one _ rfl h

/-! ### A slice that is kept from now on as it is -/

def frz1 (sto : Sto) : AV → Option (D × Sto)
  | .d x => some (x, sto)
  | .sl i c n z => (match sto[i]? with
    | some (some (.dat z' es)) => if z = z' ∧ c % z = 0 ∧ c / z + n ≤ es.length then some (.lst z ((es.drop (c / z)).take n), sto.set i none) else none
    | _ => none)
  | _ => none

def frz (sto : Sto) : List AV → Option (List D × Sto)
  | [] => some ([], sto)
  | x :: r => (frz1 sto x).bind fun p => (frz p.2 r).map fun q => (p.1 :: q.1, q.2)

theorem frz1_ok {sto sto1 : Sto} {loc : List Loc} {w : World} (h : SR P w0 G A sto loc w) {x : AV} {u : Value} {d : D} (hv : VR P w (Fre A w sto loc) loc x u) (he : frz1 sto x = some (d, sto1)) :
    SR P w0 G A sto1 loc w ∧ (∀ y u, VR P w (Fre A w sto loc) loc y u → VR P w (Fre A w sto1 loc) loc y u) ∧ VR P w (Fre A w sto1 loc) loc (.d d) u ∧ sto1.length = sto.length ∧
      (∀ b, Own sto1 loc b → Own sto loc b) := by
  unfold frz1 at he
  split at he
  · cases he; exact ⟨h, fun _ _ x => x, hv, rfl, fun _ x => x⟩
  · rename_i i c n z
    split at he
    · rename_i z' es hB
      split at he
      · rename_i hh
        obtain ⟨rfl, hc, hn⟩ := hh
        cases he
        obtain ⟨k1, k2⟩ := h.kill i
        obtain ⟨l, x, cap, cs, t, f, hl, rfl, hx, hle, hcap, hsz, ha1, ha2, hzz, ha3, ha4, hr⟩ := view_ok h hv hB
        have old : ∀ (j : Nat) (B : Blk), (sto.set i none)[j]? = some (some B) → i ≠ j ∧ sto[j]? = some (some B) := fun j B hj => by
          rcases getElem?_set_some hj with ⟨_, e, _⟩ | ⟨hne, e⟩
          · cases e
          · exact ⟨hne, e⟩
        have hF : Fre A w (sto.set i none) loc l.b := ⟨(Array.getElem?_eq_some_iff.1 ha1).1, fun ⟨j, B, m, o1, o2, o3⟩ => by
          obtain ⟨o4, o5⟩ := old j B o1
          exact o4 (h.inj i j _ B l m hB o5 hl o2 o3.symm), h.al _ (h.mine _ ⟨i, _, l, hB, hl, rfl⟩)⟩
        have hvw := flat_view hzz hn
        rw [divmod hc] at hvw
        have hlen : ((es.drop (c / z)).take n).length = n := by
          rw [List.length_take, List.length_drop]; exact Nat.min_eq_left (Nat.le_sub_of_add_le (by rw [Nat.add_comm]; exact hn))
        have hlt : ∀ j, j < (flat ((es.drop (c / z)).take n)).length → c + j < (flat es).length := fun j hj => by
          have := hvw.2 j (by rw [← hvw.1]; exact hj)
          rw [List.getElem?_eq_getElem hj] at this
          exact (List.getElem?_eq_some_iff.1 this.symm).1
        have hrc := RC.lst (w := w) (F := Fre A w (sto.set i none) loc) (z := z) (elems := (es.drop (c / z)).take n) (b := l.b) (o := x) (cap := cap) (fun j => f (c + j)) (by omega) hcap hF
          (fun e he => hzz e (List.mem_of_mem_drop (List.mem_of_mem_take he)))
          (fun j d hd => by
            have hj := (List.getElem?_eq_some_iff.1 hd).1
            have h0 := hr _ _ ((hvw.2 j (by rw [← hvw.1]; exact hj)).symm.trans hd)
            have := k2 (.d d) _ (.d h0.rd)
            exact this.rc h0.one)
          (fun j hj => by
            have hn0 : cap ≠ 0 := fun e => by
              have : ((es.drop (c / z)).take n).length = 0 := by rw [hlen]; omega
              have := List.eq_nil_of_length_eq_zero this
              rw [this] at hj; simp [flat] at hj
            have hx' := hx.resolve_right hn0
            subst hx'
            rw [cell_of_row w l.b _ cs t (0, 0) ha1, Nat.add_assoc]
            exact ha4 _ (hlt j hj))
        rw [hlen] at hrc
        exact ⟨k1, k2, .d hrc, by simp, fun b ⟨j, B, m, o1, o2, o3⟩ => ⟨j, B, m, (old j B o1).2, o2, o3⟩⟩
      · cases he
    · cases he
  · cases he

theorem frz_ok {loc : List Loc} {w : World} : ∀ {xs : List AV} {sto sto1 : Sto} {ds : List D}, SR P w0 G A sto loc w → ∀ (us : List Value), us.length = xs.length →
    (∀ j x, xs[j]? = some x → VR P w (Fre A w sto loc) loc x (us.getD j undef)) → frz sto xs = some (ds, sto1) →
    SR P w0 G A sto1 loc w ∧ (∀ y u, VR P w (Fre A w sto loc) loc y u → VR P w (Fre A w sto1 loc) loc y u) ∧ sto1.length = sto.length ∧ ds.length = us.length ∧
      (∀ j d, ds[j]? = some d → VR P w (Fre A w sto1 loc) loc (.d d) (us.getD j undef)) ∧ (∀ b, Own sto1 loc b → Own sto loc b)
  | [], sto, sto1, ds, h, us, hl, _, he => by
    simp only [frz] at he; cases he
    exact ⟨h, fun _ _ x => x, rfl, by simp at hl; simp [hl], fun j d hd => by simp at hd, fun _ x => x⟩
  | x :: r, sto, sto1, ds, h, us, hl, hv, he => by
    cases us with
    | nil => simp at hl
    | cons u us =>
      simp only [frz] at he
      obtain ⟨⟨d, s2⟩, h1, he⟩ := Option.bind_eq_some_iff.1 he
      obtain ⟨⟨ds', s3⟩, h2, he⟩ := Option.map_eq_some_iff.1 he
      cases he
      obtain ⟨a1, a2, a3, a4, a5⟩ := frz1_ok h (hv 0 x rfl) h1
      obtain ⟨b1, b2, b3, b4, b5, b6⟩ := frz_ok a1 us (by simpa using hl) (fun j y hy => a2 _ _ (by simpa using hv (j + 1) y (by simpa using hy))) h2
      refine ⟨b1, fun y u hy => b2 _ _ (a2 _ _ hy), by simp only at b3 a4 ⊢; omega, by simp [b4], fun j d' hd' => ?_, fun b hb => a5 b (b6 b hb)⟩
      cases j with
      | zero => simp at hd'; subst hd'; simpa using b2 _ _ a3
      | succ j => simpa using b5 j d' (by simpa using hd')

/-! ### A literal of a slice -/

theorem fold_row (off : Nat) : ∀ (vs : List Value) (k : Nat) (cells : Array Value), off + k + vs.length ≤ cells.size →
    let out := (vs.zipIdx k).foldl (fun cs (p : Value × Nat) => cs.setIfInBounds (off + p.2) p.1) cells
    out.size = cells.size ∧ (∀ j u, vs[j]? = some u → out[off + k + j]? = some u) ∧ (∀ m, (m < off + k ∨ off + k + vs.length ≤ m) → out[m]? = cells[m]?)
  | [], k, cells, _ => ⟨rfl, fun j u h => by simp at h, fun _ _ => rfl⟩
  | v :: r, k, cells, h => by
    have ih := fold_row off r (k + 1) (cells.setIfInBounds (off + k) v) (by simp at h ⊢; omega)
    simp only [List.zipIdx_cons, List.foldl_cons] at ih ⊢
    obtain ⟨i1, i2, i3⟩ := ih
    refine ⟨by simpa using i1, fun j u hj => ?_, fun m hm => ?_⟩
    · cases j with
      | zero =>
        simp at hj; subst hj
        rw [i3 _ (.inl (by omega))]
        have : off + k < cells.size := by simp at h; omega
        simp [this]
      | succ j =>
        have := i2 j u (by simpa using hj)
        rw [show off + k + (j + 1) = off + (k + 1) + j by omega]; exact this
    · simp at hm
      rw [i3 m (by omega)]
      exact Array.getElem?_setIfInBounds_ne (by omega)

theorem fill_seq {z : Nat} : ∀ (us : List Value) (k : Nat) (cells : Array Value), (∀ u, u ∈ us → u.cells.size = z) → (k + us.length) * z ≤ cells.size →
    ∃ out, Instr.fill (fun i => some (i * z, z)) cells ((us.zipIdx k).map fun p => (p.2, p.1)) = some out ∧ out.size = cells.size ∧
      (∀ m u, us[m]? = some u → ∀ j, j < z → out[(k + m) * z + j]? = u.cells[j]?) ∧ (∀ m, m < k * z → out[m]? = cells[m]?)
  | [], k, cells, _, _ => ⟨cells, rfl, rfl, fun m u h => by simp at h, fun _ _ => rfl⟩
  | u :: r, k, cells, hz, h => by
    have hu := hz u List.mem_cons_self
    have hle : k * z + z ≤ cells.size := by
      have : (k + 1) * z ≤ (k + (u :: r).length) * z := Nat.mul_le_mul_right _ (by simp)
      rw [Nat.add_mul, Nat.one_mul] at this; omega
    have hf := fold_row (k * z) u.cells.toList 0 cells (by simp [hu]; omega)
    simp only at hf
    obtain ⟨f1, f2, f3⟩ := hf
    have hfold : (u.cells.zipIdx.foldl (fun cs (p : Value × Nat) => cs.setIfInBounds (k * z + p.2) p.1) cells) = (u.cells.toList.zipIdx 0).foldl (fun cs (p : Value × Nat) => cs.setIfInBounds (k * z + p.2) p.1) cells := by
      rw [← Array.foldl_toList]; simp
    obtain ⟨out, i1, i2, i3, i4⟩ := fill_seq r (k + 1) ((u.cells.toList.zipIdx 0).foldl (fun cs (p : Value × Nat) => cs.setIfInBounds (k * z + p.2) p.1) cells)
      (fun v hv => hz v (List.mem_cons_of_mem _ hv)) (by
        rw [f1]
        have : (k + 1 + r.length) = k + (u :: r).length := by simp; omega
        rw [this]; exact h)
    refine ⟨out, ?_, by rw [i2, f1], fun m v hm j hj => ?_, fun m hm => ?_⟩
    · have hnot : ¬ (k * z + z > cells.size) := by omega
      simp only [List.zipIdx_cons, List.map_cons, Instr.fill, hu]
      simp only [hnot, decide_false, bne_self_eq_false, Bool.or_self, Bool.false_eq_true, if_false, ne_eq, not_true_eq_false]
      rw [← i1, ← hfold]
    · cases m with
      | zero =>
        simp at hm; subst hm
        rw [Nat.add_zero, i4 _ (by rw [Nat.add_mul, Nat.one_mul]; omega)]
        have hj' : j < u.cells.toList.length := by simp [hu, hj]
        have := f2 j _ (List.getElem?_eq_getElem hj')
        rw [Nat.add_zero] at this
        rw [this]
        simp [hu, hj]
      | succ m =>
        have := i3 m v (by simpa using hm) j hj
        rw [show k + (m + 1) = k + 1 + m by omega]; exact this
    · rw [i4 m (by rw [Nat.add_mul, Nat.one_mul]; omega), f3 m (.inl (by omega))]

theorem mem_bsl {sto sto1 : Sto} {loc : List Loc} {w : World} (h : SR P w0 G A sto loc w) {t e : TypeId} {d0 : D} {z : Nat} (ht : P.underlying t = some (.slice e)) (hd : zeroD P e = some d0)
    (hz : szOf P e = some z) {xs : List AV} {us : List Value} (hl : us.length = xs.length) (hsmall : us.length * z ≤ 16777216) (hm : us.length ≤ maxLen) {ds : List D}
    (hv : ∀ j x, xs[j]? = some x → VR P w (Fre A w sto loc) loc x (us.getD j undef)) (he : frz sto xs = some (ds, sto1)) (hzs : ∀ d, d ∈ ds → d.cells.length = z) :
    MemOK P w0 G A sto loc w (do pure (.value (← Instr.buildSlice t us.length ((us.zipIdx 0).map fun p => (p.2, p.1)).toArray))) (fun _ => False) (.sl sto.length 0 ds.length z) (sto1 ++ [some (.dat z ds)]) := by
  obtain ⟨i, zv, hi, hzv, h1, h2, h3, h4⟩ := zeroD_ok hd
  obtain ⟨i', hi', rfl⟩ := Option.map_eq_some_iff.1 hz
  rw [hi] at hi'; cases hi'
  obtain ⟨s1, s2, s3, s4, s5, s6⟩ := frz_ok h us hl hv he
  have hcs : ∀ u, u ∈ us → u.cells.size = i.size := fun u hu => by
    obtain ⟨j, hj, rfl⟩ := List.mem_iff_getElem.1 hu
    have hj' : j < ds.length := by omega
    have := s5 j ds[j] (List.getElem?_eq_getElem hj')
    have e : us.getD j undef = us[j] := by simp [hj]
    rw [e] at this
    cases this with
    | d hd => rw [hd.cells.1]; exact hzs _ (List.getElem_mem hj')
  let cells : Array Value := (Array.range (us.length * i.size)).map fun j => (if us.length * i.size = 0 then #[] else zv.cells)[j % (if us.length * i.size = 0 then (#[] : Array Value) else zv.cells).size]!
  have hsize : cells.size = us.length * i.size := by simp [cells]
  obtain ⟨out, o1, o2, o3, _⟩ := fill_seq us 0 cells hcs (by simp [hsize])
  have hlen : (flat ds).length = us.length * i.size := by rw [flat_length hzs, s4]
  have hget : ∀ j d, (flat ds)[j]? = some d → ∃ m k, m < us.length ∧ k < i.size ∧ j = m * i.size + k ∧ out[j]? = some ((us.getD m undef).cells.getD k undef) ∧ RC w (Fre A w sto1 loc) d ((us.getD m undef).cells.getD k undef) := fun j d hj => by
    have hlt : j < us.length * i.size := by rw [← hlen]; exact (List.getElem?_eq_some_iff.1 hj).1
    have hp : 0 < i.size := Nat.pos_of_ne_zero (fun e => by rw [e] at hlt; simp at hlt)
    have hm : j / i.size < us.length := (Nat.div_lt_iff_lt_mul hp).2 hlt
    have hk : j % i.size < i.size := Nat.mod_lt _ hp
    have hj' : j / i.size < ds.length := by omega
    have hdm : j / i.size * i.size + j % i.size = j := by rw [Nat.mul_comm]; exact Nat.div_add_mod j i.size
    have hf := flat_getElem hzs (List.getElem?_eq_getElem hj') (j % i.size) hk
    rw [hdm, hj] at hf
    have hs := s5 (j / i.size) ds[j / i.size] (List.getElem?_eq_getElem hj')
    cases hs with
    | d hd =>
      obtain ⟨c1, c2⟩ := hd.cells
      refine ⟨j / i.size, j % i.size, hm, hk, hdm.symm, ?_, c2 _ _ hf.symm⟩
      have := o3 (j / i.size) us[j / i.size] (List.getElem?_eq_getElem hm) (j % i.size) hk
      rw [Nat.zero_add, hdm] at this
      rw [this]
      have e : us.getD (j / i.size) undef = us[j / i.size] := by simp [hm]
      rw [e]
      have : j % i.size < us[j / i.size].cells.size := by rw [hcs _ (List.getElem_mem hm)]; exact hk
      simp [this]
  obtain ⟨k1, k2, k3⟩ := mem_new s1 (Kp.refl _ w) rfl out e (B := .dat i.size ds) (fun j => out.getD j undef)
    (fun j hj => by
      have : j < out.size := by rw [o2, hsize, ← hlen]; exact hj
      simp [this]) (by show (flat ds).length ≤ _; omega)
    (fun _ hR => ⟨hzs, fun j d hj => by
      obtain ⟨m, k, _, _, _, g1, g2⟩ := hget j d hj
      have : out.getD j undef = (us.getD m undef).cells.getD k undef := by
        obtain ⟨hlt, e⟩ := Array.getElem?_eq_some_iff.1 g1
        rw [← e]; simp [hlt]
      show RC _ _ _ (out.getD j undef)
      rw [this]; exact hR _ _ g2⟩)
  refine ⟨_, .slice (some ⟨w.heap.size, 0, none⟩) us.length us.length, _, _, ?_, .inl rfl, k1, k2, fun y u hy => k3 _ _ (s2 _ _ hy), ?_⟩
  · have hno : ¬ (us.length * i.size > 2 ^ 24) := by omega
    simp only [Sem.run_bind, Instr.buildSlice, run_underlying' w ht, Result.andThen_ok, sizeOf, typeInfo, run_program, hi, Sem.run_pure]
    simp only [hno, if_false]
    by_cases h00 : us.length * i.size = 0
    · simp only [h00, if_true, Sem.run_bind, Sem.run_pure, Result.andThen_ok]
      simp only [cells, h00, if_true] at o1
      rw [o1]
      simp [newRow]
    · simp only [h00, if_false, Sem.run_bind, run_zeroValue' w hi hzv, Sem.run_pure, Result.andThen_ok]
      simp only [cells, h00, if_false] at o1
      rw [o1]
      simp [newRow]
  · have : (loc ++ [⟨w.heap.size, 0, out.size⟩])[sto.length]? = some (⟨w.heap.size, 0, out.size⟩ : Loc) := by rw [← h.len]; exact last_ext _ _
    rw [s4]
    exact .sl this (.inl rfl) (Nat.le_refl _) hm (by simp [o2, hsize])

end
end Go.Proofs.Ytccfejnckmokkaa.Va

/-! Operations that make or write memory: append, store, copy, clear. Condition: none. -/
namespace Go.Proofs.Ytccfejnckmokkaa.Va
open Go

section
variable {P : Program} {w0 : World} {G A : Nat → Prop} {gh : List Value} {N : Nat}

theorem infoE {e : TypeId} {d0 : D} {z bytes : Nat} (hd : zeroD P e = some d0) (hz : szOf P e = some z) (hb : bytesOf P e = some bytes) :
    ∃ (i : TypeInfo) (zv : Value), P.info? e = some i ∧ i.zero = some zv ∧ i.size = z ∧ i.bytes = bytes ∧ zv.cells.size = z := by
  obtain ⟨i, zv, hi, hzv, h1, _⟩ := zeroD_ok hd
  obtain ⟨i', hi', rfl⟩ := Option.map_eq_some_iff.1 hz
  rw [hi] at hi'; cases hi'
  obtain ⟨i', hi', rfl⟩ := Option.map_eq_some_iff.1 hb
  rw [hi] at hi'; cases hi'
  exact ⟨i, zv, hi, hzv, rfl, rfl, h1⟩

theorem toList_getElem? {α : Type} (a : Array α) (j : Nat) : a.toList[j]? = a[j]? := by simp

theorem mem_grown {sto : Sto} {loc : List Loc} {w : World} (h : SR P w0 G A sto loc w) {e : TypeId} {z cap n : Nat} {es : List D} (hz : ∀ d, d ∈ es → d.cells.length = z) (vs : List Value) (rest : Array Value)
    (hl : vs.length = es.length * z) (hr : ∀ j d, (flat es)[j]? = some d → RC w (Fre A w sto loc) d (vs.getD j undef)) (hn : n = es.length) (hcap : n ≤ cap) (hc : cap ≤ maxLen) (hs : (vs.toArray ++ rest).size = cap * z) :
    Kp (fun _ => False) w (w.drew.alloc (.cells (vs.toArray ++ rest) e)) ∧
    SR P w0 G A (sto ++ [some (.dat z es)]) (loc ++ [⟨w.heap.size, 0, (vs.toArray ++ rest).size⟩]) (w.drew.alloc (.cells (vs.toArray ++ rest) e)) ∧
    (∀ y u, VR P w (Fre A w sto loc) loc y u → VR P (w.drew.alloc (.cells (vs.toArray ++ rest) e)) (Fre A (w.drew.alloc (.cells (vs.toArray ++ rest) e)) (sto ++ [some (.dat z es)]) (loc ++ [⟨w.heap.size, 0, (vs.toArray ++ rest).size⟩])) (loc ++ [⟨w.heap.size, 0, (vs.toArray ++ rest).size⟩]) y u) ∧
    VR P (w.drew.alloc (.cells (vs.toArray ++ rest) e)) (Fre A (w.drew.alloc (.cells (vs.toArray ++ rest) e)) (sto ++ [some (.dat z es)]) (loc ++ [⟨w.heap.size, 0, (vs.toArray ++ rest).size⟩])) (loc ++ [⟨w.heap.size, 0, (vs.toArray ++ rest).size⟩])
      (.sl sto.length 0 n z) (.slice (some ⟨w.heap.size, 0, none⟩) n cap) := by
  have hlen : (flat es).length = es.length * z := flat_length hz
  obtain ⟨k1, k2, k3⟩ := mem_new h (Kp.drew _ w) rfl (vs.toArray ++ rest) e (B := .dat z es) (fun j => vs.getD j undef)
    (fun j hj => by
      have hj' : j < vs.length := by rw [hl, ← hlen]; exact hj
      rw [Array.getElem?_append_left (by simpa using hj')]
      simp [hj']) (by show (flat es).length ≤ _; simp; omega)
    (fun _ hR => ⟨hz, fun j d hd => hR _ _ (hr j d hd)⟩)
  refine ⟨k1, k2, k3, ?_⟩
  have : (loc ++ [⟨w.heap.size, 0, (vs.toArray ++ rest).size⟩])[sto.length]? = some (⟨w.heap.size, 0, (vs.toArray ++ rest).size⟩ : Loc) := by rw [← h.len]; exact last_ext _ _
  exact .sl this (.inl rfl) hcap hc (by rw [hs]; simp)

theorem zc_size (zv : Value) (n z : Nat) (h : zv.cells.size = z) : (Builtin.zeroCells zv.cells n).size = n * z := by simp [Builtin.zeroCells, h]

theorem run_append_none (w : World) {t ty e : TypeId} {i : TypeInfo} (ht : P.underlying t = some (.slice e)) (hi : P.info? e = some i) (a : Option Addr) (n c : Nat) (y : Value)
    (hy : y = .slice none 0 0 ∨ ∃ ad cap, y = .slice (some ad) 0 cap) (hc : n ≤ c) : (Builtin.append_ #[t, t] ty #[.slice a n c, y]).run P w = .ok (.slice a n c) w := by
  rcases hy with rfl | ⟨ad, cap, rfl⟩ <;> cases a <;>
    simp [Builtin.append_, run_underlying' w ht, sizeOf, typeInfo, hi, Builtin.lenOf, Builtin.firstCells, loadCells, loadCellsFrom, hc, storeCells]

def appM (z bytes : Nat) (sto : Sto) (x y : AV) : Option (AV × Sto) :=
  (srcE sto z y).bind fun es =>
  match x with
  | .d (.v (.slice none 0 0)) => if es.isEmpty then some (.d (.v (.slice none 0 0)), sto) else if es.length * bytes ≤ 140737488355328 ∧ es.length ≤ 140737488355328 then some (.sl sto.length 0 es.length z, sto ++ [some (.dat z es)]) else none
  | .emp => if es.isEmpty then some (.emp, sto) else if es.length * bytes ≤ 140737488355328 ∧ es.length ≤ 140737488355328 then some (.sl sto.length 0 es.length z, sto ++ [some (.dat z es)]) else none
  | .sl i c n z' => (match sto[i]? with
    | some (some (.dat z'' old)) => if z = z' ∧ z = z'' ∧ c % z = 0 ∧ c / z + n ≤ old.length ∧ (n + es.length) * bytes ≤ 140737488355328 ∧ n + es.length ≤ 140737488355328 then
        some (.sl sto.length 0 (n + es.length) z, sto.set i none ++ [some (.dat z ((old.drop (c / z)).take n ++ es))]) else none
    | _ => none)
  | _ => none

theorem mem_app {sto sto' : Sto} {loc : List Loc} {w : World} (h : SR P w0 G A sto loc w) {t ty e : TypeId} {d0 : D} {z bytes : Nat} (ht : P.underlying t = some (.slice e)) (hd : zeroD P e = some d0)
    (hz : szOf P e = some z) (hb : bytesOf P e = some bytes) {x y X : AV} {u v : Value} (hx : VR P w (Fre A w sto loc) loc x u) (hy : VR P w (Fre A w sto loc) loc y v) (he : appM z bytes sto x y = some (X, sto')) :
    MemOK P w0 G A sto loc w (do pure (.value (← Builtin.append_ #[t, t] ty #[u, v]))) (fun b => ∃ i c n z', x = .sl i c n z' ∧ ∃ l : Loc, loc[i]? = some l ∧ l.b = b) X sto' := by
  obtain ⟨i, zv, hi, hzv, rfl, rfl, hzs⟩ := infoE hd hz hb
  have he0 := Option.bind_eq_some_iff.1 he
  clear he
  obtain ⟨es, hes, he⟩ := he0
  have hsrc := src_ok h hy hes
  have hempty : es.isEmpty = true → v = .slice none 0 0 ∨ ∃ ad cap, v = .slice (some ad) 0 cap := fun h0 => by
    rcases hsrc with ⟨e1, _⟩ | ⟨_, ad, cap, news, e1, _⟩
    · exact .inl e1
    · have : es.length = 0 := by simpa using h0
      rw [this] at e1; exact .inr ⟨ad, cap, e1⟩
  have quiet : ∀ (r : Value) (X' : AV), VR P w (Fre A w sto loc) loc X' r → (Builtin.append_ #[t, t] ty #[u, v]).run P w = .ok r w →
      MemOK P w0 G A sto loc w (do pure (.value (← Builtin.append_ #[t, t] ty #[u, v]))) (fun b => ∃ i c n z', x = .sl i c n z' ∧ ∃ l : Loc, loc[i]? = some l ∧ l.b = b) X' sto := fun r X' hr hrun =>
    ⟨.value r, r, w, loc, by simp [hrun], .inl rfl, Kp.refl _ _, h, fun _ _ h => h, hr⟩
  have grow0 : es.isEmpty = false → es.length * i.bytes ≤ 140737488355328 → es.length ≤ 140737488355328 → (u = .slice none 0 0 ∨ ∃ a, u = .slice (some a) 0 0) →
      MemOK P w0 G A sto loc w (do pure (.value (← Builtin.append_ #[t, t] ty #[u, v]))) (fun b => ∃ i c n z', x = .sl i c n z' ∧ ∃ l : Loc, loc[i]? = some l ∧ l.b = b) (.sl sto.length 0 es.length i.size) (sto ++ [some (.dat i.size es)]) := fun hne b1 b2 hu => by
    rcases hsrc with ⟨_, e2⟩ | ⟨hzz, ad, cap, news, rfl, s1, s2, s3, s4⟩
    · rw [e2] at hne; cases hne
    have hpos : 0 < es.length := by
      cases es with
      | nil => cases hne
      | cons => simp
    have hge := grownCap_ge w es.length 0 e
    have hcm : grownCap w es.length 0 e ≤ maxLen := grownCap_le_maxLen w es.length 0 e (by unfold maxLen; omega)
    obtain ⟨g1, g2, g3, g4⟩ := mem_grown h (e := e) (cap := grownCap w es.length 0 e) hzz news (Builtin.zeroCells zv.cells (grownCap w es.length 0 e - es.length)) s1 s3 rfl hge hcm
      (by rw [Array.size_append, zc_size _ _ _ hzs]; simp only [List.size_toArray, s1]; rw [← Nat.add_mul]; congr 1; omega)
    refine ⟨_, _, _, _, ?_, .inl rfl, g1.mono (fun _ _ h => h.elim), g2, g3, g4⟩
    rcases hu with rfl | ⟨a, rfl⟩
    · rw [Sem.run_bind, run_append_nil (P := P) w t ty e i zv ht hi hzv ad es.length cap news s1 s2 hpos (by omega) (by omega)]
      rfl
    · have := run_append_grow (P := P) w t ty e i zv ht hi hzv a 0 0 [] (by simp) (by simp) ad es.length cap news s1 s2 (by omega) (by omega)
        (growslice_fits (by omega) (by simpa using b1))
      rw [Sem.run_bind, this]
      simp
  split at he
  · have hu := hx.v_inv
    split at he
    · rename_i h0
      cases he
      exact quiet (.slice none 0 0) _ (.ofv rfl) (by rw [hu]; exact run_append_none w ht hi none 0 0 v (hempty h0) (Nat.le_refl _))
    · rename_i h0
      split at he
      · rename_i hb'
        cases he
        exact grow0 (by simpa using h0) hb'.1 hb'.2 (.inl hu)
      · cases he
  · cases hx with
    | @emp a =>
      split at he
      · rename_i h0
        cases he
        exact quiet (.slice (some a) 0 0) _ .emp (run_append_none w ht hi (some a) 0 0 v (hempty h0) (Nat.le_refl _))
      · rename_i h0
        split at he
        · rename_i hb'
          cases he
          exact grow0 (by simpa using h0) hb'.1 hb'.2 (.inr ⟨a, rfl⟩)
        · cases he
  · rename_i i0 c n z'
    split at he
    · rename_i z'' old hB
      split at he
      · rename_i hh
        obtain ⟨rfl, rfl, hc, hn, b1, b2⟩ := hh
        cases he
        obtain ⟨l, x0, cap, cs, ct, f, hl, rfl, hx0, hle, hcap, hsz, ha1, ha2, hzz, ha3, ha4, hr⟩ := view_ok h hx hB
        have hvw := flat_view hzz hn
        rw [divmod hc] at hvw
        have hold : ((old.drop (c / i.size)).take n).length = n := by
          rw [List.length_take, List.length_drop]; exact Nat.min_eq_left (Nat.le_sub_of_add_le (by rw [Nat.add_comm]; exact hn))
        have hcb : ∀ j, j < n * i.size → c + j < (flat old).length := fun j hj => by
          have h1 := hvw.2 j hj
          rw [List.getElem?_eq_getElem (by rw [hvw.1]; exact hj)] at h1
          exact (List.getElem?_eq_some_iff.1 h1.symm).1
        -- the elements that were there, as values
        have holdv : ∃ olds : List Value, olds.length = n * i.size ∧ (∀ j v, olds[j]? = some v → w.cell? (Addr.add ⟨l.b, x0, none⟩ j) = some v) ∧
            (∀ j d, (flat ((old.drop (c / i.size)).take n))[j]? = some d → RC w (Fre A w sto loc) d (olds.getD j undef)) ∧ (∀ j, j < n * i.size → olds[j]? = cs[l.o + c + j]?) := by
          refine ⟨(List.range (n * i.size)).map (fun j => f (c + j)), by simp, fun j v hj => ?_, fun j d hd => ?_, fun j hj => ?_⟩
          · rw [List.getElem?_map] at hj
            obtain ⟨k, hk, rfl⟩ := Option.map_eq_some_iff.1 hj
            obtain ⟨hlt, rfl⟩ := List.getElem?_eq_some_iff.1 hk
            simp at hlt ⊢
            have hne : cap ≠ 0 := fun e => by
              have : n = 0 := by omega
              rw [this] at hlt; simp at hlt
            rw [hx0.resolve_right hne, add_none, cell_of_row w l.b _ cs ct (0, 0) ha1, Nat.add_assoc]
            exact ha4 _ (hcb j hlt)
          · have hj : j < n * i.size := by rw [← hvw.1]; exact (List.getElem?_eq_some_iff.1 hd).1
            have : ((List.range (n * i.size)).map (fun j => f (c + j))).getD j undef = f (c + j) := by simp [hj]
            rw [this]
            exact hr _ _ ((hvw.2 j hj).symm.trans hd)
          · rw [Nat.add_assoc, ha4 _ (hcb j hj)]; simp [hj]
        obtain ⟨olds, ol1, ol2, ol3, ol4⟩ := holdv
        have hzn : ∀ d, d ∈ (old.drop (c / i.size)).take n ++ es → d.cells.length = i.size := fun d hd => by
          rcases List.mem_append.1 hd with hd | hd
          · exact hzz d (List.mem_of_mem_drop (List.mem_of_mem_take hd))
          · rcases hsrc with ⟨_, e2⟩ | ⟨hz2, _⟩
            · rw [e2] at hd; simp at hd
            · exact hz2 d hd
        have hnews : ∃ news : List Value, news.length = es.length * i.size ∧ (∀ v, v ∈ news → v.oneCell' = true) ∧ (∀ j d, (flat es)[j]? = some d → RC w (Fre A w sto loc) d (news.getD j undef)) ∧
            ((es = [] ∧ v = .slice none 0 0) ∨ ∃ ad c', v = .slice (some ad) es.length c' ∧ ∀ j v, news[j]? = some v → w.cell? (ad.add j) = some v) := by
          rcases hsrc with ⟨e1, e2⟩ | ⟨_, ad, cap, news, rfl, s1, s2, s3, s4⟩
          · exact ⟨[], by simp [e2], by simp, fun j d hd => by rw [e2] at hd; simp [flat] at hd, .inl ⟨e2, e1⟩⟩
          · exact ⟨news, s1, s4, s3, .inr ⟨ad, cap, rfl, s2⟩⟩
        obtain ⟨news, nl1, nl2, nl3, nl4⟩ := hnews
        have hall : ∀ j d, (flat ((old.drop (c / i.size)).take n ++ es))[j]? = some d → RC w (Fre A w sto loc) d ((olds ++ news).getD j undef) := fun j d hd => by
          rw [flat_append] at hd
          rcases Nat.lt_or_ge j (n * i.size) with hj | hj
          · rw [List.getElem?_append_left (by rw [hvw.1]; exact hj)] at hd
            have : (olds ++ news).getD j undef = olds.getD j undef := by simp [List.getElem?_append_left (show j < olds.length by omega)]
            rw [this]; exact ol3 j d hd
          · rw [List.getElem?_append_right (by rw [hvw.1]; exact hj), hvw.1] at hd
            have : (olds ++ news).getD j undef = news.getD (j - n * i.size) undef := by simp [List.getElem?_append_right (show olds.length ≤ j by omega), ol1]
            rw [this]; exact nl3 _ d hd
        have hKl : ∀ b, b = l.b → ∃ i' c' n' z', AV.sl i0 c n i.size = .sl i' c' n' z' ∧ ∃ l' : Loc, loc[i']? = some l' ∧ l'.b = b := fun b hb => ⟨i0, c, n, i.size, rfl, l, hl, hb.symm⟩
        by_cases hroom : n + es.length ≤ cap
        · -- in place
          by_cases hes0 : es = []
          · -- nothing is appended
            have hv0 := hempty (by simp [hes0])
            have hnews0 : news = [] := List.eq_nil_of_length_eq_zero (by rw [nl1, hes0]; simp)
            have hrun := run_append_none (P := P) w (ty := ty) ht hi (some ⟨l.b, x0, none⟩) n cap v hv0 hle
            obtain ⟨k1, k2⟩ := h.take (B' := .dat i.size ((old.drop (c / i.size)).take n ++ es)) (l' := ⟨l.b, l.o + c, l.size⟩) hB hl (Kp.refl _ w) rfl (f := fun j => (olds ++ news).getD j undef)
              ⟨cs, ct, ha1, ha2, by
                show l.o + c + (flat _).length ≤ l.size
                rw [flat_append, List.length_append, hvw.1, hes0]
                have : n * i.size ≤ cap * i.size := Nat.mul_le_mul_right _ hle
                simp [flat]; omega, fun j hj => by
                have hj' : j < n * i.size := by
                  have : (flat ((old.drop (c / i.size)).take n ++ es)).length = n * i.size := by rw [flat_append, List.length_append, hvw.1, hes0]; simp [flat]
                  rw [← this]; exact hj
                rw [← ol4 j hj']
                simp [hnews0, show j < olds.length by omega]⟩
              (fun _ hR => ⟨hzn, fun j d hd => hR _ _ (hall j d hd)⟩)
            refine ⟨_, _, w, _, by rw [Sem.run_bind, hrun]; rfl, .inl rfl, (Kp.refl _ w), k1, k2, ?_⟩
            have : (loc ++ [⟨l.b, l.o + c, l.size⟩])[sto.length]? = some (⟨l.b, l.o + c, l.size⟩ : Loc) := by rw [← h.len]; exact last_ext _ _
            have hn' : n + es.length = n := by simp [hes0]
            rw [hn']
            exact VR.sl (l := ⟨l.b, l.o + c, l.size⟩) (x := x0) (c := 0) this (by simpa using hx0) hle hcap (by simpa using hsz)
          · obtain ⟨ad, c', rfl, nl5⟩ := nl4.resolve_left (fun e => hes0 e.1)
            have hpos : 0 < es.length := List.length_pos_iff.2 hes0
            have hx' := hx0.resolve_right (by omega)
            subst hx'
            have hmul : n * i.size + es.length * i.size ≤ cap * i.size := by rw [← Nat.add_mul]; exact Nat.mul_le_mul_right _ hroom
            have hst := run_storeCells_at P l.b (l.o + c + n * i.size) ct news 0 cs w ha1 (by rw [nl1]; omega) nl2
            have hf := run_firstCells_some (P := P) w i.size es.length ad es.length c' news nl1 nl5
            simp only [Nat.add_zero] at hst
            have hrun : (Builtin.append_ #[t, t] ty #[.slice (some ⟨l.b, l.o + c, none⟩) n cap, .slice (some ad) es.length c']).run P w =
                .ok (.slice (some ⟨l.b, l.o + c, none⟩) (n + es.length) cap) (w.setRow l.b (cs.toList.take (l.o + c + n * i.size) ++ news ++ cs.toList.drop (l.o + c + n * i.size + news.length)).toArray) := by
              simp [Builtin.append_, run_underlying' w ht, sizeOf, typeInfo, hi, Builtin.lenOf, hroom, hf, add_none, hst]
            have hrow := setRow_heap w l.b cs ((cs.toList.take (l.o + c + n * i.size) ++ news ++ cs.toList.drop (l.o + c + n * i.size + news.length)).toArray) ct (0, 0) ha1
            have hget : ∀ j, j < (n + es.length) * i.size → ((cs.toList.take (l.o + c + n * i.size) ++ news ++ cs.toList.drop (l.o + c + n * i.size + news.length)).toArray)[l.o + c + j]? = some ((olds ++ news).getD j undef) := fun j hj => by
              rw [Nat.add_mul] at hj
              simp only [List.getElem?_toArray]
              rw [List.append_assoc]
              rcases Nat.lt_or_ge j (n * i.size) with hj' | hj'
              · rw [List.getElem?_append_left (by simp; omega), List.getElem?_take, if_pos (by omega), toList_getElem?, ← ol4 j hj']
                have hjo : j < olds.length := by omega
                simp [List.getElem?_append_left hjo, hjo]
              · have h1 : (cs.toList.take (l.o + c + n * i.size)).length = l.o + c + n * i.size := by simp; omega
                rw [List.getElem?_append_right (by omega), h1, List.getElem?_append_left (by omega)]
                have : l.o + c + j - (l.o + c + n * i.size) = j - n * i.size := by omega
                rw [this]
                have hjn : j - n * i.size < news.length := by omega
                simp [List.getElem?_append_right (show olds.length ≤ j by omega), ol1, hjn]
            have hflen : (flat ((old.drop (c / i.size)).take n ++ es)).length = (n + es.length) * i.size := by
              rw [flat_length hzn, List.length_append, hold]
            obtain ⟨k1, k2⟩ := h.take (B' := .dat i.size ((old.drop (c / i.size)).take n ++ es)) (l' := ⟨l.b, l.o + c, l.size⟩) hB hl (Kp.setRow w l.b _ ha1 (by simp; omega) rfl) rfl (f := fun j => (olds ++ news).getD j undef)
              ⟨_, ct, hrow, by simp; omega, by
                show l.o + c + (flat _).length ≤ l.size
                rw [hflen, Nat.add_mul]; omega, fun j hj => hget j (by rw [← hflen]; exact hj)⟩
              (fun _ hR => ⟨hzn, fun j d hd => hR _ _ (hall j d hd)⟩)
            refine ⟨_, _, _, _, by rw [Sem.run_bind, hrun]; rfl, .inl rfl, (Kp.setRow w l.b _ (K := fun b => b = l.b) ha1 (by simp; omega) rfl).mono (fun b _ hb => hKl b hb), k1, k2, ?_⟩
            have : (loc ++ [⟨l.b, l.o + c, l.size⟩])[sto.length]? = some (⟨l.b, l.o + c, l.size⟩ : Loc) := by rw [← h.len]; exact last_ext _ _
            exact VR.sl (l := ⟨l.b, l.o + c, l.size⟩) (x := l.o + c) (c := 0) this (.inl (by simp)) hroom hcap (by simpa using hsz)
        · -- a new row
          obtain ⟨q1, q2⟩ := h.kill i0
          have hes0 : es ≠ [] := fun e => by rw [e] at hroom; simp at hroom; omega
          obtain ⟨ad, c', rfl, nl5⟩ := nl4.resolve_left (fun e => hes0 e.1)
          have hge := grownCap_ge w (n + es.length) cap e
          have hcm : grownCap w (n + es.length) cap e ≤ maxLen := grownCap_le_maxLen w (n + es.length) cap e (by unfold maxLen; omega)
          have hel : ((old.drop (c / i.size)).take n ++ es).length = n + es.length := by rw [List.length_append, hold]
          obtain ⟨g1, g2, g3, g4⟩ := mem_grown q1 (e := e) (cap := grownCap w (n + es.length) cap e) (n := n + es.length) hzn (olds ++ news) (Builtin.zeroCells zv.cells (grownCap w (n + es.length) cap e - (n + es.length)))
            (by rw [hel, List.length_append, ol1, nl1, Nat.add_mul]) (fun j d hd => (q2 (.d d) _ (.d (hall j d hd).rd)).rc (hall j d hd).one) hel.symm hge hcm
            (by rw [Array.size_append, zc_size _ _ _ hzs]; simp only [List.size_toArray, List.length_append, ol1, nl1]; rw [← Nat.add_mul, ← Nat.add_mul]; congr 1; omega)
          have hrun := run_append_grow (P := P) w t ty e i zv ht hi hzv ⟨l.b, x0, none⟩ n cap olds ol1 ol2 ad es.length c' news nl1 nl5 (by omega) (by omega) (growslice_fits (by omega) b1)
          have hcat : olds.toArray ++ news.toArray = (olds ++ news).toArray := by simp
          rw [hcat] at hrun
          have hsl : (sto.set i0 none).length = sto.length := by simp
          rw [hsl] at g4
          refine ⟨_, _, _, _, by rw [Sem.run_bind, hrun]; rfl, .inl rfl, g1.mono (fun _ _ h => h.elim), g2, fun y u hy => g3 _ _ (q2 _ _ hy), g4⟩
      · cases he
    · cases he
  · cases he

end
end Go.Proofs.Ytccfejnckmokkaa.Va

/-! Operations that make or write memory: store, copy, clear, and the rest. Condition: none. -/
namespace Go.Proofs.Ytccfejnckmokkaa.Va
open Go

section
variable {P : Program} {w0 : World} {G A : Nat → Prop} {gh : List Value} {N : Nat}

def splice {α : Type} (l : List α) (c : Nat) (ys : List α) : List α := l.take c ++ ys ++ l.drop (c + ys.length)

theorem splice_get {α : Type} {l ys : List α} {c : Nat} (h : c + ys.length ≤ l.length) (j : Nat) :
    (splice l c ys)[j]? = if j < c then l[j]? else if j < c + ys.length then ys[j - c]? else l[j]? := by
  have h1 : (l.take c).length = c := by simp; omega
  unfold splice
  rw [List.append_assoc]
  split
  · rw [List.getElem?_append_left (by omega), List.getElem?_take, if_pos (by assumption)]
  · split
    · rw [List.getElem?_append_right (by omega), h1, List.getElem?_append_left (by omega)]
    · rw [List.getElem?_append_right (by omega), h1, List.getElem?_append_right (by omega), List.getElem?_drop]
      congr 1; omega

theorem splice_len {α : Type} {l ys : List α} {c : Nat} (h : c + ys.length ≤ l.length) : (splice l c ys).length = l.length := by
  simp [splice]; omega

def cellsB : Blk → List AV
  | .dat _ es => (flat es).map .d
  | .var cs => cs.map .d
  | .mix cs => cs

theorem cellsB_len (B : Blk) : (cellsB B).length = B.len := by cases B <;> simp [cellsB, Blk.len]

def uniB : Blk → Prop
  | .dat z es => ∀ e, e ∈ es → e.cells.length = z
  | _ => True

theorem RB_cells {w : World} {F : Nat → Prop} {loc : List Loc} {B : Blk} {f : Nat → Value} :
    RB P w F loc B f ↔ uniB B ∧ ∀ j x, (cellsB B)[j]? = some x → VR P w F loc x (f j) ∧ (f j).oneCell' = true := by
  have key : ∀ (l : List D), (∀ j d, l[j]? = some d → RC w F d (f j)) ↔ ∀ j x, (l.map AV.d)[j]? = some x → VR P w F loc x (f j) ∧ (f j).oneCell' = true := fun l => by
    constructor
    · intro h j x hx
      rw [List.getElem?_map] at hx
      obtain ⟨d, hd, rfl⟩ := Option.map_eq_some_iff.1 hx
      exact ⟨.d (h j d hd).rd, (h j d hd).one⟩
    · intro h j d hd
      have := h j (.d d) (by simp [hd])
      exact this.1.rc this.2
  cases B with
  | dat z es => simp only [RB, uniB, cellsB]; rw [key]
  | var cs => simp only [RB, uniB, cellsB, true_and]; rw [key]
  | mix cs => simp only [RB, uniB, cellsB, true_and]

def cellsA : AV → Option (List AV)
  | .d (.agg ds) => some (ds.map .d)
  | .agg ys => some ys
  | y => if oneA y then some [y] else none

theorem cellsA_ok {w : World} {F : Nat → Prop} {loc : List Loc} {y : AV} {v : Value} {ys : List AV} (h : VR P w F loc y v) (hc : cellsA y = some ys) :
    v.cells.size = ys.length ∧ ∀ j x, ys[j]? = some x → VR P w F loc x (v.cells.getD j undef) ∧ (v.cells.getD j undef).oneCell' = true := by
  unfold cellsA at hc
  split at hc
  · cases hc
    cases h with
    | d hd =>
      obtain ⟨us, rfl, hs, hr⟩ := hd
      refine ⟨by simpa [Value.cells] using hs, fun j x hx => ?_⟩
      rw [List.getElem?_map] at hx
      obtain ⟨d, hd, rfl⟩ := Option.map_eq_some_iff.1 hx
      exact ⟨.d (hr j d hd).rd, (hr j d hd).one⟩
  · cases hc
    cases h with
    | agg us hs h1 hx =>
      refine ⟨hs, fun j x hj => ⟨hx j x hj, (h1 j).resolve_right ?_⟩⟩
      have := (List.getElem?_eq_some_iff.1 hj).1
      omega
  · split at hc
    · rename_i ho
      cases hc
      have h1 := h.oneA ho
      rw [oneCell_cells h1]
      refine ⟨rfl, fun j x hx => ?_⟩
      cases j with
      | zero => simp at hx; subst hx; exact ⟨by simpa using h, by simpa using h1⟩
      | succ j => simp at hx
    · cases hc

theorem cellsA_one {y : AV} (h : oneA y = true) : cellsA y = some [y] := by
  cases y with
  | d d => cases d <;> first | rfl | cases h
  | agg ys => cases h
  | tup ys => cases h
  | any => cases h
  | is y v => cases h
  | _ => rfl

theorem mem_write {sto : Sto} {loc : List Loc} {w : World} (h : SR P w0 G A sto loc w) {i c : Nat} {B B' : Blk} {l : Loc} (hi : sto[i]? = some (some B)) (hl : loc[i]? = some l)
    {ys : List AV} {vs : List Value} (hlen : vs.length = ys.length) (hc : c + ys.length ≤ B.len) (hv : ∀ j x, ys[j]? = some x → VR P w (Fre A w sto loc) loc x (vs.getD j undef) ∧ (vs.getD j undef).oneCell' = true)
    (hB : cellsB B' = splice (cellsB B) c ys) (hu : uniB B → uniB B') :
    ∃ w', (storeCells ⟨l.b, l.o + c, none⟩ vs).run P w = .ok () w' ∧ Kp (fun b => b = l.b) w w' ∧ SR P w0 G A (sto.set i (some B')) loc w' ∧
      (∀ x u, VR P w (Fre A w sto loc) loc x u → VR P w' (Fre A w' (sto.set i (some B')) loc) loc x u) := by
  obtain ⟨f, ⟨cs, t, ha1, ha2, ha3, ha4⟩, hr⟩ := h.blk i B l hi hl
  have hone : ∀ v, v ∈ vs → v.oneCell' = true := fun v hm => by
    obtain ⟨j, hj, rfl⟩ := List.mem_iff_getElem.1 hm
    have hj' : j < ys.length := by omega
    have := (hv j ys[j] (List.getElem?_eq_getElem hj')).2
    simpa [hj] using this
  have hst := run_storeCells_at P l.b (l.o + c) t vs 0 cs w ha1 (by omega) hone
  simp only [Nat.add_zero] at hst
  have hlB : B'.len = B.len := by rw [← cellsB_len, ← cellsB_len, hB, splice_len (by rw [cellsB_len]; exact hc)]
  have hrow := setRow_heap w l.b cs ((cs.toList.take (l.o + c) ++ vs ++ cs.toList.drop (l.o + c + vs.length)).toArray) t (0, 0) ha1
  have hget : ∀ j, ((cs.toList.take (l.o + c) ++ vs ++ cs.toList.drop (l.o + c + vs.length)).toArray)[l.o + j]? = if j < c then cs[l.o + j]? else if j < c + ys.length then vs[j - c]? else cs[l.o + j]? := fun j => by
    have := splice_get (l := cs.toList) (ys := vs) (c := l.o + c) (by simp; omega) (l.o + j)
    unfold splice at this
    rw [List.getElem?_toArray, this]
    by_cases h1 : j < c
    · rw [if_pos (by omega), if_pos h1, toList_getElem?]
    · rw [if_neg (by omega), if_neg h1]
      by_cases h2 : j < c + ys.length
      · rw [if_pos (by omega), if_pos h2]; congr 1; omega
      · rw [if_neg (by omega), if_neg h2, toList_getElem?]
  obtain ⟨k1, k2⟩ := h.write (B' := B') hi hl (Kp.setRow w l.b _ ha1 (by simp; omega) rfl) (f := fun j => if j < c then f j else if j < c + ys.length then vs.getD (j - c) undef else f j)
    ⟨_, t, hrow, by simp; omega, by rw [hlB]; exact ha3, fun j hj => by
      rw [hget j]
      have hj' : j < B.len := by omega
      by_cases h1 : j < c
      · simp only [h1, if_true]; exact ha4 j hj'
      · simp only [h1, if_false]
        by_cases h2 : j < c + ys.length
        · simp only [h2, if_true]
          have : j - c < vs.length := by omega
          simp [this]
        · simp only [h2, if_false]; exact ha4 j hj'⟩
    (fun hV _ => by
      obtain ⟨r1, r2⟩ := RB_cells.1 hr
      refine RB_cells.2 ⟨hu r1, fun j x hx => ?_⟩
      rw [hB, splice_get (by rw [cellsB_len]; exact hc)] at hx
      by_cases h1 : j < c
      · simp only [h1, if_true] at hx ⊢
        exact ⟨hV _ _ (r2 j x hx).1, (r2 j x hx).2⟩
      · simp only [h1, if_false] at hx ⊢
        by_cases h2 : j < c + ys.length
        · simp only [h2, if_true] at hx ⊢
          exact ⟨hV _ _ (hv _ x hx).1, (hv _ x hx).2⟩
        · simp only [h2, if_false] at hx ⊢
          exact ⟨hV _ _ (r2 j x hx).1, (r2 j x hx).2⟩)
  exact ⟨_, hst, Kp.setRow w l.b _ ha1 (by simp; omega) rfl, k1, k2⟩

theorem splice_one {α : Type} {l : List α} {c : Nat} {y : α} (h : c < l.length) : splice l c [y] = l.set c y := by
  apply List.ext_getElem?
  intro j
  rw [splice_get (by simp; omega)]
  by_cases h1 : j = c
  · subst h1; simp [h]
  · rw [List.getElem?_set_ne (Ne.symm h1)]
    by_cases h2 : j < c
    · rw [if_pos h2]
    · rw [if_neg h2, if_neg (by simp; omega)]

theorem flat_set {z k : Nat} {es : List D} {d : D} (hz : ∀ e, e ∈ es → e.cells.length = z) (hd : d.cells.length = z) (hk : k < es.length) :
    flat (es.set k d) = splice (flat es) (k * z) d.cells := by
  have hz' : ∀ e, e ∈ es.set k d → e.cells.length = z := fun e he => by
    rcases List.mem_or_eq_of_mem_set he with h | h
    · exact hz e h
    · rw [h]; exact hd
  have hle : k * z + d.cells.length ≤ (flat es).length := by
    rw [flat_length hz, hd]
    have := Nat.mul_le_mul_right z (show k + 1 ≤ es.length by omega)
    rw [Nat.add_mul, Nat.one_mul] at this; exact this
  apply List.ext_getElem?
  intro j
  rw [splice_get hle]
  rcases Nat.eq_zero_or_pos z with hz0 | hp
  · have h1 : flat (es.set k d) = [] := List.eq_nil_of_length_eq_zero (by rw [flat_length hz', hz0, Nat.mul_zero])
    have h2 : flat es = [] := List.eq_nil_of_length_eq_zero (by rw [flat_length hz, hz0, Nat.mul_zero])
    have h3 : d.cells = [] := List.eq_nil_of_length_eq_zero (by rw [hd, hz0])
    rw [h1, h2, h3]; simp
  · rcases Nat.lt_or_ge j (es.length * z) with hj | hj
    · have hq : j / z < es.length := (Nat.div_lt_iff_lt_mul hp).2 hj
      have hm : j % z < z := Nat.mod_lt _ hp
      have hdm : j / z * z + j % z = j := by rw [Nat.mul_comm]; exact Nat.div_add_mod j z
      have g1 := flat_getElem hz' (e := j / z) (d := (es.set k d)[j / z]'(by simpa using hq)) (List.getElem?_eq_getElem _) _ hm
      have g2 := flat_getElem hz (List.getElem?_eq_getElem hq) _ hm
      rw [hdm] at g1 g2
      rw [g1, g2, List.getElem_set]
      by_cases h1 : k = j / z
      · rw [if_pos h1]
        have : k * z + j % z = j := by rw [h1]; exact hdm
        rw [if_neg (by omega), if_pos (by omega)]
        congr 1; omega
      · rw [if_neg h1]
        by_cases h2 : j < k * z
        · rw [if_pos h2]
        · have : ¬ j < k * z + d.cells.length := fun h3 => h1 (by
            rw [hd] at h3
            have : j / z = k := by
              apply Nat.div_eq_of_lt_le <;> first | omega | (rw [Nat.add_mul, Nat.one_mul]; omega)
            omega)
          rw [if_neg h2, if_neg this]
    · rw [List.getElem?_eq_none (by rw [flat_length hz', List.length_set]; exact hj)]
      rw [hd]
      have hkz : k * z + z ≤ es.length * z := by
        have h9 := hle
        rw [hd, flat_length hz] at h9; exact h9
      rw [if_neg (by omega), if_neg (by omega)]
      rw [List.getElem?_eq_none (by rw [flat_length hz]; exact hj)]

def stB (ag : Bool) (n c : Nat) : Blk → AV → Option Blk
  | .var cs, .d (.agg ds) => if ag = true ∧ n = ds.length then (if c = 0 ∧ ds.length = cs.length then some (.var ds) else if c + ds.length ≤ cs.length then some (.var (splice cs c ds)) else none) else none
  | .var cs, .d d => if ag = false ∧ n = 1 ∧ c < cs.length then some (.var (cs.set c d)) else none
  | .var cs, .agg ys => if ag = true ∧ n = ys.length ∧ c + n ≤ cs.length then some (.mix (splice (cs.map .d) c ys)) else none
  | .var cs, y => if oneA y = true ∧ ag = false ∧ n = 1 ∧ c < cs.length then some (.mix ((cs.map .d).set c y)) else none
  | .dat z es, .d (.agg ds) => if ag = true ∧ n = z ∧ ds.length = z ∧ c % z = 0 ∧ c / z < es.length then some (.dat z (es.set (c / z) (.agg ds))) else none
  | .dat z es, .d d => if ag = false ∧ n = 1 ∧ z = 1 ∧ c < es.length then some (.dat 1 (es.set c d)) else none
  | .dat _ _, _ => none
  | .mix cs, .d (.agg ds) => if ag = true ∧ n = ds.length ∧ c + n ≤ cs.length then some (.mix (splice cs c (ds.map .d))) else none
  | .mix cs, .agg ys => if ag = true ∧ n = ys.length ∧ c + n ≤ cs.length then some (.mix (splice cs c ys)) else none
  | .mix cs, y => if oneA y = true ∧ ag = false ∧ n = 1 ∧ c < cs.length then some (.mix (cs.set c y)) else none

theorem map_splice {α β : Type} (g : α → β) (l ys : List α) (c : Nat) : (splice l c ys).map g = splice (l.map g) c (ys.map g) := by
  simp [splice, List.map_take, List.map_drop]

theorem splice_whole {α : Type} {l ys : List α} (h : ys.length = l.length) : splice l 0 ys = ys := by
  simp [splice, h]

theorem stB_ok {ag : Bool} {n c : Nat} {B B' : Blk} {y : AV} (h : stB ag n c B y = some B') (hu0 : uniB B) :
    ∃ ys, cellsA y = some ys ∧ ys.length = n ∧ c + n ≤ B.len ∧ cellsB B' = splice (cellsB B) c ys ∧ uniB B' := by
  unfold stB at h
  split at h
  · split at h
    · rename_i hh
      obtain ⟨_, rfl⟩ := hh
      split at h
      · rename_i h2
        obtain ⟨rfl, h2⟩ := h2
        cases h
        exact ⟨_, rfl, by simp, by simp [Blk.len, h2], by rw [splice_whole (by simp [cellsB, h2])]; rfl, trivial⟩
      · split at h
        · rename_i h2; cases h
          exact ⟨_, rfl, by simp, by simpa [Blk.len] using h2, by simp only [cellsB]; rw [map_splice], trivial⟩
        · cases h
    · cases h
  · rename_i cs d hne
    split at h
    · rename_i hh
      obtain ⟨_, rfl, hc⟩ := hh
      cases h
      refine ⟨[.d d], ?_, rfl, by simp only [Blk.len]; omega, ?_, trivial⟩
      · cases d <;> first | rfl | exact absurd rfl (hne _)
      · rw [splice_one (by simpa [cellsB] using hc)]; simp [cellsB]
    · cases h
  · split at h
    · rename_i hh
      obtain ⟨_, rfl, hc⟩ := hh
      cases h
      exact ⟨_, rfl, rfl, by simpa [Blk.len] using hc, rfl, trivial⟩
    · cases h
  · rename_i _ cs h1 h2 h3
    split at h
    · rename_i hh
      obtain ⟨ho, _, rfl, hc⟩ := hh
      cases h
      refine ⟨[y], ?_, rfl, by simp only [Blk.len]; omega, ?_, trivial⟩
      · exact cellsA_one ho
      · rw [splice_one (by simpa [cellsB] using hc)]; rfl
    · cases h
  · split at h
    · rename_i z es ds hh
      obtain ⟨_, rfl, hl, hm, hq⟩ := hh
      cases h
      have hle : c + n ≤ (flat es).length := by
        rw [flat_length hu0]
        have := Nat.mul_le_mul_right n (show c / n + 1 ≤ es.length by omega)
        rw [Nat.add_mul, Nat.one_mul, divmod hm] at this; exact this
      refine ⟨_, rfl, by simp [hl], hle, ?_, ?_⟩
      · simp only [cellsB]
        rw [flat_set (d := .agg ds) hu0 hl hq, map_splice, divmod hm]; rfl
      · intro e he
        rcases List.mem_or_eq_of_mem_set he with h | h
        · exact hu0 e h
        · rw [h]; exact hl
    · cases h
  · rename_i z es d hne
    split at h
    · rename_i hh
      obtain ⟨_, rfl, rfl, hc⟩ := hh
      cases h
      have hd : d.cells = [d] := by cases d <;> first | rfl | exact absurd rfl (hne _)
      have hle : c + 1 ≤ (flat es).length := by rw [flat_length hu0]; omega
      refine ⟨[.d d], ?_, rfl, hle, ?_, ?_⟩
      · cases d <;> first | rfl | exact absurd rfl (hne _)
      · simp only [cellsB]
        rw [flat_set hu0 (by rw [hd]; rfl) hc, map_splice, hd, Nat.mul_one]; rfl
      · intro e he
        rcases List.mem_or_eq_of_mem_set he with h | h
        · exact hu0 e h
        · rw [h, hd]; rfl
    · cases h
  · cases h
  · split at h
    · rename_i hh
      obtain ⟨_, rfl, hc⟩ := hh
      cases h
      exact ⟨_, rfl, by simp, by simpa [Blk.len] using hc, rfl, trivial⟩
    · cases h
  · split at h
    · rename_i hh
      obtain ⟨_, rfl, hc⟩ := hh
      cases h
      exact ⟨_, rfl, rfl, by simpa [Blk.len] using hc, rfl, trivial⟩
    · cases h
  · rename_i _ cs h1 h2
    split at h
    · rename_i hh
      obtain ⟨ho, _, rfl, hc⟩ := hh
      cases h
      refine ⟨[y], ?_, rfl, by simp only [Blk.len]; omega, ?_, trivial⟩
      · exact cellsA_one ho
      · rw [splice_one (by simpa [cellsB] using hc)]; rfl
    · cases h

theorem mem_st {sto : Sto} {loc : List Loc} {w : World} (h : SR P w0 G A sto loc w) {t : TypeId} {n i c : Nat} {ag : Bool} (hz : szOf P t = some n) {B B' : Blk} (hi : sto[i]? = some (some B))
    {y : AV} {u v : Value} (hx : VR P w (Fre A w sto loc) loc (.ref i c) u) (hy : VR P w (Fre A w sto loc) loc y v) (he : stB ag n c B y = some B') :
    MemOK P w0 G A sto loc w (do Instr.storeAt t u v; pure .skip) (fun b => ∃ l : Loc, loc[i]? = some l ∧ l.b = b) .any (sto.set i (some B')) := by
  cases hx with
  | @ref _ _ l hl =>
    obtain ⟨f, _, hr⟩ := h.blk i B l hi hl
    obtain ⟨ys, e1, e2, e3, e4, e5⟩ := stB_ok he (RB_cells.1 hr).1
    obtain ⟨c1, c2⟩ := cellsA_ok hy e1
    obtain ⟨w', s1, s2, s3, s4⟩ := mem_write h hi hl (ys := ys) (vs := v.cells.toList) (c := c) (B' := B') (by simp [c1]) (by omega)
      (fun j x hx => by
        have := c2 j x hx
        simpa using this) e4 (fun _ => e5)
    refine ⟨.skip, undef, w', loc, ?_, .inr ⟨rfl, rfl⟩, s2.mono (fun b _ hb => ⟨l, hl, hb.symm⟩), s3, s4, .any⟩
    have hsz : ¬ (v.cells.size ≠ n) := by omega
    simp only [Sem.run_bind, Instr.storeAt, Instr.sureAddr, Sem.run_pure, Result.andThen_ok, storeVar, run_sizeOf' w hz]
    rw [if_neg hsz]
    rw [s1]; rfl

/-! ### copy, clear -/

def cpyM (z : Nat) (sto : Sto) (x y : AV) : Option (AV × Sto) :=
  (srcE sto z y).bind fun es =>
  match x with
  | .sl i c n z' => (match sto[i]? with
    | some (some (.dat z'' old)) => if z = z' ∧ z = z'' ∧ c % z = 0 ∧ c / z + n ≤ old.length then
        some (.d (.v (.int .i64 (min es.length n : Nat))), sto.set i (some (.dat z (splice old (c / z) (es.take n))))) else none
    | _ => none)
  | _ => none

theorem flat_splice {z k : Nat} {old es : List D} (hz : ∀ e, e ∈ old → e.cells.length = z) (he : ∀ e, e ∈ es → e.cells.length = z) (hk : k + es.length ≤ old.length) :
    flat (splice old k es) = splice (flat old) (k * z) (flat es) := by
  have h1 : flat old = flat (old.take k) ++ (flat ((old.drop k).take es.length) ++ flat (old.drop (k + es.length))) := by
    have e : old = old.take k ++ ((old.drop k).take es.length ++ (old.drop k).drop es.length) := by rw [List.take_append_drop, List.take_append_drop]
    have : flat old = flat (old.take k ++ ((old.drop k).take es.length ++ (old.drop k).drop es.length)) := by rw [← e]
    rw [this, flat_append, flat_append, List.drop_drop]
  have h2 : (flat (old.take k)).length = k * z := by
    rw [flat_length (fun e he => hz e (List.mem_of_mem_take he)), List.length_take]; congr 1; omega
  have h3 : (flat ((old.drop k).take es.length)).length = es.length * z := by
    rw [flat_length (fun e he => hz e (List.mem_of_mem_drop (List.mem_of_mem_take he))), List.length_take, List.length_drop]; congr 1; omega
  have h4 : (flat es).length = es.length * z := flat_length he
  unfold splice
  rw [flat_append, flat_append, h1, h4, List.take_left' h2]
  congr 1
  rw [List.drop_append, h2]
  have h5 : k * z + es.length * z - k * z = es.length * z := by omega
  rw [h5, List.drop_of_length_le (l := flat (old.take k)) (by rw [h2]; omega), List.nil_append, List.drop_append, h3, List.drop_of_length_le (l := flat ((old.drop k).take es.length)) (by rw [h3]; omega), List.nil_append, Nat.sub_self, List.drop_zero]

theorem mem_cpy {sto sto' : Sto} {loc : List Loc} {w : World} (h : SR P w0 G A sto loc w) {t t' ty e : TypeId} {z : Nat} (ht : P.underlying t = some (.slice e))
    (hz : szOf P e = some z) {x y X : AV} {u v : Value} (hx : VR P w (Fre A w sto loc) loc x u) (hy : VR P w (Fre A w sto loc) loc y v) (he : cpyM z sto x y = some (X, sto')) :
    MemOK P w0 G A sto loc w (do pure (.value (← Builtin.copy_ #[t, t'] ty #[u, v]))) (fun b => ∃ i c n z', x = .sl i c n z' ∧ ∃ l : Loc, loc[i]? = some l ∧ l.b = b) X sto' := by
  have he0 := Option.bind_eq_some_iff.1 he
  clear he
  obtain ⟨es, hes, he⟩ := he0
  have hsrc := src_ok h hy hes
  split at he
  · rename_i i c n z'
    split at he
    · rename_i z'' old hB
      split at he
      · rename_i hh
        obtain ⟨rfl, rfl, hc, hn⟩ := hh
        cases he
        obtain ⟨l, x0, cap, cs, ct, f, hl, rfl, hx0, hle, hcap, hsz, ha1, ha2, hzz, ha3, ha4, hr⟩ := view_ok h hx hB
        have hzt : ∀ d, d ∈ es.take n → d.cells.length = z := fun d hd => by
          rcases hsrc with ⟨_, e2⟩ | ⟨hz2, _⟩
          · rw [e2] at hd; simp at hd
          · exact hz2 d (List.mem_of_mem_take hd)
        have hlt : (es.take n).length = min es.length n := by rw [List.length_take, Nat.min_comm]
        have hflt : (flat (es.take n)).length = (min es.length n) * z := by rw [flat_length hzt, hlt]
        -- what is copied, as values
        have hvs : ∃ vs : List Value, vs.length = (flat (es.take n)).length ∧ (∀ j d, (flat (es.take n))[j]? = some d → RC w (Fre A w sto loc) d (vs.getD j undef)) ∧
            (do let k ← Builtin.lenOf v; pure (Nat.min k n) : Sem Nat).run P w = .ok (min es.length n) w ∧ (Builtin.firstCells z (min es.length n) v).run P w = .ok vs.toArray w := by
          rcases hsrc with ⟨rfl, e2⟩ | ⟨hz2, ad, cp, news, rfl, s1, s2, s3, s4⟩
          · refine ⟨[], by rw [e2]; simp [flat], fun j d hd => by rw [e2] at hd; simp [flat] at hd, ?_, ?_⟩
            · rw [e2]; simp [Builtin.lenOf]
            · simp [Builtin.firstCells]
          · have htk : (flat (es.take n)) = (flat es).take ((min es.length n) * z) := by
              have h1 : flat es = flat (es.take n) ++ flat (es.drop n) := by rw [← flat_append, List.take_append_drop]
              rw [h1, List.take_left' hflt]
            have hle2 : (min es.length n) * z ≤ news.length := by rw [s1]; exact Nat.mul_le_mul_right _ (Nat.min_le_left _ _)
            refine ⟨news.take ((min es.length n) * z), by rw [hflt, List.length_take]; omega, fun j d hd => ?_, ?_, ?_⟩
            · have hj : j < (min es.length n) * z := by rw [← hflt]; exact (List.getElem?_eq_some_iff.1 hd).1
              rw [htk, List.getElem?_take, if_pos hj] at hd
              have := s3 j d hd
              have e : (news.take ((min es.length n) * z)).getD j undef = news.getD j undef := by simp [List.getElem?_take, hj]
              rw [e]; exact this
            · simp [Builtin.lenOf]
            · exact run_firstCells_some (P := P) w z (min es.length n) ad es.length cp _ (by rw [List.length_take]; omega) (fun j v hv => by
                rw [List.getElem?_take] at hv
                split at hv
                · exact s2 j v hv
                · cases hv)
        obtain ⟨vs, v1, v2, v3, v4⟩ := hvs
        by_cases h0 : cap = 0
        · -- nothing to copy to
          have hn0 : n = 0 := by omega
          have hvs0 : vs = [] := List.eq_nil_of_length_eq_zero (by rw [v1, hflt, hn0]; simp)
          have hsame : splice old (c / z) (es.take n) = old := by rw [hn0]; simp [splice]
          have hset : sto.set i (some (.dat z old)) = sto := by
            apply List.ext_getElem?
            intro j
            by_cases e : i = j
            · subst e; rw [hB]; rw [List.getElem?_set_self (List.getElem?_eq_some_iff.1 hB).1]
            · rw [List.getElem?_set_ne e]
          rw [hsame, hset]
          refine ⟨.value (.int .i64 (min es.length n : Nat)), _, w, loc, ?_, .inl rfl, Kp.refl _ _, h, fun _ _ x => x, .ofv rfl⟩
          simp only [Sem.run_bind, Sem.run_pure] at v3
          simp only [Sem.run_bind, Builtin.copy_, List.getElem?_toArray, List.getElem?_cons_zero, List.getElem?_cons_succ, run_underlying' w ht, Result.andThen_ok, run_sizeOf' w hz, Sem.run_pure]
          generalize hq : (Builtin.lenOf v).run P w = q at v3 ⊢
          cases q with
          | halt hh ww => cases v3
          | ok k ww =>
            simp only [Result.andThen_ok] at v3 ⊢
            injection v3 with v3a v3b
            subst v3b
            have : Nat.min k n = min es.length n := v3a
            rw [this, run_sizeOf' _ hz]
            simp only [Result.andThen_ok]
            rw [v4, hvs0]
            simp [storeCells, goInt]
        · have hx' := hx0.resolve_right h0
          subst hx'
          obtain ⟨w', g1, g2, g3, g4⟩ := mem_write h hB hl (ys := (flat (es.take n)).map .d) (vs := vs) (c := c) (B' := .dat z (splice old (c / z) (es.take n))) (by simp [v1])
            (by
              show c + ((flat (es.take n)).map AV.d).length ≤ (flat old).length
              rw [List.length_map, hflt, flat_length hzz]
              have h1 : c / z * z + n * z ≤ old.length * z := by rw [← Nat.add_mul]; exact Nat.mul_le_mul_right _ hn
              have h2 : (min es.length n) * z ≤ n * z := Nat.mul_le_mul_right _ (Nat.min_le_right _ _)
              rw [divmod hc] at h1; omega)
            (fun j y hy => by
              rw [List.getElem?_map] at hy
              obtain ⟨d, hd, rfl⟩ := Option.map_eq_some_iff.1 hy
              exact ⟨.d (v2 j d hd).rd, (v2 j d hd).one⟩)
            (by
              simp only [cellsB]
              rw [flat_splice hzz hzt (by rw [hlt]; have := Nat.min_le_right es.length n; omega), map_splice, divmod hc])
            (fun _ e he => by
              simp only [splice, List.mem_append] at he
              rcases he with (he | he) | he
              · exact hzz e (List.mem_of_mem_take he)
              · exact hzt e he
              · exact hzz e (List.mem_of_mem_drop he))
          refine ⟨.value (.int .i64 (min es.length n : Nat)), _, w', loc, ?_, .inl rfl, g2.mono (fun b _ hb => ⟨i, c, n, z, rfl, l, hl, hb.symm⟩), g3, g4, .ofv rfl⟩
          simp only [Sem.run_bind, Sem.run_pure] at v3
          simp only [Sem.run_bind, Builtin.copy_, List.getElem?_toArray, List.getElem?_cons_zero, List.getElem?_cons_succ, run_underlying' w ht, Result.andThen_ok, run_sizeOf' w hz, Sem.run_pure]
          generalize hq : (Builtin.lenOf v).run P w = q at v3 ⊢
          cases q with
          | halt hh ww => cases v3
          | ok k ww =>
            simp only [Result.andThen_ok] at v3 ⊢
            injection v3 with v3a v3b
            subst v3b
            have : Nat.min k n = min es.length n := v3a
            rw [this, run_sizeOf' _ hz]
            simp only [Result.andThen_ok]
            rw [v4]
            simp only [Result.andThen_ok]
            rw [g1]
            simp [goInt]
      · cases he
    · cases he
  · cases he

end
end Go.Proofs.Ytccfejnckmokkaa.Va

/-! Operations that make or write memory: clear, append of a make, a slice of an array; and all of them together. Condition: none. -/
namespace Go.Proofs.Ytccfejnckmokkaa.Va
open Go

section
variable {P : Program} {w0 : World} {G A : Nat → Prop} {gh : List Value} {N : Nat}

def clrM (z : Nat) (zero : D) (sto : Sto) (x : AV) : Option (AV × Sto) :=
  match x with
  | .sl i c n z' => (match sto[i]? with
    | some (some (.dat z'' old)) => if z = z' ∧ z = z'' ∧ c % z = 0 ∧ c / z + n ≤ old.length then
        some (.tup [], sto.set i (some (.dat z (splice old (c / z) (List.replicate n zero))))) else none
    | _ => none)
  | .d (.v (.slice none 0 0)) => some (.tup [], sto)
  | _ => none

theorem flat_replicate {n z : Nat} {d : D} (hd : d.cells.length = z) (hz : 0 < z) (j : Nat) (hj : j < n * z) : (flat (List.replicate n d))[j]? = d.cells[j % z]? := by
  have hm : j % z < z := Nat.mod_lt _ hz
  have hq : j / z < n := (Nat.div_lt_iff_lt_mul hz).2 hj
  have := flat_getElem (z := z) (es := List.replicate n d) (fun e he => by rw [(List.mem_replicate.1 he).2]; exact hd) (e := j / z) (d := d) (by simp [hq]) (j % z) hm
  rw [show j / z * z + j % z = j by rw [Nat.mul_comm]; exact Nat.div_add_mod j z] at this
  exact this

theorem zc_get {zv : Value} {n z : Nat} (h : zv.cells.size = z) (hz : 0 < z) (j : Nat) (hj : j < n * z) : (Builtin.zeroCells zv.cells n)[j]? = some (zv.cells.getD (j % z) undef) := by
  have hm : j % zv.cells.size < zv.cells.size := by rw [h]; exact Nat.mod_lt _ hz
  have hm' : j % z < zv.cells.size := by rw [h]; exact Nat.mod_lt _ hz
  simp only [Builtin.zeroCells, Array.getElem?_map]
  rw [Array.getElem?_range, h]
  simp only [hj, if_true, Option.map_some]
  rw [getElem!_pos zv.cells _ hm']
  simp [hm']

theorem mem_clr {sto sto' : Sto} {loc : List Loc} {w : World} (h : SR P w0 G A sto loc w) {t ty e : TypeId} {d0 : D} {z : Nat} (ht : P.underlying t = some (.slice e)) (hd : zeroD P e = some d0)
    (hz : szOf P e = some z) {x X : AV} {u : Value} (hx : VR P w (Fre A w sto loc) loc x u) (he : clrM z d0 sto x = some (X, sto')) :
    MemOK P w0 G A sto loc w (do pure (.value (← Builtin.clear_ #[t] ty #[u]))) (fun b => ∃ i c n z', x = .sl i c n z' ∧ ∃ l : Loc, loc[i]? = some l ∧ l.b = b) X sto' := by
  obtain ⟨i, zv, hi, hzv, h1, h2, h3, h4⟩ := zeroD_ok hd
  obtain ⟨i', hi', rfl⟩ := Option.map_eq_some_iff.1 hz
  rw [hi] at hi'; cases hi'
  have htup : ∀ (w' : World) (F' : Nat → Prop) (loc' : List Loc), VR P w' F' loc' (.tup []) (.tuple #[]) := fun w' F' loc' => .tup #[] rfl (fun j x hx => by simp at hx)
  unfold clrM at he
  split at he
  · rename_i i0 c n z'
    split at he
    · rename_i z'' old hB
      split at he
      · rename_i hh
        obtain ⟨rfl, rfl, hc, hn⟩ := hh
        cases he
        obtain ⟨l, x0, cap, cs, ct, f, hl, rfl, hx0, hle, hcap, hsz, ha1, ha2, hzz, ha3, ha4, hr⟩ := view_ok h hx hB
        by_cases hn0 : n = 0
        · have hsame : splice old (c / i.size) (List.replicate n d0) = old := by rw [hn0]; simp [splice]
          have hset : sto.set i0 (some (.dat i.size old)) = sto := by
            apply List.ext_getElem?
            intro j
            by_cases e : i0 = j
            · subst e; rw [hB]; rw [List.getElem?_set_self (List.getElem?_eq_some_iff.1 hB).1]
            · rw [List.getElem?_set_ne e]
          rw [hsame, hset]
          refine ⟨.value (.tuple #[]), _, w, loc, ?_, .inl rfl, Kp.refl _ _, h, fun _ _ x => x, htup _ _ _⟩
          simp [Builtin.clear_, run_underlying' w ht, hn0]
        · have hx' := hx0.resolve_right (by omega)
          subst hx'
          have hzr : ∀ d, d ∈ List.replicate n d0 → d.cells.length = i.size := fun d hd => by rw [(List.mem_replicate.1 hd).2]; exact h2
          have hfl : (flat (List.replicate n d0)).length = n * i.size := by rw [flat_length hzr]; simp
          obtain ⟨w', g1, g2, g3, g4⟩ := mem_write h hB hl (ys := (flat (List.replicate n d0)).map .d) (vs := (Builtin.zeroCells zv.cells n).toList) (c := c) (B' := .dat i.size (splice old (c / i.size) (List.replicate n d0)))
            (by simp [hfl, zc_size _ _ _ h1])
            (by
              show c + ((flat (List.replicate n d0)).map AV.d).length ≤ (flat old).length
              rw [List.length_map, hfl, flat_length hzz]
              have h5 : c / i.size * i.size + n * i.size ≤ old.length * i.size := by rw [← Nat.add_mul]; exact Nat.mul_le_mul_right _ hn
              rw [divmod hc] at h5; omega)
            (fun j y hy => by
              rw [List.getElem?_map] at hy
              obtain ⟨d, hd, rfl⟩ := Option.map_eq_some_iff.1 hy
              have hj : j < n * i.size := by rw [← hfl]; exact (List.getElem?_eq_some_iff.1 hd).1
              have hp : 0 < i.size := Nat.pos_of_ne_zero (fun e => by rw [e] at hj; simp at hj)
              rw [flat_replicate h2 hp j hj, h4, List.getElem?_map] at hd
              obtain ⟨v, hv, rfl⟩ := Option.map_eq_some_iff.1 hd
              have hm : j % i.size < zv.cells.size := by rw [h1]; exact Nat.mod_lt _ hp
              have e1 : (Builtin.zeroCells zv.cells n).toList.getD j undef = v := by
                have := zc_get (n := n) h1 hp j hj
                have e2 : zv.cells.getD (j % i.size) undef = v := by
                  rw [toList_getElem?] at hv
                  obtain ⟨hlt, e3⟩ := Array.getElem?_eq_some_iff.1 hv
                  simp [hlt, e3]
                rw [e2] at this
                simp [this]
              rw [e1]
              have hv1 := h3 v (List.mem_of_getElem? hv)
              exact ⟨.ofv hv1, hv1⟩)
            (by
              simp only [cellsB]
              rw [flat_splice hzz hzr (by simpa using hn), map_splice, divmod hc])
            (fun _ e he => by
              simp only [splice, List.mem_append] at he
              rcases he with (he | he) | he
              · exact hzz e (List.mem_of_mem_take he)
              · exact hzr e he
              · exact hzz e (List.mem_of_mem_drop he))
          refine ⟨.value (.tuple #[]), _, w', loc, ?_, .inl rfl, g2.mono (fun b _ hb => ⟨i0, c, n, i.size, rfl, l, hl, hb.symm⟩), g3, g4, htup _ _ _⟩
          obtain ⟨n', rfl⟩ : ∃ n', n = n' + 1 := ⟨n - 1, by omega⟩
          simp only [Sem.run_bind, Builtin.clear_, List.getElem?_toArray, List.getElem?_cons_zero, run_underlying' w ht, Result.andThen_ok, run_zeroValue' w hi hzv, Sem.run_pure]
          rw [g1]
          simp
      · cases he
    · cases he
  · cases he
    refine ⟨.value (.tuple #[]), _, w, loc, ?_, .inl rfl, Kp.refl _ _, h, fun _ _ x => x, htup _ _ _⟩
    rw [hx.v_inv]
    simp [Builtin.clear_, run_underlying' w ht]
  · cases he

/-! ### append(s, make(T, n)...) behind nil -/

def apmM (z bytes : Nat) (zero : D) (sto : Sto) (x y : AV) : Option (AV × Sto) :=
  (intA y).bind fun n =>
  match x with
  | .d (.v (.slice none 0 0)) => if 0 < n ∧ n * bytes ≤ 140737488355328 ∧ n ≤ 140737488355328 then some (.sl sto.length 0 n.toNat z, sto ++ [some (.dat z (List.replicate n.toNat zero))]) else none
  | _ => none

theorem mem_apm {sto sto' : Sto} {loc : List Loc} {w : World} (h : SR P w0 G A sto loc w) {t t' ty e : TypeId} {k : IntKind} {d0 : D} {z bytes : Nat} (ht : P.underlying t = some (.slice e)) (ht' : P.underlying t' = some (.int k)) (hd : zeroD P e = some d0)
    (hz : szOf P e = some z) (hb : bytesOf P e = some bytes) {x y X : AV} {u v : Value} (hx : VR P w (Fre A w sto loc) loc x u) (hy : VR P w (Fre A w sto loc) loc y v) (he : apmM z bytes d0 sto x y = some (X, sto')) :
    MemOK P w0 G A sto loc w (do pure (.value (← Builtin.append_ #[t, t'] ty #[u, v]))) (fun _ => False) X sto' := by
  obtain ⟨i, zv, hi, hzv, h1, h2, h3, h4⟩ := zeroD_ok hd
  obtain ⟨i', hi', rfl⟩ := Option.map_eq_some_iff.1 hz
  rw [hi] at hi'; cases hi'
  obtain ⟨i', hi', rfl⟩ := Option.map_eq_some_iff.1 hb
  rw [hi] at hi'; cases hi'
  obtain ⟨n, hn, he⟩ := Option.bind_eq_some_iff.1 he
  obtain ⟨kn, rfl⟩ := hy.int_inv hn
  split at he
  · split at he
    · rename_i hh
      obtain ⟨hpos, hc2, hc1⟩ := hh
      cases he
      rw [hx.v_inv]
      obtain ⟨n, rfl⟩ := Int.eq_ofNat_of_zero_le (Int.le_of_lt hpos)
      simp only [Int.toNat_natCast]
      have hpos' : 0 < n := by omega
      have hc1' : n ≤ 140737488355328 := by omega
      have hc2' : n * i.bytes ≤ 140737488355328 := by
        have : ((n * i.bytes : Nat) : Int) ≤ 140737488355328 := by simpa using hc2
        omega
      have hge := grownCap_ge w n 0 e
      have hcm : grownCap w n 0 e ≤ maxLen := grownCap_le_maxLen w n 0 e (by unfold maxLen; omega)
      have hzr : ∀ d, d ∈ List.replicate n d0 → d.cells.length = i.size := fun d hd => by rw [(List.mem_replicate.1 hd).2]; exact h2
      have hfl : (flat (List.replicate n d0)).length = n * i.size := by rw [flat_length hzr]; simp
      obtain ⟨g1, g2, g3, g4⟩ := mem_grown h (e := e) (cap := grownCap w n 0 e) (n := n) hzr (Builtin.zeroCells zv.cells n).toList (Builtin.zeroCells zv.cells (grownCap w n 0 e - n))
        (by simp [zc_size _ _ _ h1]) (fun j d hd => by
          have hj : j < n * i.size := by rw [← hfl]; exact (List.getElem?_eq_some_iff.1 hd).1
          have hp : 0 < i.size := Nat.pos_of_ne_zero (fun e => by rw [e] at hj; simp at hj)
          rw [flat_replicate h2 hp j hj, h4, List.getElem?_map] at hd
          obtain ⟨v, hv, rfl⟩ := Option.map_eq_some_iff.1 hd
          have e1 : (Builtin.zeroCells zv.cells n).toList.getD j undef = v := by
            have := zc_get (n := n) h1 hp j hj
            have e2 : zv.cells.getD (j % i.size) undef = v := by
              rw [toList_getElem?] at hv
              obtain ⟨hlt, e3⟩ := Array.getElem?_eq_some_iff.1 hv
              simp [hlt, e3]
            rw [e2] at this
            simp [this]
          rw [e1]
          exact .v (h3 v (List.mem_of_getElem? hv))) (by simp) hge hcm
        (by rw [Array.size_append, zc_size _ _ _ h1]; simp only [zc_size _ _ _ h1]; rw [← Nat.add_mul]; congr 1; omega)
      refine ⟨_, _, _, _, ?_, .inl rfl, g1, g2, g3, g4⟩
      have b1 : ¬ ((n : Int) < 0) := by omega
      have b2 : ¬ ((n : Int) * (i.bytes : Int) > 2 ^ 48) := by
        have : ((n * i.bytes : Nat) : Int) ≤ 140737488355328 := by omega
        simp at this; omega
      have b3 : ¬ (n ≤ 0) := by omega
      have b4 : ¬ (((0 + n : Nat) : Int) > IntKind.i64.max) := by
        have : IntKind.i64.max = 9223372036854775807 := by decide
        rw [this]; omega
      have b5 : ¬ (Builtin.nextslicecap (0 + n) 0 * i.bytes > 2 ^ 48) := by
        rw [Nat.zero_add, nextslicecap_zero hpos']; omega
      have b6 : ¬ (0 + n ≤ 0) := by omega
      have hz1 : (Builtin.firstCells i.size 0 (.slice none 0 0)).run P w.drew = .ok #[] w.drew := run_firstCells_none (P := P) w.drew i.size 0 0 0
      simp only [Sem.run_bind, Builtin.append_, List.getElem?_toArray, List.getElem?_cons_zero, List.getElem?_cons_succ, run_underlying' w ht, run_underlying' w ht', Result.andThen_ok, run_sizeOf' w (show szOf P e = some i.size by simp [szOf, hi]), Sem.run_pure]
      simp only [if_true, Sem.run_bind, asInt, asIntOf, Sem.run_pure, Result.andThen_ok, wrap_nat hc1', b1, if_false, typeInfo, run_program, hi, b2, b6, b4, b5, false_and, Int.toNat_natCast]
      have hzw : ∀ w' : World, (zeroValue e).run P w' = .ok zv w' := fun w' => run_zeroValue' w' hi hzv
      simp [run_choose, Question.forced, run_askRoom, hz1, hzw, newRow]
      by_cases h00 : n * i.size = 0
      · have : Builtin.zeroCells zv.cells n = #[] := Array.eq_empty_of_size_eq_zero (by rw [zc_size _ _ _ h1]; exact h00)
        rw [if_pos h00, this]
        simp [grownCap]
      · rw [if_neg h00]
        rfl
    · cases he
  · cases he

end
end Go.Proofs.Ytccfejnckmokkaa.Va

/-! Slices of one's own slices: a slice of such, and append. Condition: none. -/
namespace Go.Proofs.Ytccfejnckmokkaa.Va
open Go

section
variable {P : Program} {w0 : World} {G A : Nat → Prop} {gh : List Value} {N : Nat}

def isSl : AV → Bool
  | .sl _ _ _ _ => true
  | _ => false
theorem isSl_one {w : World} {F : Nat → Prop} {loc : List Loc} {x : AV} {u : Value} (h : VR P w F loc x u) (hs : isSl x = true) : u.oneCell' = true ∧ u.cells = #[u] := by
  cases h <;> first | exact ⟨rfl, rfl⟩ | cases hs

theorem mem_bslx {sto : Sto} {loc : List Loc} {w : World} (h : SR P w0 G A sto loc w) {t e : TypeId} {d0 : D} (ht : P.underlying t = some (.slice e)) (hd : zeroD P e = some d0)
    (hz : szOf P e = some 1) {xs : List AV} {us : List Value} (hl : us.length = xs.length) (hsmall : us.length * 1 ≤ 16777216) (hm : us.length ≤ maxLen)
    (hv : ∀ j x, xs[j]? = some x → VR P w (Fre A w sto loc) loc x (us.getD j undef)) (hs : xs.all isSl = true) :
    MemOK P w0 G A sto loc w (do pure (.value (← Instr.buildSlice t us.length ((us.zipIdx 0).map fun p => (p.2, p.1)).toArray))) (fun _ => False) (.sl sto.length 0 xs.length 1) (sto ++ [some (.mix xs)]) := by
  obtain ⟨i, zv, hi, hzv, h1, h2, h3, h4⟩ := zeroD_ok hd
  obtain ⟨i', hi', hi1⟩ := Option.map_eq_some_iff.1 hz
  rw [hi] at hi'; cases hi'
  have hone : ∀ j (hj : j < us.length), us[j].oneCell' = true ∧ us[j].cells = #[us[j]] := fun j hj => by
    have hj' : j < xs.length := by omega
    have hx := hv j xs[j] (List.getElem?_eq_getElem hj')
    have e : us.getD j undef = us[j] := by simp [hj]
    rw [e] at hx
    exact isSl_one hx (List.all_eq_true.1 hs _ (List.getElem_mem hj'))
  have hcs : ∀ u, u ∈ us → u.cells.size = i.size := fun u hu => by
    obtain ⟨j, hj, rfl⟩ := List.mem_iff_getElem.1 hu
    rw [(hone j hj).2, hi1]; rfl
  let cells : Array Value := (Array.range (us.length * i.size)).map fun j => (if us.length * i.size = 0 then #[] else zv.cells)[j % (if us.length * i.size = 0 then (#[] : Array Value) else zv.cells).size]!
  have hsize : cells.size = us.length * i.size := by simp [cells]
  obtain ⟨out, o1, o2, o3, _⟩ := fill_seq us 0 cells hcs (by simp [hsize])
  have hget : ∀ j (hj : j < us.length), out[j]? = some us[j] := fun j hj => by
    have := o3 j us[j] (List.getElem?_eq_getElem hj) 0 (by omega)
    rw [Nat.zero_add, hi1, Nat.mul_one, Nat.add_zero, (hone j hj).2] at this
    rw [this]; rfl
  have hos : out.size = us.length := by rw [o2, hsize, hi1, Nat.mul_one]
  obtain ⟨k1, k2, k3⟩ := mem_new h (Kp.refl _ w) rfl out e (B := .mix xs) (fun j => us.getD j undef)
    (fun j hj => by
      have hj' : j < us.length := by rw [hl]; exact hj
      rw [hget j hj']; simp [hj']) (by show xs.length ≤ _; omega)
    (fun hR _ j x hx => by
      have hj' : j < us.length := by rw [hl]; exact (List.getElem?_eq_some_iff.1 hx).1
      have e : us.getD j undef = us[j] := by simp [hj']
      refine ⟨hR _ _ (hv j x hx), ?_⟩
      show (us.getD j undef).oneCell' = true
      rw [e]; exact (hone j hj').1)
  refine ⟨_, .slice (some ⟨w.heap.size, 0, none⟩) us.length us.length, _, _, ?_, .inl rfl, k1, k2, k3, ?_⟩
  · have hno : ¬ (us.length * i.size > 2 ^ 24) := by rw [hi1]; omega
    simp only [Sem.run_bind, Instr.buildSlice, run_underlying' w ht, Result.andThen_ok, sizeOf, typeInfo, run_program, hi, Sem.run_pure]
    simp only [hno, if_false]
    by_cases h00 : us.length * i.size = 0
    · simp only [h00, if_true, Sem.run_bind, Sem.run_pure, Result.andThen_ok]
      simp only [cells, h00, if_true] at o1
      rw [o1]
      simp [newRow]
    · simp only [h00, if_false, Sem.run_bind, run_zeroValue' w hi hzv, Sem.run_pure, Result.andThen_ok]
      simp only [cells, h00, if_false] at o1
      rw [o1]
      simp [newRow]
  · have : (loc ++ [⟨w.heap.size, 0, out.size⟩])[sto.length]? = some (⟨w.heap.size, 0, out.size⟩ : Loc) := by rw [← h.len]; exact last_ext _ _
    rw [← hl]
    exact .sl this (.inl rfl) (Nat.le_refl _) hm (by simp [hos])

theorem mem_appx {sto : Sto} {loc : List Loc} {w : World} (h : SR P w0 G A sto loc w) {t ty e : TypeId} {d0 : D} {bytes : Nat} (ht : P.underlying t = some (.slice e)) (hd : zeroD P e = some d0)
    (hz : szOf P e = some 1) (hb : bytesOf P e = some bytes) {i0 n k m : Nat} {B0 : Blk} {ys : List AV} {u v : Value} (hx : VR P w (Fre A w sto loc) loc (.sl i0 0 n 1) u) (hy : VR P w (Fre A w sto loc) loc (.sl k 0 m 1) v)
    (hB : sto[i0]? = some (some B0)) (hn : n = (cellsB B0).length) (hY : sto[k]? = some (some (.mix ys))) (hm : m = ys.length) (hm0 : 0 < m) (b1 : (n + m) * bytes ≤ 140737488355328) (b2 : n + m ≤ 140737488355328) :
    MemOK P w0 G A sto loc w (do pure (.value (← Builtin.append_ #[t, t] ty #[u, v]))) (fun b => ∃ l : Loc, loc[i0]? = some l ∧ l.b = b) (.sl sto.length 0 (n + m) 1) (sto.set i0 none ++ [some (.mix (cellsB B0 ++ ys))]) := by
  obtain ⟨i, zv, hi, hzv, hi1, rfl, hzs⟩ := infoE hd hz hb
  cases hx with
  | @sl _ _ _ _ cap x0 l hl hx0 hle hcap hsz =>
    cases hy with
    | @sl _ _ _ _ cap2 y0 l2 hl2 hy0 hle2 hcap2 hsz2 =>
      obtain ⟨f, ⟨cs, ct, ha1, ha2, ha3, ha4⟩, hr⟩ := h.blk i0 _ l hB hl
      obtain ⟨f2, ⟨cs2, ct2, c1, c2, c3, c4⟩, hr2⟩ := h.blk k _ l2 hY hl2
      rw [RB_cells] at hr
      have hB0l : B0.len = n := by rw [hn, cellsB_len]
      have hcap20 : cap2 ≠ 0 := fun e => by omega
      have hy0' := hy0.resolve_right hcap20
      simp only [Nat.add_zero] at hy0'
      subst hy0'
      obtain ⟨olds, ol1, ol2⟩ : ∃ olds : List Value, olds.length = n ∧ ∀ j, j < n → olds[j]? = some (f j) := ⟨(List.range n).map f, by simp, fun j hj => by simp [hj]⟩
      obtain ⟨news, nl1, nl2⟩ : ∃ news : List Value, news.length = m ∧ ∀ j, j < m → news[j]? = some (f2 j) := ⟨(List.range m).map f2, by simp, fun j hj => by simp [hj]⟩
      have holdc : ∀ j v, olds[j]? = some v → w.cell? (Addr.add ⟨l.b, x0, none⟩ j) = some v := fun j v hj => by
        have hj' : j < n := by rw [← ol1]; exact (List.getElem?_eq_some_iff.1 hj).1
        have hne : cap ≠ 0 := fun e => by omega
        have := hx0.resolve_right hne
        simp only [Nat.add_zero] at this
        subst this
        rw [ol2 j hj'] at hj; cases hj
        rw [add_none, cell_of_row w l.b _ cs ct (0, 0) ha1]
        exact ha4 j (by omega)
      have hnewc : ∀ j v, news[j]? = some v → w.cell? (Addr.add ⟨l2.b, l2.o, none⟩ j) = some v := fun j v hj => by
        have hj' : j < m := by rw [← nl1]; exact (List.getElem?_eq_some_iff.1 hj).1
        rw [nl2 j hj'] at hj; cases hj
        rw [add_none, cell_of_row w l2.b _ cs2 ct2 (0, 0) c1]
        exact c4 j (by show j < ys.length; omega)
      have hnew1 : ∀ v, v ∈ news → v.oneCell' = true := fun v hv => by
        obtain ⟨j, hj, rfl⟩ := List.mem_iff_getElem.1 hv
        have h3 := nl2 j (by omega)
        rw [List.getElem?_eq_getElem hj] at h3
        rw [Option.some.inj h3]
        exact (hr2 j _ (List.getElem?_eq_getElem (show j < ys.length by omega))).2
      have hall : ∀ j x, (cellsB B0 ++ ys)[j]? = some x → VR P w (Fre A w sto loc) loc x ((olds ++ news).getD j undef) ∧ ((olds ++ news).getD j undef).oneCell' = true := fun j x hx => by
        rcases Nat.lt_or_ge j n with hj | hj
        · rw [List.getElem?_append_left (by omega)] at hx
          have : (olds ++ news).getD j undef = f j := by
            rw [List.getD_eq_getElem?_getD, List.getElem?_append_left (by omega), ol2 j hj]; rfl
          rw [this]; exact hr.2 j x hx
        · rw [List.getElem?_append_right (by omega), ← hn] at hx
          have hj2 : j - n < ys.length := (List.getElem?_eq_some_iff.1 hx).1
          have : (olds ++ news).getD j undef = f2 (j - n) := by
            rw [List.getD_eq_getElem?_getD, List.getElem?_append_right (by omega), ol1, nl2 (j - n) (by omega)]; rfl
          rw [this]; exact hr2 (j - n) x hx
      have hcl : (cellsB B0 ++ ys).length = n + m := by rw [List.length_append, ← hn, ← hm]
      by_cases hroom : n + m ≤ cap
      · have hx' := hx0.resolve_right (by omega)
        simp only [Nat.add_zero] at hx'
        subst hx'
        have hst := run_storeCells_at P l.b (l.o + n) ct news 0 cs w ha1 (by rw [nl1]; omega) hnew1
        have hf := run_firstCells_some (P := P) w i.size m ⟨l2.b, l2.o, none⟩ m cap2 news (by rw [nl1, hi1, Nat.mul_one]) hnewc
        rw [hi1] at hf
        simp only [Nat.add_zero] at hst
        have hrun : (Builtin.append_ #[t, t] ty #[.slice (some ⟨l.b, l.o, none⟩) n cap, .slice (some ⟨l2.b, l2.o, none⟩) m cap2]).run P w =
            .ok (.slice (some ⟨l.b, l.o, none⟩) (n + m) cap) (w.setRow l.b (cs.toList.take (l.o + n) ++ news ++ cs.toList.drop (l.o + n + news.length)).toArray) := by
          simp [Builtin.append_, run_underlying' w ht, sizeOf, typeInfo, hi, Builtin.lenOf, hroom, hf, add_none, hst, hi1]
        have hrow := setRow_heap w l.b cs ((cs.toList.take (l.o + n) ++ news ++ cs.toList.drop (l.o + n + news.length)).toArray) ct (0, 0) ha1
        have hget : ∀ j, j < n + m → ((cs.toList.take (l.o + n) ++ news ++ cs.toList.drop (l.o + n + news.length)).toArray)[l.o + j]? = some ((olds ++ news).getD j undef) := fun j hj => by
          simp only [List.getElem?_toArray]
          rw [List.append_assoc]
          rcases Nat.lt_or_ge j n with hj' | hj'
          · rw [List.getElem?_append_left (by simp; omega), List.getElem?_take, if_pos (by omega), toList_getElem?, ha4 j (by omega)]
            rw [List.getD_eq_getElem?_getD, List.getElem?_append_left (by omega), ol2 j hj']; rfl
          · have h1 : (cs.toList.take (l.o + n)).length = l.o + n := by simp; omega
            rw [List.getElem?_append_right (by omega), h1, List.getElem?_append_left (by omega)]
            have : l.o + j - (l.o + n) = j - n := by omega
            rw [this, nl2 (j - n) (by omega), List.getD_eq_getElem?_getD, List.getElem?_append_right (by omega), ol1, nl2 (j - n) (by omega)]; rfl
        obtain ⟨k1, k2⟩ := h.take (B' := .mix (cellsB B0 ++ ys)) (l' := ⟨l.b, l.o, l.size⟩) hB hl (Kp.setRow w l.b _ ha1 (by simp; omega) rfl) rfl (f := fun j => (olds ++ news).getD j undef)
          ⟨_, ct, hrow, by simp; omega, by
            show l.o + (cellsB B0 ++ ys).length ≤ l.size
            omega, fun j hj => hget j (by rw [← hcl]; exact hj)⟩
          (fun hR _ j x hx => ⟨hR _ _ (hall j x hx).1, (hall j x hx).2⟩)
        refine ⟨_, _, _, _, by rw [Sem.run_bind, hrun]; rfl, .inl rfl, (Kp.setRow w l.b _ (K := fun b => b = l.b) ha1 (by simp; omega) rfl).mono (fun b _ hb => ⟨l, hl, hb.symm⟩), k1, k2, ?_⟩
        have : (loc ++ [⟨l.b, l.o, l.size⟩])[sto.length]? = some (⟨l.b, l.o, l.size⟩ : Loc) := by rw [← h.len]; exact last_ext _ _
        exact VR.sl (l := ⟨l.b, l.o, l.size⟩) (x := l.o) (c := 0) this (.inl (by simp)) hroom hcap (by simpa using hsz)
      · obtain ⟨q1, q2⟩ := h.kill i0
        have hge := grownCap_ge w (n + m) cap e
        have hcm : grownCap w (n + m) cap e ≤ maxLen := grownCap_le_maxLen w (n + m) cap e (by unfold maxLen; omega)
        have hrs : (olds.toArray ++ news.toArray ++ Builtin.zeroCells zv.cells (grownCap w (n + m) cap e - (n + m))).size = grownCap w (n + m) cap e := by
          rw [Array.size_append, zc_size _ _ _ hzs]
          simp only [Array.size_append, List.size_toArray, ol1, nl1]
          omega
        obtain ⟨k1, k2, k3⟩ := mem_new q1 (Kp.drew _ w) rfl (olds.toArray ++ news.toArray ++ Builtin.zeroCells zv.cells (grownCap w (n + m) cap e - (n + m))) e (B := .mix (cellsB B0 ++ ys)) (fun j => (olds ++ news).getD j undef)
          (fun j hj => by
            have hj' : j < (olds ++ news).length := by
              rw [List.length_append, ol1, nl1, ← hcl]; exact hj
            have hcat : olds.toArray ++ news.toArray = (olds ++ news).toArray := by simp
            rw [hcat, Array.getElem?_append_left (by simpa using hj'), List.getElem?_toArray]
            show _ = some ((olds ++ news).getD j undef)
            rw [List.getD_eq_getElem?_getD, List.getElem?_eq_getElem hj']; rfl) (by show (cellsB B0 ++ ys).length ≤ _; rw [hrs]; omega)
          (fun hR _ j x hx => ⟨hR _ _ (q2 _ _ (hall j x hx).1), (hall j x hx).2⟩)
        have hrun := run_append_grow (P := P) w t ty e i zv ht hi hzv ⟨l.b, x0, none⟩ n cap olds (by rw [ol1, hi1, Nat.mul_one]) holdc ⟨l2.b, l2.o, none⟩ m cap2 news (by rw [nl1, hi1, Nat.mul_one]) hnewc (by omega) (by omega) (growslice_fits (by omega) b1)
        refine ⟨_, _, _, _, by rw [Sem.run_bind, hrun]; rfl, .inl rfl, k1.mono (fun _ _ h => h.elim), k2, fun y u hy => k3 _ _ (q2 _ _ hy), ?_⟩
        have hsl : (sto.set i0 none).length = sto.length := by simp
        have : (loc ++ [⟨w.heap.size, 0, (olds.toArray ++ news.toArray ++ Builtin.zeroCells zv.cells (grownCap w (n + m) cap e - (n + m))).size⟩])[sto.length]? = some (⟨w.heap.size, 0, (olds.toArray ++ news.toArray ++ Builtin.zeroCells zv.cells (grownCap w (n + m) cap e - (n + m))).size⟩ : Loc) := by
          rw [← h.len]; exact last_ext _ _
        exact VR.sl this (.inl rfl) hge hcm (by rw [hrs]; simp)

def appX (z bytes : Nat) (sto : Sto) (x y : AV) : Option (AV × Sto) :=
  match x, y with
  | .sl i0 c n z1, .sl k c2 m z2 => (match sto[i0]?, sto[k]? with
    | some (some B0), some (some (.mix ys)) => if z = 1 ∧ c = 0 ∧ z1 = 1 ∧ c2 = 0 ∧ z2 = 1 ∧ n = (cellsB B0).length ∧ m = ys.length ∧ 0 < m ∧ (n + m) * bytes ≤ 140737488355328 ∧ n + m ≤ 140737488355328 then
        some (.sl sto.length 0 (n + m) 1, sto.set i0 none ++ [some (.mix (cellsB B0 ++ ys))]) else none
    | _, _ => appM z bytes sto x y)
  | _, _ => appM z bytes sto x y

theorem mem_appX {sto sto' : Sto} {loc : List Loc} {w : World} (h : SR P w0 G A sto loc w) {t ty e : TypeId} {d0 : D} {z bytes : Nat} (ht : P.underlying t = some (.slice e)) (hd : zeroD P e = some d0)
    (hz : szOf P e = some z) (hb : bytesOf P e = some bytes) {x y X : AV} {u v : Value} (hx : VR P w (Fre A w sto loc) loc x u) (hy : VR P w (Fre A w sto loc) loc y v) (he : appX z bytes sto x y = some (X, sto')) :
    MemOK P w0 G A sto loc w (do pure (.value (← Builtin.append_ #[t, t] ty #[u, v]))) (fun b => ∃ i c n z', x = .sl i c n z' ∧ ∃ l : Loc, loc[i]? = some l ∧ l.b = b) X sto' := by
  unfold appX at he
  split at he
  · rename_i i0 c n z1 k c2 m z2
    split at he
    · rename_i B0 ys hB hY
      split at he
      · rename_i hh
        obtain ⟨rfl, rfl, rfl, rfl, rfl, hn, hm, hm0, b1, b2⟩ := hh
        cases he
        obtain ⟨r, v', w', loc', g1, g2, g3, g4⟩ := mem_appx h (ty := ty) ht hd hz hb hx hy hB hn hY hm hm0 b1 b2
        exact ⟨r, v', w', loc', g1, g2, g3.mono (fun b _ ⟨l, h1, h2⟩ => ⟨i0, 0, n, 1, rfl, l, h1, h2⟩), g4⟩
      · cases he
    · exact mem_app h ht hd hz hb hx hy he
  · exact mem_app h ht hd hz hb hx hy he

end
end Go.Proofs.Ytccfejnckmokkaa.Va
