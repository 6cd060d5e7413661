/- A general frame for proofs by contracts: Operations that make or write memory: one law for all of them. Condition: none. -/
import Derived.Test.YtccfejnckmokkaaVc0
import Derived.OrdersHeld
set_option linter.all false
set_option linter.unusedSimpArgs false
set_option linter.unusedVariables false
/-! Operations that make or write memory: one law for all of them. Condition: none. -/
namespace Go.Proofs.Ytccfejnckmokkaa.Va
open Go

section
variable {P : Program} {w0 : World} {G A : Nat → Prop} {gh : List Value} {N : Nat}

def lowSeq (N : Nat) : Nat → List (Nat × Operand) → Option (List Opd)
  | _, [] => some []
  | k, (i, x) :: r => if i = k then (lowO N x).bind fun y => (lowSeq N (k + 1) r).map (y :: ·) else none

def lowMB (P : Program) (N : Nat) : Builtin → List Operand → List TypeId → Option AOp
  | .append, [x, y], [t, t'] => (slEl P t).bind fun e => (zeroD P e).bind fun d => (szOf P e).bind fun z => (bytesOf P e).bind fun b => (lowO N x).bind fun x' => (lowO N y).bind fun y' =>
    match P.underlying t' with
    | some (.slice _) => some (.app z b x' y')
    | some (.int _) => some (.apm z d b x' y')
    | _ => none
  | .copy, [x, y], [t, _] => (slEl P t).bind fun e => (szOf P e).bind fun z => (lowO N x).bind fun x' => (lowO N y).map fun y' => .cpy z x' y'
  | .clear, [x], [t] => (slEl P t).bind fun e => (zeroD P e).bind fun d => (szOf P e).bind fun z => (lowO N x).map fun x' => .clr z d x'
  | _, _, _ => none

def lowM (P : Program) (N : Nat) : Op → Option AOp
  | .alloc e => (zeroD P e).map fun d => .alloc d.cells
  | .box _ x => (lowO N x).map .box
  | .buildSlice t n ps => (slEl P t).bind fun e => (zeroD P e).bind fun _ => (szOf P e).bind fun z => (lowSeq N 0 ps.toList).bind fun xs =>
    if n = xs.length ∧ n * z ≤ 16777216 ∧ n ≤ 16777216 then some (.bsl z xs) else none
  | .makeSlice t n c => (slEl P t).bind fun e => (zeroD P e).bind fun d => (szOf P e).bind fun z => (bytesOf P e).bind fun b => (lowO N n).bind fun n' => (lowO N c).map fun c' => .mks z d b n' c'
  | .store t x y => (isAggT P t).bind fun ag => (szOf P t).bind fun n => (lowO N x).bind fun x' => (lowO N y).map fun y' => .st ag n x' y'
  | .slice t x lo hi mx => if lo.isNone && hi.isNone && mx.isNone then
    (match P.underlying t with
    | some (.array n e) => if szOf P e = some 1 ∧ 0 < n ∧ n ≤ 1000000 then (lowO N x).map (.sla n 1) else none
    | _ => none) else none
  | .call c => (match c.callee with | .builtin b => lowMB P N b c.args.toList c.argTypes.toList | _ => none)
  | _ => none

def stM (ag : Bool) (n : Nat) (sto : Sto) (x y : AV) : Option (AV × Sto) :=
  match x with
  | .ref i c => (match sto[i]? with
    | some (some B) => (stB ag n c B y).map fun B' => (.any, sto.set i (some B'))
    | _ => none)
  | _ => none

def mksM (z : Nat) (zero : D) (bytes : Nat) (sto : Sto) (n c : AV) : Option (AV × Sto) :=
  (intA n).bind fun n => (intA c).bind fun c =>
  if 0 ≤ n ∧ n ≤ c ∧ c ≤ 140737488355328 ∧ c * bytes ≤ 140737488355328 then some (.sl sto.length 0 n.toNat z, sto ++ [some (.dat z (List.replicate n.toNat zero))]) else none

def isOne : D → Bool
  | .agg _ => false
  | _ => true

theorem isOne_ok {d : D} (h : isOne d = true) : d.cells = [d] := by cases d <;> first | rfl | cases h

def slaM (n : Nat) (sto : Sto) (x : AV) : Option (AV × Sto) :=
  match x with
  | .ref i 0 => (match sto[i]? with
    | some (some (.var cs)) => if n = cs.length ∧ cs.all isOne = true then some (.d (.lst 1 cs), sto.set i none) else none
    | _ => none)
  | _ => none

def bslM (z : Nat) (sto : Sto) (xs : List AV) : Option (AV × Sto) :=
  if z = 1 ∧ xs.isEmpty = false ∧ xs.all isSl = true then some (.sl sto.length 0 xs.length 1, sto ++ [some (.mix xs)]) else (frz sto xs).bind fun p => if p.1.all (fun d => d.cells.length == z) then some (.sl sto.length 0 p.1.length z, p.2 ++ [some (.dat z p.1)]) else none

def evM (st : ASt) : AOp → Option (AV × Sto)
  | .alloc zs => some (.ref st.sto.length 0, st.sto ++ [some (.var zs)])
  | .box x => (boxB (evO st.tm x)).map fun B => (.ref st.sto.length 0, st.sto ++ [some B])
  | .bsl z xs => bslM z st.sto (xs.map (evO st.tm))
  | .mks z d b n c => mksM z d b st.sto (evO st.tm n) (evO st.tm c)
  | .st ag n x y => stM ag n st.sto (evO st.tm x) (evO st.tm y)
  | .app z b x y => appX z b st.sto (evO st.tm x) (evO st.tm y)
  | .apm z d b x y => apmM z b d st.sto (evO st.tm x) (evO st.tm y)
  | .cpy z x y => cpyM z st.sto (evO st.tm x) (evO st.tm y)
  | .clr z d x => clrM z d st.sto (evO st.tm x)
  | .sla n _ x => slaM n st.sto (evO st.tm x)
  | _ => none

def mdA : AV → List Nat
  | .sl i _ _ _ => [i]
  | .ref i _ => [i]
  | _ => []
def mdQ (st : ASt) : AOp → List Nat
  | .st _ _ x _ => mdA (evO st.tm x)
  | .app _ _ x _ => mdA (evO st.tm x)
  | .cpy _ x _ => mdA (evO st.tm x)
  | .clr _ _ x => mdA (evO st.tm x)
  | _ => []

def Md (st : ASt) (loc : List Loc) (q : AOp) (b : Nat) : Prop := ∃ i l, i ∈ mdQ st q ∧ loc[i]? = some l ∧ l.b = b

theorem MemOK.mono {sto sto' : Sto} {loc : List Loc} {w : World} {s : Sem Next} {K K' : Nat → Prop} {x : AV} (h : MemOK P w0 G A sto loc w s K x sto') (hk : ∀ b, K b → K' b) : MemOK P w0 G A sto loc w s K' x sto' := by
  obtain ⟨r, v, w', loc', h1, h2, h3, h4⟩ := h
  exact ⟨r, v, w', loc', h1, h2, h3.mono (fun b _ => hk b), h4⟩

theorem MemOK.run {sto sto' : Sto} {loc : List Loc} {w : World} {s s' : Sem Next} {K : Nat → Prop} {x : AV} (h : MemOK P w0 G A sto loc w s K x sto') (hr : s'.run P w = s.run P w) : MemOK P w0 G A sto loc w s' K x sto' := by
  obtain ⟨r, v, w', loc', h1, h2⟩ := h
  exact ⟨r, v, w', loc', hr.trans h1, h2⟩

theorem run_append_types (w : World) {t t' ty e e' : TypeId} {z : Nat} (ht : P.underlying t = some (.slice e)) (ht' : P.underlying t' = some (.slice e')) (hz : szOf P e = some z) (u v : Value) :
    (Builtin.append_ #[t, t'] ty #[u, v]).run P w = (Builtin.append_ #[t, t] ty #[u, v]).run P w := by
  cases u <;> simp only [Builtin.append_, List.getElem?_toArray, List.getElem?_cons_zero, List.getElem?_cons_succ, Sem.run_bind, run_underlying' w ht, run_underlying' w ht', Result.andThen_ok, Sem.run_pure, run_sizeOf' w hz]

theorem lowSeq_ok {st : ASt} {a : Act} {w : World} {loc : List Loc} (htm : ∀ k x, (k, x) ∈ st.tm → VR P w (Fre A w st.sto loc) loc x (val gh N a k)) :
    ∀ {ps : List (Nat × Operand)} {k : Nat} {ys : List Opd}, lowSeq N k ps = some ys → ps.length = ys.length ∧
      (ps.map fun p => (p.1, a.eval p.2)) = (((ps.map fun p => a.eval p.2).zipIdx k).map fun p => (p.2, p.1)) ∧
      ∀ j y, (ys.map (evO st.tm))[j]? = some y → VR P w (Fre A w st.sto loc) loc y ((ps.map fun p => a.eval p.2).getD j undef)
  | [], k, ys, h => by simp [lowSeq] at h; subst h; exact ⟨rfl, rfl, fun j y hy => by simp at hy⟩
  | (i, x) :: r, k, ys, h => by
    simp only [lowSeq] at h
    split at h
    · rename_i hi
      subst hi
      obtain ⟨y, h1, h2⟩ := Option.bind_eq_some_iff.1 h
      obtain ⟨ys', h3, rfl⟩ := Option.map_eq_some_iff.1 h2
      obtain ⟨hl, he, ih⟩ := lowSeq_ok htm h3
      refine ⟨by simp [hl], ?_, fun j y' hy => ?_⟩
      · simp only [List.map_cons, List.zipIdx_cons]
        rw [he]
      · cases j with
        | zero => simp at hy; subst hy; simpa using evO_ok htm h1
        | succ j => simpa using ih j y' (by simpa using hy)
    · cases h

theorem slEl_ok {t e : TypeId} (h : slEl P t = some e) : P.underlying t = some (.slice e) := by
  unfold slEl at h
  split at h
  · rename_i e' hu; cases h; exact hu
  · cases h

theorem mem_sla {sto : Sto} {loc : List Loc} {w : World} (h : SR P w0 G A sto loc w) {t e : TypeId} {n i : Nat} {cs : List D} {u : Value} (ht : P.underlying t = some (.array n e)) (hz : szOf P e = some 1) (hn0 : 0 < n)
    (hx : VR P w (Fre A w sto loc) loc (.ref i 0) u) (hB : sto[i]? = some (some (.var cs))) (hn : n = cs.length) (h1 : ∀ d, d ∈ cs → d.cells = [d]) (hn63 : n ≤ maxLen) :
    MemOK P w0 G A sto loc w (do pure (.value (← Instr.sliceAt t u none none none))) (fun _ => False) (.d (.lst 1 cs)) (sto.set i none) := by
  cases hx with
  | @ref _ _ l hl =>
    obtain ⟨f, hat, hr⟩ := h.blk i _ l hB hl
    obtain ⟨k1, k2⟩ := h.kill i
    have hF : Fre A w (sto.set i none) loc l.b := ⟨hat.lt, fun ⟨j, B, m, o1, o2, o3⟩ => by
      rcases getElem?_set_some o1 with ⟨_, e, _⟩ | ⟨hne, e⟩
      · cases e
      · exact hne (h.inj i j _ B l m hB e hl o2 o3.symm), h.al _ (h.mine _ ⟨i, _, l, hB, hl, rfl⟩)⟩
    have hfl : flat cs = cs := by
      have : ∀ l : List D, (∀ d, d ∈ l → d.cells = [d]) → flat l = l := fun l hl => by
        induction l with
        | nil => rfl
        | cons x r ih =>
          have := ih (fun d hd => hl d (List.mem_cons_of_mem _ hd))
          simp only [flat, List.flatMap_cons] at this ⊢
          rw [this, hl x List.mem_cons_self]; rfl
      exact this cs h1
    have hrc := RC.lst (w := w) (F := Fre A w (sto.set i none) loc) (z := 1) (elems := cs) (b := l.b) (o := l.o) (cap := n) f (by omega) hn63 hF (fun e he => by rw [h1 e he]; rfl)
      (fun j d hd => by
        rw [hfl] at hd
        exact (k2 (.d d) _ (.d (hr j d hd).rd)).rc (hr j d hd).one)
      (fun j hj => by rw [hfl] at hj; exact hat.cell hj)
    rw [← hn] at hrc
    refine ⟨.value (.slice (some ⟨l.b, l.o, none⟩) n n), _, w, loc, ?_, .inl rfl, Kp.refl _ _, k1, k2, .d hrc⟩
    have hne : ¬ n = 0 := by omega
    simp [Instr.sliceAt, run_underlying' w ht, Instr.sureAddr, Instr.sliceBounds, run_sizeOf' w hz, hne, add_none]

theorem mem_sound {st : ASt} {a : Act} {w : World} {loc : List Loc} {o : Oper} {q : AOp} {x : AV} {sto' : Sto} (hs : SR P w0 G A st.sto loc w)
    (htm : ∀ k x, (k, x) ∈ st.tm → VR P w (Fre A w st.sto loc) loc x (val gh N a k)) (hq : lowM P N o.op = some q) (he : evM st q = some (x, sto')) :
    MemOK P w0 G A st.sto loc w (execOp a.eval o) (Md st loc q) x sto' := by
  cases ho : o.op <;> simp only [lowM, ho] at hq <;> try (cases hq; done)
  case alloc e =>
    obtain ⟨d, hd, rfl⟩ := Option.map_eq_some_iff.1 hq
    cases he
    exact ((mem_alloc hs hd).run (by simp only [execOp, ho])).mono (fun _ h => h.elim)
  case box e x1 =>
    obtain ⟨y, hy, rfl⟩ := Option.map_eq_some_iff.1 hq
    simp only [evM] at he
    obtain ⟨B, hB, he⟩ := Option.map_eq_some_iff.1 he
    cases he
    exact ((mem_box hs (e := e) (evO_ok htm hy) hB).run (by simp only [execOp, ho])).mono (fun _ h => h.elim)
  case buildSlice t n ps =>
    obtain ⟨e, he1, hq⟩ := Option.bind_eq_some_iff.1 hq
    obtain ⟨d, hd, hq⟩ := Option.bind_eq_some_iff.1 hq
    obtain ⟨z, hz, hq⟩ := Option.bind_eq_some_iff.1 hq
    obtain ⟨xs, hxs, hq⟩ := Option.bind_eq_some_iff.1 hq
    split at hq
    · rename_i hh
      cases hq
      simp only [evM, bslM] at he
      split at he
      · rename_i hsl
        cases he
        obtain ⟨rfl, _, hall⟩ := hsl
        obtain ⟨l1, l2, l3⟩ := lowSeq_ok htm hxs
        have hn : n = (ps.toList.map fun p => a.eval p.2).length := by rw [hh.1, List.length_map, l1]
        have := mem_bslx hs (slEl_ok he1) hd hz (xs := xs.map (evO st.tm)) (us := ps.toList.map fun p => a.eval p.2) (by simp; simpa using l1) (by rw [← hn]; exact hh.2.1) (by rw [← hn]; unfold maxLen; omega)
          l3 hall
        rw [← hn] at this
        refine (this.run ?_).mono (fun _ h => h.elim)
        show (execOp a.eval o).run P w = _
        simp only [execOp, ho]
        have e2 : (ps.map fun p => (p.1, a.eval p.2)) = ((((ps.toList.map fun p => a.eval p.2).zipIdx 0).map fun p => (p.2, p.1)).toArray) := by
          rw [← l2]; apply Array.ext'; simp
        rw [← e2]
      obtain ⟨⟨ds, s1⟩, hf, he⟩ := Option.bind_eq_some_iff.1 he
      split at he
      · rename_i hall
        cases he
        obtain ⟨l1, l2, l3⟩ := lowSeq_ok htm hxs
        have hn : n = (ps.toList.map fun p => a.eval p.2).length := by rw [hh.1, List.length_map, l1]
        have := mem_bsl hs (slEl_ok he1) hd hz (xs := xs.map (evO st.tm)) (us := ps.toList.map fun p => a.eval p.2) (by simp; simpa using l1) (by rw [← hn]; exact hh.2.1) (by rw [← hn]; unfold maxLen; omega)
          l3 hf (fun d hd => by simpa using (List.all_eq_true.1 hall) d hd)
        rw [← hn] at this
        refine (this.run ?_).mono (fun _ h => h.elim)
        show (execOp a.eval o).run P w = _
        simp only [execOp, ho]
        have e2 : (ps.map fun p => (p.1, a.eval p.2)) = ((((ps.toList.map fun p => a.eval p.2).zipIdx 0).map fun p => (p.2, p.1)).toArray) := by
          rw [← l2]; apply Array.ext'; simp
        rw [← e2]
      · cases he
    · cases hq
  case makeSlice t n c =>
    obtain ⟨e, he1, hq⟩ := Option.bind_eq_some_iff.1 hq
    obtain ⟨d, hd, hq⟩ := Option.bind_eq_some_iff.1 hq
    obtain ⟨z, hz, hq⟩ := Option.bind_eq_some_iff.1 hq
    obtain ⟨b, hb, hq⟩ := Option.bind_eq_some_iff.1 hq
    obtain ⟨n', hn, hq⟩ := Option.bind_eq_some_iff.1 hq
    obtain ⟨c', hc, rfl⟩ := Option.map_eq_some_iff.1 hq
    simp only [evM, mksM] at he
    obtain ⟨m, hm, he⟩ := Option.bind_eq_some_iff.1 he
    obtain ⟨k, hk, he⟩ := Option.bind_eq_some_iff.1 he
    split at he
    · rename_i hh
      cases he
      obtain ⟨k1, e1⟩ := (evO_ok htm hn).int_inv hm
      obtain ⟨k2, e2⟩ := (evO_ok htm hc).int_inv hk
      exact ((mem_make hs (slEl_ok he1) hd hz hb (k := k1) (k' := k2) hh.1 hh.2.1 hh.2.2.1 hh.2.2.2).run (by simp only [execOp, ho, e1, e2])).mono (fun _ h => h.elim)
    · cases he
  case store t x1 y1 =>
    obtain ⟨ag, hag, hq⟩ := Option.bind_eq_some_iff.1 hq
    obtain ⟨n, hn, hq⟩ := Option.bind_eq_some_iff.1 hq
    obtain ⟨x', hx, hq⟩ := Option.bind_eq_some_iff.1 hq
    obtain ⟨y', hy, rfl⟩ := Option.map_eq_some_iff.1 hq
    simp only [evM] at he
    have vx := evO_ok htm hx
    unfold stM at he
    split at he
    · rename_i i c e1
      split at he
      · rename_i B hB
        obtain ⟨B', hB', he⟩ := Option.map_eq_some_iff.1 he
        cases he
        rw [e1] at vx
        exact ((mem_st hs hn hB vx (evO_ok htm hy) hB').run (by simp only [execOp, ho])).mono (fun b ⟨l, h1, h2⟩ => ⟨i, l, by simp [mdQ, mdA, e1], h1, h2⟩)
      · cases he
    · cases he
  case slice t x1 lo hi mx =>
    split at hq
    · rename_i hnone
      have hlo : lo = none := by cases lo <;> simp_all
      have hhi : hi = none := by cases hi <;> simp_all
      have hmx : mx = none := by cases mx <;> simp_all
      subst hlo hhi hmx
      split at hq
      · rename_i n e hu
        split at hq
        · rename_i hz
          obtain ⟨y, hy, rfl⟩ := Option.map_eq_some_iff.1 hq
          simp only [evM] at he
          have vx := evO_ok htm hy
          unfold slaM at he
          split at he
          · rename_i i e1
            split at he
            · rename_i cs hB
              split at he
              · rename_i hh
                cases he
                rw [e1] at vx
                exact ((mem_sla hs hu hz.1 hz.2.1 vx hB hh.1 (fun d hd => isOne_ok ((List.all_eq_true.1 hh.2) d hd)) (by unfold maxLen; omega)).run (by simp only [execOp, ho, Option.map_none])).mono (fun _ h => h.elim)
              · cases he
            · cases he
          · cases he
        · cases hq
      · cases hq
    · cases hq
  case call c =>
    obtain ⟨callee, args, argTypes⟩ := c
    simp only at hq
    cases callee <;> simp only at hq <;> try (cases hq; done)
    rename_i b
    have hex : ∀ (bb : Sem Value), (∀ cs : Array Bool, builtin b argTypes o.type cs (args.map a.eval) = (do pure (.value (← bb)))) →
        (execOp a.eval o).run P w = (do pure (.value (← bb)) : Sem Next).run P w := fun bb h => by
      simp only [execOp, ho, resolve, Sem.run_bind, Sem.run_pure, Result.andThen_ok, invoke]
      rw [h _]
      simp only [Sem.run_bind, Sem.run_pure]
    rcases args with ⟨args⟩
    rcases argTypes with ⟨tys⟩
    unfold lowMB at hq
    split at hq
    · rename_i x1 y1 t t' ea et
      simp only at ea et
      subst ea et
      obtain ⟨e, he1, hq⟩ := Option.bind_eq_some_iff.1 hq
      obtain ⟨d, hd, hq⟩ := Option.bind_eq_some_iff.1 hq
      obtain ⟨z, hz, hq⟩ := Option.bind_eq_some_iff.1 hq
      obtain ⟨b', hb, hq⟩ := Option.bind_eq_some_iff.1 hq
      obtain ⟨x', hx, hq⟩ := Option.bind_eq_some_iff.1 hq
      obtain ⟨y', hy, hq⟩ := Option.bind_eq_some_iff.1 hq
      split at hq
      · rename_i e' hu
        cases hq
        simp only [evM] at he
        refine ((mem_appX hs (ty := o.type) (slEl_ok he1) hd hz hb (evO_ok htm hx) (evO_ok htm hy) he).run ?_).mono (fun bb ⟨i, c, n, z', h1, l, h2, h3⟩ => ⟨i, l, by simp [mdQ, mdA, h1], h2, h3⟩)
        rw [hex _ (fun _ => rfl)]
        simp only [Sem.run_bind, List.map_toArray, List.map_cons, List.map_nil, run_append_types w (slEl_ok he1) hu hz]
      · rename_i k hu
        cases hq
        simp only [evM] at he
        refine ((mem_apm hs (ty := o.type) (slEl_ok he1) hu hd hz hb (evO_ok htm hx) (evO_ok htm hy) he).run ?_).mono (fun _ h => h.elim)
        rw [hex _ (fun _ => rfl)]
        simp only [Sem.run_bind, List.map_toArray, List.map_cons, List.map_nil]
      · cases hq
    · rename_i x1 y1 t t' ea et
      simp only at ea et
      subst ea et
      obtain ⟨e, he1, hq⟩ := Option.bind_eq_some_iff.1 hq
      obtain ⟨z, hz, hq⟩ := Option.bind_eq_some_iff.1 hq
      obtain ⟨x', hx, hq⟩ := Option.bind_eq_some_iff.1 hq
      obtain ⟨y', hy, rfl⟩ := Option.map_eq_some_iff.1 hq
      simp only [evM] at he
      refine ((mem_cpy hs (t' := t') (ty := o.type) (slEl_ok he1) hz (evO_ok htm hx) (evO_ok htm hy) he).run ?_).mono (fun bb ⟨i, c, n, z', h1, l, h2, h3⟩ => ⟨i, l, by simp [mdQ, mdA, h1], h2, h3⟩)
      rw [hex _ (fun _ => rfl)]
      simp only [Sem.run_bind, List.map_toArray, List.map_cons, List.map_nil]
    · rename_i x1 t ea et
      simp only at ea et
      subst ea et
      obtain ⟨e, he1, hq⟩ := Option.bind_eq_some_iff.1 hq
      obtain ⟨d, hd, hq⟩ := Option.bind_eq_some_iff.1 hq
      obtain ⟨z, hz, hq⟩ := Option.bind_eq_some_iff.1 hq
      obtain ⟨x', hx, rfl⟩ := Option.map_eq_some_iff.1 hq
      simp only [evM] at he
      refine ((mem_clr hs (ty := o.type) (slEl_ok he1) hd hz (evO_ok htm hx) he).run ?_).mono (fun bb ⟨i, c, n, z', h1, l, h2, h3⟩ => ⟨i, l, by simp [mdQ, mdA, h1], h2, h3⟩)
      rw [hex _ (fun _ => rfl)]
      simp only [Sem.run_bind, List.map_toArray, List.map_cons, List.map_nil]
    · cases hq

end
end Go.Proofs.Ytccfejnckmokkaa.Va

/-! What a call is given and what it hands back; contracts. Condition: none. -/
namespace Go.Proofs.Ytccfejnckmokkaa.Va
open Go

inductive R where
  | d (x : D)
  | own (z : Nat) (es : List D)
  | emp
  | agg (xs : List R)
  | tup (xs : List R)
  | box (cells : List D)
  | boxm (xs : List R)
  | ownm (xs : List R)
  | pfn (g : List D → Value → Prop)
  | is (x : R) (v : Value)
  | any

mutual
inductive AR (P : Program) (w : World) (F : Nat → Prop) : R → Value → List Nat → Prop
  | d {x : D} {u : Value} (h : RD w F x u) : AR P w F (.d x) u []
  | own {z : Nat} {es : List D} {b o cap : Nat} {cs : Array Value} {t : TypeId} (f : Nat → Value) (hb : w.heap[b]? = some (.cells cs t (0, 0))) (hn : es.length ≤ cap) (hc : cap ≤ maxLen)
      (ho : o + cap * z ≤ cs.size ∨ cap = 0) (hz : ∀ e, e ∈ es → e.cells.length = z) (hr : ∀ j d, (flat es)[j]? = some d → RC w F d (f j))
      (hf : ∀ j, j < (flat es).length → cs[o + j]? = some (f j)) : AR P w F (.own z es) (.slice (some ⟨b, o, none⟩) es.length cap) [b]
  | emp {a : Addr} : AR P w F .emp (.slice (some a) 0 0) []
  | agg {xs : List R} {us : List Value} {bs : List Nat} (h : ARs P w F xs us bs) (h1 : ∀ u, u ∈ us → u.oneCell' = true) : AR P w F (.agg xs) (.agg us.toArray) bs
  | tup {xs : List R} {us : List Value} {bs : List Nat} (h : ARs P w F xs us bs) : AR P w F (.tup xs) (.tuple us.toArray) bs
  | box {cells : List D} {b o : Nat} (f : Nat → Value) (hF : F b) (hr : ∀ j d, cells[j]? = some d → RC w F d (f j))
      (hw : ∀ j, j < cells.length → w.cell? ⟨b, o + j, none⟩ = some (f j)) : AR P w F (.box cells) (.pointer (some ⟨b, o, none⟩)) []
  | boxm {xs : List R} {us : List Value} {bs : List Nat} {b o : Nat} {cs : Array Value} {t : TypeId} (hb : w.heap[b]? = some (.cells cs t (0, 0))) (h : ARs P w F xs us bs) (h1 : ∀ u, u ∈ us → u.oneCell' = true)
      (ho : o + us.length ≤ cs.size) (hf : ∀ (j : Nat) (u : Value), us[j]? = some u → cs[o + j]? = some u) : AR P w F (.boxm xs) (.pointer (some ⟨b, o, none⟩)) (bs ++ [b])
  | ownm {xs : List R} {us : List Value} {bs : List Nat} {b o cap : Nat} {cs : Array Value} {t : TypeId} (hb : w.heap[b]? = some (.cells cs t (0, 0))) (h : ARs P w F xs us bs) (h1 : ∀ u, u ∈ us → u.oneCell' = true)
      (hn : us.length ≤ cap) (hc : cap ≤ maxLen) (ho : o + cap ≤ cs.size ∨ cap = 0) (hf : ∀ (j : Nat) (u : Value), us[j]? = some u → cs[o + j]? = some u) : AR P w F (.ownm xs) (.slice (some ⟨b, o, none⟩) us.length cap) (bs ++ [b])
  | pfn {g : List D → Value → Prop} {u : Value} (h : PFN P w F g u) : AR P w F (.pfn g) u []
  | is {x : R} {v u : Value} {bs : List Nat} (h : AR P w F x u bs) (e : u = v) : AR P w F (.is x v) u bs
  | any {u : Value} : AR P w F .any u []
inductive ARs (P : Program) (w : World) (F : Nat → Prop) : List R → List Value → List Nat → Prop
  | nil : ARs P w F [] [] []
  | cons {x : R} {xs : List R} {u : Value} {us : List Value} {b1 b2 : List Nat} (h : AR P w F x u b1) (hs : ARs P w F xs us b2) : ARs P w F (x :: xs) (u :: us) (b1 ++ b2)
end

mutual
theorem AR.mono {P : Program} {w w' : World} {F F' : Nat → Prop} {x : R} {u : Value} {bs : List Nat} (h : AR P w F x u bs) (h1 : ∀ b, F b → F' b)
    (h2 : ∀ b, F b → w'.heap[b]? = w.heap[b]?) (h3 : ∀ b, b ∈ bs → w'.heap[b]? = w.heap[b]?) (hs : w.heap.size ≤ w'.heap.size) : AR P w' F' x u bs := by
  cases h with
  | d h => exact .d (h.mono h1 h2)
  | own f hb hn hc ho hz hr hf => exact .own f ((h3 _ (by simp)).trans hb) hn hc ho hz (fun j d hd => (hr j d hd).mono h1 h2) hf
  | emp => exact .emp
  | agg h h1' => exact .agg (ARs.mono h h1 h2 h3 hs) h1'
  | tup h => exact .tup (ARs.mono h h1 h2 h3 hs)
  | box f hF hr hw => exact .box f (h1 _ hF) (fun j d hd => (hr j d hd).mono h1 h2) (fun j hj => (World.cell?_of_block (h2 _ hF)).trans (hw j hj))
  | boxm hb h h1' ho hf => exact .boxm ((h3 _ (by simp)).trans hb) (ARs.mono h h1 h2 (fun b hb => h3 b (by simp [hb])) hs) h1' ho hf
  | ownm hb h h1' hn hc ho hf => exact .ownm ((h3 _ (by simp)).trans hb) (ARs.mono h h1 h2 (fun b hb => h3 b (by simp [hb])) hs) h1' hn hc ho hf
  | pfn h => exact .pfn (h.mono h1 h2 hs)
  | is h e => exact .is (AR.mono h h1 h2 h3 hs) e
  | any => exact .any
theorem ARs.mono {P : Program} {w w' : World} {F F' : Nat → Prop} {x : List R} {u : List Value} {bs : List Nat} (h : ARs P w F x u bs) (h1 : ∀ b, F b → F' b)
    (h2 : ∀ b, F b → w'.heap[b]? = w.heap[b]?) (h3 : ∀ b, b ∈ bs → w'.heap[b]? = w.heap[b]?) (hs : w.heap.size ≤ w'.heap.size) : ARs P w' F' x u bs := by
  cases h with
  | nil => exact .nil
  | cons h hs' => exact .cons (AR.mono h h1 h2 (fun b hb => h3 b (by simp [hb])) hs) (ARs.mono hs' h1 h2 (fun b hb => h3 b (by simp [hb])) hs)
end

def DenG (P : Program) (f : FuncId) (n : Nat) (args args' : List R) (res : R) : Prop :=
  okF P f ∧ ∀ (w : World) (F : Nat → Prop) (us : List Value) (bs : List Nat), ARs P w F args us bs → bs.Nodup → (∀ b, b ∈ bs → b < w.heap.size) → (∀ b, F b → b < w.heap.size ∧ b ∉ bs) →
    Calls P f (us.take n).toArray w fun e w' => ∃ (v : Value) (bs' : List Nat), e = .returned v ∧ Kp (fun b => b ∈ bs) w w' ∧ bs'.Nodup ∧ (∀ b, b ∈ bs' → (b ∈ bs ∨ w.heap.size ≤ b) ∧ b < w'.heap.size) ∧
      ARs P w' (fun b => b < w'.heap.size ∧ b ∉ bs' ∧ (F b ∨ b ∈ bs ∨ w.heap.size ≤ b)) (res :: args') (v :: us) bs'

def Den (P : Program) (f : FuncId) (args args' : List R) (res : R) : Prop :=
  okF P f ∧ ∀ (w : World) (F : Nat → Prop) (us : List Value) (bs : List Nat), ARs P w F args us bs → bs.Nodup → (∀ b, b ∈ bs → b < w.heap.size) → (∀ b, F b → b < w.heap.size ∧ b ∉ bs) →
    Calls P f us.toArray w fun e w' => ∃ (v : Value) (bs' : List Nat), e = .returned v ∧ Kp (fun b => b ∈ bs) w w' ∧ bs'.Nodup ∧ (∀ b, b ∈ bs' → (b ∈ bs ∨ w.heap.size ≤ b) ∧ b < w'.heap.size) ∧
      ARs P w' (fun b => b < w'.heap.size ∧ b ∉ bs' ∧ (F b ∨ b ∈ bs ∨ w.heap.size ≤ b)) (res :: args') (v :: us) bs'

theorem ARs.length {P : Program} {w : World} {F : Nat → Prop} : ∀ {xs : List R} {us : List Value} {bs : List Nat}, ARs P w F xs us bs → us.length = xs.length
  | _, _, _, .nil => rfl
  | _, _, _, .cons _ hs => by simp [ARs.length hs]
theorem Den.g {P : Program} {f : FuncId} {args args' : List R} {res : R} (h : Den P f args args' res) : DenG P f args.length args args' res :=
  ⟨h.1, fun w F us bs ha h1 h2 h3 => by
    have e : us.take args.length = us := by rw [← ha.length, List.take_length]
    rw [e]; exact h.2 w F us bs ha h1 h2 h3⟩
theorem DenG.den {P : Program} {f : FuncId} {args args' : List R} {res : R} (h : DenG P f args.length args args' res) : Den P f args args' res :=
  ⟨h.1, fun w F us bs ha h1 h2 h3 => by
    have e : us.take args.length = us := by rw [← ha.length, List.take_length]
    have := h.2 w F us bs ha h1 h2 h3
    rw [e] at this; exact this⟩

/-! ### The frame's store, out of what is given -/

def mkBlk (xs : List AV) : Blk :=
  match allD xs with
  | some ds => .var ds
  | none => .mix xs

mutual
def entA : R → Sto → AV × Sto
  | .d x, s => (.d x, s)
  | .own z es, s => (.sl s.length 0 es.length z, s ++ [some (.dat z es)])
  | .emp, s => (.emp, s)
  | .agg xs, s => (mkAgg (entAs xs s).1, (entAs xs s).2)
  | .tup xs, s => (.tup (entAs xs s).1, (entAs xs s).2)
  | .box cs, s => (.iref cs 0, s)
  | .boxm xs, s => (.ref (entAs xs s).2.length 0, (entAs xs s).2 ++ [some (mkBlk (entAs xs s).1)])
  | .ownm xs, s => (.sl (entAs xs s).2.length 0 (entAs xs s).1.length 1, (entAs xs s).2 ++ [some (.mix (entAs xs s).1)])
  | .pfn g, s => (.pfn g, s)
  | .is x _, s => entA x s
  | .any, s => (.any, s)
def entAs : List R → Sto → List AV × Sto
  | [], s => ([], s)
  | x :: r, s => ((entA x s).1 :: (entAs r (entA x s).2).1, (entAs r (entA x s).2).2)
end

structure News (P : Program) (w : World) (F : Nat → Prop) (sto sto' : Sto) (bs : List Nat) (ls : List Loc) : Prop where
  ext : ∃ news : List (Option Blk), sto' = sto ++ news ∧ news.length = ls.length
  bs : ls.map (·.b) = bs
  blk : ∀ (loc : List Loc) (more : List Loc), loc.length = sto.length → ∀ (i : Nat) (B : Blk) (l : Loc), sto.length ≤ i → sto'[i]? = some (some B) → (loc ++ ls ++ more)[i]? = some l → i < sto'.length →
    ∃ f, At w l B.len f ∧ RB P w F (loc ++ ls ++ more) B f

theorem News.refl {P : Program} {w : World} {F : Nat → Prop} (sto : Sto) : News P w F sto sto [] [] :=
  ⟨⟨[], by simp, rfl⟩, rfl, fun loc more hl i B l h1 h2 h3 h4 => by omega⟩

theorem News.len {P : Program} {w : World} {F : Nat → Prop} {sto sto' : Sto} {bs : List Nat} {ls : List Loc} (h : News P w F sto sto' bs ls) : sto'.length = sto.length + ls.length := by
  obtain ⟨news, h1, h2⟩ := h.ext; rw [h1, List.length_append, h2]

theorem News.old {P : Program} {w : World} {F : Nat → Prop} {sto sto' : Sto} {bs : List Nat} {ls : List Loc} (h : News P w F sto sto' bs ls) {i : Nat} (hi : i < sto.length) : sto'[i]? = sto[i]? := by
  obtain ⟨news, h1, h2⟩ := h.ext; rw [h1, List.getElem?_append_left hi]

theorem News.trans {P : Program} {w : World} {F : Nat → Prop} {s1 s2 s3 : Sto} {b1 b2 : List Nat} {l1 l2 : List Loc} (h : News P w F s1 s2 b1 l1) (k : News P w F s2 s3 b2 l2) :
    News P w F s1 s3 (b1 ++ b2) (l1 ++ l2) := by
  obtain ⟨n1, e1, g1⟩ := h.ext
  obtain ⟨n2, e2, g2⟩ := k.ext
  refine ⟨⟨n1 ++ n2, by rw [e2, e1, List.append_assoc], by simp [g1, g2]⟩, by rw [List.map_append, h.bs, k.bs], fun loc more hl i B l h1 h2 h3 h4 => ?_⟩
  rcases Nat.lt_or_ge i s2.length with hi | hi
  · rw [k.old hi] at h2
    have := h.blk loc (l2 ++ more) hl i B l h1 h2 (by rw [← h3]; simp [List.append_assoc]) hi
    simpa [List.append_assoc] using this
  · have := k.blk (loc ++ l1) more (by rw [List.length_append, hl, h.len]) i B l hi h2 (by rw [← h3]; simp [List.append_assoc]) h4
    simpa [List.append_assoc] using this

theorem News.one {P : Program} {w : World} {F : Nat → Prop} {sto : Sto} {B : Blk} {l : Loc} {f : Nat → Value} (h1 : At w l B.len f) (h2 : ∀ (loc more : List Loc), loc.length = sto.length → RB P w F (loc ++ [l] ++ more) B f) :
    News P w F sto (sto ++ [some B]) [l.b] [l] := by
  refine ⟨⟨[some B], rfl, rfl⟩, rfl, fun loc more hl i C m g1 g2 g3 g4 => ?_⟩
  have hi : i = sto.length := by simp at g4; omega
  subst hi
  rw [last_ext] at g2
  cases g2
  have : (loc ++ [l] ++ more)[sto.length]? = some l := by
    rw [List.append_assoc, List.getElem?_append_right (by omega), hl]; simp
  rw [this] at g3; cases g3
  exact ⟨f, h1, h2 loc more hl⟩

theorem ext_get {loc ls more : List Loc} {n k : Nat} {l : Loc} (h : loc.length = n) (hk : ls[k]? = some l) : (loc ++ ls ++ more)[n + k]? = some l := by
  have : k < ls.length := (List.getElem?_eq_some_iff.1 hk).1
  rw [List.append_assoc, List.getElem?_append_right (by omega), h, Nat.add_sub_cancel_left, List.getElem?_append_left this]; exact hk

mutual
theorem entA_ok {P : Program} {w : World} {F : Nat → Prop} {x : R} {u : Value} {bs : List Nat} (h : AR P w F x u bs) (sto : Sto) :
    ∃ ls : List Loc, News P w F sto (entA x sto).2 bs ls ∧ ∀ loc more : List Loc, loc.length = sto.length → VR P w F (loc ++ ls ++ more) (entA x sto).1 u := by
  cases h with
  | d h => exact ⟨[], News.refl sto, fun _ _ _ => .d h⟩
  | @own z es b o cap cs t f hb hn hc ho hz hr hf =>
    by_cases h0 : cap = 0
    · have hes : es = [] := List.eq_nil_of_length_eq_zero (by omega)
      refine ⟨[⟨b, 0, cs.size⟩], News.one (B := .dat z es) (l := ⟨b, 0, cs.size⟩) (f := f) ⟨cs, t, hb, rfl, by subst hes; simp [Blk.len, flat], fun j hj => by subst hes; simp [Blk.len, flat] at hj⟩ (fun _ _ _ => ⟨hz, fun j d hd => hr j d hd⟩), fun loc more hl => ?_⟩
      have := ext_get (more := more) (ls := [⟨b, 0, cs.size⟩]) (k := 0) hl rfl
      exact VR.sl (l := ⟨b, 0, cs.size⟩) (x := o) (c := 0) this (.inr h0) hn hc (by simp [h0])
    · have ho' := ho.resolve_right h0
      refine ⟨[⟨b, o, cs.size⟩], News.one (B := .dat z es) (l := ⟨b, o, cs.size⟩) (f := f) ⟨cs, t, hb, rfl, by
        show o + (flat es).length ≤ cs.size
        rw [flat_length hz]
        have := Nat.mul_le_mul_right z hn
        omega, fun j hj => hf j hj⟩ (fun _ _ _ => ⟨hz, fun j d hd => hr j d hd⟩), fun loc more hl => ?_⟩
      have := ext_get (more := more) (ls := [⟨b, o, cs.size⟩]) (k := 0) hl rfl
      exact VR.sl (l := ⟨b, o, cs.size⟩) (x := o) (c := 0) this (.inl rfl) hn hc (by simpa using ho')
  | emp => exact ⟨[], News.refl sto, fun _ _ _ => .emp⟩
  | @agg xs us bs h h1 =>
    obtain ⟨ls, n1, n2, n3⟩ := entAs_ok h sto
    refine ⟨ls, n1, fun loc more hl => mkAgg_ok (by simp [n2]) (fun j y hy => ?_)⟩
    have hv := n3 loc more hl j y hy
    have hj : j < us.length := by rw [← n2]; exact (List.getElem?_eq_some_iff.1 hy).1
    refine ⟨by simpa using hv, ?_⟩
    have : us.toArray.getD j undef = us[j] := by simp [hj]
    rw [this]; exact h1 _ (List.getElem_mem hj)
  | @tup xs us bs h =>
    obtain ⟨ls, n1, n2, n3⟩ := entAs_ok h sto
    exact ⟨ls, n1, fun loc more hl => .tup _ (by simp [n2]) (fun j y hy => by simpa using n3 loc more hl j y hy)⟩
  | box f hF hr hw => exact ⟨[], News.refl sto, fun _ _ _ => VR.iref (c := 0) f hF hr hw⟩
  | @boxm xs us bs b o cs t hb h h1 ho hf =>
    obtain ⟨ls, n1, n2, n3⟩ := entAs_ok h sto
    have hlen : (mkBlk (entAs xs sto).1).len = us.length := by
      unfold mkBlk
      split
      · rename_i ds hd; have := congrArg List.length (allD_ok hd); simp at this; simp [Blk.len]; omega
      · simpa [Blk.len] using n2
    have hrb : ∀ loc : List Loc, (∀ j y, (entAs xs sto).1[j]? = some y → VR P w F loc y (us.getD j undef)) → RB P w F loc (mkBlk (entAs xs sto).1) (fun j => us.getD j undef) := fun loc hv => by
      have hone : ∀ j, j < us.length → (us.getD j undef).oneCell' = true := fun j hj => by
        have : us.getD j undef = us[j] := by simp [hj]
        rw [this]; exact h1 _ (List.getElem_mem hj)
      unfold mkBlk
      split
      · rename_i ds hd
        intro j d hj
        have hj' : (entAs xs sto).1[j]? = some (.d d) := by rw [allD_ok hd]; simp [hj]
        exact (hv j _ hj').rc (hone j (by rw [← n2]; exact (List.getElem?_eq_some_iff.1 hj').1))
      · intro j y hy
        exact ⟨hv j y hy, hone j (by rw [← n2]; exact (List.getElem?_eq_some_iff.1 hy).1)⟩
    refine ⟨ls ++ [⟨b, o, cs.size⟩], ?_, fun loc more hl => ?_⟩
    · obtain ⟨news, e1, e2⟩ := n1.ext
      refine ⟨⟨news ++ [some (mkBlk (entAs xs sto).1)], by simp only [entA]; rw [e1, List.append_assoc], by simp [e2]⟩, by simp [n1.bs], fun loc more hl i B l g1 g2 g3 g4 => ?_⟩
      simp only [entA] at g2 g4
      rcases Nat.lt_or_ge i (entAs xs sto).2.length with hi | hi
      · rw [List.getElem?_append_left hi] at g2
        have := n1.blk loc ([⟨b, o, cs.size⟩] ++ more) hl i B l g1 g2 (by rw [← g3]; simp [List.append_assoc]) hi
        simpa [List.append_assoc] using this
      · have hi' : i = (entAs xs sto).2.length := by simp at g4; omega
        subst hi'
        rw [last_ext] at g2
        cases g2
        have hx : (loc ++ (ls ++ [⟨b, o, cs.size⟩]) ++ more)[(entAs xs sto).2.length]? = some (⟨b, o, cs.size⟩ : Loc) := by
          rw [n1.len]; exact ext_get hl (by simp)
        rw [hx] at g3; cases g3
        refine ⟨fun j => us.getD j undef, ⟨cs, t, hb, rfl, by rw [hlen]; exact ho, fun j hj => ?_⟩, hrb _ (fun j y hy => ?_)⟩
        · have hj' : j < us.length := by omega
          have := hf j us[j] (List.getElem?_eq_getElem hj')
          rw [this]; simp [hj']
        · have := n3 loc ([⟨b, o, cs.size⟩] ++ more) hl j y hy
          simpa [List.append_assoc] using this
    · have hx : (loc ++ (ls ++ [⟨b, o, cs.size⟩]) ++ more)[(entAs xs sto).2.length]? = some (⟨b, o, cs.size⟩ : Loc) := by
        rw [n1.len]; exact ext_get hl (by simp)
      exact VR.ref (c := 0) hx
  | @ownm xs us bs b o cap cs t hb h h1 hn hc ho hf =>
    obtain ⟨ls, n1, n2, n3⟩ := entAs_ok h sto
    obtain ⟨o', hoo, ho', hf'⟩ : ∃ o', (o = o' ∨ cap = 0) ∧ o' + cap ≤ cs.size ∧ ∀ (j : Nat) (u : Value), us[j]? = some u → cs[o' + j]? = some u := by
      rcases ho with ho | h0
      · exact ⟨o, .inl rfl, ho, hf⟩
      · refine ⟨0, .inr h0, by omega, fun j u hu => ?_⟩
        have := (List.getElem?_eq_some_iff.1 hu).1
        omega
    have hrb : ∀ loc : List Loc, (∀ j y, (entAs xs sto).1[j]? = some y → VR P w F loc y (us.getD j undef)) → RB P w F loc (.mix (entAs xs sto).1) (fun j => us.getD j undef) := fun loc hv j y hy => by
      have hone : ∀ j, j < us.length → (us.getD j undef).oneCell' = true := fun j hj => by
        have : us.getD j undef = us[j] := by simp [hj]
        rw [this]; exact h1 _ (List.getElem_mem hj)
      exact ⟨hv j y hy, hone j (by rw [← n2]; exact (List.getElem?_eq_some_iff.1 hy).1)⟩
    refine ⟨ls ++ [⟨b, o', cs.size⟩], ?_, fun loc more hl => ?_⟩
    · obtain ⟨news, e1, e2⟩ := n1.ext
      refine ⟨⟨news ++ [some (.mix (entAs xs sto).1)], by simp only [entA]; rw [e1, List.append_assoc], by simp [e2]⟩, by simp [n1.bs], fun loc more hl i B l g1 g2 g3 g4 => ?_⟩
      simp only [entA] at g2 g4
      rcases Nat.lt_or_ge i (entAs xs sto).2.length with hi | hi
      · rw [List.getElem?_append_left hi] at g2
        have := n1.blk loc ([⟨b, o', cs.size⟩] ++ more) hl i B l g1 g2 (by rw [← g3]; simp [List.append_assoc]) hi
        simpa [List.append_assoc] using this
      · have hi' : i = (entAs xs sto).2.length := by simp at g4; omega
        subst hi'
        rw [last_ext] at g2
        cases g2
        have hx : (loc ++ (ls ++ [⟨b, o', cs.size⟩]) ++ more)[(entAs xs sto).2.length]? = some (⟨b, o', cs.size⟩ : Loc) := by
          rw [n1.len]; exact ext_get hl (by simp)
        rw [hx] at g3; cases g3
        refine ⟨fun j => us.getD j undef, ⟨cs, t, hb, rfl, by show o' + (entAs xs sto).1.length ≤ cs.size; omega, fun j hj => ?_⟩, hrb _ (fun j y hy => ?_)⟩
        · have hj' : j < us.length := by rw [← n2]; exact hj
          have := hf' j us[j] (List.getElem?_eq_getElem hj')
          rw [this]; simp [hj']
        · have := n3 loc ([⟨b, o', cs.size⟩] ++ more) hl j y hy
          simpa [List.append_assoc] using this
    · have hx : (loc ++ (ls ++ [⟨b, o', cs.size⟩]) ++ more)[(entAs xs sto).2.length]? = some (⟨b, o', cs.size⟩ : Loc) := by
        rw [n1.len]; exact ext_get hl (by simp)
      show VR P w F _ (.sl (entAs xs sto).2.length 0 (entAs xs sto).1.length 1) _
      rw [n2]
      exact VR.sl (l := ⟨b, o', cs.size⟩) (x := o) (c := 0) hx (by simpa using hoo) hn hc (by simpa using ho')
  | pfn h => exact ⟨[], News.refl sto, fun _ _ _ => .pfn h⟩
  | is h e => simpa only [entA] using entA_ok h sto
  | any => exact ⟨[], News.refl sto, fun _ _ _ => .any⟩
theorem entAs_ok {P : Program} {w : World} {F : Nat → Prop} {xs : List R} {us : List Value} {bs : List Nat} (h : ARs P w F xs us bs) (sto : Sto) :
    ∃ ls : List Loc, News P w F sto (entAs xs sto).2 bs ls ∧ (entAs xs sto).1.length = us.length ∧
      ∀ loc more : List Loc, loc.length = sto.length → ∀ j y, (entAs xs sto).1[j]? = some y → VR P w F (loc ++ ls ++ more) y (us.getD j undef) := by
  cases h with
  | nil => exact ⟨[], News.refl sto, rfl, fun _ _ _ j y hy => by simp [entAs] at hy⟩
  | @cons x xs u us b1 b2 h hs =>
    obtain ⟨l1, n1, n2⟩ := entA_ok h sto
    obtain ⟨l2, m1, m2, m3⟩ := entAs_ok hs (entA x sto).2
    refine ⟨l1 ++ l2, n1.trans m1, by simp [entAs, m2], fun loc more hl j y hy => ?_⟩
    cases j with
    | zero =>
      simp [entAs] at hy; subst hy
      have := n2 loc (l2 ++ more) hl
      simpa [List.append_assoc] using this
    | succ j =>
      have := m3 (loc ++ l1) more (by rw [List.length_append, hl, n1.len]) j y (by simpa [entAs] using hy)
      simpa [List.append_assoc] using this
end

end Go.Proofs.Ytccfejnckmokkaa.Va

/-! What a call hands back, out of the frame. Condition: none. -/
namespace Go.Proofs.Ytccfejnckmokkaa.Va
open Go

def Les (s s0 : Sto) : Prop := s.length = s0.length ∧ ∀ (i : Nat) (B : Blk), s[i]? = some (some B) → s0[i]? = some (some B)

theorem Les.refl (s : Sto) : Les s s := ⟨rfl, fun _ _ h => h⟩
theorem Les.trans {a b c : Sto} (h : Les a b) (k : Les b c) : Les a c := ⟨h.1.trans k.1, fun i B x => k.2 i B (h.2 i B x)⟩
theorem Les.kill (s : Sto) (i : Nat) : Les (s.set i none) s := ⟨by simp, fun j B h => by
  rcases getElem?_set_some h with ⟨_, e, _⟩ | ⟨_, e⟩
  · cases e
  · exact e⟩

def Gone (loc : List Loc) (s s' : Sto) (bs : List Nat) : Prop :=
  ∀ b, b ∈ bs → ∃ (i : Nat) (B : Blk) (l : Loc), s[i]? = some (some B) ∧ (∀ C, s'[i]? ≠ some (some C)) ∧ loc[i]? = some l ∧ l.b = b

def leaL (f : AV → Sto → R × Sto) : List AV → Sto → List R × Sto
  | [], s => ([], s)
  | x :: r, s => ((f x s).1 :: (leaL f r (f x s).2).1, (leaL f r (f x s).2).2)

def leaA : Nat → AV → Sto → R × Sto
  | 0, _, s => (.any, s)
  | k + 1, x, s =>
    match x with
    | .d x => (.d x, s)
    | .sl i c n z => (match s[i]? with
      | some (some (.dat z' es)) => if z = z' ∧ c % z = 0 ∧ c / z + n ≤ es.length then (.own z ((es.drop (c / z)).take n), s.set i none) else (.any, s)
      | some (some (.mix cs)) => if c = 0 ∧ z = 1 ∧ n = cs.length then (.ownm (leaL (leaA k) cs (s.set i none)).1, (leaL (leaA k) cs (s.set i none)).2) else (.any, s)
      | _ => (.any, s))
    | .emp => (.emp, s)
    | .is x _ => leaA k x s
    | .agg xs => (.agg (leaL (leaA k) xs s).1, (leaL (leaA k) xs s).2)
    | .tup xs => (.tup (leaL (leaA k) xs s).1, (leaL (leaA k) xs s).2)
    | .ref i 0 => (match s[i]? with
      | some (some (.var cs)) => (.boxm (cs.map .d), s.set i none)
      | some (some (.mix cs)) => (.boxm (leaL (leaA k) cs (s.set i none)).1, (leaL (leaA k) cs (s.set i none)).2)
      | _ => (.any, s))
    | _ => (.any, s)

section
variable {P : Program} {w0 : World} {G A : Nat → Prop} {gh : List Value} {N : Nat}

def LeaOK (P : Program) (w : World) (F : Nat → Prop) (loc : List Loc) (s : Sto) (r : R) (s' : Sto) (u : Value) : Prop :=
  ∃ bs, AR P w F r u bs ∧ Gone loc s s' bs ∧ bs.Nodup ∧ Les s' s

theorem Gone.trans {loc : List Loc} {s s' s'' : Sto} {b1 b2 : List Nat} (h : Gone loc s s' b1) (k : Gone loc s' s'' b2) (l1 : Les s' s) (l2 : Les s'' s') : Gone loc s s'' (b1 ++ b2) := by
  intro b hb
  rcases List.mem_append.1 hb with hb | hb
  · obtain ⟨i, B, l, x1, x2, x3, x4⟩ := h b hb
    exact ⟨i, B, l, x1, fun C hC => x2 C (l2.2 _ _ hC), x3, x4⟩
  · obtain ⟨i, B, l, x1, x2, x3, x4⟩ := k b hb
    exact ⟨i, B, l, l1.2 _ _ x1, x2, x3, x4⟩

theorem Gone.disj {loc : List Loc} {w : World} {s0 s s' s'' : Sto} {b1 b2 : List Nat} (h0 : SR P w0 G A s0 loc w) (l0 : Les s s0) (h : Gone loc s s' b1) (k : Gone loc s' s'' b2) (l1 : Les s' s) (d1 : b1.Nodup) (d2 : b2.Nodup) : (b1 ++ b2).Nodup := by
  refine List.nodup_append.2 ⟨d1, d2, fun a ha b hb e => ?_⟩
  subst e
  obtain ⟨i, B, l, x1, x2, x3, x4⟩ := h a ha
  obtain ⟨j, C, m, y1, y2, y3, y4⟩ := k a hb
  have := h0.inj i j B C l m (l0.2 _ _ x1) (l0.2 _ _ (l1.2 _ _ y1)) x3 y3 (x4.trans y4.symm)
  subst this
  exact x2 C y1

theorem leaL_ok {loc : List Loc} {w : World} {s0 : Sto} (h0 : SR P w0 G A s0 loc w) {f : AV → Sto → R × Sto}
    (hf : ∀ x u s, Les s s0 → VR P w (Fre A w s0 loc) loc x u → LeaOK P w (Fre A w s0 loc) loc s (f x s).1 (f x s).2 u) :
    ∀ (xs : List AV) (us : List Value) (s : Sto), Les s s0 → us.length = xs.length → (∀ j x, xs[j]? = some x → VR P w (Fre A w s0 loc) loc x (us.getD j undef)) →
      ∃ bs, ARs P w (Fre A w s0 loc) (leaL f xs s).1 us bs ∧ Gone loc s (leaL f xs s).2 bs ∧ bs.Nodup ∧ Les (leaL f xs s).2 s
  | [], us, s, _, hl, _ => by
    have : us = [] := List.eq_nil_of_length_eq_zero (by simpa using hl)
    subst this
    exact ⟨[], .nil, fun b hb => by simp at hb, List.nodup_nil, Les.refl s⟩
  | x :: r, [], s, _, hl, _ => by simp at hl
  | x :: r, u :: us, s, hs, hl, hv => by
    obtain ⟨b1, a1, g1, d1, l1⟩ := hf x u s hs (hv 0 x rfl)
    obtain ⟨b2, a2, g2, d2, l2⟩ := leaL_ok h0 hf r us (f x s).2 (l1.trans hs) (by simpa using hl) (fun j y hy => by simpa using hv (j + 1) y (by simpa using hy))
    exact ⟨b1 ++ b2, .cons a1 a2, g1.trans g2 l1 l2, Gone.disj h0 hs g1 g2 l1 d1 d2, l2.trans l1⟩

theorem ARs.ofD {w : World} {F : Nat → Prop} : ∀ (l : List D) (us : List Value), us.length = l.length → (∀ j d, l[j]? = some d → RC w F d (us.getD j undef)) → ARs P w F (l.map .d) us []
  | [], us, hl, _ => by
    have : us = [] := List.eq_nil_of_length_eq_zero (by simpa using hl)
    subst this; exact .nil
  | d :: r, [], hl, _ => by simp at hl
  | d :: r, u :: us, hl, h => by
    have := ARs.cons (AR.d (P := P) (h 0 d rfl).rd) (ARs.ofD r us (by simpa using hl) (fun j d hd => by simpa using h (j + 1) d (by simpa using hd)))
    simpa using this

theorem leaA_ok {loc : List Loc} {w : World} {s0 : Sto} (h0 : SR P w0 G A s0 loc w) : ∀ (k : Nat) (x : AV) (u : Value) (s : Sto), Les s s0 → VR P w (Fre A w s0 loc) loc x u →
    LeaOK P w (Fre A w s0 loc) loc s (leaA k x s).1 (leaA k x s).2 u
  | 0, x, u, s, _, _ => ⟨[], .any, fun b hb => by simp at hb, List.nodup_nil, Les.refl s⟩
  | k + 1, x, u, s, hs, hv => by
    have any : LeaOK P w (Fre A w s0 loc) loc s .any s u := ⟨[], .any, fun b hb => by simp at hb, List.nodup_nil, Les.refl s⟩
    have one : ∀ (i : Nat) (B : Blk) (l : Loc), s[i]? = some (some B) → loc[i]? = some l → Gone loc s (s.set i none) [l.b] := fun i B l h1 h2 b hb => by
      simp at hb
      exact ⟨i, B, l, h1, fun C hC => by
        rcases getElem?_set_some hC with ⟨_, e, _⟩ | ⟨e, _⟩
        · cases e
        · exact e rfl, h2, hb.symm⟩
    simp only [leaA]
    split
    · cases hv with
      | d h => exact ⟨[], .d h, fun b hb => by simp at hb, List.nodup_nil, Les.refl s⟩
    · rename_i i c n z
      split
      · rename_i z' es hB
        split
        · rename_i hh
          obtain ⟨rfl, hc, hn⟩ := hh
          obtain ⟨l, x0, cap, cs, t, f, hl, rfl, hx, hle, hcap, hsz, ha1, ha2, hzz, ha3, ha4, hr⟩ := view_ok h0 hv (hs.2 _ _ hB)
          have hvw := flat_view hzz hn
          rw [divmod hc] at hvw
          have hlen : ((es.drop (c / z)).take n).length = n := by
            rw [List.length_take, List.length_drop]; exact Nat.min_eq_left (Nat.le_sub_of_add_le (by rw [Nat.add_comm]; exact hn))
          have hlt : ∀ j, j < (flat ((es.drop (c / z)).take n)).length → c + j < (flat es).length := fun j hj => by
            have := hvw.2 j (by rw [← hvw.1]; exact hj)
            rw [List.getElem?_eq_getElem hj] at this
            exact (List.getElem?_eq_some_iff.1 this.symm).1
          have ha := AR.own (P := P) (w := w) (F := Fre A w s0 loc) (z := z) (es := (es.drop (c / z)).take n) (b := l.b) (o := x0) (cap := cap) (fun j => f (c + j)) ha1 (by omega) hcap
            (by
              by_cases e : cap = 0
              · exact .inr e
              · have := hx.resolve_right e
                exact .inl (by omega))
            (fun e he => hzz e (List.mem_of_mem_drop (List.mem_of_mem_take he)))
            (fun j d hd => by
              have hj := (List.getElem?_eq_some_iff.1 hd).1
              exact hr _ _ ((hvw.2 j (by rw [← hvw.1]; exact hj)).symm.trans hd))
            (fun j hj => by
              have hn0 : cap ≠ 0 := fun e => by
                have : ((es.drop (c / z)).take n).length = 0 := by rw [hlen]; omega
                have := List.eq_nil_of_length_eq_zero this
                rw [this] at hj; simp [flat] at hj
              have hx' := hx.resolve_right hn0
              subst hx'
              rw [Nat.add_assoc]
              exact ha4 _ (hlt j hj))
          rw [hlen] at ha
          exact ⟨[l.b], ha, one i _ l hB hl, by simp, Les.kill s i⟩
        · exact any
      · rename_i cs hB
        split
        · rename_i hh
          obtain ⟨rfl, rfl, rfl⟩ := hh
          cases hv with
          | @sl _ _ _ _ cap x0 l hl hx hle hcap hsz =>
            obtain ⟨f, ⟨cc, t, ha1, ha2, ha3, ha4⟩, hr⟩ := h0.blk i _ l (hs.2 _ _ hB) hl
            have hget : ∀ j, j < cs.length → ((List.range cs.length).map f).getD j undef = f j := fun j hj => by simp [hj]
            obtain ⟨bs, a1, g1, d1, l1⟩ := leaL_ok h0 (f := leaA k) (fun x u s hs hv => leaA_ok h0 k x u s hs hv) cs ((List.range cs.length).map f) (s.set i none) ((Les.kill s i).trans hs) (by simp)
              (fun j x hx => by rw [hget j (List.getElem?_eq_some_iff.1 hx).1]; exact (hr j x hx).1)
            have hone : ∀ u, u ∈ (List.range cs.length).map f → u.oneCell' = true := fun u hu => by
              obtain ⟨j, hj, rfl⟩ := List.mem_map.1 hu
              have hj' := List.mem_range.1 hj
              exact (hr j _ (List.getElem?_eq_getElem hj')).2
            have hlen : ((List.range cs.length).map f).length = cs.length := by simp
            have := AR.ownm (o := x0) (cap := cap) ha1 a1 hone (by rw [hlen]; exact hle) hcap
              (by
                by_cases e : cap = 0
                · exact .inr e
                · have := hx.resolve_right e
                  exact .inl (by omega))
              (fun j u hu => by
                rw [List.getElem?_map] at hu
                obtain ⟨m, hm, rfl⟩ := Option.map_eq_some_iff.1 hu
                obtain ⟨hlt, rfl⟩ := List.getElem?_eq_some_iff.1 hm
                simp at hlt ⊢
                have hne : cap ≠ 0 := fun e => by omega
                have := hx.resolve_right hne
                simp only [Nat.add_zero] at this
                subst this
                exact ha4 j hlt)
            rw [hlen] at this
            have g0 := one i _ l hB hl
            have hg := g0.trans g1 (Les.kill s i) l1
            have hd := Gone.disj h0 hs g0 g1 (Les.kill s i) (by simp) d1
            refine ⟨bs ++ [l.b], this, fun b hb => hg b (by simp at hb ⊢; exact hb.symm), ?_, l1.trans (Les.kill s i)⟩
            exact (List.perm_append_comm.nodup_iff).1 hd
        · exact any
      · exact any
    · cases hv with
      | emp => exact ⟨[], .emp, fun b hb => by simp at hb, List.nodup_nil, Les.refl s⟩
    · rename_i x v
      cases hv with
      | is h e => exact leaA_ok h0 k x u s hs h
    · rename_i xs
      cases hv with
      | agg us hsz h1 h =>
        obtain ⟨bs, a1, g1, d1, l1⟩ := leaL_ok h0 (f := leaA k) (fun x u s hs hv => leaA_ok h0 k x u s hs hv) xs us.toList s hs (by simpa using hsz) (fun j x hx => by simpa using h j x hx)
        refine ⟨bs, ?_, g1, d1, l1⟩
        have := AR.agg a1 (fun u hu => by
          obtain ⟨j, hj, rfl⟩ := List.mem_iff_getElem.1 hu
          have := h1 j
          simp at hj
          simpa [hj, Nat.not_le.2 hj] using this)
        simpa using this
    · rename_i xs
      cases hv with
      | tup us hsz h =>
        obtain ⟨bs, a1, g1, d1, l1⟩ := leaL_ok h0 (f := leaA k) (fun x u s hs hv => leaA_ok h0 k x u s hs hv) xs us.toList s hs (by simpa using hsz) (fun j x hx => by simpa using h j x hx)
        refine ⟨bs, ?_, g1, d1, l1⟩
        have := AR.tup a1
        simpa using this
    · rename_i i
      split
      · rename_i cs hB
        cases hv with
        | @ref _ _ l hl =>
          obtain ⟨f, ⟨cc, t, ha1, ha2, ha3, ha4⟩, hr⟩ := h0.blk i _ l (hs.2 _ _ hB) hl
          have hars : ARs P w (Fre A w s0 loc) (cs.map .d) ((List.range cs.length).map f) [] := by
            exact ARs.ofD cs _ (by simp) (fun j d hd => by
              have hj := (List.getElem?_eq_some_iff.1 hd).1
              have e : ((List.range cs.length).map f).getD j undef = f j := by simp [hj]
              rw [e]; exact hr j d hd)
          have hone : ∀ u, u ∈ (List.range cs.length).map f → u.oneCell' = true := fun u hu => by
            obtain ⟨j, hj, rfl⟩ := List.mem_map.1 hu
            have hj' := List.mem_range.1 hj
            exact (hr j _ (List.getElem?_eq_getElem hj')).one
          have := AR.boxm ha1 hars hone (o := l.o) (by simp only [List.length_map, List.length_range, ha2]; exact ha3) (fun j u hu => by
            rw [List.getElem?_map] at hu
            obtain ⟨m, hm, rfl⟩ := Option.map_eq_some_iff.1 hu
            obtain ⟨hlt, rfl⟩ := List.getElem?_eq_some_iff.1 hm
            simp at hlt ⊢
            exact ha4 j hlt)
          refine ⟨[] ++ [l.b], by simpa using this, by simpa using one i _ l hB hl, by simp, Les.kill s i⟩
      · rename_i cs hB
        cases hv with
        | @ref _ _ l hl =>
          obtain ⟨f, ⟨cc, t, ha1, ha2, ha3, ha4⟩, hr⟩ := h0.blk i _ l (hs.2 _ _ hB) hl
          have hget : ∀ j, j < cs.length → ((List.range cs.length).map f).getD j undef = f j := fun j hj => by simp [hj]
          obtain ⟨bs, a1, g1, d1, l1⟩ := leaL_ok h0 (f := leaA k) (fun x u s hs hv => leaA_ok h0 k x u s hs hv) cs ((List.range cs.length).map f) (s.set i none) ((Les.kill s i).trans hs) (by simp)
            (fun j x hx => by rw [hget j (List.getElem?_eq_some_iff.1 hx).1]; exact (hr j x hx).1)
          have hone : ∀ u, u ∈ (List.range cs.length).map f → u.oneCell' = true := fun u hu => by
            obtain ⟨j, hj, rfl⟩ := List.mem_map.1 hu
            have hj' := List.mem_range.1 hj
            exact (hr j _ (List.getElem?_eq_getElem hj')).2
          have := AR.boxm ha1 a1 hone (o := l.o) (by simp only [List.length_map, List.length_range, ha2]; exact ha3) (fun j u hu => by
            rw [List.getElem?_map] at hu
            obtain ⟨m, hm, rfl⟩ := Option.map_eq_some_iff.1 hu
            obtain ⟨hlt, rfl⟩ := List.getElem?_eq_some_iff.1 hm
            simp at hlt ⊢
            exact ha4 j hlt)
          have g0 := one i _ l hB hl
          have hg := g0.trans g1 (Les.kill s i) l1
          have hd := Gone.disj h0 hs g0 g1 (Les.kill s i) (by simp) d1
          refine ⟨bs ++ [l.b], by simpa using this, fun b hb => hg b (by simp at hb ⊢; exact hb.symm), ?_, l1.trans (Les.kill s i)⟩
          exact (List.perm_append_comm.nodup_iff).1 hd
      · exact any
    · exact any

end

/-! ### Less may be told -/

mutual
inductive RLe : R → R → Prop
  | refl {x : R} : RLe x x
  | any {x : R} : RLe x .any
  | frz {z : Nat} {es : List D} : RLe (.own z es) (.d (.lst z es))
  | frzA {z : Nat} {es : List D} : RLe (.agg [.own z es]) (.d (.agg [.lst z es]))
  | frzM {z : Nat} {L : List (List D)} : RLe (.ownm (L.map fun es => .own z es)) (.d (.lst 1 (L.map fun es => .lst z es)))
  | agg {xs ys : List R} (h : RLes xs ys) : RLe (.agg xs) (.agg ys)
  | tup {xs ys : List R} (h : RLes xs ys) : RLe (.tup xs) (.tup ys)
inductive RLes : List R → List R → Prop
  | nil : RLes [] []
  | cons {x y : R} {xs ys : List R} (h : RLe x y) (hs : RLes xs ys) : RLes (x :: xs) (y :: ys)
end

theorem ARs.rows {P : Program} {w : World} {F F' : Nat → Prop} {z : Nat} : ∀ {L : List (List D)} {us : List Value} {bs : List Nat}, ARs P w F (L.map fun es => .own z es) us bs → (∀ b, F b → F' b) → (∀ b, b ∈ bs → F' b) →
    ∀ j es, L[j]? = some es → RC w F' (.lst z es) (us.getD j undef)
  | [], us, bs, _, _, _, j, es, h => by simp at h
  | e0 :: L, us, bs, h, h1, h2, j, es, hj => by
    rw [List.map_cons] at h
    cases h with
    | @cons _ _ u us b1 b2 ha hs =>
      cases j with
      | zero =>
        simp at hj; subst hj
        cases ha with
        | own f hb hn hc ho hz hr hf =>
          exact RC.lst f hn hc (h2 _ (by simp)) hz (fun j d hd => (hr j d hd).mono h1 (fun _ _ => rfl)) (fun j hj => by rw [cell_of_row w _ _ _ _ (0, 0) hb]; exact hf j hj)
      | succ j =>
        have := ARs.rows hs h1 (fun b hb => h2 b (by simp [hb])) j es (by simpa using hj)
        simpa using this

mutual
theorem AR.le {P : Program} {w : World} {F : Nat → Prop} {r r' : R} {u : Value} {bs : List Nat} (hr : RLe r r') (h : AR P w F r u bs) (hd : bs.Nodup) :
    ∃ bs', bs'.Sublist bs ∧ ∀ F' : Nat → Prop, (∀ b, F b → F' b) → (∀ b, b ∈ bs → b ∉ bs' → F' b) → AR P w F' r' u bs' := by
  cases hr with
  | refl => exact ⟨bs, List.Sublist.refl _, fun F' h1 _ => h.mono h1 (fun _ _ => rfl) (fun _ _ => rfl) (Nat.le_refl _)⟩
  | any => exact ⟨[], List.nil_sublist _, fun _ _ _ => .any⟩
  | frz =>
    cases h with
    | own f hb hn hc ho hz hr hf =>
      refine ⟨[], List.nil_sublist _, fun F' h1 h2 => .d ?_⟩
      exact RC.lst f hn hc (h2 _ (by simp) (by simp)) hz (fun j d hd => (hr j d hd).mono h1 (fun _ _ => rfl)) (fun j hj => by rw [cell_of_row w _ _ _ _ (0, 0) hb]; exact hf j hj)
  | @frzM z L =>
    cases h with
    | @ownm _ us bs b o cap cs t hb h h1 hn hc ho hf =>
      refine ⟨[], List.nil_sublist _, fun F' g1 g2 => .d ?_⟩
      have hlen : us.length = L.length := by have := h.length; simpa using this
      have hfl : ∀ M : List (List D), flat (M.map fun es => D.lst z es) = M.map fun es => D.lst z es := fun M => by
        induction M with
        | nil => rfl
        | cons x r ih =>
          simp only [flat, List.map_cons, List.flatMap_cons] at ih ⊢
          rw [ih]; rfl
      have hrow := ARs.rows (F' := F') h g1 (fun b' hb' => g2 b' (by simp [hb']) (by simp))
      have := RC.lst (w := w) (F := F') (z := 1) (elems := L.map fun es => D.lst z es) (b := b) (o := o) (cap := cap) (fun j => us.getD j undef) (by simp; omega) hc (g2 b (by simp) (by simp))
        (fun e he => by
          obtain ⟨es, _, rfl⟩ := List.mem_map.1 he
          rfl)
        (fun j d hd => by
          rw [hfl, List.getElem?_map] at hd
          obtain ⟨es, he, rfl⟩ := Option.map_eq_some_iff.1 hd
          exact hrow j es he)
        (fun j hj => by
          rw [hfl, List.length_map] at hj
          rw [cell_of_row w _ _ _ _ (0, 0) hb]
          have hj' : j < us.length := by omega
          rw [hf j us[j] (List.getElem?_eq_getElem hj')]; simp [hj'])
      show RC w F' (.lst 1 (L.map fun es => D.lst z es)) _
      rw [List.length_map, ← hlen] at this
      exact this
  | frzA =>
    cases h with
    | agg h h1 =>
      cases h with
      | cons h hs =>
        cases hs
        cases h with
        | own f hb hn hc ho hz hr hf =>
          refine ⟨[], List.nil_sublist _, fun F' h1 h2 => .d ⟨_, rfl, by simp, fun j d hd => ?_⟩⟩
          have hj : j = 0 := by
            rcases j with _ | j
            · rfl
            · simp at hd
          subst hj
          simp at hd
          subst hd
          exact RC.lst f hn hc (h2 _ (by simp) (by simp)) hz (fun j d hd => (hr j d hd).mono h1 (fun _ _ => rfl)) (fun j hj => by rw [cell_of_row w _ _ _ _ (0, 0) hb]; exact hf j hj)
  | agg hs =>
    cases h with
    | agg h h1 =>
      obtain ⟨bs', s1, s2⟩ := ARs.le hs h hd
      exact ⟨bs', s1, fun F' a b => .agg (s2 F' a b) h1⟩
  | tup hs =>
    cases h with
    | tup h =>
      obtain ⟨bs', s1, s2⟩ := ARs.le hs h hd
      exact ⟨bs', s1, fun F' a b => .tup (s2 F' a b)⟩
theorem ARs.le {P : Program} {w : World} {F : Nat → Prop} {r r' : List R} {u : List Value} {bs : List Nat} (hr : RLes r r') (h : ARs P w F r u bs) (hd : bs.Nodup) :
    ∃ bs', bs'.Sublist bs ∧ ∀ F' : Nat → Prop, (∀ b, F b → F' b) → (∀ b, b ∈ bs → b ∉ bs' → F' b) → ARs P w F' r' u bs' := by
  cases hr with
  | nil => cases h; exact ⟨[], List.Sublist.refl _, fun _ _ _ => .nil⟩
  | cons hr hrs =>
    cases h with
    | @cons _ _ _ _ b1 b2 h hs =>
      obtain ⟨d1, d2, d3⟩ := List.nodup_append.1 hd
      obtain ⟨c1, p1, p2⟩ := AR.le hr h d1
      obtain ⟨c2, q1, q2⟩ := ARs.le hrs hs d2
      refine ⟨c1 ++ c2, p1.append q1, fun F' a b => ?_⟩
      refine .cons (p2 F' a (fun x hx hn => b x (by simp [hx]) (fun hm => ?_))) (q2 F' a (fun x hx hn => b x (by simp [hx]) (fun hm => ?_)))
      · rcases List.mem_append.1 hm with hm | hm
        · exact hn hm
        · exact d3 x hx x (q1.subset hm) rfl
      · rcases List.mem_append.1 hm with hm | hm
        · exact d3 x (p1.subset hm) x hx rfl
        · exact hn hm
end

end Go.Proofs.Ytccfejnckmokkaa.Va

/-! What a call is given, out of the frame; what comes back, into it. Condition: none. -/
namespace Go.Proofs.Ytccfejnckmokkaa.Va
open Go

section
variable {P : Program} {w0 : World} {G A : Nat → Prop} {gh : List Value} {N : Nat}

/-! ### Blocks that come (back) into a store -/

structure Ad (P : Program) (w : World) (F : Nat → Prop) (loc : List Loc) (sto sto' : Sto) (bs : List Nat) (ls : List Loc) (ids : List Nat) : Prop where
  l0 : loc.length = sto.length
  len : sto'.length = sto.length + ls.length
  map : ids.map (fun i => ((loc ++ ls)[i]?).map (·.b)) = bs.map some
  old : ∀ i, i ∉ ids → ∀ B, sto'[i]? = some (some B) → sto[i]? = some (some B)
  keep : ∀ (i : Nat) (B : Blk), sto[i]? = some (some B) → sto'[i]? = some (some B)
  dead : ∀ i, i ∈ ids → ∀ B, sto[i]? ≠ some (some B)
  blk : ∀ (more : List Loc) (i : Nat), i ∈ ids → ∀ (B : Blk) (l : Loc), sto'[i]? = some (some B) → (loc ++ ls ++ more)[i]? = some l → ∃ f, At w l B.len f ∧ RB P w F (loc ++ ls ++ more) B f

theorem Ad.refl {w : World} {F : Nat → Prop} {loc : List Loc} {sto : Sto} (h : loc.length = sto.length) : Ad P w F loc sto sto [] [] [] :=
  ⟨h, rfl, rfl, fun _ _ _ h => h, fun _ _ h => h, fun i hi => by simp at hi, fun _ i hi => by simp at hi⟩

theorem Ad.trans {w : World} {F : Nat → Prop} {loc : List Loc} {s1 s2 s3 : Sto} {b1 b2 : List Nat} {l1 l2 : List Loc} {i1 i2 : List Nat} (h : Ad P w F loc s1 s2 b1 l1 i1) (k : Ad P w F (loc ++ l1) s2 s3 b2 l2 i2) :
    Ad P w F loc s1 s3 (b1 ++ b2) (l1 ++ l2) (i1 ++ i2) := by
  refine ⟨h.l0, by rw [k.len, h.len, List.length_append]; omega, ?_, ?_, fun i B hb => k.keep _ _ (h.keep _ _ hb), ?_, ?_⟩
  · rw [List.map_append, List.map_append, ← k.map, ← h.map, List.append_assoc]
    congr 1
    apply List.map_congr_left
    intro i hi
    have hlt : i < (loc ++ l1).length := by
      have hb : ∃ x, ((loc ++ l1)[i]?).map (·.b) = some x := by
        have : ((loc ++ l1)[i]?).map (·.b) ∈ i1.map (fun i => ((loc ++ l1)[i]?).map (·.b)) := List.mem_map.2 ⟨i, hi, rfl⟩
        rw [h.map] at this
        obtain ⟨x, _, hx⟩ := List.mem_map.1 this
        exact ⟨x, hx.symm⟩
      obtain ⟨x, hx⟩ := hb
      obtain ⟨l, hl, _⟩ := Option.map_eq_some_iff.1 hx
      exact (List.getElem?_eq_some_iff.1 hl).1
    rw [← List.append_assoc, List.getElem?_append_left hlt]
  · intro i hi B hB
    exact h.old i (fun h1 => hi (List.mem_append_left _ h1)) B (k.old i (fun h1 => hi (List.mem_append_right _ h1)) B hB)
  · intro i hi B hB
    rcases List.mem_append.1 hi with hi | hi
    · exact h.dead i hi B hB
    · exact k.dead i hi B (h.keep _ _ hB)
  · intro more i hi B l h1 h2
    by_cases hi2 : i ∈ i2
    · have := k.blk more i hi2 B l h1 (by rw [← h2]; simp [List.append_assoc])
      simpa [List.append_assoc] using this
    · have hi1 : i ∈ i1 := (List.mem_append.1 hi).resolve_right hi2
      have := h.blk (l2 ++ more) i hi1 B l (k.old i hi2 B h1) (by rw [← h2]; simp [List.append_assoc])
      simpa [List.append_assoc] using this

theorem News.ad {w : World} {F : Nat → Prop} {loc : List Loc} {sto sto' : Sto} {bs : List Nat} {ls : List Loc} (h : News P w F sto sto' bs ls) (hl : loc.length = sto.length) :
    Ad P w F loc sto sto' bs ls ((List.range ls.length).map (sto.length + ·)) := by
  refine ⟨hl, h.len, ?_, ?_, fun i B hB => by rw [h.old (List.getElem?_eq_some_iff.1 hB).1]; exact hB, ?_, ?_⟩
  · rw [← h.bs, List.map_map, List.map_map]
    apply List.ext_getElem?
    intro j
    simp only [List.getElem?_map]
    rcases Nat.lt_or_ge j ls.length with hj | hj
    · rw [List.getElem?_range hj]
      simp only [Option.map_some, Function.comp]
      rw [List.getElem?_append_right (by omega), hl, Nat.add_sub_cancel_left, List.getElem?_eq_getElem hj]
      rfl
    · rw [List.getElem?_eq_none (by simpa using hj), List.getElem?_eq_none (by simpa using hj)]; rfl
  · intro i hi B hB
    have hlt : i < sto.length := by
      rcases Nat.lt_or_ge i sto.length with x | x
      · exact x
      · exfalso
        have h1 := (List.getElem?_eq_some_iff.1 hB).1
        rw [h.len] at h1
        exact hi (List.mem_map.2 ⟨i - sto.length, List.mem_range.2 (by omega), by omega⟩)
    rw [h.old hlt] at hB; exact hB
  · intro i hi B hB
    obtain ⟨j, _, rfl⟩ := List.mem_map.1 hi
    have := (List.getElem?_eq_some_iff.1 hB).1
    omega
  · intro more i hi B l h1 h2
    obtain ⟨j, hj, rfl⟩ := List.mem_map.1 hi
    exact h.blk loc more hl _ B l (by omega) h1 h2 (List.getElem?_eq_some_iff.1 h1).1

theorem nodup_map_some {ids : List Nat} {bs : List Nat} {g : Nat → Option Nat} (h : ids.map g = bs.map some) (hd : bs.Nodup) {i j b : Nat} (hi : i ∈ ids) (hj : j ∈ ids) (h1 : g i = some b) (h2 : g j = some b) : i = j := by
  obtain ⟨p, hp, rfl⟩ := List.mem_iff_getElem.1 hi
  obtain ⟨q, hq, rfl⟩ := List.mem_iff_getElem.1 hj
  have hl : ids.length = bs.length := by simpa using congrArg List.length h
  have e1 : some (bs[p]'(by omega)) = g ids[p] := by
    have := congrArg (·[p]?) h
    simp only [List.getElem?_map] at this
    rw [List.getElem?_eq_getElem hp, List.getElem?_eq_getElem (by omega)] at this
    simpa using this.symm
  have e2 : some (bs[q]'(by omega)) = g ids[q] := by
    have := congrArg (·[q]?) h
    simp only [List.getElem?_map] at this
    rw [List.getElem?_eq_getElem hq, List.getElem?_eq_getElem (by omega)] at this
    simpa using this.symm
  have : bs[p]'(by omega) = bs[q]'(by omega) := by
    rw [h1] at e1; rw [h2] at e2; exact (Option.some.inj e1).trans (Option.some.inj e2).symm
  have hpq : p = q := (List.getElem_inj hd).1 this
  subst hpq; rfl

theorem SR.adopt {sto s1 sf : Sto} {loc ls : List Loc} {w w' : World} {bs bs' : List Nat} {ids : List Nat} {F : Nat → Prop} (h : SR P w0 G A sto loc w) (hk : Kp (fun b => b ∈ bs) w w')
    (hbs : ∀ b, b ∈ bs → Own sto loc b) (hles : Les s1 sto) (hno : ∀ b, b ∈ bs → ¬ Own s1 loc b) (had : Ad P w' F loc s1 sf bs' ls ids) (hd : bs'.Nodup) (hnew : ∀ b, b ∈ bs' → b ∈ bs ∨ w.heap.size ≤ b)
    (hF : ∀ b, F b → Fre A w' sf (loc ++ ls) b) :
    SR P w0 G A sf (loc ++ ls) w' ∧ (∀ y u, VR P w (Fre A w sto loc) loc y u → VR P w' (Fre A w' sf (loc ++ ls)) (loc ++ ls) y u) := by
  have hloc : ∀ (i : Nat) (l : Loc), loc[i]? = some l → (loc ++ ls)[i]? = some l := fun i l hl => by
    rw [List.getElem?_append_left]; exact hl; exact (List.getElem?_eq_some_iff.1 hl).1
  have hold : ∀ (i : Nat) (B : Blk) (l : Loc), i ∉ ids → sf[i]? = some (some B) → (loc ++ ls)[i]? = some l → sto[i]? = some (some B) ∧ loc[i]? = some l ∧ Own s1 loc l.b := fun i B l hi h1 h2 => by
    have h3 := had.old i hi B h1
    have hlt : i < loc.length := by rw [had.l0]; exact (List.getElem?_eq_some_iff.1 h3).1
    rw [List.getElem?_append_left hlt] at h2
    exact ⟨hles.2 _ _ h3, h2, i, B, l, h3, h2, rfl⟩
  have hin : ∀ (i : Nat) (l : Loc), i ∈ ids → (loc ++ ls)[i]? = some l → l.b ∈ bs' := fun i l hi hl => by
    have : ((loc ++ ls)[i]?).map (·.b) ∈ ids.map (fun i => ((loc ++ ls)[i]?).map (·.b)) := List.mem_map.2 ⟨i, hi, rfl⟩
    rw [had.map, hl] at this
    simpa using this
  refine h.step (K := fun b => b ∈ bs) hk hbs (by rw [List.length_append, had.l0, had.len]) hloc ?_ ?_ ?_
  · rintro b ⟨i, B, l, h1, h2, rfl⟩
    by_cases hi : i ∈ ids
    · rcases hnew _ (hin i l hi h2) with hb | hb
      · exact .inl (hbs _ hb)
      · exact .inr hb
    · obtain ⟨h3, h4, _⟩ := hold i B l hi h1 h2
      exact .inl ⟨i, B, l, h3, h4, rfl⟩
  · intro i j B C l m h1 h2 h3 h4 e
    have mixed : ∀ (i j : Nat) (B C : Blk) (l m : Loc), i ∉ ids → j ∈ ids → sf[i]? = some (some B) → sf[j]? = some (some C) → (loc ++ ls)[i]? = some l → (loc ++ ls)[j]? = some m → l.b = m.b → False :=
      fun i j B C l m hi hj h1 h2 h3 h4 e => by
        obtain ⟨g1, g2, g3⟩ := hold i B l hi h1 h3
        rcases hnew _ (hin j m hj h4) with hb | hb
        · exact hno _ hb (e ▸ g3)
        · have := h.lt ⟨i, B, l, g1, g2, rfl⟩; omega
    by_cases hi : i ∈ ids <;> by_cases hj : j ∈ ids
    · exact nodup_map_some had.map hd hi hj (b := l.b) (by simp [h3]) (by simp [h4, e])
    · exact (mixed j i C B m l hj hi h2 h1 h4 h3 e.symm).elim
    · exact (mixed i j B C l m hi hj h1 h2 h3 h4 e).elim
    · obtain ⟨g1, g2, _⟩ := hold i B l hi h1 h3
      obtain ⟨g3, g4, _⟩ := hold j C m hj h2 h4
      exact h.inj i j B C l m g1 g3 g2 g4 e
  · intro _ _ i B l h1 h2
    by_cases hi : i ∈ ids
    · obtain ⟨f, ha, hr⟩ := had.blk [] i hi B l h1 (by simpa using h2)
      simp only [List.append_nil] at hr
      exact .inr ⟨f, ha, hr.mono hF (fun _ _ => rfl) (Nat.le_refl _) (fun _ _ h => h)⟩
    · obtain ⟨g1, g2, g3⟩ := hold i B l hi h1 h2
      exact .inl ⟨g1, g2, fun hb => hno _ hb g3⟩

end
end Go.Proofs.Ytccfejnckmokkaa.Va

/-! Arguments read out of the frame. Condition: none. -/
namespace Go.Proofs.Ytccfejnckmokkaa.Va
open Go

inductive M where
  | r
  | f
  | o
  | b
  | bm
  | a (ms : List M)
  | i (m : M)
  | g (g : List D → Value → Prop)

def deep1 (sto : Sto) : AV → Option D
  | .d x => some x
  | .sl i c n z => (match sto[i]? with
    | some (some (.dat z' es)) => if z = z' ∧ c % z = 0 ∧ c / z + n ≤ es.length then some (.lst z ((es.drop (c / z)).take n)) else none
    | _ => none)
  | _ => none

def ids1 : AV → List Nat
  | .sl i _ _ _ => [i]
  | _ => []

def deepL (sto : Sto) : List AV → Option (List D)
  | [] => some []
  | x :: r => (deep1 sto x).bind fun d => (deepL sto r).map (d :: ·)

def deepA (sto : Sto) : AV → Option D
  | .agg xs => (deepL sto xs).map .agg
  | x => deep1 sto x

def idsA : AV → List Nat
  | .agg xs => xs.flatMap ids1
  | x => ids1 x

def boxR (sto : Sto) : AV → Option (List D)
  | .ref i 0 => (match sto[i]? with
    | some (some (.var cs)) => some cs
    | some (some (.mix cs)) => deepL sto cs
    | _ => none)
  | .iref cs 0 => some cs
  | _ => none

def idsB (sto : Sto) : AV → List Nat
  | .ref i 0 => (match sto[i]? with
    | some (some (.mix cs)) => i :: cs.flatMap ids1
    | _ => [i])
  | _ => []

section
variable {P : Program} {w0 : World} {G A : Nat → Prop} {gh : List Value} {N : Nat}

def Rds (A : Nat → Prop) (w : World) (sto : Sto) (loc : List Loc) (l : List Nat) (b : Nat) : Prop :=
  Fre A w sto loc b ∨ ∃ (i : Nat) (B : Blk) (m : Loc), i ∈ l ∧ sto[i]? = some (some B) ∧ loc[i]? = some m ∧ m.b = b

theorem Rds.sub {w : World} {sto : Sto} {loc : List Loc} {l l' : List Nat} (h : ∀ i, i ∈ l → i ∈ l') : ∀ b, Rds A w sto loc l b → Rds A w sto loc l' b :=
  fun b hb => hb.imp id (fun ⟨i, B, m, x, y⟩ => ⟨i, B, m, h i x, y⟩)

theorem RD.dmono {w : World} {F F' : Nat → Prop} {d : D} {u : Value} (h : RD w F d u) (h1 : ∀ b, F b → F' b) : RD w F' d u := h.mono h1 (fun _ _ => rfl)

theorem deep1_ok {sto : Sto} {loc : List Loc} {w : World} (h : SR P w0 G A sto loc w) {x : AV} {u : Value} {d : D} (hv : VR P w (Fre A w sto loc) loc x u) (he : deep1 sto x = some d) :
    RD w (Rds A w sto loc (ids1 x)) d u := by
  unfold deep1 at he
  split at he
  · cases he
    cases hv with
    | d hd => exact hd.dmono (fun b hb => .inl hb)
  · rename_i i c n z
    split at he
    · rename_i z' es hB
      split at he
      · rename_i hh
        obtain ⟨rfl, hc, hn⟩ := hh
        cases he
        obtain ⟨l, x, cap, cs, t, f, hl, rfl, hx, hle, hcap, hsz, ha1, ha2, hzz, ha3, ha4, hr⟩ := view_ok h hv hB
        have hvw := flat_view hzz hn
        rw [divmod hc] at hvw
        have hlen : ((es.drop (c / z)).take n).length = n := by
          rw [List.length_take, List.length_drop]; exact Nat.min_eq_left (Nat.le_sub_of_add_le (by rw [Nat.add_comm]; exact hn))
        have hlt : ∀ j, j < (flat ((es.drop (c / z)).take n)).length → c + j < (flat es).length := fun j hj => by
          have := hvw.2 j (by rw [← hvw.1]; exact hj)
          rw [List.getElem?_eq_getElem hj] at this
          exact (List.getElem?_eq_some_iff.1 this.symm).1
        have hrc := RC.lst (w := w) (F := Rds A w sto loc (ids1 (.sl i c n z))) (z := z) (elems := (es.drop (c / z)).take n) (b := l.b) (o := x) (cap := cap) (fun j => f (c + j)) (by omega) hcap
          (.inr ⟨i, _, l, by simp [ids1], hB, hl, rfl⟩)
          (fun e he => hzz e (List.mem_of_mem_drop (List.mem_of_mem_take he)))
          (fun j d hd => by
            have hj := (List.getElem?_eq_some_iff.1 hd).1
            exact (hr _ _ ((hvw.2 j (by rw [← hvw.1]; exact hj)).symm.trans hd)).mono (fun b hb => .inl hb) (fun _ _ => rfl))
          (fun j hj => by
            have hn0 : cap ≠ 0 := fun e => by
              have : ((es.drop (c / z)).take n).length = 0 := by rw [hlen]; omega
              have := List.eq_nil_of_length_eq_zero this
              rw [this] at hj; simp [flat] at hj
            have hx' := hx.resolve_right hn0
            subst hx'
            rw [cell_of_row w l.b _ cs t (0, 0) ha1, Nat.add_assoc]
            exact ha4 _ (hlt j hj))
        rw [hlen] at hrc
        exact hrc
      · cases he
    · cases he
  · cases he

theorem deepL_ok {sto : Sto} {loc : List Loc} {w : World} (h : SR P w0 G A sto loc w) : ∀ {xs : List AV} {ds : List D} {f : Nat → Value}, deepL sto xs = some ds →
    (∀ j x, xs[j]? = some x → VR P w (Fre A w sto loc) loc x (f j)) → xs.length = ds.length ∧ ∀ j d, ds[j]? = some d → RD w (Rds A w sto loc (xs.flatMap ids1)) d (f j)
  | [], ds, f, he, hv => by simp [deepL] at he; subst he; exact ⟨rfl, fun j d hd => by simp at hd⟩
  | x :: r, ds, f, he, hv => by
    simp only [deepL] at he
    obtain ⟨d, h1, he⟩ := Option.bind_eq_some_iff.1 he
    obtain ⟨ds', h2, rfl⟩ := Option.map_eq_some_iff.1 he
    obtain ⟨i1, i2⟩ := deepL_ok h (f := fun j => f (j + 1)) h2 (fun j x hx => hv (j + 1) x (by simpa using hx))
    refine ⟨by simp [i1], fun j d' hd => ?_⟩
    cases j with
    | zero =>
      simp at hd; subst hd
      exact (deep1_ok h (hv 0 x rfl) h1).dmono (Rds.sub (fun i hi => by simp [hi]))
    | succ j =>
      exact (i2 j d' (by simpa using hd)).dmono (Rds.sub (fun i hi => by
        simp only [List.flatMap_cons, List.mem_append]; exact .inr hi))

theorem RD.rc1 {w : World} {F : Nat → Prop} {d : D} {u : Value} (h : RD w F d u) (h1 : u.oneCell' = true) : RC w F d u := by
  cases d with
  | agg xs => obtain ⟨us, rfl, _⟩ := h; cases h1
  | v x => exact h
  | lst z es => exact h

theorem deepA_ok {sto : Sto} {loc : List Loc} {w : World} (h : SR P w0 G A sto loc w) {x : AV} {u : Value} {d : D} (hv : VR P w (Fre A w sto loc) loc x u) (he : deepA sto x = some d) :
    RD w (Rds A w sto loc (idsA x)) d u := by
  unfold deepA at he
  split at he
  · rename_i xs
    obtain ⟨ds, h1, rfl⟩ := Option.map_eq_some_iff.1 he
    cases hv with
    | agg us hsz ho hx =>
      obtain ⟨i1, i2⟩ := deepL_ok h (f := fun j => us.getD j undef) h1 hx
      refine ⟨us, rfl, by omega, fun j d hd => ?_⟩
      have hj : j < us.size := by have := (List.getElem?_eq_some_iff.1 hd).1; omega
      exact (i2 j d hd).rc1 ((ho j).resolve_right (by omega))
  · rename_i hne
    have : idsA x = ids1 x := by
      cases x <;> first | rfl | exact absurd rfl (hne _)
    rw [this]; exact deep1_ok h hv he

theorem boxR_ok {sto : Sto} {loc : List Loc} {w : World} (h : SR P w0 G A sto loc w) {x : AV} {u : Value} {ds : List D} (hv : VR P w (Fre A w sto loc) loc x u) (he : boxR sto x = some ds) :
    AR P w (Rds A w sto loc (idsB sto x)) (.box ds) u [] := by
  unfold boxR at he
  split at he
  · rename_i i
    split at he
    · rename_i cs hB
      cases he
      cases hv with
      | @ref _ _ l hl =>
        obtain ⟨f, hat, hr⟩ := h.blk i _ l hB hl
        exact .box f (.inr ⟨i, _, l, by simp [idsB, hB], hB, hl, rfl⟩) (fun j d hd => (hr j d hd).mono (fun b hb => .inl hb) (fun _ _ => rfl)) (fun j hj => by simpa using hat.cell hj)
    · rename_i cs hB
      cases hv with
      | @ref _ _ l hl =>
        obtain ⟨f, hat, hr⟩ := h.blk i _ l hB hl
        obtain ⟨i1, i2⟩ := deepL_ok h (f := f) he (fun j x hx => (hr j x hx).1)
        refine .box f (.inr ⟨i, _, l, by simp [idsB, hB], hB, hl, rfl⟩) (fun j d hd => ?_) (fun j hj => by simpa using hat.cell (show j < (Blk.mix cs).len by simp only [Blk.len]; omega))
        have hj : j < cs.length := by have := (List.getElem?_eq_some_iff.1 hd).1; omega
        refine ((i2 j d hd).dmono (Rds.sub (fun k hk => ?_))).rc1 (hr j _ (List.getElem?_eq_getElem hj)).2
        simp only [idsB, hB, List.mem_cons]; exact .inr hk
    · cases he
  · cases he
    cases hv with
    | iref f hF hr hw => exact .box f (.inl hF) (fun j d hd => (hr j d hd).mono (fun b hb => .inl hb) (fun _ _ => rfl)) hw
  · cases he

/-! ### All that is given -/

def giveC (sto : Sto) : AV → R
  | .d x => .d x
  | .sl i c n z => (match sto[i]? with
    | some (some (.dat z' es)) => if c = 0 ∧ z = z' ∧ n = es.length then .own z es else .any
    | _ => .any)
  | .emp => .emp
  | _ => .any

def gidC (sto : Sto) : AV → List Nat
  | .sl i c n z => (match sto[i]? with
    | some (some (.dat z' es)) => if c = 0 ∧ z = z' ∧ n = es.length then [i] else []
    | _ => [])
  | _ => []

def fnIds (sto : Sto) : AV → List Nat
  | .fn _ caps => caps.flatMap (idsB sto)
  | _ => []

structure Use where
  rd : List Nat
  gv : List Nat
  fz : List Nat

mutual
def giveA (sto : Sto) : M → AV → Option (R × Use)
  | .r, x => (match x with
    | .emp => some (.emp, ⟨[], [], []⟩)
    | x => (deepA sto x).map fun d => (.d d, ⟨idsA x, [], []⟩))
  | .f, x => (match x with
    | .emp => some (.emp, ⟨[], [], []⟩)
    | x => (deepA sto x).map fun d => (.d d, ⟨[], [], idsA x⟩))
  | .o, x => (match x with
    | .sl i c n z => (match sto[i]? with
      | some (some (.dat z' es)) => if c = 0 ∧ z = z' ∧ n = es.length then some (.own z es, ⟨[], [i], []⟩) else none
      | some (some (.mix cs)) => if c = 0 ∧ z = 1 ∧ n = cs.length then some (.ownm (cs.map (giveC sto)), ⟨[], cs.flatMap (gidC sto) ++ [i], []⟩) else none
      | _ => none)
    | .emp => some (.emp, ⟨[], [], []⟩)
    | .d x => some (.d x, ⟨[], [], []⟩)
    | _ => none)
  | .b, x => (boxR sto x).map fun ds => (.box ds, ⟨idsB sto x, [], []⟩)
  | .bm, x => (match x with
    | .ref i 0 => (match sto[i]? with
      | some (some (.var cs)) => some (.boxm (cs.map .d), ⟨[], [i], []⟩)
      | some (some (.mix cs)) => some (.boxm (cs.map (giveC sto)), ⟨[], cs.flatMap (gidC sto) ++ [i], []⟩)
      | _ => none)
    | _ => none)
  | .a ms, x => (match x with
    | .agg xs => (giveL sto ms xs).map fun p => (.agg p.1, p.2)
    | _ => none)
  | .i m, x => (match x with
    | .is y v => (giveA sto m y).map fun p => (.is p.1 v, p.2)
    | _ => none)
  | .g g, x => some (.pfn g, ⟨fnIds sto x, [], []⟩)
def giveL (sto : Sto) : List M → List AV → Option (List R × Use)
  | [], [] => some ([], ⟨[], [], []⟩)
  | m :: ms, x :: xs => (giveA sto m x).bind fun p => (giveL sto ms xs).map fun q => (p.1 :: q.1, ⟨p.2.rd ++ q.2.rd, p.2.gv ++ q.2.gv, p.2.fz ++ q.2.fz⟩)
  | _, _ => none
end

def FnOK (P : Program) (sto : Sto) (x : AV) (g : List D → Value → Prop) : Prop :=
  match x with
  | .pfn g' => ∀ ds r, g ds r → g' ds r
  | .fn f caps => okF P f ∧ ∃ boxes : List (List D), caps.map (boxR sto) = boxes.map some ∧ ∀ ds r, g ds r → ∃ rs', Den P f (ds.map .d ++ boxes.map .box) rs' (.d (.v r))
  | _ => False

mutual
def FnsA (P : Program) (sto : Sto) : M → AV → Prop
  | .g g, x => FnOK P sto x g
  | .a ms, x => (match x with | .agg xs => FnsL P sto ms xs | _ => True)
  | .i m, x => (match x with | .is y _ => FnsA P sto m y | _ => True)
  | .r, _ => True
  | .f, _ => True
  | .o, _ => True
  | .b, _ => True
  | .bm, _ => True
def FnsL (P : Program) (sto : Sto) : List M → List AV → Prop
  | m :: ms, x :: xs => FnsA P sto m x ∧ FnsL P sto ms xs
  | _, _ => True
end

theorem ARs.boxes {w : World} {F : Nat → Prop} : ∀ (boxes : List (List D)) (us : List Value), us.length = boxes.length → (∀ j ds, boxes[j]? = some ds → AR P w F (.box ds) (us.getD j undef) []) → ARs P w F (boxes.map .box) us []
  | [], us, hl, _ => by
    have : us = [] := List.eq_nil_of_length_eq_zero (by simpa using hl)
    subst this; exact .nil
  | d :: r, [], hl, _ => by simp at hl
  | d :: r, u :: us, hl, h => by
    have := ARs.cons (h 0 d rfl) (ARs.boxes r us (by simpa using hl) (fun j d hd => by simpa using h (j + 1) d (by simpa using hd)))
    simpa using this

theorem ARs.append {w : World} {F : Nat → Prop} : ∀ {xs ys : List R} {us vs : List Value} {b1 b2 : List Nat}, ARs P w F xs us b1 → ARs P w F ys vs b2 → ARs P w F (xs ++ ys) (us ++ vs) (b1 ++ b2)
  | _, _, _, _, _, _, .nil, h => h
  | _, _, _, _, _, _, .cons h hs, k => by
    rw [List.append_assoc]; exact .cons h (ARs.append hs k)

theorem FnOK.pfn {sto : Sto} {loc : List Loc} {w : World} (h : SR P w0 G A sto loc w) {x : AV} {u : Value} {g : List D → Value → Prop} (hv : VR P w (Fre A w sto loc) loc x u) (hg : FnOK P sto x g) :
    PFN P w (Rds A w sto loc (fnIds sto x)) g u := by
  unfold FnOK at hg
  split at hg
  · rename_i g'
    cases hv with
    | pfn hp =>
      obtain ⟨f, caps, S, hu, hok, hS, hc⟩ := hp
      exact ⟨f, caps, S, hu, hok, fun b hb => ⟨.inl (hS b hb).1, (hS b hb).2⟩, fun w' h1 h2 ds r us hr => hc w' h1 h2 ds r us (hg _ _ hr)⟩
  · rename_i f caps
    obtain ⟨hok, boxes, hb, hd⟩ := hg
    cases hv with
    | fn us hs hx =>
      have hlen : boxes.length = caps.length := by simpa using (congrArg List.length hb).symm
      have hbox : ∀ j ds, boxes[j]? = some ds → AR P w (Rds A w sto loc (caps.flatMap (idsB sto))) (.box ds) (us.getD j undef) [] := fun j ds hds => by
        have hj : j < caps.length := by have := (List.getElem?_eq_some_iff.1 hds).1; omega
        have e : boxR sto caps[j] = some ds := by
          have := congrArg (·[j]?) hb
          simp only [List.getElem?_map, hds, List.getElem?_eq_getElem hj] at this
          simpa using this
        have := boxR_ok h (hx j _ (List.getElem?_eq_getElem hj)) e
        exact this.mono (Rds.sub (fun i hi => List.mem_flatMap.2 ⟨_, List.getElem_mem hj, hi⟩)) (fun _ _ => rfl) (fun _ hb => by simp at hb) (Nat.le_refl _)
      have hSz : ∀ b, Rds A w sto loc (caps.flatMap (idsB sto)) b → b < w.heap.size := fun b hb => by
        rcases hb with hb | ⟨i, B, m, _, h1, h2, rfl⟩
        · exact hb.1
        · exact h.lt ⟨i, B, m, h1, h2, rfl⟩
      refine ⟨f, us, _, rfl, hok, fun b hb => ⟨hb, hSz b hb⟩, fun w' h1 h2 ds r vs hr hl hv => ?_⟩
      obtain ⟨rs', hden⟩ := hd ds r hr
      have hds : ARs P w' (fun b => b < w'.heap.size) (ds.map .d) vs.toList [] := by
        have key : ∀ (l : List D) (us : List Value), us.length = l.length → (∀ j d, l[j]? = some d → RD w' (fun b => b < w'.heap.size) d (us.getD j undef)) → ARs P w' (fun b => b < w'.heap.size) (l.map .d) us [] := by
          intro l
          induction l with
          | nil =>
            intro us hl _
            have : us = [] := List.eq_nil_of_length_eq_zero (by simpa using hl)
            subst this; exact .nil
          | cons d r ih =>
            intro us hl h
            cases us with
            | nil => simp at hl
            | cons u us =>
              have := ARs.cons (AR.d (P := P) (h 0 d rfl)) (ih us (by simpa using hl) (fun j d hd => by simpa using h (j + 1) d (by simpa using hd)))
              simpa using this
        exact key ds vs.toList (by simpa using hl) (fun j d hd => by simpa using hv j d hd)
      have hbs : ARs P w' (fun b => b < w'.heap.size) (boxes.map .box) us.toList [] :=
        ARs.boxes boxes us.toList (by simp; omega) (fun j ds hds => by
          have := (hbox j ds hds).mono (F' := fun b => b < w'.heap.size) (fun b hb => Nat.lt_of_lt_of_le (hSz b hb) h2) (fun b hb => h1 b hb) (fun _ hb => by simp at hb) h2
          simpa using this)
      have hall := ARs.append hds hbs
      have hcall := hden.2 w' (fun b => b < w'.heap.size) (vs.toList ++ us.toList) [] hall List.nodup_nil (fun b hb => by simp at hb) (fun b hb => ⟨hb, by simp⟩)
      have e : (vs.toList ++ us.toList).toArray = vs ++ us := by simp
      rw [e] at hcall
      refine hcall.mono fun e w'' hR => ?_
      obtain ⟨v, bs', rfl, hk, _, _, har⟩ := hR
      refine ⟨?_, hk.mono (fun _ _ hb => by simp at hb)⟩
      cases har with
      | cons h1 _ =>
        cases h1 with
        | d hd => rw [hd.v_inv.1]
  · exact hg.elim

end
end Go.Proofs.Ytccfejnckmokkaa.Va

/-! A call by its contract. Condition: none. -/
namespace Go.Proofs.Ytccfejnckmokkaa.Va
open Go

mutual
def lfD : D → Bool
  | .v _ => true
  | .agg xs => lfDs xs
  | .lst _ _ => false
def lfDs : List D → Bool
  | [] => true
  | d :: r => lfD d && lfDs r
end
mutual
def lfR : R → Bool
  | .d x => lfD x
  | .own _ es => es.all lfD
  | .emp => true
  | .agg xs => lfRs xs
  | .tup xs => lfRs xs
  | .box _ => false
  | .boxm xs => lfRs xs
  | .ownm xs => lfRs xs
  | .pfn _ => false
  | .is x _ => lfR x
  | .any => true
def lfRs : List R → Bool
  | [] => true
  | x :: r => lfR x && lfRs r
end

theorem lfDs_all : ∀ (l : List D), lfDs l = l.all lfD
  | [] => rfl
  | d :: r => by simp [lfDs, lfDs_all r]

section
variable {P : Program} {w0 : World} {G A : Nat → Prop} {gh : List Value} {N : Nat}

theorem RC.free {w : World} {F F' : Nat → Prop} {d : D} {u : Value} (h : RC w F d u) (hl : lfD d = true) : RC w F' d u := by
  cases h with
  | v h => exact .v h
  | lst => simp [lfD] at hl

theorem RD.free {w : World} {F F' : Nat → Prop} {d : D} {u : Value} (h : RD w F d u) (hl : lfD d = true) : RD w F' d u := by
  cases d with
  | agg xs =>
    obtain ⟨us, hu, hs, hc⟩ := h
    refine ⟨us, hu, hs, fun j d hd => (hc j d hd).free ?_⟩
    rw [lfD, lfDs_all] at hl
    exact (List.all_eq_true.1 hl) d (List.mem_of_getElem? hd)
  | v x => exact RC.free h hl
  | lst z es => simp [lfD] at hl

mutual
theorem AR.free {P : Program} {w : World} {F F' : Nat → Prop} {r : R} {u : Value} {bs : List Nat} (h : AR P w F r u bs) (hl : lfR r = true) : AR P w F' r u bs := by
  cases h with
  | d h => exact .d (h.free (by simpa [lfR] using hl))
  | own f hb hn hc ho hz hr hf =>
    refine .own f hb hn hc ho hz (fun j d hd => (hr j d hd).free ?_) hf
    have hd' := List.mem_of_getElem? hd
    obtain ⟨e, he, hde⟩ := List.mem_flatMap.1 hd'
    have h1 := (List.all_eq_true.1 (by simpa [lfR] using hl)) e he
    cases e with
    | agg xs => rw [lfD, lfDs_all] at h1; exact (List.all_eq_true.1 h1) d hde
    | v x => simp [D.cells] at hde; subst hde; rfl
    | lst z es => simp [lfD] at h1
  | emp => exact .emp
  | agg h h1 => exact .agg (ARs.free h (by simpa [lfR] using hl)) h1
  | tup h => exact .tup (ARs.free h (by simpa [lfR] using hl))
  | box => simp [lfR] at hl
  | boxm hb h h1 ho hf => exact .boxm hb (ARs.free h (by simpa [lfR] using hl)) h1 ho hf
  | ownm hb h h1 hn hc ho hf => exact .ownm hb (ARs.free h (by simpa [lfR] using hl)) h1 hn hc ho hf
  | pfn => simp [lfR] at hl
  | is h e => exact .is (AR.free h (by simpa [lfR] using hl)) e
  | any => exact .any
theorem ARs.free {P : Program} {w : World} {F F' : Nat → Prop} {r : List R} {u : List Value} {bs : List Nat} (h : ARs P w F r u bs) (hl : lfRs r = true) : ARs P w F' r u bs := by
  cases h with
  | nil => exact .nil
  | cons h hs =>
    simp only [lfRs, Bool.and_eq_true] at hl
    exact .cons (h.free hl.1) (hs.free hl.2)
end

/-! ### What is given is what the contract asks -/

theorem AR.dmono {w : World} {F F' : Nat → Prop} {r : R} {u : Value} {bs : List Nat} (h : AR P w F r u bs) (h1 : ∀ b, F b → F' b) : AR P w F' r u bs :=
  h.mono h1 (fun _ _ => rfl) (fun _ _ => rfl) (Nat.le_refl _)
theorem ARs.dmono {w : World} {F F' : Nat → Prop} {r : List R} {u : List Value} {bs : List Nat} (h : ARs P w F r u bs) (h1 : ∀ b, F b → F' b) : ARs P w F' r u bs :=
  h.mono h1 (fun _ _ => rfl) (fun _ _ => rfl) (Nat.le_refl _)

def Bks (sto : Sto) (loc : List Loc) (l bs : List Nat) : Prop :=
  l.map (fun i => (loc[i]?).map (·.b)) = bs.map some ∧ ∀ i, i ∈ l → ∃ B, sto[i]? = some (some B)

theorem Bks.append {sto : Sto} {loc : List Loc} {l1 l2 b1 b2 : List Nat} (h : Bks sto loc l1 b1) (k : Bks sto loc l2 b2) : Bks sto loc (l1 ++ l2) (b1 ++ b2) :=
  ⟨by rw [List.map_append, List.map_append, h.1, k.1], fun i hi => (List.mem_append.1 hi).elim (h.2 i) (k.2 i)⟩

theorem own_ok {sto : Sto} {loc : List Loc} {w : World} (h : SR P w0 G A sto loc w) {i n z : Nat} {es : List D} {u : Value} (hv : VR P w (Fre A w sto loc) loc (.sl i 0 n z) u)
    (hB : sto[i]? = some (some (.dat z es))) (hn : n = es.length) : ∃ b, AR P w (Fre A w sto loc) (.own z es) u [b] ∧ Bks sto loc [i] [b] := by
  obtain ⟨l, x, cap, cs, t, f, hl, rfl, hx, hle, hcap, hsz, ha1, ha2, hzz, ha3, ha4, hr⟩ := view_ok h hv hB
  subst hn
  refine ⟨l.b, AR.own f ha1 hle hcap ?_ hzz hr (fun j hj => ?_), by simp [hl], fun i' hi' => by simp at hi'; subst hi'; exact ⟨_, hB⟩⟩
  · by_cases e : cap = 0
    · exact .inr e
    · have := hx.resolve_right e
      exact .inl (by omega)
  · have hn0 : cap ≠ 0 := fun e => by
      have := List.eq_nil_of_length_eq_zero (show es.length = 0 by omega)
      rw [this] at hj; simp [flat] at hj
    have hx' := hx.resolve_right hn0
    subst hx'
    exact ha4 j hj

theorem giveC_ok {sto : Sto} {loc : List Loc} {w : World} (h : SR P w0 G A sto loc w) {x : AV} {u : Value} (hv : VR P w (Fre A w sto loc) loc x u) :
    ∃ bs, AR P w (Fre A w sto loc) (giveC sto x) u bs ∧ Bks sto loc (gidC sto x) bs := by
  have any : ∀ bs, Bks sto loc [] bs → bs = [] := fun bs h => by have := congrArg List.length h.1; simpa using this.symm
  have nil : Bks sto loc [] [] := ⟨rfl, fun i hi => by simp at hi⟩
  cases x with
  | d x => cases hv with
    | d hd => exact ⟨[], .d hd, nil⟩
  | emp => cases hv with
    | emp => exact ⟨[], .emp, nil⟩
  | sl i c n z =>
    simp only [giveC, gidC]
    split
    · rename_i z' es hB
      split
      · rename_i hh
        obtain ⟨rfl, rfl, hn⟩ := hh
        obtain ⟨b, h1, h2⟩ := own_ok h hv hB hn
        exact ⟨[b], h1, h2⟩
      · exact ⟨[], .any, nil⟩
    · exact ⟨[], .any, nil⟩
  | _ => exact ⟨[], .any, nil⟩

theorem giveCs_ok {sto : Sto} {loc : List Loc} {w : World} (h : SR P w0 G A sto loc w) : ∀ (cs : List AV) (us : List Value), us.length = cs.length →
    (∀ j x, cs[j]? = some x → VR P w (Fre A w sto loc) loc x (us.getD j undef)) → ∃ bs, ARs P w (Fre A w sto loc) (cs.map (giveC sto)) us bs ∧ Bks sto loc (cs.flatMap (gidC sto)) bs
  | [], us, hl, _ => by
    have : us = [] := List.eq_nil_of_length_eq_zero (by simpa using hl)
    subst this; exact ⟨[], .nil, rfl, fun i hi => by simp at hi⟩
  | x :: r, [], hl, _ => by simp at hl
  | x :: r, u :: us, hl, hv => by
    obtain ⟨b1, a1, a2⟩ := giveC_ok h (hv 0 x rfl)
    obtain ⟨b2, c1, c2⟩ := giveCs_ok h r us (by simpa using hl) (fun j y hy => by simpa using hv (j + 1) y (by simpa using hy))
    exact ⟨b1 ++ b2, .cons a1 c1, a2.append c2⟩

mutual
theorem giveA_ok {sto : Sto} {loc : List Loc} {w : World} (h : SR P w0 G A sto loc w) {m : M} {x : AV} {u : Value} {r : R} {use : Use} (hv : VR P w (Fre A w sto loc) loc x u)
    (he : giveA sto m x = some (r, use)) (hg : FnsA P sto m x) : ∃ bs, AR P w (Rds A w sto loc (use.rd ++ use.fz)) r u bs ∧ Bks sto loc use.gv bs := by
  have nil : Bks sto loc [] [] := ⟨rfl, fun i hi => by simp at hi⟩
  cases m with
  | r =>
    simp only [giveA] at he
    split at he
    · cases he
      cases hv with
      | emp => exact ⟨[], .emp, nil⟩
    · obtain ⟨d, hd, he⟩ := Option.map_eq_some_iff.1 he
      cases he
      exact ⟨[], .d ((deepA_ok h hv hd).dmono (Rds.sub (fun i hi => by simpa using hi))), nil⟩
  | f =>
    simp only [giveA] at he
    split at he
    · cases he
      cases hv with
      | emp => exact ⟨[], .emp, nil⟩
    · obtain ⟨d, hd, he⟩ := Option.map_eq_some_iff.1 he
      cases he
      exact ⟨[], .d ((deepA_ok h hv hd).dmono (Rds.sub (fun i hi => by simpa using hi))), nil⟩
  | o =>
    simp only [giveA] at he
    split at he
    · split at he
      · rename_i z' es hB
        split at he
        · rename_i hh
          cases he
          obtain ⟨rfl, rfl, hn⟩ := hh
          obtain ⟨b, h1, h2⟩ := own_ok h hv hB hn
          exact ⟨[b], h1.dmono (fun b hb => .inl hb), h2⟩
        · cases he
      · rename_i cs hB
        split at he
        · rename_i hh
          cases he
          obtain ⟨rfl, rfl, rfl⟩ := hh
          cases hv with
          | @sl _ _ _ _ cap x0 l hl hx hle hcap hsz =>
            obtain ⟨f, ⟨cc, t, ha1, ha2, ha3, ha4⟩, hr⟩ := h.blk _ _ l hB hl
            obtain ⟨bs, a1, a2⟩ := giveCs_ok h cs ((List.range cs.length).map f) (by simp) (fun j x hx => by
              have e : ((List.range cs.length).map f).getD j undef = f j := by simp [(List.getElem?_eq_some_iff.1 hx).1]
              rw [e]; exact (hr j x hx).1)
            have hone : ∀ u, u ∈ (List.range cs.length).map f → u.oneCell' = true := fun u hu => by
              obtain ⟨j, hj, rfl⟩ := List.mem_map.1 hu
              have hj' := List.mem_range.1 hj
              exact (hr j _ (List.getElem?_eq_getElem hj')).2
            have hlen : ((List.range cs.length).map f).length = cs.length := by simp
            have := AR.ownm (o := x0) (cap := cap) ha1 a1 hone (by rw [hlen]; exact hle) hcap
              (by
                by_cases e : cap = 0
                · exact .inr e
                · have := hx.resolve_right e
                  exact .inl (by omega))
              (fun j u hu => by
                rw [List.getElem?_map] at hu
                obtain ⟨m, hm, rfl⟩ := Option.map_eq_some_iff.1 hu
                obtain ⟨hlt, rfl⟩ := List.getElem?_eq_some_iff.1 hm
                simp at hlt ⊢
                have hne : cap ≠ 0 := fun e => by omega
                have := hx.resolve_right hne
                simp only [Nat.add_zero] at this
                subst this
                exact ha4 j hlt)
            rw [hlen] at this
            exact ⟨bs ++ [l.b], this.dmono (fun b hb => .inl hb), a2.append ⟨by simp [hl], fun k hk => by simp at hk; subst hk; exact ⟨_, hB⟩⟩⟩
        · cases he
      · cases he
    · cases he
      cases hv with
      | emp => exact ⟨[], .emp, nil⟩
    · cases he
      cases hv with
      | d hd => exact ⟨[], .d (hd.dmono (fun b hb => .inl hb)), nil⟩
    · cases he
  | b =>
    simp only [giveA] at he
    obtain ⟨ds, hd, he⟩ := Option.map_eq_some_iff.1 he
    cases he
    exact ⟨[], (boxR_ok h hv hd).dmono (Rds.sub (fun i hi => by simpa using hi)), nil⟩
  | bm =>
    simp only [giveA] at he
    split at he
    · rename_i i
      split at he
      · rename_i cs hB
        cases he
        cases hv with
        | @ref _ _ l hl =>
          obtain ⟨f, ⟨cc, t, ha1, ha2, ha3, ha4⟩, hr⟩ := h.blk i _ l hB hl
          have hars : ARs P w (Fre A w sto loc) (cs.map .d) ((List.range cs.length).map f) [] := ARs.ofD cs _ (by simp) (fun j d hd => by
            have hj := (List.getElem?_eq_some_iff.1 hd).1
            have e : ((List.range cs.length).map f).getD j undef = f j := by simp [hj]
            rw [e]; exact hr j d hd)
          have hone : ∀ u, u ∈ (List.range cs.length).map f → u.oneCell' = true := fun u hu => by
            obtain ⟨j, hj, rfl⟩ := List.mem_map.1 hu
            have hj' := List.mem_range.1 hj
            exact (hr j _ (List.getElem?_eq_getElem hj')).one
          have := AR.boxm ha1 hars hone (o := l.o) (by simp only [List.length_map, List.length_range, ha2]; exact ha3) (fun j u hu => by
            rw [List.getElem?_map] at hu
            obtain ⟨m, hm, rfl⟩ := Option.map_eq_some_iff.1 hu
            obtain ⟨hlt, rfl⟩ := List.getElem?_eq_some_iff.1 hm
            simp at hlt ⊢
            exact ha4 j hlt)
          exact ⟨[] ++ [l.b], (by simpa using this.dmono (fun b hb => .inl hb)), by simp [hl], fun k hk => by simp at hk; subst hk; exact ⟨_, hB⟩⟩
      · rename_i cs hB
        cases he
        cases hv with
        | @ref _ _ l hl =>
          obtain ⟨f, ⟨cc, t, ha1, ha2, ha3, ha4⟩, hr⟩ := h.blk i _ l hB hl
          obtain ⟨bs, a1, a2⟩ := giveCs_ok h cs ((List.range cs.length).map f) (by simp) (fun j x hx => by
            have e : ((List.range cs.length).map f).getD j undef = f j := by simp [(List.getElem?_eq_some_iff.1 hx).1]
            rw [e]; exact (hr j x hx).1)
          have hone : ∀ u, u ∈ (List.range cs.length).map f → u.oneCell' = true := fun u hu => by
            obtain ⟨j, hj, rfl⟩ := List.mem_map.1 hu
            have hj' := List.mem_range.1 hj
            exact (hr j _ (List.getElem?_eq_getElem hj')).2
          have := AR.boxm ha1 a1 hone (o := l.o) (by simp only [List.length_map, List.length_range, ha2]; exact ha3) (fun j u hu => by
            rw [List.getElem?_map] at hu
            obtain ⟨m, hm, rfl⟩ := Option.map_eq_some_iff.1 hu
            obtain ⟨hlt, rfl⟩ := List.getElem?_eq_some_iff.1 hm
            simp at hlt ⊢
            exact ha4 j hlt)
          exact ⟨bs ++ [l.b], (by simpa using this.dmono (fun b hb => .inl hb)), a2.append ⟨by simp [hl], fun k hk => by simp at hk; subst hk; exact ⟨_, hB⟩⟩⟩
      · cases he
    · cases he
  | a ms =>
    simp only [giveA] at he
    split at he
    · rename_i xs
      obtain ⟨⟨rs, use'⟩, hl, he⟩ := Option.map_eq_some_iff.1 he
      cases he
      cases hv with
      | agg us hsz ho hx =>
        obtain ⟨bs, a1, a2⟩ := giveL_ok h us.toList (by simpa using hsz) (fun j x hj => by simpa using hx j x hj) hl (by simpa [FnsA] using hg)
        refine ⟨bs, ?_, a2⟩
        have := AR.agg a1 (fun u hu => by
          obtain ⟨j, hj, rfl⟩ := List.mem_iff_getElem.1 hu
          have := ho j
          simp at hj
          simpa [hj, Nat.not_le.2 hj] using this)
        simpa using this
    · cases he
  | i m =>
    simp only [giveA] at he
    split at he
    · rename_i y v
      obtain ⟨⟨r0, use'⟩, hl, he⟩ := Option.map_eq_some_iff.1 he
      cases he
      cases hv with
      | is h1 e =>
        obtain ⟨bs, a1, a2⟩ := giveA_ok h h1 hl (by simpa [FnsA] using hg)
        exact ⟨bs, .is a1 e, a2⟩
    · cases he
  | g g =>
    simp only [giveA] at he
    cases he
    have := FnOK.pfn h hv (by simpa [FnsA] using hg)
    exact ⟨[], .pfn (this.mono (Rds.sub (fun i hi => by simpa using hi)) (fun _ _ => rfl) (Nat.le_refl _)), nil⟩
theorem giveL_ok {sto : Sto} {loc : List Loc} {w : World} (h : SR P w0 G A sto loc w) {ms : List M} {xs : List AV} {rs : List R} {use : Use} (us : List Value) (hl : us.length = xs.length)
    (hv : ∀ j x, xs[j]? = some x → VR P w (Fre A w sto loc) loc x (us.getD j undef)) (he : giveL sto ms xs = some (rs, use)) (hg : FnsL P sto ms xs) :
    ∃ bs, ARs P w (Rds A w sto loc (use.rd ++ use.fz)) rs us bs ∧ Bks sto loc use.gv bs := by
  cases ms with
  | nil =>
    cases xs with
    | nil =>
      simp only [giveL] at he
      cases he
      have : us = [] := List.eq_nil_of_length_eq_zero (by simpa using hl)
      subst this
      exact ⟨[], .nil, rfl, fun i hi => by simp at hi⟩
    | cons => simp [giveL] at he
  | cons m ms =>
    cases xs with
    | nil => simp [giveL] at he
    | cons x xs =>
      cases us with
      | nil => simp at hl
      | cons u us =>
        simp only [giveL] at he
        obtain ⟨⟨r, u1⟩, h1, he⟩ := Option.bind_eq_some_iff.1 he
        obtain ⟨⟨rs', u2⟩, h2, he⟩ := Option.map_eq_some_iff.1 he
        cases he
        simp only [FnsL] at hg
        obtain ⟨b1, a1, a2⟩ := giveA_ok h (hv 0 x rfl) h1 hg.1
        obtain ⟨b2, c1, c2⟩ := giveL_ok h us (by simpa using hl) (fun j y hy => by simpa using hv (j + 1) y (by simpa using hy)) h2 hg.2
        refine ⟨b1 ++ b2, .cons (a1.dmono (Rds.sub (fun i hi => ?_))) (c1.dmono (Rds.sub (fun i hi => ?_))), a2.append c2⟩
        · simp only [List.mem_append] at hi ⊢
          rcases hi with hi | hi
          · exact .inl (.inl hi)
          · exact .inr (.inl hi)
        · simp only [List.mem_append] at hi ⊢
          rcases hi with hi | hi
          · exact .inl (.inr hi)
          · exact .inr (.inr hi)
end

end
end Go.Proofs.Ytccfejnckmokkaa.Va

/-! A call by its contract: the law. Condition: none. -/
namespace Go.Proofs.Ytccfejnckmokkaa.Va
open Go

def noOwn : R → Bool
  | .d _ | .emp | .box _ | .pfn _ | .any => true
  | _ => false

def isDead (sto : Sto) (i : Nat) : Bool :=
  match sto[i]? with
  | some none => true
  | _ => false

mutual
def updA : M → AV → R → Sto → Option Sto
  | .o, x, r, s => (match x, r with
    | .sl i _ n z, .own z' es' => if z' = z ∧ es'.length = n ∧ isDead s i = true then some (s.set i (some (.dat z es'))) else none
    | .sl i _ n z, .ownm xs' => if z = 1 ∧ xs'.length = n ∧ isDead (entAs xs' s).2 i = true then some ((entAs xs' s).2.set i (some (.mix (entAs xs' s).1))) else none
    | _, r => if noOwn r then some s else none)
  | .bm, x, r, s => (match x, r with
    | .ref i 0, .boxm xs' => if isDead (entAs xs' s).2 i = true then some ((entAs xs' s).2.set i (some (mkBlk (entAs xs' s).1))) else none
    | _, r => if noOwn r then some s else none)
  | .a ms, x, r, s => (match x, r with
    | .agg xs, .agg rs => updL ms xs rs s
    | _, r => if noOwn r then some s else none)
  | .r, _, r, s => if noOwn r then some s else none
  | .f, _, r, s => if noOwn r then some s else none
  | .b, _, r, s => if noOwn r then some s else none
  | .i m, x, r, s => (match x with
    | .is y _ => updA m y r s
    | _ => if noOwn r then some s else none)
  | .g _, _, r, s => if noOwn r then some s else none
def updL : List M → List AV → List R → Sto → Option Sto
  | [], _, rs, s => (match rs with | [] => some s | _ => none)
  | m :: ms, xs, rs, s => (match xs, rs with
    | x :: xs, r :: rs => (updA m x r s).bind (updL ms xs rs)
    | _, _ => none)
end

def killL : List Nat → Sto → Sto
  | [], s => s
  | i :: r, s => killL r (s.set i none)

def Tch (T : Nat → Prop) (sto : Sto) (loc : List Loc) (b : Nat) : Prop := ∃ (i : Nat) (B : Blk) (l : Loc), T i ∧ sto[i]? = some (some B) ∧ loc[i]? = some l ∧ l.b = b

def postC (sto : Sto) (ms : List M) (xs : List AV) (use : Use) (rs' : List R) (res : R) : Option (AV × Sto) :=
  let p := entA res (killL (use.gv ++ use.fz) sto)
  (updL ms xs rs' p.2).map fun s => (p.1, s)

def wpDenG (P : Program) (T : Nat → Prop) (sto : Sto) (f : FuncId) (n : Nat) (xs : List AV) (K : AV → Sto → Prop) : Prop :=
  ∃ (ms : List M) (rs : List R) (use : Use) (rs' : List R) (res : R) (x : AV) (s' : Sto), giveL sto ms xs = some (rs, use) ∧ (∀ i, i ∈ use.gv → T i) ∧ use.gv.Nodup ∧ (∀ i, i ∈ use.rd ++ use.fz → i ∉ use.gv) ∧
    (use.rd = [] ∨ (lfR res && lfRs rs') = true) ∧ FnsL P sto ms xs ∧ DenG P f n rs rs' res ∧ postC sto ms xs use rs' res = some (x, s') ∧ K x s'

def rlCaps (ρ : Nat → Value) : List AV → Option (List Value)
  | [] => some []
  | .ref i 0 :: r => (rlCaps ρ r).map (ρ i :: ·)
  | _ :: _ => none
def rlV (ρ : Nat → Value) : AV → AV
  | .ref i 0 => .is (.ref i 0) (ρ i)
  | .fn f caps => (match rlCaps ρ caps with | some vs => .d (.v (.func (.func f) #[] vs.toArray)) | none => .fn f caps)
  | x => x
def rlS1 (ρ : Nat → Value) (i : Nat) (sto : Sto) : Sto :=
  match sto[i]? with
  | some (some (.mix [x])) => (match rlV ρ x with | .d d => sto.set i (some (.var [d])) | _ => sto)
  | _ => sto
def rlS (ρ : Nat → Value) : List Nat → Sto → Sto
  | [], sto => sto
  | i :: r, sto => rlS ρ r (rlS1 ρ i sto)
def isRefs : List AV → Bool
  | [] => true
  | .ref _ 0 :: r => isRefs r
  | _ :: _ => false

def Knows (tm : List (Nat × AV)) (ρ : Nat → Value) : Prop := ∀ (k i : Nat) (g : Value), (k, AV.is (.ref i 0) g) ∈ tm → ρ i = g

def wpDen (P : Program) (T : Nat → Prop) (sto : Sto) (tm : List (Nat × AV)) (f : FuncId) (xs : List AV) (K : AV → Sto → Prop) : Prop :=
  wpDenG P T sto f xs.length xs K ∨
  ∃ (I : List Nat) (ys : List AV) (zs : List Nat), isRefs ys = true ∧ (∀ i c, AV.ref i c ∈ ys → i < sto.length) ∧ ∀ ρ : Nat → Value, Knows tm ρ → wpDenG P T (rlS ρ I sto) f xs.length ((xs ++ ys).map (rlV ρ) ++ zs.map (lk tm)) K

section
variable {P : Program} {w0 : World} {G A : Nat → Prop} {gh : List Value} {N : Nat}

theorem noOwn_ok {w : World} {F : Nat → Prop} {r : R} {u : Value} {bs : List Nat} (h : AR P w F r u bs) (hn : noOwn r = true) : bs = [] := by
  cases h <;> first | rfl | cases hn

theorem killL_ok : ∀ (l : List Nat) (s : Sto), Les (killL l s) s ∧ ∀ i, i ∈ l → ∀ B, (killL l s)[i]? ≠ some (some B)
  | [], s => ⟨Les.refl s, fun i hi => by simp at hi⟩
  | j :: r, s => by
    obtain ⟨h1, h2⟩ := killL_ok r (s.set j none)
    refine ⟨h1.trans (Les.kill s j), fun i hi B hB => ?_⟩
    rcases List.mem_cons.1 hi with rfl | hi
    · rcases getElem?_set_some (h1.2 _ _ hB) with ⟨_, e, _⟩ | ⟨e, _⟩
      · cases e
      · exact e rfl
    · exact h2 i hi B hB

theorem isDead_ok {s : Sto} {i : Nat} (h : isDead s i = true) : i < s.length ∧ ∀ B, s[i]? ≠ some (some B) := by
  unfold isDead at h
  split at h
  · rename_i e
    exact ⟨(List.getElem?_eq_some_iff.1 e).1, fun B hB => by rw [e] at hB; cases hB⟩
  · cases h

theorem Ad.set {w : World} {F : Nat → Prop} {loc : List Loc} {s : Sto} {i : Nat} {l : Loc} {B : Blk} {f : Nat → Value} (hl : loc.length = s.length) (hi : loc[i]? = some l) (hd : ∀ C, s[i]? ≠ some (some C))
    (hat : At w l B.len f) (hr : ∀ more : List Loc, RB P w F (loc ++ more) B f) : Ad P w F loc s (s.set i (some B)) [l.b] [] [i] := by
  have hlt : i < s.length := by rw [← hl]; exact (List.getElem?_eq_some_iff.1 hi).1
  refine ⟨hl, by simp, by simp [hi], fun j hj C hC => ?_, fun j C hC => ?_, fun j hj C hC => ?_, fun more j hj C m hC hm => ?_⟩
  · rcases getElem?_set_some hC with ⟨rfl, _, _⟩ | ⟨_, e⟩
    · exact absurd (by simp) hj
    · exact e
  · by_cases e : i = j
    · subst e; exact absurd hC (hd C)
    · rw [List.getElem?_set_ne e]; exact hC
  · simp at hj; subst hj; exact hd C hC
  · simp at hj; subst hj
    rw [List.getElem?_set_self hlt] at hC
    cases hC
    simp only [List.append_nil] at hm
    rw [List.getElem?_append_left (List.getElem?_eq_some_iff.1 hi).1, hi] at hm
    cases hm
    exact ⟨f, hat, by simpa using hr more⟩

theorem mkBlk_len (xs : List AV) : (mkBlk xs).len = xs.length := by
  unfold mkBlk
  split
  · rename_i ds hd; have := congrArg List.length (allD_ok hd); simp at this; simp [Blk.len]; omega
  · simp [Blk.len]

theorem mkBlk_rb {w : World} {F : Nat → Prop} {loc : List Loc} {xs : List AV} {f : Nat → Value} (hv : ∀ j y, xs[j]? = some y → VR P w F loc y (f j) ∧ (f j).oneCell' = true) : RB P w F loc (mkBlk xs) f := by
  unfold mkBlk
  split
  · rename_i ds hd
    intro j d hj
    have := hv j (.d d) (by rw [allD_ok hd]; simp [hj])
    exact this.1.rc this.2
  · exact hv

def Was (P : Program) (A : Nat → Prop) (w w' : World) (sto : Sto) (loc : List Loc) : Prop :=
  ∀ (i : Nat) (l : Loc), loc[i]? = some l → (∃ B, sto[i]? = some (some B)) → bsz w' l.b = l.size ∧ l.o ≤ l.size

mutual
theorem updA_ok {sto : Sto} {loc more : List Loc} {w w' : World} {F0 F : Nat → Prop} (hw : Was P A w w' sto loc) {m : M} {x : AV} {u : Value} {r0 : R} {use : Use} {r : R} {bs : List Nat} {s s' : Sto}
    (hv : VR P w F0 loc x u) (he : giveA sto m x = some (r0, use)) (har : AR P w' F r u bs) (hu : updA m x r s = some s') (hl : (loc ++ more).length = s.length) :
    ∃ ls ids, Ad P w' F (loc ++ more) s s' bs ls ids := by
  have plain : noOwn r = true → s' = s → ∃ ls ids, Ad P w' F (loc ++ more) s s' bs ls ids := fun h1 h2 => by
    subst h2
    rw [noOwn_ok har h1]
    exact ⟨[], [], Ad.refl hl⟩
  have plain' : (if noOwn r then some s else none) = some s' → ∃ ls ids, Ad P w' F (loc ++ more) s s' bs ls ids := fun h => by
    split at h
    · rename_i h1; cases h; exact plain h1 rfl
    · cases h
  cases m with
  | r => exact plain' (by simpa [updA] using hu)
  | f => exact plain' (by simpa [updA] using hu)
  | b => exact plain' (by simpa [updA] using hu)
  | g g => exact plain' (by simpa [updA] using hu)
  | o =>
    simp only [updA] at hu
    split at hu
    · rename_i i c n z z' es'
      split at hu
      · rename_i hh
        obtain ⟨rfl, hn, hdd⟩ := hh
        cases hu
        obtain ⟨hlt, hdead⟩ := isDead_ok hdd
        have hc : c = 0 ∧ ∃ B, sto[i]? = some (some B) := by
          simp only [giveA] at he
          split at he
          · rename_i z2 es2 hB
            split at he
            · rename_i hh; exact ⟨hh.1, _, hB⟩
            · cases he
          · rename_i cs2 hB
            split at he
            · rename_i hh; exact ⟨hh.1, _, hB⟩
            · cases he
          · cases he
        obtain ⟨rfl, hal⟩ := hc
        cases hv with
        | @sl _ _ _ _ cap x0 l hl' hx hle hcap hsz =>
          cases har with
          | @own _ _ b o cap' cs t f hb hn' hc' ho hz hr hf =>
            obtain ⟨w1, w2⟩ := hw i l hl' hal
            have hsize : cs.size = l.size := by
              have : bsz w' l.b = cs.size := by simp [bsz, hb]
              omega
            have hl2 : (loc ++ more)[i]? = some l := by rw [List.getElem?_append_left (List.getElem?_eq_some_iff.1 hl').1]; exact hl'
            have hfl : (flat es').length = es'.length * z' := flat_length hz
            refine ⟨[], [i], Ad.set hl hl2 hdead ⟨cs, t, hb, hsize, ?_, fun j hj => ?_⟩ (fun _ => ⟨hz, hr⟩)⟩
            · show l.o + (flat es').length ≤ l.size
              have : es'.length * z' ≤ cap * z' := Nat.mul_le_mul_right _ hle
              omega
            · have hj' : j < (flat es').length := hj
              have h0 : cap ≠ 0 := fun e => by
                have : es'.length = 0 := by omega
                rw [hfl, this] at hj'; simp at hj'
              have := hx.resolve_right h0
              simp only [Nat.add_zero] at this
              subst this
              exact hf j hj'
      · cases hu
    · rename_i i c n z xs'
      split at hu
      · rename_i hh
        obtain ⟨rfl, hn, hdd⟩ := hh
        cases hu
        obtain ⟨hlt, hdead⟩ := isDead_ok hdd
        have hc : c = 0 ∧ ∃ B, sto[i]? = some (some B) := by
          simp only [giveA] at he
          split at he
          · rename_i z2 es2 hB
            split at he
            · rename_i hh; exact ⟨hh.1, _, hB⟩
            · cases he
          · rename_i cs2 hB
            split at he
            · rename_i hh; exact ⟨hh.1, _, hB⟩
            · cases he
          · cases he
        obtain ⟨rfl, hal⟩ := hc
        cases hv with
        | @sl _ _ _ _ cap x0 l hl' hx hle hcap hsz =>
          cases har with
          | @ownm _ us bs' b o cap' cs t hb hars h1 hn' hc' ho hf =>
            obtain ⟨w1, w2⟩ := hw i l hl' hal
            have hsize : cs.size = l.size := by
              have : bsz w' l.b = cs.size := by simp [bsz, hb]
              omega
            obtain ⟨ls, n1, n2, n3⟩ := entAs_ok hars s
            have hul := hars.length
            have a1 := n1.ad hl
            have hl2 : ((loc ++ more) ++ ls)[i]? = some l := by
              rw [List.append_assoc, List.getElem?_append_left (List.getElem?_eq_some_iff.1 hl').1]; exact hl'
            have hone : ∀ j, j < us.length → (us.getD j undef).oneCell' = true := fun j hj => by
              have : us.getD j undef = us[j] := by simp [hj]
              rw [this]; exact h1 _ (List.getElem_mem hj)
            have a2 := Ad.set (P := P) (w := w') (F := F) (loc := (loc ++ more) ++ ls) (s := (entAs xs' s).2) (i := i) (l := l) (B := .mix (entAs xs' s).1) (f := fun j => us.getD j undef)
              (by rw [List.length_append, hl, n1.len]) hl2 hdead
              ⟨cs, t, hb, hsize, by show l.o + (entAs xs' s).1.length ≤ l.size; omega, fun j hj => by
                have hj' : j < us.length := by rw [← n2]; exact hj
                have := hf j us[j] (List.getElem?_eq_getElem hj')
                have hne : cap ≠ 0 := fun e => by omega
                have hx' := hx.resolve_right hne
                simp only [Nat.add_zero] at hx'
                subst hx'
                rw [this]; simp [hj']⟩
              (fun mm j y hy => ⟨by simpa using n3 (loc ++ more) mm hl j y hy, hone j (by rw [← n2]; exact (List.getElem?_eq_some_iff.1 hy).1)⟩)
            exact ⟨ls ++ [], _, a1.trans a2⟩
      · cases hu
    · exact plain' hu
  | bm =>
    simp only [updA] at hu
    split at hu
    · rename_i i xs'
      split at hu
      · rename_i hdd
        cases hu
        obtain ⟨hlt, hdead⟩ := isDead_ok hdd
        have hal : ∃ B, sto[i]? = some (some B) := by
          simp only [giveA] at he
          split at he
          · rename_i cs hB; exact ⟨_, hB⟩
          · rename_i cs hB; exact ⟨_, hB⟩
          · cases he
        cases hv with
        | @ref _ _ l hl' =>
          cases har with
          | @boxm _ us bs' b o cs t hb hars h1 ho hf =>
            obtain ⟨w1, w2⟩ := hw i l hl' hal
            have hsize : cs.size = l.size := by
              have : bsz w' l.b = cs.size := by simp [bsz, hb]
              omega
            obtain ⟨ls, n1, n2, n3⟩ := entAs_ok hars s
            have a1 := n1.ad hl
            have hl2 : ((loc ++ more) ++ ls)[i]? = some l := by
              rw [List.append_assoc, List.getElem?_append_left (List.getElem?_eq_some_iff.1 hl').1]; exact hl'
            have hone : ∀ j, j < us.length → (us.getD j undef).oneCell' = true := fun j hj => by
              have : us.getD j undef = us[j] := by simp [hj]
              rw [this]; exact h1 _ (List.getElem_mem hj)
            have a2 := Ad.set (P := P) (w := w') (F := F) (loc := (loc ++ more) ++ ls) (s := (entAs xs' s).2) (i := i) (l := l) (B := mkBlk (entAs xs' s).1) (f := fun j => us.getD j undef)
              (by rw [List.length_append, hl, n1.len]) hl2 hdead
              ⟨cs, t, hb, hsize, by rw [mkBlk_len, n2, ← hsize]; simpa using ho, fun j hj => by
                rw [mkBlk_len, n2] at hj
                have := hf j us[j] (List.getElem?_eq_getElem hj)
                simp only [Nat.add_zero] at this
                rw [this]; simp [hj]⟩
              (fun mm => mkBlk_rb (fun j y hy => ⟨by simpa using n3 (loc ++ more) mm hl j y hy, hone j (by rw [← n2]; exact (List.getElem?_eq_some_iff.1 hy).1)⟩))
            exact ⟨ls ++ [], _, a1.trans a2⟩
      · cases hu
    · exact plain' hu
  | a ms =>
    simp only [updA] at hu
    split at hu
    · rename_i xs rs
      simp only [giveA] at he
      obtain ⟨⟨rs0, use'⟩, h1, he⟩ := Option.map_eq_some_iff.1 he
      cases hv with
      | agg us hsz ho hx =>
        cases har with
        | @agg _ us' _ hars h1' =>
          exact updL_ok hw us' (by simpa using hsz) (fun j y hy => by simpa using hx j y hy) h1 hars hu hl
    · exact plain' hu
  | i m =>
    simp only [updA] at hu
    split at hu
    · rename_i y v
      simp only [giveA] at he
      obtain ⟨⟨r1, u1⟩, h1, he⟩ := Option.map_eq_some_iff.1 he
      cases he
      cases hv with
      | is hv' e => exact updA_ok hw hv' h1 har hu hl
    · exact plain' hu
theorem updL_ok {sto : Sto} {loc more : List Loc} {w w' : World} {F0 F : Nat → Prop} (hw : Was P A w w' sto loc) {ms : List M} {xs : List AV} {rs0 : List R} {use : Use} {rs : List R} {bs : List Nat} {s s' : Sto}
    (us : List Value) (hlen : us.length = xs.length) (hv : ∀ j x, xs[j]? = some x → VR P w F0 loc x (us.getD j undef)) (he : giveL sto ms xs = some (rs0, use)) (har : ARs P w' F rs us bs)
    (hu : updL ms xs rs s = some s') (hl : (loc ++ more).length = s.length) : ∃ ls ids, Ad P w' F (loc ++ more) s s' bs ls ids := by
  cases ms with
  | nil =>
    simp only [updL] at hu
    split at hu
    · cases hu
      cases har
      exact ⟨[], [], Ad.refl hl⟩
    · cases hu
  | cons m ms =>
    simp only [updL] at hu
    split at hu
    · rename_i x xs r rs
      obtain ⟨s1, h1, h2⟩ := Option.bind_eq_some_iff.1 hu
      simp only [giveL] at he
      obtain ⟨⟨r0, u1⟩, g1, he⟩ := Option.bind_eq_some_iff.1 he
      obtain ⟨⟨rs0', u2⟩, g2, he⟩ := Option.map_eq_some_iff.1 he
      cases har with
      | @cons _ _ u us b1 b2 ha has =>
        obtain ⟨l1, i1, a1⟩ := updA_ok hw (hv 0 x rfl) g1 ha h1 hl
        have hl1 : (loc ++ (more ++ l1)).length = s1.length := by
          have := a1.len
          simp only [List.length_append] at hl ⊢
          omega
        obtain ⟨l2, i2, a2⟩ := updL_ok (more := more ++ l1) hw us (by simpa using hlen) (fun j y hy => by simpa using hv (j + 1) y (by simpa using hy)) g2 has h2 hl1
        rw [← List.append_assoc] at a2
        exact ⟨l1 ++ l2, i1 ++ i2, a1.trans a2⟩
    · cases hu
end

theorem callG_sound {sto : Sto} {loc : List Loc} {w : World} (h : SR P w0 G A sto loc w) {f : FuncId} {n : Nat} {xs : List AV} {us : List Value} (hlen : us.length = xs.length)
    (hv : ∀ j x, xs[j]? = some x → VR P w (Fre A w sto loc) loc x (us.getD j undef)) {T : Nat → Prop} {K : AV → Sto → Prop} (hwp : wpDenG P T sto f n xs K) :
    okF P f ∧ Calls P f (us.take n).toArray w fun e w' => ∃ (v : Value) (x : AV) (s' : Sto) (loc' : List Loc), e = .returned v ∧ K x s' ∧ SR P w0 G A s' loc' w' ∧ Kp (Tch T sto loc) w w' ∧
      (∀ y u, VR P w (Fre A w sto loc) loc y u → VR P w' (Fre A w' s' loc') loc' y u) ∧ VR P w' (Fre A w' s' loc') loc' x v := by
  obtain ⟨ms, rs, use, rs', res, x, s', g1, g0, g2, g3, g4, g5, ⟨hok, hden⟩, g6, hK⟩ := hwp
  refine ⟨hok, ?_⟩
  obtain ⟨bs, a1, b1, b2⟩ := giveL_ok h us hlen hv g1 g5
  have hbs : ∀ b, b ∈ bs → ∃ (i : Nat) (B : Blk) (l : Loc), i ∈ use.gv ∧ sto[i]? = some (some B) ∧ loc[i]? = some l ∧ l.b = b := fun b hb => by
    have : some b ∈ use.gv.map (fun i => (loc[i]?).map (·.b)) := by rw [b1]; exact List.mem_map.2 ⟨b, hb, rfl⟩
    obtain ⟨i, hi, e⟩ := List.mem_map.1 this
    obtain ⟨l, hl, e⟩ := Option.map_eq_some_iff.1 e
    obtain ⟨B, hB⟩ := b2 i hi
    exact ⟨i, B, l, hi, hB, hl, e⟩
  have hbd : bs.Nodup := by
    have hlen' : use.gv.length = bs.length := by simpa using congrArg List.length b1
    have hget : ∀ p (hp : p < bs.length), ∃ (B : Blk) (l : Loc), sto[use.gv[p]'(by omega)]? = some (some B) ∧ loc[use.gv[p]'(by omega)]? = some l ∧ l.b = bs[p] := fun p hp => by
      have e := congrArg (·[p]?) b1
      simp only [List.getElem?_map] at e
      rw [List.getElem?_eq_getElem hp, List.getElem?_eq_getElem (by omega)] at e
      simp only [Option.map_some, Option.some.injEq] at e
      obtain ⟨l, hl, e⟩ := Option.map_eq_some_iff.1 e
      obtain ⟨B, hB⟩ := b2 (use.gv[p]'(by omega)) (List.getElem_mem _)
      exact ⟨B, l, hB, hl, e⟩
    refine List.pairwise_iff_getElem.2 fun p q hp hq hpq e => ?_
    obtain ⟨B, l, x1, x2, x3⟩ := hget p hp
    obtain ⟨C, m, y1, y2, y3⟩ := hget q hq
    have := h.inj _ _ B C l m x1 y1 x2 y2 (by rw [x3, y3, e])
    have := (List.getElem_inj g2).1 this
    omega
  have hown : ∀ b, b ∈ bs → Own sto loc b := fun b hb => by
    obtain ⟨i, B, l, _, h1, h2, h3⟩ := hbs b hb; exact ⟨i, B, l, h1, h2, h3⟩
  refine (hden w (Rds A w sto loc (use.rd ++ use.fz)) us bs a1 hbd (fun b hb => h.lt (hown b hb)) (fun b hb => ?_)).mono fun e w' hR => ?_
  · rcases hb with hb | ⟨i, B, m, hi, h1, h2, rfl⟩
    · exact ⟨hb.1, fun hm => hb.2.1 (hown b hm)⟩
    · refine ⟨h.lt ⟨i, B, m, h1, h2, rfl⟩, fun hm => ?_⟩
      obtain ⟨j, C, l, hj, k1, k2, k3⟩ := hbs _ hm
      have := h.inj i j B C m l h1 k1 h2 k2 k3.symm
      subst this
      exact g3 i hi hj
  · obtain ⟨v, bs', rfl, hk, hd', hnew, hars⟩ := hR
    cases hars with
    | @cons _ _ _ _ c1 c2 hres hrest =>
    obtain ⟨hles, hkill⟩ := killL_ok (use.gv ++ use.fz) sto
    have hno : ∀ b, b ∈ bs → ¬ Own (killL (use.gv ++ use.fz) sto) loc b := fun b hb ⟨j, C, m, k1, k2, k3⟩ => by
      obtain ⟨i, B, l, hi, h1, h2, h3⟩ := hbs b hb
      have := h.inj i j B C l m h1 (hles.2 _ _ k1) h2 k2 (h3.trans k3.symm)
      subst this
      exact hkill i (List.mem_append_left _ hi) C k1
    have hnofz : ∀ (i : Nat) (B : Blk) (l : Loc), i ∈ use.fz → sto[i]? = some (some B) → loc[i]? = some l → ¬ Own (killL (use.gv ++ use.fz) sto) loc l.b := fun i B l hi h1 h2 ⟨j, C, m, k1, k2, k3⟩ => by
      have := h.inj i j B C l m h1 (hles.2 _ _ k1) h2 k2 k3.symm
      subst this
      exact hkill i (List.mem_append_right _ hi) C k1
    have hF3 : ∃ F3 : Nat → Prop, AR P w' F3 res v c1 ∧ ARs P w' F3 rs' us c2 ∧
        ∀ b, F3 b → b < w'.heap.size ∧ b ∉ c1 ++ c2 ∧ (Fre A w sto loc b ∨ (∃ (i : Nat) (B : Blk) (l : Loc), i ∈ use.fz ∧ sto[i]? = some (some B) ∧ loc[i]? = some l ∧ l.b = b) ∨ b ∈ bs ∨ w.heap.size ≤ b) := by
      rcases g4 with hrd | hlf
      · refine ⟨_, hres, hrest, fun b hb => ⟨hb.1, hb.2.1, ?_⟩⟩
        rcases hb.2.2 with hb | hb | hb
        · rcases hb with hb | ⟨i, B, m, hi, h1, h2, h3⟩
          · exact .inl hb
          · rw [hrd, List.nil_append] at hi
            exact .inr (.inl ⟨i, B, m, hi, h1, h2, h3⟩)
        · exact .inr (.inr (.inl hb))
        · exact .inr (.inr (.inr hb))
      · rw [Bool.and_eq_true] at hlf
        exact ⟨fun _ => False, hres.free hlf.1, hrest.free hlf.2, fun b hb => hb.elim⟩
    obtain ⟨F3, hres3, hrest3, hF3⟩ := hF3
    have hl1 : loc.length = (killL (use.gv ++ use.fz) sto).length := by rw [hles.1]; exact h.len
    obtain ⟨ls1, n1, n2⟩ := entA_ok hres3 (killL (use.gv ++ use.fz) sto)
    have ad1 := n1.ad hl1
    simp only [postC] at g6
    obtain ⟨s2, hs2, e⟩ := Option.map_eq_some_iff.1 g6
    cases e
    have hwas : Was P A w w' sto loc := fun i l hl ⟨B, hB⟩ => by
      obtain ⟨f, ⟨cs, t, q1, q2, q3, q4⟩, _⟩ := h.blk i B l hB hl
      refine ⟨?_, by omega⟩
      rw [hk.bsz _ (Array.getElem?_eq_some_iff.1 q1).1]
      simp [bsz, q1, q2]
    obtain ⟨ls2, ids2, ad2⟩ := updL_ok (more := ls1) hwas us hlen hv g1 hrest3 hs2 (by rw [List.length_append, ad1.len, hl1])
    have had := ad1.trans ad2
    have hF : ∀ b, F3 b → Fre A w' s' (loc ++ (ls1 ++ ls2)) b := fun b hb => by
      obtain ⟨z1, z2, z3⟩ := hF3 b hb
      refine ⟨z1, fun ⟨i, B, l, q1, q2, q3⟩ => ?_, ?_⟩
      · by_cases hi : i ∈ (List.range ls1.length).map ((killL (use.gv ++ use.fz) sto).length + ·) ++ ids2
        · have hm : ((loc ++ (ls1 ++ ls2))[i]?).map (·.b) ∈ ((List.range ls1.length).map ((killL (use.gv ++ use.fz) sto).length + ·) ++ ids2).map (fun i => ((loc ++ (ls1 ++ ls2))[i]?).map (·.b)) := List.mem_map.2 ⟨i, hi, rfl⟩
          rw [had.map, q2] at hm
          have : l.b ∈ c1 ++ c2 := by simpa using hm
          exact z2 (q3 ▸ this)
        · have q4 := had.old i hi B q1
          have hlt : i < loc.length := by rw [hl1]; exact (List.getElem?_eq_some_iff.1 q4).1
          rw [List.getElem?_append_left hlt] at q2
          have ho : Own (killL (use.gv ++ use.fz) sto) loc b := ⟨i, B, l, q4, q2, q3⟩
          have ho' : Own sto loc b := ⟨i, B, l, hles.2 _ _ q4, q2, q3⟩
          rcases z3 with z3 | ⟨j, C, m, y1, y2, y3, rfl⟩ | z3 | z3
          · exact z3.2.1 ho'
          · exact hnofz j C m y1 y2 y3 ho
          · exact hno b z3 ho
          · have := h.lt ho'; omega
      · rcases z3 with z3 | ⟨j, C, m, y1, y2, y3, y4⟩ | z3 | z3
        · exact z3.2.2
        · exact h.al _ (h.mine _ ⟨j, C, m, y2, y3, y4⟩)
        · exact h.al _ (h.mine _ (hown b z3))
        · exact h.al _ (.inr (Nat.le_trans h.kept.size z3))
    obtain ⟨r1, r2⟩ := h.adopt hk hown hles hno had hd' (fun b hb => (hnew b hb).1) hF
    refine ⟨v, _, s', _, rfl, hK, r1, hk.mono (fun b _ hb => by
      obtain ⟨i, B, l, k0, k1, k2, k3⟩ := hbs b hb; exact ⟨i, B, l, g0 i k0, k1, k2, k3⟩), r2, ?_⟩
    have := n2 loc ls2 hl1
    rw [List.append_assoc] at this
    exact this.mono hF (fun _ _ => rfl) (Nat.le_refl _) (fun _ _ h => h)

def rho (loc : List Loc) (i : Nat) : Value := match loc[i]? with | some l => .pointer (some ⟨l.b, l.o, none⟩) | none => undef

def refV (loc : List Loc) : AV → Value
  | .ref i _ => rho loc i
  | _ => undef

theorem rlCaps_ok {w : World} {F : Nat → Prop} {loc : List Loc} : ∀ {caps : List AV} {vs : List Value} {us : List Value}, rlCaps (rho loc) caps = some vs → us.length = caps.length → (∀ j x, caps[j]? = some x → VR P w F loc x (us.getD j undef)) → us = vs
  | [], vs, us, h, hl, _ => by cases h; exact List.eq_nil_of_length_eq_zero (by simpa using hl)
  | .ref i 0 :: r, vs, us, h, hl, hv => by
    simp only [rlCaps] at h
    obtain ⟨vs', h1, rfl⟩ := Option.map_eq_some_iff.1 h
    cases us with
    | nil => simp at hl
    | cons u us =>
      have h2 := rlCaps_ok h1 (us := us) (by simpa using hl) (fun j x hx => by simpa using hv (j + 1) x (by simpa using hx))
      have h3 := hv 0 _ rfl
      simp only [List.getD_cons_zero] at h3
      cases h3 with
      | ref hl' => rw [h2]; simp [rho, hl']

theorem rlV_ok {w : World} {F : Nat → Prop} {loc : List Loc} {x : AV} {u : Value} (h : VR P w F loc x u) : VR P w F loc (rlV (rho loc) x) u := by
  unfold rlV
  split
  · rename_i i
    cases h with
    | ref hl => exact .is (.ref hl) (by simp [rho, hl])
  · rename_i f caps
    split
    · rename_i vs hvs
      cases h with
      | fn us hs hx =>
        have := rlCaps_ok hvs (us := us.toList) (by simpa using hs) (fun j x hj => by simpa using hx j x hj)
        have e : us = vs.toArray := by rw [← this]
        subst e
        exact .d (.v rfl)
    · exact h
  · exact h

theorem SR.like {sto sto' : Sto} {loc : List Loc} {w : World} (h : SR P w0 G A sto loc w) (hlen : sto'.length = sto.length) (hal : ∀ i : Nat, (∃ B : Blk, sto'[i]? = some (some B)) ↔ ∃ B : Blk, sto[i]? = some (some B))
    (hb : ∀ (i : Nat) (B' : Blk) (l : Loc), sto'[i]? = some (some B') → loc[i]? = some l → ∃ f, At w l B'.len f ∧ RB P w (Fre A w sto loc) loc B' f) :
    SR P w0 G A sto' loc w ∧ ∀ b, Fre A w sto' loc b ↔ Fre A w sto loc b := by
  have hown : ∀ b, Own sto' loc b ↔ Own sto loc b := fun b => by
    constructor
    · rintro ⟨i, B, l, h1, h2, h3⟩
      obtain ⟨C, hC⟩ := (hal i).1 ⟨B, h1⟩
      exact ⟨i, C, l, hC, h2, h3⟩
    · rintro ⟨i, B, l, h1, h2, h3⟩
      obtain ⟨C, hC⟩ := (hal i).2 ⟨B, h1⟩
      exact ⟨i, C, l, hC, h2, h3⟩
  have hF : ∀ b, Fre A w sto' loc b ↔ Fre A w sto loc b := fun b => by simp only [Fre, hown]
  refine ⟨⟨by rw [hlen]; exact h.len, fun i j B C l m h1 h2 h3 h4 e => ?_, fun b hb' => h.mine b ((hown b).1 hb'), fun i B l h1 h2 => ?_, h.kept, h.al⟩, hF⟩
  · obtain ⟨B', hB⟩ := (hal i).1 ⟨B, h1⟩
    obtain ⟨C', hC⟩ := (hal j).1 ⟨C, h2⟩
    exact h.inj i j B' C' l m hB hC h3 h4 e
  · obtain ⟨f, g1, g2⟩ := hb i B l h1 h2
    exact ⟨f, g1, g2.mono (fun b hb => (hF b).2 hb) (fun _ _ => rfl) (Nat.le_refl _) (fun _ _ h => h)⟩

theorem rlS1_ok {sto : Sto} {loc : List Loc} {w : World} (h : SR P w0 G A sto loc w) (i : Nat) : SR P w0 G A (rlS1 (rho loc) i sto) loc w ∧ ∀ b, Fre A w (rlS1 (rho loc) i sto) loc b ↔ Fre A w sto loc b := by
  unfold rlS1
  split
  · rename_i x hx
    split
    · rename_i d hd
      have hlt : i < sto.length := (List.getElem?_eq_some_iff.1 hx).1
      refine h.like (by simp) (fun j => ?_) (fun j B' l h1 h2 => ?_)
      · by_cases e : i = j
        · subst e; rw [List.getElem?_set_self hlt, hx]; exact ⟨fun _ => ⟨_, rfl⟩, fun _ => ⟨_, rfl⟩⟩
        · rw [List.getElem?_set_ne e]
      · by_cases e : i = j
        · subst e
          rw [List.getElem?_set_self hlt] at h1
          cases h1
          obtain ⟨f, g1, g2⟩ := h.blk i _ l hx h2
          refine ⟨f, g1, fun k d' hk => ?_⟩
          have hk0 : k = 0 := by
            rcases k with _ | k
            · rfl
            · simp at hk
          subst hk0
          simp at hk
          subst hk
          have := rlV_ok (g2 0 x rfl).1
          rw [hd] at this
          exact this.rc (g2 0 x rfl).2
        · rw [List.getElem?_set_ne e] at h1
          exact h.blk j B' l h1 h2
    · exact ⟨h, fun _ => Iff.rfl⟩
  · exact ⟨h, fun _ => Iff.rfl⟩

theorem rlS_ok {loc : List Loc} {w : World} : ∀ (I : List Nat) {sto : Sto}, SR P w0 G A sto loc w → SR P w0 G A (rlS (rho loc) I sto) loc w ∧ ∀ b, Fre A w (rlS (rho loc) I sto) loc b ↔ Fre A w sto loc b
  | [], _, h => ⟨h, fun _ => Iff.rfl⟩
  | i :: r, _, h => by
    obtain ⟨h1, h2⟩ := rlS1_ok h i
    obtain ⟨h3, h4⟩ := rlS_ok r h1
    exact ⟨h3, fun b => (h4 b).trans (h2 b)⟩

theorem rlS1_alive (ρ : Nat → Value) (i : Nat) (sto : Sto) : (rlS1 ρ i sto).length = sto.length ∧ ∀ j : Nat, (∃ B : Blk, (rlS1 ρ i sto)[j]? = some (some B)) ↔ ∃ B : Blk, sto[j]? = some (some B) := by
  unfold rlS1
  split
  · rename_i x hx
    split
    · have hlt : i < sto.length := (List.getElem?_eq_some_iff.1 hx).1
      refine ⟨by simp, fun j => ?_⟩
      by_cases e : i = j
      · subst e; rw [List.getElem?_set_self hlt, hx]; exact ⟨fun _ => ⟨_, rfl⟩, fun _ => ⟨_, rfl⟩⟩
      · rw [List.getElem?_set_ne e]
    · exact ⟨rfl, fun _ => Iff.rfl⟩
  · exact ⟨rfl, fun _ => Iff.rfl⟩
theorem rlS_alive (ρ : Nat → Value) : ∀ (I : List Nat) (sto : Sto), (rlS ρ I sto).length = sto.length ∧ ∀ j : Nat, (∃ B : Blk, (rlS ρ I sto)[j]? = some (some B)) ↔ ∃ B : Blk, sto[j]? = some (some B)
  | [], _ => ⟨rfl, fun _ => Iff.rfl⟩
  | i :: r, sto => by
    obtain ⟨h1, h2⟩ := rlS1_alive ρ i sto
    obtain ⟨h3, h4⟩ := rlS_alive ρ r (rlS1 ρ i sto)
    exact ⟨h3.trans h1, fun j => (h4 j).trans (h2 j)⟩

theorem isRefs_get : ∀ {ys : List AV}, isRefs ys = true → ∀ (j : Nat) (y : AV), ys[j]? = some y → ∃ i, y = .ref i 0
  | [], _, j, y, hy => by simp at hy
  | .ref i 0 :: r, h, j, y, hy => by
    cases j with
    | zero => simp at hy; exact ⟨i, hy.symm⟩
    | succ j => exact isRefs_get (by simpa [isRefs] using h) j y (by simpa using hy)

theorem call_sound {sto : Sto} {loc : List Loc} {w : World} (h : SR P w0 G A sto loc w) {f : FuncId} {xs : List AV} {us : List Value} (hlen : us.length = xs.length)
    (hv : ∀ j x, xs[j]? = some x → VR P w (Fre A w sto loc) loc x (us.getD j undef)) {T : Nat → Prop} {K : AV → Sto → Prop} {tm : List (Nat × AV)} {vv : Nat → Value} (htm : ∀ k x, (k, x) ∈ tm → VR P w (Fre A w sto loc) loc x (vv k)) (hwp : wpDen P T sto tm f xs K) :
    okF P f ∧ Calls P f us.toArray w fun e w' => ∃ (v : Value) (x : AV) (s' : Sto) (loc' : List Loc), e = .returned v ∧ K x s' ∧ SR P w0 G A s' loc' w' ∧ Kp (Tch T sto loc) w w' ∧
      (∀ y u, VR P w (Fre A w sto loc) loc y u → VR P w' (Fre A w' s' loc') loc' y u) ∧ VR P w' (Fre A w' s' loc') loc' x v := by
  rcases hwp with hwp | ⟨I, ys, zs, hys, hyl, hwp⟩
  · have := callG_sound h hlen hv hwp
    rwa [← hlen, List.take_length] at this
  · obtain ⟨h1, h2⟩ := rlS_ok I h
    have hmv : ∀ y u, VR P w (Fre A w sto loc) loc y u → VR P w (Fre A w (rlS (rho loc) I sto) loc) loc y u := fun y u hy => hy.mono (fun b hb => (h2 b).2 hb) (fun _ _ => rfl) (Nat.le_refl _) (fun _ _ h => h)
    have hyv : ∀ (j : Nat) (y : AV), ys[j]? = some y → VR P w (Fre A w sto loc) loc y ((ys.map (refV loc)).getD j undef) := fun j y hy => by
      obtain ⟨i, rfl⟩ := isRefs_get hys j y hy
      have hlt : i < loc.length := by rw [h.len]; exact hyl i 0 (List.mem_of_getElem? hy)
      have e : ((ys.map (refV loc)).getD j undef) = rho loc i := by
        rw [List.getD_eq_getElem?_getD, List.getElem?_map, hy]; rfl
      rw [e]
      have := VR.ref (P := P) (w := w) (F := Fre A w sto loc) (loc := loc) (c := 0) (List.getElem?_eq_getElem hlt)
      simpa [rho, List.getElem?_eq_getElem hlt] using this
    have hzv : ∀ (j : Nat) (y : AV), (zs.map (lk tm))[j]? = some y → VR P w (Fre A w sto loc) loc y ((zs.map vv).getD j undef) := fun j y hy => by
      rw [List.getElem?_map] at hy
      obtain ⟨k, hk, rfl⟩ := Option.map_eq_some_iff.1 hy
      have e : (zs.map vv).getD j undef = vv k := by
        rw [List.getD_eq_getElem?_getD, List.getElem?_map, hk]; rfl
      rw [e]
      rcases lk_mem tm k with e | e
      · rw [e]; exact .any
      · exact htm _ _ e
    have hxy : ∀ (j : Nat) (x : AV), ((xs ++ ys).map (rlV (rho loc)))[j]? = some x → VR P w (Fre A w (rlS (rho loc) I sto) loc) loc x ((us ++ ys.map (refV loc)).getD j undef) := fun j x hx => by
      rw [List.getElem?_map] at hx
      obtain ⟨y, hy, rfl⟩ := Option.map_eq_some_iff.1 hx
      refine hmv _ _ (rlV_ok ?_)
      rcases Nat.lt_or_ge j xs.length with hj | hj
      · rw [List.getElem?_append_left hj] at hy
        have := hv j y hy
        rw [List.getD_eq_getElem?_getD] at this ⊢
        rw [List.getElem?_append_left (by omega)]; exact this
      · rw [List.getElem?_append_right hj] at hy
        have := hyv _ y hy
        rw [List.getD_eq_getElem?_getD] at this ⊢
        rw [List.getElem?_append_right (by omega), hlen]; exact this
    have := callG_sound (us := us ++ (ys.map (refV loc)) ++ zs.map vv) h1 (by simp [hlen]) (fun j x hx => by
      rcases Nat.lt_or_ge j ((xs ++ ys).map (rlV (rho loc))).length with hj | hj
      · rw [List.getElem?_append_left hj] at hx
        have := hxy j x hx
        rw [List.getD_eq_getElem?_getD] at this ⊢
        rw [List.getElem?_append_left (by simp [hlen] at hj ⊢; omega)]; exact this
      · rw [List.getElem?_append_right hj] at hx
        have := hmv _ _ (hzv _ x hx)
        rw [List.getD_eq_getElem?_getD] at this ⊢
        rw [List.getElem?_append_right (by simp [hlen] at hj ⊢; omega)]
        simpa [hlen] using this) (hwp (rho loc) fun k i g hk => by
        have := htm k _ hk
        generalize vv k = u at this
        cases this with
        | is h1 e =>
          cases h1 with
          | ref hl => rw [← e]; simp [rho, hl])
    rw [← hlen, List.append_assoc, List.take_left] at this
    refine ⟨this.1, this.2.mono fun e w' hR => ?_⟩
    obtain ⟨v, x, s', loc', e1, e2, e3, e4, e5, e6⟩ := hR
    refine ⟨v, x, s', loc', e1, e2, e3, e4.mono (fun b _ ⟨i, B, l, t, g1, g2, g3⟩ => ?_), fun y u hy => e5 y u (hmv y u hy), e6⟩
    obtain ⟨C, hC⟩ := ((rlS_alive (rho loc) I sto).2 i).1 ⟨B, g1⟩
    exact ⟨i, C, l, t, hC, g2, g3⟩

end
end Go.Proofs.Ytccfejnckmokkaa.Va

/-! One operation: its law, whatever it is. Condition: none. -/
namespace Go.Proofs.Ytccfejnckmokkaa.Va
open Go

inductive AOI where
  | q (x : AOp)
  | m (x : AOp)
  | c (x : AOp)

structure AQ where
  dst : Option Nat
  gd : Option (Nat × Bool)
  op : AOI

def lowC (N : Nat) : Op → Option AOp
  | .call c => (match c.callee with
    | .value (.func f) => (lowOs N c.args.toList).map (.call f ·)
    | .value x => (lowO N x).bind fun x' => (lowOs N c.args.toList).map (.cav x' ·)
    | _ => none)
  | _ => none

def lowI (P : Program) (N : Nat) (o : Op) : Option AOI :=
  match lowQ P N o with
  | some q => some (.q q)
  | none => (match lowM P N o with
    | some q => some (.m q)
    | none => (lowC N o).map .c)

def lowG (N : Nat) (ops : Array Oper) : Option (Nat × Bool) → Option (Option (Nat × Bool))
  | none => some none
  | some (g, want) => ((ops[g]?).bind (·.dst)).bind fun d => if d < N then some (some (d, want)) else none

def lowD (N : Nat) : Option Nat → Option (Option Nat)
  | none => some none
  | some d => if d < N then some (some d) else none

def lowOper (P : Program) (N : Nat) (ops : Array Oper) (o : Oper) : Option AQ :=
  (lowI P N o.op).bind fun i => (lowG N ops o.guard).bind fun g => (lowD N o.dst).map fun d => ⟨d, g, i⟩

/-! ### What it comes to -/

def isVs : List AV → Option (List Value)
  | [] => some []
  | .is _ v :: r => (isVs r).map (v :: ·)
  | _ :: _ => none

def wpI (P : Program) (T : Nat → Prop) (st : ASt) : AOI → (AV → Sto → Prop) → Prop
  | .q q, K => ∃ x, evQ st q = some x ∧ K x st.sto
  | .m q, K => ∃ p, evM st q = some p ∧ (∀ i, i ∈ mdQ st q → T i) ∧ K p.1 p.2
  | .c q, K => (match q with
    | .call f xs => wpDen P T st.sto st.tm f (xs.map (evO st.tm)) K
    | .cav x xs => (match evO st.tm x with
      | .fn f caps => wpDen P T st.sto st.tm f (xs.map (evO st.tm) ++ caps) K
      | .pfn g => ∃ (ds : List D) (r : Value), (xs.map (evO st.tm)).map (deepA st.sto) = ds.map some ∧ r.oneCell' = true ∧ g ds r ∧ K (.d (.v r)) st.sto
      | .d (.v u) => ∃ (f : FuncId) (vs : List Value) (ks gs : List Nat), u = .func (.func f) #[] vs.toArray ∧ isVs (ks.map (lk st.tm)) = some vs ∧
        wpDenG P T st.sto f (xs.length + ks.length) (xs.map (evO st.tm) ++ (ks.map (lk st.tm) ++ gs.map (lk st.tm))) K
      | _ => False)
    | _ => False)

def gdA (want : Bool) : AV → Option Bool
  | .d (.v (.bool b)) => some (b == want)
  | .tup [] => some false
  | _ => none

def wpG (P : Program) (T : Nat → Prop) (st : ASt) (q : AQ) (K : ASt → Prop) : Prop :=
  match q.gd with
  | none => wpI P T st q.op fun x s => K ⟨ptO q.dst x st.tm, s⟩
  | some (g, want) => ∃ b, gdA want (lk st.tm g) = some b ∧ (b = true → wpI P T st q.op fun x s => K ⟨ptO q.dst x st.tm, s⟩) ∧ (b = false → K ⟨ptO q.dst (.tup []) st.tm, st.sto⟩)

section
variable {P : Program} {w0 : World} {G A : Nat → Prop} {gh : List Value} {N : Nat}

theorem SR.base {sto : Sto} {loc : List Loc} {w : World} (h : SR P w0 G A sto loc w) : SR P w (Own sto loc) A sto loc w :=
  ⟨h.len, h.inj, fun b hb => .inl hb, h.blk, Kp.refl _ _, fun b hb => hb.elim (fun o => h.al b (h.mine b o)) (fun s => h.al b (.inr (Nat.le_trans h.kept.size s)))⟩

theorem SR.rebase {sto sto' : Sto} {loc loc' : List Loc} {w w' : World} (h : SR P w0 G A sto loc w) (k : SR P w (Own sto loc) A sto' loc' w') : SR P w0 G A sto' loc' w' := by
  refine ⟨k.len, k.inj, fun b hb => ?_, k.blk, ?_, h.al⟩
  · rcases k.mine b hb with x | x
    · exact h.mine b x
    · exact .inr (Nat.le_trans h.kept.size x)
  · refine h.kept.trans k.kept (fun _ _ x => x) (fun i hi x => ?_)
    rcases h.mine i x with y | y
    · exact y
    · omega

theorem Kp.both {K1 K2 : Nat → Prop} {w w' : World} (h : Kp K1 w w') (k : Kp K2 w w') : Kp (fun b => K1 b ∧ K2 b) w w' :=
  ⟨h.os, h.tape, h.output, h.size, fun i hi hn => by
    by_cases x : K1 i
    · exact k.block i hi (fun y => hn ⟨x, y⟩)
    · exact h.block i hi x, h.bsz⟩

structure Aft (P : Program) (A : Nat → Prop) (gh : List Value) (N : Nat) (T : Nat → Prop) (st : ASt) (loc : List Loc) (w : World) (st' : ASt) (loc' : List Loc) (a' : Act) (w' : World) : Prop where
  defers : a'.defers = []
  size : a'.tmps.size = N
  sr : SR P w (Own st.sto loc) A st'.sto loc' w'
  vr : ∀ y u, VR P w (Fre A w st.sto loc) loc y u → VR P w' (Fre A w' st'.sto loc') loc' y u
  tm : ∀ k x, (k, x) ∈ st'.tm → VR P w' (Fre A w' st'.sto loc') loc' x (val gh N a' k)
  kp : Kp (fun b => ∃ (i : Nat) (l : Loc), T i ∧ loc[i]? = some l ∧ l.b = b) w w'

theorem lowD_ok {d e : Option Nat} (h : lowD N d = some e) : d = e ∧ ∀ k, e = some k → k < N := by
  cases d with
  | none => cases h; exact ⟨rfl, fun k hk => by cases hk⟩
  | some d =>
    simp only [lowD] at h
    split at h
    · cases h; exact ⟨rfl, fun k hk => by cases hk; assumption⟩
    · cases h

theorem slots_put {st : ASt} {sto' : Sto} {a : Act} {w w' : World} {loc loc' : List Loc} {d : Option Nat} {x : AV} {v : Value} (hN : a.tmps.size = N)
    (htm : ∀ k x, (k, x) ∈ st.tm → VR P w (Fre A w st.sto loc) loc x (val gh N a k)) (hdN : ∀ k, d = some k → k < N)
    (hv : ∀ y u, VR P w (Fre A w st.sto loc) loc y u → VR P w' (Fre A w' sto' loc') loc' y u) (hx : VR P w' (Fre A w' sto' loc') loc' x v) :
    (a.put d v).tmps.size = N ∧ ∀ k y, (k, y) ∈ ptO d x st.tm → VR P w' (Fre A w' sto' loc') loc' y (val gh N (a.put d v) k) := by
  constructor
  · cases d with
    | none => exact hN
    | some k => simp [Act.put, hN]
  · intro k y hy
    cases d with
    | none => exact hv _ _ (htm k y hy)
    | some e =>
      simp only [ptO, pt, List.mem_cons] at hy
      rcases hy with hy | hy
      · cases hy
        rw [val_put_same hN (hdN _ rfl)]; exact hx
      · obtain ⟨hy, hne⟩ := del_mem hy
        rw [val_put_ne hne]; exact hv _ _ (htm k y hy)

theorem lowOs_len : ∀ {xs : List Operand} {ys : List Opd}, lowOs N xs = some ys → xs.length = ys.length
  | [], ys, h => by cases h; rfl
  | x :: r, ys, h => by
    obtain ⟨y, h1, h2⟩ := Option.bind_eq_some_iff.1 h
    obtain ⟨ys', h3, rfl⟩ := Option.map_eq_some_iff.1 h2
    simp [lowOs_len h3]

theorem lowOs_vr {st : ASt} {a : Act} {w : World} {loc : List Loc} (htm : ∀ k x, (k, x) ∈ st.tm → VR P w (Fre A w st.sto loc) loc x (val gh N a k)) :
    ∀ {xs : List Operand} {ys : List Opd}, lowOs N xs = some ys → ∀ j y, (ys.map (evO st.tm))[j]? = some y → VR P w (Fre A w st.sto loc) loc y ((xs.map a.eval).getD j undef)
  | [], ys, h => by cases h; intro j y hy; simp at hy
  | x :: r, ys, h => by
    obtain ⟨z, h1, h2⟩ := Option.bind_eq_some_iff.1 h
    obtain ⟨ys', h3, rfl⟩ := Option.map_eq_some_iff.1 h2
    intro j y hy
    cases j with
    | zero => simp at hy; subst hy; simpa using evO_ok htm h1
    | succ j => simpa using lowOs_vr htm h3 j y (by simpa using hy)

theorem run_callFunc {f : FuncId} {args : Array Value} {w : World} (h : okF P f) : (callFunc f args).run P w = .ok (.enter f args) w := by
  obtain ⟨fn, h1, h2, h3⟩ := h
  have e2 : ¬ fn.name = "runtime.NumGoroutine" := by simpa using h2
  have e3 : ¬ fn.body = none := fun e => by rw [e] at h3; cases h3
  simp [callFunc, h1, e2, e3]

theorem run_call_func {a : Act} {o : Oper} {c : Call} {f : FuncId} {w : World} (ho : o.op = .call c) (hc : c.callee = .value (.func f)) (h : okF P f) :
    (execOp a.eval o).run P w = .ok (.enter f (c.args.map a.eval)) w := by
  have := run_callFunc (P := P) (args := c.args.map a.eval) (w := w) h
  simp [execOp, ho, resolve, hc, Act.eval, Deferred.ofValue, invoke, this]

theorem run_call_val {a : Act} {o : Oper} {c : Call} {x : Operand} {f : FuncId} {caps : Array Value} {w : World} (ho : o.op = .call c) (hc : c.callee = .value x) (hx : a.eval x = .func (.func f) #[] caps) (h : okF P f) :
    (execOp a.eval o).run P w = .ok (.enter f (c.args.map a.eval ++ caps)) w := by
  have := run_callFunc (P := P) (args := c.args.map a.eval ++ caps) (w := w) h
  simp [execOp, ho, resolve, hc, hx, Deferred.ofValue, invoke, this]


theorem okF_base {f : FuncId} {args args' : List R} {res : R} (h : Den P f args args' res) : okF P f := h.1

theorem enter_by {st : ASt} {a : Act} {w : World} {loc : List Loc} {o : Oper} {T : Nat → Prop} {K : AV → Sto → Prop} {f : FuncId} {args : Array Value} {next : Act → World → Prop} {Q : Exit → Act → World → Prop} {d : Option Nat}
    (hd : a.defers = []) (hN : a.tmps.size = N) (hdst : o.dst = d) (hdN : ∀ k, d = some k → k < N)
    (htm : ∀ k x, (k, x) ∈ st.tm → VR P w (Fre A w st.sto loc) loc x (val gh N a k))
    (hcall : okF P f ∧ Calls P f args w fun e w' => ∃ (v : Value) (x : AV) (s' : Sto) (loc' : List Loc), e = .returned v ∧ K x s' ∧ SR P w (Own st.sto loc) A s' loc' w' ∧ Kp (Tch T st.sto loc) w w' ∧
      (∀ y u, VR P w (Fre A w st.sto loc) loc y u → VR P w' (Fre A w' s' loc') loc' y u) ∧ VR P w' (Fre A w' s' loc') loc' x v)
    (hrun : okF P f → (execOp a.eval o).run P w = .ok (.enter f args) w)
    (hnext : ∀ (x : AV) (s : Sto) (a' : Act) (w' : World) (loc' : List Loc), K x s → Aft P A gh N T st loc w ⟨ptO d x st.tm, s⟩ loc' a' w' → next a' w') :
    o.wp P a w next Q := by
  obtain ⟨hok, hc⟩ := hcall
  unfold Oper.wp
  rw [hrun hok, Oper.upon_enter]
  refine hc.mono fun e w' hR => ?_
  obtain ⟨v, x, s', loc', rfl, hK, h1, h2, h3, h4⟩ := hR
  obtain ⟨p1, p2⟩ := slots_put hN htm hdN h3 h4
  refine hnext x s' (a.put o.dst v) w' loc' hK ⟨?_, ?_, h1, h3, ?_, h2.mono (fun b _ ⟨i, B, l, t, _, g1, g2⟩ => ⟨i, l, t, g1, g2⟩)⟩
  · rw [hdst]; cases d <;> exact hd
  · rw [hdst]; exact p1
  · rw [hdst]; exact p2

theorem enter_sound {st : ASt} {a : Act} {w : World} {loc : List Loc} {o : Oper} {T : Nat → Prop} {K : AV → Sto → Prop} {f : FuncId} {xs : List AV} {us : List Value} {next : Act → World → Prop} {Q : Exit → Act → World → Prop} {d : Option Nat}
    (hs : SR P w0 G A st.sto loc w) (hd : a.defers = []) (hN : a.tmps.size = N) (hdst : o.dst = d) (hdN : ∀ k, d = some k → k < N)
    (htm : ∀ k x, (k, x) ∈ st.tm → VR P w (Fre A w st.sto loc) loc x (val gh N a k)) (hlen : us.length = xs.length) (hv : ∀ j x, xs[j]? = some x → VR P w (Fre A w st.sto loc) loc x (us.getD j undef))
    (hwp : wpDen P T st.sto st.tm f xs K) (hrun : okF P f → (execOp a.eval o).run P w = .ok (.enter f us.toArray) w)
    (hnext : ∀ (x : AV) (s : Sto) (a' : Act) (w' : World) (loc' : List Loc), K x s → Aft P A gh N T st loc w ⟨ptO d x st.tm, s⟩ loc' a' w' → next a' w') :
    o.wp P a w next Q :=
  enter_by hd hN hdst hdN htm (call_sound hs.base hlen hv htm hwp) hrun hnext

theorem isVs_ok {w : World} {F : Nat → Prop} {loc : List Loc} : ∀ {xs : List AV} {vs us : List Value}, isVs xs = some vs → us.length = xs.length → (∀ j x, xs[j]? = some x → VR P w F loc x (us.getD j undef)) → us = vs
  | [], vs, us, h, hl, _ => by cases h; exact List.eq_nil_of_length_eq_zero (by simpa using hl)
  | .is y v :: r, vs, us, h, hl, hv => by
    simp only [isVs] at h
    obtain ⟨vs', h1, rfl⟩ := Option.map_eq_some_iff.1 h
    cases us with
    | nil => simp at hl
    | cons u us =>
      have h2 := isVs_ok h1 (us := us) (by simpa using hl) (fun j x hx => by simpa using hv (j + 1) x (by simpa using hx))
      have h3 := hv 0 _ rfl
      simp only [List.getD_cons_zero] at h3
      cases h3 with
      | is _ e => rw [h2, e]

theorem getD_append {us vs : List Value} {xs ys : List AV} {R : AV → Value → Prop} (hl : us.length = xs.length) (h1 : ∀ j x, xs[j]? = some x → R x (us.getD j undef)) (h2 : ∀ j x, ys[j]? = some x → R x (vs.getD j undef)) :
    ∀ j x, (xs ++ ys)[j]? = some x → R x ((us ++ vs).getD j undef) := fun j y hy => by
  rcases Nat.lt_or_ge j xs.length with hj | hj
  · rw [List.getElem?_append_left hj] at hy
    have := h1 j y hy
    rw [List.getD_eq_getElem?_getD] at this ⊢
    rw [List.getElem?_append_left (by omega)]; exact this
  · rw [List.getElem?_append_right hj] at hy
    have := h2 _ y hy
    rw [List.getD_eq_getElem?_getD] at this ⊢
    rw [List.getElem?_append_right (by omega), hl]; exact this

theorem lks_vr {st : ASt} {a : Act} {w : World} {loc : List Loc} (htm : ∀ k x, (k, x) ∈ st.tm → VR P w (Fre A w st.sto loc) loc x (val gh N a k)) (ks : List Nat) :
    ∀ j y, (ks.map (lk st.tm))[j]? = some y → VR P w (Fre A w st.sto loc) loc y ((ks.map (val gh N a)).getD j undef) := fun j y hy => by
  rw [List.getElem?_map] at hy
  obtain ⟨k, hk, rfl⟩ := Option.map_eq_some_iff.1 hy
  have e : (ks.map (val gh N a)).getD j undef = val gh N a k := by
    rw [List.getD_eq_getElem?_getD, List.getElem?_map, hk]; rfl
  rw [e]; exact SAT.lk htm k

theorem opI_sound {st : ASt} {a : Act} {w : World} {loc : List Loc} {o : Oper} {T : Nat → Prop} {K : AV → Sto → Prop} {i : AOI} {next : Act → World → Prop} {Q : Exit → Act → World → Prop} {d : Option Nat}
    (hs : SR P w0 G A st.sto loc w) (hd : a.defers = []) (hN : a.tmps.size = N) (hdst : o.dst = d) (hdN : ∀ k, d = some k → k < N)
    (htm : ∀ k x, (k, x) ∈ st.tm → VR P w (Fre A w st.sto loc) loc x (val gh N a k)) (hi : lowI P N o.op = some i) (hwp : wpI P T st i K)
    (hnext : ∀ (x : AV) (s : Sto) (a' : Act) (w' : World) (loc' : List Loc), K x s → Aft P A gh N T st loc w ⟨ptO d x st.tm, s⟩ loc' a' w' → next a' w') :
    o.wp P a w next Q := by
  unfold lowI at hi
  split at hi
  · rename_i q hq
    cases hi
    obtain ⟨x, he, hK⟩ := hwp
    obtain ⟨v, hv, hrun⟩ := quiet_sound hs htm hq he
    unfold Oper.wp
    rw [hrun w (fun _ _ _ => rfl), Oper.upon_value]
    obtain ⟨p1, p2⟩ := slots_put hN htm hdN (fun _ _ h => h) hv
    refine hnext x st.sto _ w loc hK ⟨?_, ?_, hs.base, fun _ _ h => h, ?_, Kp.refl _ _⟩
    · rw [hdst]; cases d <;> exact hd
    · rw [hdst]; exact p1
    · rw [hdst]; exact p2
  · split at hi
    · rename_i q hq
      cases hi
      obtain ⟨⟨x, s'⟩, he, hT, hK⟩ := hwp
      obtain ⟨r, v, w', loc', h1, h2, h3, h4, h5, h6⟩ := mem_sound hs.base htm hq he
      obtain ⟨p1, p2⟩ := slots_put hN htm hdN h5 h6
      have hn : next (a.put o.dst v) w' := hnext x s' _ w' loc' hK ⟨by rw [hdst]; cases d <;> exact hd, by rw [hdst]; exact p1, h4, h5, by rw [hdst]; exact p2,
        h3.mono (fun b _ ⟨i, l, g1, g2, g3⟩ => ⟨i, l, hT i g1, g2, g3⟩)⟩
      unfold Oper.wp
      rw [h1]
      rcases h2 with rfl | ⟨rfl, rfl⟩
      · rw [Oper.upon_value]; exact hn
      · rw [Oper.upon_skip]; exact hn
    · obtain ⟨q, hq, rfl⟩ := Option.map_eq_some_iff.1 hi
      unfold lowC at hq
      split at hq
      · rename_i c ho
        split at hq
        · rename_i f hc
          obtain ⟨xs, hxs, rfl⟩ := Option.map_eq_some_iff.1 hq
          refine enter_sound (us := c.args.toList.map a.eval) hs hd hN hdst hdN htm (by simp [lowOs_len hxs]) (lowOs_vr htm hxs) hwp (fun hok => ?_) hnext
          rw [run_call_func ho hc hok]
          congr 2; apply Array.ext'; simp
        · rename_i x hnf hc
          obtain ⟨x', hx, hq⟩ := Option.bind_eq_some_iff.1 hq
          obtain ⟨xs, hxs, rfl⟩ := Option.map_eq_some_iff.1 hq
          have vx := evO_ok htm hx
          simp only [wpI] at hwp
          split at hwp
          · rename_i f caps hf
            rw [hf] at vx
            generalize hu : a.eval x = u at vx
            cases vx with
            | fn us hsz hcap =>
              refine enter_sound (us := c.args.toList.map a.eval ++ us.toList) hs hd hN hdst hdN htm (by simp [lowOs_len hxs, hsz]) (fun j y hy => ?_) hwp (fun hok => ?_) hnext
              · rcases Nat.lt_or_ge j xs.length with hj | hj
                · rw [List.getElem?_append_left (by simpa using hj)] at hy
                  have := lowOs_vr htm hxs j y hy
                  rw [List.getD_eq_getElem?_getD] at this ⊢
                  rw [List.getElem?_append_left (by simpa [lowOs_len hxs] using hj)]; exact this
                · rw [List.getElem?_append_right (by simpa using hj)] at hy
                  have := hcap _ y (by simpa using hy)
                  rw [List.getD_eq_getElem?_getD, List.getElem?_append_right (by simpa [lowOs_len hxs] using hj)]
                  simpa [lowOs_len hxs] using this
              · rw [run_call_val ho hc hu hok]
                congr 2; apply Array.ext'; simp
          · rename_i g hf
            obtain ⟨ds, r, hds, h1, hg, hK⟩ := hwp
            rw [hf] at vx
            generalize hu : a.eval x = u at vx
            cases vx with
            | pfn hp =>
              obtain ⟨f, caps, S, rfl, hok, hS, hc'⟩ := hp
              unfold Oper.wp
              rw [run_call_val ho hc hu hok, Oper.upon_enter]
              refine (hc' w (fun _ _ => rfl) (Nat.le_refl _) ds r (c.args.map a.eval) hg ?_ ?_).mono fun e w'' hR => ?_
              · have := congrArg List.length hds
                simp at this
                have hl := lowOs_len hxs
                simp at hl ⊢
                omega
              · intro j d' hj
                have hjx : j < (xs.map (evO st.tm)).length := by
                  have := congrArg List.length hds
                  have := (List.getElem?_eq_some_iff.1 hj).1
                  simp at *; omega
                have he : deepA st.sto (xs.map (evO st.tm))[j] = some d' := by
                  have := congrArg (·[j]?) hds
                  simp only [List.getElem?_map, hj] at this
                  simpa [List.getElem?_eq_getElem (show j < xs.length by simpa using hjx)] using this
                have hv := lowOs_vr htm hxs j _ (List.getElem?_eq_getElem hjx)
                have hrd := deepA_ok hs hv he
                have e : (c.args.map a.eval).getD j undef = (c.args.toList.map a.eval).getD j undef := by simp
                rw [e]
                exact hrd.dmono (fun b hb => by
                  rcases hb with hb | ⟨i, B, m, _, q1, q2, rfl⟩
                  · exact hb.1
                  · exact hs.lt ⟨i, B, m, q1, q2, rfl⟩)
              · obtain ⟨rfl, hk⟩ := hR
                have hstep := hs.base.step (K := fun _ => False) (sto' := st.sto) (loc' := loc) hk (fun _ => False.elim) hs.len (fun _ _ h => h) (fun b h => .inl h) hs.inj
                  (fun _ _ i B l g1 g2 => .inl ⟨g1, g2, fun h => h⟩)
                obtain ⟨p1, p2⟩ := slots_put (d := d) (x := .d (.v r)) (v := r) hN htm hdN hstep.2 (.ofv h1)
                refine hnext _ st.sto _ w'' loc hK ⟨?_, ?_, hstep.1, hstep.2, ?_, hk.mono (fun _ _ h => h.elim)⟩
                · rw [hdst]; cases d <;> exact hd
                · rw [hdst]; exact p1
                · rw [hdst]; exact p2
          · rename_i u' hf
            obtain ⟨f, vs, ks, gs, rfl, h1, hwp⟩ := hwp
            rw [hf] at vx
            have hx := vx.v_inv
            have h2 : ks.map (val gh N a) = vs := isVs_ok h1 (by simp) (lks_vr htm ks)
            refine enter_by (T := T) (K := K) (f := f) hd hN hdst hdN htm (args := c.args.map a.eval ++ vs.toArray) ?_ (fun hok => ?_) hnext
            · have := callG_sound (us := c.args.toList.map a.eval ++ (ks.map (val gh N a) ++ gs.map (val gh N a))) hs.base (by simp [lowOs_len hxs]) (getD_append (by simp [lowOs_len hxs]) (lowOs_vr htm hxs) (getD_append (by simp) (lks_vr htm ks) (lks_vr htm gs))) hwp
              have e : (c.args.toList.map a.eval ++ (ks.map (val gh N a) ++ gs.map (val gh N a))).take (xs.length + ks.length) = c.args.toList.map a.eval ++ vs := by
                rw [← List.append_assoc, ← h2]
                have hl : xs.length + ks.length = (c.args.toList.map a.eval ++ ks.map (val gh N a)).length := by simp [← lowOs_len hxs]
                rw [hl, List.take_left]
              rw [e] at this
              have e2 : (c.args.toList.map a.eval ++ vs).toArray = c.args.map a.eval ++ vs.toArray := by simp
              rwa [e2] at this
            · exact run_call_val ho hc hx hok
          · exact hwp.elim
        · cases hq
      · cases hq

theorem gd_ok {st : ASt} {a : Act} {w : World} {loc : List Loc} {ops : Array Oper} {o : Oper} {g : Option (Nat × Bool)} (hN : a.tmps.size = N)
    (htm : ∀ k x, (k, x) ∈ st.tm → VR P w (Fre A w st.sto loc) loc x (val gh N a k)) (hg : lowG N ops o.guard = some g) :
    (g = none → Region.wanted o (yielded ops a.tmps) = true) ∧
    (∀ k want b, g = some (k, want) → gdA want (lk st.tm k) = some b → Region.wanted o (yielded ops a.tmps) = b) := by
  cases ho : o.guard with
  | none =>
    rw [ho] at hg; cases hg
    exact ⟨fun _ => by simp [Region.wanted, ho], fun k want b h => by cases h⟩
  | some p =>
    obtain ⟨j, want⟩ := p
    rw [ho] at hg
    simp only [lowG] at hg
    obtain ⟨d, hd, hg⟩ := Option.bind_eq_some_iff.1 hg
    split at hg
    · rename_i hdN
      cases hg
      refine ⟨fun h => (by cases h), fun k want' b h hb => ?_⟩
      cases h
      have hv := SAT.lk htm d
      have hy : a.tmps[d]? = some (val gh N a d) := by
        simp only [val, if_pos hdN]
        simp [hN, hdN]
      simp only [Region.wanted, ho, yielded, hd, Option.bind_some, hy]
      unfold gdA at hb
      split at hb
      · rename_i b' e
        cases hb
        rw [e] at hv
        rw [hv.v_inv]
        cases b' <;> cases want <;> rfl
      · rename_i e
        cases hb
        rw [e] at hv
        generalize hu : val gh N a d = u at hv
        cases hv with
        | tup us hsz h => rfl
      · cases hb
    · cases hg

theorem op_sound {st : ASt} {a : Act} {w : World} {loc : List Loc} {ops : Array Oper} {o : Oper} {T : Nat → Prop} {K : ASt → Prop} {q : AQ} {next : Act → World → Prop} {Q : Exit → Act → World → Prop}
    (hs : SR P w0 G A st.sto loc w) (hd : a.defers = []) (hN : a.tmps.size = N)
    (htm : ∀ k x, (k, x) ∈ st.tm → VR P w (Fre A w st.sto loc) loc x (val gh N a k)) (hq : lowOper P N ops o = some q) (hwp : wpG P T st q K)
    (hnext : ∀ (st' : ASt) (a' : Act) (w' : World) (loc' : List Loc), K st' → Aft P A gh N T st loc w st' loc' a' w' → next a' w') :
    if Region.wanted o (yielded ops a.tmps) = true then o.wp P a w next Q ∨ (o.asks P a w ∧ LetsOut Q) else next (a.put o.dst undef) w := by
  obtain ⟨i, h1, hq⟩ := Option.bind_eq_some_iff.1 hq
  obtain ⟨g, h2, hq⟩ := Option.bind_eq_some_iff.1 hq
  obtain ⟨d, h3, rfl⟩ := Option.map_eq_some_iff.1 hq
  obtain ⟨hdst, hdN⟩ := lowD_ok h3
  obtain ⟨g1, g2⟩ := gd_ok (gh := gh) hN htm h2
  unfold wpG at hwp
  cases g with
  | none =>
    rw [if_pos (g1 rfl)]
    exact .inl (opI_sound hs hd hN hdst hdN htm h1 hwp (fun x s a' w' loc' hK h => hnext _ a' w' loc' hK h))
  | some p =>
    obtain ⟨k, want⟩ := p
    obtain ⟨b, hb, ht, hf⟩ := hwp
    rw [g2 k want b rfl hb]
    cases b with
    | true => exact .inl (opI_sound hs hd hN hdst hdN htm h1 (ht rfl) (fun x s a' w' loc' hK h => hnext _ a' w' loc' hK h))
    | false =>
      rw [if_neg (by simp)]
      obtain ⟨p1, p2⟩ := slots_put (d := d) (x := .tup []) (v := undef) hN htm hdN (fun _ _ h => h) (.tup #[] rfl (fun j x hx => by simp at hx))
      refine hnext _ _ w loc (hf rfl) ⟨?_, ?_, hs.base, fun _ _ h => h, ?_, Kp.refl _ _⟩
      · rw [hdst]; cases d <;> exact hd
      · rw [hdst]; exact p1
      · rw [hdst]; exact p2

end
end Go.Proofs.Ytccfejnckmokkaa.Va

/-! Regions: their laws, in text order and in any order. Condition: none. -/
namespace Go.Proofs.Ytccfejnckmokkaa.Va
open Go

/-! ### Any order, with what is held -/

section
variable {P : Program} {ops : Array Oper} {Q : Exit → Act → World → Prop} {md : Region.Mode}

def waitsOn (ops : Array Oper) (j i : Nat) : Bool :=
  match ops[j]? with
  | some o => o.after.any fun e => Region.binds .any e && e.on == i
  | none => false

def wpAnyS (P : Program) (ops : Array Oper) (Q : Exit → Act → World → Prop) : Nat → Array Bool → List (Nat × (World → Prop)) → Act → World → Prop
  | 0, listed, _, a, w => Region.ready .any ops listed = [] ∧ Q .normal a w
  | fuel + 1, listed, hs, a, w =>
    (Region.ready .any ops listed = [] → Q .normal a w) ∧
    ∀ i ∈ Region.ready .any ops listed, wpOp P ops Q i (fun a' w' => (∀ p, p ∈ hs.filter (fun p => !waitsOn ops i p.1) → p.2 w') ∧
      wpAnyS P ops Q fuel (listed.setIfInBounds i true) (hs.filter (fun p => !waitsOn ops i p.1)) a' w') a w

theorem wpAny_of_S : ∀ (fuel : Nat) (listed : Array Bool) (hs : List (Nat × (World → Prop))) (a : Act) (w : World), wpAnyS P ops Q fuel listed hs a w → wpAny P .any ops Q fuel listed a w
  | 0, _, _, _, _, h => h
  | fuel + 1, _, _, _, _, h => ⟨h.1, fun i hi => wpOp_mono (fun a' w' h' => wpAny_of_S fuel _ _ a' w' h'.2) (h.2 i hi)⟩

theorem wpAnyS_first {S : World → Prop} {i : Nat} {oi : Oper} {v : Value} (hi : ops[i]? = some oi) (hsel : ∀ (j : Nat) (o : Oper) cs b, ops[j]? = some o → o.op ≠ .select cs b)
    (hQ : ∀ c a w, Q (.panic c) (a.put oi.dst v) w → Q (.panic c) a w) :
    ∀ (fuel : Nat) (listed : Array Bool) (hs : List (Nat × (World → Prop))) (a : Act) (w : World),
      (∀ j oj, ops[j]? = some oj → j ≠ i → listed.getD j true = false → (∀ e ∈ oj.after, Region.binds .any e = true → e.on ≠ i) → oi.apart ops oj = true) →
      i ∈ Region.ready .any ops listed → YieldsIf P ops S oi v a → S w → (∀ p, p ∈ hs → p.2 w) →
      wpAnyS P ops Q fuel (listed.setIfInBounds i true) ((i, S) :: hs) (a.put oi.dst v) w → wpAnyS P ops Q (fuel + 1) listed hs a w := by
  have weak : ∀ (fuel : Nat) (listed : Array Bool) (hs hs' : List (Nat × (World → Prop))) (a : Act) (w : World), (∀ p, p ∈ hs' → p ∈ hs) → wpAnyS P ops Q fuel listed hs a w → wpAnyS P ops Q fuel listed hs' a w := by
    intro fuel
    induction fuel with
    | zero => intro listed hs hs' a w _ h; exact h
    | succ fuel ih =>
      intro listed hs hs' a w hsub h
      have hf : ∀ j p, p ∈ hs'.filter (fun p => !waitsOn ops j p.1) → p ∈ hs.filter (fun p => !waitsOn ops j p.1) := fun j p hp => by
        rw [List.mem_filter] at hp ⊢; exact ⟨hsub p hp.1, hp.2⟩
      exact ⟨h.1, fun j hj => wpOp_mono (fun a' w' h' => ⟨fun p hp => h'.1 p (hf j p hp), ih _ _ _ a' w' (hf j) h'.2⟩) (h.2 j hj)⟩
  intro fuel
  induction fuel with
  | zero =>
    intro listed hs a w _ hr hy hS hhs H
    refine ⟨fun h => (by rw [h] at hr; cases hr), fun j hj => ?_⟩
    by_cases hji : j = i
    · subst hji
      exact hy.wpOp hi hS ⟨fun p hp => hhs p (List.mem_filter.1 hp).1, H⟩
    · have := ready_mono hj hji
      rw [H.1] at this
      cases this
  | succ fuel ih =>
    intro listed hs a w hfree hr hy hS hhs H
    refine ⟨fun h => (by rw [h] at hr; cases hr), fun j hj => ?_⟩
    by_cases hji : j = i
    · subst hji
      exact hy.wpOp hi hS ⟨fun p hp => hhs p (List.mem_filter.1 hp).1, weak _ _ _ _ _ _ (fun p hp => List.mem_cons_of_mem _ (List.mem_filter.1 hp).1) H⟩
    · have h1 := H.2 j (ready_mono hj hji)
      obtain ⟨hjun, oj, hoj, hall⟩ := mem_ready.1 hj
      have hnot : ∀ e ∈ oj.after, Region.binds .any e = true → e.on ≠ i := fun e he hb heq => by
        have h1 := hall e he hb
        have h0 := (mem_ready.1 hr).1
        rw [heq] at h1
        rcases Nat.lt_or_ge i listed.size with h' | h'
        · simp [h'] at h0 h1; rw [h0] at h1; cases h1
        · simp [Array.getElem?_eq_none h'] at h1
      have hnw : waitsOn ops j i = false := by
        simp only [waitsOn, hoj]
        rw [Bool.eq_false_iff]
        intro hx
        obtain ⟨e, he, hb⟩ := Array.any_eq_true'.1 hx
        simp only [Bool.and_eq_true, beq_iff_eq] at hb
        exact hnot e he hb.1 hb.2
      have h2 := wpOp_putIf (S := S) hoj (hfree j oj hoj hji hjun hnot) (fun cs b => hsel i oi cs b hi) (fun cs b => hsel j oj cs b hoj) hQ hy h1
      have hfree' : ∀ k ok, ops[k]? = some ok → k ≠ i → (listed.setIfInBounds j true).getD k true = false →
          (∀ e ∈ ok.after, Region.binds .any e = true → e.on ≠ i) → oi.apart ops ok = true := fun k ok hk hki hun hno => by
        refine hfree k ok hk hki ?_ hno
        by_cases hjk : j = k
        · subst hjk; exact hjun
        · rw [getD_set_ne true hjk] at hun; exact hun
      have hfil : ((i, S) :: hs).filter (fun p => !waitsOn ops j p.1) = (i, S) :: hs.filter (fun p => !waitsOn ops j p.1) := by
        rw [List.filter_cons_of_pos]; simp [hnw]
      rw [hfil] at h2
      refine wpOp_mono (fun a' w' h3 => ⟨fun p hp => h3.2.1 p (List.mem_cons_of_mem _ hp),
        ih (listed.setIfInBounds j true) _ a' w' hfree' (ready_mono hr (Ne.symm hji)) h3.1 (h3.2.1 _ List.mem_cons_self) (fun p hp => h3.2.1 p (List.mem_cons_of_mem _ hp)) ?_⟩) h2
      rw [Array.setIfInBounds_comm _ _ hji]
      exact h3.2.2
end

/-! ### Text order -/

def lowL (P : Program) (N : Nat) (ops : Array Oper) : List Oper → Option (List AQ)
  | [] => some []
  | o :: r => (lowOper P N ops o).bind fun q => (lowL P N ops r).map (q :: ·)

def wpL (P : Program) : List AQ → ASt → (ASt → Prop) → Prop
  | [], st, K => K st
  | q :: r, st, K => wpG P (fun _ => True) st q fun st' => wpL P r st' K

section
variable {P : Program} {w0 : World} {G A : Nat → Prop} {gh : List Value} {N : Nat}

theorem SAT.aft {T : Nat → Prop} {st st' : ASt} {loc loc' : List Loc} {w w' : World} {a' : Act} (hs : SR P w0 G A st.sto loc w) (h : Aft P A gh N T st loc w st' loc' a' w') : SAT P w0 G A gh N st' a' w' :=
  ⟨h.defers, h.size, loc', hs.rebase h.sr, h.tm⟩

theorem wpL_sound {ops : Array Oper} {K : ASt → Prop} {Q : Exit → Act → World → Prop} (hK : ∀ st a w, K st → SAT P w0 G A gh N st a w → Q .normal a w) :
    ∀ (r : List Oper) (k : Nat) (l : List AQ) (st : ASt) (a : Act) (w : World), (∀ j o, r[j]? = some o → ops[k + j]? = some o) → lowL P N ops r = some l → SAT P w0 G A gh N st a w → wpL P l st K →
      wpOps P ops Q ((List.range r.length).map (k + ·)) a w
  | [], k, l, st, a, w, _, hl, hsat, hwp => by
    cases hl
    exact hK st a w hwp hsat
  | o :: r, k, l, st, a, w, hops, hl, hsat, hwp => by
    obtain ⟨q, hq, hl⟩ := Option.bind_eq_some_iff.1 hl
    obtain ⟨l', hl', rfl⟩ := Option.map_eq_some_iff.1 hl
    obtain ⟨hd, hN, loc, hs, htm⟩ := hsat
    have h0 : ops[k]? = some o := by simpa using hops 0 o rfl
    have hrange : (List.range (o :: r).length).map (k + ·) = k :: (List.range r.length).map (k + 1 + ·) := by
      rw [List.length_cons, List.range_succ_eq_map, List.map_cons, List.map_map]
      simp only [Nat.add_zero, List.cons.injEq, true_and]
      apply List.map_congr_left; intro j _; simp; omega
    rw [hrange]
    simp only [wpOps, h0]
    have := op_sound (o := o) (next := wpOps P ops Q ((List.range r.length).map (k + 1 + ·))) (Q := Q) hs hd hN htm hq hwp (fun st' a' w' loc' hK' haft =>
      wpL_sound hK r (k + 1) l' st' a' w' (fun j o' hj => by have := hops (j + 1) o' (by simpa using hj); rw [← this]; congr 1; omega) hl' (SAT.aft hs haft) hK')
    exact this

end
end Go.Proofs.Ytccfejnckmokkaa.Va

/-! Regions that may come up in any order, by a plan: their law. Condition: none. -/
namespace Go.Proofs.Ytccfejnckmokkaa.Va
open Go

inductive Sch where
  | done
  | take (i : Nat) (s : Sch)
  | one (i : Nat) (s : Sch)
  | two (i : Nat) (s : Sch) (j : Nat) (t : Sch)
  | three (i : Nat) (s : Sch) (j : Nat) (t : Sch) (k : Nat) (u : Sch)

inductive ASch where
  | done
  | take (i : Nat) (q : AQ) (s : ASch)
  | one (q : AQ) (ws : List Nat) (s : ASch)
  | two (q : AQ) (ws : List Nat) (s : ASch) (r : AQ) (vs : List Nat) (t : ASch)
  | three (q : AQ) (ws : List Nat) (s : ASch) (r : AQ) (vs : List Nat) (t : ASch) (p : AQ) (us : List Nat) (u : ASch)

def isLd : AOI → Bool
  | .q (.ld _ _ _) => true
  | _ => false

def isQ : AOI → Bool
  | .q _ => true
  | _ => false

def isNone? {α : Type} : List α → Bool
  | [] => true
  | _ => false

def lowSch (P : Program) (N : Nat) (ops : Array Oper) : Nat → Array Bool → List Nat → Sch → Option ASch
  | _, listed, _, .done => if isNone? (Region.ready .any ops listed) = true then some .done else none
  | f + 1, listed, tk, .take i s => (ops[i]?).bind fun o => (lowOper P N ops o).bind fun q =>
    if isQ q.op = true ∧ Region.free .any ops listed i = true ∧ (Region.ready .any ops listed).contains i = true then
      (lowSch P N ops f (listed.setIfInBounds i true) (if isLd q.op then i :: tk else tk) s).map (.take i q ·) else none
  | f + 1, listed, tk, .one i s => (ops[i]?).bind fun o => (lowOper P N ops o).bind fun q =>
    if (Region.ready .any ops listed == [i]) = true then
      (lowSch P N ops f (listed.setIfInBounds i true) tk s).map (.one q (tk.filter (waitsOn ops i)) ·) else none
  | f + 1, listed, tk, .two i s j t => (ops[i]?).bind fun o => (lowOper P N ops o).bind fun q => (ops[j]?).bind fun o' => (lowOper P N ops o').bind fun q' =>
    if (Region.ready .any ops listed == [i, j]) = true then
      (lowSch P N ops f (listed.setIfInBounds i true) tk s).bind fun s' => (lowSch P N ops f (listed.setIfInBounds j true) tk t).map (.two q (tk.filter (waitsOn ops i)) s' q' (tk.filter (waitsOn ops j)) ·) else none
  | f + 1, listed, tk, .three i s j t k u => (ops[i]?).bind fun o => (lowOper P N ops o).bind fun q => (ops[j]?).bind fun o' => (lowOper P N ops o').bind fun q' => (ops[k]?).bind fun o'' => (lowOper P N ops o'').bind fun q'' =>
    if (Region.ready .any ops listed == [i, j, k]) = true then
      (lowSch P N ops f (listed.setIfInBounds i true) tk s).bind fun s' => (lowSch P N ops f (listed.setIfInBounds j true) tk t).bind fun t' => (lowSch P N ops f (listed.setIfInBounds k true) tk u).map (.three q (tk.filter (waitsOn ops i)) s' q' (tk.filter (waitsOn ops j)) t' q'' (tk.filter (waitsOn ops k)) ·) else none
  | 0, _, _, _ => none

def isAlive (sto : Sto) (i : Nat) : Bool :=
  match sto[i]? with
  | some (some _) => true
  | _ => false

abbrev Hld := List (Nat × List Nat)

def holds (H : Hld) (i : Nat) : Bool := H.any fun p => p.2.contains i

def Hld.drop (H : Hld) (ws : List Nat) : Hld := H.filter fun p => !ws.contains p.1

def Hld.alive (H : Hld) (sto : Sto) : Bool := H.all fun p => p.2.all (isAlive sto)

def mayT (H : Hld) (sto : Sto) (i : Nat) : Prop := (isAlive sto i && !holds H i) = true

def rdI (st : ASt) : AOI → List Nat
  | .q q => rdQ st q
  | _ => []

def wpS (P : Program) : ASch → Hld → ASt → (ASt → Prop) → Prop
  | .done, _, st, K => K st
  | .take i q s, H, st, K =>
    (match q.gd with
    | none => wpI P (fun _ => True) st q.op fun x _ => wpS P s ((i, rdI st q.op) :: H) ⟨ptO q.dst x st.tm, st.sto⟩ K
    | some (g, want) => ∃ b, gdA want (lk st.tm g) = some b ∧ (b = true → wpI P (fun _ => True) st q.op fun x _ => wpS P s ((i, rdI st q.op) :: H) ⟨ptO q.dst x st.tm, st.sto⟩ K) ∧
      (b = false → wpS P s ((i, []) :: H) ⟨ptO q.dst (.tup []) st.tm, st.sto⟩ K))
  | .one q ws s, H, st, K => wpG P (mayT (H.drop ws) st.sto) st q fun st' => (H.drop ws).alive st'.sto = true ∧ wpS P s (H.drop ws) st' K
  | .two q ws s r vs t, H, st, K => (wpG P (mayT (H.drop ws) st.sto) st q fun st' => (H.drop ws).alive st'.sto = true ∧ wpS P s (H.drop ws) st' K) ∧
    (wpG P (mayT (H.drop vs) st.sto) st r fun st' => (H.drop vs).alive st'.sto = true ∧ wpS P t (H.drop vs) st' K)
  | .three q ws s r vs t p us u, H, st, K => (wpG P (mayT (H.drop ws) st.sto) st q fun st' => (H.drop ws).alive st'.sto = true ∧ wpS P s (H.drop ws) st' K) ∧
    (wpG P (mayT (H.drop vs) st.sto) st r fun st' => (H.drop vs).alive st'.sto = true ∧ wpS P t (H.drop vs) st' K) ∧
    (wpG P (mayT (H.drop us) st.sto) st p fun st' => (H.drop us).alive st'.sto = true ∧ wpS P u (H.drop us) st' K)

section
variable {P : Program} {w0 : World} {G A : Nat → Prop} {gh : List Value} {N : Nat}

def Agree (sto : Sto) (loc : List Loc) (w : World) (ids : List Nat) (w' : World) : Prop :=
  ∀ b, b < w.heap.size → (¬ Own sto loc b ∨ ∃ i l, i ∈ ids ∧ loc[i]? = some l ∧ l.b = b) → w'.heap[b]? = w.heap[b]?

def HRel (sto : Sto) (loc : List Loc) (w : World) (H : Hld) (hs : List (Nat × (World → Prop))) : Prop :=
  ∀ p, p ∈ hs → ∃ ids, (p.1, ids) ∈ H ∧ ∀ w', Agree sto loc w ids w' → p.2 w'

theorem isAlive_ok {sto : Sto} {i : Nat} (h : isAlive sto i = true) : ∃ B, sto[i]? = some (some B) := by
  unfold isAlive at h
  split at h
  · rename_i B e; exact ⟨B, e⟩
  · cases h

theorem Agree.refl (sto : Sto) (loc : List Loc) (w : World) (ids : List Nat) : Agree sto loc w ids w := fun _ _ _ => rfl

theorem HRel.here {sto : Sto} {loc : List Loc} {w : World} {H : Hld} {hs : List (Nat × (World → Prop))} (h : HRel sto loc w H hs) : ∀ p, p ∈ hs → p.2 w :=
  fun p hp => let ⟨_, _, h2⟩ := h p hp; h2 w (Agree.refl _ _ _ _)

theorem Hld.alive_ok {H : Hld} {sto : Sto} (h : H.alive sto = true) {i : Nat} {ids : List Nat} (hi : (i, ids) ∈ H) {k : Nat} (hk : k ∈ ids) : ∃ B, sto[k]? = some (some B) :=
  isAlive_ok (List.all_eq_true.1 (List.all_eq_true.1 h _ hi) k hk)

theorem holds_of {H : Hld} {i : Nat} {ids : List Nat} (hi : (i, ids) ∈ H) {k : Nat} (hk : k ∈ ids) : holds H k = true :=
  List.any_eq_true.2 ⟨_, hi, by simpa using hk⟩

theorem Agree.step {st st' : ASt} {loc loc' : List Loc} {w w' : World} {a' : Act} {H : Hld} (hs : SR P w0 G A st.sto loc w) (hal : H.alive st.sto = true) (h : Aft P A gh N (mayT H st.sto) st loc w st' loc' a' w')
    {i : Nat} {ids : List Nat} (hi : (i, ids) ∈ H) : Agree st.sto loc w ids w' ∧ ∀ w'', Agree st'.sto loc' w' ids w'' → Agree st.sto loc w ids w'' := by
  have h1 : Agree st.sto loc w ids w' := fun b hb hR => by
    rcases hR with hR | ⟨k, l, hk, hl, rfl⟩
    · exact h.sr.kept.block b hb hR
    · refine h.kp.block _ hb (fun ⟨j, m, hT, hm, e⟩ => ?_)
      simp only [mayT, Bool.and_eq_true, Bool.not_eq_true'] at hT
      obtain ⟨B, hB⟩ := isAlive_ok hT.1
      obtain ⟨C, hC⟩ := Hld.alive_ok hal hi hk
      have := hs.inj j k B C m l hB hC hm hl e
      subst this
      have := holds_of hi hk
      rw [hT.2] at this; cases this
  refine ⟨h1, fun w'' h2 b hb hR => ?_⟩
  rw [← h1 b hb hR]
  refine h2 b (Nat.lt_of_lt_of_le hb h.sr.kept.size) ?_
  rcases hR with hR | ⟨k, l, hk, hl, rfl⟩
  · exact .inl (fun ho => (h.sr.mine b ho).elim hR (fun x => by omega))
  · have := h.vr (.ref k 0) _ (.ref hl)
    generalize hu : (Value.pointer (some ⟨l.b, l.o + 0, none⟩)) = u at this
    cases this with
    | @ref _ _ l' hl' =>
      injection hu with hu; injection hu with hu; injection hu with hb' _
      exact .inr ⟨k, l', hk, hl', hb'.symm⟩

theorem Hld.drop_mem {H : Hld} {ws : List Nat} {p : Nat × List Nat} : p ∈ H.drop ws ↔ p ∈ H ∧ ws.contains p.1 = false := by
  simp [Hld.drop, List.mem_filter]

theorem Hld.drop_alive {H : Hld} {ws : List Nat} {sto : Sto} (h : H.alive sto = true) : (H.drop ws).alive sto = true :=
  List.all_eq_true.2 fun p hp => List.all_eq_true.1 h p (Hld.drop_mem.1 hp).1

theorem HRel.step {ops : Array Oper} {st st' : ASt} {loc loc' : List Loc} {w w' : World} {a' : Act} {H : Hld} {hs : List (Nat × (World → Prop))} {tk : List Nat} {i : Nat} (hr : SR P w0 G A st.sto loc w) (hal : H.alive st.sto = true)
    (hh : HRel st.sto loc w H hs) (h : Aft P A gh N (mayT (H.drop (tk.filter (waitsOn ops i))) st.sto) st loc w st' loc' a' w') :
    (∀ p, p ∈ hs.filter (fun p => !waitsOn ops i p.1) → p.2 w') ∧ HRel st'.sto loc' w' (H.drop (tk.filter (waitsOn ops i))) (hs.filter (fun p => !waitsOn ops i p.1)) := by
  have key : ∀ p, p ∈ hs.filter (fun p => !waitsOn ops i p.1) → ∃ ids, (p.1, ids) ∈ H.drop (tk.filter (waitsOn ops i)) ∧ ∀ w', Agree st.sto loc w ids w' → p.2 w' := fun p hp => by
    obtain ⟨h1, h2⟩ := List.mem_filter.1 hp
    obtain ⟨ids, h3, h4⟩ := hh p h1
    refine ⟨ids, Hld.drop_mem.2 ⟨h3, ?_⟩, h4⟩
    rw [Bool.eq_false_iff]
    intro hc
    simp only [List.contains_eq_mem, List.mem_filter, decide_eq_true_eq] at hc
    simp [hc.2] at h2
  constructor
  · intro p hp
    obtain ⟨ids, h3, h4⟩ := key p hp
    exact h4 _ (Agree.step hr (Hld.drop_alive hal) h h3).1
  · intro p hp
    obtain ⟨ids, h3, h4⟩ := key p hp
    exact ⟨ids, h3, fun w'' h5 => h4 _ ((Agree.step hr (Hld.drop_alive hal) h h3).2 w'' h5)⟩

theorem wpAnyS_done {ops : Array Oper} {Q : Exit → Act → World → Prop} {listed : Array Bool} {a : Act} {w : World} {hs : List (Nat × (World → Prop))} (hr : Region.ready .any ops listed = []) (h : Q .normal a w) :
    ∀ fuel, wpAnyS P ops Q fuel listed hs a w
  | 0 => ⟨hr, h⟩
  | _ + 1 => ⟨fun _ => h, by rw [hr]; simp⟩

theorem rd_alive {st : ASt} {q : AOp} {x : AV} (h : evQ st q = some x) : ∀ i, i ∈ rdQ st q → isAlive st.sto i = true := by
  intro i hi
  unfold rdQ at hi
  split at hi
  · rename_i ag n y
    simp only [evQ] at h
    unfold ldA at h
    split at hi
    · rename_i j c e
      simp at hi; subst hi
      rw [e] at h
      simp only at h
      unfold isAlive
      split at h
      · rename_i e2; simp [e2]
      · rename_i e2; simp [e2]
      · rename_i e2; simp [e2]
      · cases h
    · simp at hi
  · rename_i y
    simp only [evQ] at h
    split at hi
    · rename_i j c n z e
      simp at hi; subst hi
      rw [e] at h
      obtain ⟨_, _, _, e2, _⟩ := b2sB_some (show b2sB st.sto[i]? c n = some x from h)
      simp [isAlive, e2]
    · simp at hi
  · simp at hi

theorem isNone?_ok {α : Type} {l : List α} (h : isNone? l = true) : l = [] := by cases l <;> first | rfl | cases h

theorem wpS_sound {ops : Array Oper} {K : ASt → Prop} {Q : Exit → Act → World → Prop} (hsel : Region.noSelect ops = true) (hP : ∀ c a w, ¬ Q (.panic c) a w)
    (hK : ∀ st a w, K st → SAT P w0 G A gh N st a w → Q .normal a w) :
    ∀ (fuel : Nat) (plan : Sch) (listed : Array Bool) (tk : List Nat) (s : ASch) (H : Hld) (hs : List (Nat × (World → Prop))) (st : ASt) (a : Act) (w : World) (loc : List Loc),
      lowSch P N ops fuel listed tk plan = some s → a.defers = [] → a.tmps.size = N → SR P w0 G A st.sto loc w → (∀ k x, (k, x) ∈ st.tm → VR P w (Fre A w st.sto loc) loc x (val gh N a k)) →
      HRel st.sto loc w H hs → H.alive st.sto = true → wpS P s H st K → wpAnyS P ops Q fuel listed hs a w := by
  intro fuel
  induction fuel with
  | zero =>
    intro plan listed tk s H hs st a w loc hl hd hN hr htm hh hal hwp
    cases plan with
    | done =>
      simp only [lowSch] at hl
      split at hl
      · rename_i hn
        cases hl
        exact wpAnyS_done (isNone?_ok hn) (hK st a w hwp ⟨hd, hN, loc, hr, htm⟩) _
      · cases hl
    | take => simp [lowSch] at hl
    | one => simp [lowSch] at hl
    | two => simp [lowSch] at hl
    | three => simp [lowSch] at hl
  | succ f ih =>
    intro plan listed tk s H hs st a w loc hl hd hN hr htm hh hal hwp
    have anchor : ∀ (i : Nat) (o : Oper) (q : AQ) (p : Sch) (s : ASch), ops[i]? = some o → lowOper P N ops o = some q → lowSch P N ops f (listed.setIfInBounds i true) tk p = some s →
        (wpG P (mayT (H.drop (tk.filter (waitsOn ops i))) st.sto) st q fun st' => (H.drop (tk.filter (waitsOn ops i))).alive st'.sto = true ∧ wpS P s (H.drop (tk.filter (waitsOn ops i))) st' K) →
        wpOp P ops Q i (fun a' w' => (∀ p, p ∈ hs.filter (fun p => !waitsOn ops i p.1) → p.2 w') ∧ wpAnyS P ops Q f (listed.setIfInBounds i true) (hs.filter (fun p => !waitsOn ops i p.1)) a' w') a w := by
      intro i o q p s ho hq hl' hwp'
      simp only [wpOp, ho]
      refine op_sound hr hd hN htm hq hwp' (fun st' a' w' loc' hK' haft => ?_)
      obtain ⟨e1, e2⟩ := HRel.step hr hal hh haft
      exact ⟨e1, ih p _ tk s _ _ st' a' w' loc' hl' haft.defers haft.size (hr.rebase haft.sr) haft.tm e2 hK'.1 hK'.2⟩
    cases plan with
    | done =>
      simp only [lowSch] at hl
      split at hl
      · rename_i hn
        cases hl
        exact wpAnyS_done (isNone?_ok hn) (hK st a w hwp ⟨hd, hN, loc, hr, htm⟩) _
      · cases hl
    | one i p =>
      simp only [lowSch] at hl
      obtain ⟨o, ho, hl⟩ := Option.bind_eq_some_iff.1 hl
      obtain ⟨q, hq, hl⟩ := Option.bind_eq_some_iff.1 hl
      split at hl
      · rename_i hready
        obtain ⟨s', hs', rfl⟩ := Option.map_eq_some_iff.1 hl
        have hready : Region.ready .any ops listed = [i] := by simpa using hready
        refine ⟨fun h => (by rw [hready] at h; cases h), fun j hj => ?_⟩
        rw [hready] at hj
        simp at hj; subst hj
        exact anchor _ o q p s' ho hq hs' hwp
      · cases hl
    | two i p j t =>
      simp only [lowSch] at hl
      obtain ⟨o, ho, hl⟩ := Option.bind_eq_some_iff.1 hl
      obtain ⟨q, hq, hl⟩ := Option.bind_eq_some_iff.1 hl
      obtain ⟨o', ho', hl⟩ := Option.bind_eq_some_iff.1 hl
      obtain ⟨q', hq', hl⟩ := Option.bind_eq_some_iff.1 hl
      split at hl
      · rename_i hready
        obtain ⟨s', hs', hl⟩ := Option.bind_eq_some_iff.1 hl
        obtain ⟨t', ht', rfl⟩ := Option.map_eq_some_iff.1 hl
        have hready : Region.ready .any ops listed = [i, j] := by simpa using hready
        refine ⟨fun h => (by rw [hready] at h; cases h), fun k hk => ?_⟩
        rw [hready] at hk
        simp at hk
        rcases hk with rfl | rfl
        · exact anchor _ o q p s' ho hq hs' hwp.1
        · exact anchor _ o' q' t t' ho' hq' ht' hwp.2
      · cases hl
    | three i p j t k u =>
      simp only [lowSch] at hl
      obtain ⟨o, ho, hl⟩ := Option.bind_eq_some_iff.1 hl
      obtain ⟨q, hq, hl⟩ := Option.bind_eq_some_iff.1 hl
      obtain ⟨o', ho', hl⟩ := Option.bind_eq_some_iff.1 hl
      obtain ⟨q', hq', hl⟩ := Option.bind_eq_some_iff.1 hl
      obtain ⟨o'', ho'', hl⟩ := Option.bind_eq_some_iff.1 hl
      obtain ⟨q'', hq'', hl⟩ := Option.bind_eq_some_iff.1 hl
      split at hl
      · rename_i hready
        obtain ⟨s', hs', hl⟩ := Option.bind_eq_some_iff.1 hl
        obtain ⟨t', ht', hl⟩ := Option.bind_eq_some_iff.1 hl
        obtain ⟨u', hu', rfl⟩ := Option.map_eq_some_iff.1 hl
        have hready : Region.ready .any ops listed = [i, j, k] := by simpa using hready
        refine ⟨fun h => (by rw [hready] at h; cases h), fun m hm => ?_⟩
        rw [hready] at hm
        simp at hm
        rcases hm with rfl | rfl | rfl
        · exact anchor _ o q p s' ho hq hs' hwp.1
        · exact anchor _ o' q' t t' ho' hq' ht' hwp.2.1
        · exact anchor _ o'' q'' u u' ho'' hq'' hu' hwp.2.2
      · cases hl
    | take i p =>
      simp only [lowSch] at hl
      obtain ⟨o, ho, hl⟩ := Option.bind_eq_some_iff.1 hl
      obtain ⟨q, hq, hl⟩ := Option.bind_eq_some_iff.1 hl
      split at hl
      · rename_i hc
        obtain ⟨s', hs', rfl⟩ := Option.map_eq_some_iff.1 hl
        obtain ⟨hisq, hfree, hready⟩ := hc
        obtain ⟨ai, h1, hq1⟩ := Option.bind_eq_some_iff.1 hq
        obtain ⟨g, h2, hq1⟩ := Option.bind_eq_some_iff.1 hq1
        obtain ⟨d, h3, hq1⟩ := Option.map_eq_some_iff.1 hq1
        subst hq1
        obtain ⟨hdst, hdN⟩ := lowD_ok h3
        obtain ⟨g1, g2⟩ := gd_ok (gh := gh) hN htm h2
        cases ai with
        | m => cases hisq
        | c => cases hisq
        | q qq =>
          have hqq : lowQ P N o.op = some qq := by
            unfold lowI at h1
            split at h1
            · rename_i e; cases h1; exact e
            · split at h1
              · cases h1
              · obtain ⟨_, _, e⟩ := Option.map_eq_some_iff.1 h1; cases e
          have fin : ∀ (S : World → Prop) (v : Value) (x : AV) (ids : List Nat), YieldsIf P ops S o v a → S w → (∀ w', Agree st.sto loc w ids w' → S w') → (∀ k, k ∈ ids → isAlive st.sto k = true) →
              VR P w (Fre A w st.sto loc) loc x v → wpS P s' ((i, ids) :: H) ⟨ptO d x st.tm, st.sto⟩ K → wpAnyS P ops Q (f + 1) listed hs a w := by
            intro S v x ids hy hS hag hids hv hw
            refine wpAnyS_first (S := S) ho (Region.noSelect_spec hsel) (fun c a w h => (hP _ _ _ h).elim) f listed hs a w (Region.free_spec ho hfree) (by simpa using hready) hy hS hh.here ?_
            obtain ⟨p1, p2⟩ := slots_put hN htm hdN (fun _ _ h => h) hv
            rw [hdst]
            refine ih p _ _ s' _ _ ⟨ptO d x st.tm, st.sto⟩ _ w loc hs' ?_ p1 hr p2 ?_ ?_ hw
            · cases d <;> exact hd
            · intro y hy
              rcases List.mem_cons.1 hy with rfl | hy
              · exact ⟨ids, List.mem_cons_self, hag⟩
              · obtain ⟨ids', e1, e2⟩ := hh y hy
                exact ⟨ids', List.mem_cons_of_mem _ e1, e2⟩
            · simp only [Hld.alive, List.all_cons, Bool.and_eq_true]
              exact ⟨List.all_eq_true.2 hids, hal⟩
          have run : ∀ x, evQ st qq = some x → Region.wanted o (yielded ops a.tmps) = true → wpS P s' ((i, rdQ st qq) :: H) ⟨ptO d x st.tm, st.sto⟩ K → wpAnyS P ops Q (f + 1) listed hs a w := by
            intro x he hw0 hw
            obtain ⟨v, hv, hrun⟩ := quiet_sound hr htm hqq he
            refine fin (Agree st.sto loc w (rdQ st qq)) v x (rdQ st qq) (.inl ⟨hw0, fun w' hag => hrun w' (fun b hb hR => hag b hb hR)⟩) (Agree.refl _ _ _ _) (fun _ h => h) (rd_alive he) hv hw
          simp only [wpS] at hwp
          cases g with
          | none =>
            obtain ⟨x, he, hw⟩ := hwp
            exact run x he (g1 rfl) hw
          | some gg =>
            obtain ⟨k, want⟩ := gg
            obtain ⟨b, hb, ht, hf⟩ := hwp
            cases b with
            | true =>
              obtain ⟨x, he, hw⟩ := ht rfl
              exact run x he (g2 k want true rfl hb) hw
            | false =>
              refine fin (fun _ => True) undef (.tup []) [] (.inr ⟨g2 k want false rfl hb, rfl⟩) trivial (fun _ _ => trivial) (fun k hk => by simp at hk) (.tup #[] rfl (fun j x hx => by simp at hx)) (hf rfl)
      · cases hl

end
end Go.Proofs.Ytccfejnckmokkaa.Va

/-! What is kept at the head of a loop, in an order of its own. Condition: none. -/
namespace Go.Proofs.Ytccfejnckmokkaa.Va
open Go

mutual
def idsX : AV → List Nat
  | .ref i _ => [i]
  | .sl i _ _ _ => [i]
  | .agg xs => idsXs xs
  | .tup xs => idsXs xs
  | .fn _ xs => idsXs xs
  | .d _ => []
  | .iref _ _ => []
  | .pfn _ => []
  | .is x _ => idsX x
  | .emp => []
  | .any => []
def idsXs : List AV → List Nat
  | [] => []
  | x :: r => idsX x ++ idsXs r
end

def idsBk (sto : Sto) (i : Nat) : List Nat :=
  match sto[i]? with
  | some (some (.mix cs)) => idsXs cs
  | _ => []

def addIds : List Nat → List Nat → List Nat
  | acc, [] => acc
  | acc, i :: r => addIds (if acc.contains i then acc else acc ++ [i]) r

def reach (sto : Sto) : Nat → List Nat → List Nat
  | 0, ids => ids
  | k + 1, ids => reach sto k (addIds ids (ids.flatMap (idsBk sto)))

def pos : List Nat → Nat → Option Nat
  | [], _ => none
  | j :: r, i => if j = i then some 0 else (pos r i).map (· + 1)

mutual
def renX (ids : List Nat) : AV → AV
  | .ref i c => (match pos ids i with | some j => .ref j c | none => .any)
  | .sl i c n z => (match pos ids i with | some j => .sl j c n z | none => .any)
  | .agg xs => .agg (renXs ids xs)
  | .tup xs => .tup (renXs ids xs)
  | .fn f xs => .fn f (renXs ids xs)
  | .d x => .d x
  | .iref cs c => .iref cs c
  | .pfn g => .pfn g
  | .is x v => .is (renX ids x) v
  | .emp => .emp
  | .any => .any
def renXs (ids : List Nat) : List AV → List AV
  | [] => []
  | x :: r => renX ids x :: renXs ids r
end

def renB (ids : List Nat) : Blk → Blk
  | .mix cs => .mix (renXs ids cs)
  | .dat z es => .dat z es
  | .var cs => .var cs

def norm (keep : List Nat) (st : ASt) : ASt :=
  let tm := keep.map fun k => (k, lk st.tm k)
  let ids := reach st.sto 2 (addIds [] (idsXs (tm.map (·.2))))
  ⟨tm.map fun p => (p.1, renX ids p.2), ids.map fun i => ((st.sto[i]?).bind id).map (renB ids)⟩

theorem addIds_nodup : ∀ (l acc : List Nat), acc.Nodup → (addIds acc l).Nodup
  | [], _, h => h
  | i :: r, acc, h => by
    simp only [addIds]
    refine addIds_nodup r _ ?_
    split
    · exact h
    · rename_i hc
      refine List.nodup_append.2 ⟨h, by simp, fun a ha b hb e => ?_⟩
      simp at hb; subst hb; subst e
      exact hc (by simpa using ha)

theorem reach_nodup (sto : Sto) : ∀ (k : Nat) (ids : List Nat), ids.Nodup → (reach sto k ids).Nodup
  | 0, _, h => h
  | k + 1, ids, h => reach_nodup sto k _ (addIds_nodup _ _ h)

theorem pos_ok : ∀ {ids : List Nat} {i j : Nat}, pos ids i = some j → ids[j]? = some i
  | [], i, j, h => by cases h
  | k :: r, i, j, h => by
    simp only [pos] at h
    split at h
    · rename_i e; cases h; simp [e]
    · obtain ⟨j', h1, rfl⟩ := Option.map_eq_some_iff.1 h
      simpa using pos_ok h1

theorem renXs_get (ids : List Nat) : ∀ (xs : List AV) (j : Nat), (renXs ids xs)[j]? = (xs[j]?).map (renX ids)
  | [], j => by simp [renXs]
  | x :: r, 0 => by simp [renXs]
  | x :: r, j + 1 => by simpa [renXs] using renXs_get ids r j

theorem renXs_len (ids : List Nat) : ∀ (xs : List AV), (renXs ids xs).length = xs.length
  | [] => rfl
  | x :: r => by simp [renXs, renXs_len ids r]

section
variable {P : Program} {w0 : World} {G A : Nat → Prop} {gh : List Value} {N : Nat}

theorem VR.ren {w : World} {F F' : Nat → Prop} {loc loc' : List Loc} {ids : List Nat} {x : AV} {u : Value} (h : VR P w F loc x u) (h1 : ∀ b, F b → F' b)
    (h2 : ∀ (i j : Nat) (l : Loc), ids[j]? = some i → loc[i]? = some l → loc'[j]? = some l) : VR P w F' loc' (renX ids x) u := by
  induction h with
  | d h => exact .d (h.mono h1 (fun _ _ => rfl))
  | agg us hs ho h ih =>
    simp only [renX]
    refine .agg us (by rw [renXs_len]; exact hs) ho (fun j x hx => ?_)
    rw [renXs_get] at hx
    obtain ⟨y, hy, rfl⟩ := Option.map_eq_some_iff.1 hx
    exact ih j y hy
  | tup us hs h ih =>
    simp only [renX]
    refine .tup us (by rw [renXs_len]; exact hs) (fun j x hx => ?_)
    rw [renXs_get] at hx
    obtain ⟨y, hy, rfl⟩ := Option.map_eq_some_iff.1 hx
    exact ih j y hy
  | ref h =>
    simp only [renX]
    split
    · rename_i j e; exact .ref (h2 _ _ _ (pos_ok e) h)
    · exact .any
  | sl h x a b c =>
    simp only [renX]
    split
    · rename_i j e; exact .sl (h2 _ _ _ (pos_ok e) h) x a b c
    · exact .any
  | emp => exact .emp
  | iref f hF hr hw => exact .iref f (h1 _ hF) (fun j d hd => (hr j d hd).mono h1 (fun _ _ => rfl)) hw
  | fn us hs h ih =>
    simp only [renX]
    refine .fn us (by rw [renXs_len]; exact hs) (fun j x hx => ?_)
    rw [renXs_get] at hx
    obtain ⟨y, hy, rfl⟩ := Option.map_eq_some_iff.1 hx
    exact ih j y hy
  | pfn h => exact .pfn (h.mono h1 (fun _ _ => rfl) (Nat.le_refl _))
  | is h e ih => exact .is ih e
  | any => exact .any

theorem SAT.norm {keep : List Nat} {st : ASt} {a : Act} {w : World} (h : SAT P w0 G A gh N st a w) : SAT P w0 G A gh N (norm keep st) a w := by
  obtain ⟨hd, hN, loc, hs, htm⟩ := h
  generalize hids : reach st.sto 2 (addIds [] (idsXs ((keep.map fun k => (k, Va.lk st.tm k)).map (·.2)))) = ids
  have hnd : ids.Nodup := by rw [← hids]; exact reach_nodup _ _ _ (addIds_nodup _ _ List.nodup_nil)
  have hnorm : Va.norm keep st = ⟨(keep.map fun k => (k, Va.lk st.tm k)).map fun p => (p.1, renX ids p.2), ids.map fun i => ((st.sto[i]?).bind id).map (renB ids)⟩ := by
    unfold Va.norm
    simp only [hids]
  rw [hnorm]
  let loc' : List Loc := ids.map fun i => (loc[i]?).getD ⟨0, 0, 0⟩
  have hl : ∀ (i j : Nat) (l : Loc), ids[j]? = some i → loc[i]? = some l → loc'[j]? = some l := fun i j l h1 h2 => by
    simp [loc', h1, h2]
  have hget : ∀ (j : Nat) (B' : Blk), (ids.map fun i => ((st.sto[i]?).bind id).map (renB ids))[j]? = some (some B') → ∃ (i : Nat) (B : Blk) (l : Loc), ids[j]? = some i ∧ st.sto[i]? = some (some B) ∧ B' = renB ids B ∧ loc[i]? = some l ∧ loc'[j]? = some l := fun j B' hj => by
    rw [List.getElem?_map] at hj
    obtain ⟨i, h1, h2⟩ := Option.map_eq_some_iff.1 hj
    obtain ⟨B, h3, h4⟩ := Option.map_eq_some_iff.1 h2
    obtain ⟨o, h5, h6⟩ := Option.bind_eq_some_iff.1 h3
    simp at h6; subst h6
    have hlt : i < loc.length := by rw [hs.len]; exact (List.getElem?_eq_some_iff.1 h5).1
    exact ⟨i, B, loc[i], h1, h5, h4.symm, List.getElem?_eq_getElem hlt, hl i j _ h1 (List.getElem?_eq_getElem hlt)⟩
  have hown : ∀ b, Own (ids.map fun i => ((st.sto[i]?).bind id).map (renB ids)) loc' b → Own st.sto loc b := fun b ⟨j, B', m, h1, h2, h3⟩ => by
    obtain ⟨i, B, l, _, k2, _, k4, k5⟩ := hget j B' h1
    rw [h2] at k5; cases k5
    exact ⟨i, B, _, k2, k4, h3⟩
  have hF : ∀ b, Fre A w st.sto loc b → Fre A w (ids.map fun i => ((st.sto[i]?).bind id).map (renB ids)) loc' b := fun b hb => ⟨hb.1, fun ho => hb.2.1 (hown b ho), hb.2.2⟩
  refine ⟨hd, hN, loc', ⟨by simp [loc'], ?_, fun b hb => hs.mine b (hown b hb), ?_, hs.kept, hs.al⟩, ?_⟩
  · intro j1 j2 B1 B2 m1 m2 h1 h2 h3 h4 e
    obtain ⟨i1, C1, l1, p1, p2, _, p4, p5⟩ := hget j1 B1 h1
    obtain ⟨i2, C2, l2, q1, q2, _, q4, q5⟩ := hget j2 B2 h2
    rw [h3] at p5; cases p5
    rw [h4] at q5; cases q5
    have := hs.inj i1 i2 C1 C2 _ _ p2 q2 p4 q4 e
    subst this
    have a1 := List.getElem?_eq_some_iff.1 p1
    have a2 := List.getElem?_eq_some_iff.1 q1
    exact (List.getElem_inj hnd).1 (a1.2.trans a2.2.symm)
  · intro j B' m h1 h2
    obtain ⟨i, B, l, p1, p2, rfl, p4, p5⟩ := hget j B' h1
    rw [h2] at p5; cases p5
    obtain ⟨f, hat, hrb⟩ := hs.blk i B _ p2 p4
    cases B with
    | dat z es => exact ⟨f, hat, hrb.1, fun j d hd => (hrb.2 j d hd).mono hF (fun _ _ => rfl)⟩
    | var cs => exact ⟨f, hat, fun j d hd => (hrb j d hd).mono hF (fun _ _ => rfl)⟩
    | mix cs =>
      refine ⟨f, ?_, fun j x hx => ?_⟩
      · simpa [renB, Blk.len, renXs_len] using hat
      · rw [renXs_get] at hx
        obtain ⟨y, hy, rfl⟩ := Option.map_eq_some_iff.1 hx
        exact ⟨(hrb j y hy).1.ren hF hl, (hrb j y hy).2⟩
  · intro k x hx
    obtain ⟨p, hp, e⟩ := List.mem_map.1 hx
    obtain ⟨k', hk', rfl⟩ := List.mem_map.1 hp
    cases e
    exact (SAT.lk htm _).ren hF hl

end
end Go.Proofs.Ytccfejnckmokkaa.Va

/-! The code of a function: its law. Condition: none. -/
namespace Go.Proofs.Ytccfejnckmokkaa.Va
open Go

inductive AC where
  | skip
  | reg (l : List AQ)
  | sch (s : ASch)
  | seq (a b : AC)
  | cond (c : Opd) (a b : AC)
  | block (id : Nat) (c : AC)
  | loop (keep : List Nat) (c : AC)
  | exit (id : Nat)
  | ret
  | bad
  | cut (keep : List Nat)

inductive An where
  | k (l : List Nat)
  | s (p : Sch)
  | x (id : Nat)
  | c (id : Nat) (l : List Nat)

def cutA (id : Nat) : List An → Option (List Nat × List An)
  | .c i l :: r => if i = id then some (l, r) else none
  | _ => none
def isBad (id : Nat) : List An → Bool
  | .x i :: _ => i == id
  | _ => false

def lowCode (P : Program) (N : Nat) : Code → List An → Option (AC × List An)
  | .skip, an => some (.skip, an)
  | .label _, an => some (.skip, an)
  | .region id ops draw, an =>
    if isBad id an = true then some (.bad, an.tail) else
    (match draw, an with
    | false, an => (lowL P N ops ops.toList).map fun l => (.reg l, an)
    | true, .s p :: an => if P.follows .mixedOrders = true ∧ Region.noSelect ops = true then (lowSch P N ops ops.size (Array.replicate ops.size false) [] p).map fun s => (.sch s, an) else none
    | true, _ => none)
  | .seq a b, an => (lowCode P N a an).bind fun p => (lowCode P N b p.2).map fun q => (.seq p.1 q.1, q.2)
  | .cond c x y, an => (lowO N c).bind fun c' => (lowCode P N x an).bind fun p => (lowCode P N y p.2).map fun q => (.cond c' p.1 q.1, q.2)
  | .block id c, an => (lowCode P N c an).map fun p => match cutA id p.2 with
    | some q => (.seq (.block id p.1) (.cut q.1), q.2)
    | none => (.block id p.1, p.2)
  | .loop c, an => (match an with
    | .k l :: an => (lowCode P N c an).map fun p => (.loop l p.1, p.2)
    | _ => none)
  | .exit id, an => some (.exit id, an)
  | .ret, an => some (.ret, an)
  | _, _ => none

inductive X where
  | nor
  | ex (id : Nat)
  | ret

def X.to : X → Exit
  | .nor => .normal
  | .ex id => .exit id
  | .ret => .ret

def X.seq (k : ASt → Prop) (K : X → ASt → Prop) : X → ASt → Prop
  | .nor, st => k st
  | e, st => K e st

def X.blk (id : Nat) (K : X → ASt → Prop) : X → ASt → Prop
  | .ex i, st => if i = id then K .nor st else K (.ex i) st
  | e, st => K e st

def boolA : AV → Option Bool
  | .d (.v (.bool b)) => some b
  | _ => none

def wpLp (f : ASt → (X → ASt → Prop) → Prop) (keep : List Nat) : Nat → ASt → (X → ASt → Prop) → Prop
  | 0, _, _ => False
  | n + 1, st, K => f st (X.seq (fun st' => wpLp f keep n (norm keep st') K) K)

def wpA (P : Program) : AC → ASt → (X → ASt → Prop) → Prop
  | .skip, st, K => K .nor st
  | .reg l, st, K => wpL P l st (K .nor)
  | .sch s, st, K => wpS P s [] st (K .nor)
  | .seq a b, st, K => wpA P a st (X.seq (fun st' => wpA P b st' K) K)
  | .cond c a b, st, K => ∃ t, boolA (evO st.tm c) = some t ∧ (t = true → wpA P a st K) ∧ (t = false → wpA P b st K)
  | .block id c, st, K => wpA P c st (X.blk id K)
  | .loop keep c, st, K => ∃ n, wpLp (wpA P c) keep n (norm keep st) K
  | .exit id, st, K => K (.ex id) st
  | .ret, st, K => K .ret st
  | .bad, _, _ => False
  | .cut keep, st, K => K .nor (norm keep st)

section
variable {P : Program} {w0 : World} {G A : Nat → Prop} {gh : List Value} {N : Nat}

theorem wp_loopN {c : Code} {Q : Exit → Act → World → Prop} {R : Nat → Act → World → Prop} (h0 : ∀ a w, ¬ R 0 a w)
    (round : ∀ n a w, R (n + 1) a w → c.wp P (Exit.then (R n) Q) a w) (n : Nat) (a : Act) (w : World) (h : R n a w) : (Code.loop c).wp P Q a w := by
  intro b k cs
  have key : ∀ n a w, R n a w → ∃ e a' w', Q e a' w' ∧ Arrives P (lone (b.at a (.code c :: .inLoop c :: k)) cs w) b k cs e a' w' := by
    intro n
    induction n with
    | zero => intro a w h; exact (h0 a w h).elim
    | succ n ih =>
      intro a w hR
      obtain ⟨e, a₁, w₁, hq, harr⟩ := round n a w hR b (.inLoop c :: k) cs
      cases e with
      | normal =>
        obtain ⟨e₂, a₂, w₂, hq₂, harr₂⟩ := ih a₁ w₁ hq
        exact ⟨e₂, a₂, w₂, hq₂, .of_steps (Steps.trans harr (.one step_inLoop)) harr₂⟩
      | exit id => exact ⟨_, a₁, w₁, hq, .pass (x := .inLoop c) rfl (fun _ _ => .inl (by simp)) harr⟩
      | goto l => exact ⟨_, a₁, w₁, hq, .pass (x := .inLoop c) rfl (fun _ _ => .inl (by simp)) harr⟩
      | ret => exact ⟨_, a₁, w₁, hq, .pass (x := .inLoop c) rfl (fun _ _ => .inl (by simp)) harr⟩
      | panic ch => exact ⟨_, a₁, w₁, hq, .pass (x := .inLoop c) rfl (fun _ _ => .inl (by simp)) harr⟩
      | outgrown => exact ⟨_, a₁, w₁, hq, .pass (x := .inLoop c) rfl (fun _ _ => .inl (by simp)) harr⟩
  obtain ⟨e, a', w', hq, harr⟩ := key n a w h
  exact ⟨e, a', w', hq, .of_steps (.one step_loop) harr⟩

theorem SAT.drew {st : ASt} {a : Act} {w : World} (h : SAT P w0 G A gh N st a w) : SAT P w0 G A gh N st a { w with drawn := w.drawn + 1 } := by
  obtain ⟨h1, h2, loc, h3, h4⟩ := h
  have hstep := h3.step (K := fun _ => False) (sto' := st.sto) (loc' := loc) (w' := w.drew) (Kp.drew _ w) (fun _ => False.elim) h3.len (fun _ _ h => h) (fun b h => .inl h) h3.inj
    (fun _ _ i B l g1 g2 => .inl ⟨g1, g2, fun h => h⟩)
  exact ⟨h1, h2, loc, hstep.1, fun k x hx => hstep.2 _ _ (h4 k x hx)⟩

theorem boolA_ok {w : World} {F : Nat → Prop} {loc : List Loc} {x : AV} {u : Value} {b : Bool} (h : VR P w F loc x u) (hb : boolA x = some b) : u = .bool b := by
  unfold boolA at hb
  split at hb
  · cases hb; exact h.v_inv
  · cases hb

theorem wpA_sound : ∀ (c : Code) (an : List An) (ac : AC) (an' : List An) (st : ASt) (a : Act) (w : World) (K : X → ASt → Prop) (Q : Exit → Act → World → Prop),
    lowCode P N c an = some (ac, an') → (∀ ch a w, ¬ Q (.panic ch) a w) → (∀ e st a w, K e st → SAT P w0 G A gh N st a w → Q e.to a w) →
    SAT P w0 G A gh N st a w → wpA P ac st K → c.wp P Q a w := by
  intro c
  induction c with
  | skip =>
    intro an ac an' st a w K Q hl hP hK hsat hwp
    cases hl
    exact wp_skip (hK .nor st a w hwp hsat)
  | label l =>
    intro an ac an' st a w K Q hl hP hK hsat hwp
    cases hl
    exact wp_label (hK .nor st a w hwp hsat)
  | region id ops draw =>
    intro an ac an' st a w K Q hl hP hK hsat hwp
    simp only [lowCode] at hl
    by_cases hx : isBad id an = true
    · rw [if_pos hx] at hl; cases hl; exact hwp.elim
    rw [if_neg hx] at hl
    clear hx
    split at hl
    · obtain ⟨l, h1, e⟩ := Option.map_eq_some_iff.1 hl
      cases e
      refine wp_region ?_
      have := wpL_sound (ops := ops) (Q := Q) (K := K .nor) (fun st a w h1 h2 => hK .nor st a w h1 h2) ops.toList 0 l st a w (fun j o hj => by simpa using hj) h1 hsat hwp
      simpa using this
    · rename_i p an2
      split at hl
      · rename_i hc
        obtain ⟨s, h1, e⟩ := Option.map_eq_some_iff.1 hl
        cases e
        refine wp_region_any hc.1 (wpAny_of_S _ _ [] _ _ ?_)
        obtain ⟨h2, h3, loc, h4, h5⟩ := SAT.drew hsat
        exact wpS_sound (K := K .nor) hc.2 hP (fun st a w h1 h2 => hK .nor st a w h1 h2) _ p _ [] s [] [] st a _ loc h1 h2 h3 h4 h5 (fun p hp => by simp at hp) rfl hwp
      · cases hl
    · cases hl
  | seq x y ihx ihy =>
    intro an ac an' st a w K Q hl hP hK hsat hwp
    obtain ⟨⟨a1, n1⟩, h1, hl⟩ := Option.bind_eq_some_iff.1 hl
    obtain ⟨⟨a2, n2⟩, h2, e⟩ := Option.map_eq_some_iff.1 hl
    cases e
    refine wp_seq (ihx _ _ _ st a w _ _ h1 (fun ch a w h => hP ch a w h) (fun e st a w hk hs => ?_) hsat hwp)
    cases e with
    | nor => exact ihy _ _ _ st a w K Q h2 hP hK hs hk
    | ex id => exact hK (.ex id) st a w hk hs
    | ret => exact hK .ret st a w hk hs
  | cond cc x y ihx ihy =>
    intro an ac an' st a w K Q hl hP hK hsat hwp
    obtain ⟨c', h0, hl⟩ := Option.bind_eq_some_iff.1 hl
    obtain ⟨⟨a1, n1⟩, h1, hl⟩ := Option.bind_eq_some_iff.1 hl
    obtain ⟨⟨a2, n2⟩, h2, e⟩ := Option.map_eq_some_iff.1 hl
    cases e
    obtain ⟨t, hb, ht, hf⟩ := hwp
    have hsat' := hsat
    obtain ⟨_, _, loc, hs, htm⟩ := hsat
    have hc := boolA_ok (evO_ok htm h0) hb
    exact wp_cond_split hc (fun e => ihx _ _ _ st a w K Q h1 hP hK hsat' (ht e)) (fun e => ihy _ _ _ st a w K Q h2 hP hK hsat' (hf e))
  | block id x ih =>
    intro an ac an' st a w K Q hl hP hK hsat hwp
    obtain ⟨⟨a1, n1⟩, h1, e⟩ := Option.map_eq_some_iff.1 hl
    have key : ∀ K' : X → ASt → Prop, (∀ e st a w, K' e st → SAT P w0 G A gh N st a w → Q e.to a w) → wpA P a1 st (X.blk id K') → (Code.block id x).wp P Q a w := fun K' hK' hwp => by
      refine wp_block (ih _ _ _ st a w _ _ h1 (fun ch a w h => hP ch a w h) (fun e st a w hk hs => ?_) hsat hwp)
      cases e with
      | nor => exact hK' .nor st a w hk hs
      | ret => exact hK' .ret st a w hk hs
      | ex i =>
        simp only [X.blk] at hk
        simp only [X.to, Exit.inBlock]
        split at hk
        · rename_i e; rw [if_pos e]; exact hK' .nor st a w hk hs
        · rename_i e; rw [if_neg e]; exact hK' (.ex i) st a w hk hs
    simp only at e
    split at e
    · rename_i q _
      cases e
      refine key (X.seq (fun st' => K .nor (norm q.1 st')) K) (fun e st a w hk hs => ?_) hwp
      cases e with
      | nor => exact hK .nor _ a w hk (SAT.norm hs)
      | ret => exact hK .ret st a w hk hs
      | ex i => exact hK (.ex i) st a w hk hs
    · cases e
      exact key K hK hwp
  | loop x ih =>
    intro an ac an' st a w K Q hl hP hK hsat hwp
    simp only [lowCode] at hl
    split at hl
    · rename_i keep an2
      obtain ⟨⟨a1, n1⟩, h1, e⟩ := Option.map_eq_some_iff.1 hl
      cases e
      obtain ⟨n, hn⟩ := hwp
      refine wp_loopN (R := fun n a w => ∃ st, SAT P w0 G A gh N st a w ∧ wpLp (wpA P a1) keep n st K) (fun a w ⟨st, _, h⟩ => h) (fun n a w ⟨st, hs, h⟩ => ?_) n a w ⟨_, SAT.norm hsat, hn⟩
      refine ih _ _ _ st a w _ _ h1 (fun ch a w h => hP ch a w h) (fun e st a w hk hs => ?_) hs h
      cases e with
      | nor => exact ⟨_, SAT.norm hs, hk⟩
      | ex id => exact hK (.ex id) st a w hk hs
      | ret => exact hK .ret st a w hk hs
    · cases hl
  | exit id =>
    intro an ac an' st a w K Q hl hP hK hsat hwp
    cases hl
    exact wp_exit (hK (.ex id) st a w hwp hsat)
  | ret =>
    intro an ac an' st a w K Q hl hP hK hsat hwp
    cases hl
    exact wp_ret (hK .ret st a w hwp hsat)
  | goto l => intro an ac an' st a w K Q hl; cases hl
  | refuse s => intro an ac an' st a w K Q hl; cases hl
  | scope c => intro an ac an' st a w K Q hl; cases hl
  | rangeFunc f ps x y => intro an ac an' st a w K Q hl; cases hl

end
end Go.Proofs.Ytccfejnckmokkaa.Va

/-! A function's contract, out of its code. Condition: none. -/
namespace Go.Proofs.Ytccfejnckmokkaa.Va
open Go

inductive RVA where
  | t (k : Nat)
  | c (k : Nat) (ag : Bool) (n : Nat)

structure AF where
  np : Nat
  N : Nat
  rs : List RVA
  code : AC

def lowRV (P : Program) (N : Nat) : ResultVar → Option RVA
  | .tmp t => if t < N then some (.t t) else none
  | .cell a t => if a < N then (isAggT P t).bind fun ag => (szOf P t).map fun n => .c a ag n else none

def lowRVs (P : Program) (N : Nat) : List ResultVar → Option (List RVA)
  | [] => some []
  | x :: r => (lowRV P N x).bind fun y => (lowRVs P N r).map (y :: ·)

def lowF (P : Program) (f : FuncId) (np : Nat) (an : List An) : Option AF :=
  (P.funcs[f]?).bind fun fn => if (fn.name == "runtime.NumGoroutine") = true then none else fn.body.bind fun c =>
    (lowRVs P fn.ntmps fn.results.toList).bind fun rs => (lowCode P fn.ntmps c an).bind fun p => if np ≤ fn.ntmps ∧ np ≤ 1000 then some ⟨np, fn.ntmps, rs, p.1⟩ else none

def resV (st : ASt) : RVA → Option AV
  | .t k => some (lk st.tm k)
  | .c k ag n => ldA st.sto ag n (lk st.tm k)

def resL (st : ASt) : List RVA → Option (List AV)
  | [] => some []
  | x :: r => (resV st x).bind fun y => (resL st r).map (y :: ·)

def oneOf : List AV → AV
  | [x] => x
  | xs => .tup xs

def slots0 : Nat → List AV → List (Nat × AV)
  | _, [] => []
  | k, x :: r => (k, x) :: slots0 (k + 1) r

def start (N : Nat) (own : List Nat) (args : List R) : ASt :=
  let p := entAs args []
  ⟨slots0 0 p.1 ++ own.map fun j => (N + j, (p.1[j]?).getD .any), p.2⟩

def outL (own : List Nat) (N n : Nat) (r : AV) (st : ASt) : List R :=
  (leaL (leaA 4) (r :: (List.range n).map fun j => if own.contains j then lk st.tm (N + j) else .any) st.sto).1

def postF (rs : List RVA) (N np : Nat) (own : List Nat) (args' : List R) (res : R) : X → ASt → Prop
  | .ex _, _ => False
  | _, st => ∃ r, (resL st rs).map oneOf = some r ∧ RLes (outL own N np r st) (res :: args')

section
variable {P : Program} {w0 : World} {G A : Nat → Prop} {gh : List Value} {N : Nat}

theorem slots0_mem : ∀ (k : Nat) (xs : List AV) (j : Nat) (x : AV), (j, x) ∈ slots0 k xs → k ≤ j ∧ xs[j - k]? = some x
  | _, [], _, _, h => by simp [slots0] at h
  | k, y :: r, j, x, h => by
    simp only [slots0, List.mem_cons] at h
    rcases h with h | h
    · cases h; simp
    · obtain ⟨h1, h2⟩ := slots0_mem (k + 1) r j x h
      refine ⟨by omega, ?_⟩
      have : j - k = (j - (k + 1)) + 1 := by omega
      rw [this, List.getElem?_cons_succ]; exact h2

def rvRun (tmps : Array Value) : ResultVar → Sem Value
  | .tmp t => pure (tmps.getD t undef)
  | .cell p t => do loadVar t (← asAddr (tmps.getD p undef))

theorem results_rv (fn : Func) (tmps : Array Value) : results fn tmps = (do let vs ← fn.results.mapM (rvRun tmps); pure (if h : vs.size = 1 then vs[0] else .tuple vs)) := by
  unfold results
  congr 1

theorem resV_ok {st : ASt} {a : Act} {w : World} {loc : List Loc} (hs : SR P w0 G A st.sto loc w) (hN : a.tmps.size = N) (htm : ∀ k x, (k, x) ∈ st.tm → VR P w (Fre A w st.sto loc) loc x (val gh N a k))
    {rv : ResultVar} {x : RVA} {y : AV} (hl : lowRV P N rv = some x) (hy : resV st x = some y) :
    ∃ v, VR P w (Fre A w st.sto loc) loc y v ∧ (rvRun a.tmps rv).run P w = .ok v w := by
  cases rv with
  | tmp t =>
    simp only [lowRV] at hl
    split at hl
    · rename_i ht
      cases hl; cases hy
      have := SAT.lk htm t
      simp only [val, if_pos ht] at this
      exact ⟨_, this, by simp [rvRun]⟩
    · cases hl
  | cell p t =>
    simp only [lowRV] at hl
    split at hl
    · rename_i hp
      obtain ⟨ag, h1, hl⟩ := Option.bind_eq_some_iff.1 hl
      obtain ⟨n, h2, rfl⟩ := Option.map_eq_some_iff.1 hl
      have hq : lowQ P N ({ (default : Oper) with op := .load t (.tmp p) }).op = some (.ld ag n (.t p)) := by simp [lowQ, lowO, hp, h1, h2]
      obtain ⟨v, hv, hrun⟩ := quiet_sound (o := { (default : Oper) with op := .load t (.tmp p) }) hs htm hq (x := y) (by simpa [evQ, evO, resV] using hy)
      refine ⟨v, hv, ?_⟩
      simp only [rvRun]
      have hr := hrun w (fun _ _ _ => rfl)
      have hu : a.eval (.tmp p) = val gh N a p := by simp [Act.eval, val, hp]
      have hu' : a.tmps.getD p undef = val gh N a p := by simp [val, hp]
      have vx := SAT.lk htm p
      simp only [execOp, hu] at hr
      simp only [hu']
      simp only [resV] at hy
      generalize val gh N a p = u at vx hr
      have fin : ∀ ad : Addr, u = .pointer (some ad) → Sem.run P (do loadVar t (← asAddr u)) w = .ok v w := fun ad e => by
        subst e
        simp only [Instr.loadAt, Instr.sureAddr, pure_bind, Sem.run_bind] at hr
        simp only [asAddr, pure_bind]
        cases hx : (loadVar t ad).run P w with
        | ok v' w' =>
          rw [hx] at hr
          simp at hr
          rw [hr.1, hr.2]
        | halt e w' => rw [hx] at hr; simp at hr
      unfold ldA at hy
      split at hy
      · rename_i e; rw [e] at vx; cases vx with | ref h => exact fin _ rfl
      · rename_i e; rw [e] at vx; cases vx with | iref => exact fin _ rfl
      · cases hy
    · cases hl

theorem resL_ok {st : ASt} {a : Act} {w : World} {loc : List Loc} (hs : SR P w0 G A st.sto loc w) (hN : a.tmps.size = N) (htm : ∀ k x, (k, x) ∈ st.tm → VR P w (Fre A w st.sto loc) loc x (val gh N a k)) :
    ∀ {rvs : List ResultVar} {xs : List RVA} {ys : List AV}, lowRVs P N rvs = some xs → resL st xs = some ys →
      ∃ vs : List Value, vs.length = ys.length ∧ (∀ j y, ys[j]? = some y → VR P w (Fre A w st.sto loc) loc y (vs.getD j undef)) ∧
        (rvs.mapM (rvRun a.tmps)).run P w = .ok vs w
  | [], xs, ys, hl, hy => by cases hl; cases hy; exact ⟨[], rfl, fun j y h => by simp at h, by simp⟩
  | rv :: r, xs, ys, hl, hy => by
    obtain ⟨x, h1, hl⟩ := Option.bind_eq_some_iff.1 hl
    obtain ⟨xs', h2, rfl⟩ := Option.map_eq_some_iff.1 hl
    obtain ⟨y, h3, hy⟩ := Option.bind_eq_some_iff.1 hy
    obtain ⟨ys', h4, rfl⟩ := Option.map_eq_some_iff.1 hy
    obtain ⟨v, e1, e2⟩ := resV_ok hs hN htm h1 h3
    obtain ⟨vs, f1, f2, f3⟩ := resL_ok hs hN htm h2 h4
    refine ⟨v :: vs, by simp [f1], fun j z hz => ?_, ?_⟩
    · cases j with
      | zero => simp at hz; subst hz; simpa using e1
      | succ j => simpa using f2 j z (by simpa using hz)
    · rw [List.mapM_cons, Sem.run_bind, e2, Result.andThen_ok, Sem.run_bind, f3, Result.andThen_ok]; simp

def Start (N n : Nat) (args : List R) (k : Nat) (x : AV) : Prop :=
  (k < n ∧ (entAs args []).1[k]? = some x) ∨ (∃ j, k = N + j ∧ (x = .any ∨ (entAs args []).1[j]? = some x ∨ ∃ r v y, args[j]? = some (.is r v) ∧ (entAs args []).1[j]? = some y ∧ x = .is y v)) ∨
    ∃ (g j : Nat) (r : R) (y : AV), k = N + 1000 + g ∧ args[j]? = some (.is r (.pointer (some ⟨g, 0, none⟩))) ∧ (entAs args []).1[j]? = some y ∧ x = y

theorem entAs_len : ∀ (l : List R) (s : Sto), (entAs l s).1.length = l.length
  | [], _ => rfl
  | x :: r, s => by simp [entAs, entAs_len r]

theorem ARs.is_val {w : World} {F : Nat → Prop} : ∀ {args : List R} {us : List Value} {bs : List Nat} {j : Nat} {r : R} {v : Value}, ARs P w F args us bs → args[j]? = some (.is r v) → us.getD j undef = v
  | _, _, _, j, r, v, .nil, h => by simp at h
  | _, _, _, 0, r, v, .cons h hs, e => by
    simp at e; subst e
    cases h with
    | is _ e => simpa using e
  | _, _, _, j + 1, r, v, .cons h hs, e => by simpa using ARs.is_val hs (by simpa using e)

theorem den_of_tm {f : FuncId} {an : List An} {args args' : List R} {res : R} {af : AF} {n : Nat} {tm0 : List (Nat × AV)} (own : List Nat) (hl : lowF P f n an = some af) (hn : n ≤ args.length ∧ args.length ≤ 1000)
    (h0 : ∀ k x, (k, x) ∈ tm0 → Start af.N n args k x)
    (h : wpA P af.code ⟨tm0, (entAs args []).2⟩ (postF af.rs af.N args.length own args' res)) : DenG P f n args args' res := by
  unfold lowF at hl
  obtain ⟨fn, hfn, hl⟩ := Option.bind_eq_some_iff.1 hl
  split at hl
  · cases hl
  rename_i hname
  obtain ⟨c, hc, hl⟩ := Option.bind_eq_some_iff.1 hl
  obtain ⟨rs, hrs, hl⟩ := Option.bind_eq_some_iff.1 hl
  obtain ⟨⟨ac, an'⟩, hac, hl⟩ := Option.bind_eq_some_iff.1 hl
  split at hl
  case isFalse => cases hl
  rename_i hnp0
  obtain ⟨hnp, hnp2⟩ := hnp0
  obtain ⟨hn, hn1000⟩ := hn
  cases hl
  refine ⟨⟨fn, hfn, by simpa using hname, by simp [hc]⟩, fun w F us bs hars hnd hlt hF => ?_⟩
  refine calls_of_wp hfn hc ?_
  obtain ⟨ls, n1, n2, n3⟩ := entAs_ok hars []
  have hlen : (entAs args []).1.length = args.length := entAs_len _ _
  have hus : us.length = args.length := by rw [← n2, hlen]
  have n3' := n3 [] [] rfl
  simp only [List.nil_append, List.append_nil] at n3'
  have hown : ∀ b, Own (entAs args []).2 ls b → b ∈ bs := fun b ⟨i, B, l, _, h2, h3⟩ => by
    rw [← n1.bs, ← h3]; exact List.mem_map.2 ⟨l, List.mem_of_getElem? h2, rfl⟩
  have hF' : ∀ b, F b → Fre (fun b => F b ∨ b ∈ bs ∨ w.heap.size ≤ b) w (entAs args []).2 ls b := fun b hb =>
    ⟨(hF b hb).1, fun ho => (hF b hb).2 (hown b ho), .inl hb⟩
  have hsr : SR P w (fun b => b ∈ bs) (fun b => F b ∨ b ∈ bs ∨ w.heap.size ≤ b) (entAs args []).2 ls w := by
    refine ⟨by simpa using n1.len.symm, ?_, fun b hb => .inl (hown b hb), ?_, Kp.refl _ _, fun b hb => .inr hb⟩
    · intro i j B C l m h1 h2 h3 h4 e
      have hd : (ls.map (·.b)).Nodup := by rw [n1.bs]; exact hnd
      have hi := (List.getElem?_eq_some_iff.1 h3).1
      have hj := (List.getElem?_eq_some_iff.1 h4).1
      refine (List.getElem_inj hd (h₀ := by simpa using hi) (h₁ := by simpa using hj)).1 ?_
      simp only [List.getElem_map]
      rw [(List.getElem?_eq_some_iff.1 h3).2, (List.getElem?_eq_some_iff.1 h4).2, e]
    · intro i B l h1 h2
      obtain ⟨g, g1, g2⟩ := n1.blk [] [] rfl i B l (by simp) h1 (by simpa using h2) (List.getElem?_eq_some_iff.1 h1).1
      simp only [List.nil_append, List.append_nil] at g2
      exact ⟨g, g1, g2.mono hF' (fun _ _ => rfl) (Nat.le_refl _) (fun _ _ h => h)⟩
  have hsat : SAT P w (fun b => b ∈ bs) (fun b => F b ∨ b ∈ bs ∨ w.heap.size ≤ b) us fn.ntmps ⟨tm0, (entAs args []).2⟩
      { tmps := (us.take n).toArray ++ Array.replicate (fn.ntmps - (us.take n).toArray.size) undef, defers := [] } w := by
    refine ⟨rfl, by simp; omega, ls, hsr, fun k x hk => ?_⟩
    have hv : ∀ j y, (entAs args []).1[j]? = some y → VR P w (Fre (fun b => F b ∨ b ∈ bs ∨ w.heap.size ≤ b) w (entAs args []).2 ls) ls y (us.getD j undef) := fun j y hy =>
      (n3' j y hy).mono hF' (fun _ _ => rfl) (Nat.le_refl _) (fun _ _ h => h)
    rcases h0 k x hk with ⟨hkn, hk'⟩ | ⟨j, hkj, hk'⟩ | ⟨g, j, r, y, hkj, g1, g2, hk'⟩
    · have hkl : k < us.length := by rw [← n2]; exact (List.getElem?_eq_some_iff.1 hk').1
      have hkN : k < fn.ntmps := by omega
      have := hv k x hk'
      simp only [val, if_pos hkN]
      have e : ((us.take n).toArray ++ Array.replicate (fn.ntmps - (us.take n).toArray.size) undef).getD k undef = us.getD k undef := by
        have h1 : k < (us.take n).length := by simp; omega
        rw [Array.getD_eq_getD_getElem?, Array.getElem?_append, if_pos (by simpa using h1), List.getElem?_toArray, List.getElem?_take, if_pos hkn, List.getD_eq_getElem?_getD]
      rw [e]; exact this
    · have hkj' : k = fn.ntmps + j := hkj
      subst hkj'
      have hval : ∀ {y : AV}, (entAs args []).1[j]? = some y → val us fn.ntmps { tmps := (us.take n).toArray ++ Array.replicate (fn.ntmps - (us.take n).toArray.size) undef, defers := [] } (fn.ntmps + j) = us.getD j undef := fun hy => by
        have hj : j < args.length := by rw [← hlen]; exact (List.getElem?_eq_some_iff.1 hy).1
        simp only [val, if_neg (show ¬ fn.ntmps + j < fn.ntmps by omega), if_pos (show fn.ntmps + j < fn.ntmps + 1000 by omega), Nat.add_sub_cancel_left]
      rcases hk' with hk | hk | ⟨r, v, y, g1, g2, hk⟩
      · rw [hk]; exact .any
      · rw [hval hk]; exact hv j x hk
      · rw [hk, hval g2]; exact .is (hv j y g2) (hars.is_val g1)
    · have hkj' : k = fn.ntmps + 1000 + g := hkj
      subst hkj'
      have hval : val us fn.ntmps { tmps := (us.take n).toArray ++ Array.replicate (fn.ntmps - (us.take n).toArray.size) undef, defers := [] } (fn.ntmps + 1000 + g) = us.getD j undef := by
        rw [hars.is_val g1]
        simp only [val, if_neg (show ¬ fn.ntmps + 1000 + g < fn.ntmps by omega), if_neg (show ¬ fn.ntmps + 1000 + g < fn.ntmps + 1000 by omega), show fn.ntmps + 1000 + g - fn.ntmps - 1000 = g by omega]
      rw [hval, hk']; exact hv j y g2
  refine wpA_sound c an ac an' _ _ w (postF rs fn.ntmps args.length own args' res) _ hac (fun ch a w h => ?_) (fun e st a w' hk hs => ?_) hsat h
  · simp [bodyPost] at h
  · obtain ⟨hd, hN, loc, hsr', htm⟩ := hs
    have fin : (∃ r, (resL st rs).map oneOf = some r ∧ RLes (outL own fn.ntmps args.length r st) (res :: args')) → bodyPost P fn (fun e w' => ∃ (v : Value) (bs' : List Nat), e = .returned v ∧ Kp (fun b => b ∈ bs) w w' ∧ bs'.Nodup ∧ (∀ b, b ∈ bs' → (b ∈ bs ∨ w.heap.size ≤ b) ∧ b < w'.heap.size) ∧
      ARs P w' (fun b => b < w'.heap.size ∧ b ∉ bs' ∧ (F b ∨ b ∈ bs ∨ w.heap.size ≤ b)) (res :: args') (v :: us) bs') .ret a w' := by
      rintro ⟨r, hr, hle⟩
      obtain ⟨ys, hys, rfl⟩ := Option.map_eq_some_iff.1 hr
      obtain ⟨vs, f1, f2, f3⟩ := resL_ok hsr' hN htm hrs hys
      have hone : ∃ v, (results fn a.tmps).run P w' = .ok v w' ∧ VR P w' (Fre (fun b => F b ∨ b ∈ bs ∨ w.heap.size ≤ b) w' st.sto loc) loc (oneOf ys) v := by
        have hm : (results fn a.tmps).run P w' = .ok (if h : vs.toArray.size = 1 then vs.toArray[0] else .tuple vs.toArray) w' := by
          rw [results_rv, Array.mapM_eq_mapM_toList, Sem.run_bind, Sem.run_map, f3]
          simp
        refine ⟨_, hm, ?_⟩
        cases ys with
        | nil =>
          have : vs = [] := List.eq_nil_of_length_eq_zero (by simpa using f1)
          subst this
          simpa [oneOf] using VR.tup #[] rfl (fun j x hx => by simp at hx)
        | cons y ys =>
          cases ys with
          | nil =>
            obtain ⟨v, rfl⟩ : ∃ v, vs = [v] := by
              cases vs with
              | nil => simp at f1
              | cons v r =>
                have : r = [] := List.eq_nil_of_length_eq_zero (by simpa using f1)
                exact ⟨v, by rw [this]⟩
            simpa [oneOf] using f2 0 y rfl
          | cons z ys =>
            have hne : ¬ vs.toArray.size = 1 := by simp at f1 ⊢; omega
            rw [dif_neg hne]
            exact VR.tup _ (by simpa using f1) (fun j x hx => by simpa using f2 j x hx)
      obtain ⟨v, hrun, hv⟩ := hone
      have hvs : ∀ j x, (oneOf ys :: (List.range args.length).map fun j => if own.contains j then lk st.tm (fn.ntmps + j) else .any)[j]? = some x →
          VR P w' (Fre (fun b => F b ∨ b ∈ bs ∨ w.heap.size ≤ b) w' st.sto loc) loc x ((v :: us).getD j undef) := fun j x hx => by
        cases j with
        | zero => simp at hx; subst hx; simpa using hv
        | succ j =>
          simp only [List.getElem?_cons_succ, List.getElem?_map] at hx
          obtain ⟨k, hk, rfl⟩ := Option.map_eq_some_iff.1 hx
          obtain ⟨hlt', rfl⟩ := List.getElem?_eq_some_iff.1 hk
          simp only [List.getElem_range]
          split
          · have := SAT.lk htm (fn.ntmps + j)
            have hj : j < 1000 := by simp at hlt'; omega
            simp only [val, if_neg (show ¬ fn.ntmps + j < fn.ntmps by omega), if_pos (show fn.ntmps + j < fn.ntmps + 1000 by omega), Nat.add_sub_cancel_left] at this
            simpa using this
          · exact .any
      obtain ⟨cs, a1, g1, d1, l1⟩ := leaL_ok hsr' (f := leaA 4) (fun x u s hs hv => leaA_ok hsr' 4 x u s hs hv) _ (v :: us) st.sto (Les.refl _) (by simp [hus]) hvs
      obtain ⟨bs', s1, s2⟩ := ARs.le hle a1 d1
      have hcs : ∀ b, b ∈ cs → Own st.sto loc b := fun b hb => by
        obtain ⟨i, B, l, x1, _, x3, x4⟩ := g1 b hb; exact ⟨i, B, l, x1, x3, x4⟩
      refine ⟨hd, v, hrun, v, bs', rfl, hsr'.kept, s1.nodup d1, fun b hb => ?_, s2 _ (fun b hb => ?_) (fun b hb hn => ?_)⟩
      · have ho := hcs b (s1.subset hb)
        exact ⟨hsr'.mine b ho, hsr'.lt ho⟩
      · exact ⟨hb.1, fun hm => hb.2.1 (hcs b (s1.subset hm)), hb.2.2⟩
      · exact ⟨hsr'.lt (hcs b hb), hn, hsr'.al _ (hsr'.mine _ (hcs b hb))⟩
    cases e with
    | nor => exact fin hk
    | ret => exact fin hk
    | ex id => exact hk.elim

theorem den_of {f : FuncId} {an : List An} {args args' : List R} {res : R} {af : AF} (own : List Nat) (hl : lowF P f args.length an = some af)
    (h : wpA P af.code (start af.N own args) (postF af.rs af.N af.np own args' res)) : Den P f args args' res := by
  have hnp : af.np = args.length ∧ args.length ≤ 1000 := by
    have hl' := hl
    unfold lowF at hl'
    obtain ⟨fn, hfn, hl'⟩ := Option.bind_eq_some_iff.1 hl'
    split at hl'
    · cases hl'
    obtain ⟨c, hc, hl'⟩ := Option.bind_eq_some_iff.1 hl'
    obtain ⟨rs, hrs, hl'⟩ := Option.bind_eq_some_iff.1 hl'
    obtain ⟨⟨ac, an'⟩, hac, hl'⟩ := Option.bind_eq_some_iff.1 hl'
    split at hl'
    · rename_i hc; cases hl'; exact ⟨rfl, hc.2⟩
    · cases hl'
  rw [hnp.1] at h
  refine (den_of_tm own hl ⟨Nat.le_refl _, hnp.2⟩ (fun k x hk => ?_) h).den
  simp only [List.mem_append] at hk
  rcases hk with hk | hk
  · obtain ⟨_, hk⟩ := slots0_mem 0 _ k x hk
    simp only [Nat.sub_zero] at hk
    refine .inl ⟨?_, hk⟩
    rw [← entAs_len args []]; exact (List.getElem?_eq_some_iff.1 hk).1
  · obtain ⟨j, _, e⟩ := List.mem_map.1 hk
    cases e
    refine .inr (.inl ⟨j, rfl, ?_⟩)
    cases hj : (entAs args []).1[j]? with
    | none => exact .inl rfl
    | some y => exact .inr (.inl rfl)

def isG : Option R → Option AV → AV
  | some (.is _ v), some y => .is y v
  | _, some y => y
  | _, none => .any

def startG (N n : Nat) (own : List Nat) (args : List R) : ASt :=
  let p := entAs args []
  ⟨slots0 0 (p.1.take n) ++ own.map fun j => (N + j, isG args[j]? p.1[j]?), p.2⟩

theorem den_ofG {f : FuncId} {an : List An} {args args' : List R} {res : R} {af : AF} {n : Nat} (own : List Nat) (hl : lowF P f n an = some af) (hn : n ≤ args.length ∧ args.length ≤ 1000)
    (h : wpA P af.code (startG af.N n own args) (postF af.rs af.N args.length own args' res)) : DenG P f n args args' res := by
  refine den_of_tm own hl hn (fun k x hk => ?_) h
  simp only [List.mem_append] at hk
  rcases hk with hk | hk
  · obtain ⟨_, hk⟩ := slots0_mem 0 _ k x hk
    simp only [Nat.sub_zero] at hk
    rw [List.getElem?_take] at hk
    split at hk
    · rename_i hkn; exact .inl ⟨hkn, hk⟩
    · cases hk
  · obtain ⟨j, _, e⟩ := List.mem_map.1 hk
    cases e
    refine .inr (.inl ⟨j, rfl, ?_⟩)
    unfold isG
    split
    · rename_i r v y e1 e2; exact .inr (.inr ⟨r, v, y, e1, e2, rfl⟩)
    · rename_i y e2 _; exact .inr (.inl e2)
    · exact .inl rfl

def startL (N n : Nat) (own : List Nat) (gls : List (Nat × Nat)) (args : List R) : ASt :=
  let p := entAs args []
  ⟨slots0 0 (p.1.take n) ++ (own.map (fun j => (N + j, isG args[j]? p.1[j]?)) ++ gls.map fun q => (N + 1000 + q.1, (p.1[q.2]?).getD .any)), p.2⟩
def LaidAt (args : List R) (q : Nat × Nat) : Prop := ∃ r, args[q.2]? = some (.is r (.pointer (some ⟨q.1, 0, none⟩)))

theorem den_ofL {f : FuncId} {an : List An} {args args' : List R} {res : R} {af : AF} {n : Nat} (own : List Nat) (gls : List (Nat × Nat)) (hl : lowF P f n an = some af) (hn : n ≤ args.length ∧ args.length ≤ 1000)
    (hg : ∀ q, q ∈ gls → LaidAt args q) (h : wpA P af.code (startL af.N n own gls args) (postF af.rs af.N args.length own args' res)) : DenG P f n args args' res := by
  refine den_of_tm own hl hn (fun k x hk => ?_) h
  simp only [List.mem_append] at hk
  rcases hk with hk | hk | hk
  · obtain ⟨_, hk⟩ := slots0_mem 0 _ k x hk
    simp only [Nat.sub_zero] at hk
    rw [List.getElem?_take] at hk
    split at hk
    · rename_i hkn; exact .inl ⟨hkn, hk⟩
    · cases hk
  · obtain ⟨j, _, e⟩ := List.mem_map.1 hk
    cases e
    refine .inr (.inl ⟨j, rfl, ?_⟩)
    unfold isG
    split
    · rename_i r v y e1 e2; exact .inr (.inr ⟨r, v, y, e1, e2, rfl⟩)
    · rename_i y e2 _; exact .inr (.inl e2)
    · exact .inl rfl
  · obtain ⟨q, hq, e⟩ := List.mem_map.1 hk
    cases e
    obtain ⟨r, hr⟩ := hg q hq
    have hlt : q.2 < (entAs args []).1.length := by rw [entAs_len]; exact (List.getElem?_eq_some_iff.1 hr).1
    exact .inr (.inr ⟨q.1, q.2, r, _, rfl, hr, List.getElem?_eq_getElem hlt, by rw [List.getElem?_eq_getElem hlt]; rfl⟩)

end
end Go.Proofs.Ytccfejnckmokkaa.Va
