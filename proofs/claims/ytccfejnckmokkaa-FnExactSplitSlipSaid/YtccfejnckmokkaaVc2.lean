/- A general frame for proofs by contracts: Rules by which a walk is reckoned. Condition: none. -/
import Derived.Test.YtccfejnckmokkaaVc1
import Derived.ProofKit
import Derived.Carry
import Derived.Sort.Grow
import Derived.Lib.Join
import Derived.Below
import Derived.Lib.Bytealg
set_option linter.all false
set_option linter.unusedSimpArgs false
set_option linter.unusedVariables false
/-! Rules by which a walk is reckoned. Condition: none. -/
namespace Go.Proofs.Ytccfejnckmokkaa.Va
open Go

section
variable {P : Program}

theorem wpDenG_mono {T : Nat → Prop} {sto : Sto} {f : FuncId} {n : Nat} {xs : List AV} {K K' : AV → Sto → Prop} (h : ∀ x s, K x s → K' x s) (hw : wpDenG P T sto f n xs K) : wpDenG P T sto f n xs K' := by
  obtain ⟨ms, rs, use, rs', res, x, s', h1, h2, h3, h4, h5, h6, h7, h8, h9⟩ := hw
  exact ⟨ms, rs, use, rs', res, x, s', h1, h2, h3, h4, h5, h6, h7, h8, h _ _ h9⟩
theorem wpDen_mono {T : Nat → Prop} {sto : Sto} {tm : List (Nat × AV)} {f : FuncId} {xs : List AV} {K K' : AV → Sto → Prop} (h : ∀ x s, K x s → K' x s) (hw : wpDen P T sto tm f xs K) : wpDen P T sto tm f xs K' := by
  rcases hw with hw | ⟨I, ys, zs, h1, h2, hw⟩
  · exact .inl (wpDenG_mono h hw)
  · exact .inr ⟨I, ys, zs, h1, h2, fun ρ hρ => wpDenG_mono h (hw ρ hρ)⟩

theorem wpI_mono {T : Nat → Prop} {st : ASt} {i : AOI} {K K' : AV → Sto → Prop} (h : ∀ x s, K x s → K' x s) (hw : wpI P T st i K) : wpI P T st i K' := by
  cases i with
  | q q => obtain ⟨x, h1, h2⟩ := hw; exact ⟨x, h1, h _ _ h2⟩
  | m q => obtain ⟨x, h1, h2, h3⟩ := hw; exact ⟨x, h1, h2, h _ _ h3⟩
  | c q =>
    cases q <;> simp only [wpI] at hw ⊢ <;> try exact hw
    case call => exact wpDen_mono h hw
    case cav =>
      split at hw
      · exact wpDen_mono h hw
      · obtain ⟨ds, r, h1, h2, h3, h4⟩ := hw; exact ⟨ds, r, h1, h2, h3, h _ _ h4⟩
      · obtain ⟨f, vs, ks, gs, h1, h2, h3⟩ := hw; exact ⟨f, vs, ks, gs, h1, h2, wpDenG_mono h h3⟩
      · exact hw

theorem wpG_mono {T : Nat → Prop} {st : ASt} {q : AQ} {K K' : ASt → Prop} (h : ∀ s, K s → K' s) (hw : wpG P T st q K) : wpG P T st q K' := by
  unfold wpG at hw ⊢
  split at hw
  · exact wpI_mono (fun x s => h _) hw
  · obtain ⟨b, h1, h2, h3⟩ := hw
    exact ⟨b, h1, fun e => wpI_mono (fun x s => h _) (h2 e), fun e => h _ (h3 e)⟩

theorem wpL_mono {K K' : ASt → Prop} (h : ∀ s, K s → K' s) : ∀ (l : List AQ) (st : ASt), wpL P l st K → wpL P l st K'
  | [], st, hw => h st hw
  | q :: r, st, hw => wpG_mono (fun s hs => wpL_mono h r s hs) hw

theorem wpS_mono {K K' : ASt → Prop} (h : ∀ s, K s → K' s) : ∀ (s : ASch) (H : Hld) (st : ASt), wpS P s H st K → wpS P s H st K'
  | .done, _, st, hw => h st hw
  | .take i q s, H, st, hw => by
    simp only [wpS] at hw ⊢
    split at hw
    · exact wpI_mono (fun x s' hx => wpS_mono h s _ _ hx) hw
    · obtain ⟨b, h1, h2, h3⟩ := hw
      exact ⟨b, h1, fun e => wpI_mono (fun x s' hx => wpS_mono h s _ _ hx) (h2 e), fun e => wpS_mono h s _ _ (h3 e)⟩
  | .one q ws s, H, st, hw => wpG_mono (fun s' hx => ⟨hx.1, wpS_mono h s _ _ hx.2⟩) hw
  | .two q ws s r vs t, H, st, hw => ⟨wpG_mono (fun s' hx => ⟨hx.1, wpS_mono h s _ _ hx.2⟩) hw.1, wpG_mono (fun s' hx => ⟨hx.1, wpS_mono h t _ _ hx.2⟩) hw.2⟩
  | .three q ws s r vs t p us u, H, st, hw => ⟨wpG_mono (fun s' hx => ⟨hx.1, wpS_mono h s _ _ hx.2⟩) hw.1, wpG_mono (fun s' hx => ⟨hx.1, wpS_mono h t _ _ hx.2⟩) hw.2.1, wpG_mono (fun s' hx => ⟨hx.1, wpS_mono h u _ _ hx.2⟩) hw.2.2⟩

theorem X.seq_mono {k k' : ASt → Prop} {K K' : X → ASt → Prop} (h : ∀ s, k s → k' s) (h' : ∀ e s, K e s → K' e s) (e : X) (s : ASt) (hs : X.seq k K e s) : X.seq k' K' e s := by
  cases e with
  | nor => exact h s hs
  | ex => exact h' _ s hs
  | ret => exact h' _ s hs

theorem wpA_mono : ∀ (c : AC) (st : ASt) (K K' : X → ASt → Prop), (∀ e s, K e s → K' e s) → wpA P c st K → wpA P c st K' := by
  intro c
  induction c with
  | skip => intro st K K' h hw; exact h _ _ hw
  | reg l => intro st K K' h hw; exact wpL_mono (h .nor) l st hw
  | sch s => intro st K K' h hw; exact wpS_mono (h .nor) s [] st hw
  | seq a b iha ihb => intro st K K' h hw; exact iha st _ _ (X.seq_mono (fun s hs => ihb s _ _ h hs) h) hw
  | cond c a b iha ihb =>
    intro st K K' h hw
    obtain ⟨t, h1, h2, h3⟩ := hw
    exact ⟨t, h1, fun e => iha st _ _ h (h2 e), fun e => ihb st _ _ h (h3 e)⟩
  | block id c ih =>
    intro st K K' h hw
    refine ih st _ _ (fun e s hs => ?_) hw
    cases e with
    | nor => exact h _ _ hs
    | ret => exact h _ _ hs
    | ex i =>
      simp only [X.blk] at hs ⊢
      split at hs
      · rename_i e; rw [if_pos e]; exact h _ _ hs
      · rename_i e; rw [if_neg e]; exact h _ _ hs
  | loop keep c ih =>
    intro st K K' h hw
    obtain ⟨n, hn⟩ := hw
    refine ⟨n, ?_⟩
    generalize norm keep st = s at hn
    induction n generalizing s with
    | zero => exact hn
    | succ n ihn => exact ih s _ _ (X.seq_mono (fun s' hs => ihn _ hs) h) hn
  | exit id => intro st K K' h hw; exact h _ _ hw
  | ret => intro st K K' h hw; exact h _ _ hw
  | bad => intro st K K' h hw; exact hw
  | cut keep => intro st K K' h hw; exact h _ _ hw
end

/-! ### What is still to come, as data -/

inductive Fr where
  | seq (b : AC)
  | blk (id : Nat)
  | back (J : ASt → Prop)

def cont (P : Program) (post : X → ASt → Prop) : List Fr → X → ASt → Prop
  | [] => post
  | .seq b :: ks => X.seq (fun st => wpA P b st (cont P post ks)) (cont P post ks)
  | .blk id :: ks => X.blk id (cont P post ks)
  | .back J :: ks => X.seq J (cont P post ks)

def go (P : Program) (c : AC) (ks : List Fr) (st : ASt) (post : X → ASt → Prop) : Prop := wpA P c st (cont P post ks)
def goX (P : Program) (e : X) (ks : List Fr) (st : ASt) (post : X → ASt → Prop) : Prop := cont P post ks e st
def goL (P : Program) (l : List AQ) (ks : List Fr) (st : ASt) (post : X → ASt → Prop) : Prop := wpL P l st (cont P post ks .nor)
def goIf (P : Program) (o : Option Bool) (a b : AC) (ks : List Fr) (st : ASt) (post : X → ASt → Prop) : Prop :=
  ∃ t, o = some t ∧ (t = true → go P a ks st post) ∧ (t = false → go P b ks st post)
def goQ (P : Program) (o : Option AV) (d : Option Nat) (r : List AQ) (ks : List Fr) (tm : List (Nat × AV)) (sto : Sto) (post : X → ASt → Prop) : Prop :=
  ∃ x, o = some x ∧ goL P r ks ⟨ptO d x tm, sto⟩ post
def goM (P : Program) (o : Option (AV × Sto)) (d : Option Nat) (r : List AQ) (ks : List Fr) (tm : List (Nat × AV)) (post : X → ASt → Prop) : Prop :=
  ∃ p, o = some p ∧ goL P r ks ⟨ptO d p.1 tm, p.2⟩ post
def goC (P : Program) (f : FuncId) (xs : List AV) (d : Option Nat) (r : List AQ) (ks : List Fr) (tm : List (Nat × AV)) (sto : Sto) (post : X → ASt → Prop) : Prop :=
  wpDen P (fun _ => True) sto tm f xs fun x s => goL P r ks ⟨ptO d x tm, s⟩ post
def goV (P : Program) (f : AV) (xs : List AV) (d : Option Nat) (r : List AQ) (ks : List Fr) (tm : List (Nat × AV)) (sto : Sto) (post : X → ASt → Prop) : Prop :=
  match f with
  | .fn f caps => goC P f (xs ++ caps) d r ks tm sto post
  | .pfn g => ∃ (ds : List D) (v : Value), xs.map (deepA sto) = ds.map some ∧ v.oneCell' = true ∧ g ds v ∧ goL P r ks ⟨ptO d (.d (.v v)) tm, sto⟩ post
  | .d (.v u) => ∃ (f : FuncId) (vs : List Value) (cs gs : List Nat), u = .func (.func f) #[] vs.toArray ∧ isVs (cs.map (lk tm)) = some vs ∧
    wpDenG P (fun _ => True) sto f (xs.length + cs.length) (xs ++ (cs.map (lk tm) ++ gs.map (lk tm))) fun x s => goL P r ks ⟨ptO d x tm, s⟩ post
  | _ => False
def goG (P : Program) (o : Option Bool) (d : Option Nat) (i : AOI) (r : List AQ) (ks : List Fr) (tm : List (Nat × AV)) (sto : Sto) (post : X → ASt → Prop) : Prop :=
  ∃ b, o = some b ∧ (b = true → goL P (⟨d, none, i⟩ :: r) ks ⟨tm, sto⟩ post) ∧ (b = false → goL P r ks ⟨ptO d (.tup []) tm, sto⟩ post)
def goS (P : Program) (s : ASch) (H : Hld) (ks : List Fr) (st : ASt) (post : X → ASt → Prop) : Prop := wpS P s H st (cont P post ks .nor)
def goT (P : Program) (o : Option AV) (i : Nat) (ids : List Nat) (d : Option Nat) (s : ASch) (H : Hld) (ks : List Fr) (tm : List (Nat × AV)) (sto : Sto) (post : X → ASt → Prop) : Prop :=
  ∃ x, o = some x ∧ goS P s ((i, ids) :: H) ks ⟨ptO d x tm, sto⟩ post
def goTG (P : Program) (o : Option Bool) (i : Nat) (d : Option Nat) (q : AOp) (s : ASch) (H : Hld) (ks : List Fr) (tm : List (Nat × AV)) (sto : Sto) (post : X → ASt → Prop) : Prop :=
  ∃ b, o = some b ∧ (b = true → goS P (.take i ⟨d, none, .q q⟩ s) H ks ⟨tm, sto⟩ post) ∧ (b = false → goS P s ((i, []) :: H) ks ⟨ptO d (.tup []) tm, sto⟩ post)
def goA (P : Program) (al : Bool) (s : ASch) (H : Hld) (ks : List Fr) (tm : List (Nat × AV)) (sto : Sto) (post : X → ASt → Prop) : Prop :=
  al = true ∧ goS P s H ks ⟨tm, sto⟩ post
def goOQ (P : Program) (o : Option AV) (d : Option Nat) (s : ASch) (H : Hld) (ks : List Fr) (tm : List (Nat × AV)) (sto : Sto) (post : X → ASt → Prop) : Prop :=
  ∃ x, o = some x ∧ goA P (H.alive sto) s H ks (ptO d x tm) sto post
def goOM (P : Program) (o : Option (AV × Sto)) (md : Bool) (d : Option Nat) (s : ASch) (H : Hld) (ks : List Fr) (tm : List (Nat × AV)) (post : X → ASt → Prop) : Prop :=
  md = true ∧ ∃ p, o = some p ∧ goA P (H.alive p.2) s H ks (ptO d p.1 tm) p.2 post
def goOC (P : Program) (f : FuncId) (xs : List AV) (d : Option Nat) (s : ASch) (H : Hld) (ks : List Fr) (tm : List (Nat × AV)) (sto : Sto) (post : X → ASt → Prop) : Prop :=
  wpDen P (mayT H sto) sto tm f xs fun x s' => goA P (H.alive s') s H ks (ptO d x tm) s' post
def goOV (P : Program) (f : AV) (xs : List AV) (d : Option Nat) (s : ASch) (H : Hld) (ks : List Fr) (tm : List (Nat × AV)) (sto : Sto) (post : X → ASt → Prop) : Prop :=
  match f with
  | .fn f caps => goOC P f (xs ++ caps) d s H ks tm sto post
  | .pfn g => ∃ (ds : List D) (v : Value), xs.map (deepA sto) = ds.map some ∧ v.oneCell' = true ∧ g ds v ∧ goA P (H.alive sto) s H ks (ptO d (.d (.v v)) tm) sto post
  | .d (.v u) => ∃ (f : FuncId) (vs : List Value) (cs gs : List Nat), u = .func (.func f) #[] vs.toArray ∧ isVs (cs.map (lk tm)) = some vs ∧
    wpDenG P (mayT H sto) sto f (xs.length + cs.length) (xs ++ (cs.map (lk tm) ++ gs.map (lk tm))) fun x s' => goA P (H.alive s') s H ks (ptO d x tm) s' post
  | _ => False
def goOG (P : Program) (o : Option Bool) (d : Option Nat) (i : AOI) (ws : List Nat) (s : ASch) (H : Hld) (ks : List Fr) (tm : List (Nat × AV)) (sto : Sto) (post : X → ASt → Prop) : Prop :=
  ∃ b, o = some b ∧ (b = true → goS P (.one ⟨d, none, i⟩ ws s) H ks ⟨tm, sto⟩ post) ∧ (b = false → goA P ((H.drop ws).alive sto) s (H.drop ws) ks (ptO d (.tup []) tm) sto post)
def goE (o : Option (List AV)) (own : List Nat) (N np : Nat) (st : ASt) (out : List R) : Prop :=
  ∃ xs, o = some xs ∧ RLes (outL own N np (oneOf xs) st) out
def chk (c p : Prop) : Prop := c ∧ p

theorem chk_true {c p : Prop} (h : c) : chk c p = p := by
  apply propext; exact ⟨fun h1 => h1.2, fun h1 => ⟨h, h1⟩⟩
theorem chk_and {c d p : Prop} : chk (c ∧ d) p = chk c (chk d p) := by
  apply propext; exact ⟨fun ⟨⟨a, b⟩, c⟩ => ⟨a, b, c⟩, fun ⟨a, b, c⟩ => ⟨⟨a, b⟩, c⟩⟩
theorem chk_True {p : Prop} : chk True p = p := chk_true trivial

theorem ex_some {α : Type} {x : α} {k : α → Prop} : (∃ y, some x = some y ∧ k y) = k x := by
  apply propext; exact ⟨fun ⟨y, h, hk⟩ => by cases h; exact hk, fun h => ⟨x, rfl, h⟩⟩
theorem ex_ite {α : Type} {c : Prop} [Decidable c] {o : Option α} {k : α → Prop} : (∃ y, (if c then o else none) = some y ∧ k y) = chk c (∃ y, o = some y ∧ k y) := by
  apply propext
  by_cases h : c
  · rw [if_pos h]; exact ⟨fun h1 => ⟨h, h1⟩, fun h1 => h1.2⟩
  · rw [if_neg h]; exact ⟨fun ⟨y, e, _⟩ => (by cases e), fun h1 => (h h1.1).elim⟩
theorem ex_ite' {α : Type} {c : Prop} [Decidable c] {o : Option α} {k : α → Prop} : (∃ y, (if c then none else o) = some y ∧ k y) = chk (¬ c) (∃ y, o = some y ∧ k y) := by
  apply propext
  by_cases h : c
  · rw [if_pos h]; exact ⟨fun ⟨y, e, _⟩ => (by cases e), fun h1 => (h1.1 h).elim⟩
  · rw [if_neg h]; exact ⟨fun h1 => ⟨h, h1⟩, fun h1 => h1.2⟩
theorem bi {p q : Prop} : ((true = true → p) ∧ (true = false → q)) = p := by
  apply propext; exact ⟨fun h => h.1 rfl, fun h => ⟨fun _ => h, fun e => by cases e⟩⟩
theorem bi' {p q : Prop} : ((false = true → p) ∧ (false = false → q)) = q := by
  apply propext; exact ⟨fun h => h.2 rfl, fun h => ⟨fun e => (by cases e), fun _ => h⟩⟩

section
variable {P : Program} {post : X → ASt → Prop} (ks : List Fr) (tm : List (Nat × AV)) (sto : Sto) (st : ASt)

/-! ### Code -/
theorem go_skip : go P .skip ks st post = goX P .nor ks st post := rfl
theorem go_reg (l : List AQ) : go P (.reg l) ks st post = goL P l ks st post := rfl
theorem go_sch (s : ASch) : go P (.sch s) ks st post = goS P s [] ks st post := rfl
theorem go_seq (a b : AC) : go P (.seq a b) ks st post = go P a (.seq b :: ks) st post := rfl
theorem go_cond (c : Opd) (a b : AC) : go P (.cond c a b) ks ⟨tm, sto⟩ post = goIf P (boolA (evO tm c)) a b ks ⟨tm, sto⟩ post := rfl
theorem go_block (id : Nat) (c : AC) : go P (.block id c) ks st post = go P c (.blk id :: ks) st post := rfl
theorem go_exit (id : Nat) : go P (.exit id) ks st post = goX P (.ex id) ks st post := rfl
theorem go_ret : go P .ret ks st post = goX P .ret ks st post := rfl
theorem goX_nil (e : X) : goX P e [] st post = post e st := rfl
theorem goX_seq (b : AC) : goX P .nor (.seq b :: ks) st post = go P b ks st post := rfl
theorem goX_seq_ex (b : AC) (i : Nat) : goX P (.ex i) (.seq b :: ks) st post = goX P (.ex i) ks st post := rfl
theorem goX_seq_ret (b : AC) : goX P .ret (.seq b :: ks) st post = goX P .ret ks st post := rfl
theorem goX_blk (i : Nat) : goX P .nor (.blk i :: ks) st post = goX P .nor ks st post := rfl
theorem goX_blk_ret (i : Nat) : goX P .ret (.blk i :: ks) st post = goX P .ret ks st post := rfl
theorem goX_blk_ex (i j : Nat) : goX P (.ex j) (.blk i :: ks) st post = if j = i then goX P .nor ks st post else goX P (.ex j) ks st post := rfl
theorem goX_back (J : ASt → Prop) : goX P .nor (.back J :: ks) st post = J st := rfl
theorem goX_back_ret (J : ASt → Prop) : goX P .ret (.back J :: ks) st post = goX P .ret ks st post := rfl
theorem goX_back_ex (J : ASt → Prop) (i : Nat) : goX P (.ex i) (.back J :: ks) st post = goX P (.ex i) ks st post := rfl
theorem boolA_bool (b : Bool) : boolA (.d (.v (.bool b))) = some b := rfl
theorem goIf_true (a b : AC) : goIf P (some true) a b ks st post = go P a ks st post := by unfold goIf; rw [ex_some, bi]
theorem goIf_false (a b : AC) : goIf P (some false) a b ks st post = go P b ks st post := by unfold goIf; rw [ex_some, bi']
theorem goIf_not (x : Bool) (a b : AC) : goIf P (some !x) a b ks st post = goIf P (some x) b a ks st post := by cases x <;> simp only [Bool.not_true, Bool.not_false, goIf_true, goIf_false]

/-! ### Operations in text order -/
variable (d : Option Nat) (r : List AQ)
theorem goL_nil : goL P [] ks st post = goX P .nor ks st post := rfl
theorem goL_q (q : AOp) : goL P (⟨d, none, .q q⟩ :: r) ks ⟨tm, sto⟩ post = goQ P (evQ ⟨tm, sto⟩ q) d r ks tm sto post := rfl
theorem goL_m (q : AOp) : goL P (⟨d, none, .m q⟩ :: r) ks ⟨tm, sto⟩ post = goM P (evM ⟨tm, sto⟩ q) d r ks tm post := by
  apply propext
  exact ⟨fun ⟨p, h, _, k⟩ => ⟨p, h, k⟩, fun ⟨p, h, k⟩ => ⟨p, h, fun _ _ => trivial, k⟩⟩
theorem goL_c (f : FuncId) (xs : List Opd) : goL P (⟨d, none, .c (.call f xs)⟩ :: r) ks ⟨tm, sto⟩ post = goC P f (xs.map (evO tm)) d r ks tm sto post := rfl
theorem goL_v (f : Opd) (xs : List Opd) : goL P (⟨d, none, .c (.cav f xs)⟩ :: r) ks ⟨tm, sto⟩ post = goV P (evO tm f) (xs.map (evO tm)) d r ks tm sto post := by
  unfold goL goV
  simp only [wpL, wpG, wpI, List.length_map]
  generalize evO tm f = u
  cases u with
  | d x => cases x <;> rfl
  | _ => rfl
theorem goL_g (g : Nat) (want : Bool) (i : AOI) : goL P (⟨d, some (g, want), i⟩ :: r) ks ⟨tm, sto⟩ post = goG P (gdA want (lk tm g)) d i r ks tm sto post := rfl
theorem goQ_some (x : AV) : goQ P (some x) d r ks tm sto post = goL P r ks ⟨ptO d x tm, sto⟩ post := ex_some
theorem goQ_ite (c : Prop) [Decidable c] (o : Option AV) : goQ P (if c then o else none) d r ks tm sto post = chk c (goQ P o d r ks tm sto post) := ex_ite
theorem goQ_ite' (c : Prop) [Decidable c] (o : Option AV) : goQ P (if c then none else o) d r ks tm sto post = chk (¬ c) (goQ P o d r ks tm sto post) := ex_ite'
theorem goM_some (x : AV) (s : Sto) : goM P (some (x, s)) d r ks tm post = goL P r ks ⟨ptO d x tm, s⟩ post := ex_some
theorem goM_ite (c : Prop) [Decidable c] (o : Option (AV × Sto)) : goM P (if c then o else none) d r ks tm post = chk c (goM P o d r ks tm post) := ex_ite
theorem goV_fn (f : FuncId) (caps xs : List AV) : goV P (.fn f caps) xs d r ks tm sto post = goC P f (xs ++ caps) d r ks tm sto post := rfl
theorem goG_true (i : AOI) : goG P (some true) d i r ks tm sto post = goL P (⟨d, none, i⟩ :: r) ks ⟨tm, sto⟩ post := by unfold goG; rw [ex_some, bi]
theorem goG_false (i : AOI) : goG P (some false) d i r ks tm sto post = goL P r ks ⟨ptO d (.tup []) tm, sto⟩ post := by unfold goG; rw [ex_some, bi']
theorem gdA_true (b : Bool) : gdA true (.d (.v (.bool b))) = some b := by cases b <;> rfl
theorem gdA_false (b : Bool) : gdA false (.d (.v (.bool b))) = some !b := by cases b <;> rfl
theorem gdA_tup (w : Bool) : gdA w (.tup []) = some false := rfl

/-! ### Operations in any order -/
variable (s : ASch) (H : Hld)
theorem goS_done : goS P .done H ks st post = goX P .nor ks st post := rfl
theorem goS_take (i : Nat) (q : AOp) : goS P (.take i ⟨d, none, .q q⟩ s) H ks ⟨tm, sto⟩ post = goT P (evQ ⟨tm, sto⟩ q) i (rdQ ⟨tm, sto⟩ q) d s H ks tm sto post := rfl
theorem goS_takeg (i g : Nat) (want : Bool) (q : AOp) : goS P (.take i ⟨d, some (g, want), .q q⟩ s) H ks ⟨tm, sto⟩ post = goTG P (gdA want (lk tm g)) i d q s H ks tm sto post := rfl
theorem goT_some (x : AV) (i : Nat) (ids : List Nat) : goT P (some x) i ids d s H ks tm sto post = goS P s ((i, ids) :: H) ks ⟨ptO d x tm, sto⟩ post := ex_some
theorem goT_ite (c : Prop) [Decidable c] (o : Option AV) (i : Nat) (ids : List Nat) : goT P (if c then o else none) i ids d s H ks tm sto post = chk c (goT P o i ids d s H ks tm sto post) := ex_ite
theorem goT_ite' (c : Prop) [Decidable c] (o : Option AV) (i : Nat) (ids : List Nat) : goT P (if c then none else o) i ids d s H ks tm sto post = chk (¬ c) (goT P o i ids d s H ks tm sto post) := ex_ite'
theorem goTG_true (i : Nat) (q : AOp) : goTG P (some true) i d q s H ks tm sto post = goS P (.take i ⟨d, none, .q q⟩ s) H ks ⟨tm, sto⟩ post := by unfold goTG; rw [ex_some, bi]
theorem goTG_false (i : Nat) (q : AOp) : goTG P (some false) i d q s H ks tm sto post = goS P s ((i, []) :: H) ks ⟨ptO d (.tup []) tm, sto⟩ post := by unfold goTG; rw [ex_some, bi']
theorem goA_true : goA P true s H ks tm sto post = goS P s H ks ⟨tm, sto⟩ post := by unfold goA; simp only [true_and]
theorem goS_one_q (q : AOp) (ws : List Nat) : goS P (.one ⟨d, none, .q q⟩ ws s) H ks ⟨tm, sto⟩ post = goOQ P (evQ ⟨tm, sto⟩ q) d s (H.drop ws) ks tm sto post := rfl
theorem goS_one_m (q : AOp) (ws : List Nat) : goS P (.one ⟨d, none, .m q⟩ ws s) H ks ⟨tm, sto⟩ post = goOM P (evM ⟨tm, sto⟩ q) ((mdQ ⟨tm, sto⟩ q).all fun i => isAlive sto i && !holds (H.drop ws) i) d s (H.drop ws) ks tm post := by
  apply propext
  constructor
  · rintro ⟨p, h1, h2, h3, h4⟩
    exact ⟨List.all_eq_true.2 h2, p, h1, h3, h4⟩
  · rintro ⟨h2, p, h1, h3, h4⟩
    exact ⟨p, h1, List.all_eq_true.1 h2, h3, h4⟩
theorem goS_one_c (f : FuncId) (xs : List Opd) (ws : List Nat) : goS P (.one ⟨d, none, .c (.call f xs)⟩ ws s) H ks ⟨tm, sto⟩ post = goOC P f (xs.map (evO tm)) d s (H.drop ws) ks tm sto post := rfl
theorem goS_one_v (f : Opd) (xs : List Opd) (ws : List Nat) : goS P (.one ⟨d, none, .c (.cav f xs)⟩ ws s) H ks ⟨tm, sto⟩ post = goOV P (evO tm f) (xs.map (evO tm)) d s (H.drop ws) ks tm sto post := by
  unfold goS goOV
  simp only [wpS, wpG, wpI, List.length_map]
  generalize evO tm f = u
  cases u with
  | d x => cases x <;> rfl
  | _ => rfl
theorem goS_one_g (g : Nat) (want : Bool) (i : AOI) (ws : List Nat) : goS P (.one ⟨d, some (g, want), i⟩ ws s) H ks ⟨tm, sto⟩ post = goOG P (gdA want (lk tm g)) d i ws s H ks tm sto post := rfl
theorem goS_two (q : AQ) (ws : List Nat) (r : AQ) (vs : List Nat) (t : ASch) : goS P (.two q ws s r vs t) H ks ⟨tm, sto⟩ post = (goS P (.one q ws s) H ks ⟨tm, sto⟩ post ∧ goS P (.one r vs t) H ks ⟨tm, sto⟩ post) := rfl
theorem goS_three (q : AQ) (ws : List Nat) (r : AQ) (vs : List Nat) (t : ASch) (p : AQ) (us : List Nat) (u : ASch) : goS P (.three q ws s r vs t p us u) H ks ⟨tm, sto⟩ post = (goS P (.one q ws s) H ks ⟨tm, sto⟩ post ∧ goS P (.one r vs t) H ks ⟨tm, sto⟩ post ∧ goS P (.one p us u) H ks ⟨tm, sto⟩ post) := rfl
theorem goOQ_some (x : AV) : goOQ P (some x) d s H ks tm sto post = goA P (H.alive sto) s H ks (ptO d x tm) sto post := ex_some
theorem goOQ_ite (c : Prop) [Decidable c] (o : Option AV) : goOQ P (if c then o else none) d s H ks tm sto post = chk c (goOQ P o d s H ks tm sto post) := ex_ite
theorem goOM_some (x : AV) (sto : Sto) : goOM P (some (x, sto)) true d s H ks tm post = goA P (H.alive sto) s H ks (ptO d x tm) sto post := by unfold goOM; rw [ex_some]; simp only [true_and]
theorem goOM_ite (c : Prop) [Decidable c] (o : Option (AV × Sto)) : goOM P (if c then o else none) true d s H ks tm post = chk c (goOM P o true d s H ks tm post) := by unfold goOM; rw [ex_ite]; simp only [true_and]
theorem goOV_fn (f : FuncId) (caps xs : List AV) : goOV P (.fn f caps) xs d s H ks tm sto post = goOC P f (xs ++ caps) d s H ks tm sto post := rfl
theorem goOG_true (i : AOI) (ws : List Nat) : goOG P (some true) d i ws s H ks tm sto post = goS P (.one ⟨d, none, i⟩ ws s) H ks ⟨tm, sto⟩ post := by unfold goOG; rw [ex_some, bi]
theorem goOG_false (i : AOI) (ws : List Nat) : goOG P (some false) d i ws s H ks tm sto post = goA P ((H.drop ws).alive sto) s (H.drop ws) ks (ptO d (.tup []) tm) sto post := by unfold goOG; rw [ex_some, bi']
end

section
variable {P : Program} {post : X → ASt → Prop} {ks : List Fr} {tm : List (Nat × AV)} {sto : Sto} {st : ASt} {d : Option Nat} {r : List AQ} {s : ASch} {H : Hld}

/-! ### Two ways -/
theorem goIf_b {x : Bool} {a b : AC} (h1 : x = true → go P a ks st post) (h2 : x = false → go P b ks st post) : goIf P (some x) a b ks st post := ⟨x, rfl, h1, h2⟩
theorem goIf_dec {c : Prop} [Decidable c] {a b : AC} (h1 : c → go P a ks st post) (h2 : ¬ c → go P b ks st post) : goIf P (some (decide c)) a b ks st post :=
  goIf_b (fun h => h1 (of_decide_eq_true h)) (fun h => h2 (of_decide_eq_false h))
theorem goIf_eq {m n : Int} {a b : AC} (h1 : m = n → go P a ks st post) (h2 : m ≠ n → go P b ks st post) : goIf P (some (m == n)) a b ks st post :=
  goIf_b (fun h => h1 (by simpa using h)) (fun h => h2 (by simpa using h))
theorem goIf_ne {m n : Int} {a b : AC} (h1 : m ≠ n → go P a ks st post) (h2 : m = n → go P b ks st post) : goIf P (some (m != n)) a b ks st post :=
  goIf_b (fun h => h1 (by simpa using h)) (fun h => h2 (by simpa using h))
theorem goG_b {x : Bool} {i : AOI} (h1 : x = true → goL P (⟨d, none, i⟩ :: r) ks ⟨tm, sto⟩ post) (h2 : x = false → goL P r ks ⟨ptO d (.tup []) tm, sto⟩ post) : goG P (some x) d i r ks tm sto post := ⟨x, rfl, h1, h2⟩
theorem goTG_b {x : Bool} {i : Nat} {q : AOp} (h1 : x = true → goS P (.take i ⟨d, none, .q q⟩ s) H ks ⟨tm, sto⟩ post) (h2 : x = false → goS P s ((i, []) :: H) ks ⟨ptO d (.tup []) tm, sto⟩ post) : goTG P (some x) i d q s H ks tm sto post := ⟨x, rfl, h1, h2⟩
theorem goOG_b {x : Bool} {i : AOI} {ws : List Nat} (h1 : x = true → goS P (.one ⟨d, none, i⟩ ws s) H ks ⟨tm, sto⟩ post) (h2 : x = false → goA P ((H.drop ws).alive sto) s (H.drop ws) ks (ptO d (.tup []) tm) sto post) : goOG P (some x) d i ws s H ks tm sto post := ⟨x, rfl, h1, h2⟩

/-! ### Loops -/
theorem go_cut (keep : List Nat) : go P (.cut keep) ks st post = goX P .nor ks (norm keep st) post := rfl
theorem go_join {α : Type} (E : α → ASt) (V : α → Prop) {id : Nat} {keep : List Nat} {c : AC} (h1 : ∀ J : ASt → Prop, (∀ y, V y → ∀ st', norm keep st' = E y → J st') → go P c (.blk id :: .back J :: ks) st post)
    (h2 : ∀ y, V y → goX P .nor ks (E y) post) : go P c (.blk id :: .seq (.cut keep) :: ks) st post :=
  h1 (fun st' => cont P post ks .nor (norm keep st')) (fun y hv st' e => by rw [e]; exact h2 y hv)
theorem go_loop {α : Type} (I : α → ASt) (V : α → Prop) (μ : α → Nat) {keep : List Nat} {c : AC} (x : α) (h0 : norm keep st = I x) (hV : V x)
    (h : ∀ x, V x → ∀ J : ASt → Prop, (∀ y, V y → μ y < μ x → ∀ st', norm keep st' = I y → J st') → go P c (.back J :: ks) (I x) post) : go P (.loop keep c) ks st post := by
  refine ⟨μ x + 1, ?_⟩
  rw [h0]
  have key : ∀ n x, V x → μ x < n → wpLp (wpA P c) keep n (I x) (cont P post ks) := by
    intro n
    induction n with
    | zero => intro x _ hx; omega
    | succ n ih =>
      intro x hV hx
      exact h x hV _ (fun y hv hlt st' e => by
        show wpLp (wpA P c) keep n (norm keep st') (cont P post ks)
        rw [e]; exact ih y hv (by omega))
  exact key _ x hV (by omega)

/-! ### Calls -/
def okU (use : Use) (res : R) (rs' : List R) : Bool :=
  decide use.gv.Nodup && (use.rd ++ use.fz).all (fun i => !use.gv.contains i) && (use.rd.isEmpty || (lfR res && lfRs rs'))

theorem giveL_len {sto : Sto} : ∀ {ms : List M} {xs : List AV} {rs : List R} {use : Use}, giveL sto ms xs = some (rs, use) → rs.length = xs.length
  | [], [], rs, use, h => by simp only [giveL] at h; cases h; rfl
  | [], _ :: _, rs, use, h => by simp [giveL] at h
  | _ :: _, [], rs, use, h => by simp [giveL] at h
  | m :: ms, x :: xs, rs, use, h => by
    simp only [giveL] at h
    obtain ⟨⟨r, u1⟩, h1, h⟩ := Option.bind_eq_some_iff.1 h
    obtain ⟨⟨rs', u2⟩, h2, h⟩ := Option.map_eq_some_iff.1 h
    cases h
    simp [giveL_len h2]

theorem wpDenG_of {T : Nat → Prop} {f : FuncId} {n : Nat} {xs : List AV} {K : AV → Sto → Prop} {ms : List M} {rs : List R} {use : Use} {rs' : List R} {res : R} {x : AV} {s' : Sto} (hden : DenG P f n rs rs' res)
    (h1 : giveL sto ms xs = some (rs, use)) (hT : ∀ i, i ∈ use.gv → T i) (h2 : okU use res rs' = true) (h3 : FnsL P sto ms xs) (h4 : postC sto ms xs use rs' res = some (x, s')) (h : K x s') : wpDenG P T sto f n xs K := by
  simp only [okU, Bool.and_eq_true, decide_eq_true_eq, Bool.or_eq_true, List.isEmpty_iff, List.all_eq_true, Bool.not_eq_true'] at h2
  refine ⟨ms, rs, use, rs', res, x, s', h1, hT, h2.1.1, fun i hi hg => ?_, by simpa using h2.2, h3, hden, h4, h⟩
  have := h2.1.2 i hi
  simp at this
  exact this hg
theorem wpDen_of {T : Nat → Prop} {f : FuncId} {xs : List AV} {K : AV → Sto → Prop} {ms : List M} {rs : List R} {use : Use} {rs' : List R} {res : R} {x : AV} {s' : Sto} (hden : Den P f rs rs' res)
    (h1 : giveL sto ms xs = some (rs, use)) (hT : ∀ i, i ∈ use.gv → T i) (h2 : okU use res rs' = true) (h3 : FnsL P sto ms xs) (h4 : postC sto ms xs use rs' res = some (x, s')) (h : K x s') : wpDen P T sto tm f xs K := by
  refine .inl (wpDenG_of ?_ h1 hT h2 h3 h4 h)
  rw [← giveL_len h1]; exact hden.g

theorem goC_of {f : FuncId} {xs : List AV} (ms : List M) {rs : List R} {use : Use} {rs' : List R} {res : R} {x : AV} {s' : Sto} (hden : Den P f rs rs' res)
    (h1 : giveL sto ms xs = some (rs, use)) (h2 : okU use res rs' = true) (h3 : FnsL P sto ms xs) (h4 : postC sto ms xs use rs' res = some (x, s')) (h : goL P r ks ⟨ptO d x tm, s'⟩ post) : goC P f xs d r ks tm sto post :=
  wpDen_of hden h1 (fun _ _ => trivial) h2 h3 h4 h
theorem goOC_of {f : FuncId} {xs : List AV} (ms : List M) {rs : List R} {use : Use} {rs' : List R} {res : R} {x : AV} {s' : Sto} (hden : Den P f rs rs' res)
    (h1 : giveL sto ms xs = some (rs, use)) (hT : (use.gv.all fun i => isAlive sto i && !holds H i) = true) (h2 : okU use res rs' = true) (h3 : FnsL P sto ms xs) (h4 : postC sto ms xs use rs' res = some (x, s'))
    (h : goA P (H.alive s') s H ks (ptO d x tm) s' post) : goOC P f xs d s H ks tm sto post :=
  wpDen_of hden h1 (fun i hi => List.all_eq_true.1 hT i hi) h2 h3 h4 h

theorem den_go {f : FuncId} {an : List An} {args args' : List R} {res : R} {np N : Nat} {rs : List RVA} {c : AC} (own : List Nat) (hl : lowF P f args.length an = some ⟨np, N, rs, c⟩)
    (h : go P c [] (start N own args) (postF rs N np own args' res)) : Den P f args args' res := den_of own hl h
theorem den_goG {f : FuncId} {an : List An} {args args' : List R} {res : R} {np N n : Nat} {rs : List RVA} {c : AC} (own : List Nat) (hl : lowF P f n an = some ⟨np, N, rs, c⟩) (hn : n ≤ args.length ∧ args.length ≤ 1000)
    (h : go P c [] (startG N n own args) (postF rs N args.length own args' res)) : DenG P f n args args' res := den_ofG own hl hn h
theorem den_goL {f : FuncId} {an : List An} {args args' : List R} {res : R} {np N n : Nat} {rs : List RVA} {c : AC} (own : List Nat) (gls : List (Nat × Nat)) (hl : lowF P f n an = some ⟨np, N, rs, c⟩) (hn : n ≤ args.length ∧ args.length ≤ 1000)
    (hg : ∀ q, q ∈ gls → LaidAt args q) (h : go P c [] (startL N n own gls args) (postF rs N args.length own args' res)) : DenG P f n args args' res := den_ofL own gls hl hn hg h
end

/-! ### The end -/
theorem postF_ret (rs : List RVA) (N np : Nat) (own : List Nat) (args' : List R) (res : R) (st : ASt) :
    postF rs N np own args' res .ret st = goE (resL st rs) own N np st (res :: args') := by
  apply propext
  constructor
  · rintro ⟨r, hr, h⟩
    obtain ⟨ys, hy, rfl⟩ := Option.map_eq_some_iff.1 hr
    exact ⟨ys, hy, h⟩
  · rintro ⟨ys, hy, h⟩
    exact ⟨_, Option.map_eq_some_iff.2 ⟨ys, hy, rfl⟩, h⟩
theorem postF_nor (rs : List RVA) (N np : Nat) (own : List Nat) (args' : List R) (res : R) (st : ASt) :
    postF rs N np own args' res .nor st = goE (resL st rs) own N np st (res :: args') := by
  rw [← postF_ret]; rfl
theorem goE_some (xs : List AV) (own : List Nat) (N np : Nat) (st : ASt) (out : List R) : goE (some xs) own N np st out = RLes (outL own N np (oneOf xs) st) out := ex_some
theorem RLes.refl : ∀ l : List R, RLes l l
  | [] => .nil
  | _ :: r => .cons .refl (RLes.refl r)
theorem RLes_nil : RLes [] [] = True := by simp only [eq_iff_iff, iff_true]; exact .nil
theorem RLes_d (x y : D) (xs ys : List R) : RLes (.d x :: xs) (.d y :: ys) = (x = y ∧ RLes xs ys) := by
  apply propext
  constructor
  · intro h; cases h with | cons h hs => cases h; exact ⟨rfl, hs⟩
  · rintro ⟨rfl, h⟩; exact .cons .refl h
theorem RLes_any (x : R) (xs ys : List R) : RLes (x :: xs) (.any :: ys) = RLes xs ys := by
  apply propext
  constructor
  · intro h; cases h with | cons h hs => exact hs
  · intro h; exact .cons .any h
theorem RLes_own (z z' : Nat) (x y : List D) (xs ys : List R) : RLes (.own z x :: xs) (.own z' y :: ys) = ((z = z' ∧ x = y) ∧ RLes xs ys) := by
  apply propext
  constructor
  · intro h; cases h with | cons h hs => cases h; exact ⟨⟨rfl, rfl⟩, hs⟩
  · rintro ⟨⟨rfl, rfl⟩, h⟩; exact .cons .refl h
theorem RLes_frz (z z' : Nat) (x y : List D) (xs ys : List R) : RLes (.own z x :: xs) (.d (.lst z' y) :: ys) = ((z = z' ∧ x = y) ∧ RLes xs ys) := by
  apply propext
  constructor
  · intro h; cases h with | cons h hs => cases h; exact ⟨⟨rfl, rfl⟩, hs⟩
  · rintro ⟨⟨rfl, rfl⟩, h⟩; exact .cons .frz h
theorem RLes_emp (xs ys : List R) : RLes (.emp :: xs) (.emp :: ys) = RLes xs ys := by
  apply propext
  constructor
  · intro h; cases h with | cons h hs => exact hs
  · intro h; exact .cons .refl h
theorem RLes_tup (x y xs ys : List R) : RLes (.tup x :: xs) (.tup y :: ys) = (RLes x y ∧ RLes xs ys) := by
  apply propext
  constructor
  · intro h; cases h with | cons h hs => cases h with
      | refl => exact ⟨RLes.refl _, hs⟩
      | tup h => exact ⟨h, hs⟩
  · rintro ⟨h, hs⟩; exact .cons (.tup h) hs
theorem RLes_agg (x y xs ys : List R) : RLes (.agg x :: xs) (.agg y :: ys) = (RLes x y ∧ RLes xs ys) := by
  apply propext
  constructor
  · intro h; cases h with | cons h hs => cases h with
      | refl => exact ⟨RLes.refl _, hs⟩
      | agg h => exact ⟨h, hs⟩
  · rintro ⟨h, hs⟩; exact .cons (.agg h) hs

/-! ### Arithmetic -/
theorem wrap64 {x : Int} (h : -9223372036854775808 ≤ x) (h' : x < 9223372036854775808) : IntKind.wrap .i64 x = x := by
  rw [IntKind.wrap_i64]; omega
theorem binA_add (k : IntKind) (a b : Int) : binA .add (.d (.v (.int k a))) (.d (.v (.int k b))) = some (.d (.v (.int k (k.wrap (a + b))))) := by simp [binA, binI]
theorem binA_sub (k : IntKind) (a b : Int) : binA .sub (.d (.v (.int k a))) (.d (.v (.int k b))) = some (.d (.v (.int k (k.wrap (a - b))))) := by simp [binA, binI]
theorem binA_mul (k : IntKind) (a b : Int) : binA .mul (.d (.v (.int k a))) (.d (.v (.int k b))) = some (.d (.v (.int k (k.wrap (a * b))))) := by simp [binA, binI]
theorem binA_quo (k : IntKind) (a b : Int) : binA .quo (.d (.v (.int k a))) (.d (.v (.int k b))) = if b = 0 then none else some (.d (.v (.int k (k.wrap (a.tdiv b))))) := by
  simp only [binA, binI, or_true, if_true]; split <;> rfl
theorem binA_rem (k : IntKind) (a b : Int) : binA .rem (.d (.v (.int k a))) (.d (.v (.int k b))) = if b = 0 then none else some (.d (.v (.int k (a.tmod b)))) := by
  simp only [binA, binI, or_true, if_true]; split <;> rfl
theorem binA_eql (k : IntKind) (a b : Int) : binA .eql (.d (.v (.int k a))) (.d (.v (.int k b))) = some (.d (.v (.bool (a == b)))) := by simp [binA, binI]
theorem binA_neq (k : IntKind) (a b : Int) : binA .neq (.d (.v (.int k a))) (.d (.v (.int k b))) = some (.d (.v (.bool (a != b)))) := by simp [binA, binI]
theorem binA_lss (k : IntKind) (a b : Int) : binA .lss (.d (.v (.int k a))) (.d (.v (.int k b))) = some (.d (.v (.bool (decide (a < b))))) := by simp [binA, binI]
theorem binA_leq (k : IntKind) (a b : Int) : binA .leq (.d (.v (.int k a))) (.d (.v (.int k b))) = some (.d (.v (.bool (decide (a ≤ b))))) := by simp [binA, binI]
theorem binA_gtr (k : IntKind) (a b : Int) : binA .gtr (.d (.v (.int k a))) (.d (.v (.int k b))) = some (.d (.v (.bool (decide (b < a))))) := by simp [binA, binI]
theorem binA_geq (k : IntKind) (a b : Int) : binA .geq (.d (.v (.int k a))) (.d (.v (.int k b))) = some (.d (.v (.bool (decide (b ≤ a))))) := by simp [binA, binI]
theorem intA_int (k : IntKind) (n : Int) : intA (.d (.v (.int k n))) = some n := rfl


end Go.Proofs.Ytccfejnckmokkaa.Va

/-! Data of this program, and rules for them. Condition: none. -/
namespace Go.Proofs.Ytccfejnckmokkaa.Va
open Go

abbrev di (n : Int) : D := .v (.int .i64 n)
abbrev db (b : Bool) : D := .v (.bool b)
def ints (l : List Int) : D := .lst 1 (l.map di)
def bools (l : List Bool) : D := .lst 1 (l.map db)

theorem flat_one {α : Type} (f : α → Value) : ∀ (l : List α), flat (l.map fun x => D.v (f x)) = l.map fun x => D.v (f x)
  | [] => rfl
  | x :: r => by
    have := flat_one f r
    simp only [flat, List.map_cons, List.flatMap_cons] at this ⊢
    rw [this]; rfl
theorem flat_di (l : List Int) : flat (l.map di) = l.map di := flat_one _ l
theorem flat_db (l : List Bool) : flat (l.map db) = l.map db := flat_one _ l

theorem getI {l : List Int} {j : Nat} (h : j < l.length) : (l.map di)[j]? = some (di (l.getD j 0)) := by simp [h]
theorem getB {l : List Bool} {j : Nat} (h : j < l.length) : (l.map db)[j]? = some (db (l.getD j false)) := by simp [h]

theorem lk_cons (j : Nat) (x : AV) (r : List (Nat × AV)) (k : Nat) : lk ((j, x) :: r) k = if j = k then x else lk r k := rfl
theorem del_cons (k j : Nat) (x : AV) (r : List (Nat × AV)) : del k ((j, x) :: r) = if j = k then del k r else (j, x) :: del k r := rfl
/-! ### What is handed back -/
def leaT (p : List R × Sto) : R × Sto := (.tup p.1, p.2)
def leaG (p : List R × Sto) : R × Sto := (.agg p.1, p.2)
def leaD (a : R) (p : List R × Sto) : List R × Sto := (a :: p.1, p.2)
def leaC (p : R × Sto) (f : AV → Sto → R × Sto) (r : List AV) : List R × Sto := leaD p.1 (leaL f r p.2)
def leaW (p : List R × Sto) : R × Sto := (.ownm p.1, p.2)
theorem leaW_ok (as : List R) (s : Sto) : leaW (as, s) = (.ownm as, s) := rfl
def leaS (k : Nat) (o : Option (Option Blk)) (i c n z : Nat) (s : Sto) : R × Sto :=
  match o with
  | some (some (.dat z' es)) => if z = z' ∧ c % z = 0 ∧ c / z + n ≤ es.length then (.own z ((es.drop (c / z)).take n), s.set i none) else (.any, s)
  | some (some (.mix cs)) => if c = 0 ∧ z = 1 ∧ n = cs.length then leaW (leaL (leaA k) cs (s.set i none)) else (.any, s)
  | _ => (.any, s)
theorem leaL_nil (f : AV → Sto → R × Sto) (s : Sto) : leaL f [] s = ([], s) := rfl
theorem leaL_cons (f : AV → Sto → R × Sto) (x : AV) (r : List AV) (s : Sto) : leaL f (x :: r) s = leaC (f x s) f r := rfl
theorem leaC_ok (a : R) (s : Sto) (f : AV → Sto → R × Sto) (r : List AV) : leaC (a, s) f r = leaD a (leaL f r s) := rfl
theorem leaD_ok (a : R) (as : List R) (s : Sto) : leaD a (as, s) = (a :: as, s) := rfl
theorem leaT_ok (as : List R) (s : Sto) : leaT (as, s) = (.tup as, s) := rfl
theorem leaG_ok (as : List R) (s : Sto) : leaG (as, s) = (.agg as, s) := rfl
theorem leaA_d (k : Nat) (x : D) (s : Sto) : leaA (k + 1) (.d x) s = (.d x, s) := rfl
theorem leaA_any (k : Nat) (s : Sto) : leaA (k + 1) .any s = (.any, s) := rfl
theorem leaA_emp (k : Nat) (s : Sto) : leaA (k + 1) .emp s = (.emp, s) := rfl
theorem leaA_tup (k : Nat) (xs : List AV) (s : Sto) : leaA (k + 1) (.tup xs) s = leaT (leaL (leaA k) xs s) := rfl
theorem leaA_agg (k : Nat) (xs : List AV) (s : Sto) : leaA (k + 1) (.agg xs) s = leaG (leaL (leaA k) xs s) := rfl
theorem leaA_sl (k i c n z : Nat) (s : Sto) : leaA (k + 1) (.sl i c n z) s = leaS k s[i]? i c n z s := by
  simp only [leaA, leaS] <;> (rcases s[i]? with _ | _ | b <;> first | rfl | (cases b <;> rfl))
theorem leaS_mix {k i n : Nat} {cs : List AV} {s : Sto} (h : n = cs.length) : leaS k (some (some (.mix cs))) i 0 n 1 s = leaW (leaL (leaA k) cs (s.set i none)) := by
  subst h
  simp [leaS]
theorem RLes_ownm (x y xs ys : List R) : RLes (.ownm x :: xs) (.ownm y :: ys) = (x = y ∧ RLes xs ys) := by
  apply propext
  constructor
  · intro h; cases h with | cons h hs => cases h; exact ⟨rfl, hs⟩
  · rintro ⟨rfl, hs⟩; exact .cons .refl hs
theorem leaS_all {k i n z : Nat} {es : List D} {s : Sto} (h : n = es.length) : leaS k (some (some (.dat z es))) i 0 n z s = (.own z es, s.set i none) := by
  subst h
  simp [leaS]
theorem oneOf_0 : oneOf [] = .tup [] := rfl
theorem oneOf_1 (x : AV) : oneOf [x] = x := rfl
theorem oneOf_2 (x y : AV) (r : List AV) : oneOf (x :: y :: r) = .tup (x :: y :: r) := rfl
theorem range_0 : List.range 0 = [] := rfl
theorem range_1 : List.range 1 = [0] := rfl
theorem range_2 : List.range 2 = [0, 1] := rfl
theorem range_3 : List.range 3 = [0, 1, 2] := rfl
theorem range_4 : List.range 4 = [0, 1, 2, 3] := rfl
theorem range_5 : List.range 5 = [0, 1, 2, 3, 4] := rfl
theorem range_6 : List.range 6 = [0, 1, 2, 3, 4, 5] := rfl
theorem range_7 : List.range 7 = [0, 1, 2, 3, 4, 5, 6] := rfl
theorem range_8 : List.range 8 = [0, 1, 2, 3, 4, 5, 6, 7] := rfl

def lkS (b : Bool) (x : AV) (r : List (Nat × AV)) (k : Nat) : AV := match b with | true => x | false => lk r k
def delS (b : Bool) (k j : Nat) (x : AV) (r : List (Nat × AV)) : List (Nat × AV) := match b with | true => del k r | false => (j, x) :: del k r
theorem lk_s (j : Nat) (x : AV) (r : List (Nat × AV)) (k : Nat) : lk ((j, x) :: r) k = lkS (j == k) x r k := by
  by_cases h : j = k
  · subst h; simp [lk, lkS]
  · have e : (j == k) = false := by simpa using h
    rw [e]; simp [lk, lkS, h]
theorem lk_nil (k : Nat) : lk [] k = .any := rfl
theorem lkS_t (x : AV) (r : List (Nat × AV)) (k : Nat) : lkS true x r k = x := rfl
theorem lkS_f (x : AV) (r : List (Nat × AV)) (k : Nat) : lkS false x r k = lk r k := rfl
theorem del_s (k j : Nat) (x : AV) (r : List (Nat × AV)) : del k ((j, x) :: r) = delS (j == k) k j x r := by
  by_cases h : j = k
  · subst h; simp [del, delS]
  · have e : (j == k) = false := by simpa using h
    rw [e]; simp [del, delS, h]
theorem del_nil (k : Nat) : del k [] = [] := rfl
theorem delS_t (k j : Nat) (x : AV) (r : List (Nat × AV)) : delS true k j x r = del k r := rfl
theorem delS_f (k j : Nat) (x : AV) (r : List (Nat × AV)) : delS false k j x r = (j, x) :: del k r := rfl
theorem ptO_some (d : Nat) (x : AV) (tm : List (Nat × AV)) : ptO (some d) x tm = (d, x) :: del d tm := rfl
theorem ptO_none (x : AV) (tm : List (Nat × AV)) : ptO none x tm = tm := rfl
def dropS (b : Bool) (p : Nat × List Nat) (r : Hld) : Hld := match b with | true => r | false => p :: r
theorem dropS_t (p : Nat × List Nat) (r : Hld) : dropS true p r = r := rfl
theorem dropS_f (p : Nat × List Nat) (r : Hld) : dropS false p r = p :: r := rfl
theorem drop_nil (ws : List Nat) : Hld.drop [] ws = [] := rfl
theorem drop_cons (i : Nat) (ids : List Nat) (H : Hld) (ws : List Nat) : Hld.drop ((i, ids) :: H) ws = dropS (ws.contains i) (i, ids) (Hld.drop H ws) := by
  unfold Hld.drop
  rw [List.filter_cons]
  cases h : ws.contains i <;> simp only [Bool.not_true, Bool.not_false, if_true, Bool.false_eq_true, if_false, dropS]
theorem map_ite_some {α β : Type} (c : Prop) [Decidable c] (x : α) (f : α → β) : (if c then some x else none).map f = if c then some (f x) else none := by split <;> rfl
theorem bind_ite_some {α β : Type} (c : Prop) [Decidable c] (x : α) (f : α → Option β) : (if c then some x else none).bind f = if c then f x else none := by split <;> rfl
theorem lenA_lst (z : Nat) (es : List D) : lenA (.d (.lst z es)) = some (.d (.v (.int .i64 es.length))) := rfl
theorem lenA_nil : lenA (.d (.v (.slice none 0 0))) = some (.d (.v (.int .i64 0))) := rfl
theorem lenA_emp : lenA .emp = some (.d (.v (.int .i64 0))) := rfl
theorem lenA_sl (i c n z : Nat) : lenA (.sl i c n z) = some (.d (.v (.int .i64 n))) := rfl

theorem all_getD {l : List Int} {p : Int → Bool} : l.all p = true ↔ ∀ j, j < l.length → p (l.getD j 0) = true := by
  rw [List.all_eq_true]
  constructor
  · intro h j hj
    have e : l.getD j 0 = l[j] := by simp [hj]
    rw [e]; exact h _ (List.getElem_mem hj)
  · intro h x hx
    obtain ⟨j, hj, rfl⟩ := List.mem_iff_getElem.1 hx
    have := h j hj
    have e : l.getD j 0 = l[j] := by simp [hj]
    rwa [e] at this
theorem dbv {a b : Bool} (h : a = b) : D.v (.bool a) = D.v (.bool b) := by rw [h]
theorem dbF {b : Bool} (h : b = true → False) : D.v (.bool false) = D.v (.bool b) := by
  cases b with
  | false => rfl
  | true => exact (h rfl).elim
theorem dbT {b : Bool} (h : b = true) : D.v (.bool true) = D.v (.bool b) := by rw [h]
end Go.Proofs.Ytccfejnckmokkaa.Va

/-! The rules by which a walk is reckoned, as one set. Condition: none. -/
namespace Go.Proofs.Ytccfejnckmokkaa.Va
open Go
attribute [go_sem] go_skip go_reg go_sch go_seq go_cond go_block go_exit go_ret goX_nil goX_seq goX_seq_ex goX_seq_ret goX_blk goX_blk_ret goX_blk_ex goX_back goX_back_ret goX_back_ex goIf_true goIf_false goIf_not goL_nil goL_q goL_m goL_c goL_v goL_g goQ_some goQ_ite goQ_ite' goM_some goM_ite goV_fn goG_true goG_false gdA_true gdA_false gdA_tup goS_done goS_take goS_takeg goT_some goT_ite goT_ite' goTG_true goTG_false goA_true goS_one_q goS_one_m goS_one_c goS_one_v goS_one_g goOQ_some goOQ_ite goOM_some goOM_ite goOV_fn goOG_true goOG_false goE_some boolA_bool chk_and chk_True chk_true Hld.alive dropS_t dropS_f drop_nil drop_cons holds isAlive mdQ mdA evM evQ evO rdQ lk_s lk_nil lkS_t lkS_f ptO_some ptO_none del_s del_nil delS_t delS_f boxB fadA fldA ldA ldM ldD ixsA ixaA ixvA slcA bndA lenA_lst lenA_sl lenA_nil lenA_emp intA_int binA_add binA_sub binA_mul binA_quo binA_rem binA_eql binA_neq binA_lss binA_leq binA_gtr binA_geq eqbA unA pickA extA nlcA mnA mxA wrap64 mksM stM bslM cpyM appM flat_di flat_db getI getB norm reach addIds idsX idsXs idsBk pos renX renXs renB postF_ret postF_nor resL resV oneOf_0 oneOf_1 oneOf_2 outL leaL_nil leaL_cons leaC_ok leaD_ok leaT_ok leaG_ok leaA_d leaA_any leaA_emp leaA_tup leaA_agg leaA_sl leaS_all leaS_mix leaW_ok RLes_ownm appX cellsB isSl range_0 range_1 range_2 range_3 range_4 range_5 range_6 range_7 range_8 RLes_nil RLes_d RLes_any RLes_own RLes_frz RLes_emp RLes_tup RLes_agg start entAs entA slots0 mkAgg allD map_ite_some bind_ite_some List.map_nil List.map_cons List.append_nil List.nil_append List.cons_append List.length_nil List.length_cons List.length_map List.getElem?_cons_zero List.getElem?_cons_succ List.flatMap_nil List.flatMap_cons List.contains_nil List.contains_cons List.set_cons_zero List.set_cons_succ List.elem_nil List.all_nil List.all_cons List.any_nil List.any_cons Option.map_some Option.map_none Option.bind_some Option.bind_none Option.getD_some id_eq Nat.mul_one Nat.zero_add Int.toNat_natCast Int.toNat_zero if_true if_false Bool.false_eq_true Bool.cond_true Bool.cond_false Bool.not_true Bool.not_false Bool.or_false Bool.or_true Bool.or_self Bool.and_self Bool.and_true Bool.true_and eq_self and_true true_and and_self beq_self_eq_true
end Go.Proofs.Ytccfejnckmokkaa.Va

/-! Rules for lists of whole numbers, of truth values, and of rows. Condition: none. -/
namespace Go.Proofs.Ytccfejnckmokkaa.Va
open Go

@[go_sem] theorem set_di (l : List Int) (c : Nat) (v : Int) : (l.map di).set c (di v) = (l.set c v).map di := by rw [List.map_set]
@[go_sem] theorem set_db (l : List Bool) (c : Nat) (v : Bool) : (l.map db).set c (db v) = (l.set c v).map db := by rw [List.map_set]
@[go_sem] theorem app_di (l m : List Int) : l.map di ++ m.map di = (l ++ m).map di := by rw [List.map_append]
@[go_sem] theorem app_db (l m : List Bool) : l.map db ++ m.map db = (l ++ m).map db := by rw [List.map_append]
@[go_sem] theorem app_di1 (l : List Int) (v : Int) : l.map di ++ [di v] = (l ++ [v]).map di := by rw [List.map_append]; rfl
@[go_sem] theorem app_db1 (l : List Bool) (v : Bool) : l.map db ++ [db v] = (l ++ [v]).map db := by rw [List.map_append]; rfl
@[go_sem] theorem rep_di (n : Nat) (v : Int) : List.replicate n (di v) = (List.replicate n v).map di := by rw [List.map_replicate]
@[go_sem] theorem rep_db (n : Nat) (v : Bool) : List.replicate n (db v) = (List.replicate n v).map db := by rw [List.map_replicate]
@[go_sem] theorem take_di (l : List Int) (n : Nat) : (l.map di).take n = (l.take n).map di := by rw [List.map_take]
@[go_sem] theorem take_db (l : List Bool) (n : Nat) : (l.map db).take n = (l.take n).map db := by rw [List.map_take]
@[go_sem] theorem drop_di (l : List Int) (n : Nat) : (l.map di).drop n = (l.drop n).map di := by rw [List.map_drop]
@[go_sem] theorem drop_db (l : List Bool) (n : Nat) : (l.map db).drop n = (l.drop n).map db := by rw [List.map_drop]

def mat (l : List (List Int)) : D := .lst 1 (l.map ints)
@[go_sem] theorem flat_ints (l : List (List Int)) : flat (l.map ints) = l.map ints := by
  induction l with
  | nil => rfl
  | cons x r ih =>
    simp only [flat, List.map_cons, List.flatMap_cons] at ih ⊢
    rw [ih]; rfl
@[go_sem] theorem getR {l : List (List Int)} {j : Nat} (h : j < l.length) : (l.map ints)[j]? = some (ints (l.getD j [])) := by simp [h]
@[go_sem] theorem app_row (l : List (List Int)) (r : List Int) : l.map ints ++ [D.lst 1 (r.map di)] = (l ++ [r]).map ints := by rw [List.map_append]; rfl

attribute [go_sem] List.length_set List.length_replicate List.length_append List.length_take List.length_drop List.drop_zero Int.toNat_natCast Option.isSome_some

@[go_sem] theorem goE_ite (c : Prop) [Decidable c] (o : Option (List AV)) (own : List Nat) (N np : Nat) (st : ASt) (out : List R) : goE (if c then o else none) own N np st out = chk c (goE o own N np st out) := ex_ite
/-! ### What is asked of argument and result -/
attribute [go_sem] decide_true decide_false bne_self_eq_false Nat.le_refl List.take_length Nat.zero_mod Nat.zero_div Nat.mod_one Nat.div_one Nat.lt_irrefl
attribute [go_sem] oneA splice List.take_succ_cons List.take_zero List.drop_succ_cons List.drop_nil List.take_nil
attribute [go_sem] giveL giveA deepA deep1 deepL idsA ids1 boxR idsB giveC gidC fnIds FnsL FnsA postC killL updL updA noOwn isDead lfR lfRs lfD lfDs

theorem goV_pfn {P : Program} {post : X → ASt → Prop} {ks : List Fr} {tm : List (Nat × AV)} {sto : Sto} {d : Option Nat} {r : List AQ} {g : List D → Value → Prop} {xs : List AV} (ds : List D) (v : Value)
    (h1 : xs.map (deepA sto) = ds.map some) (h2 : v.oneCell' = true) (h3 : g ds v) (h : goL P r ks ⟨ptO d (.d (.v v)) tm, sto⟩ post) : goV P (.pfn g) xs d r ks tm sto post := ⟨ds, v, h1, h2, h3, h⟩
theorem any_plain (l : List Int) : ((!(l.any fun n => n != l.getD 0 0)) = true) ↔ ∀ j, j < l.length → l.getD j 0 = l.getD 0 0 := by
  rw [Bool.not_eq_true', List.any_eq_false]
  constructor
  · intro h j hj
    have e : l.getD j 0 = l[j] := by simp [hj]
    have := h _ (List.getElem_mem hj)
    rw [e]; simpa using this
  · intro h x hx
    obtain ⟨j, hj, rfl⟩ := List.mem_iff_getElem.1 hx
    have := h j hj
    have e : l.getD j 0 = l[j] := by simp [hj]
    rw [e] at this; simpa using this
def fn1 (p : Int → Bool) : List D → Value → Prop := fun ds r => ∃ n, ds = [di n] ∧ r = .bool (p n)
theorem fn1_mk (p : Int → Bool) (n : Int) : fn1 p [di n] (.bool (p n)) := ⟨n, rfl, rfl⟩
theorem findIdx_at {l : List Int} {p : Int → Bool} {j : Nat} (hj : j < l.length) (h : p (l.getD j 0) = true) (hi : ∀ i, i < j → p (l.getD i 0) = false) : l.findIdx? p = some j := by
  rw [List.findIdx?_eq_some_iff_getElem]
  refine ⟨hj, by simpa [hj] using h, fun i hi' => ?_⟩
  have := hi i hi'
  simpa [show i < l.length by omega] using this
theorem findIdx_no {l : List Int} {p : Int → Bool} (hi : ∀ i, i < l.length → p (l.getD i 0) = false) : l.findIdx? p = none := by
  rw [List.findIdx?_eq_none_iff]
  intro x hx
  obtain ⟨i, hi', rfl⟩ := List.mem_iff_getElem.1 hx
  have := hi i hi'
  simpa [hi'] using this
theorem fill_step {α : Type} (l : List α) (z d : α) {n j : Nat} (hj : j < n) (hl : l.length = n) : (l.take j ++ List.replicate (n - j) z).set j (l.getD j d) = l.take (j + 1) ++ List.replicate (n - (j + 1)) z := by
  subst hl
  apply List.ext_getElem
  · simp; omega
  · intro i h1 h2
    simp at h1 h2
    rw [List.getElem_set]
    split
    · subst_vars; simp [List.getElem_append, hj]
      intro; omega
    · simp only [List.getElem_append, List.length_take]
      split <;> split
      · simp
      · omega
      · omega
      · simp
theorem eq_getD {l m : List Int} (h : l.length = m.length) (h' : ∀ j, j < l.length → l.getD j 0 = m.getD j 0) : l = m := by
  apply List.ext_getElem h
  intro j h1 h2
  have := h' j h1
  simpa [h1, h2] using this
theorem div {a b : Int} (h : a = b) : D.v (.int .i64 a) = D.v (.int .i64 b) := by rw [h]
def IsInts (d : D) (l : List Int) : Prop := d = ints l ∨ (d = .v (.slice none 0 0) ∧ l = [])
def in64 (n : Int) : Prop := -9223372036854775808 ≤ n ∧ n ≤ 9223372036854775807

end Go.Proofs.Ytccfejnckmokkaa.Va

/-! From a law's contract to its row. Condition: none. -/
namespace Go.Proofs.Ytccfejnckmokkaa.Va
open Go Go.RowKit Go.ChangeShapes Go.WideShapes

section
variable {H : Type} {enc : TypeId × Value → H} {P : Program} {W : World}

theorem has_lt {r : Reach} {base : Nat} {a : Addr} {e : TypeId} {n : Nat} (h : W.has P r base a e n) : a.spot = none ∧ a.block < W.heap.size := by
  obtain ⟨_, h1, row, cells, h2, _⟩ := h
  refine ⟨h1, ?_⟩
  rcases Nat.lt_or_ge a.block W.heap.size with h | h
  · exact h
  · simp [World.shape?, Array.getElem?_eq_none h] at h2

theorem in64_of {n : Int} (h : (Lit.int .i64 n).wf = true) : in64 n := by
  simp only [Lit.wf, Bool.and_eq_true, decide_eq_true_eq] at h
  exact h

theorem arg_ints {t e : TypeId} {base fuel : Nat} {u : Value} {x : DataW H × List MemPlace} (ht : P.underlying t = some (.slice e)) (he : P.underlying e = some (.int .i64)) (hc : P.cellsOf e = 1)
    (hok : Cell.okWide P W .any base t u) (h : DataW.trod enc P W 0 (fun _ => true) true fuel t [u] = some x) :
    ∃ (d : D) (l : List Int), IsInts d l ∧ RC W (fun b => b < W.heap.size) d u ∧ l.length ≤ maxLen ∧ ∀ n, n ∈ l → in64 n := by
  rcases open_ints ht he hc h with ⟨h1, _⟩ | ⟨a, len, cap, zs, h1, _, hl, hm, hz, _, hcell, hwf⟩
  · simp at h1; subst h1
    exact ⟨_, [], .inr ⟨rfl, rfl⟩, .v rfl, by simp, by simp⟩
  · simp at h1; subst h1
    simp only [Cell.okWide, ht, Cell.ok] at hok
    obtain ⟨_, _, hhas⟩ := hok
    obtain ⟨hs, hb⟩ := has_lt hhas
    obtain ⟨b, off, spot⟩ := a
    simp at hs hb hz; subst hs
    have hlen : (zs.take len).length = len := by rw [List.length_take]; omega
    have hrc := RC.lst (w := W) (F := fun b => b < W.heap.size) (z := 1) (elems := (zs.take len).map di) (b := b) (o := off) (cap := cap) (fun j => .int .i64 (zs.getD j 0)) (by simp; omega) hm hb
      (fun e he => by obtain ⟨n, _, rfl⟩ := List.mem_map.1 he; rfl)
      (fun j d hd => by
        rw [flat_di] at hd
        rw [List.getElem?_map] at hd
        obtain ⟨n, hn, rfl⟩ := Option.map_eq_some_iff.1 hd
        rw [List.getElem?_take] at hn
        split at hn
        · have : zs.getD j 0 = n := by simp [hn]
          rw [this]; exact .v rfl
        · cases hn)
      (fun j hj => by
        rw [flat_di] at hj
        simp at hj
        have := hcell j (by omega)
        rw [add_none] at this
        exact this)
    rw [List.length_map, hlen] at hrc
    exact ⟨ints (zs.take len), zs.take len, .inl rfl, hrc, by omega, fun n hn => in64_of (hwf n (List.mem_of_mem_take hn))⟩

theorem arg_space {t e : TypeId} {f0 : Field} {base : Nat} {v : Value} {d : DataW H} {ps : List MemPlace} (ht : P.underlying t = some (.struct #[f0])) (h0 : f0.offset = 0) (hc : P.cellsOf t = 1) (hcf : P.cellsOf f0.type = 1)
    (hct : P.cellTypes P.depth t = some [f0.type]) (hf : P.underlying f0.type = some (.slice e)) (he : P.underlying e = some (.int .i64)) (hce : P.cellsOf e = 1)
    (hok : Value.okWide P W .any base t v) (h : DataW.Trod enc P W 0 (fun _ => true) true t v d ps) :
    ∃ (x : D) (l : List Int), IsInts x l ∧ RD W (fun b => b < W.heap.size) (.agg [x]) v ∧ l.length ≤ maxLen ∧ ∀ n, n ∈ l → in64 n := by
  simp only [Value.okWide, ht] at hok
  obtain ⟨cs, rfl, hsz, ts, hts, _, hcell⟩ := hok
  rw [hct] at hts; cases hts
  rw [hc] at hsz
  obtain ⟨fuel, h⟩ := h
  obtain ⟨y0, n, _, _, h3⟩ := trod_struct1 ht h
  obtain ⟨u, hu⟩ : ∃ u, cs = #[u] := ⟨cs[0], by
    apply Array.ext
    · simpa using hsz
    · intro i h1 h2
      have : i = 0 := by simp at h2; exact h2
      subst this; rfl⟩
  subst hu
  obtain ⟨u', hu', hok'⟩ := hcell 0 u rfl
  simp at hu'; subst hu'
  have h3' : DataW.trod enc P W 0 (fun _ => true) true n f0.type [u] = some y0 := by
    rw [h0, hcf] at h3
    simpa [Value.cells] using h3
  obtain ⟨x, l, g1, g2, g3, g4⟩ := arg_ints hf he hce hok' h3'
  exact ⟨x, l, g1, ⟨#[u], rfl, rfl, fun j d hd => by
    cases j with
    | zero => simp at hd; subst hd; exact g2
    | succ j => simp at hd⟩, g3, g4⟩

theorem Kp.below {w w' : World} (h : Kp (fun _ => False) w w') : Below w.heap.size w w' := ⟨h.os, h.tape, h.output, h.size, fun k hk => h.block k hk (fun x => x)⟩

theorem trodAll_below (hl : laidOutB P = true) {W' : World} (hb : Below W.heap.size W W') : ∀ {ts : List TypeId} {vs : List Value} {ds : List (DataW H)} {ps : List MemPlace},
    (∀ t, t ∈ ts → P.readableRec t = true ∧ t < P.types.size) → (∀ x, x ∈ ps → x.block < W.heap.size) → DataW.TrodAll enc P W 0 (fun _ => true) true ts vs ds ps →
    DataW.TrodAll enc P W' 0 (fun b => decide (b < W.heap.size)) true ts vs ds ps
  | [], [], [], ps, _, _, h => h
  | t :: ts, v :: vs, d :: ds, ps, hr, hlt, h => by
    obtain ⟨p, q, h1, h2, rfl⟩ := h
    exact ⟨p, q, Below.trod hl (hr t List.mem_cons_self).1 (hr t List.mem_cons_self).2 h1 hb (fun x hx => hlt x (List.mem_append_left _ hx)),
      trodAll_below hl hb (fun t ht => hr t (List.mem_cons_of_mem _ ht)) (fun x hx => hlt x (List.mem_append_right _ hx)) h2, rfl⟩
  | [], _ :: _, _, _, _, _, h => h.elim
  | [], [], _ :: _, _, _, _, h => h.elim
  | _ :: _, [], _, _, _, _, h => h.elim
  | _ :: _, _ :: _, [], _, _, _, h => h.elim

theorem law_post {fn : Func} {s : ChangeSpec} {W' : World} {args : Array Value} {ds gs : List (DataW H)} {before : List MemPlace} {tb : TypeId} (hl : laidOutB P = true)
    (hr : ∀ t, t ∈ fn.params.toList → P.readableRec t = true ∧ t < P.types.size) (hvars : s.vars = []) (hres : fn.resultTypes = #[tb]) (htb : P.underlying tb = some .bool)
    (hW : DataW.Whole enc P fn.params.toList s.vars false W args.toList ds gs before) (hk : Kp (fun _ => False) W W')
    (hfn : s.fn H ds = { results := [.lit (.bool true)], args := ds }) : s.post enc P fn false true false false W args (.bool true) W' := by
  have hlt : ∀ x, x ∈ before → x.block < W.heap.size := fun x hx => by simpa using hW.lt x hx
  have hW' := hW
  obtain ⟨p, q, hA, hV, rfl, _, _⟩ := hW
  rw [hvars] at hV
  cases gs with
  | cons => exact hV.elim
  | nil =>
    have hq : q = [] := hV
    subst hq
    refine ⟨ds, [], _, [], p, [], hW', ?_, ?_, ?_, hk.below.frame _, fun h => by cases h⟩
    · rw [List.append_nil, hfn, hres]
      exact trodAll_mk1 (shut_bool htb true)
    · rw [List.append_nil, hfn]
      exact trodAll_below hl hk.below hr (fun x hx => hlt x (by simp [hx])) hA
    · rw [List.append_nil, hfn, hvars]
      rfl
end
end Go.Proofs.Ytccfejnckmokkaa.Va

/-! A law's arguments, each by its kind. Condition: none. -/
namespace Go.Proofs.Ytccfejnckmokkaa.Va
open Go Go.RowKit Go.ChangeShapes Go.WideShapes

section
variable {H : Type} {enc : TypeId × Value → H} {P : Program} {W : World}

theorem trod_four {t0 t1 t2 t3 : TypeId} {args : Array Value} {ds : List (DataW H)} {ps : List MemPlace} {base : Nat} {sp : Nat → Bool} {held : Bool} (h : DataW.TrodAll enc P W base sp held [t0, t1, t2, t3] args.toList ds ps) :
    ∃ v0 v1 v2 v3 d0 d1 d2 d3 p0 p1 p2 p3, args = #[v0, v1, v2, v3] ∧ ds = [d0, d1, d2, d3] ∧ ps = p0 ++ p1 ++ p2 ++ p3 ∧ DataW.Trod enc P W base sp held t0 v0 d0 p0 ∧ DataW.Trod enc P W base sp held t1 v1 d1 p1 ∧ DataW.Trod enc P W base sp held t2 v2 d2 p2 ∧ DataW.Trod enc P W base sp held t3 v3 d3 p3 := by
  obtain ⟨v0, vs, d0, ds', p0, q, hargs, rfl, rfl, h0, hr⟩ := trodAll_cons h
  obtain ⟨v1, vs, d1, ds', p1, q, rfl, rfl, rfl, h1, hr⟩ := trodAll_cons hr
  obtain ⟨v2, vs, d2, ds', p2, q, rfl, rfl, rfl, h2, hr⟩ := trodAll_cons hr
  obtain ⟨v3, vs, d3, ds', p3, q, rfl, rfl, rfl, h3, hr⟩ := trodAll_cons hr
  obtain ⟨rfl, rfl, rfl⟩ := trodAll_nil hr
  exact ⟨v0, v1, v2, v3, d0, d1, d2, d3, p0, p1, p2, p3, by cases args; simp_all, rfl, by simp, h0, h1, h2, h3⟩

theorem arg_list {t e : TypeId} {base : Nat} {v : Value} {d : DataW H} {ps : List MemPlace} (ht : P.underlying t = some (.slice e)) (he : P.underlying e = some (.int .i64)) (hc : P.cellsOf e = 1)
    (hok : Value.okWide P W .any base t v) (h : DataW.Trod enc P W 0 (fun _ => true) true t v d ps) :
    ∃ (x : D) (l : List Int), IsInts x l ∧ RD W (fun b => b < W.heap.size) x v ∧ l.length ≤ maxLen ∧ ∀ n, n ∈ l → in64 n := by
  simp only [Value.okWide, ht] at hok
  have hcell : v.cells = #[v] := by
    have := hok
    simp only [Cell.okWide, ht] at this
    cases v <;> first | rfl | (simp [Cell.ok, ht] at this)
  obtain ⟨fuel, h⟩ := h
  rw [hcell] at h
  obtain ⟨x, l, g1, g2, g3, g4⟩ := arg_ints ht he hc hok h
  refine ⟨x, l, g1, ?_, g3, g4⟩
  rcases g1 with rfl | ⟨rfl, _⟩
  · exact g2
  · exact g2

theorem arg_int {t : TypeId} {base : Nat} {v : Value} {d : DataW H} {ps : List MemPlace} (ht : P.underlying t = some (.int .i64))
    (hok : Value.okWide P W .any base t v) (h : DataW.Trod enc P W 0 (fun _ => true) true t v d ps) :
    ∃ n : Int, RD W (fun b => b < W.heap.size) (di n) v ∧ in64 n := by
  obtain ⟨n, rfl, _, _, hw⟩ := open_int ht hok h
  exact ⟨n, .v rfl, in64_of hw⟩

theorem arg_str {t : TypeId} {base : Nat} {v : Value} {d : DataW H} {ps : List MemPlace} (ht : P.underlying t = some .string)
    (hok : Value.okWide P W .any base t v) (h : DataW.Trod enc P W 0 (fun _ => true) true t v d ps) :
    ∃ s : ByteArray, RD W (fun b => b < W.heap.size) (.v (.string s)) v ∧ s.size ≤ maxLen := by
  obtain ⟨s, rfl, _, _, hs⟩ := ChangeMaps.open_string ht hok h
  exact ⟨s, .v rfl, hs⟩

theorem law_calls {f : FuncId} {args : List D} {us : List Value} {Q : Value → World → Prop} (hden : Den P f (args.map .d) (args.map fun _ => .any) (.d (db true)))
    (h : ARs P W (fun b => b < W.heap.size) (args.map .d) us []) (hQ : ∀ W', Kp (fun _ => False) W W' → Q (.bool true) W') :
    Calls P f us.toArray W fun e W' => ∃ v, e = .returned v ∧ Q v W' := by
  have hc := hden.2 W (fun b => b < W.heap.size) us [] h List.nodup_nil (fun b hb => by simp at hb) (fun b hb => ⟨hb, by simp⟩)
  refine hc.mono fun e W' hR => ?_
  obtain ⟨v, bs', rfl, hk, _, _, har⟩ := hR
  have hv : v = .bool true := by
    cases har with
    | cons h _ => cases h with | d h => exact h.v_inv.1
  subst hv
  exact ⟨_, rfl, hQ W' (hk.mono (fun _ _ h => by simp at h))⟩
end
end Go.Proofs.Ytccfejnckmokkaa.Va

/-! Calls by contract, reckoned by rules. Condition: none. -/
namespace Go.Proofs.Ytccfejnckmokkaa.Va
open Go

def sameR (a b : List R) : Prop := a = b
theorem sameR_nil : sameR [] [] = True := eq_true rfl
theorem sameR_d (x y : D) (a b : List R) : sameR (.d x :: a) (.d y :: b) = (x = y ∧ sameR a b) := by simp [sameR]
theorem sameR_emp (a b : List R) : sameR (.emp :: a) (.emp :: b) = sameR a b := by simp [sameR]
theorem sameR_own (z z' : Nat) (x y : List D) (a b : List R) : sameR (.own z x :: a) (.own z' y :: b) = ((z = z' ∧ x = y) ∧ sameR a b) := by simp [sameR]
theorem sameR_box (x y : List D) (a b : List R) : sameR (.box x :: a) (.box y :: b) = (x = y ∧ sameR a b) := by simp [sameR]
theorem sameR_ownm (x y : List R) (a b : List R) : sameR (.ownm x :: a) (.ownm y :: b) = (sameR x y ∧ sameR a b) := by simp [sameR]
theorem sameR_boxm (x y : List R) (a b : List R) : sameR (.boxm x :: a) (.boxm y :: b) = (sameR x y ∧ sameR a b) := by simp [sameR]
theorem sameR_agg (x y : List R) (a b : List R) : sameR (.agg x :: a) (.agg y :: b) = (sameR x y ∧ sameR a b) := by simp [sameR]
theorem sameR_is (x y : R) (v v' : Value) (a b : List R) : sameR (.is x v :: a) (.is y v' :: b) = ((sameR [x] [y] ∧ v = v') ∧ sameR a b) := by simp [sameR]
theorem sameR_any (a b : List R) : sameR (.any :: a) (.any :: b) = sameR a b := by simp [sameR]
theorem sameR_pfn (g : List D → Value → Prop) (a b : List R) : sameR (.pfn g :: a) (.pfn g :: b) = sameR a b := by simp [sameR]

def nodB : List Nat → Bool
  | [] => true
  | i :: r => !r.contains i && nodB r
theorem nodB_ok : ∀ l : List Nat, decide l.Nodup = nodB l
  | [] => by simp [nodB]
  | i :: r => by
    have := nodB_ok r
    rw [nodB, ← this]
    simp [List.nodup_cons]
theorem okU_eq (rd gv fz : List Nat) (res : R) (rs' : List R) : okU ⟨rd, gv, fz⟩ res rs' = (nodB gv && (rd ++ fz).all (fun i => !gv.contains i) && (rd.isEmpty || (lfR res && lfRs rs'))) := by
  simp only [okU, nodB_ok]
theorem lf_own_di (z : Nat) (l : List Int) : lfR (.own z (l.map di)) = true := by simp [lfR, lfD]
theorem lf_own_db (z : Nat) (l : List Bool) : lfR (.own z (l.map db)) = true := by simp [lfR, lfD]

section
variable {P : Program} {post : X → ASt → Prop}

def goCC (P : Program) (o : Option (List R × Use)) (ms : List M) (rs rs' : List R) (res : R) (xs : List AV) (d : Option Nat) (r : List AQ) (ks : List Fr) (tm : List (Nat × AV)) (sto : Sto) (post : X → ASt → Prop) : Prop :=
  ∃ p, o = some p ∧ sameR p.1 rs ∧ okU p.2 res rs' = true ∧ FnsL P sto ms xs ∧ ∃ q, postC sto ms xs p.2 rs' res = some q ∧ goL P r ks ⟨ptO d q.1 tm, q.2⟩ post
def goOCC (P : Program) (o : Option (List R × Use)) (ms : List M) (rs rs' : List R) (res : R) (xs : List AV) (d : Option Nat) (s : ASch) (H : Hld) (ks : List Fr) (tm : List (Nat × AV)) (sto : Sto) (post : X → ASt → Prop) : Prop :=
  ∃ p, o = some p ∧ sameR p.1 rs ∧ okU p.2 res rs' = true ∧ (p.2.gv.all fun i => isAlive sto i && !holds H i) = true ∧ FnsL P sto ms xs ∧ ∃ q, postC sto ms xs p.2 rs' res = some q ∧ goA P (H.alive q.2) s H ks (ptO d q.1 tm) q.2 post

theorem goC_call {f : FuncId} {xs : List AV} {d : Option Nat} {r : List AQ} {ks : List Fr} {tm : List (Nat × AV)} {sto : Sto} (ms : List M) {rs rs' : List R} {res : R} (hden : Den P f rs rs' res)
    (h : goCC P (giveL sto ms xs) ms rs rs' res xs d r ks tm sto post) : goC P f xs d r ks tm sto post := by
  obtain ⟨⟨a, use⟩, h1, h2, h3, h4, ⟨x, s'⟩, h5, h6⟩ := h
  have h2' : a = rs := h2
  subst h2'
  exact goC_of ms hden h1 h3 h4 h5 h6
theorem goOC_call {f : FuncId} {xs : List AV} {d : Option Nat} {s : ASch} {H : Hld} {ks : List Fr} {tm : List (Nat × AV)} {sto : Sto} (ms : List M) {rs rs' : List R} {res : R} (hden : Den P f rs rs' res)
    (h : goOCC P (giveL sto ms xs) ms rs rs' res xs d s H ks tm sto post) : goOC P f xs d s H ks tm sto post := by
  obtain ⟨⟨a, use⟩, h1, h2, h3, hT, h4, ⟨x, s'⟩, h5, h6⟩ := h
  have h2' : a = rs := h2
  subst h2'
  exact goOC_of ms hden h1 hT h3 h4 h5 h6

/-! Calls by the value of a function; calls with pointers whose values are named. -/
def goCG (P : Program) (f : FuncId) (n : Nat) (xs : List AV) (d : Option Nat) (r : List AQ) (ks : List Fr) (tm : List (Nat × AV)) (sto : Sto) (post : X → ASt → Prop) : Prop :=
  wpDenG P (fun _ => True) sto f n xs fun x s => goL P r ks ⟨ptO d x tm, s⟩ post
def goOCG (P : Program) (f : FuncId) (n : Nat) (xs : List AV) (d : Option Nat) (s : ASch) (H : Hld) (ks : List Fr) (tm : List (Nat × AV)) (sto : Sto) (post : X → ASt → Prop) : Prop :=
  wpDenG P (mayT H sto) sto f n xs fun x s' => goA P (H.alive s') s H ks (ptO d x tm) s' post
theorem goCG_call {f : FuncId} {n : Nat} {xs : List AV} {d : Option Nat} {r : List AQ} {ks : List Fr} {tm : List (Nat × AV)} {sto : Sto} (ms : List M) {rs rs' : List R} {res : R} (hden : DenG P f n rs rs' res)
    (h : goCC P (giveL sto ms xs) ms rs rs' res xs d r ks tm sto post) : goCG P f n xs d r ks tm sto post := by
  obtain ⟨⟨a, use⟩, h1, h2, h3, h4, ⟨x, s'⟩, h5, h6⟩ := h
  have h2' : a = rs := h2
  subst h2'
  exact wpDenG_of hden h1 (fun _ _ => trivial) h3 h4 h5 h6
theorem goOCG_call {f : FuncId} {n : Nat} {xs : List AV} {d : Option Nat} {s : ASch} {H : Hld} {ks : List Fr} {tm : List (Nat × AV)} {sto : Sto} (ms : List M) {rs rs' : List R} {res : R} (hden : DenG P f n rs rs' res)
    (h : goOCC P (giveL sto ms xs) ms rs rs' res xs d s H ks tm sto post) : goOCG P f n xs d s H ks tm sto post := by
  obtain ⟨⟨a, use⟩, h1, h2, h3, hT, h4, ⟨x, s'⟩, h5, h6⟩ := h
  have h2' : a = rs := h2
  subst h2'
  exact wpDenG_of hden h1 (fun i hi => List.all_eq_true.1 hT i hi) h3 h4 h5 h6
theorem goV_val {u : Value} {xs : List AV} {d : Option Nat} {r : List AQ} {ks : List Fr} {tm : List (Nat × AV)} {sto : Sto} (f : FuncId) (vs : List Value) (cs gs : List Nat) (h1 : u = .func (.func f) #[] vs.toArray)
    (h2 : isVs (cs.map (lk tm)) = some vs) (h : goCG P f (xs.length + cs.length) (xs ++ (cs.map (lk tm) ++ gs.map (lk tm))) d r ks tm sto post) : goV P (.d (.v u)) xs d r ks tm sto post := ⟨f, vs, cs, gs, h1, h2, h⟩
theorem goOV_val {u : Value} {xs : List AV} {d : Option Nat} {s : ASch} {H : Hld} {ks : List Fr} {tm : List (Nat × AV)} {sto : Sto} (f : FuncId) (vs : List Value) (cs gs : List Nat) (h1 : u = .func (.func f) #[] vs.toArray)
    (h2 : isVs (cs.map (lk tm)) = some vs) (h : goOCG P f (xs.length + cs.length) (xs ++ (cs.map (lk tm) ++ gs.map (lk tm))) d s H ks tm sto post) : goOV P (.d (.v u)) xs d s H ks tm sto post := ⟨f, vs, cs, gs, h1, h2, h⟩
def refLt (n : Nat) : List AV → Bool
  | [] => true
  | .ref i 0 :: r => decide (i < n) && refLt n r
  | _ :: _ => false
theorem refLt_ok {n : Nat} : ∀ {ys : List AV}, refLt n ys = true → isRefs ys = true ∧ ∀ i c, AV.ref i c ∈ ys → i < n
  | [], _ => ⟨rfl, fun i c h => by cases h⟩
  | .ref i 0 :: r, h => by
    simp only [refLt, Bool.and_eq_true, decide_eq_true_eq] at h
    obtain ⟨h1, h2⟩ := refLt_ok h.2
    refine ⟨h1, fun j c hj => ?_⟩
    rcases List.mem_cons.1 hj with e | hj
    · cases e; exact h.1
    · exact h2 j c hj
theorem goC_realZ {f : FuncId} {xs : List AV} {d : Option Nat} {r : List AQ} {ks : List Fr} {tm : List (Nat × AV)} {sto : Sto} (I : List Nat) (ys : List AV) (zs : List Nat) (h1 : refLt sto.length ys = true)
    (h : ∀ ρ : Nat → Value, Knows tm ρ → goCG P f xs.length ((xs ++ ys).map (rlV ρ) ++ zs.map (lk tm)) d r ks tm (rlS ρ I sto) post) : goC P f xs d r ks tm sto post :=
  .inr ⟨I, ys, zs, (refLt_ok h1).1, (refLt_ok h1).2, h⟩
theorem goC_real {f : FuncId} {xs : List AV} {d : Option Nat} {r : List AQ} {ks : List Fr} {tm : List (Nat × AV)} {sto : Sto} (I : List Nat) (ys : List AV) (h1 : refLt sto.length ys = true)
    (h : ∀ ρ : Nat → Value, Knows tm ρ → goCG P f xs.length ((xs ++ ys).map (rlV ρ)) d r ks tm (rlS ρ I sto) post) : goC P f xs d r ks tm sto post :=
  goC_realZ I ys [] h1 fun ρ hρ => by simpa using h ρ hρ
theorem rlS_mayT {H : Hld} {ρ : Nat → Value} {I : List Nat} {sto : Sto} {i : Nat} (h : mayT H (rlS ρ I sto) i) : mayT H sto i := by
  simp only [mayT, Bool.and_eq_true] at h ⊢
  refine ⟨?_, h.2⟩
  obtain ⟨B, hB⟩ := isAlive_ok h.1
  obtain ⟨C, hC⟩ := ((rlS_alive ρ I sto).2 i).1 ⟨B, hB⟩
  simp [isAlive, hC]
theorem goOC_realZ {f : FuncId} {xs : List AV} {d : Option Nat} {s : ASch} {H : Hld} {ks : List Fr} {tm : List (Nat × AV)} {sto : Sto} (I : List Nat) (ys : List AV) (zs : List Nat) (h1 : refLt sto.length ys = true)
    (h : ∀ ρ : Nat → Value, Knows tm ρ → goOCG P f xs.length ((xs ++ ys).map (rlV ρ) ++ zs.map (lk tm)) d s H ks tm (rlS ρ I sto) post) : goOC P f xs d s H ks tm sto post := by
  refine .inr ⟨I, ys, zs, (refLt_ok h1).1, (refLt_ok h1).2, fun ρ hρ => ?_⟩
  obtain ⟨ms, rs, use, rs', res, x, s', g1, g2, g3, g4, g5, g6, g7, g8, g9⟩ := h ρ hρ
  exact ⟨ms, rs, use, rs', res, x, s', g1, fun i hi => rlS_mayT (g2 i hi), g3, g4, g5, g6, g7, g8, g9⟩
theorem goOC_real {f : FuncId} {xs : List AV} {d : Option Nat} {s : ASch} {H : Hld} {ks : List Fr} {tm : List (Nat × AV)} {sto : Sto} (I : List Nat) (ys : List AV) (h1 : refLt sto.length ys = true)
    (h : ∀ ρ : Nat → Value, Knows tm ρ → goOCG P f xs.length ((xs ++ ys).map (rlV ρ)) d s H ks tm (rlS ρ I sto) post) : goOC P f xs d s H ks tm sto post :=
  goOC_realZ I ys [] h1 fun ρ hρ => by simpa using h ρ hρ

variable (ms : List M) (rs rs' : List R) (res : R) (xs : List AV) (d : Option Nat) (r : List AQ) (s : ASch) (H : Hld) (ks : List Fr) (tm : List (Nat × AV)) (sto : Sto)
theorem goCC_some (a : List R) (use : Use) : goCC P (some (a, use)) ms rs rs' res xs d r ks tm sto post = chk (sameR a rs) (chk (okU use res rs' = true) (chk (FnsL P sto ms xs) (goM P (postC sto ms xs use rs' res) d r ks tm post))) := by
  apply propext
  constructor
  · rintro ⟨p, h1, h2, h3, h4, h5⟩; cases h1; exact ⟨h2, h3, h4, h5⟩
  · rintro ⟨h2, h3, h4, h5⟩; exact ⟨_, rfl, h2, h3, h4, h5⟩
theorem goCC_ite (c : Prop) [Decidable c] (o : Option (List R × Use)) : goCC P (if c then o else none) ms rs rs' res xs d r ks tm sto post = chk c (goCC P o ms rs rs' res xs d r ks tm sto post) := ex_ite
theorem goOCC_some (a : List R) (use : Use) : goOCC P (some (a, use)) ms rs rs' res xs d s H ks tm sto post = chk (sameR a rs) (chk (okU use res rs' = true) (chk ((use.gv.all fun i => isAlive sto i && !holds H i) = true) (chk (FnsL P sto ms xs) (goOM P (postC sto ms xs use rs' res) true d s H ks tm post)))) := by
  apply propext
  constructor
  · rintro ⟨p, h1, h2, h3, h4, h5, h6⟩; cases h1; exact ⟨h2, h3, h4, h5, rfl, h6⟩
  · rintro ⟨h2, h3, h4, h5, _, h6⟩; exact ⟨_, rfl, h2, h3, h4, h5, h6⟩
theorem goOCC_ite (c : Prop) [Decidable c] (o : Option (List R × Use)) : goOCC P (if c then o else none) ms rs rs' res xs d s H ks tm sto post = chk c (goOCC P o ms rs rs' res xs d s H ks tm sto post) := ex_ite
end
attribute [go_sem] startL rlV rlCaps rlS rlS1 refLt isVs isG startG
attribute [go_sem] sameR_nil sameR_d sameR_emp sameR_own sameR_box sameR_boxm sameR_ownm sameR_agg sameR_is sameR_any sameR_pfn nodB okU_eq lf_own_di lf_own_db goCC_some goCC_ite goOCC_some goOCC_ite List.isEmpty_nil List.isEmpty_cons Bool.false_and Bool.true_or Bool.false_or Option.map_some
end Go.Proofs.Ytccfejnckmokkaa.Va

/-! Rules for bytes, arrays, shifts and bits. Condition: none. -/
namespace Go.Proofs.Ytccfejnckmokkaa.Va
open Go

abbrev dy (n : Int) : D := .v (.int .u8 n)
@[go_sem] theorem getY {l : List Int} {j : Nat} (h : j < l.length) : (l.map dy)[j]? = some (dy (l.getD j 0)) := by simp [h]
@[go_sem] theorem set_dy (l : List Int) (c : Nat) (v : Int) : (l.map dy).set c (dy v) = (l.set c v).map dy := by rw [List.map_set]
@[go_sem] theorem wrap_u8 {x : Int} (h : 0 ≤ x) (h' : x < 256) : IntKind.wrap .u8 x = x := by
  simp [IntKind.wrap, IntKind.bits, IntKind.signed]; omega
@[go_sem] theorem wrap_u64 {x : Int} (h : 0 ≤ x) (h' : x < 18446744073709551616) : IntKind.wrap .u64 x = x := by
  simp [IntKind.wrap, IntKind.bits, IntKind.signed]; omega
@[go_sem] theorem tdiv_nn {a b : Int} (h : 0 ≤ a) : a.tdiv b = a / b := Int.tdiv_eq_ediv_of_nonneg h
@[go_sem] theorem tmod_nn {a b : Int} (h : 0 ≤ a) : a.tmod b = a % b := Int.tmod_eq_emod_of_nonneg h
theorem two_pow_lt {b : Nat} (h : b ≤ 62) : (2 : Int) ^ b < 9223372036854775808 ∧ 1 ≤ (2 : Int) ^ b := by
  have h1 : (2 : Nat) ^ b ≤ 2 ^ 62 := Nat.pow_le_pow_right (by omega) h
  have h2 : 1 ≤ (2 : Nat) ^ b := Nat.one_le_two_pow
  have h3 : ((2 : Nat) ^ b : Int) = (2 : Int) ^ b := by simp
  have h4 : (((2 : Nat) ^ b : Nat) : Int) = (2 : Int) ^ b := by simp
  omega
@[go_sem] theorem binA_shl1 {k : IntKind} {b : Int} (h : 0 ≤ b) (h' : b ≤ 62) : binA .shl (.d (.v (.int .i64 1))) (.d (.v (.int k b))) = some (.d (di (2 ^ b.toNat))) := by
  have h1 := two_pow_lt (b := b.toNat) (by omega)
  have e : min b.toNat 64 = b.toNat := by omega
  have hw := wrap64 (x := 2 ^ b.toNat) (by omega) h1.1
  simp only [binA, binI, BinOp.isShift, true_or, if_true, if_neg (show ¬ b < 0 by omega), IntKind.bits, e, Int.one_mul, hw, Option.map_some]
@[go_sem] theorem binA_shr {k : IntKind} {a b : Int} (h : 0 ≤ b) (h' : b ≤ 63) : binA .shr (.d (.v (.int .i64 a))) (.d (.v (.int k b))) = some (.d (di (a / 2 ^ b.toNat))) := by
  have e : min b.toNat 64 = b.toNat := by omega
  have h1 : (0 : Int) ≤ 2 ^ b.toNat := Int.pow_nonneg (by omega)
  simp only [binA, binI, BinOp.isShift, true_or, if_true, if_neg (show ¬ b < 0 by omega), IntKind.bits, e, Option.map_some, Int.fdiv_eq_ediv_of_nonneg _ h1]

theorem ofInt_nat {a : Int} (h : 0 ≤ a) (h' : a < 9223372036854775808) : (BitVec.ofInt 64 a).toNat = a.toNat := by
  rw [BitVec.toNat_ofInt]; omega
theorem wrapI_nat {n : Nat} (h : n < 9223372036854775808) : IntKind.wrap .i64 (n : Int) = n := wrap64 (by omega) (by omega)
@[go_sem] theorem binA_and {a b : Int} (h : 0 ≤ a) (h1 : a < 9223372036854775808) (h2 : 0 ≤ b) (h3 : b < 9223372036854775808) :
    binA .and (.d (.v (.int .i64 a))) (.d (.v (.int .i64 b))) = some (.d (di ((a.toNat &&& b.toNat : Nat) : Int))) := by
  have e : (BitVec.ofInt 64 a &&& BitVec.ofInt 64 b).toNat = a.toNat &&& b.toNat := by rw [BitVec.toNat_and, ofInt_nat h h1, ofInt_nat h2 h3]
  have hl : a.toNat &&& b.toNat < 9223372036854775808 := Nat.lt_of_le_of_lt Nat.and_le_left (by omega)
  have e2 : binI .and .i64 a b = some (.int .i64 (IntKind.wrap .i64 ((BitVec.ofInt 64 a &&& BitVec.ofInt 64 b).toNat : Nat))) := rfl
  simp only [binA, e2, BinOp.isShift, or_true, if_true, e, Option.map_some, wrapI_nat hl]
@[go_sem] theorem binA_or {a b : Int} (h : 0 ≤ a) (h1 : a < 9223372036854775808) (h2 : 0 ≤ b) (h3 : b < 9223372036854775808) :
    binA .or (.d (.v (.int .i64 a))) (.d (.v (.int .i64 b))) = some (.d (di ((a.toNat ||| b.toNat : Nat) : Int))) := by
  have e : (BitVec.ofInt 64 a ||| BitVec.ofInt 64 b).toNat = a.toNat ||| b.toNat := by rw [BitVec.toNat_or, ofInt_nat h h1, ofInt_nat h2 h3]
  have hl : a.toNat ||| b.toNat < 9223372036854775808 := by
    have := @Nat.or_lt_two_pow a.toNat b.toNat 63 (by omega) (by omega)
    omega
  have e2 : binI .or .i64 a b = some (.int .i64 (IntKind.wrap .i64 ((BitVec.ofInt 64 a ||| BitVec.ofInt 64 b).toNat : Nat))) := rfl
  simp only [binA, e2, BinOp.isShift, or_true, if_true, e, Option.map_some, wrapI_nat hl]
theorem and_one_toNat (n : Nat) : ((n &&& 1 : Nat) : Int) = (n : Int) % 2 := by
  rw [Nat.and_one_is_mod]; simp
@[go_sem] theorem all_lf_di (l : List Int) : (l.map di).all lfD = true := by simp [lfD]
@[go_sem] theorem all_lf_db (l : List Bool) : (l.map db).all lfD = true := by simp [lfD]
@[go_sem] theorem ldC_f (n : Nat) (cs : List D) (c : Nat) : ldC false n cs c = (cs[c]?).map .d := rfl
@[go_sem] theorem ldC_all {n : Nat} {cs : List D} (h : n = cs.length) : ldC true n cs 0 = some (.d (.agg cs)) := by simp [ldC, h]
@[go_sem] theorem ldC_part {n : Nat} {cs : List D} {c : Nat} (h : ¬ (c = 0 ∧ n = cs.length)) (h2 : c + n ≤ cs.length) : ldC true n cs c = some (.d (.agg ((cs.drop c).take n))) := by
  simp only [ldC, if_true, if_neg h, if_pos h2]
@[go_sem] theorem stB_all {n : Nat} {cs ds : List D} (h : n = ds.length) (h2 : ds.length = cs.length) : stB true n 0 (.var cs) (.d (.agg ds)) = some (.var ds) := by simp [stB, h, h2]
@[go_sem] theorem stB_part {n c : Nat} {cs ds : List D} (h : n = ds.length) (h2 : ¬ (c = 0 ∧ ds.length = cs.length)) (h3 : c + ds.length ≤ cs.length) : stB true n c (.var cs) (.d (.agg ds)) = some (.var (splice cs c ds)) := by
  simp only [stB, h, true_and, if_true, if_neg h2, if_pos h3]
@[go_sem] theorem stB_v (n c : Nat) (cs : List D) (x : Value) : stB false n c (.var cs) (.d (.v x)) = if n = 1 ∧ c < cs.length then some (.var (cs.set c (.v x))) else none := by simp [stB]
@[go_sem] theorem stB_l (n c : Nat) (cs : List D) (z : Nat) (es : List D) : stB false n c (.var cs) (.d (.lst z es)) = if n = 1 ∧ c < cs.length then some (.var (cs.set c (.lst z es))) else none := by simp [stB]
@[go_sem] theorem stB_g (ag : Bool) (n c : Nat) (cs : List D) (ys : List AV) : stB ag n c (.var cs) (.agg ys) = if ag = true ∧ n = ys.length ∧ c + n ≤ cs.length then some (.mix (splice (cs.map .d) c ys)) else none := rfl
@[go_sem] theorem stB_sl (ag : Bool) (n c : Nat) (cs : List D) (i d m z : Nat) : stB ag n c (.var cs) (.sl i d m z) = if oneA (.sl i d m z) = true ∧ ag = false ∧ n = 1 ∧ c < cs.length then some (.mix ((cs.map .d).set c (.sl i d m z))) else none := rfl
@[go_sem] theorem stB_emp (ag : Bool) (n c : Nat) (cs : List D) : stB ag n c (.var cs) .emp = if oneA .emp = true ∧ ag = false ∧ n = 1 ∧ c < cs.length then some (.mix ((cs.map .d).set c .emp)) else none := rfl
@[go_sem] theorem stB_fn (ag : Bool) (n c : Nat) (cs : List D) (f : FuncId) (ys : List AV) : stB ag n c (.var cs) (.fn f ys) = if oneA (.fn f ys) = true ∧ ag = false ∧ n = 1 ∧ c < cs.length then some (.mix ((cs.map .d).set c (.fn f ys))) else none := rfl
@[go_sem] theorem stB_dv (n c z : Nat) (es : List D) (x : Value) : stB false n c (.dat z es) (.d (.v x)) = if n = 1 ∧ z = 1 ∧ c < es.length then some (.dat 1 (es.set c (.v x))) else none := by simp [stB]
@[go_sem] theorem stB_dl (n c z : Nat) (es : List D) (y : Nat) (xs : List D) : stB false n c (.dat z es) (.d (.lst y xs)) = if n = 1 ∧ z = 1 ∧ c < es.length then some (.dat 1 (es.set c (.lst y xs))) else none := by simp [stB]
@[go_sem] theorem stB_dg (n c z : Nat) (es ds : List D) : stB true n c (.dat z es) (.d (.agg ds)) = if n = z ∧ ds.length = z ∧ c % z = 0 ∧ c / z < es.length then some (.dat z (es.set (c / z) (.agg ds))) else none := by simp [stB]
@[go_sem] theorem stB_mg (n c : Nat) (cs : List AV) (ds : List D) : stB true n c (.mix cs) (.d (.agg ds)) = if n = ds.length ∧ c + n ≤ cs.length then some (.mix (splice cs c (ds.map .d))) else none := by simp [stB]
@[go_sem] theorem stB_mv (n c : Nat) (cs : List AV) (x : Value) : stB false n c (.mix cs) (.d (.v x)) = if n = 1 ∧ c < cs.length then some (.mix (cs.set c (.d (.v x)))) else none := by simp [stB, oneA]
@[go_sem] theorem stB_ml (n c : Nat) (cs : List AV) (z : Nat) (es : List D) : stB false n c (.mix cs) (.d (.lst z es)) = if n = 1 ∧ c < cs.length then some (.mix (cs.set c (.d (.lst z es)))) else none := by simp [stB, oneA]
@[go_sem] theorem stB_mgg (ag : Bool) (n c : Nat) (cs ys : List AV) : stB ag n c (.mix cs) (.agg ys) = if ag = true ∧ n = ys.length ∧ c + n ≤ cs.length then some (.mix (splice cs c ys)) else none := rfl
@[go_sem] theorem stB_ms (ag : Bool) (n c : Nat) (cs : List AV) (i d m z : Nat) : stB ag n c (.mix cs) (.sl i d m z) = if oneA (.sl i d m z) = true ∧ ag = false ∧ n = 1 ∧ c < cs.length then some (.mix (cs.set c (.sl i d m z))) else none := rfl
@[go_sem] theorem stB_me (ag : Bool) (n c : Nat) (cs : List AV) : stB ag n c (.mix cs) .emp = if oneA .emp = true ∧ ag = false ∧ n = 1 ∧ c < cs.length then some (.mix (cs.set c .emp)) else none := rfl
@[go_sem] theorem cells_v (x : Value) : D.cells (.v x) = [.v x] := rfl
@[go_sem] theorem cells_lst (z : Nat) (es : List D) : D.cells (.lst z es) = [.lst z es] := rfl
@[go_sem] theorem cells_agg (xs : List D) : D.cells (.agg xs) = xs := rfl
attribute [go_sem] go_cut
attribute [go_sem] Int.lt_irrefl List.take_of_length_le bldA frz frz1 srcE
theorem kindI_dy : ∀ l : List Int, kindI .u8 (l.map dy) = some l
  | [] => rfl
  | x :: r => by
    have := kindI_dy r
    simp only [List.map_cons, kindI, if_true, this, Option.map_some]
@[go_sem] theorem eqgA_f {n : Nat} {a b : List Int} (ha : a.length = n) (hb : b.length = n) : eqgA n .u8 false (.d (.agg (a.map dy))) (.d (.agg (b.map dy))) = some (.d (.v (.bool (a == b)))) := by
  simp [eqgA, kindI_dy, ha, hb]
@[go_sem] theorem eqgA_t {n : Nat} {a b : List Int} (ha : a.length = n) (hb : b.length = n) : eqgA n .u8 true (.d (.agg (a.map dy))) (.d (.agg (b.map dy))) = some (.d (.v (.bool (!(a == b))))) := by
  simp [eqgA, kindI_dy, ha, hb]
@[go_sem] theorem b2sA_sl {sto : Sto} {i c n : Nat} : b2sA sto (.sl i c n 1) = b2sB sto[i]? c n := rfl
@[go_sem] theorem b2sB_dy {l : List Int} {n : Nat} (h : n = l.length) : b2sB (some (some (.dat 1 (l.map dy)))) 0 n = some (.d (.v (.string (strOfNums l)))) := by
  subst h; simp [b2sB, kindI_dy]
@[go_sem] theorem b2sB_one {x : Int} : b2sB (some (some (.dat 1 [.v (.int .u8 x)]))) 0 1 = some (.d (.v (.string (strOfNums [x])))) := rfl
@[go_sem] theorem b2sA_l {sto : Sto} {l : List Int} : b2sA sto (.d (.lst 1 (l.map dy))) = some (.d (.v (.string (strOfNums l)))) := by
  simp [b2sA, kindI_dy]
theorem lenA_is {y : D} {t : List Int} (h : IsInts y t) : lenA (.d y) = some (.d (di t.length)) := by
  rcases h with rfl | ⟨rfl, rfl⟩
  · simp [ints, lenA]
  · rfl
theorem getI0 {l : List Int} {j : Nat} (h : j < l.length) : l[j]? = some (l.getD j 0) := by simp [h]
theorem mem_getD {l : List Int} {j : Nat} (h : j < l.length) : l.getD j 0 ∈ l := by
  have e : l.getD j 0 = l[j] := by simp [h]
  rw [e]; exact List.getElem_mem h
theorem all_ext {p : Nat → Prop} {j : Nat} (h : ∀ i, i < j → p i) (hj : p j) : ∀ i, i < j + 1 → p i := fun i hi => by
  rcases Nat.lt_or_ge i j with h' | h'
  · exact h i h'
  · have : i = j := by omega
    subst this; exact hj
end Go.Proofs.Ytccfejnckmokkaa.Va

/-! Sorting a slice of whole numbers of one's own, out of the library's contract. Condition: none. -/
namespace Go.Proofs.Ytccfejnckmokkaa.Va
open Go Go.Sort

def SortCalls (P : Program) (f : FuncId) : Prop :=
  ∀ (blk off cap : Nat) (zs : List Int) (w : World), Holds (Value.int .i64) w blk off zs.toArray → blk < w.heap.size → zs.length < 4611686018427387904 →
    Calls P f #[.slice (some ⟨blk, off, none⟩) zs.length cap] w fun e w' =>
      e = .returned (.tuple #[]) ∧ ∃ n os, w' = grow (putRow (Value.int .i64) (Go.Sort.ahead w n) blk off (zs.mergeSort fun x y => decide (x ≤ y)).toArray) os

theorem toArray_get! (l : List Int) (j : Nat) : l.toArray[j]! = l.getD j 0 := by
  by_cases h : j < l.length
  · rw [getElem!_pos _ j (by simpa using h)]; simp [h]
  · rw [getElem!_neg _ j (by simpa using h)]; simp [h]

theorem den_sort {P : Program} {f : FuncId} (hok : okF P f) (hC : SortCalls P f) (l : List Int) (hl : l.length < 4611686018427387904) :
    Den P f [.own 1 (l.map di)] [.own 1 ((l.mergeSort fun x y => decide (x ≤ y)).map di)] (.tup []) := by
  refine ⟨hok, fun w F us bs hars hnd hlt hF => ?_⟩
  cases hars with
  | @cons _ _ u us' b1 b2 h hs =>
    cases hs
    cases h with
    | @own z es b o cap cs t fv hb hn hc ho hz hr hf =>
      have hfl : flat (l.map di) = l.map di := flat_di l
      have hlen : (l.map di).length = l.length := by simp
      rw [hfl] at hr hf
      have hbl : b < w.heap.size := hlt b (by simp)
      have hfj : ∀ j, j < l.length → fv j = .int .i64 (l.getD j 0) := fun j hj => by
        have := hr j (di (l.getD j 0)) (getI hj)
        generalize fv j = u at this
        cases this with
        | v h => rfl
      have hcell : ∀ j, j < l.length → w.cell? ⟨b, o + j, none⟩ = some (.int .i64 (l.getD j 0)) := fun j hj => by
        rw [cell_of_row w _ _ _ _ (0, 0) hb, hf j (by simpa using hj), hfj j hj]
      have hH : Holds (Value.int .i64) w b o l.toArray := fun j hj => by
        simp at hj
        refine ⟨by rw [hcell j hj, toArray_get!], ?_⟩
        simp [World.frozen?, hb]
      have hcall := hC b o cap l w hH hbl hl
      rw [hlen]
      refine hcall.mono fun e w' hR => ?_
      obtain ⟨rfl, n, os, rfl⟩ := hR
      have hsl : (l.mergeSort fun x y => decide (x ≤ y)).length = l.length := List.length_mergeSort l
      generalize (l.mergeSort fun x y => decide (x ≤ y)) = m at hsl
      have hput : (grow (putRow (Value.int .i64) (Go.Sort.ahead w n) b o m.toArray) os).heap[b]? = some (.cells (putCells (Value.int .i64) o m.toArray cs) t (0, 0)) := by
        rw [heap_grow_old _ _ (by simpa using hbl)]
        simp [putRow, mapBlock, Array.getElem?_modify, hb, onCells]
      have hsz : (putCells (Value.int .i64) o m.toArray cs).size = cs.size := by simp [putCells]
      have hother : ∀ k, k < w.heap.size → k ≠ b → (grow (putRow (Value.int .i64) (Go.Sort.ahead w n) b o m.toArray) os).heap[k]? = w.heap[k]? := fun k hk hkb => by
        rw [heap_grow_old _ _ (by simpa using hk)]
        simp [putRow, mapBlock, Array.getElem?_modify, Ne.symm hkb]
      have hsize : w.heap.size ≤ (grow (putRow (Value.int .i64) (Go.Sort.ahead w n) b o m.toArray) os).heap.size := by simp
      refine ⟨.tuple #[], [b], rfl, ⟨rfl, rfl, rfl, hsize, fun k hk hn' => hother k hk (fun e => hn' (by simp [e])), fun k hk => ?_⟩, by simp, fun b' hb' => ?_, ?_⟩
      · by_cases e : k = b
        · subst e
          simp only [bsz, hput, hb, hsz]
        · simp only [bsz, hother k hk e]
      · simp at hb'; subst hb'; exact ⟨.inl (by simp), Nat.lt_of_lt_of_le hbl hsize⟩
      · have h1 : ARs P (grow (putRow (Value.int .i64) (Go.Sort.ahead w n) b o m.toArray) os)
            (fun b' => b' < (grow (putRow (Value.int .i64) (Go.Sort.ahead w n) b o m.toArray) os).heap.size ∧ b' ∉ [b] ∧ (F b' ∨ b' ∈ [b] ∨ w.heap.size ≤ b')) [.own 1 (m.map di)] [.slice (some ⟨b, o, none⟩) l.length cap] ([b] ++ []) := by
          refine .cons ?_ .nil
          have hm : (m.map di).length = l.length := by simpa using hsl
          have := AR.own (P := P) (w := (grow (putRow (Value.int .i64) (Go.Sort.ahead w n) b o m.toArray) os))
            (F := (fun b' => b' < (grow (putRow (Value.int .i64) (Go.Sort.ahead w n) b o m.toArray) os).heap.size ∧ b' ∉ [b] ∧ (F b' ∨ b' ∈ [b] ∨ w.heap.size ≤ b')))
            (z := 1) (es := m.map di) (b := b) (o := o) (cap := cap) (fun j => .int .i64 (m.getD j 0)) hput (by rw [hm]; simpa using hn) hc (by rw [hsz]; exact ho)
            (fun e he => by obtain ⟨x, _, rfl⟩ := List.mem_map.1 he; rfl)
            (fun j d hd => by
              rw [flat_di] at hd
              have hj : j < m.length := by simpa using (List.getElem?_eq_some_iff.1 hd).1
              rw [getI hj] at hd; cases hd; exact .v rfl)
            (fun j hj => by
              rw [flat_di] at hj
              simp at hj
              have hcj := hf j (by simp; omega)
              simp only [putCells, Array.getElem?_mapIdx, hcj, Option.map_some]
              rw [if_pos ⟨by omega, by simp; omega⟩, show o + j - o = j by omega, toArray_get!])
          rw [hm] at this
          exact this
        have h2 := ARs.cons (AR.tup (P := P) (us := []) ARs.nil) h1
        simpa using h2

theorem okF_low {P : Program} {f : FuncId} {np : Nat} {an : List An} {af : AF} (hl : lowF P f np an = some af) : okF P f := by
  unfold lowF at hl
  obtain ⟨fn, hfn, hl⟩ := Option.bind_eq_some_iff.1 hl
  split at hl
  · cases hl
  rename_i hname
  obtain ⟨c, hc, hl⟩ := Option.bind_eq_some_iff.1 hl
  exact ⟨fn, hfn, by simpa using hname, by rw [hc]; rfl⟩

theorem Den.le {P : Program} {f : FuncId} {args args' : List R} {res res' : R} (h : Den P f args args' res) (hr : RLe res res') : Den P f args args' res' := by
  refine ⟨h.1, fun w F us bs h1 h2 h3 h4 => (h.2 w F us bs h1 h2 h3 h4).mono fun e w' hR => ?_⟩
  obtain ⟨v, bs', rfl, hk, hn, hb, ha⟩ := hR
  obtain ⟨bs2, hs, hF⟩ := ARs.le (RLes.cons hr (RLes.refl args')) ha hn
  refine ⟨v, bs2, rfl, hk, hn.sublist hs, fun b hb' => hb b (hs.subset hb'), hF _ (fun b hb' => ⟨hb'.1, fun hx => hb'.2.1 (hs.subset hx), hb'.2.2⟩) (fun b hb1 hb2 => ⟨(hb b hb1).2, hb2, ?_⟩)⟩
  rcases (hb b hb1).1 with h5 | h5
  · exact .inr (.inl h5)
  · exact .inr (.inr h5)
end Go.Proofs.Ytccfejnckmokkaa.Va

/-! Joining strings, out of the library's contract. Condition: none. -/
namespace Go.Proofs.Ytccfejnckmokkaa.Va
open Go Go.Proofs Go.RowKit

abbrev ds (s : ByteArray) : D := .v (.string s)
def JoinCalls (P : Program) (f : FuncId) : Prop :=
  ∀ (bk o c : Nat) (xs : List ByteArray) (sep : ByteArray) (w : World), (∀ (j : Nat) x, xs[j]? = some x → w.cell? ⟨bk, o + j, none⟩ = some (.string x)) → bk < w.heap.size → xs.length ≤ 140737488355328 → xs.length ≤ c →
    (Lib.join (xs.map (·.data.toList)) sep.data.toList).length ≤ 140737488355328 →
    Calls P f #[.slice (some ⟨bk, o, none⟩) xs.length c, .string sep] w fun e w' => e = .returned (.string ⟨(Lib.join (xs.map (·.data.toList)) sep.data.toList).toArray⟩) ∧ Below w.heap.size w w'

theorem Kp.of_below {G : Nat → Prop} {w w' : World} (h : Below w.heap.size w w') : Kp G w w' :=
  ⟨h.os, h.tape, h.output, h.size, fun k hk _ => h.block k hk, fun k hk => by simp only [Va.bsz, h.block k hk]⟩
theorem flat_str (xs : List ByteArray) : flat (xs.map ds) = xs.map ds := by
  induction xs with
  | nil => rfl
  | cons x r ih => simp only [flat, List.map_cons, List.flatMap_cons, D.cells] at ih ⊢; rw [ih]; rfl

theorem den_join {P : Program} {f : FuncId} (hok : okF P f) (hC : JoinCalls P f) (xs : List ByteArray) (sep : ByteArray) (hn : xs.length ≤ 140737488355328)
    (hl : (Lib.join (xs.map (·.data.toList)) sep.data.toList).length ≤ 140737488355328) :
    Den P f [.d (.lst 1 (xs.map ds)), .d (ds sep)] [.any, .any] (.d (ds ⟨(Lib.join (xs.map (·.data.toList)) sep.data.toList).toArray⟩)) := by
  refine ⟨hok, fun w F us bs hars hnd hlt hF => ?_⟩
  cases hars with
  | @cons _ _ u us' b1 b2 h hs =>
    cases hs with
    | @cons _ _ u2 us2 b3 b4 h2 hs2 =>
      cases hs2
      cases h with
      | d h =>
        cases h2 with
        | d h2 =>
          obtain ⟨rfl, _⟩ := RD.v_inv h2
          cases h with
          | @lst _ _ b o cap fv hnc hc hFb hz hr hw =>
            rw [flat_str] at hr hw
            have hcell : ∀ (j : Nat) x, xs[j]? = some x → w.cell? ⟨b, o + j, none⟩ = some (.string x) := fun j x hx => by
              have hj := (List.getElem?_eq_some_iff.1 hx).1
              rw [hw j (by simpa using hj)]
              have h4 := hr j (ds x) (by simp [hx])
              generalize fv j = v at h4
              cases h4 with
              | v _ => rfl
            have hcall := hC b o cap xs sep w hcell (hF b hFb).1 hn (by simpa using hnc) hl
            rw [show (xs.map ds).length = xs.length by simp]
            refine hcall.mono fun e w' hR => ?_
            obtain ⟨rfl, hB⟩ := hR
            exact ⟨_, [], rfl, Kp.of_below hB, .nil, fun b hb => by simp at hb, by
              have h1 := ARs.cons (AR.any (P := P) (w := w') (F := fun b => b < w'.heap.size ∧ b ∉ [] ∧ (F b ∨ b ∈ [] ++ ([] ++ []) ∨ w.heap.size ≤ b)) (u := .slice (some ⟨b, o, none⟩) xs.length cap)) (ARs.cons (AR.any (u := .string sep)) ARs.nil)
              exact ARs.cons (AR.d (x := ds _) (RC.v (x := .string _) rfl)) h1⟩
end Go.Proofs.Ytccfejnckmokkaa.Va

/-! Strings as lists of numbers: places and counts of bytes. Condition: none. -/
namespace Go.Proofs.Ytccfejnckmokkaa.Va
open Go Go.Proofs

@[go_sem] theorem RLes_frzA (z z' : Nat) (x y : List D) (xs ys : List R) : RLes (.agg [.own z x] :: xs) (.d (.agg [.lst z' y]) :: ys) = ((z = z' ∧ x = y) ∧ RLes xs ys) := by
  apply propext
  constructor
  · intro h; cases h with | cons h hs => cases h; exact ⟨⟨rfl, rfl⟩, hs⟩
  · rintro ⟨⟨rfl, rfl⟩, h⟩; exact .cons .frzA h
def BY (l : List Int) : Prop := ∀ x, x ∈ l → 0 ≤ x ∧ x < 256
theorem BY.tail {x : Int} {l : List Int} (h : BY (x :: l)) : BY l := fun y hy => h y (by simp [hy])
theorem byte_eq {x c : Int} (hx : 0 ≤ x ∧ x < 256) (hc : 0 ≤ c ∧ c < 256) : (UInt8.ofNat x.toNat = UInt8.ofNat c.toNat) ↔ x = c := by
  constructor
  · intro h
    have := congrArg UInt8.toNat h
    simp only [UInt8.toNat_ofNat'] at this
    omega
  · rintro rfl; rfl
theorem byte_nat {x : Int} (hx : 0 ≤ x ∧ x < 256) : ((UInt8.ofNat x.toNat).toNat : Int) = x := by
  simp only [UInt8.toNat_ofNat']; omega
theorem str_of (s : ByteArray) : strOfNums (s.data.toList.map fun b => (b.toNat : Int)) = s := by
  apply ByteArray.ext
  simp [strOfNums, List.map_map, Function.comp_def]
theorem str_BY (s : ByteArray) : BY (s.data.toList.map fun b => (b.toNat : Int)) := fun x hx => by
  obtain ⟨b, _, rfl⟩ := List.mem_map.1 hx
  have := b.toNat_lt
  omega
theorem str_inj {a b : List Int} (ha : BY a) (hb : BY b) (h : strOfNums a = strOfNums b) : a = b := by
  have h1 := congrArg (fun s => s.data.toList) h
  simp only [strOfNums_data] at h1
  clear h
  induction a generalizing b with
  | nil => cases b with
    | nil => rfl
    | cons y s => simp at h1
  | cons x r ih => cases b with
    | nil => simp at h1
    | cons y s =>
      simp only [List.map_cons, List.cons.injEq] at h1
      rw [(byte_eq (ha x (by simp)) (hb y (by simp))).1 h1.1, ih ha.tail hb.tail h1.2]
theorem cnt_n {l : List Int} {c : Int} (hl : BY l) (hc : 0 ≤ c ∧ c < 256) : cntStr (strOfNums l) c.toNat.toUInt8 = (l.count c : Nat) := by
  unfold cntStr
  rw [Lib.foldl_data, Lib.count_foldl, strOfNums_data]
  have : Lib.countByte (l.map fun n => UInt8.ofNat n.toNat) c.toNat.toUInt8 = l.count c := by
    unfold Lib.countByte
    induction l with
    | nil => rfl
    | cons x r ih =>
      rw [List.map_cons, List.count_cons, List.count_cons, ih hl.tail]
      congr 1
      have := byte_eq (hl x (by simp)) hc
      have e : c.toNat.toUInt8 = UInt8.ofNat c.toNat := rfl
      rw [e]
      by_cases h : x = c
      · subst h; simp
      · have h2 : ¬ UInt8.ofNat x.toNat = UInt8.ofNat c.toNat := fun h' => h (this.1 h')
        simp [h, h2]
  rw [this]; simp
def fxL (c : Int) : List Int → Int
  | [] => -1
  | x :: r => if x = c then 0 else if fxL c r = -1 then -1 else fxL c r + 1
theorem fx_n {l : List Int} {c : Int} (hl : BY l) (hc : 0 ≤ c ∧ c < 256) : firstIdx (strOfNums l) c.toNat.toUInt8 = fxL c l := by
  rw [Lib.firstIdx_eq, strOfNums_data]
  induction l with
  | nil => rfl
  | cons x r ih =>
    rw [List.map_cons, Lib.indexByte, ih hl.tail, fxL]
    have := byte_eq (hl x (by simp)) hc
    have e : c.toNat.toUInt8 = UInt8.ofNat c.toNat := rfl
    rw [e]
    by_cases h : x = c
    · subst h; simp
    · have h2 : ¬ UInt8.ofNat x.toNat = UInt8.ofNat c.toNat := fun h' => h (this.1 h')
      simp [h, h2]
theorem fx_cases (c : Int) : ∀ l : List Int, (fxL c l = -1 ∧ c ∉ l) ∨ ∃ k : Nat, fxL c l = k ∧ k < l.length ∧ l = l.take k ++ c :: l.drop (k + 1) ∧ c ∉ l.take k
  | [] => .inl ⟨rfl, by simp⟩
  | x :: r => by
    by_cases h : x = c
    · subst h; exact .inr ⟨0, by simp [fxL], by simp, by simp, by simp⟩
    · rcases fx_cases c r with ⟨h1, h2⟩ | ⟨k, h1, h2, h3, h4⟩
      · exact .inl ⟨by simp [fxL, h, h1], by simp [h2]; exact fun e => h e.symm⟩
      · refine .inr ⟨k + 1, ?_, by simp; omega, ?_, ?_⟩
        · rw [fxL, if_neg h, if_neg (by omega), h1]; simp
        · simp only [List.take_succ_cons, List.drop_succ_cons, List.cons_append]
          rw [← h3]
        · simp only [List.take_succ_cons, List.mem_cons, not_or]
          exact ⟨fun e => h e.symm, h4⟩
end Go.Proofs.Ytccfejnckmokkaa.Va

/-! A law's argument of bytes. Condition: none. -/
namespace Go.Proofs.Ytccfejnckmokkaa.Va
open Go Go.RowKit Go.ChangeShapes Go.WideShapes

def IsBts (d : D) (l : List Int) : Prop := (d = .lst 1 (l.map dy) ∧ ∀ x, x ∈ l → 0 ≤ x ∧ x < 256) ∨ (d = .v (.slice none 0 0) ∧ l = [])
theorem flat_u8 (l : List Int) : flat (l.map dy) = l.map dy := by
  induction l with
  | nil => rfl
  | cons x r ih => simp only [flat, List.map_cons, List.flatMap_cons, D.cells] at ih ⊢; rw [ih]; rfl
section
variable {H : Type} {enc : TypeId × Value → H} {P : Program} {W : World}
theorem arg_bytes {t e : TypeId} {base : Nat} {v : Value} {d : DataW H} {ps : List MemPlace} (ht : P.underlying t = some (.slice e)) (he : P.underlying e = some (.int .u8)) (hc : P.cellsOf e = 1)
    (hok : Value.okWide P W .any base t v) (h : DataW.Trod enc P W 0 (fun _ => true) true t v d ps) :
    ∃ (x : D) (l : List Int), IsBts x l ∧ RD W (fun b => b < W.heap.size) x v ∧ l.length ≤ maxLen ∧ ∀ n, n ∈ l → 0 ≤ n ∧ n < 256 := by
  simp only [Value.okWide, ht] at hok
  have hcell : v.cells = #[v] := by
    have := hok
    simp only [Cell.okWide, ht] at this
    cases v <;> first | rfl | (simp [Cell.ok, ht] at this)
  obtain ⟨fuel, h⟩ := h
  rw [hcell] at h
  rcases open_ints ht he hc h with ⟨h1, _⟩ | ⟨a, len, cap, zs, h1, _, hl, hm, hz, _, hcl, hwf⟩
  · simp at h1; subst h1
    exact ⟨.v (.slice none 0 0), [], .inr ⟨rfl, rfl⟩, RC.v (x := .slice none 0 0) rfl, by simp, by simp⟩
  · simp at h1; subst h1
    simp only [Cell.okWide, ht, Cell.ok] at hok
    obtain ⟨_, _, hhas⟩ := hok
    obtain ⟨hs, hb⟩ := has_lt hhas
    obtain ⟨b, off, spot⟩ := a
    simp at hs hb hz; subst hs
    have hlen : (zs.take len).length = len := by rw [List.length_take]; omega
    have hrc := RC.lst (w := W) (F := fun b => b < W.heap.size) (z := 1) (elems := (zs.take len).map dy) (b := b) (o := off) (cap := cap) (fun j => .int .u8 (zs.getD j 0)) (by simp; omega) hm hb
      (fun e he => by obtain ⟨n, _, rfl⟩ := List.mem_map.1 he; rfl)
      (fun j d hd => by
        rw [flat_u8] at hd
        rw [List.getElem?_map] at hd
        obtain ⟨n, hn, rfl⟩ := Option.map_eq_some_iff.1 hd
        rw [List.getElem?_take] at hn
        split at hn
        · have : zs.getD j 0 = n := by simp [hn]
          rw [this]; exact .v rfl
        · cases hn)
      (fun j hj => by
        rw [flat_u8] at hj
        simp at hj
        have := hcl j (by omega)
        rw [add_none] at this
        exact this)
    rw [List.length_map, hlen] at hrc
    have hwb : ∀ n, n ∈ zs.take len → 0 ≤ n ∧ n < 256 := fun n hn => by
      have := hwf n (List.mem_of_mem_take hn)
      simp only [Lit.wf, Bool.and_eq_true, decide_eq_true_eq] at this
      have e1 : IntKind.min .u8 = 0 := rfl
      have e2 : IntKind.max .u8 = 255 := rfl
      rw [e1, e2] at this
      omega
    exact ⟨.lst 1 ((zs.take len).map dy), zs.take len, .inl ⟨rfl, hwb⟩, hrc, by omega, hwb⟩
end
end Go.Proofs.Ytccfejnckmokkaa.Va
