/- A package's variable that is laid, as an argument that goes along. Condition: none. -/
import Derived.Test.YtgmocipfgfnolaaGreatDoorVa2
import Derived.MakeChecks
set_option linter.all false
set_option linter.unusedSimpArgs false
set_option linter.unusedVariables false
namespace Go.Proofs.YtgmocipfgfnolaaGreatDoor.Va
open Go Go.RowKit Go.ChangeShapes Go.WideShapes

theorem mapM_at {α β : Type} {f : α → Option β} : ∀ {l : List α} {r : List β}, l.mapM f = some r → ∀ {i : Nat} {y : β}, r[i]? = some y → ∃ x, l[i]? = some x ∧ f x = some y
  | [], r, h, i, y, hy => by simp at h; subst h; simp at hy
  | a :: l, r, h, i, y, hy => by
    rw [List.mapM_cons] at h
    simp only [Option.bind_eq_bind, Option.bind_eq_some_iff, Option.pure_def, Option.some.injEq] at h
    obtain ⟨b, hb, r', hr', rfl⟩ := h
    cases i with
    | zero => simp at hy; subst hy; exact ⟨a, rfl, hb⟩
    | succ i => simpa using mapM_at hr' (by simpa using hy)
section
variable {P : Program} {W : World}
theorem trod_u8 {base : Nat} {sp : Nat → Bool} {held : Bool} {fuel : Nat} {t : TypeId} {cs : List Value} {n : Int} {p : List MemPlace} (ht : P.underlying t = some (.int .u8))
    (h : DataW.trod (fun _ => ()) P W base sp held fuel t cs = some (.lit (.int .u8 n), p)) : cs = [.int .u8 n] := by
  cases fuel with
  | zero => simp [DataW.trod] at h
  | succ k =>
    unfold DataW.trod at h
    simp only [ht] at h
    split at h <;> simp_all
/-- The variable is a table of bytes. -/
def tabB (P : Program) (g : Nat) : Bool :=
  match (P.globals[g]?).map (·.type) with
  | some t => match P.underlying t with
    | some (.array _ e) => (match P.underlying e with
      | some (.int .u8) => true
      | _ => false) && P.cellsOf e == 1
    | _ => false
  | none => false
theorem tabB_ok {g : Nat} {t : TypeId} (h : tabB P g = true) (ht : (P.globals[g]?).map (·.type) = some t) : ∃ N e, P.underlying t = some (.array N e) ∧ P.underlying e = some (.int .u8) ∧ P.cellsOf e = 1 := by
  unfold tabB at h
  rw [ht] at h
  dsimp only at h
  split at h
  · rename_i N e hu
    rw [Bool.and_eq_true] at h
    refine ⟨N, e, hu, ?_, by simpa using h.2⟩
    have h1 := h.1
    split at h1
    · rename_i hu2; exact hu2
    · cases h1
  · cases h
theorem laid_tab {n : String} {g : Nat} {d : DataW Unit} {ns : List Int} (hg : P.globalNamed n = some g) (hT : tabB P g = true) (hd : d = .agg (ns.map fun x => .lit (.int .u8 x))) (hL : laidMet P [(n, d)] W) :
    AR P W (fun b => b < W.heap.size) (.is (.box (ns.map dy)) (.pointer (some ⟨g, 0, none⟩))) (.pointer (some ⟨g, 0, none⟩)) [] := by
  subst hd
  obtain ⟨ps, ⟨g', t, cs, fuel, p, q, h1, h2, h3, h4, _, _⟩, _, _⟩ := hL
  rw [hg] at h1
  cases h1
  obtain ⟨N, e, hu, hue, hce⟩ := tabB_ok hT h2
  have hh : ∃ ty dm, W.heap[g]? = some (.cells cs ty dm) := by
    unfold World.var? at h3
    rw [hg] at h3
    simp only [Option.bind_some] at h3
    split at h3
    · rename_i cs' ty dm hx; cases h3; exact ⟨ty, dm, hx⟩
    · cases h3
  obtain ⟨ty, dm, hx⟩ := hh
  have hlt : g < W.heap.size := (Array.getElem?_eq_some_iff.1 hx).1
  have hcs : ∀ j, j < ns.length → cs[j]? = some (.int .u8 (ns.getD j 0)) := by
    intro j hj
    cases fuel with
    | zero => simp [DataW.trod] at h4
    | succ k =>
      unfold DataW.trod at h4
      simp only [hu] at h4
      split at h4
      · rename_i hlen
        rw [Option.map_eq_some_iff] at h4
        obtain ⟨xs, hm, he⟩ := h4
        injection he with he1 _
        injection he1 with he1
        have hxj : (xs.map (·.1))[j]? = some (.lit (.int .u8 (ns.getD j 0))) := by
          rw [he1, List.getElem?_map, List.getElem?_eq_getElem hj, List.getD_eq_getElem?_getD, List.getElem?_eq_getElem hj]; rfl
        rw [List.getElem?_map, Option.map_eq_some_iff] at hxj
        obtain ⟨y, hy, hy1⟩ := hxj
        obtain ⟨i, hi, hf⟩ := mapM_at hm hy
        have hij : i = j := by
          rw [List.getElem?_range (by have := (List.getElem?_eq_some_iff.1 hi).1; simpa using this)] at hi
          simpa using hi.symm
        subst hij
        rw [hce, Nat.mul_one] at hf
        obtain ⟨y1, y2⟩ := y
        cases hy1
        have := trod_u8 hue hf
        have h5 : (List.take 1 (List.drop i cs.toList))[0]? = some (.int .u8 (ns.getD i 0)) := by rw [this]; rfl
        rw [List.getElem?_take] at h5
        simpa using h5
      · cases h4
  refine .is (.box (fun j => .int .u8 (ns.getD j 0)) hlt (fun j x hx => ?_) fun j hj => ?_) rfl
  · rw [List.getElem?_map, Option.map_eq_some_iff] at hx
    obtain ⟨y, hy, rfl⟩ := hx
    rw [List.getD_eq_getElem?_getD, hy]
    exact .v rfl
  · rw [List.length_map] at hj
    rw [cell_of_row W g (0 + j) cs ty dm hx, Nat.zero_add]
    exact hcs j hj
/-- The last step of a law with data that go along. -/
theorem law_callsG {f : FuncId} {rs rs' : List R} {us vs : List Value} {Q : Value → World → Prop} (hden : DenG P f us.length rs rs' (.d (db true)))
    (h : ARs P W (fun b => b < W.heap.size) rs (us ++ vs) []) (hQ : ∀ W', Kp (fun _ => False) W W' → Q (.bool true) W') :
    Calls P f us.toArray W fun e W' => ∃ v, e = .returned v ∧ Q v W' := by
  have hc := hden.2 W (fun b => b < W.heap.size) (us ++ vs) [] h List.nodup_nil (fun b hb => by simp at hb) (fun b hb => ⟨hb, by simp⟩)
  rw [List.take_left] at hc
  refine hc.mono fun e W' hR => ?_
  obtain ⟨v, bs', rfl, hk, _, _, har⟩ := hR
  have hv : v = .bool true := by
    cases har with
    | cons h _ => cases h with | d h => exact h.v_inv.1
  subst hv
  exact ⟨_, rfl, hQ W' (hk.mono (fun _ _ h => by simp at h))⟩
end
end Go.Proofs.YtgmocipfgfnolaaGreatDoor.Va
