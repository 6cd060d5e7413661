/- The statement FnExactFirstApart: for every input the law returns true. Condition: none. -/
import Derived.Test.YtaigdomjaglifaaDoorDFirstApart1
import Derived.Test.YtaigdomjaglifaaDoorVaT
import Derived.Test.YtaigdomjaglifaaDoorRows
import Derived.Test.YtaigdomjaglifaaDoorCards
import Derived.Test.YtaigdomjaglifaaDoorTie
import Derived.SevenTiedAt
import Derived.Lay
import Derived.LaidOnce
set_option linter.all false
set_option linter.unusedSimpArgs false
set_option linter.unusedVariables false
namespace Go.Proofs.YtaigdomjaglifaaDoor.Va
open Go Go.RowKit Go.ChangeShapes Go.WideShapes Go.ChangeAt Go.Proofs Go.Proofs.YtaigdomjaglifaaDoor

theorem own : ownKnob Tryd.prog.godebug = none := by kernel_rfl
theorem laidOut : laidOutB Tryd.prog = true := by kernel_rfl

def laidV : List (String × DataW Unit) := [("math/bits.deBruijn64tab", Rows.laid_math_bits_deBruijn64tab)]
set_option maxRecDepth 100000 in
theorem lifted (os : Os) (started : os.Started) (H : Type) (enc : TypeId × Value → H) :
    ReturnsInHanded {} Tryd.checked os 4 .any (fun w args => (Rows.fnExactFirstApartSpec.pre enc Tryd.prog Tryd.f4 [] false w args ∧ laidMetH Tryd.prog laidV w) ∧ sizedMet enc Tryd.prog Tryd.f4 (OpenSpec.ofChange Rows.fnExactFirstApartSpec) false w args)
      (Rows.fnExactFirstApartSpec.post enc Tryd.prog Tryd.f4 false true false false) := by
  refine returnsInHanded_of_change_and (C := Tryd.checked) (X := fun w _ => laidMetH Tryd.prog laidV w) (fun _ _ _ hh h => h.of_heap hh) own started (by kernel_rfl) Tryd.func4
    (ChangeSpec.witness_shaped (enc := enc) (C := Tryd.checked) (os := os) (X := fun w _ => laidMetH Tryd.prog laidV w) false (World.laidAll Tryd.prog os laidV) #[.agg #[.slice none 0 0], .int .i64 0] 8 (World.laidAll_os _ _ _)
      (World.shaped_of_ZipB (by kernel_rfl) (by kernel_rfl)) (by kernel_rfl) (by kernel_rfl) (by kernel_rfl)
      (by rw [MakeChecks.laidMetH_plain _ _ _ (by kernel_rfl)]; exact laidMet_laidAll _ (by kernel_rfl) (by kernel_rfl))) ?_
  intro W base args ds gs before hval0 hW _ _ hL _
  have hval : ∀ (j : Nat) t v, Tryd.f4.params[j]? = some t → args[j]? = some v → Value.okWide Tryd.prog W .any base t v := hval0
  have hW' := hW
  obtain ⟨p, q, hA0, hV, rfl, hfz, hnd⟩ := hW
  have hA : DataW.TrodAll enc Tryd.prog W 0 (fun _ => true) true Tryd.f4.params.toList args.toList ds p := hA0
  rw [Tryd.params4] at hA hval
  obtain ⟨v0, v1, d0, d1, p0, p1, rfl, rfl, rfl, h0, h1⟩ := trodAll_two hA
  obtain ⟨x0, l0, hx0, hrd0, hl0, hi0⟩ := arg_space Tryd.underlying24 rfl (by kernel_rfl) (by kernel_rfl) (by kernel_rfl) Tryd.underlying22 Tryd.underlying2 (by kernel_rfl) (hval 0 24 v0 rfl rfl) h0
  obtain ⟨n1, hrd1, hi1⟩ := arg_int Tryd.underlying2 (hval 1 2 v1 rfl rfl) h1
  have hr : ∀ t, t ∈ (Tryd.f4.params).toList → (Tryd.prog).readableRec t = true ∧ t < (Tryd.prog).types.size := by rw [Tryd.params4]; exact (List.forall_mem_cons.2 ⟨⟨by kernel_rfl, of_decide_eq_true (by kernel_rfl)⟩, (List.forall_mem_cons.2 ⟨⟨by kernel_rfl, of_decide_eq_true (by kernel_rfl)⟩, (fun _ h => by cases h)⟩)⟩)
  have hL1 : laidMet Tryd.prog laidV W := by rw [MakeChecks.laidMetH_plain _ _ _ (by kernel_rfl)] at hL; exact hL
  have hbox := laid_tab (ns := tzT) (by kernel_rfl : Tryd.prog.globalNamed "math/bits.deBruijn64tab" = some g_math_bits_deBruijn64tab) (by kernel_rfl) (by kernel_rfl : Rows.laid_math_bits_deBruijn64tab = _) hL1
  refine law_callsG (us := [v0, v1]) (vs := [.pointer (some ⟨g_math_bits_deBruijn64tab, 0, none⟩)]) (d_laws_FnExactFirstApart x0 l0 hx0 hl0 hi0 n1 hi1) (.cons (b1 := []) (b2 := []) (.d hrd0) (.cons (b1 := []) (b2 := []) (.d hrd1) (.cons (b1 := []) (b2 := []) hbox .nil))) (fun W' hk => ?_)
  exact law_post laidOut hr rfl (by kernel_rfl : Tryd.f4.resultTypes = #[4]) Tryd.underlying4 hW' hk rfl

set_option maxHeartbeats 4000000 in
set_option maxRecDepth 100000 in
theorem closed : joinedFacts Tryd.prog 4 Tryd.f4 Rows.fnExactFirstApartSpec Rows.fnExactFirstApartRow = true := by
  unfold joinedFacts
  simp only [Bool.and_eq_true]
  repeat' (with_reducible refine And.intro ?_ ?_)
  all_goals (as_aux_lemma => kernel_rfl)

theorem fnExactFirstApart_holds : Rows.FnExactFirstApartSaid :=
  OpenClaim.holds_of_wide 4 Tryd.f4 rfl rfl rfl rfl rfl rfl rfl ⟨rfl, rfl, rfl, rfl, rfl⟩ rfl rfl rfl rfl rfl (by kernel_rfl) Tryd.func4 closed
    (of_decide_eq_true (by kernel_rfl)) (by unfold Func.isWrapper; first | (rw [if_pos (by decide +kernel)]; kernel_rfl) | (rw [if_neg (by decide +kernel)]; exact ⟨rfl, rfl⟩))
    (fun os started H enc _ => lifted os started H enc)
theorem fnExactFirstApart_card : Rows.FnExactFirstApartCardSaid :=
  Claim7.holds_tied_plain_at .later [] [.data] true (true, "38ad82e80d2f92c978b75f8c6dbe8d38f11cc80ba7ebf1551492298ad6f8bf70") false
    fnExactFirstApart_holds (fun _ h => by cases h) (by kernel_rfl) (fun _ h => by cases h) fnExactFirstApart_row_tie rfl ⟨rfl, rfl⟩ (by kernel_rfl) rfl
    (fun f fn hf hfn => by
      obtain rfl : f = 4 := Option.some.inj ((show Tryd.prog.funcNamed "loop.example/g01411/laws.FnExactFirstApart" = some 4 by kernel_rfl).symm.trans hf) |>.symm
      obtain rfl : fn = Tryd.f4 := (Option.some.inj (Tryd.func4.symm.trans hfn)).symm
      exact ⟨by kernel_rfl, fun j t ht => by
        rw [Tryd.params4] at ht
        have hm : t ∈ [24, 2] := by simpa using Array.mem_of_getElem? ht
        have hall : ([24, 2].all fun u => !Tryd.prog.wantsStandIn u) = true := by kernel_rfl
        exact (show Tryd.prog.wantsStandIn t = false by simpa using List.all_eq_true.1 hall t hm)⟩)
    (by kernel_rfl)
end Go.Proofs.YtaigdomjaglifaaDoor.Va
