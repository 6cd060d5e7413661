/- Contracts of the functions that FnShiftsAndBundles reaches (part 10). Condition: none. -/
import Derived.Test.YtgmocipfgfnolacGreatDFnShiftsAndBundles9
set_option linter.all false
set_option linter.unusedSimpArgs false
set_option linter.unusedVariables false
namespace Go.Proofs.YtgmocipfgfnolacGreat.Va
open Go
set_option maxHeartbeats 4000000
set_option maxRecDepth 100000
theorem w_shifts000 {x0 X1 X2 X3 X4 : D} {r3 w i e2 : Int} {c1 c2 t2 c4 : List Int} {p2 : Bool} (hbig : Den PA f_laws_big [.d x0] [.any] (.d (db false)))
    (D1 : Den PA f_spec_DrawFirstShifts [.d x0] [.any] (.tup [.d (.agg [X1]), .own 1 (c1.map di)])) (D2 : Den PA f_spec_DrawDoPart [.d x0] [.any] (.tup [.d (.agg [X2]), .own 1 (c2.map di), .own 1 (t2.map di)]))
    (D3 : Den PA f_spec_DrawFirstPerfect [.d x0] [.any] (.tup [.d (.agg [X3]), .d (di r3)])) (D4 : Den PA f_spec_DrawSwitchBundle [.d x0] [.any] (.tup [.d (.agg [X4]), .own 1 (c4.map di), .d (di w), .d (di i)]))
    (k2 : Den PA f_impl_DoPart [.d (.agg [X2]), .d (ints c2), .d (ints t2)] [.any, .any, .any] (.tup [.d (db p2), .d (di e2)])) (k3 : Den PA f_spec_DoPart [.d (.agg [X2]), .d (ints c2), .d (ints t2)] [.any, .any, .any] (.tup [.d (db p2), .d (di e2)]))
    (hc1 : c1.length < 1048577) (hc2 : c2.length < 1048577) (hc4 : c4.length < 1048577)
    {e1 : Int} (h1 : e1 ≠ 0) (F1 : FsN X1 c1 e1)
    {e3 e4 : Int} (h2 : e3 ≠ 0) (F2 : PfN X3 r3 e3 e4)
    {e5 : Int} (h3 : e5 ≠ 0) (F3 : BuN X4 c4 w i e5) :
    Den PA f_laws_FnShiftsAndBundles [.d x0] [.any] (.d (db true)) := by
  have hL0 := d_laws_likeInts_nil
  refine den_go [] l_laws_FnShiftsAndBundles ?_
  refine go_c0 ?_
  have y1 := kc [.r] hbig; have y2 := kc [.r] D1; have y3 := kc [.r] D2; have y4 := kc [.r] D3; have y5 := kc [.r] D4; have y6 := kc [.r, .r, .r] k2; have y7 := kc [.r, .r, .r] k3; have y8 := kc [.r, .r] hL0; have y9 := kc [.r, .r] F1.f1; have y10 := kc [.r, .r] F1.f2; have y11 := kc [.r, .r] F2.f1; have y12 := kc [.r, .r] F2.f2; have y13 := kc [.r, .r] F2.c1; have y14 := kc [.r, .r] F2.c2; have y15 := kc [.r, .r, .r, .r] F3.b1; have y16 := kc [.r, .r, .r, .r] F3.b2; have y17 := kc [.r, .r, .r, .r] F3.s1; have y18 := kc [.r, .r, .r, .r] F3.s2
  exact sh_end
theorem d_laws_FnShiftsAndBundles (x0 : D) (l0 : List Int) (hx0 : IsBts x0 l0) (hl0 : l0.length ≤ maxLen) (hi0 : ∀ n, n ∈ l0 → 0 ≤ n ∧ n < 256) :
    Den PA f_laws_FnShiftsAndBundles [.d x0] [.any] (.d (db true)) := by
  have hbig := d_laws_big hx0
  by_cases hb : 4096 < (l0.length : Int)
  · rw [decide_eq_true hb] at hbig
    refine den_go [] l_laws_FnShiftsAndBundles ?_
    have y1 := kc [.r] hbig; exact go_e0
  · rw [decide_eq_false hb] at hbig
    have H : SrcH x0 l0 := ⟨hx0, by omega⟩
    obtain ⟨X1, o1, c1, hX1, hc1, hci1, D1⟩ := ex_firstShifts H
    obtain ⟨X2, o2, c2, t2, hX2, hc2, ht2, D2⟩ := ex_doPart H
    obtain ⟨X3, o3, r3, hX3, hr3, D3⟩ := ex_firstPerfect H
    obtain ⟨X4, o4, c4, w, i, hX4, hc4, hw, hi, D4⟩ := ex_switch H
    obtain ⟨p2, e2, k2, k3⟩ := dp_facts hX2 hc2 ht2
    rcases fs_facts hX1 hc1 with ⟨T, n, F1⟩ | ⟨e1, h1, F1⟩
    · rcases pf_facts r3 hX3 with ⟨F, m, F2⟩ | ⟨e3, e4, h2, F2⟩
      · rcases bu_facts w i hX4 hc4 with ⟨Bu, O, F3⟩ | ⟨e5, h3, F3⟩
        · exact w_shifts111 hbig D1 D2 D3 D4 k2 k3 hc1 hc2 hc4 F1 F2 F3
        · exact w_shifts110 hbig D1 D2 D3 D4 k2 k3 hc1 hc2 hc4 F1 F2 h3 F3
      · rcases bu_facts w i hX4 hc4 with ⟨Bu, O, F3⟩ | ⟨e5, h3, F3⟩
        · exact w_shifts101 hbig D1 D2 D3 D4 k2 k3 hc1 hc2 hc4 F1 h2 F2 F3
        · exact w_shifts100 hbig D1 D2 D3 D4 k2 k3 hc1 hc2 hc4 F1 h2 F2 h3 F3
    · rcases pf_facts r3 hX3 with ⟨F, m, F2⟩ | ⟨e3, e4, h2, F2⟩
      · rcases bu_facts w i hX4 hc4 with ⟨Bu, O, F3⟩ | ⟨e5, h3, F3⟩
        · exact w_shifts011 hbig D1 D2 D3 D4 k2 k3 hc1 hc2 hc4 h1 F1 F2 F3
        · exact w_shifts010 hbig D1 D2 D3 D4 k2 k3 hc1 hc2 hc4 h1 F1 F2 h3 F3
      · rcases bu_facts w i hX4 hc4 with ⟨Bu, O, F3⟩ | ⟨e5, h3, F3⟩
        · exact w_shifts001 hbig D1 D2 D3 D4 k2 k3 hc1 hc2 hc4 h1 F1 h2 F2 F3
        · exact w_shifts000 hbig D1 D2 D3 D4 k2 k3 hc1 hc2 hc4 h1 F1 h2 F2 h3 F3
end Go.Proofs.YtgmocipfgfnolacGreat.Va
