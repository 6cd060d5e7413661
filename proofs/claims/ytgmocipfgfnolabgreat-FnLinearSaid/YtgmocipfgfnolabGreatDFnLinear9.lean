/- Contracts of the functions that FnLinear reaches (part 9). Condition: none. -/
import Derived.Test.YtgmocipfgfnolabGreatDFnLinear8
set_option linter.all false
set_option linter.unusedSimpArgs false
set_option linter.unusedVariables false
namespace Go.Proofs.YtgmocipfgfnolabGreat.Va
open Go
set_option maxHeartbeats 4000000
set_option maxRecDepth 100000
theorem w_linear001 {x0 X1 X2 X3 : D} {w : Int} {ws c2 c3 : List Int} (hbig : Den PA f_laws_big [.d x0] [.any] (.d (db false)))
    (D1 : Den PA f_spec_DrawSpanOf [.d x0] [.any] (.tup [.d (.agg [X1]), .own 1 (ws.map di)])) (D2 : Den PA f_spec_DrawIsLinear [.d x0] [.any] (.tup [.d (.agg [X2]), .own 1 (c2.map di)]))
    (D3 : Den PA f_spec_DrawSyndromeOf [.d x0] [.any] (.tup [.d (.agg [X3]), .own 1 (c3.map di), .d (di w)])) (hw : ws.length < 1048577) (hc2 : c2.length < 1048577) (hc3 : c3.length < 1048577)
    {e1 e2 : Int} {b1 : Bool} (h1 : e1 ≠ 0) (F1 : LiN X1 ws e1 e2 b1)
    {b2 : Bool} {e3 e4 : Int} (F2 : LnN X2 c2 b2 e3 e4)
    {S : List Int} (hS : S.length < 1048577) (k3 : Den PA f_impl_SyndromeOf [.d (.agg [X3]), .d (ints c3), .d (di w)] [.any, .any, .any] (.tup [.own 1 (S.map di), .d (di 0)])) (k4 : Den PA f_spec_SyndromeOf [.d (.agg [X3]), .d (ints c3), .d (di w)] [.any, .any, .any] (.tup [.own 1 (S.map di), .d (di 0)])) :
    Den PA f_laws_FnLinear [.d x0] [.any] (.d (db true)) := by
  have hL0 := d_laws_likeInts_nil
  have hD1 := D1.le (.tup (.cons .refl (.cons .frz .nil)))
  have hsp := F1.sp
  have hL6 := d_laws_likeInts S S hS
  rw [decide_eq_true rfl] at hL6
  refine den_go [] l_laws_FnLinear ?_
  have y1 := kc [.r] hbig; have y2 := kc [.r] hD1; have y3 := kc [.r, .r] hsp; have y4 := kc [.r, .r] F1.st; have y5 := kc [.r] F1.pl; have y6 := kc [.r] F1.pt; have y7 := kc [.r] D2; have y8 := kc [.r, .r] F2.li; have y9 := kc [.r, .r] F2.lt; have y10 := kc [.r, .r] F2.ba; have y11 := kc [.r, .r] F2.bt; have y12 := kc [.r, .r] F2.du; have y13 := kc [.r, .r] F2.dt; have y14 := kc [.r, .r] F2.co; have y15 := kc [.r, .r] F2.ct; have y16 := kc [.r, .r] F2.dm; have y17 := kc [.r, .r] F2.dn; have y18 := kc [.r] D3; have y19 := kc [.r, .r, .r] k3; have y20 := kc [.r, .r, .r] k4; have y21 := kc [.r, .r] hL0; have y22 := kc [.r, .r] hL6; exact go_e0
end Go.Proofs.YtgmocipfgfnolabGreat.Va
