/- Contracts of the functions that FnShiftsAndBundles reaches (part 5). Condition: none. -/
import Derived.Test.YtgmocipfgfnolacGreatDFnShiftsAndBundles4
set_option linter.all false
set_option linter.unusedSimpArgs false
set_option linter.unusedVariables false
namespace Go.Proofs.YtgmocipfgfnolacGreat.Va
open Go
set_option maxHeartbeats 4000000
set_option maxRecDepth 100000
theorem w_shifts101 {x0 X1 X2 X3 X4 : D} {r3 w i e2 : Int} {c1 c2 t2 c4 : List Int} {p2 : Bool} (hbig : Den PA f_laws_big [.d x0] [.any] (.d (db false)))
    (D1 : Den PA f_spec_DrawFirstShifts [.d x0] [.any] (.tup [.d (.agg [X1]), .own 1 (c1.map di)])) (D2 : Den PA f_spec_DrawDoPart [.d x0] [.any] (.tup [.d (.agg [X2]), .own 1 (c2.map di), .own 1 (t2.map di)]))
    (D3 : Den PA f_spec_DrawFirstPerfect [.d x0] [.any] (.tup [.d (.agg [X3]), .d (di r3)])) (D4 : Den PA f_spec_DrawSwitchBundle [.d x0] [.any] (.tup [.d (.agg [X4]), .own 1 (c4.map di), .d (di w), .d (di i)]))
    (k2 : Den PA f_impl_DoPart [.d (.agg [X2]), .d (ints c2), .d (ints t2)] [.any, .any, .any] (.tup [.d (db p2), .d (di e2)])) (k3 : Den PA f_spec_DoPart [.d (.agg [X2]), .d (ints c2), .d (ints t2)] [.any, .any, .any] (.tup [.d (db p2), .d (di e2)]))
    (hc1 : c1.length < 1048577) (hc2 : c2.length < 1048577) (hc4 : c4.length < 1048577)
    {T : List Int} {n : Int} (F1 : FsF X1 c1 T n)
    {e3 e4 : Int} (h2 : e3 ≠ 0) (F2 : PfN X3 r3 e3 e4)
    {Bu O : List Int} (F3 : BuF X4 c4 w i Bu O) :
    Den PA f_laws_FnShiftsAndBundles [.d x0] [.any] (.d (db true)) := by
  have hL0 := d_laws_likeInts_nil
  have hL1 := d_laws_likeInts T T F1.tl
  rw [decide_eq_true rfl] at hL1
  have hTl := F1.tl
  have hen := F1.en
  have hnb := F1.nb
  have hw1 : IntKind.wrap .i64 ((T.length : Int) * (c1.length : Int)) = n := by
    rw [hen]; exact wrap64 (by rw [← hen, ← Int.natCast_mul]; omega) (by omega)
  have hL3 := d_laws_likeInts Bu Bu F3.bl
  rw [decide_eq_true rfl] at hL3
  have hL4 := d_laws_likeInts O O F3.ol
  rw [decide_eq_true rfl] at hL4
  have hH := d_laws_hasInt Bu w F3.bl
  rw [decide_eq_true F3.mw] at hH
  have hle := F3.le
  refine den_go [] l_laws_FnShiftsAndBundles ?_
  refine go_c0 ?_
  have y1 := kc [.r] hbig; have y2 := kc [.r] D1; have y3 := kc [.r] D2; have y4 := kc [.r] D3; have y5 := kc [.r] D4; have y6 := kc [.r, .r, .r] k2; have y7 := kc [.r, .r, .r] k3; have y8 := kc [.r, .r] hL0; have y9 := kc [.r, .r] F1.f1; have y10 := kc [.r, .r] F1.f2; have y11 := kc [.r, .r] hL1; have y12 := kc [.r, .r, .r] F1.dp; have y13 := kc [.r] F1.cw; have y14 := kc [.r, .r] F2.f1; have y15 := kc [.r, .r] F2.f2; have y16 := kc [.r, .r] F2.c1; have y17 := kc [.r, .r] F2.c2; have y18 := kc [.r, .r, .r, .r] F3.b1; have y19 := kc [.r, .r, .r, .r] F3.b2; have y20 := kc [.r, .r, .r, .r] F3.s1; have y21 := kc [.r, .r, .r, .r] F3.s2; have y22 := kc [.r, .r] hL3; have y23 := kc [.r, .r] hL4; have y24 := kc [.r, .r, .r] F3.ip; have y25 := kc [.r, .r] hH
  exact sh_end
end Go.Proofs.YtgmocipfgfnolacGreat.Va
