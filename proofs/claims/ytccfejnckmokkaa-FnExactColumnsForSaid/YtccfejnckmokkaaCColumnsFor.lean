/- The code of the functions that FnExactColumnsFor reaches, laid out for a walk: each is what the lowering makes of the program's own text. Condition: none. -/
import Derived.Test.YtccfejnckmokkaaVd2
import Derived.Test.YtccfejnckmokkaaProg
import Derived.KernelRfl
set_option linter.all false
set_option linter.unusedSimpArgs false
set_option linter.unusedVariables false
namespace Go.Proofs.Ytccfejnckmokkaa.Va
open Go
noncomputable abbrev PA : Program := Go.Proofs.Try.prog
abbrev f_laws_FnExactColumnsFor : FuncId := 3
def c_laws_FnExactColumnsFor : AF := ⟨2, 68, [.t 4],
 (.seq (.reg [⟨(some 4), none, .q (.mv (.c (.bool false)))⟩])
 (.seq (.reg [⟨(some 14), none, .q (.mv (.t 0))⟩,
 ⟨(some 15), none, .q (.mv (.t 1))⟩,
 ⟨(some 16), none, .c (.call 6 [(.t 14), (.t 15)])⟩,
 ⟨(some 13), none, .q (.mv (.t 16))⟩,
 ⟨(some 17), none, .q (.ext (.t 13) 0)⟩,
 ⟨(some 18), none, .q (.ext (.t 13) 1)⟩,
 ⟨(some 5), none, .q (.mv (.t 17))⟩,
 ⟨(some 6), none, .q (.mv (.t 18))⟩])
 (.seq (.reg [⟨(some 20), none, .q (.mv (.t 0))⟩,
 ⟨(some 21), none, .q (.mv (.t 1))⟩,
 ⟨(some 22), none, .c (.call 7 [(.t 20), (.t 21)])⟩,
 ⟨(some 19), none, .q (.mv (.t 22))⟩,
 ⟨(some 23), none, .q (.ext (.t 19) 0)⟩,
 ⟨(some 24), none, .q (.ext (.t 19) 1)⟩,
 ⟨(some 7), none, .q (.mv (.t 23))⟩,
 ⟨(some 8), none, .q (.mv (.t 24))⟩])
 (.seq (.seq (.reg [⟨(some 25), none, .q (.mv (.t 7))⟩,
 ⟨(some 26), none, .q (.mv (.t 5))⟩,
 ⟨(some 27), none, .c (.call 8 [(.t 25), (.t 26)])⟩,
 ⟨(some 28), none, .q (.un .not (.t 27))⟩,
 ⟨(some 29), none, .q (.mv (.t 28))⟩,
 ⟨(some 30), (some (29, false)), .q (.mv (.t 8))⟩,
 ⟨(some 31), (some (29, false)), .q (.mv (.t 6))⟩,
 ⟨(some 32), (some (29, false)), .q (.bin .neq (.t 30) (.t 31))⟩,
 ⟨(some 33), none, .q (.pick (.t 29) (.c (.bool true)) (.t 32))⟩])
 (.cond (.t 33)
 (.seq (.reg [⟨(some 4), none, .q (.mv (.c (.bool false)))⟩])
 .ret)
 .skip))
 (.seq (.reg [⟨(some 9), none, .q (.mv (.c (.int .i64 1)))⟩])
 (.seq (.reg [⟨(some 34), none, .q (.mv (.t 7))⟩,
 ⟨(some 35), none, .q (.mv (.t 9))⟩,
 ⟨(some 36), none, .c (.call 9 [(.t 34), (.t 35)])⟩,
 ⟨(some 9), none, .q (.mv (.t 36))⟩])
 (.seq (.reg [⟨(some 10), none, .q (.mv (.c (.int .i64 1)))⟩])
 (.seq (.reg [⟨(some 37), none, .q (.mv (.t 7))⟩,
 ⟨(some 38), none, .q (.mv (.t 10))⟩,
 ⟨(some 39), none, .c (.call 10 [(.t 37), (.t 38)])⟩,
 ⟨(some 10), none, .q (.mv (.t 39))⟩])
 (.seq (.seq (.reg [⟨(some 40), none, .q (.mv (.t 10))⟩,
 ⟨(some 41), none, .q (.bin .lss (.t 40) (.c (.int .i64 0)))⟩])
 (.cond (.t 41)
 (.seq (.reg [⟨(some 4), none, .q (.mv (.c (.bool false)))⟩])
 .ret)
 .skip))
 (.seq (.seq (.reg [⟨(some 42), none, .q (.mv (.t 10))⟩,
 ⟨(some 43), none, .q (.mv (.t 9))⟩,
 ⟨(some 44), none, .q (.bin .neq (.t 42) (.t 43))⟩])
 (.cond (.t 44)
 (.seq (.reg [⟨(some 4), none, .q (.mv (.c (.bool false)))⟩])
 .ret)
 .skip))
 (.seq (.reg [⟨(some 46), none, .q (.mv (.t 0))⟩,
 ⟨(some 47), none, .q (.mv (.t 1))⟩,
 ⟨(some 48), none, .c (.call 7 [(.t 46), (.t 47)])⟩,
 ⟨(some 45), none, .q (.mv (.t 48))⟩,
 ⟨(some 49), none, .q (.ext (.t 45) 0)⟩,
 ⟨(some 50), none, .q (.ext (.t 45) 1)⟩,
 ⟨(some 11), none, .q (.mv (.t 49))⟩,
 ⟨(some 12), none, .q (.mv (.t 50))⟩])
 (.seq (.seq (.reg [⟨(some 51), none, .q (.mv (.t 11))⟩,
 ⟨(some 52), none, .q (.mv (.t 5))⟩,
 ⟨(some 53), none, .c (.call 8 [(.t 51), (.t 52)])⟩,
 ⟨(some 54), none, .q (.un .not (.t 53))⟩,
 ⟨(some 55), none, .q (.mv (.t 54))⟩,
 ⟨(some 56), (some (55, false)), .q (.mv (.t 12))⟩,
 ⟨(some 57), (some (55, false)), .q (.mv (.t 6))⟩,
 ⟨(some 58), (some (55, false)), .q (.bin .neq (.t 56) (.t 57))⟩,
 ⟨(some 59), none, .q (.pick (.t 55) (.c (.bool true)) (.t 58))⟩])
 (.cond (.t 59)
 (.seq (.reg [⟨(some 4), none, .q (.mv (.c (.bool false)))⟩])
 .ret)
 .skip))
 (.seq (.reg [⟨(some 10), none, .q (.mv (.c (.int .i64 1)))⟩])
 (.seq (.reg [⟨(some 60), none, .q (.mv (.t 7))⟩,
 ⟨(some 61), none, .q (.mv (.t 10))⟩,
 ⟨(some 62), none, .c (.call 10 [(.t 60), (.t 61)])⟩,
 ⟨(some 10), none, .q (.mv (.t 62))⟩])
 (.seq (.seq (.reg [⟨(some 63), none, .q (.mv (.t 10))⟩,
 ⟨(some 64), none, .q (.bin .lss (.t 63) (.c (.int .i64 0)))⟩])
 (.cond (.t 64)
 (.seq (.reg [⟨(some 4), none, .q (.mv (.c (.bool false)))⟩])
 .ret)
 .skip))
 (.seq (.seq (.reg [⟨(some 65), none, .q (.mv (.t 10))⟩,
 ⟨(some 66), none, .q (.mv (.t 9))⟩,
 ⟨(some 67), none, .q (.bin .neq (.t 65) (.t 66))⟩])
 (.cond (.t 67)
 (.seq (.reg [⟨(some 4), none, .q (.mv (.c (.bool false)))⟩])
 .ret)
 .skip))
 (.seq (.reg [⟨(some 4), none, .q (.mv (.c (.bool true)))⟩])
 .ret)))))))))))))))))⟩
theorem l_laws_FnExactColumnsFor : lowF PA f_laws_FnExactColumnsFor 2 [] = some c_laws_FnExactColumnsFor := by kernel_rfl
abbrev f_spec_ColumnsFor : FuncId := 6
def c_spec_ColumnsFor : AF := ⟨2, 22, [.t 4, .t 5],
 (.seq (.reg [⟨(some 4), none, .q (.mv (.c (.slice none 0 0)))⟩,
 ⟨(some 5), none, .q (.mv (.c (.int .i64 0)))⟩])
 (.seq (.seq (.reg [⟨(some 7), none, .q (.mv (.t 0))⟩,
 ⟨(some 8), none, .c (.call 29 [(.t 7), (.c (.int .i64 2)), (.c (.int .i64 3))])⟩,
 ⟨(some 9), none, .q (.un .not (.t 8))⟩,
 ⟨(some 10), none, .q (.mv (.t 9))⟩,
 ⟨(some 11), (some (10, false)), .q (.mv (.t 1))⟩,
 ⟨(some 12), (some (10, false)), .c (.call 29 [(.t 11), (.c (.int .i64 1)), (.c (.int .i64 3))])⟩,
 ⟨(some 13), (some (10, false)), .q (.un .not (.t 12))⟩,
 ⟨(some 14), none, .q (.pick (.t 10) (.c (.bool true)) (.t 13))⟩])
 (.cond (.t 14)
 (.seq (.reg [⟨(some 4), none, .q (.mv (.c (.slice none 0 0)))⟩,
 ⟨(some 5), none, .q (.mv (.c (.int .i64 2)))⟩])
 .ret)
 .skip))
 (.seq (.reg [⟨(some 15), none, .q (.mv (.t 0))⟩,
 ⟨(some 16), none, .q (.mv (.t 1))⟩,
 ⟨(some 17), none, .c (.call 30 [(.t 15), (.t 16)])⟩,
 ⟨(some 6), none, .q (.mv (.t 17))⟩])
 (.seq (.seq (.reg [⟨(some 18), none, .q (.mv (.t 6))⟩,
 ⟨(some 19), none, .q (.len (.t 18))⟩,
 ⟨(some 20), none, .q (.bin .gtr (.t 19) (.c (.int .i64 8)))⟩])
 (.cond (.t 20)
 (.seq (.reg [⟨(some 4), none, .q (.mv (.c (.slice none 0 0)))⟩,
 ⟨(some 5), none, .q (.mv (.c (.int .i64 3)))⟩])
 .ret)
 .skip))
 (.seq (.reg [⟨(some 21), none, .q (.mv (.t 6))⟩,
 ⟨(some 4), none, .q (.mv (.t 21))⟩,
 ⟨(some 5), none, .q (.mv (.c (.int .i64 0)))⟩])
 .ret)))))⟩
theorem l_spec_ColumnsFor : lowF PA f_spec_ColumnsFor 2 [] = some c_spec_ColumnsFor := by kernel_rfl
abbrev f_impl_ColumnsFor : FuncId := 7
def c_impl_ColumnsFor : AF := ⟨2, 16, [.t 4, .t 5],
 (.seq (.reg [⟨(some 4), none, .q (.mv (.c (.slice none 0 0)))⟩,
 ⟨(some 5), none, .q (.mv (.c (.int .i64 0)))⟩])
 (.seq (.seq (.reg [⟨(some 7), none, .q (.mv (.t 0))⟩,
 ⟨(some 8), none, .q (.mv (.t 1))⟩,
 ⟨(some 9), none, .c (.call 31 [(.t 7), (.t 8), (.c (.int .i64 1))])⟩,
 ⟨(some 6), none, .q (.mv (.t 9))⟩])
 (.seq (.reg [⟨(some 10), none, .q (.mv (.t 6))⟩,
 ⟨(some 11), none, .q (.bin .neq (.t 10) (.c (.int .i64 0)))⟩])
 (.cond (.t 11)
 (.seq (.reg [⟨(some 12), none, .q (.mv (.t 6))⟩,
 ⟨(some 4), none, .q (.mv (.c (.slice none 0 0)))⟩,
 ⟨(some 5), none, .q (.mv (.t 12))⟩])
 .ret)
 .skip)))
 (.seq (.reg [⟨(some 13), none, .q (.mv (.t 0))⟩,
 ⟨(some 14), none, .q (.mv (.t 1))⟩,
 ⟨(some 15), none, .c (.call 32 [(.t 13), (.t 14)])⟩,
 ⟨(some 4), none, .q (.mv (.t 15))⟩,
 ⟨(some 5), none, .q (.mv (.c (.int .i64 0)))⟩])
 .ret)))⟩
theorem l_impl_ColumnsFor : lowF PA f_impl_ColumnsFor 2 [] = some c_impl_ColumnsFor := by kernel_rfl
abbrev f_laws_eqInt64SS : FuncId := 8
def c_laws_eqInt64SS : AF := ⟨2, 27, [.t 4],
 (.seq (.reg [⟨(some 4), none, .q (.mv (.c (.bool false)))⟩])
 (.seq (.seq (.reg [⟨(some 6), none, .q (.mv (.t 0))⟩,
 ⟨(some 7), none, .q (.len (.t 6))⟩,
 ⟨(some 8), none, .q (.mv (.t 1))⟩,
 ⟨(some 9), none, .q (.len (.t 8))⟩,
 ⟨(some 10), none, .q (.bin .neq (.t 7) (.t 9))⟩])
 (.cond (.t 10)
 (.seq (.reg [⟨(some 4), none, .q (.mv (.c (.bool false)))⟩])
 .ret)
 .skip))
 (.seq (.seq (.reg [⟨(some 5), none, .q (.mv (.c (.int .i64 0)))⟩])
 (.block 0 (.loop [0, 1, 5, 27] (.seq (.seq (.reg [⟨(some 11), none, .q (.mv (.t 5))⟩,
 ⟨(some 12), none, .q (.mv (.t 0))⟩,
 ⟨(some 13), none, .q (.len (.t 12))⟩,
 ⟨(some 14), none, .q (.bin .lss (.t 11) (.t 13))⟩])
 (.cond (.t 14)
 .skip
 (.exit 0)))
 (.seq (.block 1 (.seq (.sch (.take 0 ⟨(some 17), none, .q (.mv (.t 0))⟩ (.take 1 ⟨(some 18), none, .q (.mv (.t 5))⟩ (.take 2 ⟨(some 19), none, .q (.ixs 1 (.t 17) (.t 18))⟩ (.take 3 ⟨(some 20), none, .q (.ld false 1 (.t 19))⟩ (.take 4 ⟨(some 21), none, .q (.mv (.t 1))⟩ (.take 5 ⟨(some 22), none, .q (.mv (.t 5))⟩ (.take 6 ⟨(some 23), none, .q (.ixs 1 (.t 21) (.t 22))⟩ (.take 7 ⟨(some 24), none, .q (.ld false 1 (.t 23))⟩ (.one ⟨(some 25), none, .c (.call 25 [(.t 20), (.t 24)])⟩ [7, 3] (.take 9 ⟨(some 26), none, .q (.un .not (.t 25))⟩ .done)))))))))))
 (.cond (.t 26)
 (.seq (.reg [⟨(some 4), none, .q (.mv (.c (.bool false)))⟩])
 .ret)
 .skip)))
 (.reg [⟨(some 15), none, .q (.mv (.t 5))⟩,
 ⟨(some 16), none, .q (.bin .add (.t 15) (.c (.int .i64 1)))⟩,
 ⟨(some 5), none, .q (.mv (.t 16))⟩]))))))
 (.seq (.reg [⟨(some 4), none, .q (.mv (.c (.bool true)))⟩])
 .ret))))⟩
theorem l_laws_eqInt64SS : lowF PA f_laws_eqInt64SS 2 [.k [0, 1, 5, 27], .s (.take 0 (.take 1 (.take 2 (.take 3 (.take 4 (.take 5 (.take 6 (.take 7 (.one 8 (.take 9 .done))))))))))] = some c_laws_eqInt64SS := by kernel_rfl
abbrev f_laws_markInt64SS : FuncId := 9
def c_laws_markInt64SS : AF := ⟨2, 19, [.t 4],
 (.seq (.reg [⟨(some 4), none, .q (.mv (.c (.int .i64 0)))⟩])
 (.seq (.seq (.reg [⟨(some 5), none, .q (.mv (.c (.int .i64 0)))⟩])
 (.block 0 (.loop [0, 1, 5, 19] (.seq (.seq (.reg [⟨(some 6), none, .q (.mv (.t 5))⟩,
 ⟨(some 7), none, .q (.mv (.t 0))⟩,
 ⟨(some 8), none, .q (.len (.t 7))⟩,
 ⟨(some 9), none, .q (.bin .lss (.t 6) (.t 8))⟩])
 (.cond (.t 9)
 .skip
 (.exit 0)))
 (.seq (.block 1 (.reg [⟨(some 12), none, .q (.mv (.t 0))⟩,
 ⟨(some 13), none, .q (.mv (.t 5))⟩,
 ⟨(some 14), none, .q (.ixs 1 (.t 12) (.t 13))⟩,
 ⟨(some 15), none, .q (.ld false 1 (.t 14))⟩,
 ⟨(some 16), none, .q (.mv (.t 1))⟩,
 ⟨(some 17), none, .c (.call 26 [(.t 15), (.t 16)])⟩,
 ⟨(some 1), none, .q (.mv (.t 17))⟩]))
 (.reg [⟨(some 10), none, .q (.mv (.t 5))⟩,
 ⟨(some 11), none, .q (.bin .add (.t 10) (.c (.int .i64 1)))⟩,
 ⟨(some 5), none, .q (.mv (.t 11))⟩]))))))
 (.seq (.reg [⟨(some 18), none, .q (.mv (.t 1))⟩,
 ⟨(some 4), none, .q (.mv (.t 18))⟩])
 .ret)))⟩
theorem l_laws_markInt64SS : lowF PA f_laws_markInt64SS 2 [.k [0, 1, 5, 19]] = some c_laws_markInt64SS := by kernel_rfl
abbrev f_laws_heldInt64SS : FuncId := 10
def c_laws_heldInt64SS : AF := ⟨2, 21, [.t 4],
 (.seq (.reg [⟨(some 4), none, .q (.mv (.c (.int .i64 0)))⟩])
 (.seq (.seq (.reg [⟨(some 5), none, .q (.mv (.c (.int .i64 0)))⟩])
 (.block 0 (.loop [0, 1, 5, 21] (.seq (.seq (.reg [⟨(some 6), none, .q (.mv (.t 5))⟩,
 ⟨(some 7), none, .q (.mv (.t 0))⟩,
 ⟨(some 8), none, .q (.len (.t 7))⟩,
 ⟨(some 9), none, .q (.bin .lss (.t 6) (.t 8))⟩])
 (.cond (.t 9)
 .skip
 (.exit 0)))
 (.seq (.block 1 (.seq (.reg [⟨(some 12), none, .q (.mv (.t 0))⟩,
 ⟨(some 13), none, .q (.mv (.t 5))⟩,
 ⟨(some 14), none, .q (.ixs 1 (.t 12) (.t 13))⟩,
 ⟨(some 15), none, .q (.ld false 1 (.t 14))⟩,
 ⟨(some 16), none, .q (.mv (.t 1))⟩,
 ⟨(some 17), none, .c (.call 28 [(.t 15), (.t 16)])⟩,
 ⟨(some 1), none, .q (.mv (.t 17))⟩])
 (.seq (.reg [⟨(some 18), none, .q (.mv (.t 1))⟩,
 ⟨(some 19), none, .q (.bin .lss (.t 18) (.c (.int .i64 0)))⟩])
 (.cond (.t 19)
 (.seq (.reg [⟨(some 4), none, .q (.mv (.c (.int .i64 (-1))))⟩])
 .ret)
 .skip))))
 (.reg [⟨(some 10), none, .q (.mv (.t 5))⟩,
 ⟨(some 11), none, .q (.bin .add (.t 10) (.c (.int .i64 1)))⟩,
 ⟨(some 5), none, .q (.mv (.t 11))⟩]))))))
 (.seq (.reg [⟨(some 20), none, .q (.mv (.t 1))⟩,
 ⟨(some 4), none, .q (.mv (.t 20))⟩])
 .ret)))⟩
theorem l_laws_heldInt64SS : lowF PA f_laws_heldInt64SS 2 [.k [0, 1, 5, 21]] = some c_laws_heldInt64SS := by kernel_rfl
abbrev f_laws_eqInt64S : FuncId := 25
def c_laws_eqInt64S : AF := ⟨2, 26, [.t 4],
 (.seq (.reg [⟨(some 4), none, .q (.mv (.c (.bool false)))⟩])
 (.seq (.seq (.reg [⟨(some 6), none, .q (.mv (.t 0))⟩,
 ⟨(some 7), none, .q (.len (.t 6))⟩,
 ⟨(some 8), none, .q (.mv (.t 1))⟩,
 ⟨(some 9), none, .q (.len (.t 8))⟩,
 ⟨(some 10), none, .q (.bin .neq (.t 7) (.t 9))⟩])
 (.cond (.t 10)
 (.seq (.reg [⟨(some 4), none, .q (.mv (.c (.bool false)))⟩])
 .ret)
 .skip))
 (.seq (.seq (.reg [⟨(some 5), none, .q (.mv (.c (.int .i64 0)))⟩])
 (.block 0 (.loop [0, 1, 5] (.seq (.seq (.reg [⟨(some 11), none, .q (.mv (.t 5))⟩,
 ⟨(some 12), none, .q (.mv (.t 0))⟩,
 ⟨(some 13), none, .q (.len (.t 12))⟩,
 ⟨(some 14), none, .q (.bin .lss (.t 11) (.t 13))⟩])
 (.cond (.t 14)
 .skip
 (.exit 0)))
 (.seq (.block 1 (.seq (.sch (.take 0 ⟨(some 17), none, .q (.mv (.t 0))⟩ (.take 1 ⟨(some 18), none, .q (.mv (.t 5))⟩ (.take 2 ⟨(some 19), none, .q (.ixs 1 (.t 17) (.t 18))⟩ (.take 3 ⟨(some 20), none, .q (.ld false 1 (.t 19))⟩ (.take 4 ⟨(some 21), none, .q (.mv (.t 1))⟩ (.take 5 ⟨(some 22), none, .q (.mv (.t 5))⟩ (.take 6 ⟨(some 23), none, .q (.ixs 1 (.t 21) (.t 22))⟩ (.take 7 ⟨(some 24), none, .q (.ld false 1 (.t 23))⟩ (.take 8 ⟨(some 25), none, .q (.bin .neq (.t 20) (.t 24))⟩ .done))))))))))
 (.cond (.t 25)
 (.seq (.reg [⟨(some 4), none, .q (.mv (.c (.bool false)))⟩])
 .ret)
 .skip)))
 (.reg [⟨(some 15), none, .q (.mv (.t 5))⟩,
 ⟨(some 16), none, .q (.bin .add (.t 15) (.c (.int .i64 1)))⟩,
 ⟨(some 5), none, .q (.mv (.t 16))⟩]))))))
 (.seq (.reg [⟨(some 4), none, .q (.mv (.c (.bool true)))⟩])
 .ret))))⟩
theorem l_laws_eqInt64S : lowF PA f_laws_eqInt64S 2 [.k [0, 1, 5], .s (.take 0 (.take 1 (.take 2 (.take 3 (.take 4 (.take 5 (.take 6 (.take 7 (.take 8 .done)))))))))] = some c_laws_eqInt64S := by kernel_rfl
abbrev f_laws_markInt64S : FuncId := 26
def c_laws_markInt64S : AF := ⟨2, 19, [.t 4],
 (.seq (.reg [⟨(some 4), none, .q (.mv (.c (.int .i64 0)))⟩])
 (.seq (.seq (.reg [⟨(some 5), none, .q (.mv (.c (.int .i64 0)))⟩])
 (.block 0 (.loop [0, 1, 5, 19] (.seq (.seq (.reg [⟨(some 6), none, .q (.mv (.t 5))⟩,
 ⟨(some 7), none, .q (.mv (.t 0))⟩,
 ⟨(some 8), none, .q (.len (.t 7))⟩,
 ⟨(some 9), none, .q (.bin .lss (.t 6) (.t 8))⟩])
 (.cond (.t 9)
 .skip
 (.exit 0)))
 (.seq (.block 1 (.seq (.reg [⟨(some 12), none, .q (.mv (.t 0))⟩,
 ⟨(some 13), none, .q (.mv (.t 5))⟩,
 ⟨(some 14), none, .q (.mv (.t 1))⟩,
 ⟨(some 15), none, .q (.ixs 1 (.t 12) (.t 13))⟩,
 ⟨none, none, .m (.st false 1 (.t 15) (.t 14))⟩])
 (.reg [⟨(some 16), none, .q (.mv (.t 1))⟩,
 ⟨(some 17), none, .q (.bin .add (.t 16) (.c (.int .i64 1)))⟩,
 ⟨(some 1), none, .q (.mv (.t 17))⟩])))
 (.reg [⟨(some 10), none, .q (.mv (.t 5))⟩,
 ⟨(some 11), none, .q (.bin .add (.t 10) (.c (.int .i64 1)))⟩,
 ⟨(some 5), none, .q (.mv (.t 11))⟩]))))))
 (.seq (.reg [⟨(some 18), none, .q (.mv (.t 1))⟩,
 ⟨(some 4), none, .q (.mv (.t 18))⟩])
 .ret)))⟩
theorem l_laws_markInt64S : lowF PA f_laws_markInt64S 2 [.k [0, 1, 5, 19]] = some c_laws_markInt64S := by kernel_rfl
abbrev f_laws_heldInt64S : FuncId := 28
def c_laws_heldInt64S : AF := ⟨2, 21, [.t 4],
 (.seq (.reg [⟨(some 4), none, .q (.mv (.c (.int .i64 0)))⟩])
 (.seq (.seq (.reg [⟨(some 5), none, .q (.mv (.c (.int .i64 0)))⟩])
 (.block 0 (.loop [0, 1, 5] (.seq (.seq (.reg [⟨(some 6), none, .q (.mv (.t 5))⟩,
 ⟨(some 7), none, .q (.mv (.t 0))⟩,
 ⟨(some 8), none, .q (.len (.t 7))⟩,
 ⟨(some 9), none, .q (.bin .lss (.t 6) (.t 8))⟩])
 (.cond (.t 9)
 .skip
 (.exit 0)))
 (.seq (.block 1 (.seq (.seq (.reg [⟨(some 12), none, .q (.mv (.t 0))⟩,
 ⟨(some 13), none, .q (.mv (.t 5))⟩,
 ⟨(some 14), none, .q (.ixs 1 (.t 12) (.t 13))⟩,
 ⟨(some 15), none, .q (.ld false 1 (.t 14))⟩,
 ⟨(some 16), none, .q (.mv (.t 1))⟩,
 ⟨(some 17), none, .q (.bin .neq (.t 15) (.t 16))⟩])
 (.cond (.t 17)
 (.seq (.reg [⟨(some 4), none, .q (.mv (.c (.int .i64 (-1))))⟩])
 .ret)
 .skip))
 (.reg [⟨(some 18), none, .q (.mv (.t 1))⟩,
 ⟨(some 19), none, .q (.bin .add (.t 18) (.c (.int .i64 1)))⟩,
 ⟨(some 1), none, .q (.mv (.t 19))⟩])))
 (.reg [⟨(some 10), none, .q (.mv (.t 5))⟩,
 ⟨(some 11), none, .q (.bin .add (.t 10) (.c (.int .i64 1)))⟩,
 ⟨(some 5), none, .q (.mv (.t 11))⟩]))))))
 (.seq (.reg [⟨(some 20), none, .q (.mv (.t 1))⟩,
 ⟨(some 4), none, .q (.mv (.t 20))⟩])
 .ret)))⟩
theorem l_laws_heldInt64S : lowF PA f_laws_heldInt64S 2 [.k [0, 1, 5]] = some c_laws_heldInt64S := by kernel_rfl
abbrev f_spec_l01In : FuncId := 29
def c_spec_l01In : AF := ⟨3, 15, [.t 6],
 (.seq (.reg [⟨(some 6), none, .q (.mv (.c (.bool false)))⟩])
 (.seq (.reg [⟨(some 7), none, .q (.mv (.t 0))⟩,
 ⟨(some 8), none, .q (.mv (.t 1))⟩,
 ⟨(some 9), none, .q (.bin .geq (.t 7) (.t 8))⟩,
 ⟨(some 10), none, .q (.mv (.t 9))⟩,
 ⟨(some 11), (some (10, true)), .q (.mv (.t 0))⟩,
 ⟨(some 12), (some (10, true)), .q (.mv (.t 2))⟩,
 ⟨(some 13), (some (10, true)), .q (.bin .leq (.t 11) (.t 12))⟩,
 ⟨(some 14), none, .q (.pick (.t 10) (.t 13) (.c (.bool false)))⟩,
 ⟨(some 6), none, .q (.mv (.t 14))⟩])
 .ret))⟩
theorem l_spec_l01In : lowF PA f_spec_l01In 3 [] = some c_spec_l01In := by kernel_rfl
abbrev f_spec_l06Columns : FuncId := 30
def c_spec_l06Columns : AF := ⟨2, 61, [.t 4],
 (.seq (.reg [⟨(some 4), none, .q (.mv (.c (.slice none 0 0)))⟩])
 (.seq (.reg [⟨(some 13), none, .m (.bsl 1 [])⟩,
 ⟨(some 5), none, .q (.mv (.t 13))⟩,
 ⟨(some 6), none, .q (.mv (.c (.int .i64 1)))⟩])
 (.seq (.seq (.reg [⟨(some 7), none, .q (.mv (.c (.int .i64 0)))⟩])
 (.block 0 (.loop [0, 1, 5, 6, 7] (.seq (.seq (.reg [⟨(some 14), none, .q (.mv (.t 7))⟩,
 ⟨(some 15), none, .q (.mv (.t 1))⟩,
 ⟨(some 16), none, .q (.bin .lss (.t 14) (.t 15))⟩])
 (.cond (.t 16)
 .skip
 (.exit 0)))
 (.seq (.block 1 (.reg [⟨(some 19), none, .q (.mv (.t 6))⟩,
 ⟨(some 20), none, .q (.mv (.t 0))⟩,
 ⟨(some 21), none, .q (.bin .mul (.t 19) (.t 20))⟩,
 ⟨(some 6), none, .q (.mv (.t 21))⟩]))
 (.reg [⟨(some 17), none, .q (.mv (.t 7))⟩,
 ⟨(some 18), none, .q (.bin .add (.t 17) (.c (.int .i64 1)))⟩,
 ⟨(some 7), none, .q (.mv (.t 18))⟩]))))))
 (.seq (.seq (.reg [⟨(some 8), none, .q (.mv (.c (.int .i64 1)))⟩])
 (.block 2 (.loop [0, 1, 5, 6, 8] (.seq (.seq (.reg [⟨(some 22), none, .q (.mv (.t 8))⟩,
 ⟨(some 23), none, .q (.mv (.t 6))⟩,
 ⟨(some 24), none, .q (.bin .lss (.t 22) (.t 23))⟩])
 (.cond (.t 24)
 .skip
 (.exit 2)))
 (.seq (.block 3 (.seq (.reg [⟨(some 27), none, .q (.mv (.t 1))⟩,
 ⟨(some 28), none, .m (.mks 1 (.v (.int .i64 0)) 8 (.t 27) (.t 27))⟩,
 ⟨(some 29), none, .q (.mv (.t 8))⟩,
 ⟨(some 9), none, .q (.mv (.t 28))⟩,
 ⟨(some 10), none, .q (.mv (.t 29))⟩,
 ⟨(some 11), none, .q (.mv (.c (.int .i64 0)))⟩])
 (.seq (.seq (.reg [⟨(some 30), none, .q (.mv (.t 1))⟩,
 ⟨(some 31), none, .q (.bin .sub (.t 30) (.c (.int .i64 1)))⟩,
 ⟨(some 12), none, .q (.mv (.t 31))⟩])
 (.block 4 (.loop [0, 1, 5, 6, 8, 9, 10, 11, 12] (.seq (.seq (.reg [⟨(some 32), none, .q (.mv (.t 12))⟩,
 ⟨(some 33), none, .q (.bin .geq (.t 32) (.c (.int .i64 0)))⟩])
 (.cond (.t 33)
 .skip
 (.exit 4)))
 (.seq (.block 5 (.seq (.reg [⟨(some 36), none, .q (.mv (.t 9))⟩,
 ⟨(some 37), none, .q (.mv (.t 12))⟩,
 ⟨(some 38), none, .q (.mv (.t 10))⟩,
 ⟨(some 39), none, .q (.mv (.t 0))⟩,
 ⟨(some 40), none, .q (.bin .rem (.t 38) (.t 39))⟩,
 ⟨(some 41), none, .q (.ixs 1 (.t 36) (.t 37))⟩,
 ⟨none, none, .m (.st false 1 (.t 41) (.t 40))⟩])
 (.seq (.reg [⟨(some 42), none, .q (.mv (.t 10))⟩,
 ⟨(some 43), none, .q (.mv (.t 0))⟩,
 ⟨(some 44), none, .q (.bin .quo (.t 42) (.t 43))⟩,
 ⟨(some 10), none, .q (.mv (.t 44))⟩])
 (.seq (.reg [⟨(some 45), none, .q (.mv (.t 9))⟩,
 ⟨(some 46), none, .q (.mv (.t 12))⟩,
 ⟨(some 47), none, .q (.ixs 1 (.t 45) (.t 46))⟩,
 ⟨(some 48), none, .q (.ld false 1 (.t 47))⟩,
 ⟨(some 49), none, .q (.bin .neq (.t 48) (.c (.int .i64 0)))⟩])
 (.cond (.t 49)
 (.reg [⟨(some 50), none, .q (.mv (.t 9))⟩,
 ⟨(some 51), none, .q (.mv (.t 12))⟩,
 ⟨(some 52), none, .q (.ixs 1 (.t 50) (.t 51))⟩,
 ⟨(some 53), none, .q (.ld false 1 (.t 52))⟩,
 ⟨(some 11), none, .q (.mv (.t 53))⟩])
 .skip)))))
 (.reg [⟨(some 34), none, .q (.mv (.t 12))⟩,
 ⟨(some 35), none, .q (.bin .sub (.t 34) (.c (.int .i64 1)))⟩,
 ⟨(some 12), none, .q (.mv (.t 35))⟩]))))))
 (.seq (.reg [⟨(some 54), none, .q (.mv (.t 11))⟩,
 ⟨(some 55), none, .q (.bin .eql (.t 54) (.c (.int .i64 1)))⟩])
 (.cond (.t 55)
 (.reg [⟨(some 56), none, .q (.mv (.t 5))⟩,
 ⟨(some 57), none, .q (.mv (.t 9))⟩,
 ⟨(some 58), none, .m (.bsl 1 [(.t 57)])⟩,
 ⟨(some 59), none, .m (.app 1 24 (.t 56) (.t 58))⟩,
 ⟨(some 5), none, .q (.mv (.t 59))⟩])
 .skip)))))
 (.reg [⟨(some 25), none, .q (.mv (.t 8))⟩,
 ⟨(some 26), none, .q (.bin .add (.t 25) (.c (.int .i64 1)))⟩,
 ⟨(some 8), none, .q (.mv (.t 26))⟩]))))))
 (.seq (.reg [⟨(some 60), none, .q (.mv (.t 5))⟩,
 ⟨(some 4), none, .q (.mv (.t 60))⟩])
 .ret)))))⟩
theorem l_spec_l06Columns : lowF PA f_spec_l06Columns 2 [.k [0, 1, 5, 6, 7], .k [0, 1, 5, 6, 8], .k [0, 1, 5, 6, 8, 9, 10, 11, 12]] = some c_spec_l06Columns := by kernel_rfl
abbrev f_impl_hammingCode : FuncId := 31
def c_impl_hammingCode : AF := ⟨3, 29, [.t 6],
 (.seq (.reg [⟨(some 6), none, .q (.mv (.c (.int .i64 0)))⟩])
 (.seq (.block 0 (.seq (.reg [⟨(some 8), none, .q (.mv (.t 0))⟩,
 ⟨(some 9), none, .q (.bin .lss (.t 8) (.c (.int .i64 2)))⟩,
 ⟨(some 10), none, .q (.mv (.t 9))⟩,
 ⟨(some 11), (some (10, false)), .q (.mv (.t 0))⟩,
 ⟨(some 12), (some (10, false)), .q (.bin .gtr (.t 11) (.c (.int .i64 3)))⟩,
 ⟨(some 13), none, .q (.pick (.t 10) (.c (.bool true)) (.t 12))⟩,
 ⟨(some 14), none, .q (.mv (.t 13))⟩,
 ⟨(some 15), (some (14, false)), .q (.mv (.t 1))⟩,
 ⟨(some 16), (some (14, false)), .q (.mv (.t 2))⟩,
 ⟨(some 17), (some (14, false)), .q (.bin .lss (.t 15) (.t 16))⟩,
 ⟨(some 18), none, .q (.pick (.t 14) (.c (.bool true)) (.t 17))⟩,
 ⟨(some 19), none, .q (.mv (.t 18))⟩,
 ⟨(some 20), (some (19, false)), .q (.mv (.t 1))⟩,
 ⟨(some 21), (some (19, false)), .q (.bin .gtr (.t 20) (.c (.int .i64 3)))⟩,
 ⟨(some 22), none, .q (.pick (.t 19) (.c (.bool true)) (.t 21))⟩,
 ⟨(some 7), none, .q (.mv (.t 22))⟩])
 (.cond (.t 7)
 (.seq (.reg [⟨(some 6), none, .q (.mv (.c (.int .i64 2)))⟩])
 .ret)
 (.seq (.reg [⟨(some 24), none, .q (.mv (.t 0))⟩,
 ⟨(some 25), none, .q (.mv (.t 1))⟩,
 ⟨(some 26), none, .c (.call 32 [(.t 24), (.t 25)])⟩,
 ⟨(some 27), none, .q (.len (.t 26))⟩,
 ⟨(some 28), none, .q (.bin .gtr (.t 27) (.c (.int .i64 8)))⟩,
 ⟨(some 23), none, .q (.mv (.t 28))⟩])
 (.cond (.t 23)
 (.seq (.reg [⟨(some 6), none, .q (.mv (.c (.int .i64 3)))⟩])
 .ret)
 .skip)))))
 (.seq (.reg [⟨(some 6), none, .q (.mv (.c (.int .i64 0)))⟩])
 .ret)))⟩
theorem l_impl_hammingCode : lowF PA f_impl_hammingCode 3 [] = some c_impl_hammingCode := by kernel_rfl
abbrev f_impl_columnsFor : FuncId := 32
def c_impl_columnsFor : AF := ⟨2, 40, [.t 4],
 (.seq (.reg [⟨(some 4), none, .q (.mv (.c (.slice none 0 0)))⟩])
 (.seq (.reg [⟨(some 10), none, .m (.bsl 1 [])⟩,
 ⟨(some 11), none, .m (.bsl 1 [(.t 10)])⟩,
 ⟨(some 5), none, .q (.mv (.t 11))⟩])
 (.seq (.seq (.reg [⟨(some 12), none, .q (.mv (.t 1))⟩,
 ⟨(some 13), none, .q (.mv (.c (.int .i64 0)))⟩])
 (.block 0 (.loop [0, 5, 12, 13] (.seq (.reg [⟨(some 14), none, .q (.bin .lss (.t 13) (.t 12))⟩])
 (.seq (.cond (.t 14)
 .skip
 (.exit 0))
 (.seq (.block 1 (.seq (.reg [⟨(some 15), none, .m (.bsl 1 [])⟩,
 ⟨(some 6), none, .q (.mv (.t 15))⟩])
 (.seq (.seq (.reg [⟨(some 16), none, .q (.mv (.t 5))⟩,
 ⟨(some 17), none, .q (.len (.t 16))⟩,
 ⟨(some 18), none, .q (.mv (.c (.int .i64 0)))⟩])
 (.block 2 (.loop [0, 6, 12, 13, 16, 17, 18] (.seq (.reg [⟨(some 19), none, .q (.bin .lss (.t 18) (.t 17))⟩])
 (.seq (.cond (.t 19)
 .skip
 (.exit 2))
 (.seq (.block 3 (.seq (.reg [⟨(some 20), none, .q (.ixs 1 (.t 16) (.t 18))⟩,
 ⟨(some 21), none, .q (.ld false 1 (.t 20))⟩,
 ⟨(some 8), none, .q (.mv (.t 21))⟩])
 (.seq (.reg [⟨(some 22), none, .q (.mv (.t 0))⟩,
 ⟨(some 23), none, .q (.mv (.c (.int .i64 0)))⟩])
 (.block 4 (.loop [0, 6, 8, 12, 13, 16, 17, 18, 22, 23] (.seq (.reg [⟨(some 24), none, .q (.bin .lss (.t 23) (.t 22))⟩])
 (.seq (.cond (.t 24)
 .skip
 (.exit 4))
 (.seq (.block 5 (.seq (.reg [⟨(some 25), none, .q (.mv (.t 23))⟩,
 ⟨(some 9), none, .q (.mv (.t 25))⟩])
 (.reg [⟨(some 26), none, .q (.mv (.t 6))⟩,
 ⟨(some 27), none, .q (.mv (.t 8))⟩,
 ⟨(some 28), none, .c (.call 45 [(.t 27)])⟩,
 ⟨(some 29), none, .q (.mv (.t 9))⟩,
 ⟨(some 30), none, .m (.bsl 1 [(.t 29)])⟩,
 ⟨(some 31), none, .m (.app 1 8 (.t 28) (.t 30))⟩,
 ⟨(some 32), none, .m (.bsl 1 [(.t 31)])⟩,
 ⟨(some 33), none, .m (.app 1 24 (.t 26) (.t 32))⟩,
 ⟨(some 6), none, .q (.mv (.t 33))⟩])))
 (.reg [⟨(some 34), none, .q (.bin .add (.t 23) (.c (.int .i64 1)))⟩,
 ⟨(some 23), none, .q (.mv (.t 34))⟩])))))))))
 (.reg [⟨(some 35), none, .q (.bin .add (.t 18) (.c (.int .i64 1)))⟩,
 ⟨(some 18), none, .q (.mv (.t 35))⟩])))))))
 (.reg [⟨(some 36), none, .q (.mv (.t 6))⟩,
 ⟨(some 5), none, .q (.mv (.t 36))⟩]))))
 (.reg [⟨(some 37), none, .q (.bin .add (.t 13) (.c (.int .i64 1)))⟩,
 ⟨(some 13), none, .q (.mv (.t 37))⟩])))))))
 (.seq (.reg [⟨(some 38), none, .q (.mv (.t 5))⟩,
 ⟨(some 39), none, .c (.call 46 [(.t 38), (.f 47)])⟩,
 ⟨(some 4), none, .q (.mv (.t 39))⟩])
 .ret))))⟩
theorem l_impl_columnsFor : lowF PA f_impl_columnsFor 2 [.k [0, 5, 12, 13], .k [0, 6, 12, 13, 16, 17, 18], .k [0, 6, 8, 12, 13, 16, 17, 18, 22, 23]] = some c_impl_columnsFor := by kernel_rfl
abbrev f_slices_Clone___int64_int64_ : FuncId := 45
def c_slices_Clone___int64_int64_ : AF := ⟨1, 8, [.t 2],
 (.seq (.reg [⟨(some 2), none, .q (.mv (.c (.slice none 0 0)))⟩])
 (.seq (.seq (.reg [⟨(some 3), none, .q (.mv (.t 0))⟩,
 ⟨(some 4), none, .q (.isn false (.t 3))⟩])
 (.cond (.t 4)
 (.seq (.reg [⟨(some 2), none, .q (.mv (.c (.slice none 0 0)))⟩])
 .ret)
 .skip))
 (.seq (.reg [⟨(some 5), none, .m (.bsl 1 [])⟩,
 ⟨(some 6), none, .q (.mv (.t 0))⟩,
 ⟨(some 7), none, .m (.app 1 8 (.t 5) (.t 6))⟩,
 ⟨(some 2), none, .q (.mv (.t 7))⟩])
 .ret)))⟩
theorem l_slices_Clone___int64_int64_ : lowF PA f_slices_Clone___int64_int64_ 1 [] = some c_slices_Clone___int64_int64_ := by kernel_rfl
abbrev f_slices_DeleteFunc_____int64___int64_ : FuncId := 46
def c_slices_DeleteFunc_____int64___int64_ : AF := ⟨2, 42, [.t 4],
 (.seq (.reg [⟨(some 4), none, .q (.mv (.c (.slice none 0 0)))⟩])
 (.seq (.reg [⟨(some 8), none, .q (.mv (.t 0))⟩,
 ⟨(some 9), none, .q (.mv (.t 1))⟩,
 ⟨(some 10), none, .c (.call 59 [(.t 8), (.t 9)])⟩,
 ⟨(some 5), none, .q (.mv (.t 10))⟩])
 (.seq (.seq (.reg [⟨(some 11), none, .q (.mv (.t 5))⟩,
 ⟨(some 12), none, .q (.bin .eql (.t 11) (.c (.int .i64 (-1))))⟩])
 (.cond (.t 12)
 (.seq (.reg [⟨(some 13), none, .q (.mv (.t 0))⟩,
 ⟨(some 4), none, .q (.mv (.t 13))⟩])
 .ret)
 .skip))
 (.seq (.seq (.reg [⟨(some 14), none, .q (.mv (.t 5))⟩,
 ⟨(some 15), none, .q (.bin .add (.t 14) (.c (.int .i64 1)))⟩,
 ⟨(some 6), none, .q (.mv (.t 15))⟩])
 (.block 0 (.loop [0, 1, 5, 6, 42] (.seq (.seq (.reg [⟨(some 16), none, .q (.mv (.t 6))⟩,
 ⟨(some 17), none, .q (.mv (.t 0))⟩,
 ⟨(some 18), none, .q (.len (.t 17))⟩,
 ⟨(some 19), none, .q (.bin .lss (.t 16) (.t 18))⟩])
 (.cond (.t 19)
 .skip
 (.exit 0)))
 (.seq (.block 1 (.seq (.reg [⟨(some 22), none, .q (.mv (.t 0))⟩,
 ⟨(some 23), none, .q (.mv (.t 6))⟩,
 ⟨(some 24), none, .q (.ixs 1 (.t 22) (.t 23))⟩,
 ⟨(some 25), none, .q (.ld false 1 (.t 24))⟩,
 ⟨(some 7), none, .q (.mv (.t 25))⟩])
 (.seq (.reg [⟨(some 26), none, .q (.mv (.t 1))⟩,
 ⟨(some 27), none, .q (.mv (.t 7))⟩,
 ⟨(some 28), none, .c (.cav (.t 26) [(.t 27)])⟩,
 ⟨(some 29), none, .q (.un .not (.t 28))⟩])
 (.cond (.t 29)
 (.seq (.reg [⟨(some 30), none, .q (.mv (.t 0))⟩,
 ⟨(some 31), none, .q (.mv (.t 5))⟩,
 ⟨(some 32), none, .q (.mv (.t 7))⟩,
 ⟨(some 33), none, .q (.ixs 1 (.t 30) (.t 31))⟩,
 ⟨none, none, .m (.st false 1 (.t 33) (.t 32))⟩])
 (.reg [⟨(some 34), none, .q (.mv (.t 5))⟩,
 ⟨(some 35), none, .q (.bin .add (.t 34) (.c (.int .i64 1)))⟩,
 ⟨(some 5), none, .q (.mv (.t 35))⟩]))
 .skip))))
 (.reg [⟨(some 20), none, .q (.mv (.t 6))⟩,
 ⟨(some 21), none, .q (.bin .add (.t 20) (.c (.int .i64 1)))⟩,
 ⟨(some 6), none, .q (.mv (.t 21))⟩]))))))
 (.seq (.reg [⟨(some 36), none, .q (.mv (.t 0))⟩,
 ⟨(some 37), none, .q (.mv (.t 5))⟩,
 ⟨(some 38), none, .q (.slc 1 (.t 36) (some (.t 37)) none)⟩,
 ⟨none, none, .m (.clr 1 (.v (.slice none 0 0)) (.t 38))⟩])
 (.seq (.reg [⟨(some 39), none, .q (.mv (.t 0))⟩,
 ⟨(some 40), none, .q (.mv (.t 5))⟩,
 ⟨(some 41), none, .q (.slc 1 (.t 39) none (some (.t 40)))⟩,
 ⟨(some 4), none, .q (.mv (.t 41))⟩])
 .ret))))))⟩
theorem l_slices_DeleteFunc_____int64___int64_ : lowF PA f_slices_DeleteFunc_____int64___int64_ 2 [.k [0, 1, 5, 6, 42]] = some c_slices_DeleteFunc_____int64___int64_ := by kernel_rfl
abbrev f_impl_columnsFor_1 : FuncId := 47
def c_impl_columnsFor_1 : AF := ⟨1, 15, [.t 2],
 (.seq (.reg [⟨(some 2), none, .q (.mv (.c (.bool false)))⟩])
 (.seq (.reg [⟨(some 4), none, .q (.mv (.t 0))⟩,
 ⟨(some 5), none, .c (.call 48 [(.t 4), (.f 49)])⟩,
 ⟨(some 3), none, .q (.mv (.t 5))⟩])
 (.seq (.reg [⟨(some 6), none, .q (.mv (.t 3))⟩,
 ⟨(some 7), none, .q (.bin .lss (.t 6) (.c (.int .i64 0)))⟩,
 ⟨(some 8), none, .q (.mv (.t 7))⟩,
 ⟨(some 9), (some (8, false)), .q (.mv (.t 0))⟩,
 ⟨(some 10), (some (8, false)), .q (.mv (.t 3))⟩,
 ⟨(some 11), (some (8, false)), .q (.ixs 1 (.t 9) (.t 10))⟩,
 ⟨(some 12), (some (8, false)), .q (.ld false 1 (.t 11))⟩,
 ⟨(some 13), (some (8, false)), .q (.bin .neq (.t 12) (.c (.int .i64 1)))⟩,
 ⟨(some 14), none, .q (.pick (.t 8) (.c (.bool true)) (.t 13))⟩,
 ⟨(some 2), none, .q (.mv (.t 14))⟩])
 .ret)))⟩
theorem l_impl_columnsFor_1 : lowF PA f_impl_columnsFor_1 1 [] = some c_impl_columnsFor_1 := by kernel_rfl
abbrev f_slices_IndexFunc___int64_int64_ : FuncId := 48
def c_slices_IndexFunc___int64_int64_ : AF := ⟨2, 19, [.t 4],
 (.seq (.reg [⟨(some 4), none, .q (.mv (.c (.int .i64 0)))⟩])
 (.seq (.seq (.reg [⟨(some 6), none, .q (.mv (.t 0))⟩,
 ⟨(some 7), none, .q (.len (.t 6))⟩,
 ⟨(some 8), none, .q (.mv (.c (.int .i64 0)))⟩])
 (.block 0 (.loop [0, 1, 7, 8] (.seq (.reg [⟨(some 9), none, .q (.bin .lss (.t 8) (.t 7))⟩])
 (.seq (.cond (.t 9)
 .skip
 (.exit 0))
 (.seq (.block 1 (.seq (.reg [⟨(some 10), none, .q (.mv (.t 8))⟩,
 ⟨(some 5), none, .q (.mv (.t 10))⟩])
 (.seq (.reg [⟨(some 11), none, .q (.mv (.t 1))⟩,
 ⟨(some 12), none, .q (.mv (.t 0))⟩,
 ⟨(some 13), none, .q (.mv (.t 5))⟩,
 ⟨(some 14), none, .q (.ixs 1 (.t 12) (.t 13))⟩,
 ⟨(some 15), none, .q (.ld false 1 (.t 14))⟩,
 ⟨(some 16), none, .c (.cav (.t 11) [(.t 15)])⟩])
 (.cond (.t 16)
 (.seq (.reg [⟨(some 17), none, .q (.mv (.t 5))⟩,
 ⟨(some 4), none, .q (.mv (.t 17))⟩])
 .ret)
 .skip))))
 (.reg [⟨(some 18), none, .q (.bin .add (.t 8) (.c (.int .i64 1)))⟩,
 ⟨(some 8), none, .q (.mv (.t 18))⟩])))))))
 (.seq (.reg [⟨(some 4), none, .q (.mv (.c (.int .i64 (-1))))⟩])
 .ret)))⟩
theorem l_slices_IndexFunc___int64_int64_ : lowF PA f_slices_IndexFunc___int64_int64_ 2 [.k [0, 1, 7, 8]] = some c_slices_IndexFunc___int64_int64_ := by kernel_rfl
abbrev f_impl_columnsFor_1_1 : FuncId := 49
def c_impl_columnsFor_1_1 : AF := ⟨1, 5, [.t 2],
 (.seq (.reg [⟨(some 2), none, .q (.mv (.c (.bool false)))⟩])
 (.seq (.reg [⟨(some 3), none, .q (.mv (.t 0))⟩,
 ⟨(some 4), none, .q (.bin .neq (.t 3) (.c (.int .i64 0)))⟩,
 ⟨(some 2), none, .q (.mv (.t 4))⟩])
 .ret))⟩
theorem l_impl_columnsFor_1_1 : lowF PA f_impl_columnsFor_1_1 1 [] = some c_impl_columnsFor_1_1 := by kernel_rfl
abbrev f_slices_IndexFunc_____int64___int64_ : FuncId := 59
def c_slices_IndexFunc_____int64___int64_ : AF := ⟨2, 19, [.t 4],
 (.seq (.reg [⟨(some 4), none, .q (.mv (.c (.int .i64 0)))⟩])
 (.seq (.seq (.reg [⟨(some 6), none, .q (.mv (.t 0))⟩,
 ⟨(some 7), none, .q (.len (.t 6))⟩,
 ⟨(some 8), none, .q (.mv (.c (.int .i64 0)))⟩])
 (.block 0 (.loop [0, 1, 7, 8, 19] (.seq (.reg [⟨(some 9), none, .q (.bin .lss (.t 8) (.t 7))⟩])
 (.seq (.cond (.t 9)
 .skip
 (.exit 0))
 (.seq (.block 1 (.seq (.reg [⟨(some 10), none, .q (.mv (.t 8))⟩,
 ⟨(some 5), none, .q (.mv (.t 10))⟩])
 (.seq (.reg [⟨(some 11), none, .q (.mv (.t 1))⟩,
 ⟨(some 12), none, .q (.mv (.t 0))⟩,
 ⟨(some 13), none, .q (.mv (.t 5))⟩,
 ⟨(some 14), none, .q (.ixs 1 (.t 12) (.t 13))⟩,
 ⟨(some 15), none, .q (.ld false 1 (.t 14))⟩,
 ⟨(some 16), none, .c (.cav (.t 11) [(.t 15)])⟩])
 (.cond (.t 16)
 (.seq (.reg [⟨(some 17), none, .q (.mv (.t 5))⟩,
 ⟨(some 4), none, .q (.mv (.t 17))⟩])
 .ret)
 .skip))))
 (.reg [⟨(some 18), none, .q (.bin .add (.t 8) (.c (.int .i64 1)))⟩,
 ⟨(some 8), none, .q (.mv (.t 18))⟩])))))))
 (.seq (.reg [⟨(some 4), none, .q (.mv (.c (.int .i64 (-1))))⟩])
 .ret)))⟩
theorem l_slices_IndexFunc_____int64___int64_ : lowF PA f_slices_IndexFunc_____int64___int64_ 2 [.k [0, 1, 7, 8, 19]] = some c_slices_IndexFunc_____int64___int64_ := by kernel_rfl
end Go.Proofs.Ytccfejnckmokkaa.Va
