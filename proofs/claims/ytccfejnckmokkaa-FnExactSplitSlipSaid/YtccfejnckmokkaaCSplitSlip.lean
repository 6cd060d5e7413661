/- The code of the functions that FnExactSplitSlip reaches, laid out for a walk: each is what the lowering makes of the program's own text. Condition: none. -/
import Derived.Test.YtccfejnckmokkaaVc2
import Derived.Test.YtccfejnckmokkaaProg
import Derived.KernelRfl
set_option linter.all false
set_option linter.unusedSimpArgs false
set_option linter.unusedVariables false
namespace Go.Proofs.Ytccfejnckmokkaa.Va
open Go
noncomputable abbrev PA : Program := Go.Proofs.Try.prog
abbrev f_laws_FnExactSplitSlip : FuncId := 4
def c_laws_FnExactSplitSlip : AF := ⟨3, 122, [.t 6],
 (.seq (.reg [⟨(some 3), none, .m (.box (.t 0))⟩,
 ⟨(some 6), none, .q (.mv (.c (.bool false)))⟩])
 (.seq (.seq (.reg [⟨(some 19), none, .q (.mv (.t 1))⟩,
 ⟨(some 20), none, .q (.len (.t 19))⟩,
 ⟨(some 21), none, .q (.bin .gtr (.t 20) (.c (.int .i64 1048576)))⟩])
 (.cond (.t 21)
 (.seq (.reg [⟨(some 6), none, .q (.mv (.c (.bool true)))⟩])
 .ret)
 .skip))
 (.seq (.reg [⟨(some 7), none, .q (.mv (.c (.int .i64 1048576)))⟩])
 (.seq (.reg [⟨(some 22), none, .q (.ld true 1 (.t 3))⟩,
 ⟨(some 23), none, .q (.mv (.t 7))⟩,
 ⟨(some 24), none, .c (.call 11 [(.t 22), (.t 23)])⟩,
 ⟨(some 7), none, .q (.mv (.t 24))⟩])
 (.seq (.seq (.reg [⟨(some 25), none, .q (.mv (.t 7))⟩,
 ⟨(some 26), none, .q (.bin .lss (.t 25) (.c (.int .i64 0)))⟩])
 (.cond (.t 26)
 (.seq (.reg [⟨(some 6), none, .q (.mv (.c (.bool true)))⟩])
 .ret)
 .skip))
 (.seq (.reg [⟨(some 28), none, .q (.ld true 1 (.t 3))⟩,
 ⟨(some 29), none, .c (.call 13 [(.t 28)])⟩,
 ⟨(some 30), none, .q (.mv (.t 1))⟩,
 ⟨(some 31), none, .c (.call 14 [(.t 30)])⟩,
 ⟨(some 32), none, .q (.mv (.t 2))⟩,
 ⟨(some 33), none, .c (.call 12 [(.t 29), (.t 31), (.t 32)])⟩,
 ⟨(some 27), none, .q (.mv (.t 33))⟩,
 ⟨(some 34), none, .q (.ext (.t 27) 0)⟩,
 ⟨(some 35), none, .q (.ext (.t 27) 1)⟩,
 ⟨(some 8), none, .q (.mv (.t 34))⟩,
 ⟨(some 9), none, .q (.mv (.t 35))⟩])
 (.seq (.reg [⟨(some 36), none, .q (.ld true 1 (.t 3))⟩,
 ⟨(some 37), none, .c (.call 13 [(.t 36)])⟩,
 ⟨(some 10), none, .m (.alloc [(.v (.slice none 0 0))])⟩,
 ⟨none, none, .m (.st true 1 (.t 10) (.t 37))⟩])
 (.seq (.reg [⟨(some 38), none, .q (.mv (.t 1))⟩,
 ⟨(some 39), none, .c (.call 14 [(.t 38)])⟩,
 ⟨(some 11), none, .q (.mv (.t 39))⟩])
 (.seq (.reg [⟨(some 41), none, .q (.ld true 1 (.t 10))⟩,
 ⟨(some 42), none, .q (.mv (.t 11))⟩,
 ⟨(some 43), none, .q (.mv (.t 2))⟩,
 ⟨(some 44), none, .c (.call 15 [(.t 41), (.t 42), (.t 43)])⟩,
 ⟨(some 40), none, .q (.mv (.t 44))⟩,
 ⟨(some 45), none, .q (.ext (.t 40) 0)⟩,
 ⟨(some 46), none, .q (.ext (.t 40) 1)⟩,
 ⟨(some 12), none, .q (.mv (.t 45))⟩,
 ⟨(some 13), none, .q (.mv (.t 46))⟩])
 (.seq (.seq (.reg [⟨(some 47), none, .q (.mv (.t 12))⟩,
 ⟨(some 48), none, .q (.mv (.t 8))⟩,
 ⟨(some 49), none, .c (.call 16 [(.t 47), (.t 48)])⟩,
 ⟨(some 50), none, .q (.un .not (.t 49))⟩,
 ⟨(some 51), none, .q (.mv (.t 50))⟩,
 ⟨(some 52), (some (51, false)), .q (.mv (.t 13))⟩,
 ⟨(some 53), (some (51, false)), .q (.mv (.t 9))⟩,
 ⟨(some 54), (some (51, false)), .q (.bin .neq (.t 52) (.t 53))⟩,
 ⟨(some 55), none, .q (.pick (.t 51) (.c (.bool true)) (.t 54))⟩])
 (.cond (.t 55)
 (.seq (.reg [⟨(some 6), none, .q (.mv (.c (.bool false)))⟩])
 .ret)
 .skip))
 (.seq (.seq (.sch (.take 0 ⟨(some 56), none, .q (.ld true 1 (.t 10))⟩ (.take 1 ⟨(some 57), none, .q (.ld true 1 (.t 3))⟩ (.one ⟨(some 58), none, .c (.call 13 [(.t 57)])⟩ [1] (.one ⟨(some 59), none, .c (.call 17 [(.t 56), (.t 58)])⟩ [0] (.take 4 ⟨(some 60), none, .q (.un .not (.t 59))⟩ .done))))))
 (.cond (.t 60)
 (.seq (.reg [⟨(some 6), none, .q (.mv (.c (.bool false)))⟩])
 .ret)
 .skip))
 (.seq (.seq (.reg [⟨(some 61), none, .q (.mv (.t 11))⟩,
 ⟨(some 62), none, .q (.mv (.t 1))⟩,
 ⟨(some 63), none, .c (.call 14 [(.t 62)])⟩,
 ⟨(some 64), none, .c (.call 18 [(.t 61), (.t 63)])⟩,
 ⟨(some 65), none, .q (.un .not (.t 64))⟩])
 (.cond (.t 65)
 (.seq (.reg [⟨(some 6), none, .q (.mv (.c (.bool false)))⟩])
 .ret)
 .skip))
 (.seq (.reg [⟨(some 14), none, .q (.mv (.c (.int .i64 1)))⟩])
 (.seq (.reg [⟨(some 66), none, .q (.ld true 1 (.t 10))⟩,
 ⟨(some 67), none, .q (.mv (.t 14))⟩,
 ⟨(some 68), none, .c (.call 19 [(.t 66), (.t 67)])⟩,
 ⟨(some 14), none, .q (.mv (.t 68))⟩])
 (.seq (.reg [⟨(some 69), none, .q (.mv (.t 11))⟩,
 ⟨(some 70), none, .q (.mv (.t 14))⟩,
 ⟨(some 71), none, .c (.call 20 [(.t 69), (.t 70)])⟩,
 ⟨(some 14), none, .q (.mv (.t 71))⟩])
 (.seq (.seq (.reg [⟨(some 72), none, .q (.mv (.t 14))⟩,
 ⟨(some 73), none, .q (.bin .lss (.t 72) (.c (.int .i64 0)))⟩,
 ⟨(some 74), none, .q (.mv (.t 73))⟩,
 ⟨(some 75), (some (74, false)), .q (.mv (.t 12))⟩,
 ⟨(some 76), (some (74, false)), .q (.mv (.t 8))⟩,
 ⟨(some 77), (some (74, false)), .c (.call 16 [(.t 75), (.t 76)])⟩,
 ⟨(some 78), (some (74, false)), .q (.un .not (.t 77))⟩,
 ⟨(some 79), none, .q (.pick (.t 74) (.c (.bool true)) (.t 78))⟩,
 ⟨(some 80), none, .q (.mv (.t 79))⟩,
 ⟨(some 81), (some (80, false)), .q (.mv (.t 13))⟩,
 ⟨(some 82), (some (80, false)), .q (.mv (.t 9))⟩,
 ⟨(some 83), (some (80, false)), .q (.bin .neq (.t 81) (.t 82))⟩,
 ⟨(some 84), none, .q (.pick (.t 80) (.c (.bool true)) (.t 83))⟩])
 (.cond (.t 84)
 (.seq (.reg [⟨(some 6), none, .q (.mv (.c (.bool false)))⟩])
 .ret)
 .skip))
 (.seq (.reg [⟨(some 15), none, .q (.mv (.c (.int .i64 1)))⟩])
 (.seq (.reg [⟨(some 85), none, .q (.mv (.t 12))⟩,
 ⟨(some 86), none, .q (.mv (.t 15))⟩,
 ⟨(some 87), none, .c (.call 21 [(.t 85), (.t 86)])⟩,
 ⟨(some 15), none, .q (.mv (.t 87))⟩])
 (.seq (.reg [⟨(some 16), none, .q (.mv (.c (.int .i64 1)))⟩])
 (.seq (.reg [⟨(some 88), none, .q (.mv (.t 12))⟩,
 ⟨(some 89), none, .q (.mv (.t 16))⟩,
 ⟨(some 90), none, .c (.call 22 [(.t 88), (.t 89)])⟩,
 ⟨(some 16), none, .q (.mv (.t 90))⟩])
 (.seq (.seq (.reg [⟨(some 91), none, .q (.mv (.t 16))⟩,
 ⟨(some 92), none, .q (.bin .lss (.t 91) (.c (.int .i64 0)))⟩])
 (.cond (.t 92)
 (.seq (.reg [⟨(some 6), none, .q (.mv (.c (.bool false)))⟩])
 .ret)
 .skip))
 (.seq (.seq (.reg [⟨(some 93), none, .q (.mv (.t 16))⟩,
 ⟨(some 94), none, .q (.mv (.t 15))⟩,
 ⟨(some 95), none, .q (.bin .neq (.t 93) (.t 94))⟩])
 (.cond (.t 95)
 (.seq (.reg [⟨(some 6), none, .q (.mv (.c (.bool false)))⟩])
 .ret)
 .skip))
 (.seq (.reg [⟨(some 97), none, .q (.ld true 1 (.t 3))⟩,
 ⟨(some 98), none, .c (.call 13 [(.t 97)])⟩,
 ⟨(some 99), none, .q (.mv (.t 1))⟩,
 ⟨(some 100), none, .c (.call 14 [(.t 99)])⟩,
 ⟨(some 101), none, .q (.mv (.t 2))⟩,
 ⟨(some 102), none, .c (.call 15 [(.t 98), (.t 100), (.t 101)])⟩,
 ⟨(some 96), none, .q (.mv (.t 102))⟩,
 ⟨(some 103), none, .q (.ext (.t 96) 0)⟩,
 ⟨(some 104), none, .q (.ext (.t 96) 1)⟩,
 ⟨(some 17), none, .q (.mv (.t 103))⟩,
 ⟨(some 18), none, .q (.mv (.t 104))⟩])
 (.seq (.seq (.reg [⟨(some 105), none, .q (.mv (.t 17))⟩,
 ⟨(some 106), none, .q (.mv (.t 8))⟩,
 ⟨(some 107), none, .c (.call 16 [(.t 105), (.t 106)])⟩,
 ⟨(some 108), none, .q (.un .not (.t 107))⟩,
 ⟨(some 109), none, .q (.mv (.t 108))⟩,
 ⟨(some 110), (some (109, false)), .q (.mv (.t 18))⟩,
 ⟨(some 111), (some (109, false)), .q (.mv (.t 9))⟩,
 ⟨(some 112), (some (109, false)), .q (.bin .neq (.t 110) (.t 111))⟩,
 ⟨(some 113), none, .q (.pick (.t 109) (.c (.bool true)) (.t 112))⟩])
 (.cond (.t 113)
 (.seq (.reg [⟨(some 6), none, .q (.mv (.c (.bool false)))⟩])
 .ret)
 .skip))
 (.seq (.reg [⟨(some 16), none, .q (.mv (.c (.int .i64 1)))⟩])
 (.seq (.reg [⟨(some 114), none, .q (.mv (.t 12))⟩,
 ⟨(some 115), none, .q (.mv (.t 16))⟩,
 ⟨(some 116), none, .c (.call 22 [(.t 114), (.t 115)])⟩,
 ⟨(some 16), none, .q (.mv (.t 116))⟩])
 (.seq (.seq (.reg [⟨(some 117), none, .q (.mv (.t 16))⟩,
 ⟨(some 118), none, .q (.bin .lss (.t 117) (.c (.int .i64 0)))⟩])
 (.cond (.t 118)
 (.seq (.reg [⟨(some 6), none, .q (.mv (.c (.bool false)))⟩])
 .ret)
 .skip))
 (.seq (.seq (.reg [⟨(some 119), none, .q (.mv (.t 16))⟩,
 ⟨(some 120), none, .q (.mv (.t 15))⟩,
 ⟨(some 121), none, .q (.bin .neq (.t 119) (.t 120))⟩])
 (.cond (.t 121)
 (.seq (.reg [⟨(some 6), none, .q (.mv (.c (.bool false)))⟩])
 .ret)
 .skip))
 (.seq (.reg [⟨(some 6), none, .q (.mv (.c (.bool true)))⟩])
 .ret)))))))))))))))))))))))))))))⟩
theorem l_laws_FnExactSplitSlip : lowF PA f_laws_FnExactSplitSlip 3 [.s (.take 0 (.take 1 (.one 2 (.one 3 (.take 4 .done)))))] = some c_laws_FnExactSplitSlip := by kernel_rfl
abbrev f_laws_szSpace : FuncId := 11
def c_laws_szSpace : AF := ⟨2, 12, [.t 4],
 (.seq (.reg [⟨(some 2), none, .m (.box (.t 0))⟩,
 ⟨(some 4), none, .q (.mv (.c (.int .i64 0)))⟩])
 (.seq (.reg [⟨(some 5), none, .q (.fad 0 (.t 2))⟩,
 ⟨(some 6), none, .q (.ld false 1 (.t 5))⟩,
 ⟨(some 7), none, .q (.mv (.t 1))⟩,
 ⟨(some 8), none, .c (.call 33 [(.t 6), (.t 7)])⟩,
 ⟨(some 1), none, .q (.mv (.t 8))⟩])
 (.seq (.seq (.reg [⟨(some 9), none, .q (.mv (.t 1))⟩,
 ⟨(some 10), none, .q (.bin .lss (.t 9) (.c (.int .i64 0)))⟩])
 (.cond (.t 10)
 (.seq (.reg [⟨(some 4), none, .q (.mv (.c (.int .i64 (-1))))⟩])
 .ret)
 .skip))
 (.seq (.reg [⟨(some 11), none, .q (.mv (.t 1))⟩,
 ⟨(some 4), none, .q (.mv (.t 11))⟩])
 .ret))))⟩
theorem l_laws_szSpace : lowF PA f_laws_szSpace 2 [] = some c_laws_szSpace := by kernel_rfl
abbrev f_spec_SplitSlip : FuncId := 12
def c_spec_SplitSlip : AF := ⟨3, 59, [.t 6, .t 7],
 (.seq (.reg [⟨(some 3), none, .m (.box (.t 0))⟩,
 ⟨(some 6), none, .q (.mv (.c (.slice none 0 0)))⟩,
 ⟨(some 7), none, .q (.mv (.c (.int .i64 0)))⟩])
 (.seq (.reg [⟨(some 13), none, .q (.ld true 1 (.t 3))⟩,
 ⟨(some 14), none, .q (.mv (.t 1))⟩,
 ⟨(some 15), none, .m (.bsl 1 [(.t 14)])⟩,
 ⟨(some 16), none, .c (.call 34 [(.t 13), (.t 15)])⟩,
 ⟨(some 8), none, .q (.mv (.t 16))⟩])
 (.seq (.seq (.reg [⟨(some 17), none, .q (.mv (.t 8))⟩,
 ⟨(some 18), none, .q (.bin .eql (.t 17) (.c (.int .i64 0)))⟩,
 ⟨(some 19), none, .q (.mv (.t 18))⟩,
 ⟨(some 20), (some (19, true)), .q (.mv (.t 2))⟩,
 ⟨(some 21), (some (19, true)), .q (.mv (.t 1))⟩,
 ⟨(some 22), (some (19, true)), .q (.len (.t 21))⟩,
 ⟨(some 23), (some (19, true)), .q (.bin .sub (.t 22) (.c (.int .i64 1)))⟩,
 ⟨(some 24), (some (19, true)), .c (.call 29 [(.t 20), (.c (.int .i64 0)), (.t 23)])⟩,
 ⟨(some 25), (some (19, true)), .q (.un .not (.t 24))⟩,
 ⟨(some 26), none, .q (.pick (.t 19) (.t 25) (.c (.bool false)))⟩])
 (.cond (.t 26)
 (.reg [⟨(some 8), none, .q (.mv (.c (.int .i64 2)))⟩])
 .skip))
 (.seq (.seq (.reg [⟨(some 27), none, .q (.mv (.t 8))⟩,
 ⟨(some 28), none, .q (.bin .neq (.t 27) (.c (.int .i64 0)))⟩])
 (.cond (.t 28)
 (.seq (.reg [⟨(some 29), none, .q (.mv (.t 8))⟩,
 ⟨(some 6), none, .q (.mv (.c (.slice none 0 0)))⟩,
 ⟨(some 7), none, .q (.mv (.t 29))⟩])
 .ret)
 .skip))
 (.seq (.reg [⟨(some 30), none, .m (.bsl 1 [])⟩,
 ⟨(some 31), none, .q (.mv (.t 1))⟩,
 ⟨(some 32), none, .q (.mv (.t 2))⟩,
 ⟨(some 33), none, .q (.ixs 1 (.t 31) (.t 32))⟩,
 ⟨(some 34), none, .q (.ld false 1 (.t 33))⟩,
 ⟨(some 35), none, .c (.call 35 [(.t 34)])⟩,
 ⟨(some 9), none, .q (.mv (.t 30))⟩,
 ⟨(some 10), none, .q (.mv (.t 35))⟩])
 (.seq (.seq (.reg [⟨(some 36), none, .q (.mv (.t 10))⟩,
 ⟨(some 37), none, .q (.len (.t 36))⟩,
 ⟨(some 38), none, .q (.mv (.c (.int .i64 0)))⟩])
 (.block 0 (.loop [1, 2, 9, 10, 37, 38] (.seq (.reg [⟨(some 39), none, .q (.bin .lss (.t 38) (.t 37))⟩])
 (.seq (.cond (.t 39)
 .skip
 (.exit 0))
 (.seq (.block 1 (.seq (.reg [⟨(some 40), none, .q (.mv (.t 38))⟩,
 ⟨(some 11), none, .q (.mv (.t 40))⟩])
 (.seq (.reg [⟨(some 41), none, .m (.bsl 1 [])⟩,
 ⟨(some 42), none, .q (.mv (.t 1))⟩,
 ⟨(some 43), none, .m (.app 1 8 (.t 41) (.t 42))⟩,
 ⟨(some 12), none, .q (.mv (.t 43))⟩])
 (.seq (.reg [⟨(some 44), none, .q (.mv (.t 12))⟩,
 ⟨(some 45), none, .q (.mv (.t 2))⟩,
 ⟨(some 46), none, .q (.mv (.t 10))⟩,
 ⟨(some 47), none, .q (.mv (.t 11))⟩,
 ⟨(some 48), none, .q (.ixs 1 (.t 46) (.t 47))⟩,
 ⟨(some 49), none, .q (.ld false 1 (.t 48))⟩,
 ⟨(some 50), none, .q (.cvt .u64 (.t 49))⟩,
 ⟨(some 51), none, .q (.bin .shl (.c (.int .i64 1)) (.t 50))⟩,
 ⟨(some 52), none, .q (.ixs 1 (.t 44) (.t 45))⟩,
 ⟨none, none, .m (.st false 1 (.t 52) (.t 51))⟩])
 (.reg [⟨(some 53), none, .q (.mv (.t 9))⟩,
 ⟨(some 54), none, .q (.mv (.t 12))⟩,
 ⟨(some 55), none, .m (.bsl 1 [(.t 54)])⟩,
 ⟨(some 56), none, .m (.app 1 24 (.t 53) (.t 55))⟩,
 ⟨(some 9), none, .q (.mv (.t 56))⟩])))))
 (.reg [⟨(some 57), none, .q (.bin .add (.t 38) (.c (.int .i64 1)))⟩,
 ⟨(some 38), none, .q (.mv (.t 57))⟩])))))))
 (.seq (.reg [⟨(some 58), none, .q (.mv (.t 9))⟩,
 ⟨(some 6), none, .q (.mv (.t 58))⟩,
 ⟨(some 7), none, .q (.mv (.c (.int .i64 0)))⟩])
 .ret)))))))⟩
theorem l_spec_SplitSlip : lowF PA f_spec_SplitSlip 3 [.k [1, 2, 9, 10, 37, 38]] = some c_spec_SplitSlip := by kernel_rfl
abbrev f_laws_toSpace : FuncId := 13
def c_laws_toSpace : AF := ⟨1, 9, [.c 2 true 1],
 (.seq (.reg [⟨(some 1), none, .m (.box (.t 0))⟩,
 ⟨(some 2), none, .m (.alloc [(.v (.slice none 0 0))])⟩])
 (.seq (.reg [⟨(some 3), none, .m (.alloc [(.v (.slice none 0 0))])⟩])
 (.seq (.reg [⟨(some 4), none, .q (.fad 0 (.t 1))⟩,
 ⟨(some 5), none, .q (.ld false 1 (.t 4))⟩,
 ⟨(some 6), none, .c (.call 36 [(.t 5)])⟩,
 ⟨(some 7), none, .q (.fad 0 (.t 3))⟩,
 ⟨none, none, .m (.st false 1 (.t 7) (.t 6))⟩])
 (.seq (.reg [⟨(some 8), none, .q (.ld true 1 (.t 3))⟩,
 ⟨none, none, .m (.st true 1 (.t 2) (.t 8))⟩])
 .ret))))⟩
theorem l_laws_toSpace : lowF PA f_laws_toSpace 1 [] = some c_laws_toSpace := by kernel_rfl
abbrev f_laws_toSlip : FuncId := 14
def c_laws_toSlip : AF := ⟨1, 22, [.t 2],
 (.seq (.reg [⟨(some 2), none, .q (.mv (.c (.slice none 0 0)))⟩])
 (.seq (.reg [⟨(some 5), none, .q (.mv (.t 0))⟩,
 ⟨(some 6), none, .q (.len (.t 5))⟩,
 ⟨(some 7), none, .m (.mks 1 (.v (.int .i64 0)) 8 (.t 6) (.t 6))⟩,
 ⟨(some 3), none, .q (.mv (.t 7))⟩])
 (.seq (.seq (.reg [⟨(some 4), none, .q (.mv (.c (.int .i64 0)))⟩])
 (.block 0 (.loop [0, 3, 4] (.seq (.seq (.reg [⟨(some 8), none, .q (.mv (.t 4))⟩,
 ⟨(some 9), none, .q (.mv (.t 0))⟩,
 ⟨(some 10), none, .q (.len (.t 9))⟩,
 ⟨(some 11), none, .q (.bin .lss (.t 8) (.t 10))⟩])
 (.cond (.t 11)
 .skip
 (.exit 0)))
 (.seq (.block 1 (.reg [⟨(some 14), none, .q (.mv (.t 3))⟩,
 ⟨(some 15), none, .q (.mv (.t 4))⟩,
 ⟨(some 16), none, .q (.mv (.t 0))⟩,
 ⟨(some 17), none, .q (.mv (.t 4))⟩,
 ⟨(some 18), none, .q (.ixs 1 (.t 16) (.t 17))⟩,
 ⟨(some 19), none, .q (.ld false 1 (.t 18))⟩,
 ⟨(some 20), none, .q (.ixs 1 (.t 14) (.t 15))⟩,
 ⟨none, none, .m (.st false 1 (.t 20) (.t 19))⟩]))
 (.reg [⟨(some 12), none, .q (.mv (.t 4))⟩,
 ⟨(some 13), none, .q (.bin .add (.t 12) (.c (.int .i64 1)))⟩,
 ⟨(some 4), none, .q (.mv (.t 13))⟩]))))))
 (.seq (.reg [⟨(some 21), none, .q (.mv (.t 3))⟩,
 ⟨(some 2), none, .q (.mv (.t 21))⟩])
 .ret))))⟩
theorem l_laws_toSlip : lowF PA f_laws_toSlip 1 [.k [0, 3, 4]] = some c_laws_toSlip := by kernel_rfl
abbrev f_impl_SplitSlip : FuncId := 15
def c_impl_SplitSlip : AF := ⟨3, 53, [.t 6, .t 7],
 (.seq (.reg [⟨(some 3), none, .m (.box (.t 0))⟩,
 ⟨(some 6), none, .q (.mv (.c (.slice none 0 0)))⟩,
 ⟨(some 7), none, .q (.mv (.c (.int .i64 0)))⟩])
 (.seq (.seq (.reg [⟨(some 12), none, .q (.ld true 1 (.t 3))⟩,
 ⟨(some 13), none, .q (.mv (.t 1))⟩,
 ⟨(some 14), none, .m (.bsl 1 [(.t 13)])⟩,
 ⟨(some 15), none, .c (.call 37 [(.t 12), (.t 14)])⟩,
 ⟨(some 8), none, .q (.mv (.t 15))⟩])
 (.seq (.reg [⟨(some 16), none, .q (.mv (.t 8))⟩,
 ⟨(some 17), none, .q (.bin .neq (.t 16) (.c (.int .i64 0)))⟩])
 (.cond (.t 17)
 (.seq (.reg [⟨(some 18), none, .q (.mv (.t 8))⟩,
 ⟨(some 6), none, .q (.mv (.c (.slice none 0 0)))⟩,
 ⟨(some 7), none, .q (.mv (.t 18))⟩])
 .ret)
 .skip)))
 (.seq (.seq (.reg [⟨(some 19), none, .q (.ld true 1 (.t 3))⟩,
 ⟨(some 20), none, .q (.mv (.t 2))⟩,
 ⟨(some 21), none, .c (.call 38 [(.t 19), (.t 20)])⟩,
 ⟨(some 22), none, .q (.un .not (.t 21))⟩])
 (.cond (.t 22)
 (.seq (.reg [⟨(some 6), none, .q (.mv (.c (.slice none 0 0)))⟩,
 ⟨(some 7), none, .q (.mv (.c (.int .i64 2)))⟩])
 .ret)
 .skip))
 (.seq (.reg [⟨(some 23), none, .m (.bsl 1 [])⟩,
 ⟨(some 9), none, .q (.mv (.t 23))⟩])
 (.seq (.seq (.reg [⟨(some 24), none, .q (.fad 0 (.t 3))⟩,
 ⟨(some 25), none, .q (.ld false 1 (.t 24))⟩,
 ⟨(some 26), none, .q (.mv (.t 2))⟩,
 ⟨(some 27), none, .q (.ixs 1 (.t 25) (.t 26))⟩,
 ⟨(some 28), none, .q (.ld false 1 (.t 27))⟩,
 ⟨(some 29), none, .q (.mv (.c (.int .i64 0)))⟩])
 (.block 0 (.loop [1, 2, 9, 28, 29] (.seq (.reg [⟨(some 30), none, .q (.bin .lss (.t 29) (.t 28))⟩])
 (.seq (.cond (.t 30)
 .skip
 (.exit 0))
 (.seq (.block 1 (.seq (.reg [⟨(some 31), none, .q (.mv (.t 29))⟩,
 ⟨(some 10), none, .q (.mv (.t 31))⟩])
 (.seq (.reg [⟨(some 32), none, .q (.mv (.t 1))⟩,
 ⟨(some 33), none, .q (.mv (.t 2))⟩,
 ⟨(some 34), none, .q (.ixs 1 (.t 32) (.t 33))⟩,
 ⟨(some 35), none, .q (.ld false 1 (.t 34))⟩,
 ⟨(some 36), none, .q (.mv (.t 10))⟩,
 ⟨(some 37), none, .q (.bin .shr (.t 35) (.t 36))⟩,
 ⟨(some 38), none, .q (.bin .and (.t 37) (.c (.int .i64 1)))⟩,
 ⟨(some 39), none, .q (.bin .eql (.t 38) (.c (.int .i64 1)))⟩])
 (.cond (.t 39)
 (.seq (.reg [⟨(some 40), none, .q (.mv (.t 1))⟩,
 ⟨(some 41), none, .c (.call 39 [(.t 40)])⟩,
 ⟨(some 11), none, .q (.mv (.t 41))⟩])
 (.seq (.reg [⟨(some 42), none, .q (.mv (.t 11))⟩,
 ⟨(some 43), none, .q (.mv (.t 2))⟩,
 ⟨(some 44), none, .q (.mv (.t 10))⟩,
 ⟨(some 45), none, .q (.bin .shl (.c (.int .i64 1)) (.t 44))⟩,
 ⟨(some 46), none, .q (.ixs 1 (.t 42) (.t 43))⟩,
 ⟨none, none, .m (.st false 1 (.t 46) (.t 45))⟩])
 (.reg [⟨(some 47), none, .q (.mv (.t 9))⟩,
 ⟨(some 48), none, .q (.mv (.t 11))⟩,
 ⟨(some 49), none, .m (.bsl 1 [(.t 48)])⟩,
 ⟨(some 50), none, .m (.app 1 24 (.t 47) (.t 49))⟩,
 ⟨(some 9), none, .q (.mv (.t 50))⟩])))
 .skip))))
 (.reg [⟨(some 51), none, .q (.bin .add (.t 29) (.c (.int .i64 1)))⟩,
 ⟨(some 29), none, .q (.mv (.t 51))⟩])))))))
 (.seq (.reg [⟨(some 52), none, .q (.mv (.t 9))⟩,
 ⟨(some 6), none, .q (.mv (.t 52))⟩,
 ⟨(some 7), none, .q (.mv (.c (.int .i64 0)))⟩])
 .ret))))))⟩
theorem l_impl_SplitSlip : lowF PA f_impl_SplitSlip 3 [.k [1, 2, 9, 28, 29]] = some c_impl_SplitSlip := by kernel_rfl
abbrev f_laws_eqSlipS : FuncId := 16
def c_laws_eqSlipS : AF := ⟨2, 27, [.t 4],
 (.seq (.reg [⟨(some 4), none, .q (.mv (.c (.bool false)))⟩])
 (.seq (.seq (.reg [⟨(some 6), none, .q (.mv (.t 0))⟩,
 ⟨(some 7), none, .q (.len (.t 6))⟩,
 ⟨(some 8), none, .q (.mv (.t 1))⟩,
 ⟨(some 9), none, .q (.len (.t 8))⟩,
 ⟨(some 10), none, .q (.bin .neq (.t 7) (.t 9))⟩])
 (.cond (.t 10)
 (.seq (.reg [⟨(some 4), none, .q (.mv (.c (.bool false)))⟩])
 .ret)
 .skip))
 (.seq (.seq (.reg [⟨(some 5), none, .q (.mv (.c (.int .i64 0)))⟩])
 (.block 0 (.loop [0, 1, 5, 27] (.seq (.seq (.reg [⟨(some 11), none, .q (.mv (.t 5))⟩,
 ⟨(some 12), none, .q (.mv (.t 0))⟩,
 ⟨(some 13), none, .q (.len (.t 12))⟩,
 ⟨(some 14), none, .q (.bin .lss (.t 11) (.t 13))⟩])
 (.cond (.t 14)
 .skip
 (.exit 0)))
 (.seq (.block 1 (.seq (.sch (.take 0 ⟨(some 17), none, .q (.mv (.t 0))⟩ (.take 1 ⟨(some 18), none, .q (.mv (.t 5))⟩ (.take 2 ⟨(some 19), none, .q (.ixs 1 (.t 17) (.t 18))⟩ (.take 3 ⟨(some 20), none, .q (.ld false 1 (.t 19))⟩ (.take 4 ⟨(some 21), none, .q (.mv (.t 1))⟩ (.take 5 ⟨(some 22), none, .q (.mv (.t 5))⟩ (.take 6 ⟨(some 23), none, .q (.ixs 1 (.t 21) (.t 22))⟩ (.take 7 ⟨(some 24), none, .q (.ld false 1 (.t 23))⟩ (.one ⟨(some 25), none, .c (.call 18 [(.t 20), (.t 24)])⟩ [7, 3] (.take 9 ⟨(some 26), none, .q (.un .not (.t 25))⟩ .done)))))))))))
 (.cond (.t 26)
 (.seq (.reg [⟨(some 4), none, .q (.mv (.c (.bool false)))⟩])
 .ret)
 .skip)))
 (.reg [⟨(some 15), none, .q (.mv (.t 5))⟩,
 ⟨(some 16), none, .q (.bin .add (.t 15) (.c (.int .i64 1)))⟩,
 ⟨(some 5), none, .q (.mv (.t 16))⟩]))))))
 (.seq (.reg [⟨(some 4), none, .q (.mv (.c (.bool true)))⟩])
 .ret))))⟩
theorem l_laws_eqSlipS : lowF PA f_laws_eqSlipS 2 [.k [0, 1, 5, 27], .s (.take 0 (.take 1 (.take 2 (.take 3 (.take 4 (.take 5 (.take 6 (.take 7 (.one 8 (.take 9 .done))))))))))] = some c_laws_eqSlipS := by kernel_rfl
abbrev f_laws_eqSpace : FuncId := 17
def c_laws_eqSpace : AF := ⟨2, 11, [.t 4],
 (.seq (.reg [⟨(some 2), none, .m (.box (.t 0))⟩,
 ⟨(some 3), none, .m (.box (.t 1))⟩,
 ⟨(some 4), none, .q (.mv (.c (.bool false)))⟩])
 (.seq (.seq (.reg [⟨(some 5), none, .q (.fad 0 (.t 2))⟩,
 ⟨(some 6), none, .q (.ld false 1 (.t 5))⟩,
 ⟨(some 7), none, .q (.fad 0 (.t 3))⟩,
 ⟨(some 8), none, .q (.ld false 1 (.t 7))⟩,
 ⟨(some 9), none, .c (.call 25 [(.t 6), (.t 8)])⟩,
 ⟨(some 10), none, .q (.un .not (.t 9))⟩])
 (.cond (.t 10)
 (.seq (.reg [⟨(some 4), none, .q (.mv (.c (.bool false)))⟩])
 .ret)
 .skip))
 (.seq (.reg [⟨(some 4), none, .q (.mv (.c (.bool true)))⟩])
 .ret)))⟩
theorem l_laws_eqSpace : lowF PA f_laws_eqSpace 2 [] = some c_laws_eqSpace := by kernel_rfl
abbrev f_laws_eqSlip : FuncId := 18
def c_laws_eqSlip : AF := ⟨2, 26, [.t 4],
 (.seq (.reg [⟨(some 4), none, .q (.mv (.c (.bool false)))⟩])
 (.seq (.seq (.reg [⟨(some 6), none, .q (.mv (.t 0))⟩,
 ⟨(some 7), none, .q (.len (.t 6))⟩,
 ⟨(some 8), none, .q (.mv (.t 1))⟩,
 ⟨(some 9), none, .q (.len (.t 8))⟩,
 ⟨(some 10), none, .q (.bin .neq (.t 7) (.t 9))⟩])
 (.cond (.t 10)
 (.seq (.reg [⟨(some 4), none, .q (.mv (.c (.bool false)))⟩])
 .ret)
 .skip))
 (.seq (.seq (.reg [⟨(some 5), none, .q (.mv (.c (.int .i64 0)))⟩])
 (.block 0 (.loop [0, 1, 5] (.seq (.seq (.reg [⟨(some 11), none, .q (.mv (.t 5))⟩,
 ⟨(some 12), none, .q (.mv (.t 0))⟩,
 ⟨(some 13), none, .q (.len (.t 12))⟩,
 ⟨(some 14), none, .q (.bin .lss (.t 11) (.t 13))⟩])
 (.cond (.t 14)
 .skip
 (.exit 0)))
 (.seq (.block 1 (.seq (.sch (.take 0 ⟨(some 17), none, .q (.mv (.t 0))⟩ (.take 1 ⟨(some 18), none, .q (.mv (.t 5))⟩ (.take 2 ⟨(some 19), none, .q (.ixs 1 (.t 17) (.t 18))⟩ (.take 3 ⟨(some 20), none, .q (.ld false 1 (.t 19))⟩ (.take 4 ⟨(some 21), none, .q (.mv (.t 1))⟩ (.take 5 ⟨(some 22), none, .q (.mv (.t 5))⟩ (.take 6 ⟨(some 23), none, .q (.ixs 1 (.t 21) (.t 22))⟩ (.take 7 ⟨(some 24), none, .q (.ld false 1 (.t 23))⟩ (.take 8 ⟨(some 25), none, .q (.bin .neq (.t 20) (.t 24))⟩ .done))))))))))
 (.cond (.t 25)
 (.seq (.reg [⟨(some 4), none, .q (.mv (.c (.bool false)))⟩])
 .ret)
 .skip)))
 (.reg [⟨(some 15), none, .q (.mv (.t 5))⟩,
 ⟨(some 16), none, .q (.bin .add (.t 15) (.c (.int .i64 1)))⟩,
 ⟨(some 5), none, .q (.mv (.t 16))⟩]))))))
 (.seq (.reg [⟨(some 4), none, .q (.mv (.c (.bool true)))⟩])
 .ret))))⟩
theorem l_laws_eqSlip : lowF PA f_laws_eqSlip 2 [.k [0, 1, 5], .s (.take 0 (.take 1 (.take 2 (.take 3 (.take 4 (.take 5 (.take 6 (.take 7 (.take 8 .done)))))))))] = some c_laws_eqSlip := by kernel_rfl
abbrev f_laws_markSpace : FuncId := 19
def c_laws_markSpace : AF := ⟨2, 10, [.t 4],
 (.seq (.reg [⟨(some 2), none, .m (.box (.t 0))⟩,
 ⟨(some 4), none, .q (.mv (.c (.int .i64 0)))⟩])
 (.seq (.reg [⟨(some 5), none, .q (.fad 0 (.t 2))⟩,
 ⟨(some 6), none, .q (.ld false 1 (.t 5))⟩,
 ⟨(some 7), none, .q (.mv (.t 1))⟩,
 ⟨(some 8), none, .c (.call 26 [(.t 6), (.t 7)])⟩,
 ⟨(some 1), none, .q (.mv (.t 8))⟩])
 (.seq (.reg [⟨(some 9), none, .q (.mv (.t 1))⟩,
 ⟨(some 4), none, .q (.mv (.t 9))⟩])
 .ret)))⟩
theorem l_laws_markSpace : lowF PA f_laws_markSpace 2 [] = some c_laws_markSpace := by kernel_rfl
abbrev f_laws_markSlip : FuncId := 20
def c_laws_markSlip : AF := ⟨2, 19, [.t 4],
 (.seq (.reg [⟨(some 4), none, .q (.mv (.c (.int .i64 0)))⟩])
 (.seq (.seq (.reg [⟨(some 5), none, .q (.mv (.c (.int .i64 0)))⟩])
 (.block 0 (.loop [0, 1, 5, 19] (.seq (.seq (.reg [⟨(some 6), none, .q (.mv (.t 5))⟩,
 ⟨(some 7), none, .q (.mv (.t 0))⟩,
 ⟨(some 8), none, .q (.len (.t 7))⟩,
 ⟨(some 9), none, .q (.bin .lss (.t 6) (.t 8))⟩])
 (.cond (.t 9)
 .skip
 (.exit 0)))
 (.seq (.block 1 (.seq (.reg [⟨(some 12), none, .q (.mv (.t 0))⟩,
 ⟨(some 13), none, .q (.mv (.t 5))⟩,
 ⟨(some 14), none, .q (.mv (.t 1))⟩,
 ⟨(some 15), none, .q (.ixs 1 (.t 12) (.t 13))⟩,
 ⟨none, none, .m (.st false 1 (.t 15) (.t 14))⟩])
 (.reg [⟨(some 16), none, .q (.mv (.t 1))⟩,
 ⟨(some 17), none, .q (.bin .add (.t 16) (.c (.int .i64 1)))⟩,
 ⟨(some 1), none, .q (.mv (.t 17))⟩])))
 (.reg [⟨(some 10), none, .q (.mv (.t 5))⟩,
 ⟨(some 11), none, .q (.bin .add (.t 10) (.c (.int .i64 1)))⟩,
 ⟨(some 5), none, .q (.mv (.t 11))⟩]))))))
 (.seq (.reg [⟨(some 18), none, .q (.mv (.t 1))⟩,
 ⟨(some 4), none, .q (.mv (.t 18))⟩])
 .ret)))⟩
theorem l_laws_markSlip : lowF PA f_laws_markSlip 2 [.k [0, 1, 5, 19]] = some c_laws_markSlip := by kernel_rfl
abbrev f_laws_markSlipS : FuncId := 21
def c_laws_markSlipS : AF := ⟨2, 19, [.t 4],
 (.seq (.reg [⟨(some 4), none, .q (.mv (.c (.int .i64 0)))⟩])
 (.seq (.seq (.reg [⟨(some 5), none, .q (.mv (.c (.int .i64 0)))⟩])
 (.block 0 (.loop [0, 1, 5, 19] (.seq (.seq (.reg [⟨(some 6), none, .q (.mv (.t 5))⟩,
 ⟨(some 7), none, .q (.mv (.t 0))⟩,
 ⟨(some 8), none, .q (.len (.t 7))⟩,
 ⟨(some 9), none, .q (.bin .lss (.t 6) (.t 8))⟩])
 (.cond (.t 9)
 .skip
 (.exit 0)))
 (.seq (.block 1 (.reg [⟨(some 12), none, .q (.mv (.t 0))⟩,
 ⟨(some 13), none, .q (.mv (.t 5))⟩,
 ⟨(some 14), none, .q (.ixs 1 (.t 12) (.t 13))⟩,
 ⟨(some 15), none, .q (.ld false 1 (.t 14))⟩,
 ⟨(some 16), none, .q (.mv (.t 1))⟩,
 ⟨(some 17), none, .c (.call 20 [(.t 15), (.t 16)])⟩,
 ⟨(some 1), none, .q (.mv (.t 17))⟩]))
 (.reg [⟨(some 10), none, .q (.mv (.t 5))⟩,
 ⟨(some 11), none, .q (.bin .add (.t 10) (.c (.int .i64 1)))⟩,
 ⟨(some 5), none, .q (.mv (.t 11))⟩]))))))
 (.seq (.reg [⟨(some 18), none, .q (.mv (.t 1))⟩,
 ⟨(some 4), none, .q (.mv (.t 18))⟩])
 .ret)))⟩
theorem l_laws_markSlipS : lowF PA f_laws_markSlipS 2 [.k [0, 1, 5, 19]] = some c_laws_markSlipS := by kernel_rfl
abbrev f_laws_heldSlipS : FuncId := 22
def c_laws_heldSlipS : AF := ⟨2, 21, [.t 4],
 (.seq (.reg [⟨(some 4), none, .q (.mv (.c (.int .i64 0)))⟩])
 (.seq (.seq (.reg [⟨(some 5), none, .q (.mv (.c (.int .i64 0)))⟩])
 (.block 0 (.loop [0, 1, 5, 21] (.seq (.seq (.reg [⟨(some 6), none, .q (.mv (.t 5))⟩,
 ⟨(some 7), none, .q (.mv (.t 0))⟩,
 ⟨(some 8), none, .q (.len (.t 7))⟩,
 ⟨(some 9), none, .q (.bin .lss (.t 6) (.t 8))⟩])
 (.cond (.t 9)
 .skip
 (.exit 0)))
 (.seq (.block 1 (.seq (.reg [⟨(some 12), none, .q (.mv (.t 0))⟩,
 ⟨(some 13), none, .q (.mv (.t 5))⟩,
 ⟨(some 14), none, .q (.ixs 1 (.t 12) (.t 13))⟩,
 ⟨(some 15), none, .q (.ld false 1 (.t 14))⟩,
 ⟨(some 16), none, .q (.mv (.t 1))⟩,
 ⟨(some 17), none, .c (.call 40 [(.t 15), (.t 16)])⟩,
 ⟨(some 1), none, .q (.mv (.t 17))⟩])
 (.seq (.reg [⟨(some 18), none, .q (.mv (.t 1))⟩,
 ⟨(some 19), none, .q (.bin .lss (.t 18) (.c (.int .i64 0)))⟩])
 (.cond (.t 19)
 (.seq (.reg [⟨(some 4), none, .q (.mv (.c (.int .i64 (-1))))⟩])
 .ret)
 .skip))))
 (.reg [⟨(some 10), none, .q (.mv (.t 5))⟩,
 ⟨(some 11), none, .q (.bin .add (.t 10) (.c (.int .i64 1)))⟩,
 ⟨(some 5), none, .q (.mv (.t 11))⟩]))))))
 (.seq (.reg [⟨(some 20), none, .q (.mv (.t 1))⟩,
 ⟨(some 4), none, .q (.mv (.t 20))⟩])
 .ret)))⟩
theorem l_laws_heldSlipS : lowF PA f_laws_heldSlipS 2 [.k [0, 1, 5, 21]] = some c_laws_heldSlipS := by kernel_rfl
abbrev f_laws_eqInt64S : FuncId := 25
def c_laws_eqInt64S : AF := ⟨2, 26, [.t 4],
 (.seq (.reg [⟨(some 4), none, .q (.mv (.c (.bool false)))⟩])
 (.seq (.seq (.reg [⟨(some 6), none, .q (.mv (.t 0))⟩,
 ⟨(some 7), none, .q (.len (.t 6))⟩,
 ⟨(some 8), none, .q (.mv (.t 1))⟩,
 ⟨(some 9), none, .q (.len (.t 8))⟩,
 ⟨(some 10), none, .q (.bin .neq (.t 7) (.t 9))⟩])
 (.cond (.t 10)
 (.seq (.reg [⟨(some 4), none, .q (.mv (.c (.bool false)))⟩])
 .ret)
 .skip))
 (.seq (.seq (.reg [⟨(some 5), none, .q (.mv (.c (.int .i64 0)))⟩])
 (.block 0 (.loop [0, 1, 5] (.seq (.seq (.reg [⟨(some 11), none, .q (.mv (.t 5))⟩,
 ⟨(some 12), none, .q (.mv (.t 0))⟩,
 ⟨(some 13), none, .q (.len (.t 12))⟩,
 ⟨(some 14), none, .q (.bin .lss (.t 11) (.t 13))⟩])
 (.cond (.t 14)
 .skip
 (.exit 0)))
 (.seq (.block 1 (.seq (.sch (.take 0 ⟨(some 17), none, .q (.mv (.t 0))⟩ (.take 1 ⟨(some 18), none, .q (.mv (.t 5))⟩ (.take 2 ⟨(some 19), none, .q (.ixs 1 (.t 17) (.t 18))⟩ (.take 3 ⟨(some 20), none, .q (.ld false 1 (.t 19))⟩ (.take 4 ⟨(some 21), none, .q (.mv (.t 1))⟩ (.take 5 ⟨(some 22), none, .q (.mv (.t 5))⟩ (.take 6 ⟨(some 23), none, .q (.ixs 1 (.t 21) (.t 22))⟩ (.take 7 ⟨(some 24), none, .q (.ld false 1 (.t 23))⟩ (.take 8 ⟨(some 25), none, .q (.bin .neq (.t 20) (.t 24))⟩ .done))))))))))
 (.cond (.t 25)
 (.seq (.reg [⟨(some 4), none, .q (.mv (.c (.bool false)))⟩])
 .ret)
 .skip)))
 (.reg [⟨(some 15), none, .q (.mv (.t 5))⟩,
 ⟨(some 16), none, .q (.bin .add (.t 15) (.c (.int .i64 1)))⟩,
 ⟨(some 5), none, .q (.mv (.t 16))⟩]))))))
 (.seq (.reg [⟨(some 4), none, .q (.mv (.c (.bool true)))⟩])
 .ret))))⟩
theorem l_laws_eqInt64S : lowF PA f_laws_eqInt64S 2 [.k [0, 1, 5], .s (.take 0 (.take 1 (.take 2 (.take 3 (.take 4 (.take 5 (.take 6 (.take 7 (.take 8 .done)))))))))] = some c_laws_eqInt64S := by kernel_rfl
abbrev f_laws_markInt64S : FuncId := 26
def c_laws_markInt64S : AF := ⟨2, 19, [.t 4],
 (.seq (.reg [⟨(some 4), none, .q (.mv (.c (.int .i64 0)))⟩])
 (.seq (.seq (.reg [⟨(some 5), none, .q (.mv (.c (.int .i64 0)))⟩])
 (.block 0 (.loop [0, 1, 5, 19] (.seq (.seq (.reg [⟨(some 6), none, .q (.mv (.t 5))⟩,
 ⟨(some 7), none, .q (.mv (.t 0))⟩,
 ⟨(some 8), none, .q (.len (.t 7))⟩,
 ⟨(some 9), none, .q (.bin .lss (.t 6) (.t 8))⟩])
 (.cond (.t 9)
 .skip
 (.exit 0)))
 (.seq (.block 1 (.seq (.reg [⟨(some 12), none, .q (.mv (.t 0))⟩,
 ⟨(some 13), none, .q (.mv (.t 5))⟩,
 ⟨(some 14), none, .q (.mv (.t 1))⟩,
 ⟨(some 15), none, .q (.ixs 1 (.t 12) (.t 13))⟩,
 ⟨none, none, .m (.st false 1 (.t 15) (.t 14))⟩])
 (.reg [⟨(some 16), none, .q (.mv (.t 1))⟩,
 ⟨(some 17), none, .q (.bin .add (.t 16) (.c (.int .i64 1)))⟩,
 ⟨(some 1), none, .q (.mv (.t 17))⟩])))
 (.reg [⟨(some 10), none, .q (.mv (.t 5))⟩,
 ⟨(some 11), none, .q (.bin .add (.t 10) (.c (.int .i64 1)))⟩,
 ⟨(some 5), none, .q (.mv (.t 11))⟩]))))))
 (.seq (.reg [⟨(some 18), none, .q (.mv (.t 1))⟩,
 ⟨(some 4), none, .q (.mv (.t 18))⟩])
 .ret)))⟩
theorem l_laws_markInt64S : lowF PA f_laws_markInt64S 2 [.k [0, 1, 5, 19]] = some c_laws_markInt64S := by kernel_rfl
abbrev f_spec_l01In : FuncId := 29
def c_spec_l01In : AF := ⟨3, 15, [.t 6],
 (.seq (.reg [⟨(some 6), none, .q (.mv (.c (.bool false)))⟩])
 (.seq (.reg [⟨(some 7), none, .q (.mv (.t 0))⟩,
 ⟨(some 8), none, .q (.mv (.t 1))⟩,
 ⟨(some 9), none, .q (.bin .geq (.t 7) (.t 8))⟩,
 ⟨(some 10), none, .q (.mv (.t 9))⟩,
 ⟨(some 11), (some (10, true)), .q (.mv (.t 0))⟩,
 ⟨(some 12), (some (10, true)), .q (.mv (.t 2))⟩,
 ⟨(some 13), (some (10, true)), .q (.bin .leq (.t 11) (.t 12))⟩,
 ⟨(some 14), none, .q (.pick (.t 10) (.t 13) (.c (.bool false)))⟩,
 ⟨(some 6), none, .q (.mv (.t 14))⟩])
 .ret))⟩
theorem l_spec_l01In : lowF PA f_spec_l01In 3 [] = some c_spec_l01In := by kernel_rfl
abbrev f_laws_szInt64S : FuncId := 33
def c_laws_szInt64S : AF := ⟨2, 12, [.t 4],
 (.seq (.reg [⟨(some 4), none, .q (.mv (.c (.int .i64 0)))⟩])
 (.seq (.reg [⟨(some 5), none, .q (.mv (.t 1))⟩,
 ⟨(some 6), none, .q (.mv (.t 0))⟩,
 ⟨(some 7), none, .q (.len (.t 6))⟩,
 ⟨(some 8), none, .q (.bin .sub (.t 5) (.t 7))⟩,
 ⟨(some 1), none, .q (.mv (.t 8))⟩])
 (.seq (.seq (.reg [⟨(some 9), none, .q (.mv (.t 1))⟩,
 ⟨(some 10), none, .q (.bin .lss (.t 9) (.c (.int .i64 0)))⟩])
 (.cond (.t 10)
 (.seq (.reg [⟨(some 4), none, .q (.mv (.c (.int .i64 (-1))))⟩])
 .ret)
 .skip))
 (.seq (.reg [⟨(some 11), none, .q (.mv (.t 1))⟩,
 ⟨(some 4), none, .q (.mv (.t 11))⟩])
 .ret))))⟩
theorem l_laws_szInt64S : lowF PA f_laws_szInt64S 2 [] = some c_laws_szInt64S := by kernel_rfl
abbrev f_spec_l07Code : FuncId := 34
def c_spec_l07Code : AF := ⟨2, 22, [.t 4],
 (.seq (.reg [⟨(some 2), none, .m (.box (.t 0))⟩,
 ⟨(some 4), none, .q (.mv (.c (.int .i64 0)))⟩])
 (.seq (.seq (.reg [⟨(some 6), none, .q (.ld true 1 (.t 2))⟩,
 ⟨(some 7), none, .c (.call 50 [(.t 6)])⟩,
 ⟨(some 8), none, .q (.un .not (.t 7))⟩])
 (.cond (.t 8)
 (.seq (.reg [⟨(some 4), none, .q (.mv (.c (.int .i64 1)))⟩])
 .ret)
 .skip))
 (.seq (.seq (.reg [⟨(some 9), none, .q (.mv (.t 1))⟩,
 ⟨(some 10), none, .q (.len (.t 9))⟩,
 ⟨(some 11), none, .q (.mv (.c (.int .i64 0)))⟩])
 (.block 0 (.loop [1, 2, 10, 11] (.seq (.reg [⟨(some 12), none, .q (.bin .lss (.t 11) (.t 10))⟩])
 (.seq (.cond (.t 12)
 .skip
 (.exit 0))
 (.seq (.block 1 (.seq (.reg [⟨(some 13), none, .q (.mv (.t 11))⟩,
 ⟨(some 5), none, .q (.mv (.t 13))⟩])
 (.seq (.sch (.take 0 ⟨(some 14), none, .q (.ld true 1 (.t 2))⟩ (.take 1 ⟨(some 15), none, .q (.mv (.t 1))⟩ (.take 2 ⟨(some 16), none, .q (.mv (.t 5))⟩ (.take 3 ⟨(some 17), none, .q (.ixs 1 (.t 15) (.t 16))⟩ (.take 4 ⟨(some 18), none, .q (.ld false 1 (.t 17))⟩ (.one ⟨(some 19), none, .c (.call 51 [(.t 14), (.t 18)])⟩ [4, 0] (.take 6 ⟨(some 20), none, .q (.un .not (.t 19))⟩ .done))))))))
 (.cond (.t 20)
 (.seq (.reg [⟨(some 4), none, .q (.mv (.c (.int .i64 2)))⟩])
 .ret)
 .skip))))
 (.reg [⟨(some 21), none, .q (.bin .add (.t 11) (.c (.int .i64 1)))⟩,
 ⟨(some 11), none, .q (.mv (.t 21))⟩])))))))
 (.seq (.reg [⟨(some 4), none, .q (.mv (.c (.int .i64 0)))⟩])
 .ret))))⟩
theorem l_spec_l07Code : lowF PA f_spec_l07Code 2 [.k [1, 2, 10, 11], .s (.take 0 (.take 1 (.take 2 (.take 3 (.take 4 (.one 5 (.take 6 .done)))))))] = some c_spec_l07Code := by kernel_rfl
abbrev f_spec_l07Signs : FuncId := 35
def c_spec_l07Signs : AF := ⟨1, 21, [.t 2],
 (.seq (.reg [⟨(some 2), none, .q (.mv (.c (.slice none 0 0)))⟩])
 (.seq (.reg [⟨(some 5), none, .m (.bsl 1 [])⟩,
 ⟨(some 3), none, .q (.mv (.t 5))⟩])
 (.seq (.seq (.reg [⟨(some 4), none, .q (.mv (.c (.int .i64 0)))⟩])
 (.block 0 (.loop [0, 3, 4] (.seq (.seq (.reg [⟨(some 6), none, .q (.mv (.t 4))⟩,
 ⟨(some 7), none, .q (.bin .lss (.t 6) (.c (.int .i64 4)))⟩])
 (.cond (.t 7)
 .skip
 (.exit 0)))
 (.seq (.block 1 (.seq (.reg [⟨(some 10), none, .q (.mv (.t 0))⟩,
 ⟨(some 11), none, .q (.mv (.t 4))⟩,
 ⟨(some 12), none, .q (.cvt .u64 (.t 11))⟩,
 ⟨(some 13), none, .q (.bin .shr (.t 10) (.t 12))⟩,
 ⟨(some 14), none, .q (.bin .and (.t 13) (.c (.int .i64 1)))⟩,
 ⟨(some 15), none, .q (.bin .eql (.t 14) (.c (.int .i64 1)))⟩])
 (.cond (.t 15)
 (.reg [⟨(some 16), none, .q (.mv (.t 3))⟩,
 ⟨(some 17), none, .q (.mv (.t 4))⟩,
 ⟨(some 18), none, .m (.bsl 1 [(.t 17)])⟩,
 ⟨(some 19), none, .m (.app 1 8 (.t 16) (.t 18))⟩,
 ⟨(some 3), none, .q (.mv (.t 19))⟩])
 .skip)))
 (.reg [⟨(some 8), none, .q (.mv (.t 4))⟩,
 ⟨(some 9), none, .q (.bin .add (.t 8) (.c (.int .i64 1)))⟩,
 ⟨(some 4), none, .q (.mv (.t 9))⟩]))))))
 (.seq (.reg [⟨(some 20), none, .q (.mv (.t 3))⟩,
 ⟨(some 2), none, .q (.mv (.t 20))⟩])
 .ret))))⟩
theorem l_spec_l07Signs : lowF PA f_spec_l07Signs 1 [.k [0, 3, 4]] = some c_spec_l07Signs := by kernel_rfl
abbrev f_laws_toInt64S : FuncId := 36
def c_laws_toInt64S : AF := ⟨1, 22, [.t 2],
 (.seq (.reg [⟨(some 2), none, .q (.mv (.c (.slice none 0 0)))⟩])
 (.seq (.reg [⟨(some 5), none, .q (.mv (.t 0))⟩,
 ⟨(some 6), none, .q (.len (.t 5))⟩,
 ⟨(some 7), none, .m (.mks 1 (.v (.int .i64 0)) 8 (.t 6) (.t 6))⟩,
 ⟨(some 3), none, .q (.mv (.t 7))⟩])
 (.seq (.seq (.reg [⟨(some 4), none, .q (.mv (.c (.int .i64 0)))⟩])
 (.block 0 (.loop [0, 3, 4] (.seq (.seq (.reg [⟨(some 8), none, .q (.mv (.t 4))⟩,
 ⟨(some 9), none, .q (.mv (.t 0))⟩,
 ⟨(some 10), none, .q (.len (.t 9))⟩,
 ⟨(some 11), none, .q (.bin .lss (.t 8) (.t 10))⟩])
 (.cond (.t 11)
 .skip
 (.exit 0)))
 (.seq (.block 1 (.reg [⟨(some 14), none, .q (.mv (.t 3))⟩,
 ⟨(some 15), none, .q (.mv (.t 4))⟩,
 ⟨(some 16), none, .q (.mv (.t 0))⟩,
 ⟨(some 17), none, .q (.mv (.t 4))⟩,
 ⟨(some 18), none, .q (.ixs 1 (.t 16) (.t 17))⟩,
 ⟨(some 19), none, .q (.ld false 1 (.t 18))⟩,
 ⟨(some 20), none, .q (.ixs 1 (.t 14) (.t 15))⟩,
 ⟨none, none, .m (.st false 1 (.t 20) (.t 19))⟩]))
 (.reg [⟨(some 12), none, .q (.mv (.t 4))⟩,
 ⟨(some 13), none, .q (.bin .add (.t 12) (.c (.int .i64 1)))⟩,
 ⟨(some 4), none, .q (.mv (.t 13))⟩]))))))
 (.seq (.reg [⟨(some 21), none, .q (.mv (.t 3))⟩,
 ⟨(some 2), none, .q (.mv (.t 21))⟩])
 .ret))))⟩
theorem l_laws_toInt64S : lowF PA f_laws_toInt64S 1 [.k [0, 3, 4]] = some c_laws_toInt64S := by kernel_rfl
abbrev f_impl_slipCode : FuncId := 37
def c_impl_slipCode : AF := ⟨2, 21, [.t 4],
 (.seq (.reg [⟨(some 2), none, .m (.box (.t 0))⟩,
 ⟨(some 4), none, .q (.mv (.c (.int .i64 0)))⟩])
 (.seq (.seq (.reg [⟨(some 7), none, .q (.ld true 1 (.t 2))⟩,
 ⟨(some 8), none, .c (.call 52 [(.t 7)])⟩,
 ⟨(some 9), none, .q (.un .not (.t 8))⟩])
 (.cond (.t 9)
 (.seq (.reg [⟨(some 4), none, .q (.mv (.c (.int .i64 1)))⟩])
 .ret)
 .skip))
 (.seq (.seq (.reg [⟨(some 10), none, .q (.mv (.t 1))⟩,
 ⟨(some 11), none, .q (.len (.t 10))⟩,
 ⟨(some 12), none, .q (.mv (.c (.int .i64 0)))⟩])
 (.block 0 (.loop [2, 10, 11, 12] (.seq (.reg [⟨(some 13), none, .q (.bin .lss (.t 12) (.t 11))⟩])
 (.seq (.cond (.t 13)
 .skip
 (.exit 0))
 (.seq (.block 1 (.seq (.reg [⟨(some 14), none, .q (.ixs 1 (.t 10) (.t 12))⟩,
 ⟨(some 15), none, .q (.ld false 1 (.t 14))⟩,
 ⟨(some 6), none, .q (.mv (.t 15))⟩])
 (.seq (.reg [⟨(some 16), none, .q (.ld true 1 (.t 2))⟩,
 ⟨(some 17), none, .q (.mv (.t 6))⟩,
 ⟨(some 18), none, .c (.call 53 [(.t 16), (.t 17)])⟩,
 ⟨(some 19), none, .q (.un .not (.t 18))⟩])
 (.cond (.t 19)
 (.seq (.reg [⟨(some 4), none, .q (.mv (.c (.int .i64 2)))⟩])
 .ret)
 .skip))))
 (.reg [⟨(some 20), none, .q (.bin .add (.t 12) (.c (.int .i64 1)))⟩,
 ⟨(some 12), none, .q (.mv (.t 20))⟩])))))))
 (.seq (.reg [⟨(some 4), none, .q (.mv (.c (.int .i64 0)))⟩])
 .ret))))⟩
theorem l_impl_slipCode : lowF PA f_impl_slipCode 2 [.k [2, 10, 11, 12]] = some c_impl_slipCode := by kernel_rfl
abbrev f_impl_isPlace : FuncId := 38
def c_impl_isPlace : AF := ⟨2, 13, [.t 4],
 (.seq (.reg [⟨(some 2), none, .m (.box (.t 0))⟩,
 ⟨(some 4), none, .q (.mv (.c (.bool false)))⟩])
 (.seq (.reg [⟨(some 5), none, .q (.mv (.t 1))⟩,
 ⟨(some 6), none, .q (.bin .geq (.t 5) (.c (.int .i64 0)))⟩,
 ⟨(some 7), none, .q (.mv (.t 6))⟩,
 ⟨(some 8), (some (7, true)), .q (.mv (.t 1))⟩,
 ⟨(some 9), (some (7, true)), .q (.ld true 1 (.t 2))⟩,
 ⟨(some 10), (some (7, true)), .c (.call 54 [(.t 9)])⟩,
 ⟨(some 11), (some (7, true)), .q (.bin .lss (.t 8) (.t 10))⟩,
 ⟨(some 12), none, .q (.pick (.t 7) (.t 11) (.c (.bool false)))⟩,
 ⟨(some 4), none, .q (.mv (.t 12))⟩])
 .ret))⟩
theorem l_impl_isPlace : lowF PA f_impl_isPlace 2 [] = some c_impl_isPlace := by kernel_rfl
abbrev f_slices_Clone_impl_Slip_int64_ : FuncId := 39
def c_slices_Clone_impl_Slip_int64_ : AF := ⟨1, 8, [.t 2],
 (.seq (.reg [⟨(some 2), none, .q (.mv (.c (.slice none 0 0)))⟩])
 (.seq (.seq (.reg [⟨(some 3), none, .q (.mv (.t 0))⟩,
 ⟨(some 4), none, .q (.isn false (.t 3))⟩])
 (.cond (.t 4)
 (.seq (.reg [⟨(some 2), none, .q (.mv (.c (.slice none 0 0)))⟩])
 .ret)
 .skip))
 (.seq (.reg [⟨(some 5), none, .m (.bsl 1 [])⟩,
 ⟨(some 6), none, .q (.mv (.t 0))⟩,
 ⟨(some 7), none, .m (.app 1 8 (.t 5) (.t 6))⟩,
 ⟨(some 2), none, .q (.mv (.t 7))⟩])
 .ret)))⟩
theorem l_slices_Clone_impl_Slip_int64_ : lowF PA f_slices_Clone_impl_Slip_int64_ 1 [] = some c_slices_Clone_impl_Slip_int64_ := by kernel_rfl
abbrev f_laws_heldSlip : FuncId := 40
def c_laws_heldSlip : AF := ⟨2, 21, [.t 4],
 (.seq (.reg [⟨(some 4), none, .q (.mv (.c (.int .i64 0)))⟩])
 (.seq (.seq (.reg [⟨(some 5), none, .q (.mv (.c (.int .i64 0)))⟩])
 (.block 0 (.loop [0, 1, 5] (.seq (.seq (.reg [⟨(some 6), none, .q (.mv (.t 5))⟩,
 ⟨(some 7), none, .q (.mv (.t 0))⟩,
 ⟨(some 8), none, .q (.len (.t 7))⟩,
 ⟨(some 9), none, .q (.bin .lss (.t 6) (.t 8))⟩])
 (.cond (.t 9)
 .skip
 (.exit 0)))
 (.seq (.block 1 (.seq (.seq (.reg [⟨(some 12), none, .q (.mv (.t 0))⟩,
 ⟨(some 13), none, .q (.mv (.t 5))⟩,
 ⟨(some 14), none, .q (.ixs 1 (.t 12) (.t 13))⟩,
 ⟨(some 15), none, .q (.ld false 1 (.t 14))⟩,
 ⟨(some 16), none, .q (.mv (.t 1))⟩,
 ⟨(some 17), none, .q (.bin .neq (.t 15) (.t 16))⟩])
 (.cond (.t 17)
 (.seq (.reg [⟨(some 4), none, .q (.mv (.c (.int .i64 (-1))))⟩])
 .ret)
 .skip))
 (.reg [⟨(some 18), none, .q (.mv (.t 1))⟩,
 ⟨(some 19), none, .q (.bin .add (.t 18) (.c (.int .i64 1)))⟩,
 ⟨(some 1), none, .q (.mv (.t 19))⟩])))
 (.reg [⟨(some 10), none, .q (.mv (.t 5))⟩,
 ⟨(some 11), none, .q (.bin .add (.t 10) (.c (.int .i64 1)))⟩,
 ⟨(some 5), none, .q (.mv (.t 11))⟩]))))))
 (.seq (.reg [⟨(some 20), none, .q (.mv (.t 1))⟩,
 ⟨(some 4), none, .q (.mv (.t 20))⟩])
 .ret)))⟩
theorem l_laws_heldSlip : lowF PA f_laws_heldSlip 2 [.k [0, 1, 5]] = some c_laws_heldSlip := by kernel_rfl
abbrev f_spec_l01Is : FuncId := 50
def c_spec_l01Is : AF := ⟨1, 26, [.t 2],
 (.seq (.reg [⟨(some 1), none, .m (.box (.t 0))⟩,
 ⟨(some 2), none, .q (.mv (.c (.bool false)))⟩])
 (.seq (.seq (.reg [⟨(some 4), none, .q (.fad 0 (.t 1))⟩,
 ⟨(some 5), none, .q (.ld false 1 (.t 4))⟩,
 ⟨(some 6), none, .q (.len (.t 5))⟩,
 ⟨(some 7), none, .c (.call 29 [(.t 6), (.c (.int .i64 1)), (.c (.int .i64 8))])⟩,
 ⟨(some 8), none, .q (.un .not (.t 7))⟩])
 (.cond (.t 8)
 (.seq (.reg [⟨(some 2), none, .q (.mv (.c (.bool false)))⟩])
 .ret)
 .skip))
 (.seq (.seq (.reg [⟨(some 3), none, .q (.mv (.c (.int .i64 0)))⟩])
 (.block 0 (.loop [1, 3] (.seq (.seq (.reg [⟨(some 9), none, .q (.mv (.t 3))⟩,
 ⟨(some 10), none, .q (.fad 0 (.t 1))⟩,
 ⟨(some 11), none, .q (.ld false 1 (.t 10))⟩,
 ⟨(some 12), none, .q (.len (.t 11))⟩,
 ⟨(some 13), none, .q (.bin .lss (.t 9) (.t 12))⟩])
 (.cond (.t 13)
 .skip
 (.exit 0)))
 (.seq (.block 1 (.seq (.reg [⟨(some 16), none, .q (.fad 0 (.t 1))⟩,
 ⟨(some 17), none, .q (.ld false 1 (.t 16))⟩,
 ⟨(some 18), none, .q (.mv (.t 3))⟩,
 ⟨(some 19), none, .q (.ixs 1 (.t 17) (.t 18))⟩,
 ⟨(some 20), none, .q (.ld false 1 (.t 19))⟩,
 ⟨(some 21), none, .c (.call 29 [(.t 20), (.c (.int .i64 2)), (.c (.int .i64 4))])⟩,
 ⟨(some 22), none, .q (.un .not (.t 21))⟩])
 (.cond (.t 22)
 (.seq (.reg [⟨(some 2), none, .q (.mv (.c (.bool false)))⟩])
 .ret)
 .skip)))
 (.reg [⟨(some 14), none, .q (.mv (.t 3))⟩,
 ⟨(some 15), none, .q (.bin .add (.t 14) (.c (.int .i64 1)))⟩,
 ⟨(some 3), none, .q (.mv (.t 15))⟩]))))))
 (.seq (.reg [⟨(some 23), none, .q (.ld true 1 (.t 1))⟩,
 ⟨(some 24), none, .c (.call 55 [(.t 23)])⟩,
 ⟨(some 25), none, .q (.bin .leq (.t 24) (.c (.int .i64 1024)))⟩,
 ⟨(some 2), none, .q (.mv (.t 25))⟩])
 .ret))))⟩
theorem l_spec_l01Is : lowF PA f_spec_l01Is 1 [.k [1, 3]] = some c_spec_l01Is := by kernel_rfl
abbrev f_spec_l07Is : FuncId := 51
def c_spec_l07Is : AF := ⟨2, 32, [.t 4],
 (.seq (.reg [⟨(some 2), none, .m (.box (.t 0))⟩,
 ⟨(some 4), none, .q (.mv (.c (.bool false)))⟩])
 (.seq (.seq (.reg [⟨(some 6), none, .q (.mv (.t 1))⟩,
 ⟨(some 7), none, .q (.len (.t 6))⟩,
 ⟨(some 8), none, .q (.fad 0 (.t 2))⟩,
 ⟨(some 9), none, .q (.ld false 1 (.t 8))⟩,
 ⟨(some 10), none, .q (.len (.t 9))⟩,
 ⟨(some 11), none, .q (.bin .neq (.t 7) (.t 10))⟩])
 (.cond (.t 11)
 (.seq (.reg [⟨(some 4), none, .q (.mv (.c (.bool false)))⟩])
 .ret)
 .skip))
 (.seq (.seq (.reg [⟨(some 12), none, .q (.mv (.t 1))⟩,
 ⟨(some 13), none, .q (.len (.t 12))⟩,
 ⟨(some 14), none, .q (.mv (.c (.int .i64 0)))⟩])
 (.block 0 (.loop [1, 2, 13, 14] (.seq (.reg [⟨(some 15), none, .q (.bin .lss (.t 14) (.t 13))⟩])
 (.seq (.cond (.t 15)
 .skip
 (.exit 0))
 (.seq (.block 1 (.seq (.reg [⟨(some 16), none, .q (.mv (.t 14))⟩,
 ⟨(some 5), none, .q (.mv (.t 16))⟩])
 (.seq (.sch (.take 0 ⟨(some 17), none, .q (.mv (.t 1))⟩ (.take 1 ⟨(some 18), none, .q (.mv (.t 5))⟩ (.take 2 ⟨(some 19), none, .q (.ixs 1 (.t 17) (.t 18))⟩ (.take 3 ⟨(some 20), none, .q (.ld false 1 (.t 19))⟩ (.take 4 ⟨(some 21), none, .q (.fad 0 (.t 2))⟩ (.take 5 ⟨(some 22), none, .q (.ld false 1 (.t 21))⟩ (.take 6 ⟨(some 23), none, .q (.mv (.t 5))⟩ (.take 7 ⟨(some 24), none, .q (.ixs 1 (.t 22) (.t 23))⟩ (.take 8 ⟨(some 25), none, .q (.ld false 1 (.t 24))⟩ (.take 9 ⟨(some 26), none, .q (.cvt .u64 (.t 25))⟩ (.take 10 ⟨(some 27), none, .q (.bin .shl (.c (.int .i64 1)) (.t 26))⟩ (.take 11 ⟨(some 28), none, .q (.bin .sub (.t 27) (.c (.int .i64 1)))⟩ (.one ⟨(some 29), none, .c (.call 29 [(.t 20), (.c (.int .i64 1)), (.t 28)])⟩ [3] (.take 13 ⟨(some 30), none, .q (.un .not (.t 29))⟩ .done)))))))))))))))
 (.cond (.t 30)
 (.seq (.reg [⟨(some 4), none, .q (.mv (.c (.bool false)))⟩])
 .ret)
 .skip))))
 (.reg [⟨(some 31), none, .q (.bin .add (.t 14) (.c (.int .i64 1)))⟩,
 ⟨(some 14), none, .q (.mv (.t 31))⟩])))))))
 (.seq (.reg [⟨(some 4), none, .q (.mv (.c (.bool true)))⟩])
 .ret))))⟩
theorem l_spec_l07Is : lowF PA f_spec_l07Is 2 [.k [1, 2, 13, 14], .s (.take 0 (.take 1 (.take 2 (.take 3 (.take 4 (.take 5 (.take 6 (.take 7 (.take 8 (.take 9 (.take 10 (.take 11 (.one 12 (.take 13 .done))))))))))))))] = some c_spec_l07Is := by kernel_rfl
abbrev f_impl_IsSpace : FuncId := 52
def c_impl_IsSpace : AF := ⟨1, 35, [.t 2],
 (.seq (.reg [⟨(some 1), none, .m (.box (.t 0))⟩,
 ⟨(some 2), none, .q (.mv (.c (.bool false)))⟩])
 (.seq (.seq (.reg [⟨(some 6), none, .q (.fad 0 (.t 1))⟩,
 ⟨(some 7), none, .q (.ld false 1 (.t 6))⟩,
 ⟨(some 8), none, .q (.len (.t 7))⟩,
 ⟨(some 9), none, .q (.bin .lss (.t 8) (.c (.int .i64 1)))⟩,
 ⟨(some 10), none, .q (.mv (.t 9))⟩,
 ⟨(some 11), (some (10, false)), .q (.fad 0 (.t 1))⟩,
 ⟨(some 12), (some (10, false)), .q (.ld false 1 (.t 11))⟩,
 ⟨(some 13), (some (10, false)), .q (.len (.t 12))⟩,
 ⟨(some 14), (some (10, false)), .q (.bin .gtr (.t 13) (.c (.int .i64 8)))⟩,
 ⟨(some 15), none, .q (.pick (.t 10) (.c (.bool true)) (.t 14))⟩])
 (.cond (.t 15)
 (.seq (.reg [⟨(some 2), none, .q (.mv (.c (.bool false)))⟩])
 .ret)
 .skip))
 (.seq (.reg [⟨(some 3), none, .q (.mv (.c (.int .i64 1)))⟩])
 (.seq (.seq (.reg [⟨(some 16), none, .q (.fad 0 (.t 1))⟩,
 ⟨(some 17), none, .q (.ld false 1 (.t 16))⟩,
 ⟨(some 18), none, .q (.len (.t 17))⟩,
 ⟨(some 19), none, .q (.mv (.c (.int .i64 0)))⟩])
 (.block 0 (.loop [3, 17, 18, 19] (.seq (.reg [⟨(some 20), none, .q (.bin .lss (.t 19) (.t 18))⟩])
 (.seq (.cond (.t 20)
 .skip
 (.exit 0))
 (.seq (.block 1 (.seq (.reg [⟨(some 21), none, .q (.ixs 1 (.t 17) (.t 19))⟩,
 ⟨(some 22), none, .q (.ld false 1 (.t 21))⟩,
 ⟨(some 5), none, .q (.mv (.t 22))⟩])
 (.seq (.seq (.reg [⟨(some 23), none, .q (.mv (.t 5))⟩,
 ⟨(some 24), none, .q (.bin .lss (.t 23) (.c (.int .i64 2)))⟩,
 ⟨(some 25), none, .q (.mv (.t 24))⟩,
 ⟨(some 26), (some (25, false)), .q (.mv (.t 5))⟩,
 ⟨(some 27), (some (25, false)), .q (.bin .gtr (.t 26) (.c (.int .i64 4)))⟩,
 ⟨(some 28), none, .q (.pick (.t 25) (.c (.bool true)) (.t 27))⟩])
 (.cond (.t 28)
 (.seq (.reg [⟨(some 2), none, .q (.mv (.c (.bool false)))⟩])
 .ret)
 .skip))
 (.reg [⟨(some 29), none, .q (.mv (.t 3))⟩,
 ⟨(some 30), none, .q (.mv (.t 5))⟩,
 ⟨(some 31), none, .q (.bin .mul (.t 29) (.t 30))⟩,
 ⟨(some 3), none, .q (.mv (.t 31))⟩]))))
 (.reg [⟨(some 32), none, .q (.bin .add (.t 19) (.c (.int .i64 1)))⟩,
 ⟨(some 19), none, .q (.mv (.t 32))⟩])))))))
 (.seq (.reg [⟨(some 33), none, .q (.mv (.t 3))⟩,
 ⟨(some 34), none, .q (.bin .leq (.t 33) (.c (.int .i64 1024)))⟩,
 ⟨(some 2), none, .q (.mv (.t 34))⟩])
 .ret)))))⟩
theorem l_impl_IsSpace : lowF PA f_impl_IsSpace 1 [.k [3, 17, 18, 19]] = some c_impl_IsSpace := by kernel_rfl
abbrev f_impl_isSlip : FuncId := 53
def c_impl_isSlip : AF := ⟨2, 33, [.t 4],
 (.seq (.reg [⟨(some 2), none, .m (.box (.t 0))⟩,
 ⟨(some 4), none, .q (.mv (.c (.bool false)))⟩])
 (.seq (.seq (.reg [⟨(some 7), none, .q (.mv (.t 1))⟩,
 ⟨(some 8), none, .q (.len (.t 7))⟩,
 ⟨(some 9), none, .q (.fad 0 (.t 2))⟩,
 ⟨(some 10), none, .q (.ld false 1 (.t 9))⟩,
 ⟨(some 11), none, .q (.len (.t 10))⟩,
 ⟨(some 12), none, .q (.bin .neq (.t 8) (.t 11))⟩])
 (.cond (.t 12)
 (.seq (.reg [⟨(some 4), none, .q (.mv (.c (.bool false)))⟩])
 .ret)
 .skip))
 (.seq (.seq (.reg [⟨(some 13), none, .q (.mv (.t 1))⟩,
 ⟨(some 14), none, .q (.len (.t 13))⟩,
 ⟨(some 15), none, .q (.mv (.c (.int .i64 0)))⟩])
 (.block 0 (.loop [2, 13, 14, 15] (.seq (.reg [⟨(some 16), none, .q (.bin .lss (.t 15) (.t 14))⟩])
 (.seq (.cond (.t 16)
 .skip
 (.exit 0))
 (.seq (.block 1 (.seq (.reg [⟨(some 17), none, .q (.mv (.t 15))⟩,
 ⟨(some 18), none, .q (.ixs 1 (.t 13) (.t 15))⟩,
 ⟨(some 19), none, .q (.ld false 1 (.t 18))⟩,
 ⟨(some 5), none, .q (.mv (.t 17))⟩,
 ⟨(some 6), none, .q (.mv (.t 19))⟩])
 (.seq (.reg [⟨(some 20), none, .q (.mv (.t 6))⟩,
 ⟨(some 21), none, .q (.bin .lss (.t 20) (.c (.int .i64 1)))⟩,
 ⟨(some 22), none, .q (.mv (.t 21))⟩,
 ⟨(some 23), (some (22, false)), .q (.mv (.t 6))⟩,
 ⟨(some 24), (some (22, false)), .q (.fad 0 (.t 2))⟩,
 ⟨(some 25), (some (22, false)), .q (.ld false 1 (.t 24))⟩,
 ⟨(some 26), (some (22, false)), .q (.mv (.t 5))⟩,
 ⟨(some 27), (some (22, false)), .q (.ixs 1 (.t 25) (.t 26))⟩,
 ⟨(some 28), (some (22, false)), .q (.ld false 1 (.t 27))⟩,
 ⟨(some 29), (some (22, false)), .q (.bin .shl (.c (.int .i64 1)) (.t 28))⟩,
 ⟨(some 30), (some (22, false)), .q (.bin .geq (.t 23) (.t 29))⟩,
 ⟨(some 31), none, .q (.pick (.t 22) (.c (.bool true)) (.t 30))⟩])
 (.cond (.t 31)
 (.seq (.reg [⟨(some 4), none, .q (.mv (.c (.bool false)))⟩])
 .ret)
 .skip))))
 (.reg [⟨(some 32), none, .q (.bin .add (.t 15) (.c (.int .i64 1)))⟩,
 ⟨(some 15), none, .q (.mv (.t 32))⟩])))))))
 (.seq (.reg [⟨(some 4), none, .q (.mv (.c (.bool true)))⟩])
 .ret))))⟩
theorem l_impl_isSlip : lowF PA f_impl_isSlip 2 [.k [2, 13, 14, 15]] = some c_impl_isSlip := by kernel_rfl
abbrev f_impl_places : FuncId := 54
def c_impl_places : AF := ⟨1, 6, [.t 2],
 (.seq (.reg [⟨(some 1), none, .m (.box (.t 0))⟩,
 ⟨(some 2), none, .q (.mv (.c (.int .i64 0)))⟩])
 (.seq (.reg [⟨(some 3), none, .q (.fad 0 (.t 1))⟩,
 ⟨(some 4), none, .q (.ld false 1 (.t 3))⟩,
 ⟨(some 5), none, .q (.len (.t 4))⟩,
 ⟨(some 2), none, .q (.mv (.t 5))⟩])
 .ret))⟩
theorem l_impl_places : lowF PA f_impl_places 1 [] = some c_impl_places := by kernel_rfl
abbrev f_spec_l01N : FuncId := 55
def c_spec_l01N : AF := ⟨1, 20, [.t 2],
 (.seq (.reg [⟨(some 1), none, .m (.box (.t 0))⟩,
 ⟨(some 2), none, .q (.mv (.c (.int .i64 0)))⟩])
 (.seq (.reg [⟨(some 3), none, .q (.mv (.c (.int .i64 1)))⟩])
 (.seq (.seq (.reg [⟨(some 4), none, .q (.mv (.c (.int .i64 0)))⟩])
 (.block 0 (.loop [1, 3, 4] (.seq (.seq (.reg [⟨(some 5), none, .q (.mv (.t 4))⟩,
 ⟨(some 6), none, .q (.fad 0 (.t 1))⟩,
 ⟨(some 7), none, .q (.ld false 1 (.t 6))⟩,
 ⟨(some 8), none, .q (.len (.t 7))⟩,
 ⟨(some 9), none, .q (.bin .lss (.t 5) (.t 8))⟩])
 (.cond (.t 9)
 .skip
 (.exit 0)))
 (.seq (.block 1 (.reg [⟨(some 12), none, .q (.mv (.t 3))⟩,
 ⟨(some 13), none, .q (.fad 0 (.t 1))⟩,
 ⟨(some 14), none, .q (.ld false 1 (.t 13))⟩,
 ⟨(some 15), none, .q (.mv (.t 4))⟩,
 ⟨(some 16), none, .q (.ixs 1 (.t 14) (.t 15))⟩,
 ⟨(some 17), none, .q (.ld false 1 (.t 16))⟩,
 ⟨(some 18), none, .q (.bin .mul (.t 12) (.t 17))⟩,
 ⟨(some 3), none, .q (.mv (.t 18))⟩]))
 (.reg [⟨(some 10), none, .q (.mv (.t 4))⟩,
 ⟨(some 11), none, .q (.bin .add (.t 10) (.c (.int .i64 1)))⟩,
 ⟨(some 4), none, .q (.mv (.t 11))⟩]))))))
 (.seq (.reg [⟨(some 19), none, .q (.mv (.t 3))⟩,
 ⟨(some 2), none, .q (.mv (.t 19))⟩])
 .ret))))⟩
theorem l_spec_l01N : lowF PA f_spec_l01N 1 [.k [1, 3, 4]] = some c_spec_l01N := by kernel_rfl
end Go.Proofs.Ytccfejnckmokkaa.Va
