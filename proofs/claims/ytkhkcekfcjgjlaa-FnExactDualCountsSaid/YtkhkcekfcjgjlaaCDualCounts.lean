/- The code of the functions that FnExactDualCounts reaches, laid out for a walk: each is what the lowering makes of the program's own text. Condition: none. -/
import Derived.Test.YtkhkcekfcjgjlaaVa1
import Derived.Test.YtkhkcekfcjgjlaaProg
import Derived.KernelRfl
set_option linter.all false
set_option linter.unusedSimpArgs false
set_option linter.unusedVariables false
namespace Go.Proofs.Ytkhkcekfcjgjlaa.Va
open Go
noncomputable abbrev PA : Program := Go.Proofs.Try.prog
abbrev f_laws_FnExactDualCounts : FuncId := 4
def c_laws_FnExactDualCounts : AF := ⟨2, 117, [.t 4],
  (.seq (.reg [⟨(some 2), none, .m (.box (.t 0))⟩,
     ⟨(some 4), none, .q (.mv (.c (.bool false)))⟩])
  (.seq (.seq (.reg [⟨(some 17), none, .q (.mv (.t 1))⟩,
      ⟨(some 18), none, .q (.len (.t 17))⟩,
      ⟨(some 19), none, .q (.bin .gtr (.t 18) (.c (.int .i64 1048576)))⟩])
   (.cond (.t 19)
    (.seq (.reg [⟨(some 4), none, .q (.mv (.c (.bool true)))⟩])
    .ret)
    .skip))
  (.seq (.reg [⟨(some 5), none, .q (.mv (.c (.int .i64 1048576)))⟩])
  (.seq (.reg [⟨(some 20), none, .q (.ld true 1 (.t 2))⟩,
     ⟨(some 21), none, .q (.mv (.t 5))⟩,
     ⟨(some 22), none, .c (.call 7 [(.t 20), (.t 21)])⟩,
     ⟨(some 5), none, .q (.mv (.t 22))⟩])
  (.seq (.seq (.reg [⟨(some 23), none, .q (.mv (.t 5))⟩,
      ⟨(some 24), none, .q (.bin .lss (.t 23) (.c (.int .i64 0)))⟩])
   (.cond (.t 24)
    (.seq (.reg [⟨(some 4), none, .q (.mv (.c (.bool true)))⟩])
    .ret)
    .skip))
  (.seq (.reg [⟨(some 26), none, .q (.ld true 1 (.t 2))⟩,
     ⟨(some 27), none, .c (.call 9 [(.t 26)])⟩,
     ⟨(some 28), none, .q (.mv (.t 1))⟩,
     ⟨(some 29), none, .c (.call 11 [(.t 28)])⟩,
     ⟨(some 30), none, .c (.call 20 [(.t 27), (.t 29)])⟩,
     ⟨(some 25), none, .q (.mv (.t 30))⟩,
     ⟨(some 31), none, .q (.ext (.t 25) 0)⟩,
     ⟨(some 32), none, .q (.ext (.t 25) 1)⟩,
     ⟨(some 6), none, .q (.mv (.t 31))⟩,
     ⟨(some 7), none, .q (.mv (.t 32))⟩])
  (.seq (.reg [⟨(some 33), none, .q (.ld true 1 (.t 2))⟩,
     ⟨(some 34), none, .c (.call 9 [(.t 33)])⟩,
     ⟨(some 8), none, .m (.alloc [(.v (.slice none 0 0))])⟩,
     ⟨none, none, .m (.st true 1 (.t 8) (.t 34))⟩])
  (.seq (.reg [⟨(some 35), none, .q (.mv (.t 1))⟩,
     ⟨(some 36), none, .c (.call 11 [(.t 35)])⟩,
     ⟨(some 9), none, .q (.mv (.t 36))⟩])
  (.seq (.reg [⟨(some 38), none, .q (.ld true 1 (.t 8))⟩,
     ⟨(some 39), none, .q (.mv (.t 9))⟩,
     ⟨(some 40), none, .c (.call 21 [(.t 38), (.t 39)])⟩,
     ⟨(some 37), none, .q (.mv (.t 40))⟩,
     ⟨(some 41), none, .q (.ext (.t 37) 0)⟩,
     ⟨(some 42), none, .q (.ext (.t 37) 1)⟩,
     ⟨(some 10), none, .q (.mv (.t 41))⟩,
     ⟨(some 11), none, .q (.mv (.t 42))⟩])
  (.seq (.seq (.reg [⟨(some 43), none, .q (.mv (.t 10))⟩,
      ⟨(some 44), none, .q (.mv (.t 6))⟩,
      ⟨(some 45), none, .c (.call 13 [(.t 43), (.t 44)])⟩,
      ⟨(some 46), none, .q (.un .not (.t 45))⟩,
      ⟨(some 47), none, .q (.mv (.t 46))⟩,
      ⟨(some 48), (some (47, false)), .q (.mv (.t 11))⟩,
      ⟨(some 49), (some (47, false)), .q (.mv (.t 7))⟩,
      ⟨(some 50), (some (47, false)), .q (.bin .neq (.t 48) (.t 49))⟩,
      ⟨(some 51), none, .q (.pick (.t 47) (.c (.bool true)) (.t 50))⟩])
   (.cond (.t 51)
    (.seq (.reg [⟨(some 4), none, .q (.mv (.c (.bool false)))⟩])
    .ret)
    .skip))
  (.seq (.seq (.sch (.take 0 ⟨(some 52), none, .q (.ld true 1 (.t 8))⟩ (.take 1 ⟨(some 53), none, .q (.ld true 1 (.t 2))⟩ (.one ⟨(some 54), none, .c (.call 9 [(.t 53)])⟩ [1] (.one ⟨(some 55), none, .c (.call 14 [(.t 52), (.t 54)])⟩ [0] (.take 4 ⟨(some 56), none, .q (.un .not (.t 55))⟩ .done))))))
   (.cond (.t 56)
    (.seq (.reg [⟨(some 4), none, .q (.mv (.c (.bool false)))⟩])
    .ret)
    .skip))
  (.seq (.seq (.reg [⟨(some 57), none, .q (.mv (.t 9))⟩,
      ⟨(some 58), none, .q (.mv (.t 1))⟩,
      ⟨(some 59), none, .c (.call 11 [(.t 58)])⟩,
      ⟨(some 60), none, .c (.call 13 [(.t 57), (.t 59)])⟩,
      ⟨(some 61), none, .q (.un .not (.t 60))⟩])
   (.cond (.t 61)
    (.seq (.reg [⟨(some 4), none, .q (.mv (.c (.bool false)))⟩])
    .ret)
    .skip))
  (.seq (.reg [⟨(some 12), none, .q (.mv (.c (.int .i64 1)))⟩])
  (.seq (.reg [⟨(some 62), none, .q (.ld true 1 (.t 8))⟩,
     ⟨(some 63), none, .q (.mv (.t 12))⟩,
     ⟨(some 64), none, .c (.call 16 [(.t 62), (.t 63)])⟩,
     ⟨(some 12), none, .q (.mv (.t 64))⟩])
  (.seq (.reg [⟨(some 65), none, .q (.mv (.t 9))⟩,
     ⟨(some 66), none, .q (.mv (.t 12))⟩,
     ⟨(some 67), none, .c (.call 18 [(.t 65), (.t 66)])⟩,
     ⟨(some 12), none, .q (.mv (.t 67))⟩])
  (.seq (.seq (.reg [⟨(some 68), none, .q (.mv (.t 12))⟩,
      ⟨(some 69), none, .q (.bin .lss (.t 68) (.c (.int .i64 0)))⟩,
      ⟨(some 70), none, .q (.mv (.t 69))⟩,
      ⟨(some 71), (some (70, false)), .q (.mv (.t 10))⟩,
      ⟨(some 72), (some (70, false)), .q (.mv (.t 6))⟩,
      ⟨(some 73), (some (70, false)), .c (.call 13 [(.t 71), (.t 72)])⟩,
      ⟨(some 74), (some (70, false)), .q (.un .not (.t 73))⟩,
      ⟨(some 75), none, .q (.pick (.t 70) (.c (.bool true)) (.t 74))⟩,
      ⟨(some 76), none, .q (.mv (.t 75))⟩,
      ⟨(some 77), (some (76, false)), .q (.mv (.t 11))⟩,
      ⟨(some 78), (some (76, false)), .q (.mv (.t 7))⟩,
      ⟨(some 79), (some (76, false)), .q (.bin .neq (.t 77) (.t 78))⟩,
      ⟨(some 80), none, .q (.pick (.t 76) (.c (.bool true)) (.t 79))⟩])
   (.cond (.t 80)
    (.seq (.reg [⟨(some 4), none, .q (.mv (.c (.bool false)))⟩])
    .ret)
    .skip))
  (.seq (.reg [⟨(some 13), none, .q (.mv (.c (.int .i64 1)))⟩])
  (.seq (.reg [⟨(some 81), none, .q (.mv (.t 10))⟩,
     ⟨(some 82), none, .q (.mv (.t 13))⟩,
     ⟨(some 83), none, .c (.call 18 [(.t 81), (.t 82)])⟩,
     ⟨(some 13), none, .q (.mv (.t 83))⟩])
  (.seq (.reg [⟨(some 14), none, .q (.mv (.c (.int .i64 1)))⟩])
  (.seq (.reg [⟨(some 84), none, .q (.mv (.t 10))⟩,
     ⟨(some 85), none, .q (.mv (.t 14))⟩,
     ⟨(some 86), none, .c (.call 19 [(.t 84), (.t 85)])⟩,
     ⟨(some 14), none, .q (.mv (.t 86))⟩])
  (.seq (.seq (.reg [⟨(some 87), none, .q (.mv (.t 14))⟩,
      ⟨(some 88), none, .q (.bin .lss (.t 87) (.c (.int .i64 0)))⟩])
   (.cond (.t 88)
    (.seq (.reg [⟨(some 4), none, .q (.mv (.c (.bool false)))⟩])
    .ret)
    .skip))
  (.seq (.seq (.reg [⟨(some 89), none, .q (.mv (.t 14))⟩,
      ⟨(some 90), none, .q (.mv (.t 13))⟩,
      ⟨(some 91), none, .q (.bin .neq (.t 89) (.t 90))⟩])
   (.cond (.t 91)
    (.seq (.reg [⟨(some 4), none, .q (.mv (.c (.bool false)))⟩])
    .ret)
    .skip))
  (.seq (.reg [⟨(some 93), none, .q (.ld true 1 (.t 2))⟩,
     ⟨(some 94), none, .c (.call 9 [(.t 93)])⟩,
     ⟨(some 95), none, .q (.mv (.t 1))⟩,
     ⟨(some 96), none, .c (.call 11 [(.t 95)])⟩,
     ⟨(some 97), none, .c (.call 21 [(.t 94), (.t 96)])⟩,
     ⟨(some 92), none, .q (.mv (.t 97))⟩,
     ⟨(some 98), none, .q (.ext (.t 92) 0)⟩,
     ⟨(some 99), none, .q (.ext (.t 92) 1)⟩,
     ⟨(some 15), none, .q (.mv (.t 98))⟩,
     ⟨(some 16), none, .q (.mv (.t 99))⟩])
  (.seq (.seq (.reg [⟨(some 100), none, .q (.mv (.t 15))⟩,
      ⟨(some 101), none, .q (.mv (.t 6))⟩,
      ⟨(some 102), none, .c (.call 13 [(.t 100), (.t 101)])⟩,
      ⟨(some 103), none, .q (.un .not (.t 102))⟩,
      ⟨(some 104), none, .q (.mv (.t 103))⟩,
      ⟨(some 105), (some (104, false)), .q (.mv (.t 16))⟩,
      ⟨(some 106), (some (104, false)), .q (.mv (.t 7))⟩,
      ⟨(some 107), (some (104, false)), .q (.bin .neq (.t 105) (.t 106))⟩,
      ⟨(some 108), none, .q (.pick (.t 104) (.c (.bool true)) (.t 107))⟩])
   (.cond (.t 108)
    (.seq (.reg [⟨(some 4), none, .q (.mv (.c (.bool false)))⟩])
    .ret)
    .skip))
  (.seq (.reg [⟨(some 14), none, .q (.mv (.c (.int .i64 1)))⟩])
  (.seq (.reg [⟨(some 109), none, .q (.mv (.t 10))⟩,
     ⟨(some 110), none, .q (.mv (.t 14))⟩,
     ⟨(some 111), none, .c (.call 19 [(.t 109), (.t 110)])⟩,
     ⟨(some 14), none, .q (.mv (.t 111))⟩])
  (.seq (.seq (.reg [⟨(some 112), none, .q (.mv (.t 14))⟩,
      ⟨(some 113), none, .q (.bin .lss (.t 112) (.c (.int .i64 0)))⟩])
   (.cond (.t 113)
    (.seq (.reg [⟨(some 4), none, .q (.mv (.c (.bool false)))⟩])
    .ret)
    .skip))
  (.seq (.seq (.reg [⟨(some 114), none, .q (.mv (.t 14))⟩,
      ⟨(some 115), none, .q (.mv (.t 13))⟩,
      ⟨(some 116), none, .q (.bin .neq (.t 114) (.t 115))⟩])
   (.cond (.t 116)
    (.seq (.reg [⟨(some 4), none, .q (.mv (.c (.bool false)))⟩])
    .ret)
    .skip))
  (.seq (.reg [⟨(some 4), none, .q (.mv (.c (.bool true)))⟩])
  .ret)))))))))))))))))))))))))))))⟩
theorem l_laws_FnExactDualCounts : lowF PA f_laws_FnExactDualCounts 2 [.s (.take 0 (.take 1 (.one 2 (.one 3 (.take 4 .done)))))] = some c_laws_FnExactDualCounts := by kernel_rfl
abbrev f_laws_szSpace : FuncId := 7
def c_laws_szSpace : AF := ⟨2, 12, [.t 4],
  (.seq (.reg [⟨(some 2), none, .m (.box (.t 0))⟩,
     ⟨(some 4), none, .q (.mv (.c (.int .i64 0)))⟩])
  (.seq (.reg [⟨(some 5), none, .q (.fad 0 (.t 2))⟩,
     ⟨(some 6), none, .q (.ld false 1 (.t 5))⟩,
     ⟨(some 7), none, .q (.mv (.t 1))⟩,
     ⟨(some 8), none, .c (.call 26 [(.t 6), (.t 7)])⟩,
     ⟨(some 1), none, .q (.mv (.t 8))⟩])
  (.seq (.seq (.reg [⟨(some 9), none, .q (.mv (.t 1))⟩,
      ⟨(some 10), none, .q (.bin .lss (.t 9) (.c (.int .i64 0)))⟩])
   (.cond (.t 10)
    (.seq (.reg [⟨(some 4), none, .q (.mv (.c (.int .i64 (-1))))⟩])
    .ret)
    .skip))
  (.seq (.reg [⟨(some 11), none, .q (.mv (.t 1))⟩,
     ⟨(some 4), none, .q (.mv (.t 11))⟩])
  .ret))))⟩
theorem l_laws_szSpace : lowF PA f_laws_szSpace 2 [] = some c_laws_szSpace := by kernel_rfl
abbrev f_laws_toSpace : FuncId := 9
def c_laws_toSpace : AF := ⟨1, 9, [.c 2 true 1],
  (.seq (.reg [⟨(some 1), none, .m (.box (.t 0))⟩,
     ⟨(some 2), none, .m (.alloc [(.v (.slice none 0 0))])⟩])
  (.seq (.reg [⟨(some 3), none, .m (.alloc [(.v (.slice none 0 0))])⟩])
  (.seq (.reg [⟨(some 4), none, .q (.fad 0 (.t 1))⟩,
     ⟨(some 5), none, .q (.ld false 1 (.t 4))⟩,
     ⟨(some 6), none, .c (.call 11 [(.t 5)])⟩,
     ⟨(some 7), none, .q (.fad 0 (.t 3))⟩,
     ⟨none, none, .m (.st false 1 (.t 7) (.t 6))⟩])
  (.seq (.reg [⟨(some 8), none, .q (.ld true 1 (.t 3))⟩,
     ⟨none, none, .m (.st true 1 (.t 2) (.t 8))⟩])
  .ret))))⟩
theorem l_laws_toSpace : lowF PA f_laws_toSpace 1 [] = some c_laws_toSpace := by kernel_rfl
abbrev f_laws_toInt64S : FuncId := 11
def c_laws_toInt64S : AF := ⟨1, 22, [.t 2],
  (.seq (.reg [⟨(some 2), none, .q (.mv (.c (.slice none 0 0)))⟩])
  (.seq (.reg [⟨(some 5), none, .q (.mv (.t 0))⟩,
     ⟨(some 6), none, .q (.len (.t 5))⟩,
     ⟨(some 7), none, .m (.mks 1 (.v (.int .i64 0)) 8 (.t 6) (.t 6))⟩,
     ⟨(some 3), none, .q (.mv (.t 7))⟩])
  (.seq (.seq (.reg [⟨(some 4), none, .q (.mv (.c (.int .i64 0)))⟩])
   (.block 0 (.loop [0, 3, 4] (.seq (.seq (.reg [⟨(some 8), none, .q (.mv (.t 4))⟩,
         ⟨(some 9), none, .q (.mv (.t 0))⟩,
         ⟨(some 10), none, .q (.len (.t 9))⟩,
         ⟨(some 11), none, .q (.bin .lss (.t 8) (.t 10))⟩])
      (.cond (.t 11)
       .skip
       (.exit 0)))
     (.seq (.block 1 (.reg [⟨(some 14), none, .q (.mv (.t 3))⟩,
         ⟨(some 15), none, .q (.mv (.t 4))⟩,
         ⟨(some 16), none, .q (.mv (.t 0))⟩,
         ⟨(some 17), none, .q (.mv (.t 4))⟩,
         ⟨(some 18), none, .q (.ixs 1 (.t 16) (.t 17))⟩,
         ⟨(some 19), none, .q (.ld false 1 (.t 18))⟩,
         ⟨(some 20), none, .q (.ixs 1 (.t 14) (.t 15))⟩,
         ⟨none, none, .m (.st false 1 (.t 20) (.t 19))⟩]))
     (.reg [⟨(some 12), none, .q (.mv (.t 4))⟩,
       ⟨(some 13), none, .q (.bin .add (.t 12) (.c (.int .i64 1)))⟩,
       ⟨(some 4), none, .q (.mv (.t 13))⟩]))))))
  (.seq (.reg [⟨(some 21), none, .q (.mv (.t 3))⟩,
     ⟨(some 2), none, .q (.mv (.t 21))⟩])
  .ret))))⟩
theorem l_laws_toInt64S : lowF PA f_laws_toInt64S 1 [.k [0, 3, 4]] = some c_laws_toInt64S := by kernel_rfl
abbrev f_laws_eqInt64S : FuncId := 13
def c_laws_eqInt64S : AF := ⟨2, 26, [.t 4],
  (.seq (.reg [⟨(some 4), none, .q (.mv (.c (.bool false)))⟩])
  (.seq (.seq (.reg [⟨(some 6), none, .q (.mv (.t 0))⟩,
      ⟨(some 7), none, .q (.len (.t 6))⟩,
      ⟨(some 8), none, .q (.mv (.t 1))⟩,
      ⟨(some 9), none, .q (.len (.t 8))⟩,
      ⟨(some 10), none, .q (.bin .neq (.t 7) (.t 9))⟩])
   (.cond (.t 10)
    (.seq (.reg [⟨(some 4), none, .q (.mv (.c (.bool false)))⟩])
    .ret)
    .skip))
  (.seq (.seq (.reg [⟨(some 5), none, .q (.mv (.c (.int .i64 0)))⟩])
   (.block 0 (.loop [0, 1, 5] (.seq (.seq (.reg [⟨(some 11), none, .q (.mv (.t 5))⟩,
         ⟨(some 12), none, .q (.mv (.t 0))⟩,
         ⟨(some 13), none, .q (.len (.t 12))⟩,
         ⟨(some 14), none, .q (.bin .lss (.t 11) (.t 13))⟩])
      (.cond (.t 14)
       .skip
       (.exit 0)))
     (.seq (.block 1 (.seq (.sch (.take 0 ⟨(some 17), none, .q (.mv (.t 0))⟩ (.take 1 ⟨(some 18), none, .q (.mv (.t 5))⟩ (.take 2 ⟨(some 19), none, .q (.ixs 1 (.t 17) (.t 18))⟩ (.take 3 ⟨(some 20), none, .q (.ld false 1 (.t 19))⟩ (.take 4 ⟨(some 21), none, .q (.mv (.t 1))⟩ (.take 5 ⟨(some 22), none, .q (.mv (.t 5))⟩ (.take 6 ⟨(some 23), none, .q (.ixs 1 (.t 21) (.t 22))⟩ (.take 7 ⟨(some 24), none, .q (.ld false 1 (.t 23))⟩ (.take 8 ⟨(some 25), none, .q (.bin .neq (.t 20) (.t 24))⟩ .done))))))))))
       (.cond (.t 25)
        (.seq (.reg [⟨(some 4), none, .q (.mv (.c (.bool false)))⟩])
        .ret)
        .skip)))
     (.reg [⟨(some 15), none, .q (.mv (.t 5))⟩,
       ⟨(some 16), none, .q (.bin .add (.t 15) (.c (.int .i64 1)))⟩,
       ⟨(some 5), none, .q (.mv (.t 16))⟩]))))))
  (.seq (.reg [⟨(some 4), none, .q (.mv (.c (.bool true)))⟩])
  .ret))))⟩
theorem l_laws_eqInt64S : lowF PA f_laws_eqInt64S 2 [.k [0, 1, 5], .s (.take 0 (.take 1 (.take 2 (.take 3 (.take 4 (.take 5 (.take 6 (.take 7 (.take 8 .done)))))))))] = some c_laws_eqInt64S := by kernel_rfl
abbrev f_laws_eqSpace : FuncId := 14
def c_laws_eqSpace : AF := ⟨2, 11, [.t 4],
  (.seq (.reg [⟨(some 2), none, .m (.box (.t 0))⟩,
     ⟨(some 3), none, .m (.box (.t 1))⟩,
     ⟨(some 4), none, .q (.mv (.c (.bool false)))⟩])
  (.seq (.seq (.reg [⟨(some 5), none, .q (.fad 0 (.t 2))⟩,
      ⟨(some 6), none, .q (.ld false 1 (.t 5))⟩,
      ⟨(some 7), none, .q (.fad 0 (.t 3))⟩,
      ⟨(some 8), none, .q (.ld false 1 (.t 7))⟩,
      ⟨(some 9), none, .c (.call 13 [(.t 6), (.t 8)])⟩,
      ⟨(some 10), none, .q (.un .not (.t 9))⟩])
   (.cond (.t 10)
    (.seq (.reg [⟨(some 4), none, .q (.mv (.c (.bool false)))⟩])
    .ret)
    .skip))
  (.seq (.reg [⟨(some 4), none, .q (.mv (.c (.bool true)))⟩])
  .ret)))⟩
theorem l_laws_eqSpace : lowF PA f_laws_eqSpace 2 [] = some c_laws_eqSpace := by kernel_rfl
abbrev f_laws_markSpace : FuncId := 16
def c_laws_markSpace : AF := ⟨2, 10, [.t 4],
  (.seq (.reg [⟨(some 2), none, .m (.box (.t 0))⟩,
     ⟨(some 4), none, .q (.mv (.c (.int .i64 0)))⟩])
  (.seq (.reg [⟨(some 5), none, .q (.fad 0 (.t 2))⟩,
     ⟨(some 6), none, .q (.ld false 1 (.t 5))⟩,
     ⟨(some 7), none, .q (.mv (.t 1))⟩,
     ⟨(some 8), none, .c (.call 18 [(.t 6), (.t 7)])⟩,
     ⟨(some 1), none, .q (.mv (.t 8))⟩])
  (.seq (.reg [⟨(some 9), none, .q (.mv (.t 1))⟩,
     ⟨(some 4), none, .q (.mv (.t 9))⟩])
  .ret)))⟩
theorem l_laws_markSpace : lowF PA f_laws_markSpace 2 [] = some c_laws_markSpace := by kernel_rfl
abbrev f_laws_markInt64S : FuncId := 18
def c_laws_markInt64S : AF := ⟨2, 19, [.t 4],
  (.seq (.reg [⟨(some 4), none, .q (.mv (.c (.int .i64 0)))⟩])
  (.seq (.seq (.reg [⟨(some 5), none, .q (.mv (.c (.int .i64 0)))⟩])
   (.block 0 (.loop [0, 1, 5, 19] (.seq (.seq (.reg [⟨(some 6), none, .q (.mv (.t 5))⟩,
         ⟨(some 7), none, .q (.mv (.t 0))⟩,
         ⟨(some 8), none, .q (.len (.t 7))⟩,
         ⟨(some 9), none, .q (.bin .lss (.t 6) (.t 8))⟩])
      (.cond (.t 9)
       .skip
       (.exit 0)))
     (.seq (.block 1 (.seq (.reg [⟨(some 12), none, .q (.mv (.t 0))⟩,
          ⟨(some 13), none, .q (.mv (.t 5))⟩,
          ⟨(some 14), none, .q (.mv (.t 1))⟩,
          ⟨(some 15), none, .q (.ixs 1 (.t 12) (.t 13))⟩,
          ⟨none, none, .m (.st false 1 (.t 15) (.t 14))⟩])
       (.reg [⟨(some 16), none, .q (.mv (.t 1))⟩,
         ⟨(some 17), none, .q (.bin .add (.t 16) (.c (.int .i64 1)))⟩,
         ⟨(some 1), none, .q (.mv (.t 17))⟩])))
     (.reg [⟨(some 10), none, .q (.mv (.t 5))⟩,
       ⟨(some 11), none, .q (.bin .add (.t 10) (.c (.int .i64 1)))⟩,
       ⟨(some 5), none, .q (.mv (.t 11))⟩]))))))
  (.seq (.reg [⟨(some 18), none, .q (.mv (.t 1))⟩,
     ⟨(some 4), none, .q (.mv (.t 18))⟩])
  .ret)))⟩
theorem l_laws_markInt64S : lowF PA f_laws_markInt64S 2 [.k [0, 1, 5, 19]] = some c_laws_markInt64S := by kernel_rfl
abbrev f_laws_heldInt64S : FuncId := 19
def c_laws_heldInt64S : AF := ⟨2, 21, [.t 4],
  (.seq (.reg [⟨(some 4), none, .q (.mv (.c (.int .i64 0)))⟩])
  (.seq (.seq (.reg [⟨(some 5), none, .q (.mv (.c (.int .i64 0)))⟩])
   (.block 0 (.loop [0, 1, 5] (.seq (.seq (.reg [⟨(some 6), none, .q (.mv (.t 5))⟩,
         ⟨(some 7), none, .q (.mv (.t 0))⟩,
         ⟨(some 8), none, .q (.len (.t 7))⟩,
         ⟨(some 9), none, .q (.bin .lss (.t 6) (.t 8))⟩])
      (.cond (.t 9)
       .skip
       (.exit 0)))
     (.seq (.block 1 (.seq (.seq (.reg [⟨(some 12), none, .q (.mv (.t 0))⟩,
           ⟨(some 13), none, .q (.mv (.t 5))⟩,
           ⟨(some 14), none, .q (.ixs 1 (.t 12) (.t 13))⟩,
           ⟨(some 15), none, .q (.ld false 1 (.t 14))⟩,
           ⟨(some 16), none, .q (.mv (.t 1))⟩,
           ⟨(some 17), none, .q (.bin .neq (.t 15) (.t 16))⟩])
        (.cond (.t 17)
         (.seq (.reg [⟨(some 4), none, .q (.mv (.c (.int .i64 (-1))))⟩])
         .ret)
         .skip))
       (.reg [⟨(some 18), none, .q (.mv (.t 1))⟩,
         ⟨(some 19), none, .q (.bin .add (.t 18) (.c (.int .i64 1)))⟩,
         ⟨(some 1), none, .q (.mv (.t 19))⟩])))
     (.reg [⟨(some 10), none, .q (.mv (.t 5))⟩,
       ⟨(some 11), none, .q (.bin .add (.t 10) (.c (.int .i64 1)))⟩,
       ⟨(some 5), none, .q (.mv (.t 11))⟩]))))))
  (.seq (.reg [⟨(some 20), none, .q (.mv (.t 1))⟩,
     ⟨(some 4), none, .q (.mv (.t 20))⟩])
  .ret)))⟩
theorem l_laws_heldInt64S : lowF PA f_laws_heldInt64S 2 [.k [0, 1, 5]] = some c_laws_heldInt64S := by kernel_rfl
abbrev f_spec_DualCounts : FuncId := 20
def c_spec_DualCounts : AF := ⟨2, 115, [.t 4, .t 5],
  (.seq (.reg [⟨(some 2), none, .m (.box (.t 0))⟩,
     ⟨(some 4), none, .q (.mv (.c (.slice none 0 0)))⟩,
     ⟨(some 5), none, .q (.mv (.c (.int .i64 0)))⟩])
  (.seq (.seq (.reg [⟨(some 17), none, .q (.ld true 1 (.t 2))⟩,
      ⟨(some 18), none, .q (.mv (.t 1))⟩,
      ⟨(some 19), none, .c (.call 36 [(.t 17), (.t 18)])⟩,
      ⟨(some 6), none, .q (.mv (.t 19))⟩])
   (.seq (.reg [⟨(some 20), none, .q (.mv (.t 6))⟩,
      ⟨(some 21), none, .q (.bin .neq (.t 20) (.c (.int .i64 0)))⟩])
   (.cond (.t 21)
    (.seq (.reg [⟨(some 22), none, .q (.mv (.t 6))⟩,
       ⟨(some 4), none, .q (.mv (.c (.slice none 0 0)))⟩,
       ⟨(some 5), none, .q (.mv (.t 22))⟩])
    .ret)
    .skip)))
  (.seq (.sch (.take 0 ⟨(some 23), none, .q (.fad 0 (.t 2))⟩ (.take 1 ⟨(some 24), none, .q (.ld false 1 (.t 23))⟩ (.take 2 ⟨(some 25), none, .q (.len (.t 24))⟩ (.take 3 ⟨(some 26), none, .q (.ld true 1 (.t 2))⟩ (.take 4 ⟨(some 27), none, .q (.mv (.t 1))⟩ (.one ⟨(some 28), none, .c (.call 37 [(.t 26), (.t 27)])⟩ [3] (.take 6 ⟨(some 7), none, .q (.mv (.t 25))⟩ (.take 7 ⟨(some 8), none, .q (.mv (.t 28))⟩ .done)))))))))
  (.seq (.reg [⟨(some 29), none, .q (.mv (.t 7))⟩,
     ⟨(some 30), none, .q (.bin .add (.t 29) (.c (.int .i64 1)))⟩,
     ⟨(some 31), none, .m (.mks 1 (.v (.int .i64 0)) 8 (.t 30) (.t 30))⟩,
     ⟨(some 9), none, .q (.mv (.t 31))⟩])
  (.seq (.seq (.reg [⟨(some 10), none, .q (.mv (.c (.int .i64 0)))⟩])
   (.block 0 (.loop [1, 2, 7, 8, 9, 10] (.seq (.seq (.reg [⟨(some 32), none, .q (.mv (.t 10))⟩,
         ⟨(some 33), none, .q (.mv (.t 7))⟩,
         ⟨(some 34), none, .q (.bin .leq (.t 32) (.t 33))⟩])
      (.cond (.t 34)
       .skip
       (.exit 0)))
     (.seq (.block 1 (.seq (.reg [⟨(some 37), none, .q (.mv (.t 7))⟩,
          ⟨(some 38), none, .q (.bin .add (.t 37) (.c (.int .i64 1)))⟩,
          ⟨(some 39), none, .m (.mks 1 (.v (.int .i64 0)) 8 (.t 38) (.t 38))⟩,
          ⟨(some 11), none, .q (.mv (.t 39))⟩])
       (.seq (.reg [⟨(some 40), none, .q (.mv (.t 11))⟩,
          ⟨(some 41), none, .q (.mv (.t 8))⟩,
          ⟨(some 42), none, .q (.mv (.t 10))⟩,
          ⟨(some 43), none, .q (.ixs 1 (.t 41) (.t 42))⟩,
          ⟨(some 44), none, .q (.ld false 1 (.t 43))⟩,
          ⟨(some 45), none, .q (.ixs 1 (.t 40) (.c (.int .i64 0)))⟩,
          ⟨none, none, .m (.st false 1 (.t 45) (.t 44))⟩])
       (.seq (.seq (.reg [⟨(some 12), none, .q (.mv (.c (.int .i64 0)))⟩])
        (.block 2 (.loop [1, 2, 7, 8, 9, 10, 11, 12] (.seq (.seq (.reg [⟨(some 46), none, .q (.mv (.t 12))⟩,
              ⟨(some 47), none, .q (.mv (.t 7))⟩,
              ⟨(some 48), none, .q (.bin .lss (.t 46) (.t 47))⟩])
           (.cond (.t 48)
            .skip
            (.exit 2)))
          (.seq (.block 3 (.seq (.reg [⟨(some 51), none, .q (.fad 0 (.t 2))⟩,
               ⟨(some 52), none, .q (.ld false 1 (.t 51))⟩,
               ⟨(some 53), none, .q (.ixs 1 (.t 52) (.c (.int .i64 0)))⟩,
               ⟨(some 54), none, .q (.ld false 1 (.t 53))⟩,
               ⟨(some 55), none, .q (.bin .sub (.t 54) (.c (.int .i64 1)))⟩,
               ⟨(some 13), none, .q (.mv (.t 55))⟩])
            (.seq (.seq (.reg [⟨(some 56), none, .q (.mv (.t 12))⟩,
                ⟨(some 57), none, .q (.mv (.t 10))⟩,
                ⟨(some 58), none, .q (.bin .lss (.t 56) (.t 57))⟩])
             (.cond (.t 58)
              (.reg [⟨(some 13), none, .q (.mv (.c (.int .i64 (-1))))⟩])
              .skip))
            (.seq (.reg [⟨(some 59), none, .q (.mv (.t 12))⟩,
               ⟨(some 60), none, .q (.bin .add (.t 59) (.c (.int .i64 1)))⟩,
               ⟨(some 14), none, .q (.mv (.t 60))⟩])
            (.block 4 (.loop [1, 2, 7, 8, 9, 10, 11, 12, 13, 14] (.seq (.seq (.reg [⟨(some 61), none, .q (.mv (.t 14))⟩,
                  ⟨(some 62), none, .q (.bin .gtr (.t 61) (.c (.int .i64 0)))⟩])
               (.cond (.t 62)
                .skip
                (.exit 4)))
              (.seq (.block 5 (.sch (.take 0 ⟨(some 65), none, .q (.mv (.t 11))⟩ (.take 1 ⟨(some 66), none, .q (.mv (.t 14))⟩ (.take 2 ⟨(some 67), none, .q (.mv (.t 11))⟩ (.take 3 ⟨(some 68), none, .q (.mv (.t 14))⟩ (.take 4 ⟨(some 69), none, .q (.ixs 1 (.t 67) (.t 68))⟩ (.take 5 ⟨(some 70), none, .q (.ld false 1 (.t 69))⟩ (.take 6 ⟨(some 71), none, .q (.mv (.t 13))⟩ (.take 7 ⟨(some 72), none, .q (.mv (.t 11))⟩ (.take 8 ⟨(some 73), none, .q (.mv (.t 14))⟩ (.take 9 ⟨(some 74), none, .q (.bin .sub (.t 73) (.c (.int .i64 1)))⟩ (.take 10 ⟨(some 75), none, .q (.ixs 1 (.t 72) (.t 74))⟩ (.take 11 ⟨(some 76), none, .q (.ld false 1 (.t 75))⟩ (.take 12 ⟨(some 77), none, .q (.bin .mul (.t 71) (.t 76))⟩ (.take 13 ⟨(some 78), none, .q (.bin .add (.t 70) (.t 77))⟩ (.take 14 ⟨(some 79), none, .q (.ixs 1 (.t 65) (.t 66))⟩ (.one ⟨none, none, .m (.st false 1 (.t 79) (.t 78))⟩ [11, 5] .done))))))))))))))))))
              (.reg [⟨(some 63), none, .q (.mv (.t 14))⟩,
                ⟨(some 64), none, .q (.bin .sub (.t 63) (.c (.int .i64 1)))⟩,
                ⟨(some 14), none, .q (.mv (.t 64))⟩])))))))))
          (.reg [⟨(some 49), none, .q (.mv (.t 12))⟩,
            ⟨(some 50), none, .q (.bin .add (.t 49) (.c (.int .i64 1)))⟩,
            ⟨(some 12), none, .q (.mv (.t 50))⟩]))))))
       (.seq (.reg [⟨(some 80), none, .q (.mv (.t 9))⟩,
          ⟨(some 81), none, .q (.len (.t 80))⟩,
          ⟨(some 82), none, .q (.mv (.c (.int .i64 0)))⟩])
       (.block 6 (.loop [1, 2, 7, 8, 9, 10, 11, 81, 82] (.seq (.reg [⟨(some 83), none, .q (.bin .lss (.t 82) (.t 81))⟩])
         (.seq (.cond (.t 83)
           .skip
           (.exit 6))
         (.seq (.block 7 (.seq (.reg [⟨(some 84), none, .q (.mv (.t 82))⟩,
              ⟨(some 15), none, .q (.mv (.t 84))⟩])
           (.sch (.take 0 ⟨(some 85), none, .q (.mv (.t 9))⟩ (.take 1 ⟨(some 86), none, .q (.mv (.t 15))⟩ (.take 2 ⟨(some 87), none, .q (.mv (.t 9))⟩ (.take 3 ⟨(some 88), none, .q (.mv (.t 15))⟩ (.take 4 ⟨(some 89), none, .q (.ixs 1 (.t 87) (.t 88))⟩ (.take 5 ⟨(some 90), none, .q (.ld false 1 (.t 89))⟩ (.take 6 ⟨(some 91), none, .q (.mv (.t 11))⟩ (.take 7 ⟨(some 92), none, .q (.mv (.t 15))⟩ (.take 8 ⟨(some 93), none, .q (.ixs 1 (.t 91) (.t 92))⟩ (.take 9 ⟨(some 94), none, .q (.ld false 1 (.t 93))⟩ (.take 10 ⟨(some 95), none, .q (.bin .add (.t 90) (.t 94))⟩ (.take 11 ⟨(some 96), none, .q (.ixs 1 (.t 85) (.t 86))⟩ (.one ⟨none, none, .m (.st false 1 (.t 96) (.t 95))⟩ [9, 5] .done))))))))))))))))
         (.reg [⟨(some 97), none, .q (.bin .add (.t 82) (.c (.int .i64 1)))⟩,
           ⟨(some 82), none, .q (.mv (.t 97))⟩])))))))))))
     (.reg [⟨(some 35), none, .q (.mv (.t 10))⟩,
       ⟨(some 36), none, .q (.bin .add (.t 35) (.c (.int .i64 1)))⟩,
       ⟨(some 10), none, .q (.mv (.t 36))⟩]))))))
  (.seq (.seq (.reg [⟨(some 98), none, .q (.mv (.t 9))⟩,
      ⟨(some 99), none, .q (.len (.t 98))⟩,
      ⟨(some 100), none, .q (.mv (.c (.int .i64 0)))⟩])
   (.block 8 (.loop [1, 9, 99, 100] (.seq (.reg [⟨(some 101), none, .q (.bin .lss (.t 100) (.t 99))⟩])
     (.seq (.cond (.t 101)
       .skip
       (.exit 8))
     (.seq (.block 9 (.seq (.reg [⟨(some 102), none, .q (.mv (.t 100))⟩,
          ⟨(some 16), none, .q (.mv (.t 102))⟩])
       (.reg [⟨(some 103), none, .q (.mv (.t 9))⟩,
         ⟨(some 104), none, .q (.mv (.t 16))⟩,
         ⟨(some 105), none, .q (.mv (.t 9))⟩,
         ⟨(some 106), none, .q (.mv (.t 16))⟩,
         ⟨(some 107), none, .q (.ixs 1 (.t 105) (.t 106))⟩,
         ⟨(some 108), none, .q (.ld false 1 (.t 107))⟩,
         ⟨(some 109), none, .q (.mv (.t 1))⟩,
         ⟨(some 110), none, .q (.len (.t 109))⟩,
         ⟨(some 111), none, .q (.bin .quo (.t 108) (.t 110))⟩,
         ⟨(some 112), none, .q (.ixs 1 (.t 103) (.t 104))⟩,
         ⟨none, none, .m (.st false 1 (.t 112) (.t 111))⟩])))
     (.reg [⟨(some 113), none, .q (.bin .add (.t 100) (.c (.int .i64 1)))⟩,
       ⟨(some 100), none, .q (.mv (.t 113))⟩])))))))
  (.seq (.reg [⟨(some 114), none, .q (.mv (.t 9))⟩,
     ⟨(some 4), none, .q (.mv (.t 114))⟩,
     ⟨(some 5), none, .q (.mv (.c (.int .i64 0)))⟩])
  .ret)))))))⟩
theorem l_spec_DualCounts : lowF PA f_spec_DualCounts 2 [.s (.take 0 (.take 1 (.take 2 (.take 3 (.take 4 (.one 5 (.take 6 (.take 7 .done)))))))), .k [1, 2, 7, 8, 9, 10], .k [1, 2, 7, 8, 9, 10, 11, 12], .k [1, 2, 7, 8, 9, 10, 11, 12, 13, 14], .s (.take 0 (.take 1 (.take 2 (.take 3 (.take 4 (.take 5 (.take 6 (.take 7 (.take 8 (.take 9 (.take 10 (.take 11 (.take 12 (.take 13 (.take 14 (.one 15 .done)))))))))))))))), .k [1, 2, 7, 8, 9, 10, 11, 81, 82], .s (.take 0 (.take 1 (.take 2 (.take 3 (.take 4 (.take 5 (.take 6 (.take 7 (.take 8 (.take 9 (.take 10 (.take 11 (.one 12 .done))))))))))))), .k [1, 9, 99, 100]] = some c_spec_DualCounts := by kernel_rfl
abbrev f_impl_DualCounts : FuncId := 21
def c_impl_DualCounts : AF := ⟨2, 18, [.t 4, .t 5],
  (.seq (.reg [⟨(some 2), none, .m (.box (.t 0))⟩,
     ⟨(some 4), none, .q (.mv (.c (.slice none 0 0)))⟩,
     ⟨(some 5), none, .q (.mv (.c (.int .i64 0)))⟩])
  (.seq (.seq (.reg [⟨(some 7), none, .q (.ld true 1 (.t 2))⟩,
      ⟨(some 8), none, .q (.mv (.t 1))⟩,
      ⟨(some 9), none, .c (.call 38 [(.t 7), (.t 8), (.c (.slice none 0 0))])⟩,
      ⟨(some 6), none, .q (.mv (.t 9))⟩])
   (.seq (.reg [⟨(some 10), none, .q (.mv (.t 6))⟩,
      ⟨(some 11), none, .q (.bin .neq (.t 10) (.c (.int .i64 0)))⟩])
   (.cond (.t 11)
    (.seq (.reg [⟨(some 12), none, .q (.mv (.t 6))⟩,
       ⟨(some 4), none, .q (.mv (.c (.slice none 0 0)))⟩,
       ⟨(some 5), none, .q (.mv (.t 12))⟩])
    .ret)
    .skip)))
  (.seq (.sch (.take 0 ⟨(some 13), none, .q (.ld true 1 (.t 2))⟩ (.take 1 ⟨(some 14), none, .q (.ld true 1 (.t 2))⟩ (.take 2 ⟨(some 15), none, .q (.mv (.t 1))⟩ (.one ⟨(some 16), none, .c (.call 40 [(.t 14), (.t 15)])⟩ [1] (.one ⟨(some 17), none, .c (.call 39 [(.t 13), (.t 16)])⟩ [0] (.take 5 ⟨(some 4), none, .q (.mv (.t 17))⟩ (.take 6 ⟨(some 5), none, .q (.mv (.c (.int .i64 0)))⟩ .done))))))))
  .ret)))⟩
theorem l_impl_DualCounts : lowF PA f_impl_DualCounts 2 [.s (.take 0 (.take 1 (.take 2 (.one 3 (.one 4 (.take 5 (.take 6 .done)))))))] = some c_impl_DualCounts := by kernel_rfl
abbrev f_laws_szInt64S : FuncId := 26
def c_laws_szInt64S : AF := ⟨2, 12, [.t 4],
  (.seq (.reg [⟨(some 4), none, .q (.mv (.c (.int .i64 0)))⟩])
  (.seq (.reg [⟨(some 5), none, .q (.mv (.t 1))⟩,
     ⟨(some 6), none, .q (.mv (.t 0))⟩,
     ⟨(some 7), none, .q (.len (.t 6))⟩,
     ⟨(some 8), none, .q (.bin .sub (.t 5) (.t 7))⟩,
     ⟨(some 1), none, .q (.mv (.t 8))⟩])
  (.seq (.seq (.reg [⟨(some 9), none, .q (.mv (.t 1))⟩,
      ⟨(some 10), none, .q (.bin .lss (.t 9) (.c (.int .i64 0)))⟩])
   (.cond (.t 10)
    (.seq (.reg [⟨(some 4), none, .q (.mv (.c (.int .i64 (-1))))⟩])
    .ret)
    .skip))
  (.seq (.reg [⟨(some 11), none, .q (.mv (.t 1))⟩,
     ⟨(some 4), none, .q (.mv (.t 11))⟩])
  .ret))))⟩
theorem l_laws_szInt64S : lowF PA f_laws_szInt64S 2 [] = some c_laws_szInt64S := by kernel_rfl
abbrev f_impl_codeCode : FuncId := 31
def c_impl_codeCode : AF := ⟨3, 18, [.t 6],
  (.seq (.reg [⟨(some 3), none, .m (.box (.t 0))⟩,
     ⟨(some 6), none, .q (.mv (.c (.int .i64 0)))⟩])
  (.seq (.seq (.reg [⟨(some 8), none, .q (.ld true 1 (.t 3))⟩,
      ⟨(some 9), none, .q (.mv (.t 2))⟩,
      ⟨(some 10), none, .c (.call 52 [(.t 8), (.t 9)])⟩,
      ⟨(some 7), none, .q (.mv (.t 10))⟩])
   (.seq (.reg [⟨(some 11), none, .q (.mv (.t 7))⟩,
      ⟨(some 12), none, .q (.bin .neq (.t 11) (.c (.int .i64 0)))⟩])
   (.cond (.t 12)
    (.seq (.reg [⟨(some 13), none, .q (.mv (.t 7))⟩,
       ⟨(some 6), none, .q (.mv (.t 13))⟩])
    .ret)
    .skip)))
  (.seq (.seq (.reg [⟨(some 14), none, .q (.ld true 1 (.t 3))⟩,
      ⟨(some 15), none, .q (.mv (.t 1))⟩,
      ⟨(some 16), none, .c (.call 53 [(.t 14), (.t 15)])⟩,
      ⟨(some 17), none, .q (.un .not (.t 16))⟩])
   (.cond (.t 17)
    (.seq (.reg [⟨(some 6), none, .q (.mv (.c (.int .i64 2)))⟩])
    .ret)
    .skip))
  (.seq (.reg [⟨(some 6), none, .q (.mv (.c (.int .i64 0)))⟩])
  .ret))))⟩
theorem l_impl_codeCode : lowF PA f_impl_codeCode 3 [] = some c_impl_codeCode := by kernel_rfl
abbrev f_impl_digitsOfAll : FuncId := 33
def c_impl_digitsOfAll : AF := ⟨2, 23, [.t 4],
  (.seq (.reg [⟨(some 2), none, .m (.box (.t 0))⟩,
     ⟨(some 4), none, .q (.mv (.c (.slice none 0 0)))⟩])
  (.seq (.reg [⟨(some 8), none, .m (.bsl 8 [])⟩,
     ⟨(some 5), none, .q (.mv (.t 8))⟩])
  (.seq (.seq (.reg [⟨(some 9), none, .q (.mv (.t 1))⟩,
      ⟨(some 10), none, .q (.len (.t 9))⟩,
      ⟨(some 11), none, .q (.mv (.c (.int .i64 0)))⟩])
   (.block 0 (.loop [2, 5, 9, 10, 11] (.seq (.reg [⟨(some 12), none, .q (.bin .lss (.t 11) (.t 10))⟩])
     (.seq (.cond (.t 12)
       .skip
       (.exit 0))
     (.seq (.block 1 (.seq (.reg [⟨(some 13), none, .q (.ixs 1 (.t 9) (.t 11))⟩,
          ⟨(some 14), none, .q (.ld false 1 (.t 13))⟩,
          ⟨(some 7), none, .q (.mv (.t 14))⟩])
       (.reg [⟨(some 15), none, .q (.mv (.t 5))⟩,
         ⟨(some 16), none, .q (.ld true 1 (.t 2))⟩,
         ⟨(some 17), none, .q (.mv (.t 7))⟩,
         ⟨(some 18), none, .c (.call 55 [(.t 16), (.t 17)])⟩,
         ⟨(some 19), none, .m (.bsl 8 [(.t 18)])⟩,
         ⟨(some 20), none, .m (.app 8 8 (.t 15) (.t 19))⟩,
         ⟨(some 5), none, .q (.mv (.t 20))⟩])))
     (.reg [⟨(some 21), none, .q (.bin .add (.t 11) (.c (.int .i64 1)))⟩,
       ⟨(some 11), none, .q (.mv (.t 21))⟩])))))))
  (.seq (.reg [⟨(some 22), none, .q (.mv (.t 5))⟩,
     ⟨(some 4), none, .q (.mv (.t 22))⟩])
  .ret))))⟩
theorem l_impl_digitsOfAll : lowF PA f_impl_digitsOfAll 2 [.k [2, 5, 9, 10, 11]] = some c_impl_digitsOfAll := by kernel_rfl
abbrev f_impl_far : FuncId := 35
def c_impl_far : AF := ⟨2, 22, [.t 4],
  (.seq (.reg [⟨(some 2), none, .m (.box (.t 0))⟩,
     ⟨(some 3), none, .m (.box (.t 1))⟩,
     ⟨(some 4), none, .q (.mv (.c (.int .i64 0)))⟩])
  (.seq (.reg [⟨(some 5), none, .q (.mv (.c (.int .i64 0)))⟩])
  (.seq (.seq (.reg [⟨(some 8), none, .q (.ld true 8 (.t 2))⟩,
      ⟨(some 9), none, .q (.mv (.c (.int .i64 0)))⟩])
   (.block 0 (.loop [3, 5, 8, 9] (.seq (.reg [⟨(some 10), none, .q (.bin .lss (.t 9) (.c (.int .i64 8)))⟩])
     (.seq (.cond (.t 10)
       .skip
       (.exit 0))
     (.seq (.block 1 (.seq (.reg [⟨(some 11), none, .q (.mv (.t 9))⟩,
          ⟨(some 12), none, .q (.ixv 8 (.t 8) (.t 9))⟩,
          ⟨(some 6), none, .q (.mv (.t 11))⟩,
          ⟨(some 7), none, .q (.mv (.t 12))⟩])
       (.seq (.reg [⟨(some 13), none, .q (.mv (.t 7))⟩,
          ⟨(some 14), none, .q (.mv (.t 6))⟩,
          ⟨(some 15), none, .q (.ixa 8 1 (.t 3) (.t 14))⟩,
          ⟨(some 16), none, .q (.ld false 1 (.t 15))⟩,
          ⟨(some 17), none, .q (.bin .neq (.t 13) (.t 16))⟩])
       (.cond (.t 17)
        (.reg [⟨(some 18), none, .q (.mv (.t 5))⟩,
          ⟨(some 19), none, .q (.bin .add (.t 18) (.c (.int .i64 1)))⟩,
          ⟨(some 5), none, .q (.mv (.t 19))⟩])
        .skip))))
     (.reg [⟨(some 20), none, .q (.bin .add (.t 9) (.c (.int .i64 1)))⟩,
       ⟨(some 9), none, .q (.mv (.t 20))⟩])))))))
  (.seq (.reg [⟨(some 21), none, .q (.mv (.t 5))⟩,
     ⟨(some 4), none, .q (.mv (.t 21))⟩])
  .ret))))⟩
theorem l_impl_far : lowF PA f_impl_far 2 [.k [3, 5, 8, 9]] = some c_impl_far := by kernel_rfl
abbrev f_spec_l05Given : FuncId := 36
def c_spec_l05Given : AF := ⟨2, 18, [.t 4],
  (.seq (.reg [⟨(some 2), none, .m (.box (.t 0))⟩,
     ⟨(some 4), none, .q (.mv (.c (.int .i64 0)))⟩])
  (.seq (.reg [⟨(some 6), none, .q (.ld true 1 (.t 2))⟩,
     ⟨(some 7), none, .q (.mv (.t 1))⟩,
     ⟨(some 8), none, .c (.call 47 [(.t 6), (.t 7)])⟩,
     ⟨(some 5), none, .q (.mv (.t 8))⟩])
  (.seq (.seq (.reg [⟨(some 9), none, .q (.mv (.t 5))⟩,
      ⟨(some 10), none, .q (.bin .eql (.t 9) (.c (.int .i64 0)))⟩,
      ⟨(some 11), none, .q (.mv (.t 10))⟩,
      ⟨(some 12), (some (11, true)), .q (.ld true 1 (.t 2))⟩,
      ⟨(some 13), (some (11, true)), .q (.mv (.t 1))⟩,
      ⟨(some 14), (some (11, true)), .c (.call 58 [(.t 12), (.t 13)])⟩,
      ⟨(some 15), (some (11, true)), .q (.un .not (.t 14))⟩,
      ⟨(some 16), none, .q (.pick (.t 11) (.t 15) (.c (.bool false)))⟩])
   (.cond (.t 16)
    (.seq (.reg [⟨(some 4), none, .q (.mv (.c (.int .i64 5)))⟩])
    .ret)
    .skip))
  (.seq (.reg [⟨(some 17), none, .q (.mv (.t 5))⟩,
     ⟨(some 4), none, .q (.mv (.t 17))⟩])
  .ret))))⟩
theorem l_spec_l05Given : lowF PA f_spec_l05Given 2 [] = some c_spec_l05Given := by kernel_rfl
abbrev f_spec_l05Counts : FuncId := 37
def c_spec_l05Counts : AF := ⟨2, 30, [.t 4],
  (.seq (.reg [⟨(some 2), none, .m (.box (.t 0))⟩,
     ⟨(some 4), none, .q (.mv (.c (.slice none 0 0)))⟩])
  (.seq (.reg [⟨(some 7), none, .q (.fad 0 (.t 2))⟩,
     ⟨(some 8), none, .q (.ld false 1 (.t 7))⟩,
     ⟨(some 9), none, .q (.len (.t 8))⟩,
     ⟨(some 10), none, .q (.bin .add (.t 9) (.c (.int .i64 1)))⟩,
     ⟨(some 11), none, .m (.mks 1 (.v (.int .i64 0)) 8 (.t 10) (.t 10))⟩,
     ⟨(some 5), none, .q (.mv (.t 11))⟩])
  (.seq (.seq (.reg [⟨(some 12), none, .q (.mv (.t 1))⟩,
      ⟨(some 13), none, .q (.len (.t 12))⟩,
      ⟨(some 14), none, .q (.mv (.c (.int .i64 0)))⟩])
   (.block 0 (.loop [1, 2, 5, 13, 14] (.seq (.reg [⟨(some 15), none, .q (.bin .lss (.t 14) (.t 13))⟩])
     (.seq (.cond (.t 15)
       .skip
       (.exit 0))
     (.seq (.block 1 (.seq (.reg [⟨(some 16), none, .q (.mv (.t 14))⟩,
          ⟨(some 6), none, .q (.mv (.t 16))⟩])
       (.sch (.take 0 ⟨(some 17), none, .q (.mv (.t 5))⟩ (.take 1 ⟨(some 18), none, .q (.ld true 1 (.t 2))⟩ (.take 2 ⟨(some 19), none, .q (.mv (.t 1))⟩ (.take 3 ⟨(some 20), none, .q (.mv (.t 6))⟩ (.take 4 ⟨(some 21), none, .q (.ixs 1 (.t 19) (.t 20))⟩ (.take 5 ⟨(some 22), none, .q (.ld false 1 (.t 21))⟩ (.one ⟨(some 23), none, .c (.call 59 [(.t 18), (.c (.int .i64 0)), (.t 22)])⟩ [5, 1] (.take 7 ⟨(some 24), none, .q (.ixs 1 (.t 17) (.t 23))⟩ (.take 8 ⟨(some 25), none, .q (.ld false 1 (.t 24))⟩ (.take 9 ⟨(some 26), none, .q (.bin .add (.t 25) (.c (.int .i64 1)))⟩ (.take 10 ⟨(some 27), none, .q (.ixs 1 (.t 17) (.t 23))⟩ (.one ⟨none, none, .m (.st false 1 (.t 27) (.t 26))⟩ [8, 5, 1] .done)))))))))))))))
     (.reg [⟨(some 28), none, .q (.bin .add (.t 14) (.c (.int .i64 1)))⟩,
       ⟨(some 14), none, .q (.mv (.t 28))⟩])))))))
  (.seq (.reg [⟨(some 29), none, .q (.mv (.t 5))⟩,
     ⟨(some 4), none, .q (.mv (.t 29))⟩])
  .ret))))⟩
theorem l_spec_l05Counts : lowF PA f_spec_l05Counts 2 [.k [1, 2, 5, 13, 14], .s (.take 0 (.take 1 (.take 2 (.take 3 (.take 4 (.take 5 (.one 6 (.take 7 (.take 8 (.take 9 (.take 10 (.one 11 .done))))))))))))] = some c_spec_l05Counts := by kernel_rfl
abbrev f_impl_linearCode : FuncId := 38
def c_impl_linearCode : AF := ⟨3, 19, [.t 6],
  (.seq (.reg [⟨(some 3), none, .m (.box (.t 0))⟩,
     ⟨(some 6), none, .q (.mv (.c (.int .i64 0)))⟩])
  (.seq (.seq (.reg [⟨(some 8), none, .q (.ld true 1 (.t 3))⟩,
      ⟨(some 9), none, .q (.mv (.t 1))⟩,
      ⟨(some 10), none, .q (.mv (.t 2))⟩,
      ⟨(some 11), none, .c (.call 31 [(.t 8), (.t 9), (.t 10)])⟩,
      ⟨(some 7), none, .q (.mv (.t 11))⟩])
   (.seq (.reg [⟨(some 12), none, .q (.mv (.t 7))⟩,
      ⟨(some 13), none, .q (.bin .neq (.t 12) (.c (.int .i64 0)))⟩])
   (.cond (.t 13)
    (.seq (.reg [⟨(some 14), none, .q (.mv (.t 7))⟩,
       ⟨(some 6), none, .q (.mv (.t 14))⟩])
    .ret)
    .skip)))
  (.seq (.seq (.reg [⟨(some 15), none, .q (.ld true 1 (.t 3))⟩,
      ⟨(some 16), none, .q (.mv (.t 1))⟩,
      ⟨(some 17), none, .c (.call 60 [(.t 15), (.t 16)])⟩,
      ⟨(some 18), none, .q (.un .not (.t 17))⟩])
   (.cond (.t 18)
    (.seq (.reg [⟨(some 6), none, .q (.mv (.c (.int .i64 5)))⟩])
    .ret)
    .skip))
  (.seq (.reg [⟨(some 6), none, .q (.mv (.c (.int .i64 0)))⟩])
  .ret))))⟩
theorem l_impl_linearCode : lowF PA f_impl_linearCode 3 [] = some c_impl_linearCode := by kernel_rfl
abbrev f_impl_weightCounts : FuncId := 39
def c_impl_weightCounts : AF := ⟨2, 30, [.t 4],
  (.seq (.reg [⟨(some 2), none, .m (.box (.t 0))⟩,
     ⟨(some 4), none, .q (.mv (.c (.slice none 0 0)))⟩])
  (.seq (.reg [⟨(some 8), none, .q (.ld true 1 (.t 2))⟩,
     ⟨(some 9), none, .c (.call 61 [(.t 8)])⟩,
     ⟨(some 10), none, .q (.bin .add (.t 9) (.c (.int .i64 1)))⟩,
     ⟨(some 11), none, .m (.mks 1 (.v (.int .i64 0)) 8 (.t 10) (.t 10))⟩,
     ⟨(some 5), none, .q (.mv (.t 11))⟩])
  (.seq (.seq (.reg [⟨(some 12), none, .q (.ld true 1 (.t 2))⟩,
      ⟨(some 13), none, .q (.mv (.t 1))⟩,
      ⟨(some 14), none, .c (.call 33 [(.t 12), (.t 13)])⟩,
      ⟨(some 15), none, .q (.len (.t 14))⟩,
      ⟨(some 16), none, .q (.mv (.c (.int .i64 0)))⟩])
   (.block 0 (.loop [5, 14, 15, 16] (.seq (.reg [⟨(some 17), none, .q (.bin .lss (.t 16) (.t 15))⟩])
     (.seq (.cond (.t 17)
       .skip
       (.exit 0))
     (.seq (.block 1 (.seq (.reg [⟨(some 18), none, .q (.ixs 8 (.t 14) (.t 16))⟩,
          ⟨(some 19), none, .q (.ld true 8 (.t 18))⟩,
          ⟨(some 7), none, .m (.alloc [(.v (.int .u8 0)), (.v (.int .u8 0)), (.v (.int .u8 0)), (.v (.int .u8 0)), (.v (.int .u8 0)), (.v (.int .u8 0)), (.v (.int .u8 0)), (.v (.int .u8 0))])⟩,
          ⟨none, none, .m (.st true 8 (.t 7) (.t 19))⟩])
       (.reg [⟨(some 20), none, .q (.mv (.t 5))⟩,
         ⟨(some 21), none, .q (.ld true 8 (.t 7))⟩,
         ⟨(some 22), none, .q (.bld [(.v (.int .u8 0)), (.v (.int .u8 0)), (.v (.int .u8 0)), (.v (.int .u8 0)), (.v (.int .u8 0)), (.v (.int .u8 0)), (.v (.int .u8 0)), (.v (.int .u8 0))] [])⟩,
         ⟨(some 23), none, .c (.call 35 [(.t 21), (.t 22)])⟩,
         ⟨(some 24), none, .q (.ixs 1 (.t 20) (.t 23))⟩,
         ⟨(some 25), none, .q (.ld false 1 (.t 24))⟩,
         ⟨(some 26), none, .q (.bin .add (.t 25) (.c (.int .i64 1)))⟩,
         ⟨(some 27), none, .q (.ixs 1 (.t 20) (.t 23))⟩,
         ⟨none, none, .m (.st false 1 (.t 27) (.t 26))⟩])))
     (.reg [⟨(some 28), none, .q (.bin .add (.t 16) (.c (.int .i64 1)))⟩,
       ⟨(some 16), none, .q (.mv (.t 28))⟩])))))))
  (.seq (.reg [⟨(some 29), none, .q (.mv (.t 5))⟩,
     ⟨(some 4), none, .q (.mv (.t 29))⟩])
  .ret))))⟩
theorem l_impl_weightCounts : lowF PA f_impl_weightCounts 2 [.k [5, 14, 15, 16]] = some c_impl_weightCounts := by kernel_rfl
abbrev f_impl_dual : FuncId := 40
def c_impl_dual : AF := ⟨2, 14, [.t 4],
  (.seq (.reg [⟨(some 2), none, .m (.box (.t 0))⟩,
     ⟨(some 4), none, .q (.mv (.c (.slice none 0 0)))⟩])
  (.seq (.sch (.take 0 ⟨(some 6), none, .q (.ld true 1 (.t 2))⟩ (.take 1 ⟨(some 7), none, .q (.ld true 1 (.t 2))⟩ (.take 2 ⟨(some 8), none, .q (.mv (.t 1))⟩ (.two ⟨(some 9), none, .c (.call 62 [(.t 7), (.t 8)])⟩ [1] (.two ⟨(some 10), none, .c (.call 33 [(.t 6), (.t 9)])⟩ [0] (.one ⟨(some 5), none, .m (.alloc [(.v (.slice none 0 0))])⟩ [] (.one ⟨none, none, .m (.st false 1 (.t 5) (.t 10))⟩ [1, 0] .done)) ⟨(some 5), none, .m (.alloc [(.v (.slice none 0 0))])⟩ [] (.one ⟨(some 10), none, .c (.call 33 [(.t 6), (.t 9)])⟩ [0] (.one ⟨none, none, .m (.st false 1 (.t 5) (.t 10))⟩ [1, 0] .done))) ⟨(some 5), none, .m (.alloc [(.v (.slice none 0 0))])⟩ [] (.one ⟨(some 9), none, .c (.call 62 [(.t 7), (.t 8)])⟩ [1] (.one ⟨(some 10), none, .c (.call 33 [(.t 6), (.t 9)])⟩ [0] (.one ⟨none, none, .m (.st false 1 (.t 5) (.t 10))⟩ [1, 0] .done))))))))
  (.seq (.reg [⟨(some 11), none, .q (.ld true 1 (.t 2))⟩,
     ⟨(some 12), none, .q (.mkf 63 [(.t 5), (.t 2)])⟩,
     ⟨(some 13), none, .c (.call 56 [(.t 11), (.t 12)])⟩,
     ⟨(some 4), none, .q (.mv (.t 13))⟩])
  .ret)))⟩
theorem l_impl_dual : lowF PA f_impl_dual 2 [.s (.take 0 (.take 1 (.take 2 (.two 3 (.two 4 (.one 5 (.one 6 .done)) 5 (.one 4 (.one 6 .done))) 5 (.one 3 (.one 4 (.one 6 .done)))))))] = some c_impl_dual := by kernel_rfl
abbrev f_spec_l01Given : FuncId := 47
def c_spec_l01Given : AF := ⟨2, 14, [.t 4],
  (.seq (.reg [⟨(some 2), none, .m (.box (.t 0))⟩,
     ⟨(some 4), none, .q (.mv (.c (.int .i64 0)))⟩])
  (.seq (.block 0 (.seq (.reg [⟨(some 6), none, .q (.ld true 1 (.t 2))⟩,
       ⟨(some 7), none, .c (.call 67 [(.t 6)])⟩,
       ⟨(some 8), none, .q (.un .not (.t 7))⟩,
       ⟨(some 5), none, .q (.mv (.t 8))⟩])
    (.cond (.t 5)
     (.seq (.reg [⟨(some 4), none, .q (.mv (.c (.int .i64 1)))⟩])
     .ret)
     (.seq (.reg [⟨(some 10), none, .q (.ld true 1 (.t 2))⟩,
        ⟨(some 11), none, .q (.mv (.t 1))⟩,
        ⟨(some 12), none, .c (.call 74 [(.t 10), (.t 11)])⟩,
        ⟨(some 13), none, .q (.un .not (.t 12))⟩,
        ⟨(some 9), none, .q (.mv (.t 13))⟩])
     (.cond (.t 9)
      (.seq (.reg [⟨(some 4), none, .q (.mv (.c (.int .i64 2)))⟩])
      .ret)
      .skip)))))
  (.seq (.reg [⟨(some 4), none, .q (.mv (.c (.int .i64 0)))⟩])
  .ret)))⟩
theorem l_spec_l01Given : lowF PA f_spec_l01Given 2 [] = some c_spec_l01Given := by kernel_rfl
abbrev f_impl_IsSpace : FuncId := 50
def c_impl_IsSpace : AF := ⟨1, 35, [.t 2],
  (.seq (.reg [⟨(some 1), none, .m (.box (.t 0))⟩,
     ⟨(some 2), none, .q (.mv (.c (.bool false)))⟩])
  (.seq (.seq (.reg [⟨(some 6), none, .q (.fad 0 (.t 1))⟩,
      ⟨(some 7), none, .q (.ld false 1 (.t 6))⟩,
      ⟨(some 8), none, .q (.len (.t 7))⟩,
      ⟨(some 9), none, .q (.bin .lss (.t 8) (.c (.int .i64 1)))⟩,
      ⟨(some 10), none, .q (.mv (.t 9))⟩,
      ⟨(some 11), (some (10, false)), .q (.fad 0 (.t 1))⟩,
      ⟨(some 12), (some (10, false)), .q (.ld false 1 (.t 11))⟩,
      ⟨(some 13), (some (10, false)), .q (.len (.t 12))⟩,
      ⟨(some 14), (some (10, false)), .q (.bin .gtr (.t 13) (.c (.int .i64 8)))⟩,
      ⟨(some 15), none, .q (.pick (.t 10) (.c (.bool true)) (.t 14))⟩])
   (.cond (.t 15)
    (.seq (.reg [⟨(some 2), none, .q (.mv (.c (.bool false)))⟩])
    .ret)
    .skip))
  (.seq (.reg [⟨(some 3), none, .q (.mv (.c (.int .i64 1)))⟩])
  (.seq (.seq (.reg [⟨(some 16), none, .q (.fad 0 (.t 1))⟩,
      ⟨(some 17), none, .q (.ld false 1 (.t 16))⟩,
      ⟨(some 18), none, .q (.len (.t 17))⟩,
      ⟨(some 19), none, .q (.mv (.c (.int .i64 0)))⟩])
   (.block 0 (.loop [3, 17, 18, 19] (.seq (.reg [⟨(some 20), none, .q (.bin .lss (.t 19) (.t 18))⟩])
     (.seq (.cond (.t 20)
       .skip
       (.exit 0))
     (.seq (.block 1 (.seq (.reg [⟨(some 21), none, .q (.ixs 1 (.t 17) (.t 19))⟩,
          ⟨(some 22), none, .q (.ld false 1 (.t 21))⟩,
          ⟨(some 5), none, .q (.mv (.t 22))⟩])
       (.seq (.seq (.reg [⟨(some 23), none, .q (.mv (.t 5))⟩,
           ⟨(some 24), none, .q (.bin .lss (.t 23) (.c (.int .i64 2)))⟩,
           ⟨(some 25), none, .q (.mv (.t 24))⟩,
           ⟨(some 26), (some (25, false)), .q (.mv (.t 5))⟩,
           ⟨(some 27), (some (25, false)), .q (.bin .gtr (.t 26) (.c (.int .i64 4)))⟩,
           ⟨(some 28), none, .q (.pick (.t 25) (.c (.bool true)) (.t 27))⟩])
        (.cond (.t 28)
         (.seq (.reg [⟨(some 2), none, .q (.mv (.c (.bool false)))⟩])
         .ret)
         .skip))
       (.reg [⟨(some 29), none, .q (.mv (.t 3))⟩,
         ⟨(some 30), none, .q (.mv (.t 5))⟩,
         ⟨(some 31), none, .q (.bin .mul (.t 29) (.t 30))⟩,
         ⟨(some 3), none, .q (.mv (.t 31))⟩]))))
     (.reg [⟨(some 32), none, .q (.bin .add (.t 19) (.c (.int .i64 1)))⟩,
       ⟨(some 19), none, .q (.mv (.t 32))⟩])))))))
  (.seq (.reg [⟨(some 33), none, .q (.mv (.t 3))⟩,
     ⟨(some 34), none, .q (.bin .leq (.t 33) (.c (.int .i64 1024)))⟩,
     ⟨(some 2), none, .q (.mv (.t 34))⟩])
  .ret)))))⟩
theorem l_impl_IsSpace : lowF PA f_impl_IsSpace 1 [.k [3, 17, 18, 19]] = some c_impl_IsSpace := by kernel_rfl
abbrev f_impl_wordCode : FuncId := 52
def c_impl_wordCode : AF := ⟨2, 14, [.t 4],
  (.seq (.reg [⟨(some 2), none, .m (.box (.t 0))⟩,
     ⟨(some 4), none, .q (.mv (.c (.int .i64 0)))⟩])
  (.seq (.block 0 (.seq (.reg [⟨(some 6), none, .q (.ld true 1 (.t 2))⟩,
       ⟨(some 7), none, .c (.call 50 [(.t 6)])⟩,
       ⟨(some 8), none, .q (.un .not (.t 7))⟩,
       ⟨(some 5), none, .q (.mv (.t 8))⟩])
    (.cond (.t 5)
     (.seq (.reg [⟨(some 4), none, .q (.mv (.c (.int .i64 1)))⟩])
     .ret)
     (.seq (.reg [⟨(some 10), none, .q (.ld true 1 (.t 2))⟩,
        ⟨(some 11), none, .q (.mv (.t 1))⟩,
        ⟨(some 12), none, .c (.call 76 [(.t 10), (.t 11)])⟩,
        ⟨(some 13), none, .q (.un .not (.t 12))⟩,
        ⟨(some 9), none, .q (.mv (.t 13))⟩])
     (.cond (.t 9)
      (.seq (.reg [⟨(some 4), none, .q (.mv (.c (.int .i64 2)))⟩])
      .ret)
      .skip)))))
  (.seq (.reg [⟨(some 4), none, .q (.mv (.c (.int .i64 0)))⟩])
  .ret)))⟩
theorem l_impl_wordCode : lowF PA f_impl_wordCode 2 [] = some c_impl_wordCode := by kernel_rfl
abbrev f_impl_isCode : FuncId := 53
def c_impl_isCode : AF := ⟨2, 33, [.t 4],
  (.seq (.reg [⟨(some 2), none, .m (.box (.t 0))⟩,
     ⟨(some 4), none, .q (.mv (.c (.bool false)))⟩])
  (.seq (.seq (.reg [⟨(some 6), none, .q (.mv (.t 1))⟩,
      ⟨(some 7), none, .q (.len (.t 6))⟩,
      ⟨(some 8), none, .q (.ld true 1 (.t 2))⟩,
      ⟨(some 9), none, .c (.call 77 [(.t 8)])⟩,
      ⟨(some 10), none, .q (.bin .gtr (.t 7) (.t 9))⟩,
      ⟨(some 11), none, .q (.mv (.t 10))⟩,
      ⟨(some 12), (some (11, false)), .q (.ld true 1 (.t 2))⟩,
      ⟨(some 13), (some (11, false)), .q (.mv (.t 1))⟩,
      ⟨(some 14), (some (11, false)), .c (.call 76 [(.t 12), (.t 13)])⟩,
      ⟨(some 15), (some (11, false)), .q (.un .not (.t 14))⟩,
      ⟨(some 16), none, .q (.pick (.t 11) (.c (.bool true)) (.t 15))⟩])
   (.cond (.t 16)
    (.seq (.reg [⟨(some 4), none, .q (.mv (.c (.bool false)))⟩])
    .ret)
    .skip))
  (.seq (.seq (.reg [⟨(some 5), none, .q (.mv (.c (.int .i64 1)))⟩])
   (.block 0 (.loop [1, 5] (.seq (.seq (.reg [⟨(some 17), none, .q (.mv (.t 5))⟩,
         ⟨(some 18), none, .q (.mv (.t 1))⟩,
         ⟨(some 19), none, .q (.len (.t 18))⟩,
         ⟨(some 20), none, .q (.bin .lss (.t 17) (.t 19))⟩])
      (.cond (.t 20)
       .skip
       (.exit 0)))
     (.seq (.block 1 (.seq (.sch (.take 0 ⟨(some 23), none, .q (.mv (.t 1))⟩ (.take 1 ⟨(some 24), none, .q (.mv (.t 5))⟩ (.take 2 ⟨(some 25), none, .q (.ixs 1 (.t 23) (.t 24))⟩ (.take 3 ⟨(some 26), none, .q (.ld false 1 (.t 25))⟩ (.take 4 ⟨(some 27), none, .q (.mv (.t 1))⟩ (.take 5 ⟨(some 28), none, .q (.mv (.t 5))⟩ (.take 6 ⟨(some 29), none, .q (.bin .sub (.t 28) (.c (.int .i64 1)))⟩ (.take 7 ⟨(some 30), none, .q (.ixs 1 (.t 27) (.t 29))⟩ (.take 8 ⟨(some 31), none, .q (.ld false 1 (.t 30))⟩ (.take 9 ⟨(some 32), none, .q (.bin .leq (.t 26) (.t 31))⟩ .done)))))))))))
       (.cond (.t 32)
        (.seq (.reg [⟨(some 4), none, .q (.mv (.c (.bool false)))⟩])
        .ret)
        .skip)))
     (.reg [⟨(some 21), none, .q (.mv (.t 5))⟩,
       ⟨(some 22), none, .q (.bin .add (.t 21) (.c (.int .i64 1)))⟩,
       ⟨(some 5), none, .q (.mv (.t 22))⟩]))))))
  (.seq (.reg [⟨(some 4), none, .q (.mv (.c (.bool true)))⟩])
  .ret))))⟩
theorem l_impl_isCode : lowF PA f_impl_isCode 2 [.k [1, 5], .s (.take 0 (.take 1 (.take 2 (.take 3 (.take 4 (.take 5 (.take 6 (.take 7 (.take 8 (.take 9 .done))))))))))] = some c_impl_isCode := by kernel_rfl
abbrev f_impl_digitsOf : FuncId := 55
def c_impl_digitsOf : AF := ⟨2, 34, [.c 4 true 8],
  (.seq (.reg [⟨(some 2), none, .m (.box (.t 0))⟩,
     ⟨(some 4), none, .m (.alloc [(.v (.int .u8 0)), (.v (.int .u8 0)), (.v (.int .u8 0)), (.v (.int .u8 0)), (.v (.int .u8 0)), (.v (.int .u8 0)), (.v (.int .u8 0)), (.v (.int .u8 0))])⟩])
  (.seq (.reg [⟨(some 7), none, .q (.bld [(.v (.int .u8 0)), (.v (.int .u8 0)), (.v (.int .u8 0)), (.v (.int .u8 0)), (.v (.int .u8 0)), (.v (.int .u8 0)), (.v (.int .u8 0)), (.v (.int .u8 0))] [])⟩,
     ⟨(some 5), none, .m (.alloc [(.v (.int .u8 0)), (.v (.int .u8 0)), (.v (.int .u8 0)), (.v (.int .u8 0)), (.v (.int .u8 0)), (.v (.int .u8 0)), (.v (.int .u8 0)), (.v (.int .u8 0))])⟩,
     ⟨none, none, .m (.st true 8 (.t 5) (.t 7))⟩])
  (.seq (.seq (.reg [⟨(some 8), none, .q (.fad 0 (.t 2))⟩,
      ⟨(some 9), none, .q (.ld false 1 (.t 8))⟩,
      ⟨(some 10), none, .q (.len (.t 9))⟩,
      ⟨(some 11), none, .q (.bin .sub (.t 10) (.c (.int .i64 1)))⟩,
      ⟨(some 6), none, .q (.mv (.t 11))⟩])
   (.block 0 (.loop [1, 2, 4, 5, 6] (.seq (.seq (.reg [⟨(some 12), none, .q (.mv (.t 6))⟩,
         ⟨(some 13), none, .q (.bin .geq (.t 12) (.c (.int .i64 0)))⟩])
      (.cond (.t 13)
       .skip
       (.exit 0)))
     (.seq (.block 1 (.seq (.reg [⟨(some 16), none, .q (.mv (.t 6))⟩,
          ⟨(some 17), none, .q (.mv (.t 1))⟩,
          ⟨(some 18), none, .q (.fad 0 (.t 2))⟩,
          ⟨(some 19), none, .q (.ld false 1 (.t 18))⟩,
          ⟨(some 20), none, .q (.mv (.t 6))⟩,
          ⟨(some 21), none, .q (.ixs 1 (.t 19) (.t 20))⟩,
          ⟨(some 22), none, .q (.ld false 1 (.t 21))⟩,
          ⟨(some 23), none, .q (.bin .rem (.t 17) (.t 22))⟩,
          ⟨(some 24), none, .q (.cvt .u8 (.t 23))⟩,
          ⟨(some 25), none, .q (.ixa 8 1 (.t 5) (.t 16))⟩,
          ⟨none, none, .m (.st false 1 (.t 25) (.t 24))⟩])
       (.reg [⟨(some 26), none, .q (.mv (.t 1))⟩,
         ⟨(some 27), none, .q (.fad 0 (.t 2))⟩,
         ⟨(some 28), none, .q (.ld false 1 (.t 27))⟩,
         ⟨(some 29), none, .q (.mv (.t 6))⟩,
         ⟨(some 30), none, .q (.ixs 1 (.t 28) (.t 29))⟩,
         ⟨(some 31), none, .q (.ld false 1 (.t 30))⟩,
         ⟨(some 32), none, .q (.bin .quo (.t 26) (.t 31))⟩,
         ⟨(some 1), none, .q (.mv (.t 32))⟩])))
     (.reg [⟨(some 14), none, .q (.mv (.t 6))⟩,
       ⟨(some 15), none, .q (.bin .sub (.t 14) (.c (.int .i64 1)))⟩,
       ⟨(some 6), none, .q (.mv (.t 15))⟩]))))))
  (.seq (.reg [⟨(some 33), none, .q (.ld true 8 (.t 5))⟩,
     ⟨none, none, .m (.st true 8 (.t 4) (.t 33))⟩])
  .ret))))⟩
theorem l_impl_digitsOf : lowF PA f_impl_digitsOf 2 [.k [1, 2, 4, 5, 6]] = some c_impl_digitsOf := by kernel_rfl
abbrev f_impl_those : FuncId := 56
def c_impl_those : AF := ⟨2, 26, [.t 4],
  (.seq (.reg [⟨(some 2), none, .m (.box (.t 0))⟩,
     ⟨(some 4), none, .q (.mv (.c (.slice none 0 0)))⟩])
  (.seq (.reg [⟨(some 8), none, .m (.bsl 1 [])⟩,
     ⟨(some 5), none, .q (.mv (.t 8))⟩])
  (.seq (.seq (.reg [⟨(some 9), none, .q (.ld true 1 (.t 2))⟩,
      ⟨(some 10), none, .c (.call 78 [(.t 9)])⟩,
      ⟨(some 11), none, .q (.len (.t 10))⟩,
      ⟨(some 12), none, .q (.mv (.c (.int .i64 0)))⟩])
   (.block 0 (.loop [1, 5, 10, 11, 12] (.seq (.reg [⟨(some 13), none, .q (.bin .lss (.t 12) (.t 11))⟩])
     (.seq (.cond (.t 13)
       .skip
       (.exit 0))
     (.seq (.block 1 (.seq (.reg [⟨(some 14), none, .q (.mv (.t 12))⟩,
          ⟨(some 15), none, .q (.ixs 8 (.t 10) (.t 12))⟩,
          ⟨(some 16), none, .q (.ld true 8 (.t 15))⟩,
          ⟨(some 7), none, .m (.alloc [(.v (.int .u8 0)), (.v (.int .u8 0)), (.v (.int .u8 0)), (.v (.int .u8 0)), (.v (.int .u8 0)), (.v (.int .u8 0)), (.v (.int .u8 0)), (.v (.int .u8 0))])⟩,
          ⟨(some 6), none, .q (.mv (.t 14))⟩,
          ⟨none, none, .m (.st true 8 (.t 7) (.t 16))⟩])
       (.seq (.reg [⟨(some 17), none, .q (.mv (.t 1))⟩,
          ⟨(some 18), none, .q (.ld true 8 (.t 7))⟩,
          ⟨(some 19), none, .c (.cav (.t 17) [(.t 18)])⟩])
       (.cond (.t 19)
        (.reg [⟨(some 20), none, .q (.mv (.t 5))⟩,
          ⟨(some 21), none, .q (.mv (.t 6))⟩,
          ⟨(some 22), none, .m (.bsl 1 [(.t 21)])⟩,
          ⟨(some 23), none, .m (.app 1 8 (.t 20) (.t 22))⟩,
          ⟨(some 5), none, .q (.mv (.t 23))⟩])
        .skip))))
     (.reg [⟨(some 24), none, .q (.bin .add (.t 12) (.c (.int .i64 1)))⟩,
       ⟨(some 12), none, .q (.mv (.t 24))⟩])))))))
  (.seq (.reg [⟨(some 25), none, .q (.mv (.t 5))⟩,
     ⟨(some 4), none, .q (.mv (.t 25))⟩])
  .ret))))⟩
theorem l_impl_those : lowF PA f_impl_those 2 [.k [1, 5, 10, 11, 12]] = some c_impl_those := by kernel_rfl
abbrev f_spec_l05Linear : FuncId := 58
def c_spec_l05Linear : AF := ⟨2, 50, [.t 4],
  (.seq (.reg [⟨(some 2), none, .m (.box (.t 0))⟩,
     ⟨(some 4), none, .q (.mv (.c (.bool false)))⟩])
  (.seq (.seq (.reg [⟨(some 8), none, .q (.ld true 1 (.t 2))⟩,
      ⟨(some 9), none, .c (.call 79 [(.t 8)])⟩,
      ⟨(some 10), none, .q (.un .not (.t 9))⟩,
      ⟨(some 11), none, .q (.mv (.t 10))⟩,
      ⟨(some 12), (some (11, false)), .q (.mv (.t 1))⟩,
      ⟨(some 13), (some (11, false)), .q (.len (.t 12))⟩,
      ⟨(some 14), (some (11, false)), .q (.bin .eql (.t 13) (.c (.int .i64 0)))⟩,
      ⟨(some 15), none, .q (.pick (.t 11) (.c (.bool true)) (.t 14))⟩,
      ⟨(some 16), none, .q (.mv (.t 15))⟩,
      ⟨(some 17), (some (16, false)), .q (.mv (.t 1))⟩,
      ⟨(some 18), (some (16, false)), .q (.ixs 1 (.t 17) (.c (.int .i64 0)))⟩,
      ⟨(some 19), (some (16, false)), .q (.ld false 1 (.t 18))⟩,
      ⟨(some 20), (some (16, false)), .q (.bin .neq (.t 19) (.c (.int .i64 0)))⟩,
      ⟨(some 21), none, .q (.pick (.t 16) (.c (.bool true)) (.t 20))⟩])
   (.cond (.t 21)
    (.seq (.reg [⟨(some 4), none, .q (.mv (.c (.bool false)))⟩])
    .ret)
    .skip))
  (.seq (.reg [⟨(some 22), none, .q (.ld true 1 (.t 2))⟩,
     ⟨(some 23), none, .q (.mv (.t 1))⟩,
     ⟨(some 24), none, .c (.call 80 [(.t 22), (.t 23)])⟩,
     ⟨(some 5), none, .q (.mv (.t 24))⟩])
  (.seq (.seq (.reg [⟨(some 25), none, .q (.mv (.t 1))⟩,
      ⟨(some 26), none, .q (.len (.t 25))⟩,
      ⟨(some 27), none, .q (.mv (.c (.int .i64 0)))⟩])
   (.block 0 (.loop [1, 2, 5, 26, 27] (.seq (.reg [⟨(some 28), none, .q (.bin .lss (.t 27) (.t 26))⟩])
     (.seq (.cond (.t 28)
       .skip
       (.exit 0))
     (.seq (.block 1 (.seq (.reg [⟨(some 29), none, .q (.mv (.t 27))⟩,
          ⟨(some 6), none, .q (.mv (.t 29))⟩])
       (.seq (.reg [⟨(some 7), none, .q (.mv (.c (.int .i64 0)))⟩])
       (.block 2 (.loop [1, 2, 5, 6, 7, 26, 27] (.seq (.seq (.reg [⟨(some 30), none, .q (.mv (.t 7))⟩,
             ⟨(some 31), none, .q (.mv (.t 6))⟩,
             ⟨(some 32), none, .q (.bin .leq (.t 30) (.t 31))⟩])
          (.cond (.t 32)
           .skip
           (.exit 2)))
         (.seq (.block 3 (.seq (.sch (.take 0 ⟨(some 35), none, .q (.mv (.t 5))⟩ (.take 1 ⟨(some 36), none, .q (.ld true 1 (.t 2))⟩ (.take 2 ⟨(some 37), none, .q (.mv (.t 1))⟩ (.take 3 ⟨(some 38), none, .q (.mv (.t 6))⟩ (.take 4 ⟨(some 39), none, .q (.ixs 1 (.t 37) (.t 38))⟩ (.take 5 ⟨(some 40), none, .q (.ld false 1 (.t 39))⟩ (.take 6 ⟨(some 41), none, .q (.mv (.t 1))⟩ (.take 7 ⟨(some 42), none, .q (.mv (.t 7))⟩ (.take 8 ⟨(some 43), none, .q (.ixs 1 (.t 41) (.t 42))⟩ (.take 9 ⟨(some 44), none, .q (.ld false 1 (.t 43))⟩ (.one ⟨(some 45), none, .c (.call 81 [(.t 36), (.t 40), (.t 44)])⟩ [9, 5, 1] (.take 11 ⟨(some 46), none, .q (.ixs 1 (.t 35) (.t 45))⟩ (.take 12 ⟨(some 47), none, .q (.ld false 1 (.t 46))⟩ (.take 13 ⟨(some 48), none, .q (.un .not (.t 47))⟩ .done)))))))))))))))
           (.cond (.t 48)
            (.seq (.reg [⟨(some 4), none, .q (.mv (.c (.bool false)))⟩])
            .ret)
            .skip)))
         (.reg [⟨(some 33), none, .q (.mv (.t 7))⟩,
           ⟨(some 34), none, .q (.bin .add (.t 33) (.c (.int .i64 1)))⟩,
           ⟨(some 7), none, .q (.mv (.t 34))⟩]))))))))
     (.reg [⟨(some 49), none, .q (.bin .add (.t 27) (.c (.int .i64 1)))⟩,
       ⟨(some 27), none, .q (.mv (.t 49))⟩])))))))
  (.seq (.reg [⟨(some 4), none, .q (.mv (.c (.bool true)))⟩])
  .ret)))))⟩
theorem l_spec_l05Linear : lowF PA f_spec_l05Linear 2 [.k [1, 2, 5, 26, 27], .k [1, 2, 5, 6, 7, 26, 27], .s (.take 0 (.take 1 (.take 2 (.take 3 (.take 4 (.take 5 (.take 6 (.take 7 (.take 8 (.take 9 (.one 10 (.take 11 (.take 12 (.take 13 .done))))))))))))))] = some c_spec_l05Linear := by kernel_rfl
abbrev f_spec_l01Distance : FuncId := 59
def c_spec_l01Distance : AF := ⟨3, 49, [.t 6],
  (.seq (.reg [⟨(some 3), none, .m (.box (.t 0))⟩,
     ⟨(some 6), none, .q (.mv (.c (.int .i64 0)))⟩])
  (.seq (.reg [⟨(some 7), none, .q (.mv (.c (.int .i64 0)))⟩])
  (.seq (.seq (.reg [⟨(some 9), none, .q (.fad 0 (.t 3))⟩,
      ⟨(some 10), none, .q (.ld false 1 (.t 9))⟩,
      ⟨(some 11), none, .q (.len (.t 10))⟩,
      ⟨(some 12), none, .q (.bin .sub (.t 11) (.c (.int .i64 1)))⟩,
      ⟨(some 8), none, .q (.mv (.t 12))⟩])
   (.block 0 (.loop [1, 2, 3, 7, 8] (.seq (.seq (.reg [⟨(some 13), none, .q (.mv (.t 8))⟩,
         ⟨(some 14), none, .q (.bin .geq (.t 13) (.c (.int .i64 0)))⟩])
      (.cond (.t 14)
       .skip
       (.exit 0)))
     (.seq (.block 1 (.seq (.seq (.sch (.take 0 ⟨(some 17), none, .q (.mv (.t 1))⟩ (.take 1 ⟨(some 18), none, .q (.fad 0 (.t 3))⟩ (.take 2 ⟨(some 19), none, .q (.ld false 1 (.t 18))⟩ (.take 3 ⟨(some 20), none, .q (.mv (.t 8))⟩ (.take 4 ⟨(some 21), none, .q (.ixs 1 (.t 19) (.t 20))⟩ (.take 5 ⟨(some 22), none, .q (.ld false 1 (.t 21))⟩ (.take 6 ⟨(some 23), none, .q (.bin .rem (.t 17) (.t 22))⟩ (.take 7 ⟨(some 24), none, .q (.mv (.t 2))⟩ (.take 8 ⟨(some 25), none, .q (.fad 0 (.t 3))⟩ (.take 9 ⟨(some 26), none, .q (.ld false 1 (.t 25))⟩ (.take 10 ⟨(some 27), none, .q (.mv (.t 8))⟩ (.take 11 ⟨(some 28), none, .q (.ixs 1 (.t 26) (.t 27))⟩ (.take 12 ⟨(some 29), none, .q (.ld false 1 (.t 28))⟩ (.take 13 ⟨(some 30), none, .q (.bin .rem (.t 24) (.t 29))⟩ (.take 14 ⟨(some 31), none, .q (.bin .neq (.t 23) (.t 30))⟩ .done))))))))))))))))
        (.cond (.t 31)
         (.reg [⟨(some 32), none, .q (.mv (.t 7))⟩,
           ⟨(some 33), none, .q (.bin .add (.t 32) (.c (.int .i64 1)))⟩,
           ⟨(some 7), none, .q (.mv (.t 33))⟩])
         .skip))
       (.seq (.reg [⟨(some 34), none, .q (.mv (.t 1))⟩,
          ⟨(some 35), none, .q (.fad 0 (.t 3))⟩,
          ⟨(some 36), none, .q (.ld false 1 (.t 35))⟩,
          ⟨(some 37), none, .q (.mv (.t 8))⟩,
          ⟨(some 38), none, .q (.ixs 1 (.t 36) (.t 37))⟩,
          ⟨(some 39), none, .q (.ld false 1 (.t 38))⟩,
          ⟨(some 40), none, .q (.bin .quo (.t 34) (.t 39))⟩,
          ⟨(some 1), none, .q (.mv (.t 40))⟩])
       (.reg [⟨(some 41), none, .q (.mv (.t 2))⟩,
         ⟨(some 42), none, .q (.fad 0 (.t 3))⟩,
         ⟨(some 43), none, .q (.ld false 1 (.t 42))⟩,
         ⟨(some 44), none, .q (.mv (.t 8))⟩,
         ⟨(some 45), none, .q (.ixs 1 (.t 43) (.t 44))⟩,
         ⟨(some 46), none, .q (.ld false 1 (.t 45))⟩,
         ⟨(some 47), none, .q (.bin .quo (.t 41) (.t 46))⟩,
         ⟨(some 2), none, .q (.mv (.t 47))⟩]))))
     (.reg [⟨(some 15), none, .q (.mv (.t 8))⟩,
       ⟨(some 16), none, .q (.bin .sub (.t 15) (.c (.int .i64 1)))⟩,
       ⟨(some 8), none, .q (.mv (.t 16))⟩]))))))
  (.seq (.reg [⟨(some 48), none, .q (.mv (.t 7))⟩,
     ⟨(some 6), none, .q (.mv (.t 48))⟩])
  .ret))))⟩
theorem l_spec_l01Distance : lowF PA f_spec_l01Distance 3 [.k [1, 2, 3, 7, 8], .s (.take 0 (.take 1 (.take 2 (.take 3 (.take 4 (.take 5 (.take 6 (.take 7 (.take 8 (.take 9 (.take 10 (.take 11 (.take 12 (.take 13 (.take 14 .done)))))))))))))))] = some c_spec_l01Distance := by kernel_rfl
abbrev f_impl_isLinear : FuncId := 60
def c_impl_isLinear : AF := ⟨2, 54, [.t 4],
  (.seq (.reg [⟨(some 2), none, .m (.box (.t 0))⟩,
     ⟨(some 4), none, .q (.mv (.c (.bool false)))⟩])
  (.seq (.reg [⟨(some 11), none, .q (.ld true 1 (.t 2))⟩,
     ⟨(some 12), none, .q (.mv (.t 1))⟩,
     ⟨(some 13), none, .c (.call 82 [(.t 11), (.t 12)])⟩,
     ⟨(some 5), none, .q (.mv (.t 13))⟩])
  (.seq (.seq (.reg [⟨(some 14), none, .q (.ld true 1 (.t 2))⟩,
      ⟨(some 15), none, .c (.call 83 [(.t 14)])⟩,
      ⟨(some 16), none, .q (.un .not (.t 15))⟩,
      ⟨(some 17), none, .q (.mv (.t 16))⟩,
      ⟨(some 18), (some (17, false)), .q (.mv (.t 5))⟩,
      ⟨(some 19), (some (17, false)), .q (.ixs 1 (.t 18) (.c (.int .i64 0)))⟩,
      ⟨(some 20), (some (17, false)), .q (.ld false 1 (.t 19))⟩,
      ⟨(some 21), (some (17, false)), .q (.un .not (.t 20))⟩,
      ⟨(some 22), none, .q (.pick (.t 17) (.c (.bool true)) (.t 21))⟩])
   (.cond (.t 22)
    (.seq (.reg [⟨(some 4), none, .q (.mv (.c (.bool false)))⟩])
    .ret)
    .skip))
  (.seq (.reg [⟨(some 23), none, .q (.ld true 1 (.t 2))⟩,
     ⟨(some 24), none, .q (.mv (.t 1))⟩,
     ⟨(some 25), none, .c (.call 33 [(.t 23), (.t 24)])⟩,
     ⟨(some 6), none, .q (.mv (.t 25))⟩])
  (.seq (.seq (.reg [⟨(some 26), none, .q (.mv (.t 6))⟩,
      ⟨(some 27), none, .q (.len (.t 26))⟩,
      ⟨(some 28), none, .q (.mv (.c (.int .i64 0)))⟩])
   (.block 0 (.loop [2, 5, 6, 26, 27, 28] (.seq (.reg [⟨(some 29), none, .q (.bin .lss (.t 28) (.t 27))⟩])
     (.seq (.cond (.t 29)
       .skip
       (.exit 0))
     (.seq (.block 1 (.seq (.reg [⟨(some 30), none, .q (.mv (.t 28))⟩,
          ⟨(some 31), none, .q (.ixs 8 (.t 26) (.t 28))⟩,
          ⟨(some 32), none, .q (.ld true 8 (.t 31))⟩,
          ⟨(some 8), none, .m (.alloc [(.v (.int .u8 0)), (.v (.int .u8 0)), (.v (.int .u8 0)), (.v (.int .u8 0)), (.v (.int .u8 0)), (.v (.int .u8 0)), (.v (.int .u8 0)), (.v (.int .u8 0))])⟩,
          ⟨(some 7), none, .q (.mv (.t 30))⟩,
          ⟨none, none, .m (.st true 8 (.t 8) (.t 32))⟩])
       (.seq (.reg [⟨(some 33), none, .q (.mv (.t 6))⟩,
          ⟨(some 34), none, .q (.mv (.t 7))⟩,
          ⟨(some 35), none, .q (.bin .add (.t 34) (.c (.int .i64 1)))⟩,
          ⟨(some 36), none, .q (.slc 8 (.t 33) none (some (.t 35)))⟩,
          ⟨(some 37), none, .q (.len (.t 36))⟩,
          ⟨(some 38), none, .q (.mv (.c (.int .i64 0)))⟩])
       (.block 2 (.loop [2, 5, 6, 8, 26, 27, 28, 36, 37, 38] (.seq (.reg [⟨(some 39), none, .q (.bin .lss (.t 38) (.t 37))⟩])
         (.seq (.cond (.t 39)
           .skip
           (.exit 2))
         (.seq (.block 3 (.seq (.reg [⟨(some 40), none, .q (.ixs 8 (.t 36) (.t 38))⟩,
              ⟨(some 41), none, .q (.ld true 8 (.t 40))⟩,
              ⟨(some 10), none, .m (.alloc [(.v (.int .u8 0)), (.v (.int .u8 0)), (.v (.int .u8 0)), (.v (.int .u8 0)), (.v (.int .u8 0)), (.v (.int .u8 0)), (.v (.int .u8 0)), (.v (.int .u8 0))])⟩,
              ⟨none, none, .m (.st true 8 (.t 10) (.t 41))⟩])
           (.seq (.sch (.take 0 ⟨(some 42), none, .q (.mv (.t 5))⟩ (.take 1 ⟨(some 43), none, .q (.ld true 1 (.t 2))⟩ (.take 2 ⟨(some 44), none, .q (.ld true 1 (.t 2))⟩ (.take 3 ⟨(some 45), none, .q (.ld true 8 (.t 8))⟩ (.take 4 ⟨(some 46), none, .q (.ld true 8 (.t 10))⟩ (.one ⟨(some 47), none, .c (.call 85 [(.t 44), (.t 45), (.t 46)])⟩ [4, 3, 2] (.one ⟨(some 48), none, .c (.call 84 [(.t 43), (.t 47)])⟩ [1] (.take 7 ⟨(some 49), none, .q (.ixs 1 (.t 42) (.t 48))⟩ (.take 8 ⟨(some 50), none, .q (.ld false 1 (.t 49))⟩ (.take 9 ⟨(some 51), none, .q (.un .not (.t 50))⟩ .done)))))))))))
           (.cond (.t 51)
            (.seq (.reg [⟨(some 4), none, .q (.mv (.c (.bool false)))⟩])
            .ret)
            .skip))))
         (.reg [⟨(some 52), none, .q (.bin .add (.t 38) (.c (.int .i64 1)))⟩,
           ⟨(some 38), none, .q (.mv (.t 52))⟩])))))))))
     (.reg [⟨(some 53), none, .q (.bin .add (.t 28) (.c (.int .i64 1)))⟩,
       ⟨(some 28), none, .q (.mv (.t 53))⟩])))))))
  (.seq (.reg [⟨(some 4), none, .q (.mv (.c (.bool true)))⟩])
  .ret))))))⟩
theorem l_impl_isLinear : lowF PA f_impl_isLinear 2 [.k [2, 5, 6, 26, 27, 28], .k [2, 5, 6, 8, 26, 27, 28, 36, 37, 38], .s (.take 0 (.take 1 (.take 2 (.take 3 (.take 4 (.one 5 (.one 6 (.take 7 (.take 8 (.take 9 .done))))))))))] = some c_impl_isLinear := by kernel_rfl
abbrev f_impl_places : FuncId := 61
def c_impl_places : AF := ⟨1, 6, [.t 2],
  (.seq (.reg [⟨(some 1), none, .m (.box (.t 0))⟩,
     ⟨(some 2), none, .q (.mv (.c (.int .i64 0)))⟩])
  (.seq (.reg [⟨(some 3), none, .q (.fad 0 (.t 1))⟩,
     ⟨(some 4), none, .q (.ld false 1 (.t 3))⟩,
     ⟨(some 5), none, .q (.len (.t 4))⟩,
     ⟨(some 2), none, .q (.mv (.t 5))⟩])
  .ret))⟩
theorem l_impl_places : lowF PA f_impl_places 1 [] = some c_impl_places := by kernel_rfl
abbrev f_impl_basis : FuncId := 62
def c_impl_basis : AF := ⟨2, 91, [.t 4],
  (.seq (.reg [⟨(some 2), none, .m (.box (.t 0))⟩,
     ⟨(some 4), none, .q (.mv (.c (.slice none 0 0)))⟩])
  (.seq (.reg [⟨(some 18), none, .q (.bld [(.v (.bool false)), (.v (.bool false)), (.v (.bool false)), (.v (.bool false)), (.v (.bool false)), (.v (.bool false)), (.v (.bool false)), (.v (.bool false))] [])⟩,
     ⟨(some 5), none, .m (.alloc [(.v (.bool false)), (.v (.bool false)), (.v (.bool false)), (.v (.bool false)), (.v (.bool false)), (.v (.bool false)), (.v (.bool false)), (.v (.bool false))])⟩,
     ⟨none, none, .m (.st true 8 (.t 5) (.t 18))⟩])
  (.seq (.seq (.reg [⟨(some 19), none, .q (.ld true 1 (.t 2))⟩,
      ⟨(some 20), none, .q (.mv (.t 1))⟩,
      ⟨(some 21), none, .c (.call 33 [(.t 19), (.t 20)])⟩,
      ⟨(some 22), none, .q (.len (.t 21))⟩,
      ⟨(some 23), none, .q (.mv (.c (.int .i64 0)))⟩])
   (.block 0 (.loop [1, 2, 5, 21, 22, 23] (.seq (.reg [⟨(some 24), none, .q (.bin .lss (.t 23) (.t 22))⟩])
     (.seq (.cond (.t 24)
       .skip
       (.exit 0))
     (.seq (.block 1 (.seq (.reg [⟨(some 25), none, .q (.ixs 8 (.t 21) (.t 23))⟩,
          ⟨(some 26), none, .q (.ld true 8 (.t 25))⟩,
          ⟨(some 7), none, .m (.alloc [(.v (.int .u8 0)), (.v (.int .u8 0)), (.v (.int .u8 0)), (.v (.int .u8 0)), (.v (.int .u8 0)), (.v (.int .u8 0)), (.v (.int .u8 0)), (.v (.int .u8 0))])⟩,
          ⟨none, none, .m (.st true 8 (.t 7) (.t 26))⟩])
       (.seq (.reg [⟨(some 27), none, .q (.ld true 8 (.t 7))⟩,
          ⟨(some 28), none, .c (.call 86 [(.t 27)])⟩,
          ⟨(some 8), none, .q (.mv (.t 28))⟩])
       (.seq (.reg [⟨(some 29), none, .q (.mv (.t 8))⟩,
          ⟨(some 30), none, .q (.bin .geq (.t 29) (.c (.int .i64 0)))⟩])
       (.cond (.t 30)
        (.reg [⟨(some 31), none, .q (.mv (.t 8))⟩,
          ⟨(some 32), none, .q (.ixa 8 1 (.t 5) (.t 31))⟩,
          ⟨none, none, .m (.st false 1 (.t 32) (.c (.bool true)))⟩])
        .skip)))))
     (.reg [⟨(some 33), none, .q (.bin .add (.t 23) (.c (.int .i64 1)))⟩,
       ⟨(some 23), none, .q (.mv (.t 33))⟩])))))))
  (.seq (.reg [⟨(some 34), none, .m (.bsl 1 [])⟩,
     ⟨(some 9), none, .q (.mv (.t 34))⟩])
  (.seq (.seq (.reg [⟨(some 35), none, .q (.ld true 8 (.t 5))⟩,
      ⟨(some 36), none, .q (.mv (.c (.int .i64 0)))⟩])
   (.block 2 (.loop [1, 2, 5, 9, 35, 36] (.seq (.reg [⟨(some 37), none, .q (.bin .lss (.t 36) (.c (.int .i64 8)))⟩])
     (.seq (.cond (.t 37)
       .skip
       (.exit 2))
     (.seq (.block 3 (.seq (.reg [⟨(some 38), none, .q (.mv (.t 36))⟩,
          ⟨(some 39), none, .q (.ixv 8 (.t 35) (.t 36))⟩,
          ⟨(some 10), none, .q (.mv (.t 38))⟩,
          ⟨(some 11), none, .q (.mv (.t 39))⟩])
       (.seq (.seq (.reg [⟨(some 40), none, .q (.mv (.t 11))⟩,
           ⟨(some 41), none, .q (.un .not (.t 40))⟩])
        (.cond (.t 41)
         (.exit 3)
         .skip))
       (.seq (.reg [⟨(some 42), none, .q (.mv (.t 1))⟩,
          ⟨(some 43), none, .q (.len (.t 42))⟩,
          ⟨(some 44), none, .q (.mv (.c (.int .i64 0)))⟩])
       (.block 4 (.loop [1, 2, 5, 9, 10, 35, 36, 42, 43, 44] (.seq (.reg [⟨(some 45), none, .q (.bin .lss (.t 44) (.t 43))⟩])
         (.seq (.cond (.t 45)
           .skip
           (.exit 4))
         (.seq (.block 5 (.seq (.reg [⟨(some 46), none, .q (.ixs 1 (.t 42) (.t 44))⟩,
              ⟨(some 47), none, .q (.ld false 1 (.t 46))⟩,
              ⟨(some 13), none, .q (.mv (.t 47))⟩])
           (.seq (.reg [⟨(some 48), none, .q (.ld true 1 (.t 2))⟩,
              ⟨(some 49), none, .q (.mv (.t 13))⟩,
              ⟨(some 50), none, .c (.call 55 [(.t 48), (.t 49)])⟩,
              ⟨(some 14), none, .m (.alloc [(.v (.int .u8 0)), (.v (.int .u8 0)), (.v (.int .u8 0)), (.v (.int .u8 0)), (.v (.int .u8 0)), (.v (.int .u8 0)), (.v (.int .u8 0)), (.v (.int .u8 0))])⟩,
              ⟨none, none, .m (.st true 8 (.t 14) (.t 50))⟩])
           (.seq (.reg [⟨(some 51), none, .q (.ld true 8 (.t 14))⟩,
              ⟨(some 52), none, .c (.call 86 [(.t 51)])⟩,
              ⟨(some 53), none, .q (.mv (.t 10))⟩,
              ⟨(some 54), none, .q (.bin .eql (.t 52) (.t 53))⟩,
              ⟨(some 55), none, .q (.mv (.t 54))⟩,
              ⟨(some 56), (some (55, true)), .q (.mv (.t 10))⟩,
              ⟨(some 57), (some (55, true)), .q (.ixa 8 1 (.t 14) (.t 56))⟩,
              ⟨(some 58), (some (55, true)), .q (.ld false 1 (.t 57))⟩,
              ⟨(some 59), (some (55, true)), .q (.bin .eql (.t 58) (.c (.int .u8 1)))⟩,
              ⟨(some 60), none, .q (.pick (.t 55) (.t 59) (.c (.bool false)))⟩,
              ⟨(some 15), none, .q (.mv (.t 60))⟩])
           (.seq (.seq (.reg [⟨(some 61), none, .q (.ld true 8 (.t 5))⟩,
               ⟨(some 62), none, .q (.mv (.c (.int .i64 0)))⟩])
            (.block 6 (.loop [1, 2, 5, 9, 10, 13, 14, 15, 35, 36, 42, 43, 44, 61, 62] (.seq (.reg [⟨(some 63), none, .q (.bin .lss (.t 62) (.c (.int .i64 8)))⟩])
              (.seq (.cond (.t 63)
                .skip
                (.exit 6))
              (.seq (.block 7 (.seq (.reg [⟨(some 64), none, .q (.mv (.t 62))⟩,
                   ⟨(some 65), none, .q (.ixv 8 (.t 61) (.t 62))⟩,
                   ⟨(some 16), none, .q (.mv (.t 64))⟩,
                   ⟨(some 17), none, .q (.mv (.t 65))⟩])
                (.reg [⟨(some 66), none, .q (.mv (.t 15))⟩,
                  ⟨(some 67), none, .q (.mv (.t 66))⟩,
                  ⟨(some 68), (some (67, true)), .q (.mv (.t 17))⟩,
                  ⟨(some 69), (some (67, true)), .q (.un .not (.t 68))⟩,
                  ⟨(some 70), (some (67, true)), .q (.mv (.t 69))⟩,
                  ⟨(some 71), (some (70, false)), .q (.mv (.t 16))⟩,
                  ⟨(some 72), (some (70, false)), .q (.mv (.t 10))⟩,
                  ⟨(some 73), (some (70, false)), .q (.bin .eql (.t 71) (.t 72))⟩,
                  ⟨(some 74), (some (67, true)), .q (.pick (.t 70) (.c (.bool true)) (.t 73))⟩,
                  ⟨(some 75), (some (67, true)), .q (.mv (.t 74))⟩,
                  ⟨(some 76), (some (75, false)), .q (.mv (.t 16))⟩,
                  ⟨(some 77), (some (75, false)), .q (.ixa 8 1 (.t 14) (.t 76))⟩,
                  ⟨(some 78), (some (75, false)), .q (.ld false 1 (.t 77))⟩,
                  ⟨(some 79), (some (75, false)), .q (.bin .eql (.t 78) (.c (.int .u8 0)))⟩,
                  ⟨(some 80), (some (67, true)), .q (.pick (.t 75) (.c (.bool true)) (.t 79))⟩,
                  ⟨(some 81), none, .q (.pick (.t 67) (.t 80) (.c (.bool false)))⟩,
                  ⟨(some 15), none, .q (.mv (.t 81))⟩])))
              (.reg [⟨(some 82), none, .q (.bin .add (.t 62) (.c (.int .i64 1)))⟩,
                ⟨(some 62), none, .q (.mv (.t 82))⟩])))))))
           (.seq (.reg [⟨(some 83), none, .q (.mv (.t 15))⟩])
           (.cond (.t 83)
            (.reg [⟨(some 84), none, .q (.mv (.t 9))⟩,
              ⟨(some 85), none, .q (.mv (.t 13))⟩,
              ⟨(some 86), none, .m (.bsl 1 [(.t 85)])⟩,
              ⟨(some 87), none, .m (.app 1 8 (.t 84) (.t 86))⟩,
              ⟨(some 9), none, .q (.mv (.t 87))⟩])
            .skip)))))))
         (.reg [⟨(some 88), none, .q (.bin .add (.t 44) (.c (.int .i64 1)))⟩,
           ⟨(some 44), none, .q (.mv (.t 88))⟩]))))))))))
     (.reg [⟨(some 89), none, .q (.bin .add (.t 36) (.c (.int .i64 1)))⟩,
       ⟨(some 36), none, .q (.mv (.t 89))⟩])))))))
  (.seq (.reg [⟨(some 90), none, .q (.mv (.t 9))⟩,
     ⟨(some 4), none, .q (.mv (.t 90))⟩])
  .ret))))))⟩
theorem l_impl_basis : lowF PA f_impl_basis 2 [.k [1, 2, 5, 21, 22, 23], .k [1, 2, 5, 9, 35, 36], .k [1, 2, 5, 9, 10, 35, 36, 42, 43, 44], .k [1, 2, 5, 9, 10, 13, 14, 15, 35, 36, 42, 43, 44, 61, 62]] = some c_impl_basis := by kernel_rfl
abbrev f_impl_dual_1 : FuncId := 63
def c_impl_dual_1 : AF := ⟨3, 9, [.t 4],
  (.seq (.reg [⟨(some 3), none, .m (.box (.t 0))⟩,
     ⟨(some 4), none, .q (.mv (.c (.bool false)))⟩])
  (.seq (.reg [⟨(some 5), none, .q (.ld false 1 (.t 1))⟩,
     ⟨(some 6), none, .q (.mkf 65 [(.t 2), (.t 3)])⟩,
     ⟨(some 7), none, .c (.call 64 [(.t 5), (.t 6)])⟩,
     ⟨(some 8), none, .q (.un .not (.t 7))⟩,
     ⟨(some 4), none, .q (.mv (.t 8))⟩])
  .ret))⟩
theorem l_impl_dual_1 : lowF PA f_impl_dual_1 3 [] = some c_impl_dual_1 := by kernel_rfl
abbrev f_slices_ContainsFunc___impl_digits_impl_digits_ : FuncId := 64
def c_slices_ContainsFunc___impl_digits_impl_digits_ : AF := ⟨2, 9, [.t 4],
  (.seq (.reg [⟨(some 4), none, .q (.mv (.c (.bool false)))⟩])
  (.seq (.reg [⟨(some 5), none, .q (.mv (.t 0))⟩,
     ⟨(some 6), none, .q (.mv (.t 1))⟩,
     ⟨(some 7), none, .c (.call 87 [(.t 5), (.t 6)])⟩,
     ⟨(some 8), none, .q (.bin .geq (.t 7) (.c (.int .i64 0)))⟩,
     ⟨(some 4), none, .q (.mv (.t 8))⟩])
  .ret))⟩
theorem l_slices_ContainsFunc___impl_digits_impl_digits_ : lowF PA f_slices_ContainsFunc___impl_digits_impl_digits_ 2 [] = some c_slices_ContainsFunc___impl_digits_impl_digits_ := by kernel_rfl
abbrev f_impl_dual_1_1 : FuncId := 65
def c_impl_dual_1_1 : AF := ⟨3, 10, [.t 4],
  (.seq (.reg [⟨(some 3), none, .m (.box (.t 0))⟩,
     ⟨(some 4), none, .q (.mv (.c (.bool false)))⟩])
  (.seq (.reg [⟨(some 5), none, .q (.ld true 1 (.t 1))⟩,
     ⟨(some 6), none, .q (.ld true 8 (.t 2))⟩,
     ⟨(some 7), none, .q (.ld true 8 (.t 3))⟩,
     ⟨(some 8), none, .c (.call 66 [(.t 5), (.t 6), (.t 7)])⟩,
     ⟨(some 9), none, .q (.bin .neq (.t 8) (.c (.int .i64 0)))⟩,
     ⟨(some 4), none, .q (.mv (.t 9))⟩])
  .ret))⟩
theorem l_impl_dual_1_1 : lowF PA f_impl_dual_1_1 3 [] = some c_impl_dual_1_1 := by kernel_rfl
abbrev f_impl_products : FuncId := 66
def c_impl_products : AF := ⟨3, 31, [.t 6],
  (.seq (.reg [⟨(some 3), none, .m (.box (.t 0))⟩,
     ⟨(some 4), none, .m (.box (.t 1))⟩,
     ⟨(some 5), none, .m (.box (.t 2))⟩,
     ⟨(some 6), none, .q (.mv (.c (.int .i64 0)))⟩])
  (.seq (.reg [⟨(some 7), none, .q (.mv (.c (.int .i64 0)))⟩])
  (.seq (.seq (.reg [⟨(some 10), none, .q (.ld true 8 (.t 4))⟩,
      ⟨(some 11), none, .q (.mv (.c (.int .i64 0)))⟩])
   (.block 0 (.loop [3, 5, 7, 10, 11] (.seq (.reg [⟨(some 12), none, .q (.bin .lss (.t 11) (.c (.int .i64 8)))⟩])
     (.seq (.cond (.t 12)
       .skip
       (.exit 0))
     (.seq (.block 1 (.seq (.reg [⟨(some 13), none, .q (.mv (.t 11))⟩,
          ⟨(some 14), none, .q (.ixv 8 (.t 10) (.t 11))⟩,
          ⟨(some 8), none, .q (.mv (.t 13))⟩,
          ⟨(some 9), none, .q (.mv (.t 14))⟩])
       (.reg [⟨(some 15), none, .q (.mv (.t 7))⟩,
         ⟨(some 16), none, .q (.mv (.t 9))⟩,
         ⟨(some 17), none, .q (.cvt .i64 (.t 16))⟩,
         ⟨(some 18), none, .q (.mv (.t 8))⟩,
         ⟨(some 19), none, .q (.ixa 8 1 (.t 5) (.t 18))⟩,
         ⟨(some 20), none, .q (.ld false 1 (.t 19))⟩,
         ⟨(some 21), none, .q (.cvt .i64 (.t 20))⟩,
         ⟨(some 22), none, .q (.bin .mul (.t 17) (.t 21))⟩,
         ⟨(some 23), none, .q (.bin .add (.t 15) (.t 22))⟩,
         ⟨(some 7), none, .q (.mv (.t 23))⟩])))
     (.reg [⟨(some 24), none, .q (.bin .add (.t 11) (.c (.int .i64 1)))⟩,
       ⟨(some 11), none, .q (.mv (.t 24))⟩])))))))
  (.seq (.reg [⟨(some 25), none, .q (.mv (.t 7))⟩,
     ⟨(some 26), none, .q (.fad 0 (.t 3))⟩,
     ⟨(some 27), none, .q (.ld false 1 (.t 26))⟩,
     ⟨(some 28), none, .q (.ixs 1 (.t 27) (.c (.int .i64 0)))⟩,
     ⟨(some 29), none, .q (.ld false 1 (.t 28))⟩,
     ⟨(some 30), none, .q (.bin .rem (.t 25) (.t 29))⟩,
     ⟨(some 6), none, .q (.mv (.t 30))⟩])
  .ret))))⟩
theorem l_impl_products : lowF PA f_impl_products 3 [.k [3, 5, 7, 10, 11]] = some c_impl_products := by kernel_rfl
abbrev f_spec_l01Is : FuncId := 67
def c_spec_l01Is : AF := ⟨1, 26, [.t 2],
  (.seq (.reg [⟨(some 1), none, .m (.box (.t 0))⟩,
     ⟨(some 2), none, .q (.mv (.c (.bool false)))⟩])
  (.seq (.seq (.reg [⟨(some 4), none, .q (.fad 0 (.t 1))⟩,
      ⟨(some 5), none, .q (.ld false 1 (.t 4))⟩,
      ⟨(some 6), none, .q (.len (.t 5))⟩,
      ⟨(some 7), none, .c (.call 68 [(.t 6), (.c (.int .i64 1)), (.c (.int .i64 8))])⟩,
      ⟨(some 8), none, .q (.un .not (.t 7))⟩])
   (.cond (.t 8)
    (.seq (.reg [⟨(some 2), none, .q (.mv (.c (.bool false)))⟩])
    .ret)
    .skip))
  (.seq (.seq (.reg [⟨(some 3), none, .q (.mv (.c (.int .i64 0)))⟩])
   (.block 0 (.loop [1, 3] (.seq (.seq (.reg [⟨(some 9), none, .q (.mv (.t 3))⟩,
         ⟨(some 10), none, .q (.fad 0 (.t 1))⟩,
         ⟨(some 11), none, .q (.ld false 1 (.t 10))⟩,
         ⟨(some 12), none, .q (.len (.t 11))⟩,
         ⟨(some 13), none, .q (.bin .lss (.t 9) (.t 12))⟩])
      (.cond (.t 13)
       .skip
       (.exit 0)))
     (.seq (.block 1 (.seq (.reg [⟨(some 16), none, .q (.fad 0 (.t 1))⟩,
          ⟨(some 17), none, .q (.ld false 1 (.t 16))⟩,
          ⟨(some 18), none, .q (.mv (.t 3))⟩,
          ⟨(some 19), none, .q (.ixs 1 (.t 17) (.t 18))⟩,
          ⟨(some 20), none, .q (.ld false 1 (.t 19))⟩,
          ⟨(some 21), none, .c (.call 68 [(.t 20), (.c (.int .i64 2)), (.c (.int .i64 4))])⟩,
          ⟨(some 22), none, .q (.un .not (.t 21))⟩])
       (.cond (.t 22)
        (.seq (.reg [⟨(some 2), none, .q (.mv (.c (.bool false)))⟩])
        .ret)
        .skip)))
     (.reg [⟨(some 14), none, .q (.mv (.t 3))⟩,
       ⟨(some 15), none, .q (.bin .add (.t 14) (.c (.int .i64 1)))⟩,
       ⟨(some 3), none, .q (.mv (.t 15))⟩]))))))
  (.seq (.reg [⟨(some 23), none, .q (.ld true 1 (.t 1))⟩,
     ⟨(some 24), none, .c (.call 69 [(.t 23)])⟩,
     ⟨(some 25), none, .q (.bin .leq (.t 24) (.c (.int .i64 1024)))⟩,
     ⟨(some 2), none, .q (.mv (.t 25))⟩])
  .ret))))⟩
theorem l_spec_l01Is : lowF PA f_spec_l01Is 1 [.k [1, 3]] = some c_spec_l01Is := by kernel_rfl
abbrev f_spec_l01In : FuncId := 68
def c_spec_l01In : AF := ⟨3, 15, [.t 6],
  (.seq (.reg [⟨(some 6), none, .q (.mv (.c (.bool false)))⟩])
  (.seq (.reg [⟨(some 7), none, .q (.mv (.t 0))⟩,
     ⟨(some 8), none, .q (.mv (.t 1))⟩,
     ⟨(some 9), none, .q (.bin .geq (.t 7) (.t 8))⟩,
     ⟨(some 10), none, .q (.mv (.t 9))⟩,
     ⟨(some 11), (some (10, true)), .q (.mv (.t 0))⟩,
     ⟨(some 12), (some (10, true)), .q (.mv (.t 2))⟩,
     ⟨(some 13), (some (10, true)), .q (.bin .leq (.t 11) (.t 12))⟩,
     ⟨(some 14), none, .q (.pick (.t 10) (.t 13) (.c (.bool false)))⟩,
     ⟨(some 6), none, .q (.mv (.t 14))⟩])
  .ret))⟩
theorem l_spec_l01In : lowF PA f_spec_l01In 3 [] = some c_spec_l01In := by kernel_rfl
abbrev f_spec_l01N : FuncId := 69
def c_spec_l01N : AF := ⟨1, 20, [.t 2],
  (.seq (.reg [⟨(some 1), none, .m (.box (.t 0))⟩,
     ⟨(some 2), none, .q (.mv (.c (.int .i64 0)))⟩])
  (.seq (.reg [⟨(some 3), none, .q (.mv (.c (.int .i64 1)))⟩])
  (.seq (.seq (.reg [⟨(some 4), none, .q (.mv (.c (.int .i64 0)))⟩])
   (.block 0 (.loop [1, 3, 4] (.seq (.seq (.reg [⟨(some 5), none, .q (.mv (.t 4))⟩,
         ⟨(some 6), none, .q (.fad 0 (.t 1))⟩,
         ⟨(some 7), none, .q (.ld false 1 (.t 6))⟩,
         ⟨(some 8), none, .q (.len (.t 7))⟩,
         ⟨(some 9), none, .q (.bin .lss (.t 5) (.t 8))⟩])
      (.cond (.t 9)
       .skip
       (.exit 0)))
     (.seq (.block 1 (.reg [⟨(some 12), none, .q (.mv (.t 3))⟩,
         ⟨(some 13), none, .q (.fad 0 (.t 1))⟩,
         ⟨(some 14), none, .q (.ld false 1 (.t 13))⟩,
         ⟨(some 15), none, .q (.mv (.t 4))⟩,
         ⟨(some 16), none, .q (.ixs 1 (.t 14) (.t 15))⟩,
         ⟨(some 17), none, .q (.ld false 1 (.t 16))⟩,
         ⟨(some 18), none, .q (.bin .mul (.t 12) (.t 17))⟩,
         ⟨(some 3), none, .q (.mv (.t 18))⟩]))
     (.reg [⟨(some 10), none, .q (.mv (.t 4))⟩,
       ⟨(some 11), none, .q (.bin .add (.t 10) (.c (.int .i64 1)))⟩,
       ⟨(some 4), none, .q (.mv (.t 11))⟩]))))))
  (.seq (.reg [⟨(some 19), none, .q (.mv (.t 3))⟩,
     ⟨(some 2), none, .q (.mv (.t 19))⟩])
  .ret))))⟩
theorem l_spec_l01N : lowF PA f_spec_l01N 1 [.k [1, 3, 4]] = some c_spec_l01N := by kernel_rfl
abbrev f_spec_l01Code : FuncId := 74
def c_spec_l01Code : AF := ⟨2, 37, [.t 4],
  (.seq (.reg [⟨(some 2), none, .m (.box (.t 0))⟩,
     ⟨(some 4), none, .q (.mv (.c (.bool false)))⟩])
  (.seq (.seq (.reg [⟨(some 5), none, .q (.mv (.c (.int .i64 0)))⟩])
   (.block 0 (.loop [1, 2, 5] (.seq (.seq (.reg [⟨(some 6), none, .q (.mv (.t 5))⟩,
         ⟨(some 7), none, .q (.mv (.t 1))⟩,
         ⟨(some 8), none, .q (.len (.t 7))⟩,
         ⟨(some 9), none, .q (.bin .lss (.t 6) (.t 8))⟩])
      (.cond (.t 9)
       .skip
       (.exit 0)))
     (.seq (.block 1 (.seq (.sch (.take 0 ⟨(some 12), none, .q (.mv (.t 1))⟩ (.take 1 ⟨(some 13), none, .q (.mv (.t 5))⟩ (.take 2 ⟨(some 14), none, .q (.ixs 1 (.t 12) (.t 13))⟩ (.take 3 ⟨(some 15), none, .q (.ld false 1 (.t 14))⟩ (.take 4 ⟨(some 16), none, .q (.ld true 1 (.t 2))⟩ (.one ⟨(some 17), none, .c (.call 69 [(.t 16)])⟩ [4] (.take 6 ⟨(some 18), none, .q (.bin .sub (.t 17) (.c (.int .i64 1)))⟩ (.one ⟨(some 19), none, .c (.call 68 [(.t 15), (.c (.int .i64 0)), (.t 18)])⟩ [3] (.take 8 ⟨(some 20), none, .q (.un .not (.t 19))⟩ (.take 9 ⟨(some 21), none, .q (.mv (.t 20))⟩ (.take 10 ⟨(some 22), (some (21, false)), .q (.mv (.t 5))⟩ (.take 11 ⟨(some 23), (some (21, false)), .q (.bin .gtr (.t 22) (.c (.int .i64 0)))⟩ (.take 12 ⟨(some 24), (some (21, false)), .q (.mv (.t 23))⟩ (.take 13 ⟨(some 25), (some (24, true)), .q (.mv (.t 1))⟩ (.take 14 ⟨(some 26), (some (24, true)), .q (.mv (.t 5))⟩ (.take 15 ⟨(some 27), (some (24, true)), .q (.ixs 1 (.t 25) (.t 26))⟩ (.take 16 ⟨(some 28), (some (24, true)), .q (.ld false 1 (.t 27))⟩ (.take 17 ⟨(some 29), (some (24, true)), .q (.mv (.t 1))⟩ (.take 18 ⟨(some 30), (some (24, true)), .q (.mv (.t 5))⟩ (.take 19 ⟨(some 31), (some (24, true)), .q (.bin .sub (.t 30) (.c (.int .i64 1)))⟩ (.take 20 ⟨(some 32), (some (24, true)), .q (.ixs 1 (.t 29) (.t 31))⟩ (.take 21 ⟨(some 33), (some (24, true)), .q (.ld false 1 (.t 32))⟩ (.take 22 ⟨(some 34), (some (24, true)), .q (.bin .leq (.t 28) (.t 33))⟩ (.take 23 ⟨(some 35), (some (21, false)), .q (.pick (.t 24) (.t 34) (.c (.bool false)))⟩ (.take 24 ⟨(some 36), none, .q (.pick (.t 21) (.c (.bool true)) (.t 35))⟩ .done))))))))))))))))))))))))))
       (.cond (.t 36)
        (.seq (.reg [⟨(some 4), none, .q (.mv (.c (.bool false)))⟩])
        .ret)
        .skip)))
     (.reg [⟨(some 10), none, .q (.mv (.t 5))⟩,
       ⟨(some 11), none, .q (.bin .add (.t 10) (.c (.int .i64 1)))⟩,
       ⟨(some 5), none, .q (.mv (.t 11))⟩]))))))
  (.seq (.reg [⟨(some 4), none, .q (.mv (.c (.bool true)))⟩])
  .ret)))⟩
theorem l_spec_l01Code : lowF PA f_spec_l01Code 2 [.k [1, 2, 5], .s (.take 0 (.take 1 (.take 2 (.take 3 (.take 4 (.one 5 (.take 6 (.one 7 (.take 8 (.take 9 (.take 10 (.take 11 (.take 12 (.take 13 (.take 14 (.take 15 (.take 16 (.take 17 (.take 18 (.take 19 (.take 20 (.take 21 (.take 22 (.take 23 (.take 24 .done)))))))))))))))))))))))))] = some c_spec_l01Code := by kernel_rfl
abbrev f_impl_areWords : FuncId := 76
def c_impl_areWords : AF := ⟨2, 24, [.t 4],
  (.seq (.reg [⟨(some 2), none, .m (.box (.t 0))⟩,
     ⟨(some 4), none, .q (.mv (.c (.bool false)))⟩])
  (.seq (.reg [⟨(some 8), none, .q (.ld true 1 (.t 2))⟩,
     ⟨(some 9), none, .c (.call 77 [(.t 8)])⟩,
     ⟨(some 5), none, .q (.mv (.t 9))⟩])
  (.seq (.seq (.reg [⟨(some 10), none, .q (.mv (.t 1))⟩,
      ⟨(some 11), none, .q (.len (.t 10))⟩,
      ⟨(some 12), none, .q (.mv (.c (.int .i64 0)))⟩])
   (.block 0 (.loop [5, 10, 11, 12] (.seq (.reg [⟨(some 13), none, .q (.bin .lss (.t 12) (.t 11))⟩])
     (.seq (.cond (.t 13)
       .skip
       (.exit 0))
     (.seq (.block 1 (.seq (.reg [⟨(some 14), none, .q (.ixs 1 (.t 10) (.t 12))⟩,
          ⟨(some 15), none, .q (.ld false 1 (.t 14))⟩,
          ⟨(some 7), none, .q (.mv (.t 15))⟩])
       (.seq (.reg [⟨(some 16), none, .q (.mv (.t 7))⟩,
          ⟨(some 17), none, .q (.bin .lss (.t 16) (.c (.int .i64 0)))⟩,
          ⟨(some 18), none, .q (.mv (.t 17))⟩,
          ⟨(some 19), (some (18, false)), .q (.mv (.t 7))⟩,
          ⟨(some 20), (some (18, false)), .q (.mv (.t 5))⟩,
          ⟨(some 21), (some (18, false)), .q (.bin .geq (.t 19) (.t 20))⟩,
          ⟨(some 22), none, .q (.pick (.t 18) (.c (.bool true)) (.t 21))⟩])
       (.cond (.t 22)
        (.seq (.reg [⟨(some 4), none, .q (.mv (.c (.bool false)))⟩])
        .ret)
        .skip))))
     (.reg [⟨(some 23), none, .q (.bin .add (.t 12) (.c (.int .i64 1)))⟩,
       ⟨(some 12), none, .q (.mv (.t 23))⟩])))))))
  (.seq (.reg [⟨(some 4), none, .q (.mv (.c (.bool true)))⟩])
  .ret))))⟩
theorem l_impl_areWords : lowF PA f_impl_areWords 2 [.k [5, 10, 11, 12]] = some c_impl_areWords := by kernel_rfl
abbrev f_impl_count : FuncId := 77
def c_impl_count : AF := ⟨1, 18, [.t 2],
  (.seq (.reg [⟨(some 1), none, .m (.box (.t 0))⟩,
     ⟨(some 2), none, .q (.mv (.c (.int .i64 0)))⟩])
  (.seq (.reg [⟨(some 3), none, .q (.mv (.c (.int .i64 1)))⟩])
  (.seq (.seq (.reg [⟨(some 6), none, .q (.fad 0 (.t 1))⟩,
      ⟨(some 7), none, .q (.ld false 1 (.t 6))⟩,
      ⟨(some 8), none, .q (.len (.t 7))⟩,
      ⟨(some 9), none, .q (.mv (.c (.int .i64 0)))⟩])
   (.block 0 (.loop [3, 7, 8, 9] (.seq (.reg [⟨(some 10), none, .q (.bin .lss (.t 9) (.t 8))⟩])
     (.seq (.cond (.t 10)
       .skip
       (.exit 0))
     (.seq (.block 1 (.seq (.reg [⟨(some 11), none, .q (.ixs 1 (.t 7) (.t 9))⟩,
          ⟨(some 12), none, .q (.ld false 1 (.t 11))⟩,
          ⟨(some 5), none, .q (.mv (.t 12))⟩])
       (.reg [⟨(some 13), none, .q (.mv (.t 3))⟩,
         ⟨(some 14), none, .q (.mv (.t 5))⟩,
         ⟨(some 15), none, .q (.bin .mul (.t 13) (.t 14))⟩,
         ⟨(some 3), none, .q (.mv (.t 15))⟩])))
     (.reg [⟨(some 16), none, .q (.bin .add (.t 9) (.c (.int .i64 1)))⟩,
       ⟨(some 9), none, .q (.mv (.t 16))⟩])))))))
  (.seq (.reg [⟨(some 17), none, .q (.mv (.t 3))⟩,
     ⟨(some 2), none, .q (.mv (.t 17))⟩])
  .ret))))⟩
theorem l_impl_count : lowF PA f_impl_count 1 [.k [3, 7, 8, 9]] = some c_impl_count := by kernel_rfl
abbrev f_impl_allDigits : FuncId := 78
def c_impl_allDigits : AF := ⟨1, 19, [.t 2],
  (.seq (.reg [⟨(some 1), none, .m (.box (.t 0))⟩,
     ⟨(some 2), none, .q (.mv (.c (.slice none 0 0)))⟩])
  (.seq (.reg [⟨(some 5), none, .m (.bsl 8 [])⟩,
     ⟨(some 3), none, .q (.mv (.t 5))⟩])
  (.seq (.seq (.reg [⟨(some 6), none, .q (.ld true 1 (.t 1))⟩,
      ⟨(some 7), none, .c (.call 77 [(.t 6)])⟩,
      ⟨(some 8), none, .q (.mv (.c (.int .i64 0)))⟩])
   (.block 0 (.loop [1, 3, 7, 8] (.seq (.reg [⟨(some 9), none, .q (.bin .lss (.t 8) (.t 7))⟩])
     (.seq (.cond (.t 9)
       .skip
       (.exit 0))
     (.seq (.block 1 (.seq (.reg [⟨(some 10), none, .q (.mv (.t 8))⟩,
          ⟨(some 4), none, .q (.mv (.t 10))⟩])
       (.reg [⟨(some 11), none, .q (.mv (.t 3))⟩,
         ⟨(some 12), none, .q (.ld true 1 (.t 1))⟩,
         ⟨(some 13), none, .q (.mv (.t 4))⟩,
         ⟨(some 14), none, .c (.call 55 [(.t 12), (.t 13)])⟩,
         ⟨(some 15), none, .m (.bsl 8 [(.t 14)])⟩,
         ⟨(some 16), none, .m (.app 8 8 (.t 11) (.t 15))⟩,
         ⟨(some 3), none, .q (.mv (.t 16))⟩])))
     (.reg [⟨(some 17), none, .q (.bin .add (.t 8) (.c (.int .i64 1)))⟩,
       ⟨(some 8), none, .q (.mv (.t 17))⟩])))))))
  (.seq (.reg [⟨(some 18), none, .q (.mv (.t 3))⟩,
     ⟨(some 2), none, .q (.mv (.t 18))⟩])
  .ret))))⟩
theorem l_impl_allDigits : lowF PA f_impl_allDigits 1 [.k [1, 3, 7, 8]] = some c_impl_allDigits := by kernel_rfl
abbrev f_spec_l05Plain : FuncId := 79
def c_spec_l05Plain : AF := ⟨1, 29, [.t 2],
  (.seq (.reg [⟨(some 1), none, .m (.box (.t 0))⟩,
     ⟨(some 2), none, .q (.mv (.c (.bool false)))⟩])
  (.seq (.seq (.reg [⟨(some 4), none, .q (.fad 0 (.t 1))⟩,
      ⟨(some 5), none, .q (.ld false 1 (.t 4))⟩,
      ⟨(some 6), none, .q (.len (.t 5))⟩,
      ⟨(some 7), none, .q (.mv (.c (.int .i64 0)))⟩])
   (.block 0 (.loop [1, 6, 7] (.seq (.reg [⟨(some 8), none, .q (.bin .lss (.t 7) (.t 6))⟩])
     (.seq (.cond (.t 8)
       .skip
       (.exit 0))
     (.seq (.block 1 (.seq (.reg [⟨(some 9), none, .q (.mv (.t 7))⟩,
          ⟨(some 3), none, .q (.mv (.t 9))⟩])
       (.seq (.sch (.take 0 ⟨(some 10), none, .q (.fad 0 (.t 1))⟩ (.take 1 ⟨(some 11), none, .q (.ld false 1 (.t 10))⟩ (.take 2 ⟨(some 12), none, .q (.mv (.t 3))⟩ (.take 3 ⟨(some 13), none, .q (.ixs 1 (.t 11) (.t 12))⟩ (.take 4 ⟨(some 14), none, .q (.ld false 1 (.t 13))⟩ (.take 5 ⟨(some 15), none, .q (.fad 0 (.t 1))⟩ (.take 6 ⟨(some 16), none, .q (.ld false 1 (.t 15))⟩ (.take 7 ⟨(some 17), none, .q (.ixs 1 (.t 16) (.c (.int .i64 0)))⟩ (.take 8 ⟨(some 18), none, .q (.ld false 1 (.t 17))⟩ (.take 9 ⟨(some 19), none, .q (.bin .neq (.t 14) (.t 18))⟩ (.take 10 ⟨(some 20), none, .q (.mv (.t 19))⟩ (.take 11 ⟨(some 21), (some (20, false)), .q (.fad 0 (.t 1))⟩ (.take 12 ⟨(some 22), (some (20, false)), .q (.ld false 1 (.t 21))⟩ (.take 13 ⟨(some 23), (some (20, false)), .q (.mv (.t 3))⟩ (.take 14 ⟨(some 24), (some (20, false)), .q (.ixs 1 (.t 22) (.t 23))⟩ (.take 15 ⟨(some 25), (some (20, false)), .q (.ld false 1 (.t 24))⟩ (.take 16 ⟨(some 26), (some (20, false)), .q (.bin .gtr (.t 25) (.c (.int .i64 3)))⟩ (.take 17 ⟨(some 27), none, .q (.pick (.t 20) (.c (.bool true)) (.t 26))⟩ .done)))))))))))))))))))
       (.cond (.t 27)
        (.seq (.reg [⟨(some 2), none, .q (.mv (.c (.bool false)))⟩])
        .ret)
        .skip))))
     (.reg [⟨(some 28), none, .q (.bin .add (.t 7) (.c (.int .i64 1)))⟩,
       ⟨(some 7), none, .q (.mv (.t 28))⟩])))))))
  (.seq (.reg [⟨(some 2), none, .q (.mv (.c (.bool true)))⟩])
  .ret)))⟩
theorem l_spec_l05Plain : lowF PA f_spec_l05Plain 1 [.k [1, 6, 7], .s (.take 0 (.take 1 (.take 2 (.take 3 (.take 4 (.take 5 (.take 6 (.take 7 (.take 8 (.take 9 (.take 10 (.take 11 (.take 12 (.take 13 (.take 14 (.take 15 (.take 16 (.take 17 .done))))))))))))))))))] = some c_spec_l05Plain := by kernel_rfl
abbrev f_spec_l05Set : FuncId := 80
def c_spec_l05Set : AF := ⟨2, 23, [.t 4],
  (.seq (.reg [⟨(some 2), none, .m (.box (.t 0))⟩,
     ⟨(some 4), none, .q (.mv (.c (.slice none 0 0)))⟩])
  (.seq (.reg [⟨(some 7), none, .q (.ld true 1 (.t 2))⟩,
     ⟨(some 8), none, .c (.call 69 [(.t 7)])⟩,
     ⟨(some 9), none, .m (.mks 1 (.v (.bool false)) 1 (.t 8) (.t 8))⟩,
     ⟨(some 5), none, .q (.mv (.t 9))⟩])
  (.seq (.seq (.reg [⟨(some 10), none, .q (.mv (.t 1))⟩,
      ⟨(some 11), none, .q (.len (.t 10))⟩,
      ⟨(some 12), none, .q (.mv (.c (.int .i64 0)))⟩])
   (.block 0 (.loop [1, 5, 11, 12] (.seq (.reg [⟨(some 13), none, .q (.bin .lss (.t 12) (.t 11))⟩])
     (.seq (.cond (.t 13)
       .skip
       (.exit 0))
     (.seq (.block 1 (.seq (.reg [⟨(some 14), none, .q (.mv (.t 12))⟩,
          ⟨(some 6), none, .q (.mv (.t 14))⟩])
       (.reg [⟨(some 15), none, .q (.mv (.t 5))⟩,
         ⟨(some 16), none, .q (.mv (.t 1))⟩,
         ⟨(some 17), none, .q (.mv (.t 6))⟩,
         ⟨(some 18), none, .q (.ixs 1 (.t 16) (.t 17))⟩,
         ⟨(some 19), none, .q (.ld false 1 (.t 18))⟩,
         ⟨(some 20), none, .q (.ixs 1 (.t 15) (.t 19))⟩,
         ⟨none, none, .m (.st false 1 (.t 20) (.c (.bool true)))⟩])))
     (.reg [⟨(some 21), none, .q (.bin .add (.t 12) (.c (.int .i64 1)))⟩,
       ⟨(some 12), none, .q (.mv (.t 21))⟩])))))))
  (.seq (.reg [⟨(some 22), none, .q (.mv (.t 5))⟩,
     ⟨(some 4), none, .q (.mv (.t 22))⟩])
  .ret))))⟩
theorem l_spec_l05Set : lowF PA f_spec_l05Set 2 [.k [1, 5, 11, 12]] = some c_spec_l05Set := by kernel_rfl
abbrev f_spec_l01Sum : FuncId := 81
def c_spec_l01Sum : AF := ⟨3, 43, [.t 6],
  (.seq (.reg [⟨(some 3), none, .m (.box (.t 0))⟩,
     ⟨(some 6), none, .q (.mv (.c (.int .i64 0)))⟩])
  (.seq (.sch (.take 0 ⟨(some 10), none, .q (.ld true 1 (.t 3))⟩ (.take 1 ⟨(some 11), none, .q (.mv (.t 1))⟩ (.take 3 ⟨(some 13), none, .q (.ld true 1 (.t 3))⟩ (.take 4 ⟨(some 14), none, .q (.mv (.t 2))⟩ (.one ⟨(some 12), none, .c (.call 90 [(.t 10), (.t 11)])⟩ [0] (.one ⟨(some 15), none, .c (.call 90 [(.t 13), (.t 14)])⟩ [3] (.take 6 ⟨(some 7), none, .q (.mv (.t 12))⟩ (.take 7 ⟨(some 8), none, .q (.mv (.t 15))⟩ .done)))))))))
  (.seq (.seq (.reg [⟨(some 16), none, .q (.mv (.t 7))⟩,
      ⟨(some 17), none, .q (.len (.t 16))⟩,
      ⟨(some 18), none, .q (.mv (.c (.int .i64 0)))⟩])
   (.block 0 (.loop [3, 7, 8, 17, 18] (.seq (.reg [⟨(some 19), none, .q (.bin .lss (.t 18) (.t 17))⟩])
     (.seq (.cond (.t 19)
       .skip
       (.exit 0))
     (.seq (.block 1 (.seq (.reg [⟨(some 20), none, .q (.mv (.t 18))⟩,
          ⟨(some 9), none, .q (.mv (.t 20))⟩])
       (.sch (.take 0 ⟨(some 21), none, .q (.mv (.t 7))⟩ (.take 1 ⟨(some 22), none, .q (.mv (.t 9))⟩ (.take 2 ⟨(some 23), none, .q (.mv (.t 7))⟩ (.take 3 ⟨(some 24), none, .q (.mv (.t 9))⟩ (.take 4 ⟨(some 25), none, .q (.ixs 1 (.t 23) (.t 24))⟩ (.take 5 ⟨(some 26), none, .q (.ld false 1 (.t 25))⟩ (.take 6 ⟨(some 27), none, .q (.mv (.t 8))⟩ (.take 7 ⟨(some 28), none, .q (.mv (.t 9))⟩ (.take 8 ⟨(some 29), none, .q (.ixs 1 (.t 27) (.t 28))⟩ (.take 9 ⟨(some 30), none, .q (.ld false 1 (.t 29))⟩ (.take 10 ⟨(some 31), none, .q (.bin .add (.t 26) (.t 30))⟩ (.take 11 ⟨(some 32), none, .q (.fad 0 (.t 3))⟩ (.take 12 ⟨(some 33), none, .q (.ld false 1 (.t 32))⟩ (.take 13 ⟨(some 34), none, .q (.mv (.t 9))⟩ (.take 14 ⟨(some 35), none, .q (.ixs 1 (.t 33) (.t 34))⟩ (.take 15 ⟨(some 36), none, .q (.ld false 1 (.t 35))⟩ (.take 16 ⟨(some 37), none, .q (.bin .rem (.t 31) (.t 36))⟩ (.take 17 ⟨(some 38), none, .q (.ixs 1 (.t 21) (.t 22))⟩ (.one ⟨none, none, .m (.st false 1 (.t 38) (.t 37))⟩ [15, 12, 9, 5] .done))))))))))))))))))))))
     (.reg [⟨(some 39), none, .q (.bin .add (.t 18) (.c (.int .i64 1)))⟩,
       ⟨(some 18), none, .q (.mv (.t 39))⟩])))))))
  (.seq (.reg [⟨(some 40), none, .q (.ld true 1 (.t 3))⟩,
     ⟨(some 41), none, .q (.mv (.t 7))⟩,
     ⟨(some 42), none, .c (.call 91 [(.t 40), (.t 41)])⟩,
     ⟨(some 6), none, .q (.mv (.t 42))⟩])
  .ret))))⟩
theorem l_spec_l01Sum : lowF PA f_spec_l01Sum 3 [.s (.take 0 (.take 1 (.take 3 (.take 4 (.one 2 (.one 5 (.take 6 (.take 7 .done)))))))), .k [3, 7, 8, 17, 18], .s (.take 0 (.take 1 (.take 2 (.take 3 (.take 4 (.take 5 (.take 6 (.take 7 (.take 8 (.take 9 (.take 10 (.take 11 (.take 12 (.take 13 (.take 14 (.take 15 (.take 16 (.take 17 (.one 18 .done)))))))))))))))))))] = some c_spec_l01Sum := by kernel_rfl
abbrev f_impl_marks : FuncId := 82
def c_impl_marks : AF := ⟨2, 22, [.t 4],
  (.seq (.reg [⟨(some 2), none, .m (.box (.t 0))⟩,
     ⟨(some 4), none, .q (.mv (.c (.slice none 0 0)))⟩])
  (.seq (.reg [⟨(some 8), none, .q (.ld true 1 (.t 2))⟩,
     ⟨(some 9), none, .c (.call 77 [(.t 8)])⟩,
     ⟨(some 10), none, .m (.mks 1 (.v (.bool false)) 1 (.t 9) (.t 9))⟩,
     ⟨(some 5), none, .q (.mv (.t 10))⟩])
  (.seq (.seq (.reg [⟨(some 11), none, .q (.mv (.t 1))⟩,
      ⟨(some 12), none, .q (.len (.t 11))⟩,
      ⟨(some 13), none, .q (.mv (.c (.int .i64 0)))⟩])
   (.block 0 (.loop [5, 11, 12, 13] (.seq (.reg [⟨(some 14), none, .q (.bin .lss (.t 13) (.t 12))⟩])
     (.seq (.cond (.t 14)
       .skip
       (.exit 0))
     (.seq (.block 1 (.seq (.reg [⟨(some 15), none, .q (.ixs 1 (.t 11) (.t 13))⟩,
          ⟨(some 16), none, .q (.ld false 1 (.t 15))⟩,
          ⟨(some 7), none, .q (.mv (.t 16))⟩])
       (.reg [⟨(some 17), none, .q (.mv (.t 5))⟩,
         ⟨(some 18), none, .q (.mv (.t 7))⟩,
         ⟨(some 19), none, .q (.ixs 1 (.t 17) (.t 18))⟩,
         ⟨none, none, .m (.st false 1 (.t 19) (.c (.bool true)))⟩])))
     (.reg [⟨(some 20), none, .q (.bin .add (.t 13) (.c (.int .i64 1)))⟩,
       ⟨(some 13), none, .q (.mv (.t 20))⟩])))))))
  (.seq (.reg [⟨(some 21), none, .q (.mv (.t 5))⟩,
     ⟨(some 4), none, .q (.mv (.t 21))⟩])
  .ret))))⟩
theorem l_impl_marks : lowF PA f_impl_marks 2 [.k [5, 11, 12, 13]] = some c_impl_marks := by kernel_rfl
abbrev f_impl_isPlain : FuncId := 83
def c_impl_isPlain : AF := ⟨1, 17, [.t 2],
  (.seq (.reg [⟨(some 1), none, .m (.box (.t 0))⟩,
     ⟨(some 2), none, .q (.mv (.c (.bool false)))⟩])
  (.seq (.reg [⟨(some 4), none, .q (.fad 0 (.t 1))⟩,
     ⟨(some 5), none, .q (.ld false 1 (.t 4))⟩,
     ⟨(some 6), none, .q (.ixs 1 (.t 5) (.c (.int .i64 0)))⟩,
     ⟨(some 7), none, .q (.ld false 1 (.t 6))⟩,
     ⟨(some 3), none, .m (.alloc [(.v (.int .i64 0))])⟩,
     ⟨none, none, .m (.st false 1 (.t 3) (.t 7))⟩])
  (.seq (.reg [⟨(some 8), none, .q (.ld false 1 (.t 3))⟩,
     ⟨(some 9), none, .q (.bin .leq (.t 8) (.c (.int .i64 3)))⟩,
     ⟨(some 10), none, .q (.mv (.t 9))⟩,
     ⟨(some 11), (some (10, true)), .q (.fad 0 (.t 1))⟩,
     ⟨(some 12), (some (10, true)), .q (.ld false 1 (.t 11))⟩,
     ⟨(some 13), (some (10, true)), .q (.mkf 93 [(.t 3)])⟩,
     ⟨(some 14), (some (10, true)), .c (.call 92 [(.t 12), (.t 13)])⟩,
     ⟨(some 15), (some (10, true)), .q (.un .not (.t 14))⟩,
     ⟨(some 16), none, .q (.pick (.t 10) (.t 15) (.c (.bool false)))⟩,
     ⟨(some 2), none, .q (.mv (.t 16))⟩])
  .ret)))⟩
theorem l_impl_isPlain : lowF PA f_impl_isPlain 1 [] = some c_impl_isPlain := by kernel_rfl
abbrev f_impl_wordOf : FuncId := 84
def c_impl_wordOf : AF := ⟨2, 26, [.t 4],
  (.seq (.reg [⟨(some 2), none, .m (.box (.t 0))⟩,
     ⟨(some 3), none, .m (.box (.t 1))⟩,
     ⟨(some 4), none, .q (.mv (.c (.int .i64 0)))⟩])
  (.seq (.reg [⟨(some 5), none, .q (.mv (.c (.int .i64 0)))⟩])
  (.seq (.seq (.reg [⟨(some 8), none, .q (.fad 0 (.t 2))⟩,
      ⟨(some 9), none, .q (.ld false 1 (.t 8))⟩,
      ⟨(some 10), none, .q (.len (.t 9))⟩,
      ⟨(some 11), none, .q (.mv (.c (.int .i64 0)))⟩])
   (.block 0 (.loop [3, 5, 9, 10, 11] (.seq (.reg [⟨(some 12), none, .q (.bin .lss (.t 11) (.t 10))⟩])
     (.seq (.cond (.t 12)
       .skip
       (.exit 0))
     (.seq (.block 1 (.seq (.reg [⟨(some 13), none, .q (.mv (.t 11))⟩,
          ⟨(some 14), none, .q (.ixs 1 (.t 9) (.t 11))⟩,
          ⟨(some 15), none, .q (.ld false 1 (.t 14))⟩,
          ⟨(some 6), none, .q (.mv (.t 13))⟩,
          ⟨(some 7), none, .q (.mv (.t 15))⟩])
       (.reg [⟨(some 16), none, .q (.mv (.t 5))⟩,
         ⟨(some 17), none, .q (.mv (.t 7))⟩,
         ⟨(some 18), none, .q (.bin .mul (.t 16) (.t 17))⟩,
         ⟨(some 19), none, .q (.mv (.t 6))⟩,
         ⟨(some 20), none, .q (.ixa 8 1 (.t 3) (.t 19))⟩,
         ⟨(some 21), none, .q (.ld false 1 (.t 20))⟩,
         ⟨(some 22), none, .q (.cvt .i64 (.t 21))⟩,
         ⟨(some 23), none, .q (.bin .add (.t 18) (.t 22))⟩,
         ⟨(some 5), none, .q (.mv (.t 23))⟩])))
     (.reg [⟨(some 24), none, .q (.bin .add (.t 11) (.c (.int .i64 1)))⟩,
       ⟨(some 11), none, .q (.mv (.t 24))⟩])))))))
  (.seq (.reg [⟨(some 25), none, .q (.mv (.t 5))⟩,
     ⟨(some 4), none, .q (.mv (.t 25))⟩])
  .ret))))⟩
theorem l_impl_wordOf : lowF PA f_impl_wordOf 2 [.k [3, 5, 9, 10, 11]] = some c_impl_wordOf := by kernel_rfl
abbrev f_impl_sumOf : FuncId := 85
def c_impl_sumOf : AF := ⟨3, 35, [.c 6 true 8],
  (.seq (.reg [⟨(some 3), none, .m (.box (.t 0))⟩,
     ⟨(some 4), none, .m (.box (.t 1))⟩,
     ⟨(some 5), none, .m (.box (.t 2))⟩,
     ⟨(some 6), none, .m (.alloc [(.v (.int .u8 0)), (.v (.int .u8 0)), (.v (.int .u8 0)), (.v (.int .u8 0)), (.v (.int .u8 0)), (.v (.int .u8 0)), (.v (.int .u8 0)), (.v (.int .u8 0))])⟩])
  (.seq (.reg [⟨(some 10), none, .q (.bld [(.v (.int .u8 0)), (.v (.int .u8 0)), (.v (.int .u8 0)), (.v (.int .u8 0)), (.v (.int .u8 0)), (.v (.int .u8 0)), (.v (.int .u8 0)), (.v (.int .u8 0))] [])⟩,
     ⟨(some 7), none, .m (.alloc [(.v (.int .u8 0)), (.v (.int .u8 0)), (.v (.int .u8 0)), (.v (.int .u8 0)), (.v (.int .u8 0)), (.v (.int .u8 0)), (.v (.int .u8 0)), (.v (.int .u8 0))])⟩,
     ⟨none, none, .m (.st true 8 (.t 7) (.t 10))⟩])
  (.seq (.seq (.reg [⟨(some 11), none, .q (.fad 0 (.t 3))⟩,
      ⟨(some 12), none, .q (.ld false 1 (.t 11))⟩,
      ⟨(some 13), none, .q (.len (.t 12))⟩,
      ⟨(some 14), none, .q (.mv (.c (.int .i64 0)))⟩])
   (.block 0 (.loop [4, 5, 6, 7, 12, 13, 14] (.seq (.reg [⟨(some 15), none, .q (.bin .lss (.t 14) (.t 13))⟩])
     (.seq (.cond (.t 15)
       .skip
       (.exit 0))
     (.seq (.block 1 (.seq (.reg [⟨(some 16), none, .q (.mv (.t 14))⟩,
          ⟨(some 17), none, .q (.ixs 1 (.t 12) (.t 14))⟩,
          ⟨(some 18), none, .q (.ld false 1 (.t 17))⟩,
          ⟨(some 8), none, .q (.mv (.t 16))⟩,
          ⟨(some 9), none, .q (.mv (.t 18))⟩])
       (.sch (.take 0 ⟨(some 19), none, .q (.mv (.t 8))⟩ (.take 1 ⟨(some 20), none, .q (.mv (.t 8))⟩ (.take 2 ⟨(some 21), none, .q (.ixa 8 1 (.t 4) (.t 20))⟩ (.take 3 ⟨(some 22), none, .q (.ld false 1 (.t 21))⟩ (.take 4 ⟨(some 23), none, .q (.cvt .i64 (.t 22))⟩ (.take 5 ⟨(some 24), none, .q (.mv (.t 8))⟩ (.take 6 ⟨(some 25), none, .q (.ixa 8 1 (.t 5) (.t 24))⟩ (.take 7 ⟨(some 26), none, .q (.ld false 1 (.t 25))⟩ (.take 8 ⟨(some 27), none, .q (.cvt .i64 (.t 26))⟩ (.take 9 ⟨(some 28), none, .q (.bin .add (.t 23) (.t 27))⟩ (.take 10 ⟨(some 29), none, .q (.mv (.t 9))⟩ (.take 11 ⟨(some 30), none, .q (.bin .rem (.t 28) (.t 29))⟩ (.take 12 ⟨(some 31), none, .q (.cvt .u8 (.t 30))⟩ (.take 13 ⟨(some 32), none, .q (.ixa 8 1 (.t 7) (.t 19))⟩ (.one ⟨none, none, .m (.st false 1 (.t 32) (.t 31))⟩ [7, 3] .done))))))))))))))))))
     (.reg [⟨(some 33), none, .q (.bin .add (.t 14) (.c (.int .i64 1)))⟩,
       ⟨(some 14), none, .q (.mv (.t 33))⟩])))))))
  (.seq (.reg [⟨(some 34), none, .q (.ld true 8 (.t 7))⟩,
     ⟨none, none, .m (.st true 8 (.t 6) (.t 34))⟩])
  .ret))))⟩
theorem l_impl_sumOf : lowF PA f_impl_sumOf 3 [.k [4, 5, 6, 7, 12, 13, 14], .s (.take 0 (.take 1 (.take 2 (.take 3 (.take 4 (.take 5 (.take 6 (.take 7 (.take 8 (.take 9 (.take 10 (.take 11 (.take 12 (.take 13 (.one 14 .done)))))))))))))))] = some c_impl_sumOf := by kernel_rfl
abbrev f_impl_firstDigit : FuncId := 86
def c_impl_firstDigit : AF := ⟨1, 5, [.t 2],
  (.seq (.reg [⟨(some 1), none, .m (.box (.t 0))⟩,
     ⟨(some 2), none, .q (.mv (.c (.int .i64 0)))⟩])
  (.seq (.reg [⟨(some 3), none, .m (.sla 8 1 (.t 1))⟩,
     ⟨(some 4), none, .c (.call 94 [(.t 3), (.f 95)])⟩,
     ⟨(some 2), none, .q (.mv (.t 4))⟩])
  .ret))⟩
theorem l_impl_firstDigit : lowF PA f_impl_firstDigit 1 [] = some c_impl_firstDigit := by kernel_rfl
abbrev f_slices_IndexFunc___impl_digits_impl_digits_ : FuncId := 87
def c_slices_IndexFunc___impl_digits_impl_digits_ : AF := ⟨2, 19, [.t 4],
  (.seq (.reg [⟨(some 4), none, .q (.mv (.c (.int .i64 0)))⟩])
  (.seq (.seq (.reg [⟨(some 6), none, .q (.mv (.t 0))⟩,
      ⟨(some 7), none, .q (.len (.t 6))⟩,
      ⟨(some 8), none, .q (.mv (.c (.int .i64 0)))⟩])
   (.block 0 (.loop [0, 1, 7, 8] (.seq (.reg [⟨(some 9), none, .q (.bin .lss (.t 8) (.t 7))⟩])
     (.seq (.cond (.t 9)
       .skip
       (.exit 0))
     (.seq (.block 1 (.seq (.reg [⟨(some 10), none, .q (.mv (.t 8))⟩,
          ⟨(some 5), none, .q (.mv (.t 10))⟩])
       (.seq (.reg [⟨(some 11), none, .q (.mv (.t 1))⟩,
          ⟨(some 12), none, .q (.mv (.t 0))⟩,
          ⟨(some 13), none, .q (.mv (.t 5))⟩,
          ⟨(some 14), none, .q (.ixs 8 (.t 12) (.t 13))⟩,
          ⟨(some 15), none, .q (.ld true 8 (.t 14))⟩,
          ⟨(some 16), none, .c (.cav (.t 11) [(.t 15)])⟩])
       (.cond (.t 16)
        (.seq (.reg [⟨(some 17), none, .q (.mv (.t 5))⟩,
           ⟨(some 4), none, .q (.mv (.t 17))⟩])
        .ret)
        .skip))))
     (.reg [⟨(some 18), none, .q (.bin .add (.t 8) (.c (.int .i64 1)))⟩,
       ⟨(some 8), none, .q (.mv (.t 18))⟩])))))))
  (.seq (.reg [⟨(some 4), none, .q (.mv (.c (.int .i64 (-1))))⟩])
  .ret)))⟩
theorem l_slices_IndexFunc___impl_digits_impl_digits_ : lowF PA f_slices_IndexFunc___impl_digits_impl_digits_ 2 [.k [0, 1, 7, 8]] = some c_slices_IndexFunc___impl_digits_impl_digits_ := by kernel_rfl
abbrev f_spec_l01Digits : FuncId := 90
def c_spec_l01Digits : AF := ⟨2, 37, [.t 4],
  (.seq (.reg [⟨(some 2), none, .m (.box (.t 0))⟩,
     ⟨(some 4), none, .q (.mv (.c (.slice none 0 0)))⟩])
  (.seq (.reg [⟨(some 7), none, .q (.fad 0 (.t 2))⟩,
     ⟨(some 8), none, .q (.ld false 1 (.t 7))⟩,
     ⟨(some 9), none, .q (.len (.t 8))⟩,
     ⟨(some 10), none, .m (.mks 1 (.v (.int .i64 0)) 8 (.t 9) (.t 9))⟩,
     ⟨(some 5), none, .q (.mv (.t 10))⟩])
  (.seq (.seq (.reg [⟨(some 11), none, .q (.fad 0 (.t 2))⟩,
      ⟨(some 12), none, .q (.ld false 1 (.t 11))⟩,
      ⟨(some 13), none, .q (.len (.t 12))⟩,
      ⟨(some 14), none, .q (.bin .sub (.t 13) (.c (.int .i64 1)))⟩,
      ⟨(some 6), none, .q (.mv (.t 14))⟩])
   (.block 0 (.loop [1, 2, 5, 6] (.seq (.seq (.reg [⟨(some 15), none, .q (.mv (.t 6))⟩,
         ⟨(some 16), none, .q (.bin .geq (.t 15) (.c (.int .i64 0)))⟩])
      (.cond (.t 16)
       .skip
       (.exit 0)))
     (.seq (.block 1 (.seq (.reg [⟨(some 19), none, .q (.mv (.t 5))⟩,
          ⟨(some 20), none, .q (.mv (.t 6))⟩,
          ⟨(some 21), none, .q (.mv (.t 1))⟩,
          ⟨(some 22), none, .q (.fad 0 (.t 2))⟩,
          ⟨(some 23), none, .q (.ld false 1 (.t 22))⟩,
          ⟨(some 24), none, .q (.mv (.t 6))⟩,
          ⟨(some 25), none, .q (.ixs 1 (.t 23) (.t 24))⟩,
          ⟨(some 26), none, .q (.ld false 1 (.t 25))⟩,
          ⟨(some 27), none, .q (.bin .rem (.t 21) (.t 26))⟩,
          ⟨(some 28), none, .q (.ixs 1 (.t 19) (.t 20))⟩,
          ⟨none, none, .m (.st false 1 (.t 28) (.t 27))⟩])
       (.reg [⟨(some 29), none, .q (.mv (.t 1))⟩,
         ⟨(some 30), none, .q (.fad 0 (.t 2))⟩,
         ⟨(some 31), none, .q (.ld false 1 (.t 30))⟩,
         ⟨(some 32), none, .q (.mv (.t 6))⟩,
         ⟨(some 33), none, .q (.ixs 1 (.t 31) (.t 32))⟩,
         ⟨(some 34), none, .q (.ld false 1 (.t 33))⟩,
         ⟨(some 35), none, .q (.bin .quo (.t 29) (.t 34))⟩,
         ⟨(some 1), none, .q (.mv (.t 35))⟩])))
     (.reg [⟨(some 17), none, .q (.mv (.t 6))⟩,
       ⟨(some 18), none, .q (.bin .sub (.t 17) (.c (.int .i64 1)))⟩,
       ⟨(some 6), none, .q (.mv (.t 18))⟩]))))))
  (.seq (.reg [⟨(some 36), none, .q (.mv (.t 5))⟩,
     ⟨(some 4), none, .q (.mv (.t 36))⟩])
  .ret))))⟩
theorem l_spec_l01Digits : lowF PA f_spec_l01Digits 2 [.k [1, 2, 5, 6]] = some c_spec_l01Digits := by kernel_rfl
abbrev f_spec_l01Word : FuncId := 91
def c_spec_l01Word : AF := ⟨2, 26, [.t 4],
  (.seq (.reg [⟨(some 2), none, .m (.box (.t 0))⟩,
     ⟨(some 4), none, .q (.mv (.c (.int .i64 0)))⟩])
  (.seq (.reg [⟨(some 5), none, .q (.mv (.c (.int .i64 0)))⟩])
  (.seq (.seq (.reg [⟨(some 6), none, .q (.mv (.c (.int .i64 0)))⟩])
   (.block 0 (.loop [1, 2, 5, 6] (.seq (.seq (.reg [⟨(some 7), none, .q (.mv (.t 6))⟩,
         ⟨(some 8), none, .q (.mv (.t 1))⟩,
         ⟨(some 9), none, .q (.len (.t 8))⟩,
         ⟨(some 10), none, .q (.bin .lss (.t 7) (.t 9))⟩])
      (.cond (.t 10)
       .skip
       (.exit 0)))
     (.seq (.block 1 (.sch (.take 0 ⟨(some 13), none, .q (.mv (.t 5))⟩ (.take 1 ⟨(some 14), none, .q (.fad 0 (.t 2))⟩ (.take 2 ⟨(some 15), none, .q (.ld false 1 (.t 14))⟩ (.take 3 ⟨(some 16), none, .q (.mv (.t 6))⟩ (.take 4 ⟨(some 17), none, .q (.ixs 1 (.t 15) (.t 16))⟩ (.take 5 ⟨(some 18), none, .q (.ld false 1 (.t 17))⟩ (.take 6 ⟨(some 19), none, .q (.bin .mul (.t 13) (.t 18))⟩ (.take 7 ⟨(some 20), none, .q (.mv (.t 1))⟩ (.take 8 ⟨(some 21), none, .q (.mv (.t 6))⟩ (.take 9 ⟨(some 22), none, .q (.ixs 1 (.t 20) (.t 21))⟩ (.take 10 ⟨(some 23), none, .q (.ld false 1 (.t 22))⟩ (.take 11 ⟨(some 24), none, .q (.bin .add (.t 19) (.t 23))⟩ (.take 12 ⟨(some 5), none, .q (.mv (.t 24))⟩ .done)))))))))))))))
     (.reg [⟨(some 11), none, .q (.mv (.t 6))⟩,
       ⟨(some 12), none, .q (.bin .add (.t 11) (.c (.int .i64 1)))⟩,
       ⟨(some 6), none, .q (.mv (.t 12))⟩]))))))
  (.seq (.reg [⟨(some 25), none, .q (.mv (.t 5))⟩,
     ⟨(some 4), none, .q (.mv (.t 25))⟩])
  .ret))))⟩
theorem l_spec_l01Word : lowF PA f_spec_l01Word 2 [.k [1, 2, 5, 6], .s (.take 0 (.take 1 (.take 2 (.take 3 (.take 4 (.take 5 (.take 6 (.take 7 (.take 8 (.take 9 (.take 10 (.take 11 (.take 12 .done)))))))))))))] = some c_spec_l01Word := by kernel_rfl
abbrev f_slices_ContainsFunc___int64_int64_ : FuncId := 92
def c_slices_ContainsFunc___int64_int64_ : AF := ⟨2, 9, [.t 4],
  (.seq (.reg [⟨(some 4), none, .q (.mv (.c (.bool false)))⟩])
  (.seq (.reg [⟨(some 5), none, .q (.mv (.t 0))⟩,
     ⟨(some 6), none, .q (.mv (.t 1))⟩,
     ⟨(some 7), none, .c (.call 107 [(.t 5), (.t 6)])⟩,
     ⟨(some 8), none, .q (.bin .geq (.t 7) (.c (.int .i64 0)))⟩,
     ⟨(some 4), none, .q (.mv (.t 8))⟩])
  .ret))⟩
theorem l_slices_ContainsFunc___int64_int64_ : lowF PA f_slices_ContainsFunc___int64_int64_ 2 [] = some c_slices_ContainsFunc___int64_int64_ := by kernel_rfl
abbrev f_impl_isPlain_1 : FuncId := 93
def c_impl_isPlain_1 : AF := ⟨2, 7, [.t 3],
  (.seq (.reg [⟨(some 3), none, .q (.mv (.c (.bool false)))⟩])
  (.seq (.reg [⟨(some 4), none, .q (.mv (.t 0))⟩,
     ⟨(some 5), none, .q (.ld false 1 (.t 1))⟩,
     ⟨(some 6), none, .q (.bin .neq (.t 4) (.t 5))⟩,
     ⟨(some 3), none, .q (.mv (.t 6))⟩])
  .ret))⟩
theorem l_impl_isPlain_1 : lowF PA f_impl_isPlain_1 2 [] = some c_impl_isPlain_1 := by kernel_rfl
abbrev f_slices_IndexFunc___byte_byte_ : FuncId := 94
def c_slices_IndexFunc___byte_byte_ : AF := ⟨2, 19, [.t 4],
  (.seq (.reg [⟨(some 4), none, .q (.mv (.c (.int .i64 0)))⟩])
  (.seq (.seq (.reg [⟨(some 6), none, .q (.mv (.t 0))⟩,
      ⟨(some 7), none, .q (.len (.t 6))⟩,
      ⟨(some 8), none, .q (.mv (.c (.int .i64 0)))⟩])
   (.block 0 (.loop [0, 1, 7, 8] (.seq (.reg [⟨(some 9), none, .q (.bin .lss (.t 8) (.t 7))⟩])
     (.seq (.cond (.t 9)
       .skip
       (.exit 0))
     (.seq (.block 1 (.seq (.reg [⟨(some 10), none, .q (.mv (.t 8))⟩,
          ⟨(some 5), none, .q (.mv (.t 10))⟩])
       (.seq (.reg [⟨(some 11), none, .q (.mv (.t 1))⟩,
          ⟨(some 12), none, .q (.mv (.t 0))⟩,
          ⟨(some 13), none, .q (.mv (.t 5))⟩,
          ⟨(some 14), none, .q (.ixs 1 (.t 12) (.t 13))⟩,
          ⟨(some 15), none, .q (.ld false 1 (.t 14))⟩,
          ⟨(some 16), none, .c (.cav (.t 11) [(.t 15)])⟩])
       (.cond (.t 16)
        (.seq (.reg [⟨(some 17), none, .q (.mv (.t 5))⟩,
           ⟨(some 4), none, .q (.mv (.t 17))⟩])
        .ret)
        .skip))))
     (.reg [⟨(some 18), none, .q (.bin .add (.t 8) (.c (.int .i64 1)))⟩,
       ⟨(some 8), none, .q (.mv (.t 18))⟩])))))))
  (.seq (.reg [⟨(some 4), none, .q (.mv (.c (.int .i64 (-1))))⟩])
  .ret)))⟩
theorem l_slices_IndexFunc___byte_byte_ : lowF PA f_slices_IndexFunc___byte_byte_ 2 [.k [0, 1, 7, 8]] = some c_slices_IndexFunc___byte_byte_ := by kernel_rfl
abbrev f_impl_firstDigit_1 : FuncId := 95
def c_impl_firstDigit_1 : AF := ⟨1, 5, [.t 2],
  (.seq (.reg [⟨(some 2), none, .q (.mv (.c (.bool false)))⟩])
  (.seq (.reg [⟨(some 3), none, .q (.mv (.t 0))⟩,
     ⟨(some 4), none, .q (.bin .neq (.t 3) (.c (.int .u8 0)))⟩,
     ⟨(some 2), none, .q (.mv (.t 4))⟩])
  .ret))⟩
theorem l_impl_firstDigit_1 : lowF PA f_impl_firstDigit_1 1 [] = some c_impl_firstDigit_1 := by kernel_rfl
abbrev f_slices_IndexFunc___int64_int64_ : FuncId := 107
def c_slices_IndexFunc___int64_int64_ : AF := ⟨2, 19, [.t 4],
  (.seq (.reg [⟨(some 4), none, .q (.mv (.c (.int .i64 0)))⟩])
  (.seq (.seq (.reg [⟨(some 6), none, .q (.mv (.t 0))⟩,
      ⟨(some 7), none, .q (.len (.t 6))⟩,
      ⟨(some 8), none, .q (.mv (.c (.int .i64 0)))⟩])
   (.block 0 (.loop [0, 1, 7, 8] (.seq (.reg [⟨(some 9), none, .q (.bin .lss (.t 8) (.t 7))⟩])
     (.seq (.cond (.t 9)
       .skip
       (.exit 0))
     (.seq (.block 1 (.seq (.reg [⟨(some 10), none, .q (.mv (.t 8))⟩,
          ⟨(some 5), none, .q (.mv (.t 10))⟩])
       (.seq (.reg [⟨(some 11), none, .q (.mv (.t 1))⟩,
          ⟨(some 12), none, .q (.mv (.t 0))⟩,
          ⟨(some 13), none, .q (.mv (.t 5))⟩,
          ⟨(some 14), none, .q (.ixs 1 (.t 12) (.t 13))⟩,
          ⟨(some 15), none, .q (.ld false 1 (.t 14))⟩,
          ⟨(some 16), none, .c (.cav (.t 11) [(.t 15)])⟩])
       (.cond (.t 16)
        (.seq (.reg [⟨(some 17), none, .q (.mv (.t 5))⟩,
           ⟨(some 4), none, .q (.mv (.t 17))⟩])
        .ret)
        .skip))))
     (.reg [⟨(some 18), none, .q (.bin .add (.t 8) (.c (.int .i64 1)))⟩,
       ⟨(some 8), none, .q (.mv (.t 18))⟩])))))))
  (.seq (.reg [⟨(some 4), none, .q (.mv (.c (.int .i64 (-1))))⟩])
  .ret)))⟩
theorem l_slices_IndexFunc___int64_int64_ : lowF PA f_slices_IndexFunc___int64_int64_ 2 [.k [0, 1, 7, 8]] = some c_slices_IndexFunc___int64_int64_ := by kernel_rfl
end Go.Proofs.Ytkhkcekfcjgjlaa.Va
