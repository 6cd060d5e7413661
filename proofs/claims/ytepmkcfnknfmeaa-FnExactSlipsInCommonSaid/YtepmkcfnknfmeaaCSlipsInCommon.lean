/- The code of the functions that FnExactSlipsInCommon reaches, laid out for a walk: each is what the lowering makes of the program's own text. Condition: none. -/
import Derived.Test.YtepmkcfnknfmeaaVa1
import Derived.Test.YtepmkcfnknfmeaaProg
import Derived.KernelRfl
set_option linter.all false
set_option linter.unusedSimpArgs false
set_option linter.unusedVariables false
namespace Go.Proofs.Ytepmkcfnknfmeaa.Va
open Go
noncomputable abbrev PA : Program := Go.Proofs.Try.prog
abbrev f_laws_FnExactSlipsInCommon : FuncId := 4
def c_laws_FnExactSlipsInCommon : AF := ⟨3, 138, [.t 6],
  (.seq (.reg [⟨(some 3), none, .m (.box (.t 0))⟩,
     ⟨(some 6), none, .q (.mv (.c (.bool false)))⟩])
  (.seq (.seq (.reg [⟨(some 20), none, .q (.mv (.t 1))⟩,
      ⟨(some 21), none, .q (.len (.t 20))⟩,
      ⟨(some 22), none, .q (.bin .gtr (.t 21) (.c (.int .i64 1048576)))⟩])
   (.cond (.t 22)
    (.seq (.reg [⟨(some 6), none, .q (.mv (.c (.bool true)))⟩])
    .ret)
    .skip))
  (.seq (.seq (.reg [⟨(some 23), none, .q (.mv (.t 2))⟩,
      ⟨(some 24), none, .q (.len (.t 23))⟩,
      ⟨(some 25), none, .q (.bin .gtr (.t 24) (.c (.int .i64 1048576)))⟩])
   (.cond (.t 25)
    (.seq (.reg [⟨(some 6), none, .q (.mv (.c (.bool true)))⟩])
    .ret)
    .skip))
  (.seq (.reg [⟨(some 7), none, .q (.mv (.c (.int .i64 1048576)))⟩])
  (.seq (.reg [⟨(some 26), none, .q (.ld true 1 (.t 3))⟩,
     ⟨(some 27), none, .q (.mv (.t 7))⟩,
     ⟨(some 28), none, .c (.call 9 [(.t 26), (.t 27)])⟩,
     ⟨(some 7), none, .q (.mv (.t 28))⟩])
  (.seq (.seq (.reg [⟨(some 29), none, .q (.mv (.t 7))⟩,
      ⟨(some 30), none, .q (.bin .lss (.t 29) (.c (.int .i64 0)))⟩])
   (.cond (.t 30)
    (.seq (.reg [⟨(some 6), none, .q (.mv (.c (.bool true)))⟩])
    .ret)
    .skip))
  (.seq (.reg [⟨(some 32), none, .q (.ld true 1 (.t 3))⟩,
     ⟨(some 33), none, .c (.call 11 [(.t 32)])⟩,
     ⟨(some 34), none, .q (.mv (.t 1))⟩,
     ⟨(some 35), none, .c (.call 19 [(.t 34)])⟩,
     ⟨(some 36), none, .q (.mv (.t 2))⟩,
     ⟨(some 37), none, .c (.call 19 [(.t 36)])⟩,
     ⟨(some 38), none, .c (.call 18 [(.t 33), (.t 35), (.t 37)])⟩,
     ⟨(some 31), none, .q (.mv (.t 38))⟩,
     ⟨(some 39), none, .q (.ext (.t 31) 0)⟩,
     ⟨(some 40), none, .q (.ext (.t 31) 1)⟩,
     ⟨(some 8), none, .q (.mv (.t 39))⟩,
     ⟨(some 9), none, .q (.mv (.t 40))⟩])
  (.seq (.reg [⟨(some 41), none, .q (.ld true 1 (.t 3))⟩,
     ⟨(some 42), none, .c (.call 11 [(.t 41)])⟩,
     ⟨(some 10), none, .m (.alloc [(.v (.slice none 0 0))])⟩,
     ⟨none, none, .m (.st true 1 (.t 10) (.t 42))⟩])
  (.seq (.reg [⟨(some 43), none, .q (.mv (.t 1))⟩,
     ⟨(some 44), none, .c (.call 19 [(.t 43)])⟩,
     ⟨(some 11), none, .q (.mv (.t 44))⟩])
  (.seq (.reg [⟨(some 45), none, .q (.mv (.t 2))⟩,
     ⟨(some 46), none, .c (.call 19 [(.t 45)])⟩,
     ⟨(some 12), none, .q (.mv (.t 46))⟩])
  (.seq (.reg [⟨(some 48), none, .q (.ld true 1 (.t 10))⟩,
     ⟨(some 49), none, .q (.mv (.t 11))⟩,
     ⟨(some 50), none, .q (.mv (.t 12))⟩,
     ⟨(some 51), none, .c (.call 20 [(.t 48), (.t 49), (.t 50)])⟩,
     ⟨(some 47), none, .q (.mv (.t 51))⟩,
     ⟨(some 52), none, .q (.ext (.t 47) 0)⟩,
     ⟨(some 53), none, .q (.ext (.t 47) 1)⟩,
     ⟨(some 13), none, .q (.mv (.t 52))⟩,
     ⟨(some 14), none, .q (.mv (.t 53))⟩])
  (.seq (.seq (.reg [⟨(some 54), none, .q (.mv (.t 13))⟩,
      ⟨(some 55), none, .q (.mv (.t 8))⟩,
      ⟨(some 56), none, .c (.call 21 [(.t 54), (.t 55)])⟩,
      ⟨(some 57), none, .q (.un .not (.t 56))⟩,
      ⟨(some 58), none, .q (.mv (.t 57))⟩,
      ⟨(some 59), (some (58, false)), .q (.mv (.t 14))⟩,
      ⟨(some 60), (some (58, false)), .q (.mv (.t 9))⟩,
      ⟨(some 61), (some (58, false)), .q (.bin .neq (.t 59) (.t 60))⟩,
      ⟨(some 62), none, .q (.pick (.t 58) (.c (.bool true)) (.t 61))⟩])
   (.cond (.t 62)
    (.seq (.reg [⟨(some 6), none, .q (.mv (.c (.bool false)))⟩])
    .ret)
    .skip))
  (.seq (.seq (.sch (.take 0 ⟨(some 63), none, .q (.ld true 1 (.t 10))⟩ (.take 1 ⟨(some 64), none, .q (.ld true 1 (.t 3))⟩ (.one ⟨(some 65), none, .c (.call 11 [(.t 64)])⟩ [1] (.one ⟨(some 66), none, .c (.call 14 [(.t 63), (.t 65)])⟩ [0] (.take 4 ⟨(some 67), none, .q (.un .not (.t 66))⟩ .done))))))
   (.cond (.t 67)
    (.seq (.reg [⟨(some 6), none, .q (.mv (.c (.bool false)))⟩])
    .ret)
    .skip))
  (.seq (.seq (.reg [⟨(some 68), none, .q (.mv (.t 11))⟩,
      ⟨(some 69), none, .q (.mv (.t 1))⟩,
      ⟨(some 70), none, .c (.call 19 [(.t 69)])⟩,
      ⟨(some 71), none, .c (.call 21 [(.t 68), (.t 70)])⟩,
      ⟨(some 72), none, .q (.un .not (.t 71))⟩])
   (.cond (.t 72)
    (.seq (.reg [⟨(some 6), none, .q (.mv (.c (.bool false)))⟩])
    .ret)
    .skip))
  (.seq (.seq (.reg [⟨(some 73), none, .q (.mv (.t 12))⟩,
      ⟨(some 74), none, .q (.mv (.t 2))⟩,
      ⟨(some 75), none, .c (.call 19 [(.t 74)])⟩,
      ⟨(some 76), none, .c (.call 21 [(.t 73), (.t 75)])⟩,
      ⟨(some 77), none, .q (.un .not (.t 76))⟩])
   (.cond (.t 77)
    (.seq (.reg [⟨(some 6), none, .q (.mv (.c (.bool false)))⟩])
    .ret)
    .skip))
  (.seq (.reg [⟨(some 15), none, .q (.mv (.c (.int .i64 1)))⟩])
  (.seq (.reg [⟨(some 78), none, .q (.ld true 1 (.t 10))⟩,
     ⟨(some 79), none, .q (.mv (.t 15))⟩,
     ⟨(some 80), none, .c (.call 15 [(.t 78), (.t 79)])⟩,
     ⟨(some 15), none, .q (.mv (.t 80))⟩])
  (.seq (.reg [⟨(some 81), none, .q (.mv (.t 11))⟩,
     ⟨(some 82), none, .q (.mv (.t 15))⟩,
     ⟨(some 83), none, .c (.call 22 [(.t 81), (.t 82)])⟩,
     ⟨(some 15), none, .q (.mv (.t 83))⟩])
  (.seq (.reg [⟨(some 84), none, .q (.mv (.t 12))⟩,
     ⟨(some 85), none, .q (.mv (.t 15))⟩,
     ⟨(some 86), none, .c (.call 22 [(.t 84), (.t 85)])⟩,
     ⟨(some 15), none, .q (.mv (.t 86))⟩])
  (.seq (.seq (.reg [⟨(some 87), none, .q (.mv (.t 15))⟩,
      ⟨(some 88), none, .q (.bin .lss (.t 87) (.c (.int .i64 0)))⟩,
      ⟨(some 89), none, .q (.mv (.t 88))⟩,
      ⟨(some 90), (some (89, false)), .q (.mv (.t 13))⟩,
      ⟨(some 91), (some (89, false)), .q (.mv (.t 8))⟩,
      ⟨(some 92), (some (89, false)), .c (.call 21 [(.t 90), (.t 91)])⟩,
      ⟨(some 93), (some (89, false)), .q (.un .not (.t 92))⟩,
      ⟨(some 94), none, .q (.pick (.t 89) (.c (.bool true)) (.t 93))⟩,
      ⟨(some 95), none, .q (.mv (.t 94))⟩,
      ⟨(some 96), (some (95, false)), .q (.mv (.t 14))⟩,
      ⟨(some 97), (some (95, false)), .q (.mv (.t 9))⟩,
      ⟨(some 98), (some (95, false)), .q (.bin .neq (.t 96) (.t 97))⟩,
      ⟨(some 99), none, .q (.pick (.t 95) (.c (.bool true)) (.t 98))⟩])
   (.cond (.t 99)
    (.seq (.reg [⟨(some 6), none, .q (.mv (.c (.bool false)))⟩])
    .ret)
    .skip))
  (.seq (.reg [⟨(some 16), none, .q (.mv (.c (.int .i64 1)))⟩])
  (.seq (.reg [⟨(some 100), none, .q (.mv (.t 13))⟩,
     ⟨(some 101), none, .q (.mv (.t 16))⟩,
     ⟨(some 102), none, .c (.call 22 [(.t 100), (.t 101)])⟩,
     ⟨(some 16), none, .q (.mv (.t 102))⟩])
  (.seq (.reg [⟨(some 17), none, .q (.mv (.c (.int .i64 1)))⟩])
  (.seq (.reg [⟨(some 103), none, .q (.mv (.t 13))⟩,
     ⟨(some 104), none, .q (.mv (.t 17))⟩,
     ⟨(some 105), none, .c (.call 23 [(.t 103), (.t 104)])⟩,
     ⟨(some 17), none, .q (.mv (.t 105))⟩])
  (.seq (.seq (.reg [⟨(some 106), none, .q (.mv (.t 17))⟩,
      ⟨(some 107), none, .q (.bin .lss (.t 106) (.c (.int .i64 0)))⟩])
   (.cond (.t 107)
    (.seq (.reg [⟨(some 6), none, .q (.mv (.c (.bool false)))⟩])
    .ret)
    .skip))
  (.seq (.seq (.reg [⟨(some 108), none, .q (.mv (.t 17))⟩,
      ⟨(some 109), none, .q (.mv (.t 16))⟩,
      ⟨(some 110), none, .q (.bin .neq (.t 108) (.t 109))⟩])
   (.cond (.t 110)
    (.seq (.reg [⟨(some 6), none, .q (.mv (.c (.bool false)))⟩])
    .ret)
    .skip))
  (.seq (.reg [⟨(some 112), none, .q (.ld true 1 (.t 3))⟩,
     ⟨(some 113), none, .c (.call 11 [(.t 112)])⟩,
     ⟨(some 114), none, .q (.mv (.t 1))⟩,
     ⟨(some 115), none, .c (.call 19 [(.t 114)])⟩,
     ⟨(some 116), none, .q (.mv (.t 2))⟩,
     ⟨(some 117), none, .c (.call 19 [(.t 116)])⟩,
     ⟨(some 118), none, .c (.call 20 [(.t 113), (.t 115), (.t 117)])⟩,
     ⟨(some 111), none, .q (.mv (.t 118))⟩,
     ⟨(some 119), none, .q (.ext (.t 111) 0)⟩,
     ⟨(some 120), none, .q (.ext (.t 111) 1)⟩,
     ⟨(some 18), none, .q (.mv (.t 119))⟩,
     ⟨(some 19), none, .q (.mv (.t 120))⟩])
  (.seq (.seq (.reg [⟨(some 121), none, .q (.mv (.t 18))⟩,
      ⟨(some 122), none, .q (.mv (.t 8))⟩,
      ⟨(some 123), none, .c (.call 21 [(.t 121), (.t 122)])⟩,
      ⟨(some 124), none, .q (.un .not (.t 123))⟩,
      ⟨(some 125), none, .q (.mv (.t 124))⟩,
      ⟨(some 126), (some (125, false)), .q (.mv (.t 19))⟩,
      ⟨(some 127), (some (125, false)), .q (.mv (.t 9))⟩,
      ⟨(some 128), (some (125, false)), .q (.bin .neq (.t 126) (.t 127))⟩,
      ⟨(some 129), none, .q (.pick (.t 125) (.c (.bool true)) (.t 128))⟩])
   (.cond (.t 129)
    (.seq (.reg [⟨(some 6), none, .q (.mv (.c (.bool false)))⟩])
    .ret)
    .skip))
  (.seq (.reg [⟨(some 17), none, .q (.mv (.c (.int .i64 1)))⟩])
  (.seq (.reg [⟨(some 130), none, .q (.mv (.t 13))⟩,
     ⟨(some 131), none, .q (.mv (.t 17))⟩,
     ⟨(some 132), none, .c (.call 23 [(.t 130), (.t 131)])⟩,
     ⟨(some 17), none, .q (.mv (.t 132))⟩])
  (.seq (.seq (.reg [⟨(some 133), none, .q (.mv (.t 17))⟩,
      ⟨(some 134), none, .q (.bin .lss (.t 133) (.c (.int .i64 0)))⟩])
   (.cond (.t 134)
    (.seq (.reg [⟨(some 6), none, .q (.mv (.c (.bool false)))⟩])
    .ret)
    .skip))
  (.seq (.seq (.reg [⟨(some 135), none, .q (.mv (.t 17))⟩,
      ⟨(some 136), none, .q (.mv (.t 16))⟩,
      ⟨(some 137), none, .q (.bin .neq (.t 135) (.t 136))⟩])
   (.cond (.t 137)
    (.seq (.reg [⟨(some 6), none, .q (.mv (.c (.bool false)))⟩])
    .ret)
    .skip))
  (.seq (.reg [⟨(some 6), none, .q (.mv (.c (.bool true)))⟩])
  .ret)))))))))))))))))))))))))))))))))⟩
theorem l_laws_FnExactSlipsInCommon : lowF PA f_laws_FnExactSlipsInCommon 3 [.s (.take 0 (.take 1 (.one 2 (.one 3 (.take 4 .done)))))] = some c_laws_FnExactSlipsInCommon := by kernel_rfl
abbrev f_laws_szSpace : FuncId := 9
def c_laws_szSpace : AF := ⟨2, 12, [.t 4],
  (.seq (.reg [⟨(some 2), none, .m (.box (.t 0))⟩,
     ⟨(some 4), none, .q (.mv (.c (.int .i64 0)))⟩])
  (.seq (.reg [⟨(some 5), none, .q (.fad 0 (.t 2))⟩,
     ⟨(some 6), none, .q (.ld false 1 (.t 5))⟩,
     ⟨(some 7), none, .q (.mv (.t 1))⟩,
     ⟨(some 8), none, .c (.call 33 [(.t 6), (.t 7)])⟩,
     ⟨(some 1), none, .q (.mv (.t 8))⟩])
  (.seq (.seq (.reg [⟨(some 9), none, .q (.mv (.t 1))⟩,
      ⟨(some 10), none, .q (.bin .lss (.t 9) (.c (.int .i64 0)))⟩])
   (.cond (.t 10)
    (.seq (.reg [⟨(some 4), none, .q (.mv (.c (.int .i64 (-1))))⟩])
    .ret)
    .skip))
  (.seq (.reg [⟨(some 11), none, .q (.mv (.t 1))⟩,
     ⟨(some 4), none, .q (.mv (.t 11))⟩])
  .ret))))⟩
theorem l_laws_szSpace : lowF PA f_laws_szSpace 2 [] = some c_laws_szSpace := by kernel_rfl
abbrev f_laws_toSpace : FuncId := 11
def c_laws_toSpace : AF := ⟨1, 9, [.c 2 true 1],
  (.seq (.reg [⟨(some 1), none, .m (.box (.t 0))⟩,
     ⟨(some 2), none, .m (.alloc [(.v (.slice none 0 0))])⟩])
  (.seq (.reg [⟨(some 3), none, .m (.alloc [(.v (.slice none 0 0))])⟩])
  (.seq (.reg [⟨(some 4), none, .q (.fad 0 (.t 1))⟩,
     ⟨(some 5), none, .q (.ld false 1 (.t 4))⟩,
     ⟨(some 6), none, .c (.call 25 [(.t 5)])⟩,
     ⟨(some 7), none, .q (.fad 0 (.t 3))⟩,
     ⟨none, none, .m (.st false 1 (.t 7) (.t 6))⟩])
  (.seq (.reg [⟨(some 8), none, .q (.ld true 1 (.t 3))⟩,
     ⟨none, none, .m (.st true 1 (.t 2) (.t 8))⟩])
  .ret))))⟩
theorem l_laws_toSpace : lowF PA f_laws_toSpace 1 [] = some c_laws_toSpace := by kernel_rfl
abbrev f_laws_eqInt64S : FuncId := 13
def c_laws_eqInt64S : AF := ⟨2, 26, [.t 4],
  (.seq (.reg [⟨(some 4), none, .q (.mv (.c (.bool false)))⟩])
  (.seq (.seq (.reg [⟨(some 6), none, .q (.mv (.t 0))⟩,
      ⟨(some 7), none, .q (.len (.t 6))⟩,
      ⟨(some 8), none, .q (.mv (.t 1))⟩,
      ⟨(some 9), none, .q (.len (.t 8))⟩,
      ⟨(some 10), none, .q (.bin .neq (.t 7) (.t 9))⟩])
   (.cond (.t 10)
    (.seq (.reg [⟨(some 4), none, .q (.mv (.c (.bool false)))⟩])
    .ret)
    .skip))
  (.seq (.seq (.reg [⟨(some 5), none, .q (.mv (.c (.int .i64 0)))⟩])
   (.block 0 (.loop [0, 1, 5] (.seq (.seq (.reg [⟨(some 11), none, .q (.mv (.t 5))⟩,
         ⟨(some 12), none, .q (.mv (.t 0))⟩,
         ⟨(some 13), none, .q (.len (.t 12))⟩,
         ⟨(some 14), none, .q (.bin .lss (.t 11) (.t 13))⟩])
      (.cond (.t 14)
       .skip
       (.exit 0)))
     (.seq (.block 1 (.seq (.sch (.take 0 ⟨(some 17), none, .q (.mv (.t 0))⟩ (.take 1 ⟨(some 18), none, .q (.mv (.t 5))⟩ (.take 2 ⟨(some 19), none, .q (.ixs 1 (.t 17) (.t 18))⟩ (.take 3 ⟨(some 20), none, .q (.ld false 1 (.t 19))⟩ (.take 4 ⟨(some 21), none, .q (.mv (.t 1))⟩ (.take 5 ⟨(some 22), none, .q (.mv (.t 5))⟩ (.take 6 ⟨(some 23), none, .q (.ixs 1 (.t 21) (.t 22))⟩ (.take 7 ⟨(some 24), none, .q (.ld false 1 (.t 23))⟩ (.take 8 ⟨(some 25), none, .q (.bin .neq (.t 20) (.t 24))⟩ .done))))))))))
       (.cond (.t 25)
        (.seq (.reg [⟨(some 4), none, .q (.mv (.c (.bool false)))⟩])
        .ret)
        .skip)))
     (.reg [⟨(some 15), none, .q (.mv (.t 5))⟩,
       ⟨(some 16), none, .q (.bin .add (.t 15) (.c (.int .i64 1)))⟩,
       ⟨(some 5), none, .q (.mv (.t 16))⟩]))))))
  (.seq (.reg [⟨(some 4), none, .q (.mv (.c (.bool true)))⟩])
  .ret))))⟩
theorem l_laws_eqInt64S : lowF PA f_laws_eqInt64S 2 [.k [0, 1, 5], .s (.take 0 (.take 1 (.take 2 (.take 3 (.take 4 (.take 5 (.take 6 (.take 7 (.take 8 .done)))))))))] = some c_laws_eqInt64S := by kernel_rfl
abbrev f_laws_eqSpace : FuncId := 14
def c_laws_eqSpace : AF := ⟨2, 11, [.t 4],
  (.seq (.reg [⟨(some 2), none, .m (.box (.t 0))⟩,
     ⟨(some 3), none, .m (.box (.t 1))⟩,
     ⟨(some 4), none, .q (.mv (.c (.bool false)))⟩])
  (.seq (.seq (.reg [⟨(some 5), none, .q (.fad 0 (.t 2))⟩,
      ⟨(some 6), none, .q (.ld false 1 (.t 5))⟩,
      ⟨(some 7), none, .q (.fad 0 (.t 3))⟩,
      ⟨(some 8), none, .q (.ld false 1 (.t 7))⟩,
      ⟨(some 9), none, .c (.call 13 [(.t 6), (.t 8)])⟩,
      ⟨(some 10), none, .q (.un .not (.t 9))⟩])
   (.cond (.t 10)
    (.seq (.reg [⟨(some 4), none, .q (.mv (.c (.bool false)))⟩])
    .ret)
    .skip))
  (.seq (.reg [⟨(some 4), none, .q (.mv (.c (.bool true)))⟩])
  .ret)))⟩
theorem l_laws_eqSpace : lowF PA f_laws_eqSpace 2 [] = some c_laws_eqSpace := by kernel_rfl
abbrev f_laws_markSpace : FuncId := 15
def c_laws_markSpace : AF := ⟨2, 10, [.t 4],
  (.seq (.reg [⟨(some 2), none, .m (.box (.t 0))⟩,
     ⟨(some 4), none, .q (.mv (.c (.int .i64 0)))⟩])
  (.seq (.reg [⟨(some 5), none, .q (.fad 0 (.t 2))⟩,
     ⟨(some 6), none, .q (.ld false 1 (.t 5))⟩,
     ⟨(some 7), none, .q (.mv (.t 1))⟩,
     ⟨(some 8), none, .c (.call 16 [(.t 6), (.t 7)])⟩,
     ⟨(some 1), none, .q (.mv (.t 8))⟩])
  (.seq (.reg [⟨(some 9), none, .q (.mv (.t 1))⟩,
     ⟨(some 4), none, .q (.mv (.t 9))⟩])
  .ret)))⟩
theorem l_laws_markSpace : lowF PA f_laws_markSpace 2 [] = some c_laws_markSpace := by kernel_rfl
abbrev f_laws_markInt64S : FuncId := 16
def c_laws_markInt64S : AF := ⟨2, 19, [.t 4],
  (.seq (.reg [⟨(some 4), none, .q (.mv (.c (.int .i64 0)))⟩])
  (.seq (.seq (.reg [⟨(some 5), none, .q (.mv (.c (.int .i64 0)))⟩])
   (.block 0 (.loop [0, 1, 5, 19] (.seq (.seq (.reg [⟨(some 6), none, .q (.mv (.t 5))⟩,
         ⟨(some 7), none, .q (.mv (.t 0))⟩,
         ⟨(some 8), none, .q (.len (.t 7))⟩,
         ⟨(some 9), none, .q (.bin .lss (.t 6) (.t 8))⟩])
      (.cond (.t 9)
       .skip
       (.exit 0)))
     (.seq (.block 1 (.seq (.reg [⟨(some 12), none, .q (.mv (.t 0))⟩,
          ⟨(some 13), none, .q (.mv (.t 5))⟩,
          ⟨(some 14), none, .q (.mv (.t 1))⟩,
          ⟨(some 15), none, .q (.ixs 1 (.t 12) (.t 13))⟩,
          ⟨none, none, .m (.st false 1 (.t 15) (.t 14))⟩])
       (.reg [⟨(some 16), none, .q (.mv (.t 1))⟩,
         ⟨(some 17), none, .q (.bin .add (.t 16) (.c (.int .i64 1)))⟩,
         ⟨(some 1), none, .q (.mv (.t 17))⟩])))
     (.reg [⟨(some 10), none, .q (.mv (.t 5))⟩,
       ⟨(some 11), none, .q (.bin .add (.t 10) (.c (.int .i64 1)))⟩,
       ⟨(some 5), none, .q (.mv (.t 11))⟩]))))))
  (.seq (.reg [⟨(some 18), none, .q (.mv (.t 1))⟩,
     ⟨(some 4), none, .q (.mv (.t 18))⟩])
  .ret)))⟩
theorem l_laws_markInt64S : lowF PA f_laws_markInt64S 2 [.k [0, 1, 5, 19]] = some c_laws_markInt64S := by kernel_rfl
abbrev f_spec_SlipsInCommon : FuncId := 18
def c_spec_SlipsInCommon : AF := ⟨3, 43, [.t 6, .t 7],
  (.seq (.reg [⟨(some 3), none, .m (.box (.t 0))⟩,
     ⟨(some 6), none, .q (.mv (.c (.slice none 0 0)))⟩,
     ⟨(some 7), none, .q (.mv (.c (.int .i64 0)))⟩])
  (.seq (.seq (.reg [⟨(some 11), none, .q (.ld true 1 (.t 3))⟩,
      ⟨(some 12), none, .q (.mv (.t 1))⟩,
      ⟨(some 13), none, .q (.mv (.t 2))⟩,
      ⟨(some 14), none, .m (.bsl 1 [(.t 12), (.t 13)])⟩,
      ⟨(some 15), none, .c (.call 42 [(.t 11), (.t 14)])⟩,
      ⟨(some 8), none, .q (.mv (.t 15))⟩])
   (.seq (.reg [⟨(some 16), none, .q (.mv (.t 8))⟩,
      ⟨(some 17), none, .q (.bin .neq (.t 16) (.c (.int .i64 0)))⟩])
   (.cond (.t 17)
    (.seq (.reg [⟨(some 18), none, .q (.mv (.t 8))⟩,
       ⟨(some 6), none, .q (.mv (.c (.slice none 0 0)))⟩,
       ⟨(some 7), none, .q (.mv (.t 18))⟩])
    .ret)
    .skip)))
  (.seq (.reg [⟨(some 19), none, .m (.bsl 1 [])⟩,
     ⟨(some 9), none, .q (.mv (.t 19))⟩])
  (.seq (.seq (.reg [⟨(some 20), none, .q (.mv (.t 1))⟩,
      ⟨(some 21), none, .q (.len (.t 20))⟩,
      ⟨(some 22), none, .q (.mv (.c (.int .i64 0)))⟩])
   (.block 0 (.loop [1, 2, 3, 9, 21, 22] (.seq (.reg [⟨(some 23), none, .q (.bin .lss (.t 22) (.t 21))⟩])
     (.seq (.cond (.t 23)
       .skip
       (.exit 0))
     (.seq (.block 1 (.seq (.reg [⟨(some 24), none, .q (.mv (.t 22))⟩,
          ⟨(some 10), none, .q (.mv (.t 24))⟩])
       (.sch (.take 0 ⟨(some 25), none, .q (.mv (.t 9))⟩ (.take 1 ⟨(some 26), none, .q (.mv (.t 1))⟩ (.take 2 ⟨(some 27), none, .q (.mv (.t 10))⟩ (.take 3 ⟨(some 28), none, .q (.ixs 1 (.t 26) (.t 27))⟩ (.take 4 ⟨(some 29), none, .q (.ld false 1 (.t 28))⟩ (.take 5 ⟨(some 30), none, .q (.mv (.t 2))⟩ (.take 6 ⟨(some 31), none, .q (.mv (.t 10))⟩ (.take 7 ⟨(some 32), none, .q (.ixs 1 (.t 30) (.t 31))⟩ (.take 8 ⟨(some 33), none, .q (.ld false 1 (.t 32))⟩ (.take 9 ⟨(some 34), none, .q (.bin .and (.t 29) (.t 33))⟩ (.one ⟨(some 35), none, .m (.bsl 1 [(.t 34)])⟩ [] (.one ⟨(some 36), none, .m (.app 1 8 (.t 25) (.t 35))⟩ [] (.take 12 ⟨(some 9), none, .q (.mv (.t 36))⟩ .done))))))))))))))))
     (.reg [⟨(some 37), none, .q (.bin .add (.t 22) (.c (.int .i64 1)))⟩,
       ⟨(some 22), none, .q (.mv (.t 37))⟩])))))))
  (.seq (.seq (.reg [⟨(some 38), none, .q (.ld true 1 (.t 3))⟩,
      ⟨(some 39), none, .q (.mv (.t 9))⟩,
      ⟨(some 40), none, .c (.call 43 [(.t 38), (.t 39)])⟩,
      ⟨(some 41), none, .q (.un .not (.t 40))⟩])
   (.cond (.t 41)
    (.seq (.reg [⟨(some 6), none, .q (.mv (.c (.slice none 0 0)))⟩,
       ⟨(some 7), none, .q (.mv (.c (.int .i64 4)))⟩])
    .ret)
    .skip))
  (.seq (.reg [⟨(some 42), none, .q (.mv (.t 9))⟩,
     ⟨(some 6), none, .q (.mv (.t 42))⟩,
     ⟨(some 7), none, .q (.mv (.c (.int .i64 0)))⟩])
  .ret))))))⟩
theorem l_spec_SlipsInCommon : lowF PA f_spec_SlipsInCommon 3 [.k [1, 2, 3, 9, 21, 22], .s (.take 0 (.take 1 (.take 2 (.take 3 (.take 4 (.take 5 (.take 6 (.take 7 (.take 8 (.take 9 (.one 10 (.one 11 (.take 12 .done)))))))))))))] = some c_spec_SlipsInCommon := by kernel_rfl
abbrev f_laws_toSlip : FuncId := 19
def c_laws_toSlip : AF := ⟨1, 22, [.t 2],
  (.seq (.reg [⟨(some 2), none, .q (.mv (.c (.slice none 0 0)))⟩])
  (.seq (.reg [⟨(some 5), none, .q (.mv (.t 0))⟩,
     ⟨(some 6), none, .q (.len (.t 5))⟩,
     ⟨(some 7), none, .m (.mks 1 (.v (.int .i64 0)) 8 (.t 6) (.t 6))⟩,
     ⟨(some 3), none, .q (.mv (.t 7))⟩])
  (.seq (.seq (.reg [⟨(some 4), none, .q (.mv (.c (.int .i64 0)))⟩])
   (.block 0 (.loop [0, 3, 4] (.seq (.seq (.reg [⟨(some 8), none, .q (.mv (.t 4))⟩,
         ⟨(some 9), none, .q (.mv (.t 0))⟩,
         ⟨(some 10), none, .q (.len (.t 9))⟩,
         ⟨(some 11), none, .q (.bin .lss (.t 8) (.t 10))⟩])
      (.cond (.t 11)
       .skip
       (.exit 0)))
     (.seq (.block 1 (.reg [⟨(some 14), none, .q (.mv (.t 3))⟩,
         ⟨(some 15), none, .q (.mv (.t 4))⟩,
         ⟨(some 16), none, .q (.mv (.t 0))⟩,
         ⟨(some 17), none, .q (.mv (.t 4))⟩,
         ⟨(some 18), none, .q (.ixs 1 (.t 16) (.t 17))⟩,
         ⟨(some 19), none, .q (.ld false 1 (.t 18))⟩,
         ⟨(some 20), none, .q (.ixs 1 (.t 14) (.t 15))⟩,
         ⟨none, none, .m (.st false 1 (.t 20) (.t 19))⟩]))
     (.reg [⟨(some 12), none, .q (.mv (.t 4))⟩,
       ⟨(some 13), none, .q (.bin .add (.t 12) (.c (.int .i64 1)))⟩,
       ⟨(some 4), none, .q (.mv (.t 13))⟩]))))))
  (.seq (.reg [⟨(some 21), none, .q (.mv (.t 3))⟩,
     ⟨(some 2), none, .q (.mv (.t 21))⟩])
  .ret))))⟩
theorem l_laws_toSlip : lowF PA f_laws_toSlip 1 [.k [0, 3, 4]] = some c_laws_toSlip := by kernel_rfl
abbrev f_impl_SlipsInCommon : FuncId := 20
def c_impl_SlipsInCommon : AF := ⟨3, 40, [.t 6, .t 7],
  (.seq (.reg [⟨(some 3), none, .m (.box (.t 0))⟩,
     ⟨(some 6), none, .q (.mv (.c (.slice none 0 0)))⟩,
     ⟨(some 7), none, .q (.mv (.c (.int .i64 0)))⟩])
  (.seq (.seq (.reg [⟨(some 11), none, .q (.ld true 1 (.t 3))⟩,
      ⟨(some 12), none, .q (.mv (.t 1))⟩,
      ⟨(some 13), none, .q (.mv (.t 2))⟩,
      ⟨(some 14), none, .m (.bsl 1 [(.t 12), (.t 13)])⟩,
      ⟨(some 15), none, .c (.call 44 [(.t 11), (.t 14)])⟩,
      ⟨(some 8), none, .q (.mv (.t 15))⟩])
   (.seq (.reg [⟨(some 16), none, .q (.mv (.t 8))⟩,
      ⟨(some 17), none, .q (.bin .neq (.t 16) (.c (.int .i64 0)))⟩])
   (.cond (.t 17)
    (.seq (.reg [⟨(some 18), none, .q (.mv (.t 8))⟩,
       ⟨(some 6), none, .q (.mv (.c (.slice none 0 0)))⟩,
       ⟨(some 7), none, .q (.mv (.t 18))⟩])
    .ret)
    .skip)))
  (.seq (.reg [⟨(some 19), none, .q (.mv (.t 1))⟩,
     ⟨(some 20), none, .c (.call 45 [(.t 19)])⟩,
     ⟨(some 9), none, .q (.mv (.t 20))⟩])
  (.seq (.seq (.reg [⟨(some 21), none, .q (.mv (.t 9))⟩,
      ⟨(some 22), none, .q (.len (.t 21))⟩,
      ⟨(some 23), none, .q (.mv (.c (.int .i64 0)))⟩])
   (.block 0 (.loop [2, 9, 22, 23] (.seq (.reg [⟨(some 24), none, .q (.bin .lss (.t 23) (.t 22))⟩])
     (.seq (.cond (.t 24)
       .skip
       (.exit 0))
     (.seq (.block 1 (.seq (.reg [⟨(some 25), none, .q (.mv (.t 23))⟩,
          ⟨(some 10), none, .q (.mv (.t 25))⟩])
       (.sch (.take 0 ⟨(some 26), none, .q (.mv (.t 9))⟩ (.take 1 ⟨(some 27), none, .q (.mv (.t 10))⟩ (.take 2 ⟨(some 28), none, .q (.ixs 1 (.t 26) (.t 27))⟩ (.take 3 ⟨(some 29), none, .q (.ld false 1 (.t 28))⟩ (.take 4 ⟨(some 30), none, .q (.mv (.t 2))⟩ (.take 5 ⟨(some 31), none, .q (.mv (.t 10))⟩ (.take 6 ⟨(some 32), none, .q (.ixs 1 (.t 30) (.t 31))⟩ (.take 7 ⟨(some 33), none, .q (.ld false 1 (.t 32))⟩ (.take 8 ⟨(some 34), none, .q (.bin .and (.t 29) (.t 33))⟩ (.take 9 ⟨(some 35), none, .q (.ixs 1 (.t 26) (.t 27))⟩ (.one ⟨none, none, .m (.st false 1 (.t 35) (.t 34))⟩ [7, 3] .done))))))))))))))
     (.reg [⟨(some 36), none, .q (.bin .add (.t 23) (.c (.int .i64 1)))⟩,
       ⟨(some 23), none, .q (.mv (.t 36))⟩])))))))
  (.seq (.seq (.reg [⟨(some 37), none, .q (.mv (.t 9))⟩,
      ⟨(some 38), none, .c (.call 46 [(.t 37), (.c (.int .i64 0))])⟩])
   (.cond (.t 38)
    (.seq (.reg [⟨(some 6), none, .q (.mv (.c (.slice none 0 0)))⟩,
       ⟨(some 7), none, .q (.mv (.c (.int .i64 4)))⟩])
    .ret)
    .skip))
  (.seq (.reg [⟨(some 39), none, .q (.mv (.t 9))⟩,
     ⟨(some 6), none, .q (.mv (.t 39))⟩,
     ⟨(some 7), none, .q (.mv (.c (.int .i64 0)))⟩])
  .ret))))))⟩
theorem l_impl_SlipsInCommon : lowF PA f_impl_SlipsInCommon 3 [.k [2, 9, 22, 23], .s (.take 0 (.take 1 (.take 2 (.take 3 (.take 4 (.take 5 (.take 6 (.take 7 (.take 8 (.take 9 (.one 10 .done)))))))))))] = some c_impl_SlipsInCommon := by kernel_rfl
abbrev f_laws_eqSlip : FuncId := 21
def c_laws_eqSlip : AF := ⟨2, 26, [.t 4],
  (.seq (.reg [⟨(some 4), none, .q (.mv (.c (.bool false)))⟩])
  (.seq (.seq (.reg [⟨(some 6), none, .q (.mv (.t 0))⟩,
      ⟨(some 7), none, .q (.len (.t 6))⟩,
      ⟨(some 8), none, .q (.mv (.t 1))⟩,
      ⟨(some 9), none, .q (.len (.t 8))⟩,
      ⟨(some 10), none, .q (.bin .neq (.t 7) (.t 9))⟩])
   (.cond (.t 10)
    (.seq (.reg [⟨(some 4), none, .q (.mv (.c (.bool false)))⟩])
    .ret)
    .skip))
  (.seq (.seq (.reg [⟨(some 5), none, .q (.mv (.c (.int .i64 0)))⟩])
   (.block 0 (.loop [0, 1, 5] (.seq (.seq (.reg [⟨(some 11), none, .q (.mv (.t 5))⟩,
         ⟨(some 12), none, .q (.mv (.t 0))⟩,
         ⟨(some 13), none, .q (.len (.t 12))⟩,
         ⟨(some 14), none, .q (.bin .lss (.t 11) (.t 13))⟩])
      (.cond (.t 14)
       .skip
       (.exit 0)))
     (.seq (.block 1 (.seq (.sch (.take 0 ⟨(some 17), none, .q (.mv (.t 0))⟩ (.take 1 ⟨(some 18), none, .q (.mv (.t 5))⟩ (.take 2 ⟨(some 19), none, .q (.ixs 1 (.t 17) (.t 18))⟩ (.take 3 ⟨(some 20), none, .q (.ld false 1 (.t 19))⟩ (.take 4 ⟨(some 21), none, .q (.mv (.t 1))⟩ (.take 5 ⟨(some 22), none, .q (.mv (.t 5))⟩ (.take 6 ⟨(some 23), none, .q (.ixs 1 (.t 21) (.t 22))⟩ (.take 7 ⟨(some 24), none, .q (.ld false 1 (.t 23))⟩ (.take 8 ⟨(some 25), none, .q (.bin .neq (.t 20) (.t 24))⟩ .done))))))))))
       (.cond (.t 25)
        (.seq (.reg [⟨(some 4), none, .q (.mv (.c (.bool false)))⟩])
        .ret)
        .skip)))
     (.reg [⟨(some 15), none, .q (.mv (.t 5))⟩,
       ⟨(some 16), none, .q (.bin .add (.t 15) (.c (.int .i64 1)))⟩,
       ⟨(some 5), none, .q (.mv (.t 16))⟩]))))))
  (.seq (.reg [⟨(some 4), none, .q (.mv (.c (.bool true)))⟩])
  .ret))))⟩
theorem l_laws_eqSlip : lowF PA f_laws_eqSlip 2 [.k [0, 1, 5], .s (.take 0 (.take 1 (.take 2 (.take 3 (.take 4 (.take 5 (.take 6 (.take 7 (.take 8 .done)))))))))] = some c_laws_eqSlip := by kernel_rfl
abbrev f_laws_markSlip : FuncId := 22
def c_laws_markSlip : AF := ⟨2, 19, [.t 4],
  (.seq (.reg [⟨(some 4), none, .q (.mv (.c (.int .i64 0)))⟩])
  (.seq (.seq (.reg [⟨(some 5), none, .q (.mv (.c (.int .i64 0)))⟩])
   (.block 0 (.loop [0, 1, 5, 19] (.seq (.seq (.reg [⟨(some 6), none, .q (.mv (.t 5))⟩,
         ⟨(some 7), none, .q (.mv (.t 0))⟩,
         ⟨(some 8), none, .q (.len (.t 7))⟩,
         ⟨(some 9), none, .q (.bin .lss (.t 6) (.t 8))⟩])
      (.cond (.t 9)
       .skip
       (.exit 0)))
     (.seq (.block 1 (.seq (.reg [⟨(some 12), none, .q (.mv (.t 0))⟩,
          ⟨(some 13), none, .q (.mv (.t 5))⟩,
          ⟨(some 14), none, .q (.mv (.t 1))⟩,
          ⟨(some 15), none, .q (.ixs 1 (.t 12) (.t 13))⟩,
          ⟨none, none, .m (.st false 1 (.t 15) (.t 14))⟩])
       (.reg [⟨(some 16), none, .q (.mv (.t 1))⟩,
         ⟨(some 17), none, .q (.bin .add (.t 16) (.c (.int .i64 1)))⟩,
         ⟨(some 1), none, .q (.mv (.t 17))⟩])))
     (.reg [⟨(some 10), none, .q (.mv (.t 5))⟩,
       ⟨(some 11), none, .q (.bin .add (.t 10) (.c (.int .i64 1)))⟩,
       ⟨(some 5), none, .q (.mv (.t 11))⟩]))))))
  (.seq (.reg [⟨(some 18), none, .q (.mv (.t 1))⟩,
     ⟨(some 4), none, .q (.mv (.t 18))⟩])
  .ret)))⟩
theorem l_laws_markSlip : lowF PA f_laws_markSlip 2 [.k [0, 1, 5, 19]] = some c_laws_markSlip := by kernel_rfl
abbrev f_laws_heldSlip : FuncId := 23
def c_laws_heldSlip : AF := ⟨2, 21, [.t 4],
  (.seq (.reg [⟨(some 4), none, .q (.mv (.c (.int .i64 0)))⟩])
  (.seq (.seq (.reg [⟨(some 5), none, .q (.mv (.c (.int .i64 0)))⟩])
   (.block 0 (.loop [0, 1, 5] (.seq (.seq (.reg [⟨(some 6), none, .q (.mv (.t 5))⟩,
         ⟨(some 7), none, .q (.mv (.t 0))⟩,
         ⟨(some 8), none, .q (.len (.t 7))⟩,
         ⟨(some 9), none, .q (.bin .lss (.t 6) (.t 8))⟩])
      (.cond (.t 9)
       .skip
       (.exit 0)))
     (.seq (.block 1 (.seq (.seq (.reg [⟨(some 12), none, .q (.mv (.t 0))⟩,
           ⟨(some 13), none, .q (.mv (.t 5))⟩,
           ⟨(some 14), none, .q (.ixs 1 (.t 12) (.t 13))⟩,
           ⟨(some 15), none, .q (.ld false 1 (.t 14))⟩,
           ⟨(some 16), none, .q (.mv (.t 1))⟩,
           ⟨(some 17), none, .q (.bin .neq (.t 15) (.t 16))⟩])
        (.cond (.t 17)
         (.seq (.reg [⟨(some 4), none, .q (.mv (.c (.int .i64 (-1))))⟩])
         .ret)
         .skip))
       (.reg [⟨(some 18), none, .q (.mv (.t 1))⟩,
         ⟨(some 19), none, .q (.bin .add (.t 18) (.c (.int .i64 1)))⟩,
         ⟨(some 1), none, .q (.mv (.t 19))⟩])))
     (.reg [⟨(some 10), none, .q (.mv (.t 5))⟩,
       ⟨(some 11), none, .q (.bin .add (.t 10) (.c (.int .i64 1)))⟩,
       ⟨(some 5), none, .q (.mv (.t 11))⟩]))))))
  (.seq (.reg [⟨(some 20), none, .q (.mv (.t 1))⟩,
     ⟨(some 4), none, .q (.mv (.t 20))⟩])
  .ret)))⟩
theorem l_laws_heldSlip : lowF PA f_laws_heldSlip 2 [.k [0, 1, 5]] = some c_laws_heldSlip := by kernel_rfl
abbrev f_laws_toInt64S : FuncId := 25
def c_laws_toInt64S : AF := ⟨1, 22, [.t 2],
  (.seq (.reg [⟨(some 2), none, .q (.mv (.c (.slice none 0 0)))⟩])
  (.seq (.reg [⟨(some 5), none, .q (.mv (.t 0))⟩,
     ⟨(some 6), none, .q (.len (.t 5))⟩,
     ⟨(some 7), none, .m (.mks 1 (.v (.int .i64 0)) 8 (.t 6) (.t 6))⟩,
     ⟨(some 3), none, .q (.mv (.t 7))⟩])
  (.seq (.seq (.reg [⟨(some 4), none, .q (.mv (.c (.int .i64 0)))⟩])
   (.block 0 (.loop [0, 3, 4] (.seq (.seq (.reg [⟨(some 8), none, .q (.mv (.t 4))⟩,
         ⟨(some 9), none, .q (.mv (.t 0))⟩,
         ⟨(some 10), none, .q (.len (.t 9))⟩,
         ⟨(some 11), none, .q (.bin .lss (.t 8) (.t 10))⟩])
      (.cond (.t 11)
       .skip
       (.exit 0)))
     (.seq (.block 1 (.reg [⟨(some 14), none, .q (.mv (.t 3))⟩,
         ⟨(some 15), none, .q (.mv (.t 4))⟩,
         ⟨(some 16), none, .q (.mv (.t 0))⟩,
         ⟨(some 17), none, .q (.mv (.t 4))⟩,
         ⟨(some 18), none, .q (.ixs 1 (.t 16) (.t 17))⟩,
         ⟨(some 19), none, .q (.ld false 1 (.t 18))⟩,
         ⟨(some 20), none, .q (.ixs 1 (.t 14) (.t 15))⟩,
         ⟨none, none, .m (.st false 1 (.t 20) (.t 19))⟩]))
     (.reg [⟨(some 12), none, .q (.mv (.t 4))⟩,
       ⟨(some 13), none, .q (.bin .add (.t 12) (.c (.int .i64 1)))⟩,
       ⟨(some 4), none, .q (.mv (.t 13))⟩]))))))
  (.seq (.reg [⟨(some 21), none, .q (.mv (.t 3))⟩,
     ⟨(some 2), none, .q (.mv (.t 21))⟩])
  .ret))))⟩
theorem l_laws_toInt64S : lowF PA f_laws_toInt64S 1 [.k [0, 3, 4]] = some c_laws_toInt64S := by kernel_rfl
abbrev f_laws_szInt64S : FuncId := 33
def c_laws_szInt64S : AF := ⟨2, 12, [.t 4],
  (.seq (.reg [⟨(some 4), none, .q (.mv (.c (.int .i64 0)))⟩])
  (.seq (.reg [⟨(some 5), none, .q (.mv (.t 1))⟩,
     ⟨(some 6), none, .q (.mv (.t 0))⟩,
     ⟨(some 7), none, .q (.len (.t 6))⟩,
     ⟨(some 8), none, .q (.bin .sub (.t 5) (.t 7))⟩,
     ⟨(some 1), none, .q (.mv (.t 8))⟩])
  (.seq (.seq (.reg [⟨(some 9), none, .q (.mv (.t 1))⟩,
      ⟨(some 10), none, .q (.bin .lss (.t 9) (.c (.int .i64 0)))⟩])
   (.cond (.t 10)
    (.seq (.reg [⟨(some 4), none, .q (.mv (.c (.int .i64 (-1))))⟩])
    .ret)
    .skip))
  (.seq (.reg [⟨(some 11), none, .q (.mv (.t 1))⟩,
     ⟨(some 4), none, .q (.mv (.t 11))⟩])
  .ret))))⟩
theorem l_laws_szInt64S : lowF PA f_laws_szInt64S 2 [] = some c_laws_szInt64S := by kernel_rfl
abbrev f_spec_l01N : FuncId := 35
def c_spec_l01N : AF := ⟨1, 20, [.t 2],
  (.seq (.reg [⟨(some 1), none, .m (.box (.t 0))⟩,
     ⟨(some 2), none, .q (.mv (.c (.int .i64 0)))⟩])
  (.seq (.reg [⟨(some 3), none, .q (.mv (.c (.int .i64 1)))⟩])
  (.seq (.seq (.reg [⟨(some 4), none, .q (.mv (.c (.int .i64 0)))⟩])
   (.block 0 (.loop [1, 3, 4] (.seq (.seq (.reg [⟨(some 5), none, .q (.mv (.t 4))⟩,
         ⟨(some 6), none, .q (.fad 0 (.t 1))⟩,
         ⟨(some 7), none, .q (.ld false 1 (.t 6))⟩,
         ⟨(some 8), none, .q (.len (.t 7))⟩,
         ⟨(some 9), none, .q (.bin .lss (.t 5) (.t 8))⟩])
      (.cond (.t 9)
       .skip
       (.exit 0)))
     (.seq (.block 1 (.reg [⟨(some 12), none, .q (.mv (.t 3))⟩,
         ⟨(some 13), none, .q (.fad 0 (.t 1))⟩,
         ⟨(some 14), none, .q (.ld false 1 (.t 13))⟩,
         ⟨(some 15), none, .q (.mv (.t 4))⟩,
         ⟨(some 16), none, .q (.ixs 1 (.t 14) (.t 15))⟩,
         ⟨(some 17), none, .q (.ld false 1 (.t 16))⟩,
         ⟨(some 18), none, .q (.bin .mul (.t 12) (.t 17))⟩,
         ⟨(some 3), none, .q (.mv (.t 18))⟩]))
     (.reg [⟨(some 10), none, .q (.mv (.t 4))⟩,
       ⟨(some 11), none, .q (.bin .add (.t 10) (.c (.int .i64 1)))⟩,
       ⟨(some 4), none, .q (.mv (.t 11))⟩]))))))
  (.seq (.reg [⟨(some 19), none, .q (.mv (.t 3))⟩,
     ⟨(some 2), none, .q (.mv (.t 19))⟩])
  .ret))))⟩
theorem l_spec_l01N : lowF PA f_spec_l01N 1 [.k [1, 3, 4]] = some c_spec_l01N := by kernel_rfl
abbrev f_spec_l07Code : FuncId := 42
def c_spec_l07Code : AF := ⟨2, 22, [.t 4],
  (.seq (.reg [⟨(some 2), none, .m (.box (.t 0))⟩,
     ⟨(some 4), none, .q (.mv (.c (.int .i64 0)))⟩])
  (.seq (.seq (.reg [⟨(some 6), none, .q (.ld true 1 (.t 2))⟩,
      ⟨(some 7), none, .c (.call 64 [(.t 6)])⟩,
      ⟨(some 8), none, .q (.un .not (.t 7))⟩])
   (.cond (.t 8)
    (.seq (.reg [⟨(some 4), none, .q (.mv (.c (.int .i64 1)))⟩])
    .ret)
    .skip))
  (.seq (.seq (.reg [⟨(some 9), none, .q (.mv (.t 1))⟩,
      ⟨(some 10), none, .q (.len (.t 9))⟩,
      ⟨(some 11), none, .q (.mv (.c (.int .i64 0)))⟩])
   (.block 0 (.loop [1, 2, 10, 11] (.seq (.reg [⟨(some 12), none, .q (.bin .lss (.t 11) (.t 10))⟩])
     (.seq (.cond (.t 12)
       .skip
       (.exit 0))
     (.seq (.block 1 (.seq (.reg [⟨(some 13), none, .q (.mv (.t 11))⟩,
          ⟨(some 5), none, .q (.mv (.t 13))⟩])
       (.seq (.sch (.take 0 ⟨(some 14), none, .q (.ld true 1 (.t 2))⟩ (.take 1 ⟨(some 15), none, .q (.mv (.t 1))⟩ (.take 2 ⟨(some 16), none, .q (.mv (.t 5))⟩ (.take 3 ⟨(some 17), none, .q (.ixs 1 (.t 15) (.t 16))⟩ (.take 4 ⟨(some 18), none, .q (.ld false 1 (.t 17))⟩ (.one ⟨(some 19), none, .c (.call 43 [(.t 14), (.t 18)])⟩ [4, 0] (.take 6 ⟨(some 20), none, .q (.un .not (.t 19))⟩ .done))))))))
       (.cond (.t 20)
        (.seq (.reg [⟨(some 4), none, .q (.mv (.c (.int .i64 2)))⟩])
        .ret)
        .skip))))
     (.reg [⟨(some 21), none, .q (.bin .add (.t 11) (.c (.int .i64 1)))⟩,
       ⟨(some 11), none, .q (.mv (.t 21))⟩])))))))
  (.seq (.reg [⟨(some 4), none, .q (.mv (.c (.int .i64 0)))⟩])
  .ret))))⟩
theorem l_spec_l07Code : lowF PA f_spec_l07Code 2 [.k [1, 2, 10, 11], .s (.take 0 (.take 1 (.take 2 (.take 3 (.take 4 (.one 5 (.take 6 .done)))))))] = some c_spec_l07Code := by kernel_rfl
abbrev f_spec_l07Is : FuncId := 43
def c_spec_l07Is : AF := ⟨2, 32, [.t 4],
  (.seq (.reg [⟨(some 2), none, .m (.box (.t 0))⟩,
     ⟨(some 4), none, .q (.mv (.c (.bool false)))⟩])
  (.seq (.seq (.reg [⟨(some 6), none, .q (.mv (.t 1))⟩,
      ⟨(some 7), none, .q (.len (.t 6))⟩,
      ⟨(some 8), none, .q (.fad 0 (.t 2))⟩,
      ⟨(some 9), none, .q (.ld false 1 (.t 8))⟩,
      ⟨(some 10), none, .q (.len (.t 9))⟩,
      ⟨(some 11), none, .q (.bin .neq (.t 7) (.t 10))⟩])
   (.cond (.t 11)
    (.seq (.reg [⟨(some 4), none, .q (.mv (.c (.bool false)))⟩])
    .ret)
    .skip))
  (.seq (.seq (.reg [⟨(some 12), none, .q (.mv (.t 1))⟩,
      ⟨(some 13), none, .q (.len (.t 12))⟩,
      ⟨(some 14), none, .q (.mv (.c (.int .i64 0)))⟩])
   (.block 0 (.loop [1, 2, 13, 14] (.seq (.reg [⟨(some 15), none, .q (.bin .lss (.t 14) (.t 13))⟩])
     (.seq (.cond (.t 15)
       .skip
       (.exit 0))
     (.seq (.block 1 (.seq (.reg [⟨(some 16), none, .q (.mv (.t 14))⟩,
          ⟨(some 5), none, .q (.mv (.t 16))⟩])
       (.seq (.sch (.take 0 ⟨(some 17), none, .q (.mv (.t 1))⟩ (.take 1 ⟨(some 18), none, .q (.mv (.t 5))⟩ (.take 2 ⟨(some 19), none, .q (.ixs 1 (.t 17) (.t 18))⟩ (.take 3 ⟨(some 20), none, .q (.ld false 1 (.t 19))⟩ (.take 4 ⟨(some 21), none, .q (.fad 0 (.t 2))⟩ (.take 5 ⟨(some 22), none, .q (.ld false 1 (.t 21))⟩ (.take 6 ⟨(some 23), none, .q (.mv (.t 5))⟩ (.take 7 ⟨(some 24), none, .q (.ixs 1 (.t 22) (.t 23))⟩ (.take 8 ⟨(some 25), none, .q (.ld false 1 (.t 24))⟩ (.take 9 ⟨(some 26), none, .q (.cvt .u64 (.t 25))⟩ (.take 10 ⟨(some 27), none, .q (.bin .shl (.c (.int .i64 1)) (.t 26))⟩ (.take 11 ⟨(some 28), none, .q (.bin .sub (.t 27) (.c (.int .i64 1)))⟩ (.one ⟨(some 29), none, .c (.call 65 [(.t 20), (.c (.int .i64 1)), (.t 28)])⟩ [3] (.take 13 ⟨(some 30), none, .q (.un .not (.t 29))⟩ .done)))))))))))))))
       (.cond (.t 30)
        (.seq (.reg [⟨(some 4), none, .q (.mv (.c (.bool false)))⟩])
        .ret)
        .skip))))
     (.reg [⟨(some 31), none, .q (.bin .add (.t 14) (.c (.int .i64 1)))⟩,
       ⟨(some 14), none, .q (.mv (.t 31))⟩])))))))
  (.seq (.reg [⟨(some 4), none, .q (.mv (.c (.bool true)))⟩])
  .ret))))⟩
theorem l_spec_l07Is : lowF PA f_spec_l07Is 2 [.k [1, 2, 13, 14], .s (.take 0 (.take 1 (.take 2 (.take 3 (.take 4 (.take 5 (.take 6 (.take 7 (.take 8 (.take 9 (.take 10 (.take 11 (.one 12 (.take 13 .done))))))))))))))] = some c_spec_l07Is := by kernel_rfl
abbrev f_impl_slipCode : FuncId := 44
def c_impl_slipCode : AF := ⟨2, 21, [.t 4],
  (.seq (.reg [⟨(some 2), none, .m (.box (.t 0))⟩,
     ⟨(some 4), none, .q (.mv (.c (.int .i64 0)))⟩])
  (.seq (.seq (.reg [⟨(some 7), none, .q (.ld true 1 (.t 2))⟩,
      ⟨(some 8), none, .c (.call 66 [(.t 7)])⟩,
      ⟨(some 9), none, .q (.un .not (.t 8))⟩])
   (.cond (.t 9)
    (.seq (.reg [⟨(some 4), none, .q (.mv (.c (.int .i64 1)))⟩])
    .ret)
    .skip))
  (.seq (.seq (.reg [⟨(some 10), none, .q (.mv (.t 1))⟩,
      ⟨(some 11), none, .q (.len (.t 10))⟩,
      ⟨(some 12), none, .q (.mv (.c (.int .i64 0)))⟩])
   (.block 0 (.loop [2, 10, 11, 12] (.seq (.reg [⟨(some 13), none, .q (.bin .lss (.t 12) (.t 11))⟩])
     (.seq (.cond (.t 13)
       .skip
       (.exit 0))
     (.seq (.block 1 (.seq (.reg [⟨(some 14), none, .q (.ixs 1 (.t 10) (.t 12))⟩,
          ⟨(some 15), none, .q (.ld false 1 (.t 14))⟩,
          ⟨(some 6), none, .q (.mv (.t 15))⟩])
       (.seq (.reg [⟨(some 16), none, .q (.ld true 1 (.t 2))⟩,
          ⟨(some 17), none, .q (.mv (.t 6))⟩,
          ⟨(some 18), none, .c (.call 69 [(.t 16), (.t 17)])⟩,
          ⟨(some 19), none, .q (.un .not (.t 18))⟩])
       (.cond (.t 19)
        (.seq (.reg [⟨(some 4), none, .q (.mv (.c (.int .i64 2)))⟩])
        .ret)
        .skip))))
     (.reg [⟨(some 20), none, .q (.bin .add (.t 12) (.c (.int .i64 1)))⟩,
       ⟨(some 12), none, .q (.mv (.t 20))⟩])))))))
  (.seq (.reg [⟨(some 4), none, .q (.mv (.c (.int .i64 0)))⟩])
  .ret))))⟩
theorem l_impl_slipCode : lowF PA f_impl_slipCode 2 [.k [2, 10, 11, 12]] = some c_impl_slipCode := by kernel_rfl
abbrev f_slices_Clone_impl_Slip_int64_ : FuncId := 45
def c_slices_Clone_impl_Slip_int64_ : AF := ⟨1, 8, [.t 2],
  (.seq (.reg [⟨(some 2), none, .q (.mv (.c (.slice none 0 0)))⟩])
  (.seq (.seq (.reg [⟨(some 3), none, .q (.mv (.t 0))⟩,
      ⟨(some 4), none, .q (.isn false (.t 3))⟩])
   (.cond (.t 4)
    (.seq (.reg [⟨(some 2), none, .q (.mv (.c (.slice none 0 0)))⟩])
    .ret)
    .skip))
  (.seq (.reg [⟨(some 5), none, .m (.bsl 1 [])⟩,
     ⟨(some 6), none, .q (.mv (.t 0))⟩,
     ⟨(some 7), none, .m (.app 1 8 (.t 5) (.t 6))⟩,
     ⟨(some 2), none, .q (.mv (.t 7))⟩])
  .ret)))⟩
theorem l_slices_Clone_impl_Slip_int64_ : lowF PA f_slices_Clone_impl_Slip_int64_ 1 [] = some c_slices_Clone_impl_Slip_int64_ := by kernel_rfl
abbrev f_slices_Contains_impl_Slip_int64_ : FuncId := 46
def c_slices_Contains_impl_Slip_int64_ : AF := ⟨2, 9, [.t 4],
  (.seq (.reg [⟨(some 4), none, .q (.mv (.c (.bool false)))⟩])
  (.seq (.reg [⟨(some 5), none, .q (.mv (.t 0))⟩,
     ⟨(some 6), none, .q (.mv (.t 1))⟩,
     ⟨(some 7), none, .c (.call 70 [(.t 5), (.t 6)])⟩,
     ⟨(some 8), none, .q (.bin .geq (.t 7) (.c (.int .i64 0)))⟩,
     ⟨(some 4), none, .q (.mv (.t 8))⟩])
  .ret))⟩
theorem l_slices_Contains_impl_Slip_int64_ : lowF PA f_slices_Contains_impl_Slip_int64_ 2 [] = some c_slices_Contains_impl_Slip_int64_ := by kernel_rfl
abbrev f_spec_l01Is : FuncId := 64
def c_spec_l01Is : AF := ⟨1, 26, [.t 2],
  (.seq (.reg [⟨(some 1), none, .m (.box (.t 0))⟩,
     ⟨(some 2), none, .q (.mv (.c (.bool false)))⟩])
  (.seq (.seq (.reg [⟨(some 4), none, .q (.fad 0 (.t 1))⟩,
      ⟨(some 5), none, .q (.ld false 1 (.t 4))⟩,
      ⟨(some 6), none, .q (.len (.t 5))⟩,
      ⟨(some 7), none, .c (.call 65 [(.t 6), (.c (.int .i64 1)), (.c (.int .i64 8))])⟩,
      ⟨(some 8), none, .q (.un .not (.t 7))⟩])
   (.cond (.t 8)
    (.seq (.reg [⟨(some 2), none, .q (.mv (.c (.bool false)))⟩])
    .ret)
    .skip))
  (.seq (.seq (.reg [⟨(some 3), none, .q (.mv (.c (.int .i64 0)))⟩])
   (.block 0 (.loop [1, 3] (.seq (.seq (.reg [⟨(some 9), none, .q (.mv (.t 3))⟩,
         ⟨(some 10), none, .q (.fad 0 (.t 1))⟩,
         ⟨(some 11), none, .q (.ld false 1 (.t 10))⟩,
         ⟨(some 12), none, .q (.len (.t 11))⟩,
         ⟨(some 13), none, .q (.bin .lss (.t 9) (.t 12))⟩])
      (.cond (.t 13)
       .skip
       (.exit 0)))
     (.seq (.block 1 (.seq (.reg [⟨(some 16), none, .q (.fad 0 (.t 1))⟩,
          ⟨(some 17), none, .q (.ld false 1 (.t 16))⟩,
          ⟨(some 18), none, .q (.mv (.t 3))⟩,
          ⟨(some 19), none, .q (.ixs 1 (.t 17) (.t 18))⟩,
          ⟨(some 20), none, .q (.ld false 1 (.t 19))⟩,
          ⟨(some 21), none, .c (.call 65 [(.t 20), (.c (.int .i64 2)), (.c (.int .i64 4))])⟩,
          ⟨(some 22), none, .q (.un .not (.t 21))⟩])
       (.cond (.t 22)
        (.seq (.reg [⟨(some 2), none, .q (.mv (.c (.bool false)))⟩])
        .ret)
        .skip)))
     (.reg [⟨(some 14), none, .q (.mv (.t 3))⟩,
       ⟨(some 15), none, .q (.bin .add (.t 14) (.c (.int .i64 1)))⟩,
       ⟨(some 3), none, .q (.mv (.t 15))⟩]))))))
  (.seq (.reg [⟨(some 23), none, .q (.ld true 1 (.t 1))⟩,
     ⟨(some 24), none, .c (.call 35 [(.t 23)])⟩,
     ⟨(some 25), none, .q (.bin .leq (.t 24) (.c (.int .i64 1024)))⟩,
     ⟨(some 2), none, .q (.mv (.t 25))⟩])
  .ret))))⟩
theorem l_spec_l01Is : lowF PA f_spec_l01Is 1 [.k [1, 3]] = some c_spec_l01Is := by kernel_rfl
abbrev f_spec_l01In : FuncId := 65
def c_spec_l01In : AF := ⟨3, 15, [.t 6],
  (.seq (.reg [⟨(some 6), none, .q (.mv (.c (.bool false)))⟩])
  (.seq (.reg [⟨(some 7), none, .q (.mv (.t 0))⟩,
     ⟨(some 8), none, .q (.mv (.t 1))⟩,
     ⟨(some 9), none, .q (.bin .geq (.t 7) (.t 8))⟩,
     ⟨(some 10), none, .q (.mv (.t 9))⟩,
     ⟨(some 11), (some (10, true)), .q (.mv (.t 0))⟩,
     ⟨(some 12), (some (10, true)), .q (.mv (.t 2))⟩,
     ⟨(some 13), (some (10, true)), .q (.bin .leq (.t 11) (.t 12))⟩,
     ⟨(some 14), none, .q (.pick (.t 10) (.t 13) (.c (.bool false)))⟩,
     ⟨(some 6), none, .q (.mv (.t 14))⟩])
  .ret))⟩
theorem l_spec_l01In : lowF PA f_spec_l01In 3 [] = some c_spec_l01In := by kernel_rfl
abbrev f_impl_IsSpace : FuncId := 66
def c_impl_IsSpace : AF := ⟨1, 35, [.t 2],
  (.seq (.reg [⟨(some 1), none, .m (.box (.t 0))⟩,
     ⟨(some 2), none, .q (.mv (.c (.bool false)))⟩])
  (.seq (.seq (.reg [⟨(some 6), none, .q (.fad 0 (.t 1))⟩,
      ⟨(some 7), none, .q (.ld false 1 (.t 6))⟩,
      ⟨(some 8), none, .q (.len (.t 7))⟩,
      ⟨(some 9), none, .q (.bin .lss (.t 8) (.c (.int .i64 1)))⟩,
      ⟨(some 10), none, .q (.mv (.t 9))⟩,
      ⟨(some 11), (some (10, false)), .q (.fad 0 (.t 1))⟩,
      ⟨(some 12), (some (10, false)), .q (.ld false 1 (.t 11))⟩,
      ⟨(some 13), (some (10, false)), .q (.len (.t 12))⟩,
      ⟨(some 14), (some (10, false)), .q (.bin .gtr (.t 13) (.c (.int .i64 8)))⟩,
      ⟨(some 15), none, .q (.pick (.t 10) (.c (.bool true)) (.t 14))⟩])
   (.cond (.t 15)
    (.seq (.reg [⟨(some 2), none, .q (.mv (.c (.bool false)))⟩])
    .ret)
    .skip))
  (.seq (.reg [⟨(some 3), none, .q (.mv (.c (.int .i64 1)))⟩])
  (.seq (.seq (.reg [⟨(some 16), none, .q (.fad 0 (.t 1))⟩,
      ⟨(some 17), none, .q (.ld false 1 (.t 16))⟩,
      ⟨(some 18), none, .q (.len (.t 17))⟩,
      ⟨(some 19), none, .q (.mv (.c (.int .i64 0)))⟩])
   (.block 0 (.loop [3, 17, 18, 19] (.seq (.reg [⟨(some 20), none, .q (.bin .lss (.t 19) (.t 18))⟩])
     (.seq (.cond (.t 20)
       .skip
       (.exit 0))
     (.seq (.block 1 (.seq (.reg [⟨(some 21), none, .q (.ixs 1 (.t 17) (.t 19))⟩,
          ⟨(some 22), none, .q (.ld false 1 (.t 21))⟩,
          ⟨(some 5), none, .q (.mv (.t 22))⟩])
       (.seq (.seq (.reg [⟨(some 23), none, .q (.mv (.t 5))⟩,
           ⟨(some 24), none, .q (.bin .lss (.t 23) (.c (.int .i64 2)))⟩,
           ⟨(some 25), none, .q (.mv (.t 24))⟩,
           ⟨(some 26), (some (25, false)), .q (.mv (.t 5))⟩,
           ⟨(some 27), (some (25, false)), .q (.bin .gtr (.t 26) (.c (.int .i64 4)))⟩,
           ⟨(some 28), none, .q (.pick (.t 25) (.c (.bool true)) (.t 27))⟩])
        (.cond (.t 28)
         (.seq (.reg [⟨(some 2), none, .q (.mv (.c (.bool false)))⟩])
         .ret)
         .skip))
       (.reg [⟨(some 29), none, .q (.mv (.t 3))⟩,
         ⟨(some 30), none, .q (.mv (.t 5))⟩,
         ⟨(some 31), none, .q (.bin .mul (.t 29) (.t 30))⟩,
         ⟨(some 3), none, .q (.mv (.t 31))⟩]))))
     (.reg [⟨(some 32), none, .q (.bin .add (.t 19) (.c (.int .i64 1)))⟩,
       ⟨(some 19), none, .q (.mv (.t 32))⟩])))))))
  (.seq (.reg [⟨(some 33), none, .q (.mv (.t 3))⟩,
     ⟨(some 34), none, .q (.bin .leq (.t 33) (.c (.int .i64 1024)))⟩,
     ⟨(some 2), none, .q (.mv (.t 34))⟩])
  .ret)))))⟩
theorem l_impl_IsSpace : lowF PA f_impl_IsSpace 1 [.k [3, 17, 18, 19]] = some c_impl_IsSpace := by kernel_rfl
abbrev f_impl_isSlip : FuncId := 69
def c_impl_isSlip : AF := ⟨2, 33, [.t 4],
  (.seq (.reg [⟨(some 2), none, .m (.box (.t 0))⟩,
     ⟨(some 4), none, .q (.mv (.c (.bool false)))⟩])
  (.seq (.seq (.reg [⟨(some 7), none, .q (.mv (.t 1))⟩,
      ⟨(some 8), none, .q (.len (.t 7))⟩,
      ⟨(some 9), none, .q (.fad 0 (.t 2))⟩,
      ⟨(some 10), none, .q (.ld false 1 (.t 9))⟩,
      ⟨(some 11), none, .q (.len (.t 10))⟩,
      ⟨(some 12), none, .q (.bin .neq (.t 8) (.t 11))⟩])
   (.cond (.t 12)
    (.seq (.reg [⟨(some 4), none, .q (.mv (.c (.bool false)))⟩])
    .ret)
    .skip))
  (.seq (.seq (.reg [⟨(some 13), none, .q (.mv (.t 1))⟩,
      ⟨(some 14), none, .q (.len (.t 13))⟩,
      ⟨(some 15), none, .q (.mv (.c (.int .i64 0)))⟩])
   (.block 0 (.loop [2, 13, 14, 15] (.seq (.reg [⟨(some 16), none, .q (.bin .lss (.t 15) (.t 14))⟩])
     (.seq (.cond (.t 16)
       .skip
       (.exit 0))
     (.seq (.block 1 (.seq (.reg [⟨(some 17), none, .q (.mv (.t 15))⟩,
          ⟨(some 18), none, .q (.ixs 1 (.t 13) (.t 15))⟩,
          ⟨(some 19), none, .q (.ld false 1 (.t 18))⟩,
          ⟨(some 5), none, .q (.mv (.t 17))⟩,
          ⟨(some 6), none, .q (.mv (.t 19))⟩])
       (.seq (.reg [⟨(some 20), none, .q (.mv (.t 6))⟩,
          ⟨(some 21), none, .q (.bin .lss (.t 20) (.c (.int .i64 1)))⟩,
          ⟨(some 22), none, .q (.mv (.t 21))⟩,
          ⟨(some 23), (some (22, false)), .q (.mv (.t 6))⟩,
          ⟨(some 24), (some (22, false)), .q (.fad 0 (.t 2))⟩,
          ⟨(some 25), (some (22, false)), .q (.ld false 1 (.t 24))⟩,
          ⟨(some 26), (some (22, false)), .q (.mv (.t 5))⟩,
          ⟨(some 27), (some (22, false)), .q (.ixs 1 (.t 25) (.t 26))⟩,
          ⟨(some 28), (some (22, false)), .q (.ld false 1 (.t 27))⟩,
          ⟨(some 29), (some (22, false)), .q (.bin .shl (.c (.int .i64 1)) (.t 28))⟩,
          ⟨(some 30), (some (22, false)), .q (.bin .geq (.t 23) (.t 29))⟩,
          ⟨(some 31), none, .q (.pick (.t 22) (.c (.bool true)) (.t 30))⟩])
       (.cond (.t 31)
        (.seq (.reg [⟨(some 4), none, .q (.mv (.c (.bool false)))⟩])
        .ret)
        .skip))))
     (.reg [⟨(some 32), none, .q (.bin .add (.t 15) (.c (.int .i64 1)))⟩,
       ⟨(some 15), none, .q (.mv (.t 32))⟩])))))))
  (.seq (.reg [⟨(some 4), none, .q (.mv (.c (.bool true)))⟩])
  .ret))))⟩
theorem l_impl_isSlip : lowF PA f_impl_isSlip 2 [.k [2, 13, 14, 15]] = some c_impl_isSlip := by kernel_rfl
abbrev f_slices_Index_impl_Slip_int64_ : FuncId := 70
def c_slices_Index_impl_Slip_int64_ : AF := ⟨2, 19, [.t 4],
  (.seq (.reg [⟨(some 4), none, .q (.mv (.c (.int .i64 0)))⟩])
  (.seq (.seq (.reg [⟨(some 6), none, .q (.mv (.t 0))⟩,
      ⟨(some 7), none, .q (.len (.t 6))⟩,
      ⟨(some 8), none, .q (.mv (.c (.int .i64 0)))⟩])
   (.block 0 (.loop [0, 1, 7, 8] (.seq (.reg [⟨(some 9), none, .q (.bin .lss (.t 8) (.t 7))⟩])
     (.seq (.cond (.t 9)
       .skip
       (.exit 0))
     (.seq (.block 1 (.seq (.reg [⟨(some 10), none, .q (.mv (.t 8))⟩,
          ⟨(some 5), none, .q (.mv (.t 10))⟩])
       (.seq (.reg [⟨(some 11), none, .q (.mv (.t 1))⟩,
          ⟨(some 12), none, .q (.mv (.t 0))⟩,
          ⟨(some 13), none, .q (.mv (.t 5))⟩,
          ⟨(some 14), none, .q (.ixs 1 (.t 12) (.t 13))⟩,
          ⟨(some 15), none, .q (.ld false 1 (.t 14))⟩,
          ⟨(some 16), none, .q (.bin .eql (.t 11) (.t 15))⟩])
       (.cond (.t 16)
        (.seq (.reg [⟨(some 17), none, .q (.mv (.t 5))⟩,
           ⟨(some 4), none, .q (.mv (.t 17))⟩])
        .ret)
        .skip))))
     (.reg [⟨(some 18), none, .q (.bin .add (.t 8) (.c (.int .i64 1)))⟩,
       ⟨(some 8), none, .q (.mv (.t 18))⟩])))))))
  (.seq (.reg [⟨(some 4), none, .q (.mv (.c (.int .i64 (-1))))⟩])
  .ret)))⟩
theorem l_slices_Index_impl_Slip_int64_ : lowF PA f_slices_Index_impl_Slip_int64_ 2 [.k [0, 1, 7, 8]] = some c_slices_Index_impl_Slip_int64_ := by kernel_rfl
end Go.Proofs.Ytepmkcfnknfmeaa.Va
