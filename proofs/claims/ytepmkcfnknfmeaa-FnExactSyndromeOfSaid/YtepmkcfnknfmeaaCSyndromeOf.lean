/- The code of the functions that FnExactSyndromeOf reaches, laid out for a walk: each is what the lowering makes of the program's own text. Condition: none. -/
import Derived.Test.YtepmkcfnknfmeaaVa1
import Derived.Test.YtepmkcfnknfmeaaProg
import Derived.KernelRfl
set_option linter.all false
set_option linter.unusedSimpArgs false
set_option linter.unusedVariables false
namespace Go.Proofs.Ytepmkcfnknfmeaa.Va
open Go
noncomputable abbrev PA : Program := Go.Proofs.Try.prog
abbrev f_laws_FnExactSyndromeOf : FuncId := 8
def c_laws_FnExactSyndromeOf : AF := ⟨3, 122, [.t 6],
  (.seq (.reg [⟨(some 3), none, .m (.box (.t 0))⟩,
     ⟨(some 6), none, .q (.mv (.c (.bool false)))⟩])
  (.seq (.seq (.reg [⟨(some 19), none, .q (.mv (.t 1))⟩,
      ⟨(some 20), none, .q (.len (.t 19))⟩,
      ⟨(some 21), none, .q (.bin .gtr (.t 20) (.c (.int .i64 1048576)))⟩])
   (.cond (.t 21)
    (.seq (.reg [⟨(some 6), none, .q (.mv (.c (.bool true)))⟩])
    .ret)
    .skip))
  (.seq (.reg [⟨(some 7), none, .q (.mv (.c (.int .i64 1048576)))⟩])
  (.seq (.reg [⟨(some 22), none, .q (.ld true 1 (.t 3))⟩,
     ⟨(some 23), none, .q (.mv (.t 7))⟩,
     ⟨(some 24), none, .c (.call 9 [(.t 22), (.t 23)])⟩,
     ⟨(some 7), none, .q (.mv (.t 24))⟩])
  (.seq (.seq (.reg [⟨(some 25), none, .q (.mv (.t 7))⟩,
      ⟨(some 26), none, .q (.bin .lss (.t 25) (.c (.int .i64 0)))⟩])
   (.cond (.t 26)
    (.seq (.reg [⟨(some 6), none, .q (.mv (.c (.bool true)))⟩])
    .ret)
    .skip))
  (.seq (.reg [⟨(some 28), none, .q (.ld true 1 (.t 3))⟩,
     ⟨(some 29), none, .c (.call 11 [(.t 28)])⟩,
     ⟨(some 30), none, .q (.mv (.t 1))⟩,
     ⟨(some 31), none, .c (.call 25 [(.t 30)])⟩,
     ⟨(some 32), none, .q (.mv (.t 2))⟩,
     ⟨(some 33), none, .c (.call 31 [(.t 29), (.t 31), (.t 32)])⟩,
     ⟨(some 27), none, .q (.mv (.t 33))⟩,
     ⟨(some 34), none, .q (.ext (.t 27) 0)⟩,
     ⟨(some 35), none, .q (.ext (.t 27) 1)⟩,
     ⟨(some 8), none, .q (.mv (.t 34))⟩,
     ⟨(some 9), none, .q (.mv (.t 35))⟩])
  (.seq (.reg [⟨(some 36), none, .q (.ld true 1 (.t 3))⟩,
     ⟨(some 37), none, .c (.call 11 [(.t 36)])⟩,
     ⟨(some 10), none, .m (.alloc [(.v (.slice none 0 0))])⟩,
     ⟨none, none, .m (.st true 1 (.t 10) (.t 37))⟩])
  (.seq (.reg [⟨(some 38), none, .q (.mv (.t 1))⟩,
     ⟨(some 39), none, .c (.call 25 [(.t 38)])⟩,
     ⟨(some 11), none, .q (.mv (.t 39))⟩])
  (.seq (.reg [⟨(some 41), none, .q (.ld true 1 (.t 10))⟩,
     ⟨(some 42), none, .q (.mv (.t 11))⟩,
     ⟨(some 43), none, .q (.mv (.t 2))⟩,
     ⟨(some 44), none, .c (.call 32 [(.t 41), (.t 42), (.t 43)])⟩,
     ⟨(some 40), none, .q (.mv (.t 44))⟩,
     ⟨(some 45), none, .q (.ext (.t 40) 0)⟩,
     ⟨(some 46), none, .q (.ext (.t 40) 1)⟩,
     ⟨(some 12), none, .q (.mv (.t 45))⟩,
     ⟨(some 13), none, .q (.mv (.t 46))⟩])
  (.seq (.seq (.reg [⟨(some 47), none, .q (.mv (.t 12))⟩,
      ⟨(some 48), none, .q (.mv (.t 8))⟩,
      ⟨(some 49), none, .c (.call 13 [(.t 47), (.t 48)])⟩,
      ⟨(some 50), none, .q (.un .not (.t 49))⟩,
      ⟨(some 51), none, .q (.mv (.t 50))⟩,
      ⟨(some 52), (some (51, false)), .q (.mv (.t 13))⟩,
      ⟨(some 53), (some (51, false)), .q (.mv (.t 9))⟩,
      ⟨(some 54), (some (51, false)), .q (.bin .neq (.t 52) (.t 53))⟩,
      ⟨(some 55), none, .q (.pick (.t 51) (.c (.bool true)) (.t 54))⟩])
   (.cond (.t 55)
    (.seq (.reg [⟨(some 6), none, .q (.mv (.c (.bool false)))⟩])
    .ret)
    .skip))
  (.seq (.seq (.sch (.take 0 ⟨(some 56), none, .q (.ld true 1 (.t 10))⟩ (.take 1 ⟨(some 57), none, .q (.ld true 1 (.t 3))⟩ (.one ⟨(some 58), none, .c (.call 11 [(.t 57)])⟩ [1] (.one ⟨(some 59), none, .c (.call 14 [(.t 56), (.t 58)])⟩ [0] (.take 4 ⟨(some 60), none, .q (.un .not (.t 59))⟩ .done))))))
   (.cond (.t 60)
    (.seq (.reg [⟨(some 6), none, .q (.mv (.c (.bool false)))⟩])
    .ret)
    .skip))
  (.seq (.seq (.reg [⟨(some 61), none, .q (.mv (.t 11))⟩,
      ⟨(some 62), none, .q (.mv (.t 1))⟩,
      ⟨(some 63), none, .c (.call 25 [(.t 62)])⟩,
      ⟨(some 64), none, .c (.call 13 [(.t 61), (.t 63)])⟩,
      ⟨(some 65), none, .q (.un .not (.t 64))⟩])
   (.cond (.t 65)
    (.seq (.reg [⟨(some 6), none, .q (.mv (.c (.bool false)))⟩])
    .ret)
    .skip))
  (.seq (.reg [⟨(some 14), none, .q (.mv (.c (.int .i64 1)))⟩])
  (.seq (.reg [⟨(some 66), none, .q (.ld true 1 (.t 10))⟩,
     ⟨(some 67), none, .q (.mv (.t 14))⟩,
     ⟨(some 68), none, .c (.call 15 [(.t 66), (.t 67)])⟩,
     ⟨(some 14), none, .q (.mv (.t 68))⟩])
  (.seq (.reg [⟨(some 69), none, .q (.mv (.t 11))⟩,
     ⟨(some 70), none, .q (.mv (.t 14))⟩,
     ⟨(some 71), none, .c (.call 16 [(.t 69), (.t 70)])⟩,
     ⟨(some 14), none, .q (.mv (.t 71))⟩])
  (.seq (.seq (.reg [⟨(some 72), none, .q (.mv (.t 14))⟩,
      ⟨(some 73), none, .q (.bin .lss (.t 72) (.c (.int .i64 0)))⟩,
      ⟨(some 74), none, .q (.mv (.t 73))⟩,
      ⟨(some 75), (some (74, false)), .q (.mv (.t 12))⟩,
      ⟨(some 76), (some (74, false)), .q (.mv (.t 8))⟩,
      ⟨(some 77), (some (74, false)), .c (.call 13 [(.t 75), (.t 76)])⟩,
      ⟨(some 78), (some (74, false)), .q (.un .not (.t 77))⟩,
      ⟨(some 79), none, .q (.pick (.t 74) (.c (.bool true)) (.t 78))⟩,
      ⟨(some 80), none, .q (.mv (.t 79))⟩,
      ⟨(some 81), (some (80, false)), .q (.mv (.t 13))⟩,
      ⟨(some 82), (some (80, false)), .q (.mv (.t 9))⟩,
      ⟨(some 83), (some (80, false)), .q (.bin .neq (.t 81) (.t 82))⟩,
      ⟨(some 84), none, .q (.pick (.t 80) (.c (.bool true)) (.t 83))⟩])
   (.cond (.t 84)
    (.seq (.reg [⟨(some 6), none, .q (.mv (.c (.bool false)))⟩])
    .ret)
    .skip))
  (.seq (.reg [⟨(some 15), none, .q (.mv (.c (.int .i64 1)))⟩])
  (.seq (.reg [⟨(some 85), none, .q (.mv (.t 12))⟩,
     ⟨(some 86), none, .q (.mv (.t 15))⟩,
     ⟨(some 87), none, .c (.call 16 [(.t 85), (.t 86)])⟩,
     ⟨(some 15), none, .q (.mv (.t 87))⟩])
  (.seq (.reg [⟨(some 16), none, .q (.mv (.c (.int .i64 1)))⟩])
  (.seq (.reg [⟨(some 88), none, .q (.mv (.t 12))⟩,
     ⟨(some 89), none, .q (.mv (.t 16))⟩,
     ⟨(some 90), none, .c (.call 17 [(.t 88), (.t 89)])⟩,
     ⟨(some 16), none, .q (.mv (.t 90))⟩])
  (.seq (.seq (.reg [⟨(some 91), none, .q (.mv (.t 16))⟩,
      ⟨(some 92), none, .q (.bin .lss (.t 91) (.c (.int .i64 0)))⟩])
   (.cond (.t 92)
    (.seq (.reg [⟨(some 6), none, .q (.mv (.c (.bool false)))⟩])
    .ret)
    .skip))
  (.seq (.seq (.reg [⟨(some 93), none, .q (.mv (.t 16))⟩,
      ⟨(some 94), none, .q (.mv (.t 15))⟩,
      ⟨(some 95), none, .q (.bin .neq (.t 93) (.t 94))⟩])
   (.cond (.t 95)
    (.seq (.reg [⟨(some 6), none, .q (.mv (.c (.bool false)))⟩])
    .ret)
    .skip))
  (.seq (.reg [⟨(some 97), none, .q (.ld true 1 (.t 3))⟩,
     ⟨(some 98), none, .c (.call 11 [(.t 97)])⟩,
     ⟨(some 99), none, .q (.mv (.t 1))⟩,
     ⟨(some 100), none, .c (.call 25 [(.t 99)])⟩,
     ⟨(some 101), none, .q (.mv (.t 2))⟩,
     ⟨(some 102), none, .c (.call 32 [(.t 98), (.t 100), (.t 101)])⟩,
     ⟨(some 96), none, .q (.mv (.t 102))⟩,
     ⟨(some 103), none, .q (.ext (.t 96) 0)⟩,
     ⟨(some 104), none, .q (.ext (.t 96) 1)⟩,
     ⟨(some 17), none, .q (.mv (.t 103))⟩,
     ⟨(some 18), none, .q (.mv (.t 104))⟩])
  (.seq (.seq (.reg [⟨(some 105), none, .q (.mv (.t 17))⟩,
      ⟨(some 106), none, .q (.mv (.t 8))⟩,
      ⟨(some 107), none, .c (.call 13 [(.t 105), (.t 106)])⟩,
      ⟨(some 108), none, .q (.un .not (.t 107))⟩,
      ⟨(some 109), none, .q (.mv (.t 108))⟩,
      ⟨(some 110), (some (109, false)), .q (.mv (.t 18))⟩,
      ⟨(some 111), (some (109, false)), .q (.mv (.t 9))⟩,
      ⟨(some 112), (some (109, false)), .q (.bin .neq (.t 110) (.t 111))⟩,
      ⟨(some 113), none, .q (.pick (.t 109) (.c (.bool true)) (.t 112))⟩])
   (.cond (.t 113)
    (.seq (.reg [⟨(some 6), none, .q (.mv (.c (.bool false)))⟩])
    .ret)
    .skip))
  (.seq (.reg [⟨(some 16), none, .q (.mv (.c (.int .i64 1)))⟩])
  (.seq (.reg [⟨(some 114), none, .q (.mv (.t 12))⟩,
     ⟨(some 115), none, .q (.mv (.t 16))⟩,
     ⟨(some 116), none, .c (.call 17 [(.t 114), (.t 115)])⟩,
     ⟨(some 16), none, .q (.mv (.t 116))⟩])
  (.seq (.seq (.reg [⟨(some 117), none, .q (.mv (.t 16))⟩,
      ⟨(some 118), none, .q (.bin .lss (.t 117) (.c (.int .i64 0)))⟩])
   (.cond (.t 118)
    (.seq (.reg [⟨(some 6), none, .q (.mv (.c (.bool false)))⟩])
    .ret)
    .skip))
  (.seq (.seq (.reg [⟨(some 119), none, .q (.mv (.t 16))⟩,
      ⟨(some 120), none, .q (.mv (.t 15))⟩,
      ⟨(some 121), none, .q (.bin .neq (.t 119) (.t 120))⟩])
   (.cond (.t 121)
    (.seq (.reg [⟨(some 6), none, .q (.mv (.c (.bool false)))⟩])
    .ret)
    .skip))
  (.seq (.reg [⟨(some 6), none, .q (.mv (.c (.bool true)))⟩])
  .ret)))))))))))))))))))))))))))))⟩
theorem l_laws_FnExactSyndromeOf : lowF PA f_laws_FnExactSyndromeOf 3 [.s (.take 0 (.take 1 (.one 2 (.one 3 (.take 4 .done)))))] = some c_laws_FnExactSyndromeOf := by kernel_rfl
abbrev f_laws_szSpace : FuncId := 9
def c_laws_szSpace : AF := ⟨2, 12, [.t 4],
  (.seq (.reg [⟨(some 2), none, .m (.box (.t 0))⟩,
     ⟨(some 4), none, .q (.mv (.c (.int .i64 0)))⟩])
  (.seq (.reg [⟨(some 5), none, .q (.fad 0 (.t 2))⟩,
     ⟨(some 6), none, .q (.ld false 1 (.t 5))⟩,
     ⟨(some 7), none, .q (.mv (.t 1))⟩,
     ⟨(some 8), none, .c (.call 33 [(.t 6), (.t 7)])⟩,
     ⟨(some 1), none, .q (.mv (.t 8))⟩])
  (.seq (.seq (.reg [⟨(some 9), none, .q (.mv (.t 1))⟩,
      ⟨(some 10), none, .q (.bin .lss (.t 9) (.c (.int .i64 0)))⟩])
   (.cond (.t 10)
    (.seq (.reg [⟨(some 4), none, .q (.mv (.c (.int .i64 (-1))))⟩])
    .ret)
    .skip))
  (.seq (.reg [⟨(some 11), none, .q (.mv (.t 1))⟩,
     ⟨(some 4), none, .q (.mv (.t 11))⟩])
  .ret))))⟩
theorem l_laws_szSpace : lowF PA f_laws_szSpace 2 [] = some c_laws_szSpace := by kernel_rfl
abbrev f_laws_toSpace : FuncId := 11
def c_laws_toSpace : AF := ⟨1, 9, [.c 2 true 1],
  (.seq (.reg [⟨(some 1), none, .m (.box (.t 0))⟩,
     ⟨(some 2), none, .m (.alloc [(.v (.slice none 0 0))])⟩])
  (.seq (.reg [⟨(some 3), none, .m (.alloc [(.v (.slice none 0 0))])⟩])
  (.seq (.reg [⟨(some 4), none, .q (.fad 0 (.t 1))⟩,
     ⟨(some 5), none, .q (.ld false 1 (.t 4))⟩,
     ⟨(some 6), none, .c (.call 25 [(.t 5)])⟩,
     ⟨(some 7), none, .q (.fad 0 (.t 3))⟩,
     ⟨none, none, .m (.st false 1 (.t 7) (.t 6))⟩])
  (.seq (.reg [⟨(some 8), none, .q (.ld true 1 (.t 3))⟩,
     ⟨none, none, .m (.st true 1 (.t 2) (.t 8))⟩])
  .ret))))⟩
theorem l_laws_toSpace : lowF PA f_laws_toSpace 1 [] = some c_laws_toSpace := by kernel_rfl
abbrev f_laws_eqInt64S : FuncId := 13
def c_laws_eqInt64S : AF := ⟨2, 26, [.t 4],
  (.seq (.reg [⟨(some 4), none, .q (.mv (.c (.bool false)))⟩])
  (.seq (.seq (.reg [⟨(some 6), none, .q (.mv (.t 0))⟩,
      ⟨(some 7), none, .q (.len (.t 6))⟩,
      ⟨(some 8), none, .q (.mv (.t 1))⟩,
      ⟨(some 9), none, .q (.len (.t 8))⟩,
      ⟨(some 10), none, .q (.bin .neq (.t 7) (.t 9))⟩])
   (.cond (.t 10)
    (.seq (.reg [⟨(some 4), none, .q (.mv (.c (.bool false)))⟩])
    .ret)
    .skip))
  (.seq (.seq (.reg [⟨(some 5), none, .q (.mv (.c (.int .i64 0)))⟩])
   (.block 0 (.loop [0, 1, 5] (.seq (.seq (.reg [⟨(some 11), none, .q (.mv (.t 5))⟩,
         ⟨(some 12), none, .q (.mv (.t 0))⟩,
         ⟨(some 13), none, .q (.len (.t 12))⟩,
         ⟨(some 14), none, .q (.bin .lss (.t 11) (.t 13))⟩])
      (.cond (.t 14)
       .skip
       (.exit 0)))
     (.seq (.block 1 (.seq (.sch (.take 0 ⟨(some 17), none, .q (.mv (.t 0))⟩ (.take 1 ⟨(some 18), none, .q (.mv (.t 5))⟩ (.take 2 ⟨(some 19), none, .q (.ixs 1 (.t 17) (.t 18))⟩ (.take 3 ⟨(some 20), none, .q (.ld false 1 (.t 19))⟩ (.take 4 ⟨(some 21), none, .q (.mv (.t 1))⟩ (.take 5 ⟨(some 22), none, .q (.mv (.t 5))⟩ (.take 6 ⟨(some 23), none, .q (.ixs 1 (.t 21) (.t 22))⟩ (.take 7 ⟨(some 24), none, .q (.ld false 1 (.t 23))⟩ (.take 8 ⟨(some 25), none, .q (.bin .neq (.t 20) (.t 24))⟩ .done))))))))))
       (.cond (.t 25)
        (.seq (.reg [⟨(some 4), none, .q (.mv (.c (.bool false)))⟩])
        .ret)
        .skip)))
     (.reg [⟨(some 15), none, .q (.mv (.t 5))⟩,
       ⟨(some 16), none, .q (.bin .add (.t 15) (.c (.int .i64 1)))⟩,
       ⟨(some 5), none, .q (.mv (.t 16))⟩]))))))
  (.seq (.reg [⟨(some 4), none, .q (.mv (.c (.bool true)))⟩])
  .ret))))⟩
theorem l_laws_eqInt64S : lowF PA f_laws_eqInt64S 2 [.k [0, 1, 5], .s (.take 0 (.take 1 (.take 2 (.take 3 (.take 4 (.take 5 (.take 6 (.take 7 (.take 8 .done)))))))))] = some c_laws_eqInt64S := by kernel_rfl
abbrev f_laws_eqSpace : FuncId := 14
def c_laws_eqSpace : AF := ⟨2, 11, [.t 4],
  (.seq (.reg [⟨(some 2), none, .m (.box (.t 0))⟩,
     ⟨(some 3), none, .m (.box (.t 1))⟩,
     ⟨(some 4), none, .q (.mv (.c (.bool false)))⟩])
  (.seq (.seq (.reg [⟨(some 5), none, .q (.fad 0 (.t 2))⟩,
      ⟨(some 6), none, .q (.ld false 1 (.t 5))⟩,
      ⟨(some 7), none, .q (.fad 0 (.t 3))⟩,
      ⟨(some 8), none, .q (.ld false 1 (.t 7))⟩,
      ⟨(some 9), none, .c (.call 13 [(.t 6), (.t 8)])⟩,
      ⟨(some 10), none, .q (.un .not (.t 9))⟩])
   (.cond (.t 10)
    (.seq (.reg [⟨(some 4), none, .q (.mv (.c (.bool false)))⟩])
    .ret)
    .skip))
  (.seq (.reg [⟨(some 4), none, .q (.mv (.c (.bool true)))⟩])
  .ret)))⟩
theorem l_laws_eqSpace : lowF PA f_laws_eqSpace 2 [] = some c_laws_eqSpace := by kernel_rfl
abbrev f_laws_markSpace : FuncId := 15
def c_laws_markSpace : AF := ⟨2, 10, [.t 4],
  (.seq (.reg [⟨(some 2), none, .m (.box (.t 0))⟩,
     ⟨(some 4), none, .q (.mv (.c (.int .i64 0)))⟩])
  (.seq (.reg [⟨(some 5), none, .q (.fad 0 (.t 2))⟩,
     ⟨(some 6), none, .q (.ld false 1 (.t 5))⟩,
     ⟨(some 7), none, .q (.mv (.t 1))⟩,
     ⟨(some 8), none, .c (.call 16 [(.t 6), (.t 7)])⟩,
     ⟨(some 1), none, .q (.mv (.t 8))⟩])
  (.seq (.reg [⟨(some 9), none, .q (.mv (.t 1))⟩,
     ⟨(some 4), none, .q (.mv (.t 9))⟩])
  .ret)))⟩
theorem l_laws_markSpace : lowF PA f_laws_markSpace 2 [] = some c_laws_markSpace := by kernel_rfl
abbrev f_laws_markInt64S : FuncId := 16
def c_laws_markInt64S : AF := ⟨2, 19, [.t 4],
  (.seq (.reg [⟨(some 4), none, .q (.mv (.c (.int .i64 0)))⟩])
  (.seq (.seq (.reg [⟨(some 5), none, .q (.mv (.c (.int .i64 0)))⟩])
   (.block 0 (.loop [0, 1, 5, 19] (.seq (.seq (.reg [⟨(some 6), none, .q (.mv (.t 5))⟩,
         ⟨(some 7), none, .q (.mv (.t 0))⟩,
         ⟨(some 8), none, .q (.len (.t 7))⟩,
         ⟨(some 9), none, .q (.bin .lss (.t 6) (.t 8))⟩])
      (.cond (.t 9)
       .skip
       (.exit 0)))
     (.seq (.block 1 (.seq (.reg [⟨(some 12), none, .q (.mv (.t 0))⟩,
          ⟨(some 13), none, .q (.mv (.t 5))⟩,
          ⟨(some 14), none, .q (.mv (.t 1))⟩,
          ⟨(some 15), none, .q (.ixs 1 (.t 12) (.t 13))⟩,
          ⟨none, none, .m (.st false 1 (.t 15) (.t 14))⟩])
       (.reg [⟨(some 16), none, .q (.mv (.t 1))⟩,
         ⟨(some 17), none, .q (.bin .add (.t 16) (.c (.int .i64 1)))⟩,
         ⟨(some 1), none, .q (.mv (.t 17))⟩])))
     (.reg [⟨(some 10), none, .q (.mv (.t 5))⟩,
       ⟨(some 11), none, .q (.bin .add (.t 10) (.c (.int .i64 1)))⟩,
       ⟨(some 5), none, .q (.mv (.t 11))⟩]))))))
  (.seq (.reg [⟨(some 18), none, .q (.mv (.t 1))⟩,
     ⟨(some 4), none, .q (.mv (.t 18))⟩])
  .ret)))⟩
theorem l_laws_markInt64S : lowF PA f_laws_markInt64S 2 [.k [0, 1, 5, 19]] = some c_laws_markInt64S := by kernel_rfl
abbrev f_laws_heldInt64S : FuncId := 17
def c_laws_heldInt64S : AF := ⟨2, 21, [.t 4],
  (.seq (.reg [⟨(some 4), none, .q (.mv (.c (.int .i64 0)))⟩])
  (.seq (.seq (.reg [⟨(some 5), none, .q (.mv (.c (.int .i64 0)))⟩])
   (.block 0 (.loop [0, 1, 5] (.seq (.seq (.reg [⟨(some 6), none, .q (.mv (.t 5))⟩,
         ⟨(some 7), none, .q (.mv (.t 0))⟩,
         ⟨(some 8), none, .q (.len (.t 7))⟩,
         ⟨(some 9), none, .q (.bin .lss (.t 6) (.t 8))⟩])
      (.cond (.t 9)
       .skip
       (.exit 0)))
     (.seq (.block 1 (.seq (.seq (.reg [⟨(some 12), none, .q (.mv (.t 0))⟩,
           ⟨(some 13), none, .q (.mv (.t 5))⟩,
           ⟨(some 14), none, .q (.ixs 1 (.t 12) (.t 13))⟩,
           ⟨(some 15), none, .q (.ld false 1 (.t 14))⟩,
           ⟨(some 16), none, .q (.mv (.t 1))⟩,
           ⟨(some 17), none, .q (.bin .neq (.t 15) (.t 16))⟩])
        (.cond (.t 17)
         (.seq (.reg [⟨(some 4), none, .q (.mv (.c (.int .i64 (-1))))⟩])
         .ret)
         .skip))
       (.reg [⟨(some 18), none, .q (.mv (.t 1))⟩,
         ⟨(some 19), none, .q (.bin .add (.t 18) (.c (.int .i64 1)))⟩,
         ⟨(some 1), none, .q (.mv (.t 19))⟩])))
     (.reg [⟨(some 10), none, .q (.mv (.t 5))⟩,
       ⟨(some 11), none, .q (.bin .add (.t 10) (.c (.int .i64 1)))⟩,
       ⟨(some 5), none, .q (.mv (.t 11))⟩]))))))
  (.seq (.reg [⟨(some 20), none, .q (.mv (.t 1))⟩,
     ⟨(some 4), none, .q (.mv (.t 20))⟩])
  .ret)))⟩
theorem l_laws_heldInt64S : lowF PA f_laws_heldInt64S 2 [.k [0, 1, 5]] = some c_laws_heldInt64S := by kernel_rfl
abbrev f_laws_toInt64S : FuncId := 25
def c_laws_toInt64S : AF := ⟨1, 22, [.t 2],
  (.seq (.reg [⟨(some 2), none, .q (.mv (.c (.slice none 0 0)))⟩])
  (.seq (.reg [⟨(some 5), none, .q (.mv (.t 0))⟩,
     ⟨(some 6), none, .q (.len (.t 5))⟩,
     ⟨(some 7), none, .m (.mks 1 (.v (.int .i64 0)) 8 (.t 6) (.t 6))⟩,
     ⟨(some 3), none, .q (.mv (.t 7))⟩])
  (.seq (.seq (.reg [⟨(some 4), none, .q (.mv (.c (.int .i64 0)))⟩])
   (.block 0 (.loop [0, 3, 4] (.seq (.seq (.reg [⟨(some 8), none, .q (.mv (.t 4))⟩,
         ⟨(some 9), none, .q (.mv (.t 0))⟩,
         ⟨(some 10), none, .q (.len (.t 9))⟩,
         ⟨(some 11), none, .q (.bin .lss (.t 8) (.t 10))⟩])
      (.cond (.t 11)
       .skip
       (.exit 0)))
     (.seq (.block 1 (.reg [⟨(some 14), none, .q (.mv (.t 3))⟩,
         ⟨(some 15), none, .q (.mv (.t 4))⟩,
         ⟨(some 16), none, .q (.mv (.t 0))⟩,
         ⟨(some 17), none, .q (.mv (.t 4))⟩,
         ⟨(some 18), none, .q (.ixs 1 (.t 16) (.t 17))⟩,
         ⟨(some 19), none, .q (.ld false 1 (.t 18))⟩,
         ⟨(some 20), none, .q (.ixs 1 (.t 14) (.t 15))⟩,
         ⟨none, none, .m (.st false 1 (.t 20) (.t 19))⟩]))
     (.reg [⟨(some 12), none, .q (.mv (.t 4))⟩,
       ⟨(some 13), none, .q (.bin .add (.t 12) (.c (.int .i64 1)))⟩,
       ⟨(some 4), none, .q (.mv (.t 13))⟩]))))))
  (.seq (.reg [⟨(some 21), none, .q (.mv (.t 3))⟩,
     ⟨(some 2), none, .q (.mv (.t 21))⟩])
  .ret))))⟩
theorem l_laws_toInt64S : lowF PA f_laws_toInt64S 1 [.k [0, 3, 4]] = some c_laws_toInt64S := by kernel_rfl
abbrev f_spec_SyndromeOf : FuncId := 31
def c_spec_SyndromeOf : AF := ⟨3, 41, [.t 6, .t 7],
  (.seq (.reg [⟨(some 3), none, .m (.box (.t 0))⟩,
     ⟨(some 6), none, .q (.mv (.c (.slice none 0 0)))⟩,
     ⟨(some 7), none, .q (.mv (.c (.int .i64 0)))⟩])
  (.seq (.reg [⟨(some 11), none, .q (.ld true 1 (.t 3))⟩,
     ⟨(some 12), none, .q (.mv (.t 2))⟩,
     ⟨(some 13), none, .m (.bsl 1 [(.t 12)])⟩,
     ⟨(some 14), none, .c (.call 51 [(.t 11), (.t 13)])⟩,
     ⟨(some 8), none, .q (.mv (.t 14))⟩])
  (.seq (.seq (.reg [⟨(some 15), none, .q (.mv (.t 8))⟩,
      ⟨(some 16), none, .q (.bin .eql (.t 15) (.c (.int .i64 0)))⟩])
   (.cond (.t 16)
    (.reg [⟨(some 17), none, .q (.ld true 1 (.t 3))⟩,
      ⟨(some 18), none, .q (.mv (.t 1))⟩,
      ⟨(some 19), none, .c (.call 58 [(.t 17), (.t 18)])⟩,
      ⟨(some 8), none, .q (.mv (.t 19))⟩])
    .skip))
  (.seq (.seq (.reg [⟨(some 20), none, .q (.mv (.t 8))⟩,
      ⟨(some 21), none, .q (.bin .neq (.t 20) (.c (.int .i64 0)))⟩])
   (.cond (.t 21)
    (.seq (.reg [⟨(some 22), none, .q (.mv (.t 8))⟩,
       ⟨(some 6), none, .q (.mv (.c (.slice none 0 0)))⟩,
       ⟨(some 7), none, .q (.mv (.t 22))⟩])
    .ret)
    .skip))
  (.seq (.reg [⟨(some 23), none, .m (.bsl 1 [])⟩,
     ⟨(some 9), none, .q (.mv (.t 23))⟩])
  (.seq (.seq (.reg [⟨(some 24), none, .q (.mv (.t 1))⟩,
      ⟨(some 25), none, .q (.len (.t 24))⟩,
      ⟨(some 26), none, .q (.mv (.c (.int .i64 0)))⟩])
   (.block 0 (.loop [1, 2, 3, 9, 25, 26] (.seq (.reg [⟨(some 27), none, .q (.bin .lss (.t 26) (.t 25))⟩])
     (.seq (.cond (.t 27)
       .skip
       (.exit 0))
     (.seq (.block 1 (.seq (.reg [⟨(some 28), none, .q (.mv (.t 26))⟩,
          ⟨(some 10), none, .q (.mv (.t 28))⟩])
       (.sch (.take 0 ⟨(some 29), none, .q (.mv (.t 9))⟩ (.take 1 ⟨(some 30), none, .q (.ld true 1 (.t 3))⟩ (.take 2 ⟨(some 31), none, .q (.mv (.t 1))⟩ (.take 3 ⟨(some 32), none, .q (.mv (.t 10))⟩ (.take 4 ⟨(some 33), none, .q (.ixs 1 (.t 31) (.t 32))⟩ (.take 5 ⟨(some 34), none, .q (.ld false 1 (.t 33))⟩ (.take 6 ⟨(some 35), none, .q (.mv (.t 2))⟩ (.one ⟨(some 36), none, .c (.call 59 [(.t 30), (.t 34), (.t 35)])⟩ [5, 1] (.one ⟨(some 37), none, .m (.bsl 1 [(.t 36)])⟩ [] (.one ⟨(some 38), none, .m (.app 1 8 (.t 29) (.t 37))⟩ [] (.take 10 ⟨(some 9), none, .q (.mv (.t 38))⟩ .done))))))))))))))
     (.reg [⟨(some 39), none, .q (.bin .add (.t 26) (.c (.int .i64 1)))⟩,
       ⟨(some 26), none, .q (.mv (.t 39))⟩])))))))
  (.seq (.reg [⟨(some 40), none, .q (.mv (.t 9))⟩,
     ⟨(some 6), none, .q (.mv (.t 40))⟩,
     ⟨(some 7), none, .q (.mv (.c (.int .i64 0)))⟩])
  .ret)))))))⟩
theorem l_spec_SyndromeOf : lowF PA f_spec_SyndromeOf 3 [.k [1, 2, 3, 9, 25, 26], .s (.take 0 (.take 1 (.take 2 (.take 3 (.take 4 (.take 5 (.take 6 (.one 7 (.one 8 (.one 9 (.take 10 .done)))))))))))] = some c_spec_SyndromeOf := by kernel_rfl
abbrev f_impl_SyndromeOf : FuncId := 32
def c_impl_SyndromeOf : AF := ⟨3, 40, [.t 6, .t 7],
  (.seq (.reg [⟨(some 3), none, .m (.box (.t 0))⟩,
     ⟨(some 6), none, .q (.mv (.c (.slice none 0 0)))⟩,
     ⟨(some 7), none, .q (.mv (.c (.int .i64 0)))⟩])
  (.seq (.seq (.reg [⟨(some 12), none, .q (.ld true 1 (.t 3))⟩,
      ⟨(some 13), none, .q (.mv (.t 1))⟩,
      ⟨(some 14), none, .q (.mv (.t 2))⟩,
      ⟨(some 15), none, .m (.bsl 1 [(.t 14)])⟩,
      ⟨(some 16), none, .c (.call 60 [(.t 12), (.t 13), (.t 15)])⟩,
      ⟨(some 8), none, .q (.mv (.t 16))⟩])
   (.seq (.reg [⟨(some 17), none, .q (.mv (.t 8))⟩,
      ⟨(some 18), none, .q (.bin .neq (.t 17) (.c (.int .i64 0)))⟩])
   (.cond (.t 18)
    (.seq (.reg [⟨(some 19), none, .q (.mv (.t 8))⟩,
       ⟨(some 6), none, .q (.mv (.c (.slice none 0 0)))⟩,
       ⟨(some 7), none, .q (.mv (.t 19))⟩])
    .ret)
    .skip)))
  (.seq (.reg [⟨(some 20), none, .m (.bsl 1 [])⟩,
     ⟨(some 9), none, .q (.mv (.t 20))⟩])
  (.seq (.seq (.reg [⟨(some 21), none, .q (.ld true 1 (.t 3))⟩,
      ⟨(some 22), none, .q (.mv (.t 1))⟩,
      ⟨(some 23), none, .c (.call 61 [(.t 21), (.t 22)])⟩,
      ⟨(some 24), none, .q (.len (.t 23))⟩,
      ⟨(some 25), none, .q (.mv (.c (.int .i64 0)))⟩])
   (.block 0 (.loop [2, 3, 9, 23, 24, 25] (.seq (.reg [⟨(some 26), none, .q (.bin .lss (.t 25) (.t 24))⟩])
     (.seq (.cond (.t 26)
       .skip
       (.exit 0))
     (.seq (.block 1 (.seq (.reg [⟨(some 27), none, .q (.ixs 8 (.t 23) (.t 25))⟩,
          ⟨(some 28), none, .q (.ld true 8 (.t 27))⟩,
          ⟨(some 11), none, .m (.alloc [(.v (.int .u8 0)), (.v (.int .u8 0)), (.v (.int .u8 0)), (.v (.int .u8 0)), (.v (.int .u8 0)), (.v (.int .u8 0)), (.v (.int .u8 0)), (.v (.int .u8 0))])⟩,
          ⟨none, none, .m (.st true 8 (.t 11) (.t 28))⟩])
       (.sch (.take 0 ⟨(some 29), none, .q (.mv (.t 9))⟩ (.take 1 ⟨(some 30), none, .q (.ld true 1 (.t 3))⟩ (.take 2 ⟨(some 31), none, .q (.ld true 1 (.t 3))⟩ (.take 3 ⟨(some 32), none, .q (.mv (.t 2))⟩ (.take 5 ⟨(some 34), none, .q (.ld true 8 (.t 11))⟩ (.one ⟨(some 33), none, .c (.call 63 [(.t 31), (.t 32)])⟩ [2] (.one ⟨(some 35), none, .c (.call 62 [(.t 30), (.t 33), (.t 34)])⟩ [5, 1] (.one ⟨(some 36), none, .m (.bsl 1 [(.t 35)])⟩ [] (.one ⟨(some 37), none, .m (.app 1 8 (.t 29) (.t 36))⟩ [] (.take 9 ⟨(some 9), none, .q (.mv (.t 37))⟩ .done)))))))))))))
     (.reg [⟨(some 38), none, .q (.bin .add (.t 25) (.c (.int .i64 1)))⟩,
       ⟨(some 25), none, .q (.mv (.t 38))⟩])))))))
  (.seq (.reg [⟨(some 39), none, .q (.mv (.t 9))⟩,
     ⟨(some 6), none, .q (.mv (.t 39))⟩,
     ⟨(some 7), none, .q (.mv (.c (.int .i64 0)))⟩])
  .ret)))))⟩
theorem l_impl_SyndromeOf : lowF PA f_impl_SyndromeOf 3 [.k [2, 3, 9, 23, 24, 25], .s (.take 0 (.take 1 (.take 2 (.take 3 (.take 5 (.one 4 (.one 6 (.one 7 (.one 8 (.take 9 .done))))))))))] = some c_impl_SyndromeOf := by kernel_rfl
abbrev f_laws_szInt64S : FuncId := 33
def c_laws_szInt64S : AF := ⟨2, 12, [.t 4],
  (.seq (.reg [⟨(some 4), none, .q (.mv (.c (.int .i64 0)))⟩])
  (.seq (.reg [⟨(some 5), none, .q (.mv (.t 1))⟩,
     ⟨(some 6), none, .q (.mv (.t 0))⟩,
     ⟨(some 7), none, .q (.len (.t 6))⟩,
     ⟨(some 8), none, .q (.bin .sub (.t 5) (.t 7))⟩,
     ⟨(some 1), none, .q (.mv (.t 8))⟩])
  (.seq (.seq (.reg [⟨(some 9), none, .q (.mv (.t 1))⟩,
      ⟨(some 10), none, .q (.bin .lss (.t 9) (.c (.int .i64 0)))⟩])
   (.cond (.t 10)
    (.seq (.reg [⟨(some 4), none, .q (.mv (.c (.int .i64 (-1))))⟩])
    .ret)
    .skip))
  (.seq (.reg [⟨(some 11), none, .q (.mv (.t 1))⟩,
     ⟨(some 4), none, .q (.mv (.t 11))⟩])
  .ret))))⟩
theorem l_laws_szInt64S : lowF PA f_laws_szInt64S 2 [] = some c_laws_szInt64S := by kernel_rfl
abbrev f_spec_l01N : FuncId := 35
def c_spec_l01N : AF := ⟨1, 20, [.t 2],
  (.seq (.reg [⟨(some 1), none, .m (.box (.t 0))⟩,
     ⟨(some 2), none, .q (.mv (.c (.int .i64 0)))⟩])
  (.seq (.reg [⟨(some 3), none, .q (.mv (.c (.int .i64 1)))⟩])
  (.seq (.seq (.reg [⟨(some 4), none, .q (.mv (.c (.int .i64 0)))⟩])
   (.block 0 (.loop [1, 3, 4] (.seq (.seq (.reg [⟨(some 5), none, .q (.mv (.t 4))⟩,
         ⟨(some 6), none, .q (.fad 0 (.t 1))⟩,
         ⟨(some 7), none, .q (.ld false 1 (.t 6))⟩,
         ⟨(some 8), none, .q (.len (.t 7))⟩,
         ⟨(some 9), none, .q (.bin .lss (.t 5) (.t 8))⟩])
      (.cond (.t 9)
       .skip
       (.exit 0)))
     (.seq (.block 1 (.reg [⟨(some 12), none, .q (.mv (.t 3))⟩,
         ⟨(some 13), none, .q (.fad 0 (.t 1))⟩,
         ⟨(some 14), none, .q (.ld false 1 (.t 13))⟩,
         ⟨(some 15), none, .q (.mv (.t 4))⟩,
         ⟨(some 16), none, .q (.ixs 1 (.t 14) (.t 15))⟩,
         ⟨(some 17), none, .q (.ld false 1 (.t 16))⟩,
         ⟨(some 18), none, .q (.bin .mul (.t 12) (.t 17))⟩,
         ⟨(some 3), none, .q (.mv (.t 18))⟩]))
     (.reg [⟨(some 10), none, .q (.mv (.t 4))⟩,
       ⟨(some 11), none, .q (.bin .add (.t 10) (.c (.int .i64 1)))⟩,
       ⟨(some 4), none, .q (.mv (.t 11))⟩]))))))
  (.seq (.reg [⟨(some 19), none, .q (.mv (.t 3))⟩,
     ⟨(some 2), none, .q (.mv (.t 19))⟩])
  .ret))))⟩
theorem l_spec_l01N : lowF PA f_spec_l01N 1 [.k [1, 3, 4]] = some c_spec_l01N := by kernel_rfl
abbrev f_spec_l01Words : FuncId := 51
def c_spec_l01Words : AF := ⟨2, 24, [.t 4],
  (.seq (.reg [⟨(some 2), none, .m (.box (.t 0))⟩,
     ⟨(some 4), none, .q (.mv (.c (.int .i64 0)))⟩])
  (.seq (.seq (.reg [⟨(some 6), none, .q (.ld true 1 (.t 2))⟩,
      ⟨(some 7), none, .c (.call 64 [(.t 6)])⟩,
      ⟨(some 8), none, .q (.un .not (.t 7))⟩])
   (.cond (.t 8)
    (.seq (.reg [⟨(some 4), none, .q (.mv (.c (.int .i64 1)))⟩])
    .ret)
    .skip))
  (.seq (.seq (.reg [⟨(some 5), none, .q (.mv (.c (.int .i64 0)))⟩])
   (.block 0 (.loop [1, 2, 5] (.seq (.seq (.reg [⟨(some 9), none, .q (.mv (.t 5))⟩,
         ⟨(some 10), none, .q (.mv (.t 1))⟩,
         ⟨(some 11), none, .q (.len (.t 10))⟩,
         ⟨(some 12), none, .q (.bin .lss (.t 9) (.t 11))⟩])
      (.cond (.t 12)
       .skip
       (.exit 0)))
     (.seq (.block 1 (.seq (.sch (.take 0 ⟨(some 15), none, .q (.mv (.t 1))⟩ (.take 1 ⟨(some 16), none, .q (.mv (.t 5))⟩ (.take 2 ⟨(some 17), none, .q (.ixs 1 (.t 15) (.t 16))⟩ (.take 3 ⟨(some 18), none, .q (.ld false 1 (.t 17))⟩ (.take 4 ⟨(some 19), none, .q (.ld true 1 (.t 2))⟩ (.one ⟨(some 20), none, .c (.call 35 [(.t 19)])⟩ [4] (.take 6 ⟨(some 21), none, .q (.bin .sub (.t 20) (.c (.int .i64 1)))⟩ (.one ⟨(some 22), none, .c (.call 65 [(.t 18), (.c (.int .i64 0)), (.t 21)])⟩ [3] (.take 8 ⟨(some 23), none, .q (.un .not (.t 22))⟩ .done))))))))))
       (.cond (.t 23)
        (.seq (.reg [⟨(some 4), none, .q (.mv (.c (.int .i64 2)))⟩])
        .ret)
        .skip)))
     (.reg [⟨(some 13), none, .q (.mv (.t 5))⟩,
       ⟨(some 14), none, .q (.bin .add (.t 13) (.c (.int .i64 1)))⟩,
       ⟨(some 5), none, .q (.mv (.t 14))⟩]))))))
  (.seq (.reg [⟨(some 4), none, .q (.mv (.c (.int .i64 0)))⟩])
  .ret))))⟩
theorem l_spec_l01Words : lowF PA f_spec_l01Words 2 [.k [1, 2, 5], .s (.take 0 (.take 1 (.take 2 (.take 3 (.take 4 (.one 5 (.take 6 (.one 7 (.take 8 .done)))))))))] = some c_spec_l01Words := by kernel_rfl
abbrev f_spec_l05Words : FuncId := 58
def c_spec_l05Words : AF := ⟨2, 21, [.t 4],
  (.seq (.reg [⟨(some 2), none, .m (.box (.t 0))⟩,
     ⟨(some 4), none, .q (.mv (.c (.int .i64 0)))⟩])
  (.seq (.reg [⟨(some 6), none, .q (.ld true 1 (.t 2))⟩,
     ⟨(some 7), none, .q (.mv (.t 1))⟩,
     ⟨(some 8), none, .c (.call 51 [(.t 6), (.t 7)])⟩,
     ⟨(some 5), none, .q (.mv (.t 8))⟩])
  (.seq (.block 0 (.seq (.reg [⟨(some 10), none, .q (.mv (.t 5))⟩,
       ⟨(some 11), none, .q (.bin .neq (.t 10) (.c (.int .i64 0)))⟩,
       ⟨(some 9), none, .q (.mv (.t 11))⟩])
    (.cond (.t 9)
     (.seq (.reg [⟨(some 12), none, .q (.mv (.t 5))⟩,
        ⟨(some 4), none, .q (.mv (.t 12))⟩])
     .ret)
     (.seq (.reg [⟨(some 14), none, .q (.mv (.t 1))⟩,
        ⟨(some 15), none, .q (.len (.t 14))⟩,
        ⟨(some 16), none, .q (.bin .gtr (.t 15) (.c (.int .i64 20)))⟩,
        ⟨(some 13), none, .q (.mv (.t 16))⟩])
     (.cond (.t 13)
      (.seq (.reg [⟨(some 4), none, .q (.mv (.c (.int .i64 2)))⟩])
      .ret)
      (.seq (.reg [⟨(some 18), none, .q (.ld true 1 (.t 2))⟩,
         ⟨(some 19), none, .c (.call 74 [(.t 18)])⟩,
         ⟨(some 20), none, .q (.un .not (.t 19))⟩,
         ⟨(some 17), none, .q (.mv (.t 20))⟩])
      (.cond (.t 17)
       (.seq (.reg [⟨(some 4), none, .q (.mv (.c (.int .i64 5)))⟩])
       .ret)
       .skip)))))))
  (.seq (.reg [⟨(some 4), none, .q (.mv (.c (.int .i64 0)))⟩])
  .ret))))⟩
theorem l_spec_l05Words : lowF PA f_spec_l05Words 2 [] = some c_spec_l05Words := by kernel_rfl
abbrev f_spec_l05Product : FuncId := 59
def c_spec_l05Product : AF := ⟨3, 40, [.t 6],
  (.seq (.reg [⟨(some 3), none, .m (.box (.t 0))⟩,
     ⟨(some 6), none, .q (.mv (.c (.int .i64 0)))⟩])
  (.seq (.sch (.take 0 ⟨(some 11), none, .q (.ld true 1 (.t 3))⟩ (.take 1 ⟨(some 12), none, .q (.mv (.t 1))⟩ (.take 3 ⟨(some 14), none, .q (.ld true 1 (.t 3))⟩ (.take 4 ⟨(some 15), none, .q (.mv (.t 2))⟩ (.one ⟨(some 13), none, .c (.call 75 [(.t 11), (.t 12)])⟩ [0] (.one ⟨(some 16), none, .c (.call 75 [(.t 14), (.t 15)])⟩ [3] (.take 6 ⟨(some 7), none, .q (.mv (.t 13))⟩ (.take 7 ⟨(some 8), none, .q (.mv (.t 16))⟩ (.take 8 ⟨(some 9), none, .q (.mv (.c (.int .i64 0)))⟩ .done))))))))))
  (.seq (.seq (.reg [⟨(some 17), none, .q (.mv (.t 7))⟩,
      ⟨(some 18), none, .q (.len (.t 17))⟩,
      ⟨(some 19), none, .q (.mv (.c (.int .i64 0)))⟩])
   (.block 0 (.loop [3, 7, 8, 9, 18, 19] (.seq (.reg [⟨(some 20), none, .q (.bin .lss (.t 19) (.t 18))⟩])
     (.seq (.cond (.t 20)
       .skip
       (.exit 0))
     (.seq (.block 1 (.seq (.reg [⟨(some 21), none, .q (.mv (.t 19))⟩,
          ⟨(some 10), none, .q (.mv (.t 21))⟩])
       (.sch (.take 0 ⟨(some 22), none, .q (.mv (.t 9))⟩ (.take 1 ⟨(some 23), none, .q (.mv (.t 7))⟩ (.take 2 ⟨(some 24), none, .q (.mv (.t 10))⟩ (.take 3 ⟨(some 25), none, .q (.ixs 1 (.t 23) (.t 24))⟩ (.take 4 ⟨(some 26), none, .q (.ld false 1 (.t 25))⟩ (.take 5 ⟨(some 27), none, .q (.mv (.t 8))⟩ (.take 6 ⟨(some 28), none, .q (.mv (.t 10))⟩ (.take 7 ⟨(some 29), none, .q (.ixs 1 (.t 27) (.t 28))⟩ (.take 8 ⟨(some 30), none, .q (.ld false 1 (.t 29))⟩ (.take 9 ⟨(some 31), none, .q (.bin .mul (.t 26) (.t 30))⟩ (.take 10 ⟨(some 32), none, .q (.bin .add (.t 22) (.t 31))⟩ (.take 11 ⟨(some 9), none, .q (.mv (.t 32))⟩ .done)))))))))))))))
     (.reg [⟨(some 33), none, .q (.bin .add (.t 19) (.c (.int .i64 1)))⟩,
       ⟨(some 19), none, .q (.mv (.t 33))⟩])))))))
  (.seq (.reg [⟨(some 34), none, .q (.mv (.t 9))⟩,
     ⟨(some 35), none, .q (.fad 0 (.t 3))⟩,
     ⟨(some 36), none, .q (.ld false 1 (.t 35))⟩,
     ⟨(some 37), none, .q (.ixs 1 (.t 36) (.c (.int .i64 0)))⟩,
     ⟨(some 38), none, .q (.ld false 1 (.t 37))⟩,
     ⟨(some 39), none, .q (.bin .rem (.t 34) (.t 38))⟩,
     ⟨(some 6), none, .q (.mv (.t 39))⟩])
  .ret))))⟩
theorem l_spec_l05Product : lowF PA f_spec_l05Product 3 [.s (.take 0 (.take 1 (.take 3 (.take 4 (.one 2 (.one 5 (.take 6 (.take 7 (.take 8 .done))))))))), .k [3, 7, 8, 9, 18, 19], .s (.take 0 (.take 1 (.take 2 (.take 3 (.take 4 (.take 5 (.take 6 (.take 7 (.take 8 (.take 9 (.take 10 (.take 11 .done))))))))))))] = some c_spec_l05Product := by kernel_rfl
abbrev f_impl_plainCode : FuncId := 60
def c_impl_plainCode : AF := ⟨3, 31, [.t 6],
  (.seq (.reg [⟨(some 3), none, .m (.box (.t 0))⟩,
     ⟨(some 6), none, .q (.mv (.c (.int .i64 0)))⟩])
  (.seq (.block 0 (.seq (.reg [⟨(some 8), none, .q (.ld true 1 (.t 3))⟩,
       ⟨(some 9), none, .c (.call 66 [(.t 8)])⟩,
       ⟨(some 10), none, .q (.un .not (.t 9))⟩,
       ⟨(some 7), none, .q (.mv (.t 10))⟩])
    (.cond (.t 7)
     (.seq (.reg [⟨(some 6), none, .q (.mv (.c (.int .i64 1)))⟩])
     .ret)
     (.seq (.reg [⟨(some 12), none, .q (.mv (.t 1))⟩,
        ⟨(some 13), none, .q (.len (.t 12))⟩,
        ⟨(some 14), none, .q (.bin .gtr (.t 13) (.c (.int .i64 20)))⟩,
        ⟨(some 15), none, .q (.mv (.t 14))⟩,
        ⟨(some 16), (some (15, false)), .q (.ld true 1 (.t 3))⟩,
        ⟨(some 17), (some (15, false)), .q (.mv (.t 1))⟩,
        ⟨(some 18), (some (15, false)), .c (.call 76 [(.t 16), (.t 17)])⟩,
        ⟨(some 19), (some (15, false)), .q (.un .not (.t 18))⟩,
        ⟨(some 20), none, .q (.pick (.t 15) (.c (.bool true)) (.t 19))⟩,
        ⟨(some 21), none, .q (.mv (.t 20))⟩,
        ⟨(some 22), (some (21, false)), .q (.ld true 1 (.t 3))⟩,
        ⟨(some 23), (some (21, false)), .q (.mv (.t 2))⟩,
        ⟨(some 24), (some (21, false)), .c (.call 76 [(.t 22), (.t 23)])⟩,
        ⟨(some 25), (some (21, false)), .q (.un .not (.t 24))⟩,
        ⟨(some 26), none, .q (.pick (.t 21) (.c (.bool true)) (.t 25))⟩,
        ⟨(some 11), none, .q (.mv (.t 26))⟩])
     (.cond (.t 11)
      (.seq (.reg [⟨(some 6), none, .q (.mv (.c (.int .i64 2)))⟩])
      .ret)
      (.seq (.reg [⟨(some 28), none, .q (.ld true 1 (.t 3))⟩,
         ⟨(some 29), none, .c (.call 77 [(.t 28)])⟩,
         ⟨(some 30), none, .q (.un .not (.t 29))⟩,
         ⟨(some 27), none, .q (.mv (.t 30))⟩])
      (.cond (.t 27)
       (.seq (.reg [⟨(some 6), none, .q (.mv (.c (.int .i64 5)))⟩])
       .ret)
       .skip)))))))
  (.seq (.reg [⟨(some 6), none, .q (.mv (.c (.int .i64 0)))⟩])
  .ret)))⟩
theorem l_impl_plainCode : lowF PA f_impl_plainCode 3 [] = some c_impl_plainCode := by kernel_rfl
abbrev f_impl_digitsOfAll : FuncId := 61
def c_impl_digitsOfAll : AF := ⟨2, 23, [.t 4],
  (.seq (.reg [⟨(some 2), none, .m (.box (.t 0))⟩,
     ⟨(some 4), none, .q (.mv (.c (.slice none 0 0)))⟩])
  (.seq (.reg [⟨(some 8), none, .m (.bsl 8 [])⟩,
     ⟨(some 5), none, .q (.mv (.t 8))⟩])
  (.seq (.seq (.reg [⟨(some 9), none, .q (.mv (.t 1))⟩,
      ⟨(some 10), none, .q (.len (.t 9))⟩,
      ⟨(some 11), none, .q (.mv (.c (.int .i64 0)))⟩])
   (.block 0 (.loop [2, 5, 9, 10, 11] (.seq (.reg [⟨(some 12), none, .q (.bin .lss (.t 11) (.t 10))⟩])
     (.seq (.cond (.t 12)
       .skip
       (.exit 0))
     (.seq (.block 1 (.seq (.reg [⟨(some 13), none, .q (.ixs 1 (.t 9) (.t 11))⟩,
          ⟨(some 14), none, .q (.ld false 1 (.t 13))⟩,
          ⟨(some 7), none, .q (.mv (.t 14))⟩])
       (.reg [⟨(some 15), none, .q (.mv (.t 5))⟩,
         ⟨(some 16), none, .q (.ld true 1 (.t 2))⟩,
         ⟨(some 17), none, .q (.mv (.t 7))⟩,
         ⟨(some 18), none, .c (.call 63 [(.t 16), (.t 17)])⟩,
         ⟨(some 19), none, .m (.bsl 8 [(.t 18)])⟩,
         ⟨(some 20), none, .m (.app 8 8 (.t 15) (.t 19))⟩,
         ⟨(some 5), none, .q (.mv (.t 20))⟩])))
     (.reg [⟨(some 21), none, .q (.bin .add (.t 11) (.c (.int .i64 1)))⟩,
       ⟨(some 11), none, .q (.mv (.t 21))⟩])))))))
  (.seq (.reg [⟨(some 22), none, .q (.mv (.t 5))⟩,
     ⟨(some 4), none, .q (.mv (.t 22))⟩])
  .ret))))⟩
theorem l_impl_digitsOfAll : lowF PA f_impl_digitsOfAll 2 [.k [2, 5, 9, 10, 11]] = some c_impl_digitsOfAll := by kernel_rfl
abbrev f_impl_products : FuncId := 62
def c_impl_products : AF := ⟨3, 31, [.t 6],
  (.seq (.reg [⟨(some 3), none, .m (.box (.t 0))⟩,
     ⟨(some 4), none, .m (.box (.t 1))⟩,
     ⟨(some 5), none, .m (.box (.t 2))⟩,
     ⟨(some 6), none, .q (.mv (.c (.int .i64 0)))⟩])
  (.seq (.reg [⟨(some 7), none, .q (.mv (.c (.int .i64 0)))⟩])
  (.seq (.seq (.reg [⟨(some 10), none, .q (.ld true 8 (.t 4))⟩,
      ⟨(some 11), none, .q (.mv (.c (.int .i64 0)))⟩])
   (.block 0 (.loop [3, 5, 7, 10, 11] (.seq (.reg [⟨(some 12), none, .q (.bin .lss (.t 11) (.c (.int .i64 8)))⟩])
     (.seq (.cond (.t 12)
       .skip
       (.exit 0))
     (.seq (.block 1 (.seq (.reg [⟨(some 13), none, .q (.mv (.t 11))⟩,
          ⟨(some 14), none, .q (.ixv 8 (.t 10) (.t 11))⟩,
          ⟨(some 8), none, .q (.mv (.t 13))⟩,
          ⟨(some 9), none, .q (.mv (.t 14))⟩])
       (.reg [⟨(some 15), none, .q (.mv (.t 7))⟩,
         ⟨(some 16), none, .q (.mv (.t 9))⟩,
         ⟨(some 17), none, .q (.cvt .i64 (.t 16))⟩,
         ⟨(some 18), none, .q (.mv (.t 8))⟩,
         ⟨(some 19), none, .q (.ixa 8 1 (.t 5) (.t 18))⟩,
         ⟨(some 20), none, .q (.ld false 1 (.t 19))⟩,
         ⟨(some 21), none, .q (.cvt .i64 (.t 20))⟩,
         ⟨(some 22), none, .q (.bin .mul (.t 17) (.t 21))⟩,
         ⟨(some 23), none, .q (.bin .add (.t 15) (.t 22))⟩,
         ⟨(some 7), none, .q (.mv (.t 23))⟩])))
     (.reg [⟨(some 24), none, .q (.bin .add (.t 11) (.c (.int .i64 1)))⟩,
       ⟨(some 11), none, .q (.mv (.t 24))⟩])))))))
  (.seq (.reg [⟨(some 25), none, .q (.mv (.t 7))⟩,
     ⟨(some 26), none, .q (.fad 0 (.t 3))⟩,
     ⟨(some 27), none, .q (.ld false 1 (.t 26))⟩,
     ⟨(some 28), none, .q (.ixs 1 (.t 27) (.c (.int .i64 0)))⟩,
     ⟨(some 29), none, .q (.ld false 1 (.t 28))⟩,
     ⟨(some 30), none, .q (.bin .rem (.t 25) (.t 29))⟩,
     ⟨(some 6), none, .q (.mv (.t 30))⟩])
  .ret))))⟩
theorem l_impl_products : lowF PA f_impl_products 3 [.k [3, 5, 7, 10, 11]] = some c_impl_products := by kernel_rfl
abbrev f_impl_digitsOf : FuncId := 63
def c_impl_digitsOf : AF := ⟨2, 34, [.c 4 true 8],
  (.seq (.reg [⟨(some 2), none, .m (.box (.t 0))⟩,
     ⟨(some 4), none, .m (.alloc [(.v (.int .u8 0)), (.v (.int .u8 0)), (.v (.int .u8 0)), (.v (.int .u8 0)), (.v (.int .u8 0)), (.v (.int .u8 0)), (.v (.int .u8 0)), (.v (.int .u8 0))])⟩])
  (.seq (.reg [⟨(some 7), none, .q (.bld [(.v (.int .u8 0)), (.v (.int .u8 0)), (.v (.int .u8 0)), (.v (.int .u8 0)), (.v (.int .u8 0)), (.v (.int .u8 0)), (.v (.int .u8 0)), (.v (.int .u8 0))] [])⟩,
     ⟨(some 5), none, .m (.alloc [(.v (.int .u8 0)), (.v (.int .u8 0)), (.v (.int .u8 0)), (.v (.int .u8 0)), (.v (.int .u8 0)), (.v (.int .u8 0)), (.v (.int .u8 0)), (.v (.int .u8 0))])⟩,
     ⟨none, none, .m (.st true 8 (.t 5) (.t 7))⟩])
  (.seq (.seq (.reg [⟨(some 8), none, .q (.fad 0 (.t 2))⟩,
      ⟨(some 9), none, .q (.ld false 1 (.t 8))⟩,
      ⟨(some 10), none, .q (.len (.t 9))⟩,
      ⟨(some 11), none, .q (.bin .sub (.t 10) (.c (.int .i64 1)))⟩,
      ⟨(some 6), none, .q (.mv (.t 11))⟩])
   (.block 0 (.loop [1, 2, 4, 5, 6] (.seq (.seq (.reg [⟨(some 12), none, .q (.mv (.t 6))⟩,
         ⟨(some 13), none, .q (.bin .geq (.t 12) (.c (.int .i64 0)))⟩])
      (.cond (.t 13)
       .skip
       (.exit 0)))
     (.seq (.block 1 (.seq (.reg [⟨(some 16), none, .q (.mv (.t 6))⟩,
          ⟨(some 17), none, .q (.mv (.t 1))⟩,
          ⟨(some 18), none, .q (.fad 0 (.t 2))⟩,
          ⟨(some 19), none, .q (.ld false 1 (.t 18))⟩,
          ⟨(some 20), none, .q (.mv (.t 6))⟩,
          ⟨(some 21), none, .q (.ixs 1 (.t 19) (.t 20))⟩,
          ⟨(some 22), none, .q (.ld false 1 (.t 21))⟩,
          ⟨(some 23), none, .q (.bin .rem (.t 17) (.t 22))⟩,
          ⟨(some 24), none, .q (.cvt .u8 (.t 23))⟩,
          ⟨(some 25), none, .q (.ixa 8 1 (.t 5) (.t 16))⟩,
          ⟨none, none, .m (.st false 1 (.t 25) (.t 24))⟩])
       (.reg [⟨(some 26), none, .q (.mv (.t 1))⟩,
         ⟨(some 27), none, .q (.fad 0 (.t 2))⟩,
         ⟨(some 28), none, .q (.ld false 1 (.t 27))⟩,
         ⟨(some 29), none, .q (.mv (.t 6))⟩,
         ⟨(some 30), none, .q (.ixs 1 (.t 28) (.t 29))⟩,
         ⟨(some 31), none, .q (.ld false 1 (.t 30))⟩,
         ⟨(some 32), none, .q (.bin .quo (.t 26) (.t 31))⟩,
         ⟨(some 1), none, .q (.mv (.t 32))⟩])))
     (.reg [⟨(some 14), none, .q (.mv (.t 6))⟩,
       ⟨(some 15), none, .q (.bin .sub (.t 14) (.c (.int .i64 1)))⟩,
       ⟨(some 6), none, .q (.mv (.t 15))⟩]))))))
  (.seq (.reg [⟨(some 33), none, .q (.ld true 8 (.t 5))⟩,
     ⟨none, none, .m (.st true 8 (.t 4) (.t 33))⟩])
  .ret))))⟩
theorem l_impl_digitsOf : lowF PA f_impl_digitsOf 2 [.k [1, 2, 4, 5, 6]] = some c_impl_digitsOf := by kernel_rfl
abbrev f_spec_l01Is : FuncId := 64
def c_spec_l01Is : AF := ⟨1, 26, [.t 2],
  (.seq (.reg [⟨(some 1), none, .m (.box (.t 0))⟩,
     ⟨(some 2), none, .q (.mv (.c (.bool false)))⟩])
  (.seq (.seq (.reg [⟨(some 4), none, .q (.fad 0 (.t 1))⟩,
      ⟨(some 5), none, .q (.ld false 1 (.t 4))⟩,
      ⟨(some 6), none, .q (.len (.t 5))⟩,
      ⟨(some 7), none, .c (.call 65 [(.t 6), (.c (.int .i64 1)), (.c (.int .i64 8))])⟩,
      ⟨(some 8), none, .q (.un .not (.t 7))⟩])
   (.cond (.t 8)
    (.seq (.reg [⟨(some 2), none, .q (.mv (.c (.bool false)))⟩])
    .ret)
    .skip))
  (.seq (.seq (.reg [⟨(some 3), none, .q (.mv (.c (.int .i64 0)))⟩])
   (.block 0 (.loop [1, 3] (.seq (.seq (.reg [⟨(some 9), none, .q (.mv (.t 3))⟩,
         ⟨(some 10), none, .q (.fad 0 (.t 1))⟩,
         ⟨(some 11), none, .q (.ld false 1 (.t 10))⟩,
         ⟨(some 12), none, .q (.len (.t 11))⟩,
         ⟨(some 13), none, .q (.bin .lss (.t 9) (.t 12))⟩])
      (.cond (.t 13)
       .skip
       (.exit 0)))
     (.seq (.block 1 (.seq (.reg [⟨(some 16), none, .q (.fad 0 (.t 1))⟩,
          ⟨(some 17), none, .q (.ld false 1 (.t 16))⟩,
          ⟨(some 18), none, .q (.mv (.t 3))⟩,
          ⟨(some 19), none, .q (.ixs 1 (.t 17) (.t 18))⟩,
          ⟨(some 20), none, .q (.ld false 1 (.t 19))⟩,
          ⟨(some 21), none, .c (.call 65 [(.t 20), (.c (.int .i64 2)), (.c (.int .i64 4))])⟩,
          ⟨(some 22), none, .q (.un .not (.t 21))⟩])
       (.cond (.t 22)
        (.seq (.reg [⟨(some 2), none, .q (.mv (.c (.bool false)))⟩])
        .ret)
        .skip)))
     (.reg [⟨(some 14), none, .q (.mv (.t 3))⟩,
       ⟨(some 15), none, .q (.bin .add (.t 14) (.c (.int .i64 1)))⟩,
       ⟨(some 3), none, .q (.mv (.t 15))⟩]))))))
  (.seq (.reg [⟨(some 23), none, .q (.ld true 1 (.t 1))⟩,
     ⟨(some 24), none, .c (.call 35 [(.t 23)])⟩,
     ⟨(some 25), none, .q (.bin .leq (.t 24) (.c (.int .i64 1024)))⟩,
     ⟨(some 2), none, .q (.mv (.t 25))⟩])
  .ret))))⟩
theorem l_spec_l01Is : lowF PA f_spec_l01Is 1 [.k [1, 3]] = some c_spec_l01Is := by kernel_rfl
abbrev f_spec_l01In : FuncId := 65
def c_spec_l01In : AF := ⟨3, 15, [.t 6],
  (.seq (.reg [⟨(some 6), none, .q (.mv (.c (.bool false)))⟩])
  (.seq (.reg [⟨(some 7), none, .q (.mv (.t 0))⟩,
     ⟨(some 8), none, .q (.mv (.t 1))⟩,
     ⟨(some 9), none, .q (.bin .geq (.t 7) (.t 8))⟩,
     ⟨(some 10), none, .q (.mv (.t 9))⟩,
     ⟨(some 11), (some (10, true)), .q (.mv (.t 0))⟩,
     ⟨(some 12), (some (10, true)), .q (.mv (.t 2))⟩,
     ⟨(some 13), (some (10, true)), .q (.bin .leq (.t 11) (.t 12))⟩,
     ⟨(some 14), none, .q (.pick (.t 10) (.t 13) (.c (.bool false)))⟩,
     ⟨(some 6), none, .q (.mv (.t 14))⟩])
  .ret))⟩
theorem l_spec_l01In : lowF PA f_spec_l01In 3 [] = some c_spec_l01In := by kernel_rfl
abbrev f_impl_IsSpace : FuncId := 66
def c_impl_IsSpace : AF := ⟨1, 35, [.t 2],
  (.seq (.reg [⟨(some 1), none, .m (.box (.t 0))⟩,
     ⟨(some 2), none, .q (.mv (.c (.bool false)))⟩])
  (.seq (.seq (.reg [⟨(some 6), none, .q (.fad 0 (.t 1))⟩,
      ⟨(some 7), none, .q (.ld false 1 (.t 6))⟩,
      ⟨(some 8), none, .q (.len (.t 7))⟩,
      ⟨(some 9), none, .q (.bin .lss (.t 8) (.c (.int .i64 1)))⟩,
      ⟨(some 10), none, .q (.mv (.t 9))⟩,
      ⟨(some 11), (some (10, false)), .q (.fad 0 (.t 1))⟩,
      ⟨(some 12), (some (10, false)), .q (.ld false 1 (.t 11))⟩,
      ⟨(some 13), (some (10, false)), .q (.len (.t 12))⟩,
      ⟨(some 14), (some (10, false)), .q (.bin .gtr (.t 13) (.c (.int .i64 8)))⟩,
      ⟨(some 15), none, .q (.pick (.t 10) (.c (.bool true)) (.t 14))⟩])
   (.cond (.t 15)
    (.seq (.reg [⟨(some 2), none, .q (.mv (.c (.bool false)))⟩])
    .ret)
    .skip))
  (.seq (.reg [⟨(some 3), none, .q (.mv (.c (.int .i64 1)))⟩])
  (.seq (.seq (.reg [⟨(some 16), none, .q (.fad 0 (.t 1))⟩,
      ⟨(some 17), none, .q (.ld false 1 (.t 16))⟩,
      ⟨(some 18), none, .q (.len (.t 17))⟩,
      ⟨(some 19), none, .q (.mv (.c (.int .i64 0)))⟩])
   (.block 0 (.loop [3, 17, 18, 19] (.seq (.reg [⟨(some 20), none, .q (.bin .lss (.t 19) (.t 18))⟩])
     (.seq (.cond (.t 20)
       .skip
       (.exit 0))
     (.seq (.block 1 (.seq (.reg [⟨(some 21), none, .q (.ixs 1 (.t 17) (.t 19))⟩,
          ⟨(some 22), none, .q (.ld false 1 (.t 21))⟩,
          ⟨(some 5), none, .q (.mv (.t 22))⟩])
       (.seq (.seq (.reg [⟨(some 23), none, .q (.mv (.t 5))⟩,
           ⟨(some 24), none, .q (.bin .lss (.t 23) (.c (.int .i64 2)))⟩,
           ⟨(some 25), none, .q (.mv (.t 24))⟩,
           ⟨(some 26), (some (25, false)), .q (.mv (.t 5))⟩,
           ⟨(some 27), (some (25, false)), .q (.bin .gtr (.t 26) (.c (.int .i64 4)))⟩,
           ⟨(some 28), none, .q (.pick (.t 25) (.c (.bool true)) (.t 27))⟩])
        (.cond (.t 28)
         (.seq (.reg [⟨(some 2), none, .q (.mv (.c (.bool false)))⟩])
         .ret)
         .skip))
       (.reg [⟨(some 29), none, .q (.mv (.t 3))⟩,
         ⟨(some 30), none, .q (.mv (.t 5))⟩,
         ⟨(some 31), none, .q (.bin .mul (.t 29) (.t 30))⟩,
         ⟨(some 3), none, .q (.mv (.t 31))⟩]))))
     (.reg [⟨(some 32), none, .q (.bin .add (.t 19) (.c (.int .i64 1)))⟩,
       ⟨(some 19), none, .q (.mv (.t 32))⟩])))))))
  (.seq (.reg [⟨(some 33), none, .q (.mv (.t 3))⟩,
     ⟨(some 34), none, .q (.bin .leq (.t 33) (.c (.int .i64 1024)))⟩,
     ⟨(some 2), none, .q (.mv (.t 34))⟩])
  .ret)))))⟩
theorem l_impl_IsSpace : lowF PA f_impl_IsSpace 1 [.k [3, 17, 18, 19]] = some c_impl_IsSpace := by kernel_rfl
abbrev f_impl_count : FuncId := 67
def c_impl_count : AF := ⟨1, 18, [.t 2],
  (.seq (.reg [⟨(some 1), none, .m (.box (.t 0))⟩,
     ⟨(some 2), none, .q (.mv (.c (.int .i64 0)))⟩])
  (.seq (.reg [⟨(some 3), none, .q (.mv (.c (.int .i64 1)))⟩])
  (.seq (.seq (.reg [⟨(some 6), none, .q (.fad 0 (.t 1))⟩,
      ⟨(some 7), none, .q (.ld false 1 (.t 6))⟩,
      ⟨(some 8), none, .q (.len (.t 7))⟩,
      ⟨(some 9), none, .q (.mv (.c (.int .i64 0)))⟩])
   (.block 0 (.loop [3, 7, 8, 9] (.seq (.reg [⟨(some 10), none, .q (.bin .lss (.t 9) (.t 8))⟩])
     (.seq (.cond (.t 10)
       .skip
       (.exit 0))
     (.seq (.block 1 (.seq (.reg [⟨(some 11), none, .q (.ixs 1 (.t 7) (.t 9))⟩,
          ⟨(some 12), none, .q (.ld false 1 (.t 11))⟩,
          ⟨(some 5), none, .q (.mv (.t 12))⟩])
       (.reg [⟨(some 13), none, .q (.mv (.t 3))⟩,
         ⟨(some 14), none, .q (.mv (.t 5))⟩,
         ⟨(some 15), none, .q (.bin .mul (.t 13) (.t 14))⟩,
         ⟨(some 3), none, .q (.mv (.t 15))⟩])))
     (.reg [⟨(some 16), none, .q (.bin .add (.t 9) (.c (.int .i64 1)))⟩,
       ⟨(some 9), none, .q (.mv (.t 16))⟩])))))))
  (.seq (.reg [⟨(some 17), none, .q (.mv (.t 3))⟩,
     ⟨(some 2), none, .q (.mv (.t 17))⟩])
  .ret))))⟩
theorem l_impl_count : lowF PA f_impl_count 1 [.k [3, 7, 8, 9]] = some c_impl_count := by kernel_rfl
abbrev f_spec_l05Plain : FuncId := 74
def c_spec_l05Plain : AF := ⟨1, 29, [.t 2],
  (.seq (.reg [⟨(some 1), none, .m (.box (.t 0))⟩,
     ⟨(some 2), none, .q (.mv (.c (.bool false)))⟩])
  (.seq (.seq (.reg [⟨(some 4), none, .q (.fad 0 (.t 1))⟩,
      ⟨(some 5), none, .q (.ld false 1 (.t 4))⟩,
      ⟨(some 6), none, .q (.len (.t 5))⟩,
      ⟨(some 7), none, .q (.mv (.c (.int .i64 0)))⟩])
   (.block 0 (.loop [1, 6, 7] (.seq (.reg [⟨(some 8), none, .q (.bin .lss (.t 7) (.t 6))⟩])
     (.seq (.cond (.t 8)
       .skip
       (.exit 0))
     (.seq (.block 1 (.seq (.reg [⟨(some 9), none, .q (.mv (.t 7))⟩,
          ⟨(some 3), none, .q (.mv (.t 9))⟩])
       (.seq (.sch (.take 0 ⟨(some 10), none, .q (.fad 0 (.t 1))⟩ (.take 1 ⟨(some 11), none, .q (.ld false 1 (.t 10))⟩ (.take 2 ⟨(some 12), none, .q (.mv (.t 3))⟩ (.take 3 ⟨(some 13), none, .q (.ixs 1 (.t 11) (.t 12))⟩ (.take 4 ⟨(some 14), none, .q (.ld false 1 (.t 13))⟩ (.take 5 ⟨(some 15), none, .q (.fad 0 (.t 1))⟩ (.take 6 ⟨(some 16), none, .q (.ld false 1 (.t 15))⟩ (.take 7 ⟨(some 17), none, .q (.ixs 1 (.t 16) (.c (.int .i64 0)))⟩ (.take 8 ⟨(some 18), none, .q (.ld false 1 (.t 17))⟩ (.take 9 ⟨(some 19), none, .q (.bin .neq (.t 14) (.t 18))⟩ (.take 10 ⟨(some 20), none, .q (.mv (.t 19))⟩ (.take 11 ⟨(some 21), (some (20, false)), .q (.fad 0 (.t 1))⟩ (.take 12 ⟨(some 22), (some (20, false)), .q (.ld false 1 (.t 21))⟩ (.take 13 ⟨(some 23), (some (20, false)), .q (.mv (.t 3))⟩ (.take 14 ⟨(some 24), (some (20, false)), .q (.ixs 1 (.t 22) (.t 23))⟩ (.take 15 ⟨(some 25), (some (20, false)), .q (.ld false 1 (.t 24))⟩ (.take 16 ⟨(some 26), (some (20, false)), .q (.bin .gtr (.t 25) (.c (.int .i64 3)))⟩ (.take 17 ⟨(some 27), none, .q (.pick (.t 20) (.c (.bool true)) (.t 26))⟩ .done)))))))))))))))))))
       (.cond (.t 27)
        (.seq (.reg [⟨(some 2), none, .q (.mv (.c (.bool false)))⟩])
        .ret)
        .skip))))
     (.reg [⟨(some 28), none, .q (.bin .add (.t 7) (.c (.int .i64 1)))⟩,
       ⟨(some 7), none, .q (.mv (.t 28))⟩])))))))
  (.seq (.reg [⟨(some 2), none, .q (.mv (.c (.bool true)))⟩])
  .ret)))⟩
theorem l_spec_l05Plain : lowF PA f_spec_l05Plain 1 [.k [1, 6, 7], .s (.take 0 (.take 1 (.take 2 (.take 3 (.take 4 (.take 5 (.take 6 (.take 7 (.take 8 (.take 9 (.take 10 (.take 11 (.take 12 (.take 13 (.take 14 (.take 15 (.take 16 (.take 17 .done))))))))))))))))))] = some c_spec_l05Plain := by kernel_rfl
abbrev f_spec_l01Digits : FuncId := 75
def c_spec_l01Digits : AF := ⟨2, 37, [.t 4],
  (.seq (.reg [⟨(some 2), none, .m (.box (.t 0))⟩,
     ⟨(some 4), none, .q (.mv (.c (.slice none 0 0)))⟩])
  (.seq (.reg [⟨(some 7), none, .q (.fad 0 (.t 2))⟩,
     ⟨(some 8), none, .q (.ld false 1 (.t 7))⟩,
     ⟨(some 9), none, .q (.len (.t 8))⟩,
     ⟨(some 10), none, .m (.mks 1 (.v (.int .i64 0)) 8 (.t 9) (.t 9))⟩,
     ⟨(some 5), none, .q (.mv (.t 10))⟩])
  (.seq (.seq (.reg [⟨(some 11), none, .q (.fad 0 (.t 2))⟩,
      ⟨(some 12), none, .q (.ld false 1 (.t 11))⟩,
      ⟨(some 13), none, .q (.len (.t 12))⟩,
      ⟨(some 14), none, .q (.bin .sub (.t 13) (.c (.int .i64 1)))⟩,
      ⟨(some 6), none, .q (.mv (.t 14))⟩])
   (.block 0 (.loop [1, 2, 5, 6] (.seq (.seq (.reg [⟨(some 15), none, .q (.mv (.t 6))⟩,
         ⟨(some 16), none, .q (.bin .geq (.t 15) (.c (.int .i64 0)))⟩])
      (.cond (.t 16)
       .skip
       (.exit 0)))
     (.seq (.block 1 (.seq (.reg [⟨(some 19), none, .q (.mv (.t 5))⟩,
          ⟨(some 20), none, .q (.mv (.t 6))⟩,
          ⟨(some 21), none, .q (.mv (.t 1))⟩,
          ⟨(some 22), none, .q (.fad 0 (.t 2))⟩,
          ⟨(some 23), none, .q (.ld false 1 (.t 22))⟩,
          ⟨(some 24), none, .q (.mv (.t 6))⟩,
          ⟨(some 25), none, .q (.ixs 1 (.t 23) (.t 24))⟩,
          ⟨(some 26), none, .q (.ld false 1 (.t 25))⟩,
          ⟨(some 27), none, .q (.bin .rem (.t 21) (.t 26))⟩,
          ⟨(some 28), none, .q (.ixs 1 (.t 19) (.t 20))⟩,
          ⟨none, none, .m (.st false 1 (.t 28) (.t 27))⟩])
       (.reg [⟨(some 29), none, .q (.mv (.t 1))⟩,
         ⟨(some 30), none, .q (.fad 0 (.t 2))⟩,
         ⟨(some 31), none, .q (.ld false 1 (.t 30))⟩,
         ⟨(some 32), none, .q (.mv (.t 6))⟩,
         ⟨(some 33), none, .q (.ixs 1 (.t 31) (.t 32))⟩,
         ⟨(some 34), none, .q (.ld false 1 (.t 33))⟩,
         ⟨(some 35), none, .q (.bin .quo (.t 29) (.t 34))⟩,
         ⟨(some 1), none, .q (.mv (.t 35))⟩])))
     (.reg [⟨(some 17), none, .q (.mv (.t 6))⟩,
       ⟨(some 18), none, .q (.bin .sub (.t 17) (.c (.int .i64 1)))⟩,
       ⟨(some 6), none, .q (.mv (.t 18))⟩]))))))
  (.seq (.reg [⟨(some 36), none, .q (.mv (.t 5))⟩,
     ⟨(some 4), none, .q (.mv (.t 36))⟩])
  .ret))))⟩
theorem l_spec_l01Digits : lowF PA f_spec_l01Digits 2 [.k [1, 2, 5, 6]] = some c_spec_l01Digits := by kernel_rfl
abbrev f_impl_areWords : FuncId := 76
def c_impl_areWords : AF := ⟨2, 24, [.t 4],
  (.seq (.reg [⟨(some 2), none, .m (.box (.t 0))⟩,
     ⟨(some 4), none, .q (.mv (.c (.bool false)))⟩])
  (.seq (.reg [⟨(some 8), none, .q (.ld true 1 (.t 2))⟩,
     ⟨(some 9), none, .c (.call 67 [(.t 8)])⟩,
     ⟨(some 5), none, .q (.mv (.t 9))⟩])
  (.seq (.seq (.reg [⟨(some 10), none, .q (.mv (.t 1))⟩,
      ⟨(some 11), none, .q (.len (.t 10))⟩,
      ⟨(some 12), none, .q (.mv (.c (.int .i64 0)))⟩])
   (.block 0 (.loop [5, 10, 11, 12] (.seq (.reg [⟨(some 13), none, .q (.bin .lss (.t 12) (.t 11))⟩])
     (.seq (.cond (.t 13)
       .skip
       (.exit 0))
     (.seq (.block 1 (.seq (.reg [⟨(some 14), none, .q (.ixs 1 (.t 10) (.t 12))⟩,
          ⟨(some 15), none, .q (.ld false 1 (.t 14))⟩,
          ⟨(some 7), none, .q (.mv (.t 15))⟩])
       (.seq (.reg [⟨(some 16), none, .q (.mv (.t 7))⟩,
          ⟨(some 17), none, .q (.bin .lss (.t 16) (.c (.int .i64 0)))⟩,
          ⟨(some 18), none, .q (.mv (.t 17))⟩,
          ⟨(some 19), (some (18, false)), .q (.mv (.t 7))⟩,
          ⟨(some 20), (some (18, false)), .q (.mv (.t 5))⟩,
          ⟨(some 21), (some (18, false)), .q (.bin .geq (.t 19) (.t 20))⟩,
          ⟨(some 22), none, .q (.pick (.t 18) (.c (.bool true)) (.t 21))⟩])
       (.cond (.t 22)
        (.seq (.reg [⟨(some 4), none, .q (.mv (.c (.bool false)))⟩])
        .ret)
        .skip))))
     (.reg [⟨(some 23), none, .q (.bin .add (.t 12) (.c (.int .i64 1)))⟩,
       ⟨(some 12), none, .q (.mv (.t 23))⟩])))))))
  (.seq (.reg [⟨(some 4), none, .q (.mv (.c (.bool true)))⟩])
  .ret))))⟩
theorem l_impl_areWords : lowF PA f_impl_areWords 2 [.k [5, 10, 11, 12]] = some c_impl_areWords := by kernel_rfl
abbrev f_impl_isPlain : FuncId := 77
def c_impl_isPlain : AF := ⟨1, 17, [.t 2],
  (.seq (.reg [⟨(some 1), none, .m (.box (.t 0))⟩,
     ⟨(some 2), none, .q (.mv (.c (.bool false)))⟩])
  (.seq (.reg [⟨(some 4), none, .q (.fad 0 (.t 1))⟩,
     ⟨(some 5), none, .q (.ld false 1 (.t 4))⟩,
     ⟨(some 6), none, .q (.ixs 1 (.t 5) (.c (.int .i64 0)))⟩,
     ⟨(some 7), none, .q (.ld false 1 (.t 6))⟩,
     ⟨(some 3), none, .m (.alloc [(.v (.int .i64 0))])⟩,
     ⟨none, none, .m (.st false 1 (.t 3) (.t 7))⟩])
  (.seq (.reg [⟨(some 8), none, .q (.ld false 1 (.t 3))⟩,
     ⟨(some 9), none, .q (.bin .leq (.t 8) (.c (.int .i64 3)))⟩,
     ⟨(some 10), none, .q (.mv (.t 9))⟩,
     ⟨(some 11), (some (10, true)), .q (.fad 0 (.t 1))⟩,
     ⟨(some 12), (some (10, true)), .q (.ld false 1 (.t 11))⟩,
     ⟨(some 13), (some (10, true)), .q (.mkf 79 [(.t 3)])⟩,
     ⟨(some 14), (some (10, true)), .c (.call 78 [(.t 12), (.t 13)])⟩,
     ⟨(some 15), (some (10, true)), .q (.un .not (.t 14))⟩,
     ⟨(some 16), none, .q (.pick (.t 10) (.t 15) (.c (.bool false)))⟩,
     ⟨(some 2), none, .q (.mv (.t 16))⟩])
  .ret)))⟩
theorem l_impl_isPlain : lowF PA f_impl_isPlain 1 [] = some c_impl_isPlain := by kernel_rfl
abbrev f_slices_ContainsFunc___int64_int64_ : FuncId := 78
def c_slices_ContainsFunc___int64_int64_ : AF := ⟨2, 9, [.t 4],
  (.seq (.reg [⟨(some 4), none, .q (.mv (.c (.bool false)))⟩])
  (.seq (.reg [⟨(some 5), none, .q (.mv (.t 0))⟩,
     ⟨(some 6), none, .q (.mv (.t 1))⟩,
     ⟨(some 7), none, .c (.call 80 [(.t 5), (.t 6)])⟩,
     ⟨(some 8), none, .q (.bin .geq (.t 7) (.c (.int .i64 0)))⟩,
     ⟨(some 4), none, .q (.mv (.t 8))⟩])
  .ret))⟩
theorem l_slices_ContainsFunc___int64_int64_ : lowF PA f_slices_ContainsFunc___int64_int64_ 2 [] = some c_slices_ContainsFunc___int64_int64_ := by kernel_rfl
abbrev f_impl_isPlain_1 : FuncId := 79
def c_impl_isPlain_1 : AF := ⟨2, 7, [.t 3],
  (.seq (.reg [⟨(some 3), none, .q (.mv (.c (.bool false)))⟩])
  (.seq (.reg [⟨(some 4), none, .q (.mv (.t 0))⟩,
     ⟨(some 5), none, .q (.ld false 1 (.t 1))⟩,
     ⟨(some 6), none, .q (.bin .neq (.t 4) (.t 5))⟩,
     ⟨(some 3), none, .q (.mv (.t 6))⟩])
  .ret))⟩
theorem l_impl_isPlain_1 : lowF PA f_impl_isPlain_1 2 [] = some c_impl_isPlain_1 := by kernel_rfl
abbrev f_slices_IndexFunc___int64_int64_ : FuncId := 80
def c_slices_IndexFunc___int64_int64_ : AF := ⟨2, 19, [.t 4],
  (.seq (.reg [⟨(some 4), none, .q (.mv (.c (.int .i64 0)))⟩])
  (.seq (.seq (.reg [⟨(some 6), none, .q (.mv (.t 0))⟩,
      ⟨(some 7), none, .q (.len (.t 6))⟩,
      ⟨(some 8), none, .q (.mv (.c (.int .i64 0)))⟩])
   (.block 0 (.loop [0, 1, 7, 8] (.seq (.reg [⟨(some 9), none, .q (.bin .lss (.t 8) (.t 7))⟩])
     (.seq (.cond (.t 9)
       .skip
       (.exit 0))
     (.seq (.block 1 (.seq (.reg [⟨(some 10), none, .q (.mv (.t 8))⟩,
          ⟨(some 5), none, .q (.mv (.t 10))⟩])
       (.seq (.reg [⟨(some 11), none, .q (.mv (.t 1))⟩,
          ⟨(some 12), none, .q (.mv (.t 0))⟩,
          ⟨(some 13), none, .q (.mv (.t 5))⟩,
          ⟨(some 14), none, .q (.ixs 1 (.t 12) (.t 13))⟩,
          ⟨(some 15), none, .q (.ld false 1 (.t 14))⟩,
          ⟨(some 16), none, .c (.cav (.t 11) [(.t 15)])⟩])
       (.cond (.t 16)
        (.seq (.reg [⟨(some 17), none, .q (.mv (.t 5))⟩,
           ⟨(some 4), none, .q (.mv (.t 17))⟩])
        .ret)
        .skip))))
     (.reg [⟨(some 18), none, .q (.bin .add (.t 8) (.c (.int .i64 1)))⟩,
       ⟨(some 8), none, .q (.mv (.t 18))⟩])))))))
  (.seq (.reg [⟨(some 4), none, .q (.mv (.c (.int .i64 (-1))))⟩])
  .ret)))⟩
theorem l_slices_IndexFunc___int64_int64_ : lowF PA f_slices_IndexFunc___int64_int64_ 2 [.k [0, 1, 7, 8]] = some c_slices_IndexFunc___int64_int64_ := by kernel_rfl
end Go.Proofs.Ytepmkcfnknfmeaa.Va
