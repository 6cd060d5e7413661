/- The code of the functions that FnExactFirstShifts reaches, laid out for a walk: each is what the lowering makes of the program's own text. Condition: none. -/
import Derived.Shelf.SortM.Plain
import Derived.Test.YthnklfdoicdiaaaVa2
import Derived.Test.YthnklfdoicdiaaaProg
import Derived.KernelRfl
set_option linter.all false
set_option linter.unusedSimpArgs false
set_option linter.unusedVariables false
namespace Go.Proofs.Ythnklfdoicdiaaa.Va
open Go
noncomputable abbrev PA : Program := Go.Proofs.Try.prog
abbrev f_laws_FnExactFirstShifts : FuncId := 4
def c_laws_FnExactFirstShifts : AF := ⟨2, 117, [.t 4],
  (.seq (.reg [⟨(some 2), none, .m (.box (.t 0))⟩,
     ⟨(some 4), none, .q (.mv (.c (.bool false)))⟩])
  (.seq (.seq (.reg [⟨(some 17), none, .q (.mv (.t 1))⟩,
      ⟨(some 18), none, .q (.len (.t 17))⟩,
      ⟨(some 19), none, .q (.bin .gtr (.t 18) (.c (.int .i64 1048576)))⟩])
   (.cond (.t 19)
    (.seq (.reg [⟨(some 4), none, .q (.mv (.c (.bool true)))⟩])
    .ret)
    .skip))
  (.seq (.reg [⟨(some 5), none, .q (.mv (.c (.int .i64 1048576)))⟩])
  (.seq (.reg [⟨(some 20), none, .q (.ld true 1 (.t 2))⟩,
     ⟨(some 21), none, .q (.mv (.t 5))⟩,
     ⟨(some 22), none, .c (.call 6 [(.t 20), (.t 21)])⟩,
     ⟨(some 5), none, .q (.mv (.t 22))⟩])
  (.seq (.seq (.reg [⟨(some 23), none, .q (.mv (.t 5))⟩,
      ⟨(some 24), none, .q (.bin .lss (.t 23) (.c (.int .i64 0)))⟩])
   (.cond (.t 24)
    (.seq (.reg [⟨(some 4), none, .q (.mv (.c (.bool true)))⟩])
    .ret)
    .skip))
  (.seq (.reg [⟨(some 26), none, .q (.ld true 1 (.t 2))⟩,
     ⟨(some 27), none, .c (.call 8 [(.t 26)])⟩,
     ⟨(some 28), none, .q (.mv (.t 1))⟩,
     ⟨(some 29), none, .c (.call 9 [(.t 28)])⟩,
     ⟨(some 30), none, .c (.call 13 [(.t 27), (.t 29)])⟩,
     ⟨(some 25), none, .q (.mv (.t 30))⟩,
     ⟨(some 31), none, .q (.ext (.t 25) 0)⟩,
     ⟨(some 32), none, .q (.ext (.t 25) 1)⟩,
     ⟨(some 6), none, .q (.mv (.t 31))⟩,
     ⟨(some 7), none, .q (.mv (.t 32))⟩])
  (.seq (.reg [⟨(some 33), none, .q (.ld true 1 (.t 2))⟩,
     ⟨(some 34), none, .c (.call 8 [(.t 33)])⟩,
     ⟨(some 8), none, .m (.alloc [(.v (.slice none 0 0))])⟩,
     ⟨none, none, .m (.st true 1 (.t 8) (.t 34))⟩])
  (.seq (.reg [⟨(some 35), none, .q (.mv (.t 1))⟩,
     ⟨(some 36), none, .c (.call 9 [(.t 35)])⟩,
     ⟨(some 9), none, .q (.mv (.t 36))⟩])
  (.seq (.reg [⟨(some 38), none, .q (.ld true 1 (.t 8))⟩,
     ⟨(some 39), none, .q (.mv (.t 9))⟩,
     ⟨(some 40), none, .c (.call 14 [(.t 38), (.t 39)])⟩,
     ⟨(some 37), none, .q (.mv (.t 40))⟩,
     ⟨(some 41), none, .q (.ext (.t 37) 0)⟩,
     ⟨(some 42), none, .q (.ext (.t 37) 1)⟩,
     ⟨(some 10), none, .q (.mv (.t 41))⟩,
     ⟨(some 11), none, .q (.mv (.t 42))⟩])
  (.seq (.seq (.reg [⟨(some 43), none, .q (.mv (.t 10))⟩,
      ⟨(some 44), none, .q (.mv (.t 6))⟩,
      ⟨(some 45), none, .c (.call 12 [(.t 43), (.t 44)])⟩,
      ⟨(some 46), none, .q (.un .not (.t 45))⟩,
      ⟨(some 47), none, .q (.mv (.t 46))⟩,
      ⟨(some 48), (some (47, false)), .q (.mv (.t 11))⟩,
      ⟨(some 49), (some (47, false)), .q (.mv (.t 7))⟩,
      ⟨(some 50), (some (47, false)), .q (.bin .neq (.t 48) (.t 49))⟩,
      ⟨(some 51), none, .q (.pick (.t 47) (.c (.bool true)) (.t 50))⟩])
   (.cond (.t 51)
    (.seq (.reg [⟨(some 4), none, .q (.mv (.c (.bool false)))⟩])
    .ret)
    .skip))
  (.seq (.seq (.sch (.take 0 ⟨(some 52), none, .q (.ld true 1 (.t 8))⟩ (.take 1 ⟨(some 53), none, .q (.ld true 1 (.t 2))⟩ (.one ⟨(some 54), none, .c (.call 8 [(.t 53)])⟩ [1] (.one ⟨(some 55), none, .c (.call 11 [(.t 52), (.t 54)])⟩ [0] (.take 4 ⟨(some 56), none, .q (.un .not (.t 55))⟩ .done))))))
   (.cond (.t 56)
    (.seq (.reg [⟨(some 4), none, .q (.mv (.c (.bool false)))⟩])
    .ret)
    .skip))
  (.seq (.seq (.reg [⟨(some 57), none, .q (.mv (.t 9))⟩,
      ⟨(some 58), none, .q (.mv (.t 1))⟩,
      ⟨(some 59), none, .c (.call 9 [(.t 58)])⟩,
      ⟨(some 60), none, .c (.call 12 [(.t 57), (.t 59)])⟩,
      ⟨(some 61), none, .q (.un .not (.t 60))⟩])
   (.cond (.t 61)
    (.seq (.reg [⟨(some 4), none, .q (.mv (.c (.bool false)))⟩])
    .ret)
    .skip))
  (.seq (.reg [⟨(some 12), none, .q (.mv (.c (.int .i64 1)))⟩])
  (.seq (.reg [⟨(some 62), none, .q (.ld true 1 (.t 8))⟩,
     ⟨(some 63), none, .q (.mv (.t 12))⟩,
     ⟨(some 64), none, .c (.call 15 [(.t 62), (.t 63)])⟩,
     ⟨(some 12), none, .q (.mv (.t 64))⟩])
  (.seq (.reg [⟨(some 65), none, .q (.mv (.t 9))⟩,
     ⟨(some 66), none, .q (.mv (.t 12))⟩,
     ⟨(some 67), none, .c (.call 16 [(.t 65), (.t 66)])⟩,
     ⟨(some 12), none, .q (.mv (.t 67))⟩])
  (.seq (.seq (.reg [⟨(some 68), none, .q (.mv (.t 12))⟩,
      ⟨(some 69), none, .q (.bin .lss (.t 68) (.c (.int .i64 0)))⟩,
      ⟨(some 70), none, .q (.mv (.t 69))⟩,
      ⟨(some 71), (some (70, false)), .q (.mv (.t 10))⟩,
      ⟨(some 72), (some (70, false)), .q (.mv (.t 6))⟩,
      ⟨(some 73), (some (70, false)), .c (.call 12 [(.t 71), (.t 72)])⟩,
      ⟨(some 74), (some (70, false)), .q (.un .not (.t 73))⟩,
      ⟨(some 75), none, .q (.pick (.t 70) (.c (.bool true)) (.t 74))⟩,
      ⟨(some 76), none, .q (.mv (.t 75))⟩,
      ⟨(some 77), (some (76, false)), .q (.mv (.t 11))⟩,
      ⟨(some 78), (some (76, false)), .q (.mv (.t 7))⟩,
      ⟨(some 79), (some (76, false)), .q (.bin .neq (.t 77) (.t 78))⟩,
      ⟨(some 80), none, .q (.pick (.t 76) (.c (.bool true)) (.t 79))⟩])
   (.cond (.t 80)
    (.seq (.reg [⟨(some 4), none, .q (.mv (.c (.bool false)))⟩])
    .ret)
    .skip))
  (.seq (.reg [⟨(some 13), none, .q (.mv (.c (.int .i64 1)))⟩])
  (.seq (.reg [⟨(some 81), none, .q (.mv (.t 10))⟩,
     ⟨(some 82), none, .q (.mv (.t 13))⟩,
     ⟨(some 83), none, .c (.call 16 [(.t 81), (.t 82)])⟩,
     ⟨(some 13), none, .q (.mv (.t 83))⟩])
  (.seq (.reg [⟨(some 14), none, .q (.mv (.c (.int .i64 1)))⟩])
  (.seq (.reg [⟨(some 84), none, .q (.mv (.t 10))⟩,
     ⟨(some 85), none, .q (.mv (.t 14))⟩,
     ⟨(some 86), none, .c (.call 17 [(.t 84), (.t 85)])⟩,
     ⟨(some 14), none, .q (.mv (.t 86))⟩])
  (.seq (.seq (.reg [⟨(some 87), none, .q (.mv (.t 14))⟩,
      ⟨(some 88), none, .q (.bin .lss (.t 87) (.c (.int .i64 0)))⟩])
   (.cond (.t 88)
    (.seq (.reg [⟨(some 4), none, .q (.mv (.c (.bool false)))⟩])
    .ret)
    .skip))
  (.seq (.seq (.reg [⟨(some 89), none, .q (.mv (.t 14))⟩,
      ⟨(some 90), none, .q (.mv (.t 13))⟩,
      ⟨(some 91), none, .q (.bin .neq (.t 89) (.t 90))⟩])
   (.cond (.t 91)
    (.seq (.reg [⟨(some 4), none, .q (.mv (.c (.bool false)))⟩])
    .ret)
    .skip))
  (.seq (.reg [⟨(some 93), none, .q (.ld true 1 (.t 2))⟩,
     ⟨(some 94), none, .c (.call 8 [(.t 93)])⟩,
     ⟨(some 95), none, .q (.mv (.t 1))⟩,
     ⟨(some 96), none, .c (.call 9 [(.t 95)])⟩,
     ⟨(some 97), none, .c (.call 14 [(.t 94), (.t 96)])⟩,
     ⟨(some 92), none, .q (.mv (.t 97))⟩,
     ⟨(some 98), none, .q (.ext (.t 92) 0)⟩,
     ⟨(some 99), none, .q (.ext (.t 92) 1)⟩,
     ⟨(some 15), none, .q (.mv (.t 98))⟩,
     ⟨(some 16), none, .q (.mv (.t 99))⟩])
  (.seq (.seq (.reg [⟨(some 100), none, .q (.mv (.t 15))⟩,
      ⟨(some 101), none, .q (.mv (.t 6))⟩,
      ⟨(some 102), none, .c (.call 12 [(.t 100), (.t 101)])⟩,
      ⟨(some 103), none, .q (.un .not (.t 102))⟩,
      ⟨(some 104), none, .q (.mv (.t 103))⟩,
      ⟨(some 105), (some (104, false)), .q (.mv (.t 16))⟩,
      ⟨(some 106), (some (104, false)), .q (.mv (.t 7))⟩,
      ⟨(some 107), (some (104, false)), .q (.bin .neq (.t 105) (.t 106))⟩,
      ⟨(some 108), none, .q (.pick (.t 104) (.c (.bool true)) (.t 107))⟩])
   (.cond (.t 108)
    (.seq (.reg [⟨(some 4), none, .q (.mv (.c (.bool false)))⟩])
    .ret)
    .skip))
  (.seq (.reg [⟨(some 14), none, .q (.mv (.c (.int .i64 1)))⟩])
  (.seq (.reg [⟨(some 109), none, .q (.mv (.t 10))⟩,
     ⟨(some 110), none, .q (.mv (.t 14))⟩,
     ⟨(some 111), none, .c (.call 17 [(.t 109), (.t 110)])⟩,
     ⟨(some 14), none, .q (.mv (.t 111))⟩])
  (.seq (.seq (.reg [⟨(some 112), none, .q (.mv (.t 14))⟩,
      ⟨(some 113), none, .q (.bin .lss (.t 112) (.c (.int .i64 0)))⟩])
   (.cond (.t 113)
    (.seq (.reg [⟨(some 4), none, .q (.mv (.c (.bool false)))⟩])
    .ret)
    .skip))
  (.seq (.seq (.reg [⟨(some 114), none, .q (.mv (.t 14))⟩,
      ⟨(some 115), none, .q (.mv (.t 13))⟩,
      ⟨(some 116), none, .q (.bin .neq (.t 114) (.t 115))⟩])
   (.cond (.t 116)
    (.seq (.reg [⟨(some 4), none, .q (.mv (.c (.bool false)))⟩])
    .ret)
    .skip))
  (.seq (.reg [⟨(some 4), none, .q (.mv (.c (.bool true)))⟩])
  .ret)))))))))))))))))))))))))))))⟩
theorem l_laws_FnExactFirstShifts : lowF PA f_laws_FnExactFirstShifts 2 [.s (.take 0 (.take 1 (.one 2 (.one 3 (.take 4 .done)))))] = some c_laws_FnExactFirstShifts := by kernel_rfl
abbrev f_laws_szSpace : FuncId := 6
def c_laws_szSpace : AF := ⟨2, 12, [.t 4],
  (.seq (.reg [⟨(some 2), none, .m (.box (.t 0))⟩,
     ⟨(some 4), none, .q (.mv (.c (.int .i64 0)))⟩])
  (.seq (.reg [⟨(some 5), none, .q (.fad 0 (.t 2))⟩,
     ⟨(some 6), none, .q (.ld false 1 (.t 5))⟩,
     ⟨(some 7), none, .q (.mv (.t 1))⟩,
     ⟨(some 8), none, .c (.call 20 [(.t 6), (.t 7)])⟩,
     ⟨(some 1), none, .q (.mv (.t 8))⟩])
  (.seq (.seq (.reg [⟨(some 9), none, .q (.mv (.t 1))⟩,
      ⟨(some 10), none, .q (.bin .lss (.t 9) (.c (.int .i64 0)))⟩])
   (.cond (.t 10)
    (.seq (.reg [⟨(some 4), none, .q (.mv (.c (.int .i64 (-1))))⟩])
    .ret)
    .skip))
  (.seq (.reg [⟨(some 11), none, .q (.mv (.t 1))⟩,
     ⟨(some 4), none, .q (.mv (.t 11))⟩])
  .ret))))⟩
theorem l_laws_szSpace : lowF PA f_laws_szSpace 2 [] = some c_laws_szSpace := by kernel_rfl
abbrev f_laws_toSpace : FuncId := 8
def c_laws_toSpace : AF := ⟨1, 9, [.c 2 true 1],
  (.seq (.reg [⟨(some 1), none, .m (.box (.t 0))⟩,
     ⟨(some 2), none, .m (.alloc [(.v (.slice none 0 0))])⟩])
  (.seq (.reg [⟨(some 3), none, .m (.alloc [(.v (.slice none 0 0))])⟩])
  (.seq (.reg [⟨(some 4), none, .q (.fad 0 (.t 1))⟩,
     ⟨(some 5), none, .q (.ld false 1 (.t 4))⟩,
     ⟨(some 6), none, .c (.call 9 [(.t 5)])⟩,
     ⟨(some 7), none, .q (.fad 0 (.t 3))⟩,
     ⟨none, none, .m (.st false 1 (.t 7) (.t 6))⟩])
  (.seq (.reg [⟨(some 8), none, .q (.ld true 1 (.t 3))⟩,
     ⟨none, none, .m (.st true 1 (.t 2) (.t 8))⟩])
  .ret))))⟩
theorem l_laws_toSpace : lowF PA f_laws_toSpace 1 [] = some c_laws_toSpace := by kernel_rfl
abbrev f_laws_toInt64S : FuncId := 9
def c_laws_toInt64S : AF := ⟨1, 22, [.t 2],
  (.seq (.reg [⟨(some 2), none, .q (.mv (.c (.slice none 0 0)))⟩])
  (.seq (.reg [⟨(some 5), none, .q (.mv (.t 0))⟩,
     ⟨(some 6), none, .q (.len (.t 5))⟩,
     ⟨(some 7), none, .m (.mks 1 (.v (.int .i64 0)) 8 (.t 6) (.t 6))⟩,
     ⟨(some 3), none, .q (.mv (.t 7))⟩])
  (.seq (.seq (.reg [⟨(some 4), none, .q (.mv (.c (.int .i64 0)))⟩])
   (.block 0 (.loop [0, 3, 4] (.seq (.seq (.reg [⟨(some 8), none, .q (.mv (.t 4))⟩,
         ⟨(some 9), none, .q (.mv (.t 0))⟩,
         ⟨(some 10), none, .q (.len (.t 9))⟩,
         ⟨(some 11), none, .q (.bin .lss (.t 8) (.t 10))⟩])
      (.cond (.t 11)
       .skip
       (.exit 0)))
     (.seq (.block 1 (.reg [⟨(some 14), none, .q (.mv (.t 3))⟩,
         ⟨(some 15), none, .q (.mv (.t 4))⟩,
         ⟨(some 16), none, .q (.mv (.t 0))⟩,
         ⟨(some 17), none, .q (.mv (.t 4))⟩,
         ⟨(some 18), none, .q (.ixs 1 (.t 16) (.t 17))⟩,
         ⟨(some 19), none, .q (.ld false 1 (.t 18))⟩,
         ⟨(some 20), none, .q (.ixs 1 (.t 14) (.t 15))⟩,
         ⟨none, none, .m (.st false 1 (.t 20) (.t 19))⟩]))
     (.reg [⟨(some 12), none, .q (.mv (.t 4))⟩,
       ⟨(some 13), none, .q (.bin .add (.t 12) (.c (.int .i64 1)))⟩,
       ⟨(some 4), none, .q (.mv (.t 13))⟩]))))))
  (.seq (.reg [⟨(some 21), none, .q (.mv (.t 3))⟩,
     ⟨(some 2), none, .q (.mv (.t 21))⟩])
  .ret))))⟩
theorem l_laws_toInt64S : lowF PA f_laws_toInt64S 1 [.k [0, 3, 4]] = some c_laws_toInt64S := by kernel_rfl
abbrev f_laws_eqSpace : FuncId := 11
def c_laws_eqSpace : AF := ⟨2, 11, [.t 4],
  (.seq (.reg [⟨(some 2), none, .m (.box (.t 0))⟩,
     ⟨(some 3), none, .m (.box (.t 1))⟩,
     ⟨(some 4), none, .q (.mv (.c (.bool false)))⟩])
  (.seq (.seq (.reg [⟨(some 5), none, .q (.fad 0 (.t 2))⟩,
      ⟨(some 6), none, .q (.ld false 1 (.t 5))⟩,
      ⟨(some 7), none, .q (.fad 0 (.t 3))⟩,
      ⟨(some 8), none, .q (.ld false 1 (.t 7))⟩,
      ⟨(some 9), none, .c (.call 12 [(.t 6), (.t 8)])⟩,
      ⟨(some 10), none, .q (.un .not (.t 9))⟩])
   (.cond (.t 10)
    (.seq (.reg [⟨(some 4), none, .q (.mv (.c (.bool false)))⟩])
    .ret)
    .skip))
  (.seq (.reg [⟨(some 4), none, .q (.mv (.c (.bool true)))⟩])
  .ret)))⟩
theorem l_laws_eqSpace : lowF PA f_laws_eqSpace 2 [] = some c_laws_eqSpace := by kernel_rfl
abbrev f_laws_eqInt64S : FuncId := 12
def c_laws_eqInt64S : AF := ⟨2, 26, [.t 4],
  (.seq (.reg [⟨(some 4), none, .q (.mv (.c (.bool false)))⟩])
  (.seq (.seq (.reg [⟨(some 6), none, .q (.mv (.t 0))⟩,
      ⟨(some 7), none, .q (.len (.t 6))⟩,
      ⟨(some 8), none, .q (.mv (.t 1))⟩,
      ⟨(some 9), none, .q (.len (.t 8))⟩,
      ⟨(some 10), none, .q (.bin .neq (.t 7) (.t 9))⟩])
   (.cond (.t 10)
    (.seq (.reg [⟨(some 4), none, .q (.mv (.c (.bool false)))⟩])
    .ret)
    .skip))
  (.seq (.seq (.reg [⟨(some 5), none, .q (.mv (.c (.int .i64 0)))⟩])
   (.block 0 (.loop [0, 1, 5] (.seq (.seq (.reg [⟨(some 11), none, .q (.mv (.t 5))⟩,
         ⟨(some 12), none, .q (.mv (.t 0))⟩,
         ⟨(some 13), none, .q (.len (.t 12))⟩,
         ⟨(some 14), none, .q (.bin .lss (.t 11) (.t 13))⟩])
      (.cond (.t 14)
       .skip
       (.exit 0)))
     (.seq (.block 1 (.seq (.sch (.take 0 ⟨(some 17), none, .q (.mv (.t 0))⟩ (.take 1 ⟨(some 18), none, .q (.mv (.t 5))⟩ (.take 2 ⟨(some 19), none, .q (.ixs 1 (.t 17) (.t 18))⟩ (.take 3 ⟨(some 20), none, .q (.ld false 1 (.t 19))⟩ (.take 4 ⟨(some 21), none, .q (.mv (.t 1))⟩ (.take 5 ⟨(some 22), none, .q (.mv (.t 5))⟩ (.take 6 ⟨(some 23), none, .q (.ixs 1 (.t 21) (.t 22))⟩ (.take 7 ⟨(some 24), none, .q (.ld false 1 (.t 23))⟩ (.take 8 ⟨(some 25), none, .q (.bin .neq (.t 20) (.t 24))⟩ .done))))))))))
       (.cond (.t 25)
        (.seq (.reg [⟨(some 4), none, .q (.mv (.c (.bool false)))⟩])
        .ret)
        .skip)))
     (.reg [⟨(some 15), none, .q (.mv (.t 5))⟩,
       ⟨(some 16), none, .q (.bin .add (.t 15) (.c (.int .i64 1)))⟩,
       ⟨(some 5), none, .q (.mv (.t 16))⟩]))))))
  (.seq (.reg [⟨(some 4), none, .q (.mv (.c (.bool true)))⟩])
  .ret))))⟩
theorem l_laws_eqInt64S : lowF PA f_laws_eqInt64S 2 [.k [0, 1, 5], .s (.take 0 (.take 1 (.take 2 (.take 3 (.take 4 (.take 5 (.take 6 (.take 7 (.take 8 .done)))))))))] = some c_laws_eqInt64S := by kernel_rfl
abbrev f_spec_FirstShifts : FuncId := 13
def c_spec_FirstShifts : AF := ⟨2, 62, [.t 4, .t 5],
  (.seq (.reg [⟨(some 2), none, .m (.box (.t 0))⟩,
     ⟨(some 4), none, .q (.mv (.c (.slice none 0 0)))⟩,
     ⟨(some 5), none, .q (.mv (.c (.int .i64 0)))⟩])
  (.seq (.seq (.reg [⟨(some 12), none, .q (.ld true 1 (.t 2))⟩,
      ⟨(some 13), none, .q (.mv (.t 1))⟩,
      ⟨(some 14), none, .c (.call 21 [(.t 12), (.t 13)])⟩,
      ⟨(some 6), none, .q (.mv (.t 14))⟩])
   (.seq (.reg [⟨(some 15), none, .q (.mv (.t 6))⟩,
      ⟨(some 16), none, .q (.bin .neq (.t 15) (.c (.int .i64 0)))⟩])
   (.cond (.t 16)
    (.seq (.reg [⟨(some 17), none, .q (.mv (.t 6))⟩,
       ⟨(some 4), none, .q (.mv (.c (.slice none 0 0)))⟩,
       ⟨(some 5), none, .q (.mv (.t 17))⟩])
    .ret)
    .skip)))
  (.seq (.reg [⟨(some 18), none, .q (.ld true 1 (.t 2))⟩,
     ⟨(some 19), none, .c (.call 23 [(.t 18)])⟩,
     ⟨(some 20), none, .m (.mks 1 (.v (.bool false)) 1 (.t 19) (.t 19))⟩,
     ⟨(some 21), none, .m (.bsl 1 [])⟩,
     ⟨(some 7), none, .q (.mv (.t 20))⟩,
     ⟨(some 8), none, .q (.mv (.t 21))⟩])
  (.seq (.seq (.reg [⟨(some 22), none, .q (.mv (.t 7))⟩,
      ⟨(some 23), none, .q (.len (.t 22))⟩,
      ⟨(some 24), none, .q (.mv (.c (.int .i64 0)))⟩])
   (.block 0 (.loop [1, 2, 7, 8, 23, 24] (.seq (.reg [⟨(some 25), none, .q (.bin .lss (.t 24) (.t 23))⟩])
     (.seq (.cond (.t 25)
       .skip
       (.exit 0))
     (.seq (.block 1 (.seq (.reg [⟨(some 26), none, .q (.mv (.t 24))⟩,
          ⟨(some 9), none, .q (.mv (.t 26))⟩])
       (.seq (.seq (.reg [⟨(some 27), none, .q (.mv (.t 7))⟩,
           ⟨(some 28), none, .q (.mv (.t 9))⟩,
           ⟨(some 29), none, .q (.ixs 1 (.t 27) (.t 28))⟩,
           ⟨(some 30), none, .q (.ld false 1 (.t 29))⟩])
        (.cond (.t 30)
         (.exit 1)
         .skip))
       (.seq (.reg [⟨(some 10), none, .q (.mv (.c (.bool false)))⟩])
       (.seq (.seq (.reg [⟨(some 11), none, .q (.mv (.c (.int .i64 0)))⟩])
        (.block 2 (.loop [1, 2, 7, 8, 9, 10, 11, 23, 24] (.seq (.seq (.reg [⟨(some 31), none, .q (.mv (.t 11))⟩,
              ⟨(some 32), none, .q (.ld true 1 (.t 2))⟩,
              ⟨(some 33), none, .c (.call 23 [(.t 32)])⟩,
              ⟨(some 34), none, .q (.bin .lss (.t 31) (.t 33))⟩,
              ⟨(some 35), none, .q (.mv (.t 34))⟩,
              ⟨(some 36), (some (35, true)), .q (.mv (.t 10))⟩,
              ⟨(some 37), (some (35, true)), .q (.un .not (.t 36))⟩,
              ⟨(some 38), none, .q (.pick (.t 35) (.t 37) (.c (.bool false)))⟩])
           (.cond (.t 38)
            .skip
            (.exit 2)))
          (.seq (.block 3 (.seq (.reg [⟨(some 41), none, .q (.ld true 1 (.t 2))⟩,
               ⟨(some 42), none, .q (.mv (.t 1))⟩,
               ⟨(some 43), none, .q (.mv (.t 11))⟩,
               ⟨(some 44), none, .c (.call 30 [(.t 41), (.t 42), (.t 43)])⟩,
               ⟨(some 45), none, .q (.mv (.t 9))⟩,
               ⟨(some 46), none, .c (.call 29 [(.t 44), (.t 45)])⟩,
               ⟨(some 47), none, .q (.mv (.t 46))⟩,
               ⟨(some 48), (some (47, true)), .q (.ld true 1 (.t 2))⟩,
               ⟨(some 49), (some (47, true)), .q (.mv (.t 1))⟩,
               ⟨(some 50), (some (47, true)), .q (.mv (.t 11))⟩,
               ⟨(some 51), (some (47, true)), .q (.mv (.t 7))⟩,
               ⟨(some 52), (some (47, true)), .c (.call 24 [(.t 48), (.t 49), (.t 50), (.t 51)])⟩,
               ⟨(some 53), none, .q (.pick (.t 47) (.t 52) (.c (.bool false)))⟩])
            (.cond (.t 53)
             (.seq (.reg [⟨(some 54), none, .q (.mv (.t 8))⟩,
                ⟨(some 55), none, .q (.mv (.t 11))⟩,
                ⟨(some 56), none, .m (.bsl 1 [(.t 55)])⟩,
                ⟨(some 57), none, .m (.app 1 8 (.t 54) (.t 56))⟩,
                ⟨(some 8), none, .q (.mv (.t 57))⟩])
             (.reg [⟨(some 10), none, .q (.mv (.c (.bool true)))⟩]))
             .skip)))
          (.reg [⟨(some 39), none, .q (.mv (.t 11))⟩,
            ⟨(some 40), none, .q (.bin .add (.t 39) (.c (.int .i64 1)))⟩,
            ⟨(some 11), none, .q (.mv (.t 40))⟩]))))))
       (.seq (.reg [⟨(some 58), none, .q (.mv (.t 10))⟩,
          ⟨(some 59), none, .q (.un .not (.t 58))⟩])
       (.cond (.t 59)
        (.seq (.reg [⟨(some 4), none, .q (.mv (.c (.slice none 0 0)))⟩,
           ⟨(some 5), none, .q (.mv (.c (.int .i64 4)))⟩])
        .ret)
        .skip)))))))
     (.reg [⟨(some 60), none, .q (.bin .add (.t 24) (.c (.int .i64 1)))⟩,
       ⟨(some 24), none, .q (.mv (.t 60))⟩])))))))
  (.seq (.reg [⟨(some 61), none, .q (.mv (.t 8))⟩,
     ⟨(some 4), none, .q (.mv (.t 61))⟩,
     ⟨(some 5), none, .q (.mv (.c (.int .i64 0)))⟩])
  .ret)))))⟩
theorem l_spec_FirstShifts : lowF PA f_spec_FirstShifts 2 [.k [1, 2, 7, 8, 23, 24], .k [1, 2, 7, 8, 9, 10, 11, 23, 24]] = some c_spec_FirstShifts := by kernel_rfl
abbrev f_impl_FirstShifts : FuncId := 14
def c_impl_FirstShifts : AF := ⟨2, 60, [.t 4, .t 5],
  (.seq (.reg [⟨(some 2), none, .m (.box (.t 0))⟩,
     ⟨(some 3), none, .m (.box (.t 1))⟩,
     ⟨(some 4), none, .q (.mv (.c (.slice none 0 0)))⟩,
     ⟨(some 5), none, .q (.mv (.c (.int .i64 0)))⟩])
  (.seq (.seq (.reg [⟨(some 14), none, .q (.ld true 1 (.t 2))⟩,
      ⟨(some 15), none, .q (.ld false 1 (.t 3))⟩,
      ⟨(some 16), none, .c (.call 25 [(.t 14), (.t 15), (.c (.slice none 0 0))])⟩,
      ⟨(some 6), none, .q (.mv (.t 16))⟩])
   (.seq (.reg [⟨(some 17), none, .q (.mv (.t 6))⟩,
      ⟨(some 18), none, .q (.bin .neq (.t 17) (.c (.int .i64 0)))⟩])
   (.cond (.t 18)
    (.seq (.reg [⟨(some 19), none, .q (.mv (.t 6))⟩,
       ⟨(some 4), none, .q (.mv (.c (.slice none 0 0)))⟩,
       ⟨(some 5), none, .q (.mv (.t 19))⟩])
    .ret)
    .skip)))
  (.seq (.reg [⟨(some 20), none, .q (.ld true 1 (.t 2))⟩,
     ⟨(some 21), none, .c (.call 26 [(.t 20)])⟩,
     ⟨(some 22), none, .m (.mks 1 (.v (.bool false)) 1 (.t 21) (.t 21))⟩,
     ⟨(some 23), none, .m (.bsl 1 [])⟩,
     ⟨(some 7), none, .m (.alloc [(.v (.slice none 0 0))])⟩,
     ⟨none, none, .m (.st false 1 (.t 7) (.t 22))⟩,
     ⟨(some 8), none, .q (.mv (.t 23))⟩])
  (.block 0 (.loop [2, 3, 7, 8] (.block 1 (.seq (.reg [⟨(some 24), none, .q (.ld false 1 (.t 7))⟩,
        ⟨(some 25), none, .c (.call 31 [(.t 24), (.c (.bool false))])⟩,
        ⟨(some 9), none, .m (.alloc [(.v (.int .i64 0))])⟩,
        ⟨none, none, .m (.st false 1 (.t 9) (.t 25))⟩])
     (.seq (.seq (.reg [⟨(some 26), none, .q (.ld false 1 (.t 9))⟩,
         ⟨(some 27), none, .q (.bin .lss (.t 26) (.c (.int .i64 0)))⟩])
      (.cond (.t 27)
       (.seq (.reg [⟨(some 28), none, .q (.mv (.t 8))⟩,
          ⟨(some 4), none, .q (.mv (.t 28))⟩,
          ⟨(some 5), none, .q (.mv (.c (.int .i64 0)))⟩])
       .ret)
       .skip))
     (.seq (.reg [⟨(some 29), none, .q (.ld false 1 (.t 3))⟩,
        ⟨(some 30), none, .q (.mkf 33 [(.t 2), (.t 9)])⟩,
        ⟨(some 31), none, .c (.call 32 [(.t 29), (.t 30)])⟩,
        ⟨(some 10), none, .q (.mv (.t 31))⟩])
     (.seq (.reg [⟨(some 32), none, .q (.mv (.t 10))⟩,
        ⟨(some 33), none, .q (.mkf 39 [(.t 2), (.t 3), (.t 7)])⟩,
        ⟨(some 34), none, .c (.call 38 [(.t 32), (.t 33)])⟩,
        ⟨(some 11), none, .q (.mv (.t 34))⟩])
     (.seq (.seq (.reg [⟨(some 35), none, .q (.mv (.t 11))⟩,
         ⟨(some 36), none, .q (.bin .lss (.t 35) (.c (.int .i64 0)))⟩])
      (.cond (.t 36)
       (.seq (.reg [⟨(some 4), none, .q (.mv (.c (.slice none 0 0)))⟩,
          ⟨(some 5), none, .q (.mv (.c (.int .i64 4)))⟩])
       .ret)
       .skip))
     (.seq (.reg [⟨(some 37), none, .q (.mv (.t 8))⟩,
        ⟨(some 38), none, .q (.mv (.t 10))⟩,
        ⟨(some 39), none, .q (.mv (.t 11))⟩,
        ⟨(some 40), none, .q (.ixs 1 (.t 38) (.t 39))⟩,
        ⟨(some 41), none, .q (.ld false 1 (.t 40))⟩,
        ⟨(some 42), none, .m (.bsl 1 [(.t 41)])⟩,
        ⟨(some 43), none, .m (.app 1 8 (.t 37) (.t 42))⟩,
        ⟨(some 8), none, .q (.mv (.t 43))⟩])
     (.seq (.sch (.take 0 ⟨(some 44), none, .q (.ld true 1 (.t 2))⟩ (.take 1 ⟨(some 45), none, .q (.ld false 1 (.t 3))⟩ (.take 2 ⟨(some 46), none, .q (.mv (.t 10))⟩ (.take 3 ⟨(some 47), none, .q (.mv (.t 11))⟩ (.take 4 ⟨(some 48), none, .q (.ixs 1 (.t 46) (.t 47))⟩ (.take 5 ⟨(some 49), none, .q (.ld false 1 (.t 48))⟩ (.take 8 ⟨(some 52), none, .q (.mv (.c (.int .i64 0)))⟩ (.one ⟨(some 50), none, .c (.call 27 [(.t 44), (.t 45), (.t 49)])⟩ [5, 1, 0] (.take 7 ⟨(some 51), none, .q (.len (.t 50))⟩ .done))))))))))
     (.block 2 (.loop [2, 3, 7, 8, 50, 51, 52] (.seq (.reg [⟨(some 53), none, .q (.bin .lss (.t 52) (.t 51))⟩])
       (.seq (.cond (.t 53)
         .skip
         (.exit 2))
       (.seq (.block 3 (.seq (.reg [⟨(some 54), none, .q (.ixs 1 (.t 50) (.t 52))⟩,
            ⟨(some 55), none, .q (.ld false 1 (.t 54))⟩,
            ⟨(some 13), none, .q (.mv (.t 55))⟩])
         (.reg [⟨(some 56), none, .q (.ld false 1 (.t 7))⟩,
           ⟨(some 57), none, .q (.mv (.t 13))⟩,
           ⟨(some 58), none, .q (.ixs 1 (.t 56) (.t 57))⟩,
           ⟨none, none, .m (.st false 1 (.t 58) (.c (.bool true)))⟩])))
       (.reg [⟨(some 59), none, .q (.bin .add (.t 52) (.c (.int .i64 1)))⟩,
         ⟨(some 52), none, .q (.mv (.t 59))⟩])))))))))))))))))))⟩
theorem l_impl_FirstShifts : lowF PA f_impl_FirstShifts 2 [.k [2, 3, 7, 8], .s (.take 0 (.take 1 (.take 2 (.take 3 (.take 4 (.take 5 (.take 8 (.one 6 (.take 7 .done))))))))), .k [2, 3, 7, 8, 50, 51, 52]] = some c_impl_FirstShifts := by kernel_rfl
abbrev f_laws_markSpace : FuncId := 15
def c_laws_markSpace : AF := ⟨2, 10, [.t 4],
  (.seq (.reg [⟨(some 2), none, .m (.box (.t 0))⟩,
     ⟨(some 4), none, .q (.mv (.c (.int .i64 0)))⟩])
  (.seq (.reg [⟨(some 5), none, .q (.fad 0 (.t 2))⟩,
     ⟨(some 6), none, .q (.ld false 1 (.t 5))⟩,
     ⟨(some 7), none, .q (.mv (.t 1))⟩,
     ⟨(some 8), none, .c (.call 16 [(.t 6), (.t 7)])⟩,
     ⟨(some 1), none, .q (.mv (.t 8))⟩])
  (.seq (.reg [⟨(some 9), none, .q (.mv (.t 1))⟩,
     ⟨(some 4), none, .q (.mv (.t 9))⟩])
  .ret)))⟩
theorem l_laws_markSpace : lowF PA f_laws_markSpace 2 [] = some c_laws_markSpace := by kernel_rfl
abbrev f_laws_markInt64S : FuncId := 16
def c_laws_markInt64S : AF := ⟨2, 19, [.t 4],
  (.seq (.reg [⟨(some 4), none, .q (.mv (.c (.int .i64 0)))⟩])
  (.seq (.seq (.reg [⟨(some 5), none, .q (.mv (.c (.int .i64 0)))⟩])
   (.block 0 (.loop [0, 1, 5, 19] (.seq (.seq (.reg [⟨(some 6), none, .q (.mv (.t 5))⟩,
         ⟨(some 7), none, .q (.mv (.t 0))⟩,
         ⟨(some 8), none, .q (.len (.t 7))⟩,
         ⟨(some 9), none, .q (.bin .lss (.t 6) (.t 8))⟩])
      (.cond (.t 9)
       .skip
       (.exit 0)))
     (.seq (.block 1 (.seq (.reg [⟨(some 12), none, .q (.mv (.t 0))⟩,
          ⟨(some 13), none, .q (.mv (.t 5))⟩,
          ⟨(some 14), none, .q (.mv (.t 1))⟩,
          ⟨(some 15), none, .q (.ixs 1 (.t 12) (.t 13))⟩,
          ⟨none, none, .m (.st false 1 (.t 15) (.t 14))⟩])
       (.reg [⟨(some 16), none, .q (.mv (.t 1))⟩,
         ⟨(some 17), none, .q (.bin .add (.t 16) (.c (.int .i64 1)))⟩,
         ⟨(some 1), none, .q (.mv (.t 17))⟩])))
     (.reg [⟨(some 10), none, .q (.mv (.t 5))⟩,
       ⟨(some 11), none, .q (.bin .add (.t 10) (.c (.int .i64 1)))⟩,
       ⟨(some 5), none, .q (.mv (.t 11))⟩]))))))
  (.seq (.reg [⟨(some 18), none, .q (.mv (.t 1))⟩,
     ⟨(some 4), none, .q (.mv (.t 18))⟩])
  .ret)))⟩
theorem l_laws_markInt64S : lowF PA f_laws_markInt64S 2 [.k [0, 1, 5, 19]] = some c_laws_markInt64S := by kernel_rfl
abbrev f_laws_heldInt64S : FuncId := 17
def c_laws_heldInt64S : AF := ⟨2, 21, [.t 4],
  (.seq (.reg [⟨(some 4), none, .q (.mv (.c (.int .i64 0)))⟩])
  (.seq (.seq (.reg [⟨(some 5), none, .q (.mv (.c (.int .i64 0)))⟩])
   (.block 0 (.loop [0, 1, 5] (.seq (.seq (.reg [⟨(some 6), none, .q (.mv (.t 5))⟩,
         ⟨(some 7), none, .q (.mv (.t 0))⟩,
         ⟨(some 8), none, .q (.len (.t 7))⟩,
         ⟨(some 9), none, .q (.bin .lss (.t 6) (.t 8))⟩])
      (.cond (.t 9)
       .skip
       (.exit 0)))
     (.seq (.block 1 (.seq (.seq (.reg [⟨(some 12), none, .q (.mv (.t 0))⟩,
           ⟨(some 13), none, .q (.mv (.t 5))⟩,
           ⟨(some 14), none, .q (.ixs 1 (.t 12) (.t 13))⟩,
           ⟨(some 15), none, .q (.ld false 1 (.t 14))⟩,
           ⟨(some 16), none, .q (.mv (.t 1))⟩,
           ⟨(some 17), none, .q (.bin .neq (.t 15) (.t 16))⟩])
        (.cond (.t 17)
         (.seq (.reg [⟨(some 4), none, .q (.mv (.c (.int .i64 (-1))))⟩])
         .ret)
         .skip))
       (.reg [⟨(some 18), none, .q (.mv (.t 1))⟩,
         ⟨(some 19), none, .q (.bin .add (.t 18) (.c (.int .i64 1)))⟩,
         ⟨(some 1), none, .q (.mv (.t 19))⟩])))
     (.reg [⟨(some 10), none, .q (.mv (.t 5))⟩,
       ⟨(some 11), none, .q (.bin .add (.t 10) (.c (.int .i64 1)))⟩,
       ⟨(some 5), none, .q (.mv (.t 11))⟩]))))))
  (.seq (.reg [⟨(some 20), none, .q (.mv (.t 1))⟩,
     ⟨(some 4), none, .q (.mv (.t 20))⟩])
  .ret)))⟩
theorem l_laws_heldInt64S : lowF PA f_laws_heldInt64S 2 [.k [0, 1, 5]] = some c_laws_heldInt64S := by kernel_rfl
abbrev f_laws_szInt64S : FuncId := 20
def c_laws_szInt64S : AF := ⟨2, 12, [.t 4],
  (.seq (.reg [⟨(some 4), none, .q (.mv (.c (.int .i64 0)))⟩])
  (.seq (.reg [⟨(some 5), none, .q (.mv (.t 1))⟩,
     ⟨(some 6), none, .q (.mv (.t 0))⟩,
     ⟨(some 7), none, .q (.len (.t 6))⟩,
     ⟨(some 8), none, .q (.bin .sub (.t 5) (.t 7))⟩,
     ⟨(some 1), none, .q (.mv (.t 8))⟩])
  (.seq (.seq (.reg [⟨(some 9), none, .q (.mv (.t 1))⟩,
      ⟨(some 10), none, .q (.bin .lss (.t 9) (.c (.int .i64 0)))⟩])
   (.cond (.t 10)
    (.seq (.reg [⟨(some 4), none, .q (.mv (.c (.int .i64 (-1))))⟩])
    .ret)
    .skip))
  (.seq (.reg [⟨(some 11), none, .q (.mv (.t 1))⟩,
     ⟨(some 4), none, .q (.mv (.t 11))⟩])
  .ret))))⟩
theorem l_laws_szInt64S : lowF PA f_laws_szInt64S 2 [] = some c_laws_szInt64S := by kernel_rfl
abbrev f_spec_l02Full : FuncId := 21
def c_spec_l02Full : AF := ⟨2, 17, [.t 4],
  (.seq (.reg [⟨(some 2), none, .m (.box (.t 0))⟩,
     ⟨(some 4), none, .q (.mv (.c (.int .i64 0)))⟩])
  (.seq (.reg [⟨(some 6), none, .q (.ld true 1 (.t 2))⟩,
     ⟨(some 7), none, .q (.mv (.t 1))⟩,
     ⟨(some 8), none, .c (.call 48 [(.t 6), (.t 7)])⟩,
     ⟨(some 5), none, .q (.mv (.t 8))⟩])
  (.seq (.seq (.reg [⟨(some 9), none, .q (.mv (.t 5))⟩,
      ⟨(some 10), none, .q (.bin .eql (.t 9) (.c (.int .i64 0)))⟩,
      ⟨(some 11), none, .q (.mv (.t 10))⟩,
      ⟨(some 12), (some (11, true)), .q (.mv (.t 1))⟩,
      ⟨(some 13), (some (11, true)), .q (.len (.t 12))⟩,
      ⟨(some 14), (some (11, true)), .q (.bin .eql (.t 13) (.c (.int .i64 0)))⟩,
      ⟨(some 15), none, .q (.pick (.t 11) (.t 14) (.c (.bool false)))⟩])
   (.cond (.t 15)
    (.reg [⟨(some 5), none, .q (.mv (.c (.int .i64 5)))⟩])
    .skip))
  (.seq (.reg [⟨(some 16), none, .q (.mv (.t 5))⟩,
     ⟨(some 4), none, .q (.mv (.t 16))⟩])
  .ret))))⟩
theorem l_spec_l02Full : lowF PA f_spec_l02Full 2 [] = some c_spec_l02Full := by kernel_rfl
abbrev f_spec_l01In : FuncId := 22
def c_spec_l01In : AF := ⟨3, 15, [.t 6],
  (.seq (.reg [⟨(some 6), none, .q (.mv (.c (.bool false)))⟩])
  (.seq (.reg [⟨(some 7), none, .q (.mv (.t 0))⟩,
     ⟨(some 8), none, .q (.mv (.t 1))⟩,
     ⟨(some 9), none, .q (.bin .geq (.t 7) (.t 8))⟩,
     ⟨(some 10), none, .q (.mv (.t 9))⟩,
     ⟨(some 11), (some (10, true)), .q (.mv (.t 0))⟩,
     ⟨(some 12), (some (10, true)), .q (.mv (.t 2))⟩,
     ⟨(some 13), (some (10, true)), .q (.bin .leq (.t 11) (.t 12))⟩,
     ⟨(some 14), none, .q (.pick (.t 10) (.t 13) (.c (.bool false)))⟩,
     ⟨(some 6), none, .q (.mv (.t 14))⟩])
  .ret))⟩
theorem l_spec_l01In : lowF PA f_spec_l01In 3 [] = some c_spec_l01In := by kernel_rfl
abbrev f_spec_l01N : FuncId := 23
def c_spec_l01N : AF := ⟨1, 20, [.t 2],
  (.seq (.reg [⟨(some 1), none, .m (.box (.t 0))⟩,
     ⟨(some 2), none, .q (.mv (.c (.int .i64 0)))⟩])
  (.seq (.reg [⟨(some 3), none, .q (.mv (.c (.int .i64 1)))⟩])
  (.seq (.seq (.reg [⟨(some 4), none, .q (.mv (.c (.int .i64 0)))⟩])
   (.block 0 (.loop [1, 3, 4] (.seq (.seq (.reg [⟨(some 5), none, .q (.mv (.t 4))⟩,
         ⟨(some 6), none, .q (.fad 0 (.t 1))⟩,
         ⟨(some 7), none, .q (.ld false 1 (.t 6))⟩,
         ⟨(some 8), none, .q (.len (.t 7))⟩,
         ⟨(some 9), none, .q (.bin .lss (.t 5) (.t 8))⟩])
      (.cond (.t 9)
       .skip
       (.exit 0)))
     (.seq (.block 1 (.reg [⟨(some 12), none, .q (.mv (.t 3))⟩,
         ⟨(some 13), none, .q (.fad 0 (.t 1))⟩,
         ⟨(some 14), none, .q (.ld false 1 (.t 13))⟩,
         ⟨(some 15), none, .q (.mv (.t 4))⟩,
         ⟨(some 16), none, .q (.ixs 1 (.t 14) (.t 15))⟩,
         ⟨(some 17), none, .q (.ld false 1 (.t 16))⟩,
         ⟨(some 18), none, .q (.bin .mul (.t 12) (.t 17))⟩,
         ⟨(some 3), none, .q (.mv (.t 18))⟩]))
     (.reg [⟨(some 10), none, .q (.mv (.t 4))⟩,
       ⟨(some 11), none, .q (.bin .add (.t 10) (.c (.int .i64 1)))⟩,
       ⟨(some 4), none, .q (.mv (.t 11))⟩]))))))
  (.seq (.reg [⟨(some 19), none, .q (.mv (.t 3))⟩,
     ⟨(some 2), none, .q (.mv (.t 19))⟩])
  .ret))))⟩
theorem l_spec_l01N : lowF PA f_spec_l01N 1 [.k [1, 3, 4]] = some c_spec_l01N := by kernel_rfl
abbrev f_spec_l06Mark : FuncId := 24
def c_spec_l06Mark : AF := ⟨4, 41, [.t 8],
  (.seq (.reg [⟨(some 4), none, .m (.box (.t 0))⟩,
     ⟨(some 8), none, .q (.mv (.c (.bool false)))⟩])
  (.seq (.reg [⟨(some 12), none, .q (.ld true 1 (.t 4))⟩,
     ⟨(some 13), none, .q (.mv (.t 1))⟩,
     ⟨(some 14), none, .q (.mv (.t 2))⟩,
     ⟨(some 15), none, .c (.call 30 [(.t 12), (.t 13), (.t 14)])⟩,
     ⟨(some 9), none, .q (.mv (.t 15))⟩])
  (.seq (.seq (.reg [⟨(some 10), none, .q (.mv (.c (.int .i64 0)))⟩])
   (.block 0 (.loop [3, 9, 10, 44] (.seq (.seq (.reg [⟨(some 16), none, .q (.mv (.t 10))⟩,
         ⟨(some 17), none, .q (.mv (.t 9))⟩,
         ⟨(some 18), none, .q (.len (.t 17))⟩,
         ⟨(some 19), none, .q (.bin .lss (.t 16) (.t 18))⟩])
      (.cond (.t 19)
       .skip
       (.exit 0)))
     (.seq (.block 1 (.seq (.reg [⟨(some 22), none, .q (.mv (.t 3))⟩,
          ⟨(some 23), none, .q (.mv (.t 9))⟩,
          ⟨(some 24), none, .q (.mv (.t 10))⟩,
          ⟨(some 25), none, .q (.ixs 1 (.t 23) (.t 24))⟩,
          ⟨(some 26), none, .q (.ld false 1 (.t 25))⟩,
          ⟨(some 27), none, .q (.ixs 1 (.t 22) (.t 26))⟩,
          ⟨(some 28), none, .q (.ld false 1 (.t 27))⟩])
       (.cond (.t 28)
        (.seq (.reg [⟨(some 8), none, .q (.mv (.c (.bool false)))⟩])
        .ret)
        .skip)))
     (.reg [⟨(some 20), none, .q (.mv (.t 10))⟩,
       ⟨(some 21), none, .q (.bin .add (.t 20) (.c (.int .i64 1)))⟩,
       ⟨(some 10), none, .q (.mv (.t 21))⟩]))))))
  (.seq (.seq (.reg [⟨(some 11), none, .q (.mv (.c (.int .i64 0)))⟩])
   (.block 2 (.loop [3, 9, 11, 44] (.seq (.seq (.reg [⟨(some 29), none, .q (.mv (.t 11))⟩,
         ⟨(some 30), none, .q (.mv (.t 9))⟩,
         ⟨(some 31), none, .q (.len (.t 30))⟩,
         ⟨(some 32), none, .q (.bin .lss (.t 29) (.t 31))⟩])
      (.cond (.t 32)
       .skip
       (.exit 2)))
     (.seq (.block 3 (.reg [⟨(some 35), none, .q (.mv (.t 3))⟩,
         ⟨(some 36), none, .q (.mv (.t 9))⟩,
         ⟨(some 37), none, .q (.mv (.t 11))⟩,
         ⟨(some 38), none, .q (.ixs 1 (.t 36) (.t 37))⟩,
         ⟨(some 39), none, .q (.ld false 1 (.t 38))⟩,
         ⟨(some 40), none, .q (.ixs 1 (.t 35) (.t 39))⟩,
         ⟨none, none, .m (.st false 1 (.t 40) (.c (.bool true)))⟩]))
     (.reg [⟨(some 33), none, .q (.mv (.t 11))⟩,
       ⟨(some 34), none, .q (.bin .add (.t 33) (.c (.int .i64 1)))⟩,
       ⟨(some 11), none, .q (.mv (.t 34))⟩]))))))
  (.seq (.reg [⟨(some 8), none, .q (.mv (.c (.bool true)))⟩])
  .ret)))))⟩
theorem l_spec_l06Mark : lowF PA f_spec_l06Mark 4 [.k [3, 9, 10, 44], .k [3, 9, 11, 44]] = some c_spec_l06Mark := by kernel_rfl
abbrev f_impl_someCode : FuncId := 25
def c_impl_someCode : AF := ⟨3, 18, [.t 6],
  (.seq (.reg [⟨(some 3), none, .m (.box (.t 0))⟩,
     ⟨(some 6), none, .q (.mv (.c (.int .i64 0)))⟩])
  (.seq (.seq (.reg [⟨(some 8), none, .q (.ld true 1 (.t 3))⟩,
      ⟨(some 9), none, .q (.mv (.t 1))⟩,
      ⟨(some 10), none, .q (.mv (.t 2))⟩,
      ⟨(some 11), none, .c (.call 49 [(.t 8), (.t 9), (.t 10)])⟩,
      ⟨(some 7), none, .q (.mv (.t 11))⟩])
   (.seq (.reg [⟨(some 12), none, .q (.mv (.t 7))⟩,
      ⟨(some 13), none, .q (.bin .neq (.t 12) (.c (.int .i64 0)))⟩])
   (.cond (.t 13)
    (.seq (.reg [⟨(some 14), none, .q (.mv (.t 7))⟩,
       ⟨(some 6), none, .q (.mv (.t 14))⟩])
    .ret)
    .skip)))
  (.seq (.seq (.reg [⟨(some 15), none, .q (.mv (.t 1))⟩,
      ⟨(some 16), none, .q (.len (.t 15))⟩,
      ⟨(some 17), none, .q (.bin .eql (.t 16) (.c (.int .i64 0)))⟩])
   (.cond (.t 17)
    (.seq (.reg [⟨(some 6), none, .q (.mv (.c (.int .i64 5)))⟩])
    .ret)
    .skip))
  (.seq (.reg [⟨(some 6), none, .q (.mv (.c (.int .i64 0)))⟩])
  .ret))))⟩
theorem l_impl_someCode : lowF PA f_impl_someCode 3 [] = some c_impl_someCode := by kernel_rfl
abbrev f_impl_count : FuncId := 26
def c_impl_count : AF := ⟨1, 18, [.t 2],
  (.seq (.reg [⟨(some 1), none, .m (.box (.t 0))⟩,
     ⟨(some 2), none, .q (.mv (.c (.int .i64 0)))⟩])
  (.seq (.reg [⟨(some 3), none, .q (.mv (.c (.int .i64 1)))⟩])
  (.seq (.seq (.reg [⟨(some 6), none, .q (.fad 0 (.t 1))⟩,
      ⟨(some 7), none, .q (.ld false 1 (.t 6))⟩,
      ⟨(some 8), none, .q (.len (.t 7))⟩,
      ⟨(some 9), none, .q (.mv (.c (.int .i64 0)))⟩])
   (.block 0 (.loop [3, 7, 8, 9] (.seq (.reg [⟨(some 10), none, .q (.bin .lss (.t 9) (.t 8))⟩])
     (.seq (.cond (.t 10)
       .skip
       (.exit 0))
     (.seq (.block 1 (.seq (.reg [⟨(some 11), none, .q (.ixs 1 (.t 7) (.t 9))⟩,
          ⟨(some 12), none, .q (.ld false 1 (.t 11))⟩,
          ⟨(some 5), none, .q (.mv (.t 12))⟩])
       (.reg [⟨(some 13), none, .q (.mv (.t 3))⟩,
         ⟨(some 14), none, .q (.mv (.t 5))⟩,
         ⟨(some 15), none, .q (.bin .mul (.t 13) (.t 14))⟩,
         ⟨(some 3), none, .q (.mv (.t 15))⟩])))
     (.reg [⟨(some 16), none, .q (.bin .add (.t 9) (.c (.int .i64 1)))⟩,
       ⟨(some 9), none, .q (.mv (.t 16))⟩])))))))
  (.seq (.reg [⟨(some 17), none, .q (.mv (.t 3))⟩,
     ⟨(some 2), none, .q (.mv (.t 17))⟩])
  .ret))))⟩
theorem l_impl_count : lowF PA f_impl_count 1 [.k [3, 7, 8, 9]] = some c_impl_count := by kernel_rfl
abbrev f_impl_shifted : FuncId := 27
def c_impl_shifted : AF := ⟨3, 14, [.t 6],
  (.seq (.reg [⟨(some 3), none, .m (.box (.t 0))⟩,
     ⟨(some 6), none, .q (.mv (.c (.slice none 0 0)))⟩])
  (.seq (.reg [⟨(some 8), none, .q (.ld true 1 (.t 3))⟩,
     ⟨(some 9), none, .q (.mv (.t 2))⟩,
     ⟨(some 10), none, .c (.call 36 [(.t 8), (.t 9)])⟩,
     ⟨(some 7), none, .m (.alloc [(.v (.int .u8 0)), (.v (.int .u8 0)), (.v (.int .u8 0)), (.v (.int .u8 0)), (.v (.int .u8 0)), (.v (.int .u8 0)), (.v (.int .u8 0)), (.v (.int .u8 0))])⟩,
     ⟨none, none, .m (.st true 8 (.t 7) (.t 10))⟩])
  (.seq (.reg [⟨(some 11), none, .q (.mv (.t 1))⟩,
     ⟨(some 12), none, .q (.mkf 50 [(.t 3), (.t 7)])⟩,
     ⟨(some 13), none, .c (.call 32 [(.t 11), (.t 12)])⟩,
     ⟨(some 6), none, .q (.mv (.t 13))⟩])
  .ret)))⟩
theorem l_impl_shifted : lowF PA f_impl_shifted 3 [] = some c_impl_shifted := by kernel_rfl
abbrev f_spec_l01Has : FuncId := 29
def c_spec_l01Has : AF := ⟨2, 18, [.t 4],
  (.seq (.reg [⟨(some 4), none, .q (.mv (.c (.bool false)))⟩])
  (.seq (.seq (.reg [⟨(some 5), none, .q (.mv (.c (.int .i64 0)))⟩])
   (.block 0 (.loop [0, 1, 5] (.seq (.seq (.reg [⟨(some 6), none, .q (.mv (.t 5))⟩,
         ⟨(some 7), none, .q (.mv (.t 0))⟩,
         ⟨(some 8), none, .q (.len (.t 7))⟩,
         ⟨(some 9), none, .q (.bin .lss (.t 6) (.t 8))⟩])
      (.cond (.t 9)
       .skip
       (.exit 0)))
     (.seq (.block 1 (.seq (.reg [⟨(some 12), none, .q (.mv (.t 0))⟩,
          ⟨(some 13), none, .q (.mv (.t 5))⟩,
          ⟨(some 14), none, .q (.ixs 1 (.t 12) (.t 13))⟩,
          ⟨(some 15), none, .q (.ld false 1 (.t 14))⟩,
          ⟨(some 16), none, .q (.mv (.t 1))⟩,
          ⟨(some 17), none, .q (.bin .eql (.t 15) (.t 16))⟩])
       (.cond (.t 17)
        (.seq (.reg [⟨(some 4), none, .q (.mv (.c (.bool true)))⟩])
        .ret)
        .skip)))
     (.reg [⟨(some 10), none, .q (.mv (.t 5))⟩,
       ⟨(some 11), none, .q (.bin .add (.t 10) (.c (.int .i64 1)))⟩,
       ⟨(some 5), none, .q (.mv (.t 11))⟩]))))))
  (.seq (.reg [⟨(some 4), none, .q (.mv (.c (.bool false)))⟩])
  .ret)))⟩
theorem l_spec_l01Has : lowF PA f_spec_l01Has 2 [.k [0, 1, 5]] = some c_spec_l01Has := by kernel_rfl
abbrev f_spec_l01Shifted : FuncId := 30
def c_spec_l01Shifted : AF := ⟨3, 26, [.t 6],
  (.seq (.reg [⟨(some 3), none, .m (.box (.t 0))⟩,
     ⟨(some 6), none, .q (.mv (.c (.slice none 0 0)))⟩])
  (.seq (.reg [⟨(some 9), none, .m (.bsl 1 [])⟩,
     ⟨(some 7), none, .q (.mv (.t 9))⟩])
  (.seq (.seq (.reg [⟨(some 10), none, .q (.mv (.t 1))⟩,
      ⟨(some 11), none, .q (.len (.t 10))⟩,
      ⟨(some 12), none, .q (.mv (.c (.int .i64 0)))⟩])
   (.block 0 (.loop [1, 2, 3, 7, 11, 12] (.seq (.reg [⟨(some 13), none, .q (.bin .lss (.t 12) (.t 11))⟩])
     (.seq (.cond (.t 13)
       .skip
       (.exit 0))
     (.seq (.block 1 (.seq (.reg [⟨(some 14), none, .q (.mv (.t 12))⟩,
          ⟨(some 8), none, .q (.mv (.t 14))⟩])
       (.sch (.take 0 ⟨(some 15), none, .q (.mv (.t 7))⟩ (.take 1 ⟨(some 16), none, .q (.ld true 1 (.t 3))⟩ (.take 2 ⟨(some 17), none, .q (.mv (.t 1))⟩ (.take 3 ⟨(some 18), none, .q (.mv (.t 8))⟩ (.take 4 ⟨(some 19), none, .q (.ixs 1 (.t 17) (.t 18))⟩ (.take 5 ⟨(some 20), none, .q (.ld false 1 (.t 19))⟩ (.take 6 ⟨(some 21), none, .q (.mv (.t 2))⟩ (.one ⟨(some 22), none, .c (.call 52 [(.t 16), (.t 20), (.t 21)])⟩ [5, 1] (.one ⟨(some 23), none, .c (.call 51 [(.t 15), (.t 22)])⟩ [] (.take 9 ⟨(some 7), none, .q (.mv (.t 23))⟩ .done)))))))))))))
     (.reg [⟨(some 24), none, .q (.bin .add (.t 12) (.c (.int .i64 1)))⟩,
       ⟨(some 12), none, .q (.mv (.t 24))⟩])))))))
  (.seq (.reg [⟨(some 25), none, .q (.mv (.t 7))⟩,
     ⟨(some 6), none, .q (.mv (.t 25))⟩])
  .ret))))⟩
theorem l_spec_l01Shifted : lowF PA f_spec_l01Shifted 3 [.k [1, 2, 3, 7, 11, 12], .s (.take 0 (.take 1 (.take 2 (.take 3 (.take 4 (.take 5 (.take 6 (.one 7 (.one 8 (.take 9 .done))))))))))] = some c_spec_l01Shifted := by kernel_rfl
abbrev f_slices_Index___bool_bool_ : FuncId := 31
def c_slices_Index___bool_bool_ : AF := ⟨2, 19, [.t 4],
  (.seq (.reg [⟨(some 4), none, .q (.mv (.c (.int .i64 0)))⟩])
  (.seq (.seq (.reg [⟨(some 6), none, .q (.mv (.t 0))⟩,
      ⟨(some 7), none, .q (.len (.t 6))⟩,
      ⟨(some 8), none, .q (.mv (.c (.int .i64 0)))⟩])
   (.block 0 (.loop [0, 1, 7, 8] (.seq (.reg [⟨(some 9), none, .q (.bin .lss (.t 8) (.t 7))⟩])
     (.seq (.cond (.t 9)
       .skip
       (.exit 0))
     (.seq (.block 1 (.seq (.reg [⟨(some 10), none, .q (.mv (.t 8))⟩,
          ⟨(some 5), none, .q (.mv (.t 10))⟩])
       (.seq (.reg [⟨(some 11), none, .q (.mv (.t 1))⟩,
          ⟨(some 12), none, .q (.mv (.t 0))⟩,
          ⟨(some 13), none, .q (.mv (.t 5))⟩,
          ⟨(some 14), none, .q (.ixs 1 (.t 12) (.t 13))⟩,
          ⟨(some 15), none, .q (.ld false 1 (.t 14))⟩,
          ⟨(some 16), none, .q (.eqb false (.t 11) (.t 15))⟩])
       (.cond (.t 16)
        (.seq (.reg [⟨(some 17), none, .q (.mv (.t 5))⟩,
           ⟨(some 4), none, .q (.mv (.t 17))⟩])
        .ret)
        .skip))))
     (.reg [⟨(some 18), none, .q (.bin .add (.t 8) (.c (.int .i64 1)))⟩,
       ⟨(some 8), none, .q (.mv (.t 18))⟩])))))))
  (.seq (.reg [⟨(some 4), none, .q (.mv (.c (.int .i64 (-1))))⟩])
  .ret)))⟩
theorem l_slices_Index___bool_bool_ : lowF PA f_slices_Index___bool_bool_ 2 [.k [0, 1, 7, 8]] = some c_slices_Index___bool_bool_ := by kernel_rfl
abbrev f_impl_mapped : FuncId := 32
def c_impl_mapped : AF := ⟨2, 26, [.t 4],
  (.seq (.reg [⟨(some 4), none, .q (.mv (.c (.slice none 0 0)))⟩])
  (.seq (.reg [⟨(some 8), none, .m (.bsl 1 [])⟩,
     ⟨(some 5), none, .q (.mv (.t 8))⟩])
  (.seq (.seq (.reg [⟨(some 9), none, .q (.mv (.t 0))⟩,
      ⟨(some 10), none, .q (.len (.t 9))⟩,
      ⟨(some 11), none, .q (.mv (.c (.int .i64 0)))⟩])
   (.block 0 (.loop [1, 5, 9, 10, 11, 26] (.seq (.reg [⟨(some 12), none, .q (.bin .lss (.t 11) (.t 10))⟩])
     (.seq (.cond (.t 12)
       .skip
       (.exit 0))
     (.seq (.block 1 (.seq (.reg [⟨(some 13), none, .q (.ixs 1 (.t 9) (.t 11))⟩,
          ⟨(some 14), none, .q (.ld false 1 (.t 13))⟩,
          ⟨(some 7), none, .q (.mv (.t 14))⟩])
       (.reg [⟨(some 15), none, .q (.mv (.t 5))⟩,
         ⟨(some 16), none, .q (.mv (.t 1))⟩,
         ⟨(some 17), none, .q (.mv (.t 7))⟩,
         ⟨(some 18), none, .c (.cav (.t 16) [(.t 17)])⟩,
         ⟨(some 19), none, .m (.bsl 1 [(.t 18)])⟩,
         ⟨(some 20), none, .m (.app 1 8 (.t 15) (.t 19))⟩,
         ⟨(some 5), none, .q (.mv (.t 20))⟩])))
     (.reg [⟨(some 21), none, .q (.bin .add (.t 11) (.c (.int .i64 1)))⟩,
       ⟨(some 11), none, .q (.mv (.t 21))⟩])))))))
  (.seq (.reg [⟨(some 22), none, .q (.mv (.t 5))⟩,
     ⟨(some 23), none, .c (.call 47 [(.t 22)])⟩])
  (.seq (.reg [⟨(some 24), none, .q (.mv (.t 5))⟩,
     ⟨(some 25), none, .c (.call 53 [(.t 24)])⟩,
     ⟨(some 4), none, .q (.mv (.t 25))⟩])
  .ret)))))⟩
theorem l_impl_mapped : lowF PA f_impl_mapped 2 [.k [1, 5, 9, 10, 11, 26]] = some c_impl_mapped := by kernel_rfl
abbrev f_impl_FirstShifts_1 : FuncId := 33
def c_impl_FirstShifts_1 : AF := ⟨3, 17, [.t 4],
  (.seq (.reg [⟨(some 4), none, .q (.mv (.c (.int .i64 0)))⟩])
  (.seq (.sch (.take 0 ⟨(some 5), none, .q (.ld true 1 (.t 1))⟩ (.take 1 ⟨(some 6), none, .q (.ld true 1 (.t 1))⟩ (.take 2 ⟨(some 7), none, .q (.ld true 1 (.t 1))⟩ (.take 3 ⟨(some 8), none, .q (.ld false 1 (.t 2))⟩ (.take 5 ⟨(some 10), none, .q (.ld true 1 (.t 1))⟩ (.take 6 ⟨(some 11), none, .q (.ld true 1 (.t 1))⟩ (.take 7 ⟨(some 12), none, .q (.mv (.t 0))⟩ (.one ⟨(some 9), none, .c (.call 36 [(.t 7), (.t 8)])⟩ [3, 2] (.one ⟨(some 13), none, .c (.call 36 [(.t 11), (.t 12)])⟩ [6] (.one ⟨(some 14), none, .c (.call 37 [(.t 10), (.t 13)])⟩ [5] (.one ⟨(some 15), none, .c (.call 35 [(.t 6), (.t 9), (.t 14)])⟩ [1] (.one ⟨(some 16), none, .c (.call 34 [(.t 5), (.t 15)])⟩ [0] (.take 12 ⟨(some 4), none, .q (.mv (.t 16))⟩ .done))))))))))))))
  .ret))⟩
theorem l_impl_FirstShifts_1 : lowF PA f_impl_FirstShifts_1 3 [.s (.take 0 (.take 1 (.take 2 (.take 3 (.take 5 (.take 6 (.take 7 (.one 4 (.one 8 (.one 9 (.one 10 (.one 11 (.take 12 .done)))))))))))))] = some c_impl_FirstShifts_1 := by kernel_rfl
abbrev f_impl_wordOf : FuncId := 34
def c_impl_wordOf : AF := ⟨2, 26, [.t 4],
  (.seq (.reg [⟨(some 2), none, .m (.box (.t 0))⟩,
     ⟨(some 3), none, .m (.box (.t 1))⟩,
     ⟨(some 4), none, .q (.mv (.c (.int .i64 0)))⟩])
  (.seq (.reg [⟨(some 5), none, .q (.mv (.c (.int .i64 0)))⟩])
  (.seq (.seq (.reg [⟨(some 8), none, .q (.fad 0 (.t 2))⟩,
      ⟨(some 9), none, .q (.ld false 1 (.t 8))⟩,
      ⟨(some 10), none, .q (.len (.t 9))⟩,
      ⟨(some 11), none, .q (.mv (.c (.int .i64 0)))⟩])
   (.block 0 (.loop [3, 5, 9, 10, 11] (.seq (.reg [⟨(some 12), none, .q (.bin .lss (.t 11) (.t 10))⟩])
     (.seq (.cond (.t 12)
       .skip
       (.exit 0))
     (.seq (.block 1 (.seq (.reg [⟨(some 13), none, .q (.mv (.t 11))⟩,
          ⟨(some 14), none, .q (.ixs 1 (.t 9) (.t 11))⟩,
          ⟨(some 15), none, .q (.ld false 1 (.t 14))⟩,
          ⟨(some 6), none, .q (.mv (.t 13))⟩,
          ⟨(some 7), none, .q (.mv (.t 15))⟩])
       (.reg [⟨(some 16), none, .q (.mv (.t 5))⟩,
         ⟨(some 17), none, .q (.mv (.t 7))⟩,
         ⟨(some 18), none, .q (.bin .mul (.t 16) (.t 17))⟩,
         ⟨(some 19), none, .q (.mv (.t 6))⟩,
         ⟨(some 20), none, .q (.ixa 8 1 (.t 3) (.t 19))⟩,
         ⟨(some 21), none, .q (.ld false 1 (.t 20))⟩,
         ⟨(some 22), none, .q (.cvt .i64 (.t 21))⟩,
         ⟨(some 23), none, .q (.bin .add (.t 18) (.t 22))⟩,
         ⟨(some 5), none, .q (.mv (.t 23))⟩])))
     (.reg [⟨(some 24), none, .q (.bin .add (.t 11) (.c (.int .i64 1)))⟩,
       ⟨(some 11), none, .q (.mv (.t 24))⟩])))))))
  (.seq (.reg [⟨(some 25), none, .q (.mv (.t 5))⟩,
     ⟨(some 4), none, .q (.mv (.t 25))⟩])
  .ret))))⟩
theorem l_impl_wordOf : lowF PA f_impl_wordOf 2 [.k [3, 5, 9, 10, 11]] = some c_impl_wordOf := by kernel_rfl
abbrev f_impl_sumOf : FuncId := 35
def c_impl_sumOf : AF := ⟨3, 35, [.c 6 true 8],
  (.seq (.reg [⟨(some 3), none, .m (.box (.t 0))⟩,
     ⟨(some 4), none, .m (.box (.t 1))⟩,
     ⟨(some 5), none, .m (.box (.t 2))⟩,
     ⟨(some 6), none, .m (.alloc [(.v (.int .u8 0)), (.v (.int .u8 0)), (.v (.int .u8 0)), (.v (.int .u8 0)), (.v (.int .u8 0)), (.v (.int .u8 0)), (.v (.int .u8 0)), (.v (.int .u8 0))])⟩])
  (.seq (.reg [⟨(some 10), none, .q (.bld [(.v (.int .u8 0)), (.v (.int .u8 0)), (.v (.int .u8 0)), (.v (.int .u8 0)), (.v (.int .u8 0)), (.v (.int .u8 0)), (.v (.int .u8 0)), (.v (.int .u8 0))] [])⟩,
     ⟨(some 7), none, .m (.alloc [(.v (.int .u8 0)), (.v (.int .u8 0)), (.v (.int .u8 0)), (.v (.int .u8 0)), (.v (.int .u8 0)), (.v (.int .u8 0)), (.v (.int .u8 0)), (.v (.int .u8 0))])⟩,
     ⟨none, none, .m (.st true 8 (.t 7) (.t 10))⟩])
  (.seq (.seq (.reg [⟨(some 11), none, .q (.fad 0 (.t 3))⟩,
      ⟨(some 12), none, .q (.ld false 1 (.t 11))⟩,
      ⟨(some 13), none, .q (.len (.t 12))⟩,
      ⟨(some 14), none, .q (.mv (.c (.int .i64 0)))⟩])
   (.block 0 (.loop [4, 5, 6, 7, 12, 13, 14] (.seq (.reg [⟨(some 15), none, .q (.bin .lss (.t 14) (.t 13))⟩])
     (.seq (.cond (.t 15)
       .skip
       (.exit 0))
     (.seq (.block 1 (.seq (.reg [⟨(some 16), none, .q (.mv (.t 14))⟩,
          ⟨(some 17), none, .q (.ixs 1 (.t 12) (.t 14))⟩,
          ⟨(some 18), none, .q (.ld false 1 (.t 17))⟩,
          ⟨(some 8), none, .q (.mv (.t 16))⟩,
          ⟨(some 9), none, .q (.mv (.t 18))⟩])
       (.sch (.take 0 ⟨(some 19), none, .q (.mv (.t 8))⟩ (.take 1 ⟨(some 20), none, .q (.mv (.t 8))⟩ (.take 2 ⟨(some 21), none, .q (.ixa 8 1 (.t 4) (.t 20))⟩ (.take 3 ⟨(some 22), none, .q (.ld false 1 (.t 21))⟩ (.take 4 ⟨(some 23), none, .q (.cvt .i64 (.t 22))⟩ (.take 5 ⟨(some 24), none, .q (.mv (.t 8))⟩ (.take 6 ⟨(some 25), none, .q (.ixa 8 1 (.t 5) (.t 24))⟩ (.take 7 ⟨(some 26), none, .q (.ld false 1 (.t 25))⟩ (.take 8 ⟨(some 27), none, .q (.cvt .i64 (.t 26))⟩ (.take 9 ⟨(some 28), none, .q (.bin .add (.t 23) (.t 27))⟩ (.take 10 ⟨(some 29), none, .q (.mv (.t 9))⟩ (.take 11 ⟨(some 30), none, .q (.bin .rem (.t 28) (.t 29))⟩ (.take 12 ⟨(some 31), none, .q (.cvt .u8 (.t 30))⟩ (.take 13 ⟨(some 32), none, .q (.ixa 8 1 (.t 7) (.t 19))⟩ (.one ⟨none, none, .m (.st false 1 (.t 32) (.t 31))⟩ [7, 3] .done))))))))))))))))))
     (.reg [⟨(some 33), none, .q (.bin .add (.t 14) (.c (.int .i64 1)))⟩,
       ⟨(some 14), none, .q (.mv (.t 33))⟩])))))))
  (.seq (.reg [⟨(some 34), none, .q (.ld true 8 (.t 7))⟩,
     ⟨none, none, .m (.st true 8 (.t 6) (.t 34))⟩])
  .ret))))⟩
theorem l_impl_sumOf : lowF PA f_impl_sumOf 3 [.k [4, 5, 6, 7, 12, 13, 14], .s (.take 0 (.take 1 (.take 2 (.take 3 (.take 4 (.take 5 (.take 6 (.take 7 (.take 8 (.take 9 (.take 10 (.take 11 (.take 12 (.take 13 (.one 14 .done)))))))))))))))] = some c_impl_sumOf := by kernel_rfl
abbrev f_impl_digitsOf : FuncId := 36
def c_impl_digitsOf : AF := ⟨2, 34, [.c 4 true 8],
  (.seq (.reg [⟨(some 2), none, .m (.box (.t 0))⟩,
     ⟨(some 4), none, .m (.alloc [(.v (.int .u8 0)), (.v (.int .u8 0)), (.v (.int .u8 0)), (.v (.int .u8 0)), (.v (.int .u8 0)), (.v (.int .u8 0)), (.v (.int .u8 0)), (.v (.int .u8 0))])⟩])
  (.seq (.reg [⟨(some 7), none, .q (.bld [(.v (.int .u8 0)), (.v (.int .u8 0)), (.v (.int .u8 0)), (.v (.int .u8 0)), (.v (.int .u8 0)), (.v (.int .u8 0)), (.v (.int .u8 0)), (.v (.int .u8 0))] [])⟩,
     ⟨(some 5), none, .m (.alloc [(.v (.int .u8 0)), (.v (.int .u8 0)), (.v (.int .u8 0)), (.v (.int .u8 0)), (.v (.int .u8 0)), (.v (.int .u8 0)), (.v (.int .u8 0)), (.v (.int .u8 0))])⟩,
     ⟨none, none, .m (.st true 8 (.t 5) (.t 7))⟩])
  (.seq (.seq (.reg [⟨(some 8), none, .q (.fad 0 (.t 2))⟩,
      ⟨(some 9), none, .q (.ld false 1 (.t 8))⟩,
      ⟨(some 10), none, .q (.len (.t 9))⟩,
      ⟨(some 11), none, .q (.bin .sub (.t 10) (.c (.int .i64 1)))⟩,
      ⟨(some 6), none, .q (.mv (.t 11))⟩])
   (.block 0 (.loop [1, 2, 4, 5, 6] (.seq (.seq (.reg [⟨(some 12), none, .q (.mv (.t 6))⟩,
         ⟨(some 13), none, .q (.bin .geq (.t 12) (.c (.int .i64 0)))⟩])
      (.cond (.t 13)
       .skip
       (.exit 0)))
     (.seq (.block 1 (.seq (.reg [⟨(some 16), none, .q (.mv (.t 6))⟩,
          ⟨(some 17), none, .q (.mv (.t 1))⟩,
          ⟨(some 18), none, .q (.fad 0 (.t 2))⟩,
          ⟨(some 19), none, .q (.ld false 1 (.t 18))⟩,
          ⟨(some 20), none, .q (.mv (.t 6))⟩,
          ⟨(some 21), none, .q (.ixs 1 (.t 19) (.t 20))⟩,
          ⟨(some 22), none, .q (.ld false 1 (.t 21))⟩,
          ⟨(some 23), none, .q (.bin .rem (.t 17) (.t 22))⟩,
          ⟨(some 24), none, .q (.cvt .u8 (.t 23))⟩,
          ⟨(some 25), none, .q (.ixa 8 1 (.t 5) (.t 16))⟩,
          ⟨none, none, .m (.st false 1 (.t 25) (.t 24))⟩])
       (.reg [⟨(some 26), none, .q (.mv (.t 1))⟩,
         ⟨(some 27), none, .q (.fad 0 (.t 2))⟩,
         ⟨(some 28), none, .q (.ld false 1 (.t 27))⟩,
         ⟨(some 29), none, .q (.mv (.t 6))⟩,
         ⟨(some 30), none, .q (.ixs 1 (.t 28) (.t 29))⟩,
         ⟨(some 31), none, .q (.ld false 1 (.t 30))⟩,
         ⟨(some 32), none, .q (.bin .quo (.t 26) (.t 31))⟩,
         ⟨(some 1), none, .q (.mv (.t 32))⟩])))
     (.reg [⟨(some 14), none, .q (.mv (.t 6))⟩,
       ⟨(some 15), none, .q (.bin .sub (.t 14) (.c (.int .i64 1)))⟩,
       ⟨(some 6), none, .q (.mv (.t 15))⟩]))))))
  (.seq (.reg [⟨(some 33), none, .q (.ld true 8 (.t 5))⟩,
     ⟨none, none, .m (.st true 8 (.t 4) (.t 33))⟩])
  .ret))))⟩
theorem l_impl_digitsOf : lowF PA f_impl_digitsOf 2 [.k [1, 2, 4, 5, 6]] = some c_impl_digitsOf := by kernel_rfl
abbrev f_impl_oppositeOf : FuncId := 37
def c_impl_oppositeOf : AF := ⟨2, 30, [.c 4 true 8],
  (.seq (.reg [⟨(some 2), none, .m (.box (.t 0))⟩,
     ⟨(some 3), none, .m (.box (.t 1))⟩,
     ⟨(some 4), none, .m (.alloc [(.v (.int .u8 0)), (.v (.int .u8 0)), (.v (.int .u8 0)), (.v (.int .u8 0)), (.v (.int .u8 0)), (.v (.int .u8 0)), (.v (.int .u8 0)), (.v (.int .u8 0))])⟩])
  (.seq (.reg [⟨(some 8), none, .q (.bld [(.v (.int .u8 0)), (.v (.int .u8 0)), (.v (.int .u8 0)), (.v (.int .u8 0)), (.v (.int .u8 0)), (.v (.int .u8 0)), (.v (.int .u8 0)), (.v (.int .u8 0))] [])⟩,
     ⟨(some 5), none, .m (.alloc [(.v (.int .u8 0)), (.v (.int .u8 0)), (.v (.int .u8 0)), (.v (.int .u8 0)), (.v (.int .u8 0)), (.v (.int .u8 0)), (.v (.int .u8 0)), (.v (.int .u8 0))])⟩,
     ⟨none, none, .m (.st true 8 (.t 5) (.t 8))⟩])
  (.seq (.seq (.reg [⟨(some 9), none, .q (.fad 0 (.t 2))⟩,
      ⟨(some 10), none, .q (.ld false 1 (.t 9))⟩,
      ⟨(some 11), none, .q (.len (.t 10))⟩,
      ⟨(some 12), none, .q (.mv (.c (.int .i64 0)))⟩])
   (.block 0 (.loop [3, 4, 5, 10, 11, 12] (.seq (.reg [⟨(some 13), none, .q (.bin .lss (.t 12) (.t 11))⟩])
     (.seq (.cond (.t 13)
       .skip
       (.exit 0))
     (.seq (.block 1 (.seq (.reg [⟨(some 14), none, .q (.mv (.t 12))⟩,
          ⟨(some 15), none, .q (.ixs 1 (.t 10) (.t 12))⟩,
          ⟨(some 16), none, .q (.ld false 1 (.t 15))⟩,
          ⟨(some 6), none, .q (.mv (.t 14))⟩,
          ⟨(some 7), none, .q (.mv (.t 16))⟩])
       (.reg [⟨(some 17), none, .q (.mv (.t 6))⟩,
         ⟨(some 18), none, .q (.mv (.t 7))⟩,
         ⟨(some 19), none, .q (.mv (.t 6))⟩,
         ⟨(some 20), none, .q (.ixa 8 1 (.t 3) (.t 19))⟩,
         ⟨(some 21), none, .q (.ld false 1 (.t 20))⟩,
         ⟨(some 22), none, .q (.cvt .i64 (.t 21))⟩,
         ⟨(some 23), none, .q (.bin .sub (.t 18) (.t 22))⟩,
         ⟨(some 24), none, .q (.mv (.t 7))⟩,
         ⟨(some 25), none, .q (.bin .rem (.t 23) (.t 24))⟩,
         ⟨(some 26), none, .q (.cvt .u8 (.t 25))⟩,
         ⟨(some 27), none, .q (.ixa 8 1 (.t 5) (.t 17))⟩,
         ⟨none, none, .m (.st false 1 (.t 27) (.t 26))⟩])))
     (.reg [⟨(some 28), none, .q (.bin .add (.t 12) (.c (.int .i64 1)))⟩,
       ⟨(some 12), none, .q (.mv (.t 28))⟩])))))))
  (.seq (.reg [⟨(some 29), none, .q (.ld true 8 (.t 5))⟩,
     ⟨none, none, .m (.st true 8 (.t 4) (.t 29))⟩])
  .ret))))⟩
theorem l_impl_oppositeOf : lowF PA f_impl_oppositeOf 2 [.k [3, 4, 5, 10, 11, 12]] = some c_impl_oppositeOf := by kernel_rfl
abbrev f_slices_IndexFunc___int64_int64_ : FuncId := 38
def c_slices_IndexFunc___int64_int64_ : AF := ⟨2, 19, [.t 4],
  (.seq (.reg [⟨(some 4), none, .q (.mv (.c (.int .i64 0)))⟩])
  (.seq (.seq (.reg [⟨(some 6), none, .q (.mv (.t 0))⟩,
      ⟨(some 7), none, .q (.len (.t 6))⟩,
      ⟨(some 8), none, .q (.mv (.c (.int .i64 0)))⟩])
   (.block 0 (.loop [0, 1, 7, 8] (.seq (.reg [⟨(some 9), none, .q (.bin .lss (.t 8) (.t 7))⟩])
     (.seq (.cond (.t 9)
       .skip
       (.exit 0))
     (.seq (.block 1 (.seq (.reg [⟨(some 10), none, .q (.mv (.t 8))⟩,
          ⟨(some 5), none, .q (.mv (.t 10))⟩])
       (.seq (.reg [⟨(some 11), none, .q (.mv (.t 1))⟩,
          ⟨(some 12), none, .q (.mv (.t 0))⟩,
          ⟨(some 13), none, .q (.mv (.t 5))⟩,
          ⟨(some 14), none, .q (.ixs 1 (.t 12) (.t 13))⟩,
          ⟨(some 15), none, .q (.ld false 1 (.t 14))⟩,
          ⟨(some 16), none, .c (.cav (.t 11) [(.t 15)])⟩])
       (.cond (.t 16)
        (.seq (.reg [⟨(some 17), none, .q (.mv (.t 5))⟩,
           ⟨(some 4), none, .q (.mv (.t 17))⟩])
        .ret)
        .skip))))
     (.reg [⟨(some 18), none, .q (.bin .add (.t 8) (.c (.int .i64 1)))⟩,
       ⟨(some 8), none, .q (.mv (.t 18))⟩])))))))
  (.seq (.reg [⟨(some 4), none, .q (.mv (.c (.int .i64 (-1))))⟩])
  .ret)))⟩
theorem l_slices_IndexFunc___int64_int64_ : lowF PA f_slices_IndexFunc___int64_int64_ 2 [.k [0, 1, 7, 8]] = some c_slices_IndexFunc___int64_int64_ := by kernel_rfl
abbrev f_impl_FirstShifts_2 : FuncId := 39
def c_impl_FirstShifts_2 : AF := ⟨4, 13, [.t 5],
  (.seq (.reg [⟨(some 5), none, .q (.mv (.c (.bool false)))⟩])
  (.seq (.reg [⟨(some 6), none, .q (.ld true 1 (.t 1))⟩,
     ⟨(some 7), none, .q (.ld false 1 (.t 2))⟩,
     ⟨(some 8), none, .q (.mv (.t 0))⟩,
     ⟨(some 9), none, .c (.call 27 [(.t 6), (.t 7), (.t 8)])⟩,
     ⟨(some 10), none, .q (.mkf 41 [(.t 3)])⟩,
     ⟨(some 11), none, .c (.call 40 [(.t 9), (.t 10)])⟩,
     ⟨(some 12), none, .q (.un .not (.t 11))⟩,
     ⟨(some 5), none, .q (.mv (.t 12))⟩])
  .ret))⟩
theorem l_impl_FirstShifts_2 : lowF PA f_impl_FirstShifts_2 4 [] = some c_impl_FirstShifts_2 := by kernel_rfl
abbrev f_slices_ContainsFunc___int64_int64_ : FuncId := 40
def c_slices_ContainsFunc___int64_int64_ : AF := ⟨2, 9, [.t 4],
  (.seq (.reg [⟨(some 4), none, .q (.mv (.c (.bool false)))⟩])
  (.seq (.reg [⟨(some 5), none, .q (.mv (.t 0))⟩,
     ⟨(some 6), none, .q (.mv (.t 1))⟩,
     ⟨(some 7), none, .c (.call 38 [(.t 5), (.t 6)])⟩,
     ⟨(some 8), none, .q (.bin .geq (.t 7) (.c (.int .i64 0)))⟩,
     ⟨(some 4), none, .q (.mv (.t 8))⟩])
  .ret))⟩
theorem l_slices_ContainsFunc___int64_int64_ : lowF PA f_slices_ContainsFunc___int64_int64_ 2 [] = some c_slices_ContainsFunc___int64_int64_ := by kernel_rfl
abbrev f_impl_FirstShifts_2_1 : FuncId := 41
def c_impl_FirstShifts_2_1 : AF := ⟨2, 8, [.t 3],
  (.seq (.reg [⟨(some 3), none, .q (.mv (.c (.bool false)))⟩])
  (.seq (.reg [⟨(some 4), none, .q (.ld false 1 (.t 1))⟩,
     ⟨(some 5), none, .q (.mv (.t 0))⟩,
     ⟨(some 6), none, .q (.ixs 1 (.t 4) (.t 5))⟩,
     ⟨(some 7), none, .q (.ld false 1 (.t 6))⟩,
     ⟨(some 3), none, .q (.mv (.t 7))⟩])
  .ret))⟩
theorem l_impl_FirstShifts_2_1 : lowF PA f_impl_FirstShifts_2_1 2 [] = some c_impl_FirstShifts_2_1 := by kernel_rfl
abbrev f_slices_Sort___int64_int64_ : FuncId := 47
def c_slices_Sort___int64_int64_ : AF := ⟨1, 11, [],
  (.seq (.reg [⟨(some 3), none, .q (.mv (.t 0))⟩,
     ⟨(some 4), none, .q (.len (.t 3))⟩,
     ⟨(some 2), none, .q (.mv (.t 4))⟩])
  (.reg [⟨(some 5), none, .q (.mv (.t 0))⟩,
    ⟨(some 6), none, .q (.mv (.t 2))⟩,
    ⟨(some 7), none, .q (.mv (.t 2))⟩,
    ⟨(some 8), none, .q (.cvt .u64 (.t 7))⟩,
    ⟨(some 9), none, .c (.call 65 [(.t 8)])⟩,
    ⟨(some 10), none, .c (.call 64 [(.t 5), (.c (.int .i64 0)), (.t 6), (.t 9)])⟩]))⟩
theorem l_slices_Sort___int64_int64_ : lowF PA f_slices_Sort___int64_int64_ 1 [] = some c_slices_Sort___int64_int64_ := by kernel_rfl
abbrev f_spec_l01Given : FuncId := 48
def c_spec_l01Given : AF := ⟨2, 14, [.t 4],
  (.seq (.reg [⟨(some 2), none, .m (.box (.t 0))⟩,
     ⟨(some 4), none, .q (.mv (.c (.int .i64 0)))⟩])
  (.seq (.block 0 (.seq (.reg [⟨(some 6), none, .q (.ld true 1 (.t 2))⟩,
       ⟨(some 7), none, .c (.call 66 [(.t 6)])⟩,
       ⟨(some 8), none, .q (.un .not (.t 7))⟩,
       ⟨(some 5), none, .q (.mv (.t 8))⟩])
    (.cond (.t 5)
     (.seq (.reg [⟨(some 4), none, .q (.mv (.c (.int .i64 1)))⟩])
     .ret)
     (.seq (.reg [⟨(some 10), none, .q (.ld true 1 (.t 2))⟩,
        ⟨(some 11), none, .q (.mv (.t 1))⟩,
        ⟨(some 12), none, .c (.call 67 [(.t 10), (.t 11)])⟩,
        ⟨(some 13), none, .q (.un .not (.t 12))⟩,
        ⟨(some 9), none, .q (.mv (.t 13))⟩])
     (.cond (.t 9)
      (.seq (.reg [⟨(some 4), none, .q (.mv (.c (.int .i64 2)))⟩])
      .ret)
      .skip)))))
  (.seq (.reg [⟨(some 4), none, .q (.mv (.c (.int .i64 0)))⟩])
  .ret)))⟩
theorem l_spec_l01Given : lowF PA f_spec_l01Given 2 [] = some c_spec_l01Given := by kernel_rfl
abbrev f_impl_codeCode : FuncId := 49
def c_impl_codeCode : AF := ⟨3, 18, [.t 6],
  (.seq (.reg [⟨(some 3), none, .m (.box (.t 0))⟩,
     ⟨(some 6), none, .q (.mv (.c (.int .i64 0)))⟩])
  (.seq (.seq (.reg [⟨(some 8), none, .q (.ld true 1 (.t 3))⟩,
      ⟨(some 9), none, .q (.mv (.t 2))⟩,
      ⟨(some 10), none, .c (.call 68 [(.t 8), (.t 9)])⟩,
      ⟨(some 7), none, .q (.mv (.t 10))⟩])
   (.seq (.reg [⟨(some 11), none, .q (.mv (.t 7))⟩,
      ⟨(some 12), none, .q (.bin .neq (.t 11) (.c (.int .i64 0)))⟩])
   (.cond (.t 12)
    (.seq (.reg [⟨(some 13), none, .q (.mv (.t 7))⟩,
       ⟨(some 6), none, .q (.mv (.t 13))⟩])
    .ret)
    .skip)))
  (.seq (.seq (.reg [⟨(some 14), none, .q (.ld true 1 (.t 3))⟩,
      ⟨(some 15), none, .q (.mv (.t 1))⟩,
      ⟨(some 16), none, .c (.call 69 [(.t 14), (.t 15)])⟩,
      ⟨(some 17), none, .q (.un .not (.t 16))⟩])
   (.cond (.t 17)
    (.seq (.reg [⟨(some 6), none, .q (.mv (.c (.int .i64 2)))⟩])
    .ret)
    .skip))
  (.seq (.reg [⟨(some 6), none, .q (.mv (.c (.int .i64 0)))⟩])
  .ret))))⟩
theorem l_impl_codeCode : lowF PA f_impl_codeCode 3 [] = some c_impl_codeCode := by kernel_rfl
abbrev f_impl_shifted_1 : FuncId := 50
def c_impl_shifted_1 : AF := ⟨3, 13, [.t 4],
  (.seq (.reg [⟨(some 4), none, .q (.mv (.c (.int .i64 0)))⟩])
  (.seq (.sch (.take 0 ⟨(some 5), none, .q (.ld true 1 (.t 1))⟩ (.take 1 ⟨(some 6), none, .q (.ld true 1 (.t 1))⟩ (.take 2 ⟨(some 7), none, .q (.ld true 1 (.t 1))⟩ (.take 3 ⟨(some 8), none, .q (.mv (.t 0))⟩ (.take 5 ⟨(some 10), none, .q (.ld true 8 (.t 2))⟩ (.one ⟨(some 9), none, .c (.call 36 [(.t 7), (.t 8)])⟩ [2] (.one ⟨(some 11), none, .c (.call 35 [(.t 6), (.t 9), (.t 10)])⟩ [5, 1] (.one ⟨(some 12), none, .c (.call 34 [(.t 5), (.t 11)])⟩ [0] (.take 8 ⟨(some 4), none, .q (.mv (.t 12))⟩ .done))))))))))
  .ret))⟩
theorem l_impl_shifted_1 : lowF PA f_impl_shifted_1 3 [.s (.take 0 (.take 1 (.take 2 (.take 3 (.take 5 (.one 4 (.one 6 (.one 7 (.take 8 .done)))))))))] = some c_impl_shifted_1 := by kernel_rfl
abbrev f_spec_l01Put : FuncId := 51
def c_spec_l01Put : AF := ⟨2, 46, [.t 4],
  (.seq (.reg [⟨(some 4), none, .q (.mv (.c (.slice none 0 0)))⟩])
  (.seq (.reg [⟨(some 7), none, .q (.mv (.t 0))⟩,
     ⟨(some 8), none, .q (.len (.t 7))⟩,
     ⟨(some 5), none, .q (.mv (.t 8))⟩])
  (.seq (.block 0 (.loop [0, 1, 5] (.seq (.seq (.reg [⟨(some 9), none, .q (.mv (.t 5))⟩,
         ⟨(some 10), none, .q (.bin .gtr (.t 9) (.c (.int .i64 0)))⟩,
         ⟨(some 11), none, .q (.mv (.t 10))⟩,
         ⟨(some 12), (some (11, true)), .q (.mv (.t 0))⟩,
         ⟨(some 13), (some (11, true)), .q (.mv (.t 5))⟩,
         ⟨(some 14), (some (11, true)), .q (.bin .sub (.t 13) (.c (.int .i64 1)))⟩,
         ⟨(some 15), (some (11, true)), .q (.ixs 1 (.t 12) (.t 14))⟩,
         ⟨(some 16), (some (11, true)), .q (.ld false 1 (.t 15))⟩,
         ⟨(some 17), (some (11, true)), .q (.mv (.t 1))⟩,
         ⟨(some 18), (some (11, true)), .q (.bin .gtr (.t 16) (.t 17))⟩,
         ⟨(some 19), none, .q (.pick (.t 11) (.t 18) (.c (.bool false)))⟩])
      (.cond (.t 19)
       .skip
       (.exit 0)))
     (.block 1 (.reg [⟨(some 20), none, .q (.mv (.t 5))⟩,
        ⟨(some 21), none, .q (.bin .sub (.t 20) (.c (.int .i64 1)))⟩,
        ⟨(some 5), none, .q (.mv (.t 21))⟩])))))
  (.seq (.seq (.reg [⟨(some 22), none, .q (.mv (.t 5))⟩,
      ⟨(some 23), none, .q (.bin .gtr (.t 22) (.c (.int .i64 0)))⟩,
      ⟨(some 24), none, .q (.mv (.t 23))⟩,
      ⟨(some 25), (some (24, true)), .q (.mv (.t 0))⟩,
      ⟨(some 26), (some (24, true)), .q (.mv (.t 5))⟩,
      ⟨(some 27), (some (24, true)), .q (.bin .sub (.t 26) (.c (.int .i64 1)))⟩,
      ⟨(some 28), (some (24, true)), .q (.ixs 1 (.t 25) (.t 27))⟩,
      ⟨(some 29), (some (24, true)), .q (.ld false 1 (.t 28))⟩,
      ⟨(some 30), (some (24, true)), .q (.mv (.t 1))⟩,
      ⟨(some 31), (some (24, true)), .q (.bin .eql (.t 29) (.t 30))⟩,
      ⟨(some 32), none, .q (.pick (.t 24) (.t 31) (.c (.bool false)))⟩])
   (.cond (.t 32)
    (.seq (.reg [⟨(some 33), none, .q (.mv (.t 0))⟩,
       ⟨(some 4), none, .q (.mv (.t 33))⟩])
    .ret)
    .skip))
  (.seq (.reg [⟨(some 34), none, .q (.mv (.t 0))⟩,
     ⟨(some 35), none, .q (.mv (.t 5))⟩,
     ⟨(some 36), none, .q (.slc 1 (.t 34) none (some (.t 35)))⟩,
     ⟨(some 37), none, .c (.call 56 [(.t 36)])⟩,
     ⟨(some 38), none, .q (.mv (.t 1))⟩,
     ⟨(some 39), none, .m (.bsl 1 [(.t 38)])⟩,
     ⟨(some 40), none, .m (.app 1 8 (.t 37) (.t 39))⟩,
     ⟨(some 6), none, .q (.mv (.t 40))⟩])
  (.seq (.reg [⟨(some 41), none, .q (.mv (.t 6))⟩,
     ⟨(some 42), none, .q (.mv (.t 0))⟩,
     ⟨(some 43), none, .q (.mv (.t 5))⟩,
     ⟨(some 44), none, .q (.slc 1 (.t 42) (some (.t 43)) none)⟩,
     ⟨(some 45), none, .m (.app 1 8 (.t 41) (.t 44))⟩,
     ⟨(some 4), none, .q (.mv (.t 45))⟩])
  .ret))))))⟩
theorem l_spec_l01Put : lowF PA f_spec_l01Put 2 [.k [0, 1, 5]] = some c_spec_l01Put := by kernel_rfl
abbrev f_spec_l01Sum : FuncId := 52
def c_spec_l01Sum : AF := ⟨3, 43, [.t 6],
  (.seq (.reg [⟨(some 3), none, .m (.box (.t 0))⟩,
     ⟨(some 6), none, .q (.mv (.c (.int .i64 0)))⟩])
  (.seq (.sch (.take 0 ⟨(some 10), none, .q (.ld true 1 (.t 3))⟩ (.take 1 ⟨(some 11), none, .q (.mv (.t 1))⟩ (.take 3 ⟨(some 13), none, .q (.ld true 1 (.t 3))⟩ (.take 4 ⟨(some 14), none, .q (.mv (.t 2))⟩ (.one ⟨(some 12), none, .c (.call 70 [(.t 10), (.t 11)])⟩ [0] (.one ⟨(some 15), none, .c (.call 70 [(.t 13), (.t 14)])⟩ [3] (.take 6 ⟨(some 7), none, .q (.mv (.t 12))⟩ (.take 7 ⟨(some 8), none, .q (.mv (.t 15))⟩ .done)))))))))
  (.seq (.seq (.reg [⟨(some 16), none, .q (.mv (.t 7))⟩,
      ⟨(some 17), none, .q (.len (.t 16))⟩,
      ⟨(some 18), none, .q (.mv (.c (.int .i64 0)))⟩])
   (.block 0 (.loop [3, 7, 8, 17, 18] (.seq (.reg [⟨(some 19), none, .q (.bin .lss (.t 18) (.t 17))⟩])
     (.seq (.cond (.t 19)
       .skip
       (.exit 0))
     (.seq (.block 1 (.seq (.reg [⟨(some 20), none, .q (.mv (.t 18))⟩,
          ⟨(some 9), none, .q (.mv (.t 20))⟩])
       (.sch (.take 0 ⟨(some 21), none, .q (.mv (.t 7))⟩ (.take 1 ⟨(some 22), none, .q (.mv (.t 9))⟩ (.take 2 ⟨(some 23), none, .q (.mv (.t 7))⟩ (.take 3 ⟨(some 24), none, .q (.mv (.t 9))⟩ (.take 4 ⟨(some 25), none, .q (.ixs 1 (.t 23) (.t 24))⟩ (.take 5 ⟨(some 26), none, .q (.ld false 1 (.t 25))⟩ (.take 6 ⟨(some 27), none, .q (.mv (.t 8))⟩ (.take 7 ⟨(some 28), none, .q (.mv (.t 9))⟩ (.take 8 ⟨(some 29), none, .q (.ixs 1 (.t 27) (.t 28))⟩ (.take 9 ⟨(some 30), none, .q (.ld false 1 (.t 29))⟩ (.take 10 ⟨(some 31), none, .q (.bin .add (.t 26) (.t 30))⟩ (.take 11 ⟨(some 32), none, .q (.fad 0 (.t 3))⟩ (.take 12 ⟨(some 33), none, .q (.ld false 1 (.t 32))⟩ (.take 13 ⟨(some 34), none, .q (.mv (.t 9))⟩ (.take 14 ⟨(some 35), none, .q (.ixs 1 (.t 33) (.t 34))⟩ (.take 15 ⟨(some 36), none, .q (.ld false 1 (.t 35))⟩ (.take 16 ⟨(some 37), none, .q (.bin .rem (.t 31) (.t 36))⟩ (.take 17 ⟨(some 38), none, .q (.ixs 1 (.t 21) (.t 22))⟩ (.one ⟨none, none, .m (.st false 1 (.t 38) (.t 37))⟩ [15, 12, 9, 5] .done))))))))))))))))))))))
     (.reg [⟨(some 39), none, .q (.bin .add (.t 18) (.c (.int .i64 1)))⟩,
       ⟨(some 18), none, .q (.mv (.t 39))⟩])))))))
  (.seq (.reg [⟨(some 40), none, .q (.ld true 1 (.t 3))⟩,
     ⟨(some 41), none, .q (.mv (.t 7))⟩,
     ⟨(some 42), none, .c (.call 71 [(.t 40), (.t 41)])⟩,
     ⟨(some 6), none, .q (.mv (.t 42))⟩])
  .ret))))⟩
theorem l_spec_l01Sum : lowF PA f_spec_l01Sum 3 [.s (.take 0 (.take 1 (.take 3 (.take 4 (.one 2 (.one 5 (.take 6 (.take 7 .done)))))))), .k [3, 7, 8, 17, 18], .s (.take 0 (.take 1 (.take 2 (.take 3 (.take 4 (.take 5 (.take 6 (.take 7 (.take 8 (.take 9 (.take 10 (.take 11 (.take 12 (.take 13 (.take 14 (.take 15 (.take 16 (.take 17 (.one 18 .done)))))))))))))))))))] = some c_spec_l01Sum := by kernel_rfl
abbrev f_slices_Compact___int64_int64_ : FuncId := 53
def c_slices_Compact___int64_int64_ : AF := ⟨1, 61, [.t 2],
  (.seq (.reg [⟨(some 2), none, .q (.mv (.c (.slice none 0 0)))⟩])
  (.seq (.seq (.reg [⟨(some 6), none, .q (.mv (.t 0))⟩,
      ⟨(some 7), none, .q (.len (.t 6))⟩,
      ⟨(some 8), none, .q (.bin .lss (.t 7) (.c (.int .i64 2)))⟩])
   (.cond (.t 8)
    (.seq (.reg [⟨(some 9), none, .q (.mv (.t 0))⟩,
       ⟨(some 2), none, .q (.mv (.t 9))⟩])
    .ret)
    .skip))
  (.seq (.seq (.reg [⟨(some 3), none, .q (.mv (.c (.int .i64 1)))⟩])
   (.block 0 (.loop [0, 3, 61] (.seq (.seq (.reg [⟨(some 10), none, .q (.mv (.t 3))⟩,
         ⟨(some 11), none, .q (.mv (.t 0))⟩,
         ⟨(some 12), none, .q (.len (.t 11))⟩,
         ⟨(some 13), none, .q (.bin .lss (.t 10) (.t 12))⟩])
      (.cond (.t 13)
       .skip
       (.exit 0)))
     (.seq (.block 1 (.seq (.sch (.take 0 ⟨(some 16), none, .q (.mv (.t 0))⟩ (.take 1 ⟨(some 17), none, .q (.mv (.t 3))⟩ (.take 2 ⟨(some 18), none, .q (.ixs 1 (.t 16) (.t 17))⟩ (.take 3 ⟨(some 19), none, .q (.ld false 1 (.t 18))⟩ (.take 4 ⟨(some 20), none, .q (.mv (.t 0))⟩ (.take 5 ⟨(some 21), none, .q (.mv (.t 3))⟩ (.take 6 ⟨(some 22), none, .q (.bin .sub (.t 21) (.c (.int .i64 1)))⟩ (.take 7 ⟨(some 23), none, .q (.ixs 1 (.t 20) (.t 22))⟩ (.take 8 ⟨(some 24), none, .q (.ld false 1 (.t 23))⟩ (.take 9 ⟨(some 25), none, .q (.bin .eql (.t 19) (.t 24))⟩ .done)))))))))))
       (.cond (.t 25)
        (.seq (.reg [⟨(some 26), none, .q (.mv (.t 0))⟩,
           ⟨(some 27), none, .q (.mv (.t 3))⟩,
           ⟨(some 28), none, .q (.slc 1 (.t 26) (some (.t 27)) none)⟩,
           ⟨(some 4), none, .q (.mv (.t 28))⟩])
        (.seq (.seq (.reg [⟨(some 5), none, .q (.mv (.c (.int .i64 1)))⟩])
         (.block 2 (.loop [0, 3, 4, 5, 61] (.seq (.seq (.reg [⟨(some 29), none, .q (.mv (.t 5))⟩,
               ⟨(some 30), none, .q (.mv (.t 4))⟩,
               ⟨(some 31), none, .q (.len (.t 30))⟩,
               ⟨(some 32), none, .q (.bin .lss (.t 29) (.t 31))⟩])
            (.cond (.t 32)
             .skip
             (.exit 2)))
           (.seq (.block 3 (.seq (.sch (.take 0 ⟨(some 35), none, .q (.mv (.t 4))⟩ (.take 1 ⟨(some 36), none, .q (.mv (.t 5))⟩ (.take 2 ⟨(some 37), none, .q (.ixs 1 (.t 35) (.t 36))⟩ (.take 3 ⟨(some 38), none, .q (.ld false 1 (.t 37))⟩ (.take 4 ⟨(some 39), none, .q (.mv (.t 4))⟩ (.take 5 ⟨(some 40), none, .q (.mv (.t 5))⟩ (.take 6 ⟨(some 41), none, .q (.bin .sub (.t 40) (.c (.int .i64 1)))⟩ (.take 7 ⟨(some 42), none, .q (.ixs 1 (.t 39) (.t 41))⟩ (.take 8 ⟨(some 43), none, .q (.ld false 1 (.t 42))⟩ (.take 9 ⟨(some 44), none, .q (.bin .neq (.t 38) (.t 43))⟩ .done)))))))))))
             (.cond (.t 44)
              (.seq (.reg [⟨(some 45), none, .q (.mv (.t 0))⟩,
                 ⟨(some 46), none, .q (.mv (.t 3))⟩,
                 ⟨(some 47), none, .q (.mv (.t 4))⟩,
                 ⟨(some 48), none, .q (.mv (.t 5))⟩,
                 ⟨(some 49), none, .q (.ixs 1 (.t 47) (.t 48))⟩,
                 ⟨(some 50), none, .q (.ld false 1 (.t 49))⟩,
                 ⟨(some 51), none, .q (.ixs 1 (.t 45) (.t 46))⟩,
                 ⟨none, none, .m (.st false 1 (.t 51) (.t 50))⟩])
              (.reg [⟨(some 52), none, .q (.mv (.t 3))⟩,
                ⟨(some 53), none, .q (.bin .add (.t 52) (.c (.int .i64 1)))⟩,
                ⟨(some 3), none, .q (.mv (.t 53))⟩]))
              .skip)))
           (.reg [⟨(some 33), none, .q (.mv (.t 5))⟩,
             ⟨(some 34), none, .q (.bin .add (.t 33) (.c (.int .i64 1)))⟩,
             ⟨(some 5), none, .q (.mv (.t 34))⟩]))))))
        (.seq (.reg [⟨(some 54), none, .q (.mv (.t 0))⟩,
           ⟨(some 55), none, .q (.mv (.t 3))⟩,
           ⟨(some 56), none, .q (.slc 1 (.t 54) (some (.t 55)) none)⟩,
           ⟨none, none, .m (.clr 1 (.v (.int .i64 0)) (.t 56))⟩])
        (.seq (.reg [⟨(some 57), none, .q (.mv (.t 0))⟩,
           ⟨(some 58), none, .q (.mv (.t 3))⟩,
           ⟨(some 59), none, .q (.slc 1 (.t 57) none (some (.t 58)))⟩,
           ⟨(some 2), none, .q (.mv (.t 59))⟩])
        .ret))))
        .skip)))
     (.reg [⟨(some 14), none, .q (.mv (.t 3))⟩,
       ⟨(some 15), none, .q (.bin .add (.t 14) (.c (.int .i64 1)))⟩,
       ⟨(some 3), none, .q (.mv (.t 15))⟩]))))))
  (.seq (.reg [⟨(some 60), none, .q (.mv (.t 0))⟩,
     ⟨(some 2), none, .q (.mv (.t 60))⟩])
  .ret))))⟩
theorem l_slices_Compact___int64_int64_ : lowF PA f_slices_Compact___int64_int64_ 1 [.k [0, 3, 61], .s (.take 0 (.take 1 (.take 2 (.take 3 (.take 4 (.take 5 (.take 6 (.take 7 (.take 8 (.take 9 .done)))))))))), .k [0, 3, 4, 5, 61], .s (.take 0 (.take 1 (.take 2 (.take 3 (.take 4 (.take 5 (.take 6 (.take 7 (.take 8 (.take 9 .done))))))))))] = some c_slices_Compact___int64_int64_ := by kernel_rfl
abbrev f_spec_l01Own : FuncId := 56
def c_spec_l01Own : AF := ⟨1, 6, [.t 2],
  (.seq (.reg [⟨(some 2), none, .q (.mv (.c (.slice none 0 0)))⟩])
  (.seq (.reg [⟨(some 3), none, .m (.bsl 1 [])⟩,
     ⟨(some 4), none, .q (.mv (.t 0))⟩,
     ⟨(some 5), none, .m (.app 1 8 (.t 3) (.t 4))⟩,
     ⟨(some 2), none, .q (.mv (.t 5))⟩])
  .ret))⟩
theorem l_spec_l01Own : lowF PA f_spec_l01Own 1 [] = some c_spec_l01Own := by kernel_rfl
abbrev f_impl_IsSpace : FuncId := 58
def c_impl_IsSpace : AF := ⟨1, 35, [.t 2],
  (.seq (.reg [⟨(some 1), none, .m (.box (.t 0))⟩,
     ⟨(some 2), none, .q (.mv (.c (.bool false)))⟩])
  (.seq (.seq (.reg [⟨(some 6), none, .q (.fad 0 (.t 1))⟩,
      ⟨(some 7), none, .q (.ld false 1 (.t 6))⟩,
      ⟨(some 8), none, .q (.len (.t 7))⟩,
      ⟨(some 9), none, .q (.bin .lss (.t 8) (.c (.int .i64 1)))⟩,
      ⟨(some 10), none, .q (.mv (.t 9))⟩,
      ⟨(some 11), (some (10, false)), .q (.fad 0 (.t 1))⟩,
      ⟨(some 12), (some (10, false)), .q (.ld false 1 (.t 11))⟩,
      ⟨(some 13), (some (10, false)), .q (.len (.t 12))⟩,
      ⟨(some 14), (some (10, false)), .q (.bin .gtr (.t 13) (.c (.int .i64 8)))⟩,
      ⟨(some 15), none, .q (.pick (.t 10) (.c (.bool true)) (.t 14))⟩])
   (.cond (.t 15)
    (.seq (.reg [⟨(some 2), none, .q (.mv (.c (.bool false)))⟩])
    .ret)
    .skip))
  (.seq (.reg [⟨(some 3), none, .q (.mv (.c (.int .i64 1)))⟩])
  (.seq (.seq (.reg [⟨(some 16), none, .q (.fad 0 (.t 1))⟩,
      ⟨(some 17), none, .q (.ld false 1 (.t 16))⟩,
      ⟨(some 18), none, .q (.len (.t 17))⟩,
      ⟨(some 19), none, .q (.mv (.c (.int .i64 0)))⟩])
   (.block 0 (.loop [3, 17, 18, 19] (.seq (.reg [⟨(some 20), none, .q (.bin .lss (.t 19) (.t 18))⟩])
     (.seq (.cond (.t 20)
       .skip
       (.exit 0))
     (.seq (.block 1 (.seq (.reg [⟨(some 21), none, .q (.ixs 1 (.t 17) (.t 19))⟩,
          ⟨(some 22), none, .q (.ld false 1 (.t 21))⟩,
          ⟨(some 5), none, .q (.mv (.t 22))⟩])
       (.seq (.seq (.reg [⟨(some 23), none, .q (.mv (.t 5))⟩,
           ⟨(some 24), none, .q (.bin .lss (.t 23) (.c (.int .i64 2)))⟩,
           ⟨(some 25), none, .q (.mv (.t 24))⟩,
           ⟨(some 26), (some (25, false)), .q (.mv (.t 5))⟩,
           ⟨(some 27), (some (25, false)), .q (.bin .gtr (.t 26) (.c (.int .i64 4)))⟩,
           ⟨(some 28), none, .q (.pick (.t 25) (.c (.bool true)) (.t 27))⟩])
        (.cond (.t 28)
         (.seq (.reg [⟨(some 2), none, .q (.mv (.c (.bool false)))⟩])
         .ret)
         .skip))
       (.reg [⟨(some 29), none, .q (.mv (.t 3))⟩,
         ⟨(some 30), none, .q (.mv (.t 5))⟩,
         ⟨(some 31), none, .q (.bin .mul (.t 29) (.t 30))⟩,
         ⟨(some 3), none, .q (.mv (.t 31))⟩]))))
     (.reg [⟨(some 32), none, .q (.bin .add (.t 19) (.c (.int .i64 1)))⟩,
       ⟨(some 19), none, .q (.mv (.t 32))⟩])))))))
  (.seq (.reg [⟨(some 33), none, .q (.mv (.t 3))⟩,
     ⟨(some 34), none, .q (.bin .leq (.t 33) (.c (.int .i64 1024)))⟩,
     ⟨(some 2), none, .q (.mv (.t 34))⟩])
  .ret)))))⟩
theorem l_impl_IsSpace : lowF PA f_impl_IsSpace 1 [.k [3, 17, 18, 19]] = some c_impl_IsSpace := by kernel_rfl
abbrev f_impl_areWords : FuncId := 59
def c_impl_areWords : AF := ⟨2, 24, [.t 4],
  (.seq (.reg [⟨(some 2), none, .m (.box (.t 0))⟩,
     ⟨(some 4), none, .q (.mv (.c (.bool false)))⟩])
  (.seq (.reg [⟨(some 8), none, .q (.ld true 1 (.t 2))⟩,
     ⟨(some 9), none, .c (.call 26 [(.t 8)])⟩,
     ⟨(some 5), none, .q (.mv (.t 9))⟩])
  (.seq (.seq (.reg [⟨(some 10), none, .q (.mv (.t 1))⟩,
      ⟨(some 11), none, .q (.len (.t 10))⟩,
      ⟨(some 12), none, .q (.mv (.c (.int .i64 0)))⟩])
   (.block 0 (.loop [5, 10, 11, 12] (.seq (.reg [⟨(some 13), none, .q (.bin .lss (.t 12) (.t 11))⟩])
     (.seq (.cond (.t 13)
       .skip
       (.exit 0))
     (.seq (.block 1 (.seq (.reg [⟨(some 14), none, .q (.ixs 1 (.t 10) (.t 12))⟩,
          ⟨(some 15), none, .q (.ld false 1 (.t 14))⟩,
          ⟨(some 7), none, .q (.mv (.t 15))⟩])
       (.seq (.reg [⟨(some 16), none, .q (.mv (.t 7))⟩,
          ⟨(some 17), none, .q (.bin .lss (.t 16) (.c (.int .i64 0)))⟩,
          ⟨(some 18), none, .q (.mv (.t 17))⟩,
          ⟨(some 19), (some (18, false)), .q (.mv (.t 7))⟩,
          ⟨(some 20), (some (18, false)), .q (.mv (.t 5))⟩,
          ⟨(some 21), (some (18, false)), .q (.bin .geq (.t 19) (.t 20))⟩,
          ⟨(some 22), none, .q (.pick (.t 18) (.c (.bool true)) (.t 21))⟩])
       (.cond (.t 22)
        (.seq (.reg [⟨(some 4), none, .q (.mv (.c (.bool false)))⟩])
        .ret)
        .skip))))
     (.reg [⟨(some 23), none, .q (.bin .add (.t 12) (.c (.int .i64 1)))⟩,
       ⟨(some 12), none, .q (.mv (.t 23))⟩])))))))
  (.seq (.reg [⟨(some 4), none, .q (.mv (.c (.bool true)))⟩])
  .ret))))⟩
theorem l_impl_areWords : lowF PA f_impl_areWords 2 [.k [5, 10, 11, 12]] = some c_impl_areWords := by kernel_rfl
abbrev f_cmp_Less_int64_ : FuncId := 61
def c_cmp_Less_int64_ : AF := ⟨2, 17, [.t 4],
  (.seq (.reg [⟨(some 4), none, .q (.mv (.c (.bool false)))⟩])
  (.seq (.reg [⟨(some 5), none, .q (.mv (.t 0))⟩,
     ⟨(some 6), none, .c (.call 73 [(.t 5)])⟩,
     ⟨(some 7), none, .q (.mv (.t 6))⟩,
     ⟨(some 8), (some (7, true)), .q (.mv (.t 1))⟩,
     ⟨(some 9), (some (7, true)), .c (.call 73 [(.t 8)])⟩,
     ⟨(some 10), (some (7, true)), .q (.un .not (.t 9))⟩,
     ⟨(some 11), none, .q (.pick (.t 7) (.t 10) (.c (.bool false)))⟩,
     ⟨(some 12), none, .q (.mv (.t 11))⟩,
     ⟨(some 13), (some (12, false)), .q (.mv (.t 0))⟩,
     ⟨(some 14), (some (12, false)), .q (.mv (.t 1))⟩,
     ⟨(some 15), (some (12, false)), .q (.bin .lss (.t 13) (.t 14))⟩,
     ⟨(some 16), none, .q (.pick (.t 12) (.c (.bool true)) (.t 15))⟩,
     ⟨(some 4), none, .q (.mv (.t 16))⟩])
  .ret))⟩
theorem l_cmp_Less_int64_ : lowF PA f_cmp_Less_int64_ 2 [] = some c_cmp_Less_int64_ := by kernel_rfl
abbrev f_slices_pdqsortOrdered_int64_ : FuncId := 64
def c_slices_pdqsortOrdered_int64_ : AF := ⟨4, 134, [],
  (.seq (.reg [⟨(some 8), none, .q (.mv (.c (.bool true)))⟩])
  (.seq (.reg [⟨(some 9), none, .q (.mv (.c (.bool true)))⟩])
  (.block 0 (.loop [0, 1, 2, 3, 8, 9, 134] (.block 1 (.seq (.reg [⟨(some 19), none, .q (.mv (.t 2))⟩,
        ⟨(some 20), none, .q (.mv (.t 1))⟩,
        ⟨(some 21), none, .q (.bin .sub (.t 19) (.t 20))⟩,
        ⟨(some 10), none, .q (.mv (.t 21))⟩])
     (.seq (.seq (.reg [⟨(some 22), none, .q (.mv (.t 10))⟩,
         ⟨(some 23), none, .q (.bin .leq (.t 22) (.c (.int .i64 12)))⟩])
      (.cond (.t 23)
       (.seq (.reg [⟨(some 24), none, .q (.mv (.t 0))⟩,
          ⟨(some 25), none, .q (.mv (.t 1))⟩,
          ⟨(some 26), none, .q (.mv (.t 2))⟩,
          ⟨(some 27), none, .c (.call 74 [(.t 24), (.t 25), (.t 26)])⟩])
       .ret)
       .skip))
     (.seq (.seq (.reg [⟨(some 28), none, .q (.mv (.t 3))⟩,
         ⟨(some 29), none, .q (.bin .eql (.t 28) (.c (.int .i64 0)))⟩])
      (.cond (.t 29)
       (.seq (.reg [⟨(some 30), none, .q (.mv (.t 0))⟩,
          ⟨(some 31), none, .q (.mv (.t 1))⟩,
          ⟨(some 32), none, .q (.mv (.t 2))⟩,
          ⟨(some 33), none, .c (.call 75 [(.t 30), (.t 31), (.t 32)])⟩])
       .ret)
       .skip))
     (.seq (.seq (.reg [⟨(some 34), none, .q (.mv (.t 8))⟩,
         ⟨(some 35), none, .q (.un .not (.t 34))⟩])
      (.cond (.t 35)
       (.seq (.reg [⟨(some 36), none, .q (.mv (.t 0))⟩,
          ⟨(some 37), none, .q (.mv (.t 1))⟩,
          ⟨(some 38), none, .q (.mv (.t 2))⟩,
          ⟨(some 39), none, .c (.call 76 [(.t 36), (.t 37), (.t 38)])⟩])
       (.reg [⟨(some 40), none, .q (.mv (.t 3))⟩,
         ⟨(some 41), none, .q (.bin .sub (.t 40) (.c (.int .i64 1)))⟩,
         ⟨(some 3), none, .q (.mv (.t 41))⟩]))
       .skip))
     (.seq (.reg [⟨(some 43), none, .q (.mv (.t 0))⟩,
        ⟨(some 44), none, .q (.mv (.t 1))⟩,
        ⟨(some 45), none, .q (.mv (.t 2))⟩,
        ⟨(some 46), none, .c (.call 77 [(.t 43), (.t 44), (.t 45)])⟩,
        ⟨(some 42), none, .q (.mv (.t 46))⟩,
        ⟨(some 47), none, .q (.ext (.t 42) 0)⟩,
        ⟨(some 48), none, .q (.ext (.t 42) 1)⟩,
        ⟨(some 11), none, .q (.mv (.t 47))⟩,
        ⟨(some 12), none, .q (.mv (.t 48))⟩])
     (.seq (.seq (.reg [⟨(some 49), none, .q (.mv (.t 12))⟩,
         ⟨(some 50), none, .q (.bin .eql (.t 49) (.c (.int .i64 2)))⟩])
      (.cond (.t 50)
       (.seq (.reg [⟨(some 51), none, .q (.mv (.t 0))⟩,
          ⟨(some 52), none, .q (.mv (.t 1))⟩,
          ⟨(some 53), none, .q (.mv (.t 2))⟩,
          ⟨(some 54), none, .c (.call 78 [(.t 51), (.t 52), (.t 53)])⟩])
       (.seq (.reg [⟨(some 55), none, .q (.mv (.t 2))⟩,
          ⟨(some 56), none, .q (.bin .sub (.t 55) (.c (.int .i64 1)))⟩,
          ⟨(some 57), none, .q (.mv (.t 11))⟩,
          ⟨(some 58), none, .q (.mv (.t 1))⟩,
          ⟨(some 59), none, .q (.bin .sub (.t 57) (.t 58))⟩,
          ⟨(some 60), none, .q (.bin .sub (.t 56) (.t 59))⟩,
          ⟨(some 11), none, .q (.mv (.t 60))⟩])
       (.reg [⟨(some 12), none, .q (.mv (.c (.int .i64 1)))⟩])))
       .skip))
     (.seq (.seq (.reg [⟨(some 61), none, .q (.mv (.t 8))⟩,
         ⟨(some 62), none, .q (.mv (.t 61))⟩,
         ⟨(some 63), (some (62, true)), .q (.mv (.t 9))⟩,
         ⟨(some 64), none, .q (.pick (.t 62) (.t 63) (.c (.bool false)))⟩,
         ⟨(some 65), none, .q (.mv (.t 64))⟩,
         ⟨(some 66), (some (65, true)), .q (.mv (.t 12))⟩,
         ⟨(some 67), (some (65, true)), .q (.bin .eql (.t 66) (.c (.int .i64 1)))⟩,
         ⟨(some 68), none, .q (.pick (.t 65) (.t 67) (.c (.bool false)))⟩])
      (.cond (.t 68)
       (.seq (.reg [⟨(some 69), none, .q (.mv (.t 0))⟩,
          ⟨(some 70), none, .q (.mv (.t 1))⟩,
          ⟨(some 71), none, .q (.mv (.t 2))⟩,
          ⟨(some 72), none, .c (.call 79 [(.t 69), (.t 70), (.t 71)])⟩])
       (.cond (.t 72)
        .ret
        .skip))
       .skip))
     (.seq (.seq (.sch (.take 0 ⟨(some 73), none, .q (.mv (.t 1))⟩ (.take 1 ⟨(some 74), none, .q (.bin .gtr (.t 73) (.c (.int .i64 0)))⟩ (.take 2 ⟨(some 75), none, .q (.mv (.t 74))⟩ (.take 3 ⟨(some 76), (some (75, true)), .q (.mv (.t 0))⟩ (.take 4 ⟨(some 77), (some (75, true)), .q (.mv (.t 1))⟩ (.take 5 ⟨(some 78), (some (75, true)), .q (.bin .sub (.t 77) (.c (.int .i64 1)))⟩ (.take 6 ⟨(some 79), (some (75, true)), .q (.ixs 1 (.t 76) (.t 78))⟩ (.take 7 ⟨(some 80), (some (75, true)), .q (.ld false 1 (.t 79))⟩ (.take 8 ⟨(some 81), (some (75, true)), .q (.mv (.t 0))⟩ (.take 9 ⟨(some 82), (some (75, true)), .q (.mv (.t 11))⟩ (.take 10 ⟨(some 83), (some (75, true)), .q (.ixs 1 (.t 81) (.t 82))⟩ (.take 11 ⟨(some 84), (some (75, true)), .q (.ld false 1 (.t 83))⟩ (.one ⟨(some 85), (some (75, true)), .c (.call 61 [(.t 80), (.t 84)])⟩ [11, 7] (.take 13 ⟨(some 86), (some (75, true)), .q (.un .not (.t 85))⟩ (.take 14 ⟨(some 87), none, .q (.pick (.t 75) (.t 86) (.c (.bool false)))⟩ .done))))))))))))))))
      (.cond (.t 87)
       (.seq (.reg [⟨(some 88), none, .q (.mv (.t 0))⟩,
          ⟨(some 89), none, .q (.mv (.t 1))⟩,
          ⟨(some 90), none, .q (.mv (.t 2))⟩,
          ⟨(some 91), none, .q (.mv (.t 11))⟩,
          ⟨(some 92), none, .c (.call 80 [(.t 88), (.t 89), (.t 90), (.t 91)])⟩,
          ⟨(some 13), none, .q (.mv (.t 92))⟩])
       (.seq (.reg [⟨(some 93), none, .q (.mv (.t 13))⟩,
          ⟨(some 1), none, .q (.mv (.t 93))⟩])
       (.exit 1)))
       .skip))
     (.seq (.reg [⟨(some 95), none, .q (.mv (.t 0))⟩,
        ⟨(some 96), none, .q (.mv (.t 1))⟩,
        ⟨(some 97), none, .q (.mv (.t 2))⟩,
        ⟨(some 98), none, .q (.mv (.t 11))⟩,
        ⟨(some 99), none, .c (.call 81 [(.t 95), (.t 96), (.t 97), (.t 98)])⟩,
        ⟨(some 94), none, .q (.mv (.t 99))⟩,
        ⟨(some 100), none, .q (.ext (.t 94) 0)⟩,
        ⟨(some 101), none, .q (.ext (.t 94) 1)⟩,
        ⟨(some 14), none, .q (.mv (.t 100))⟩,
        ⟨(some 15), none, .q (.mv (.t 101))⟩])
     (.seq (.reg [⟨(some 102), none, .q (.mv (.t 15))⟩,
        ⟨(some 9), none, .q (.mv (.t 102))⟩])
     (.seq (.reg [⟨(some 103), none, .q (.mv (.t 14))⟩,
        ⟨(some 104), none, .q (.mv (.t 1))⟩,
        ⟨(some 105), none, .q (.bin .sub (.t 103) (.t 104))⟩,
        ⟨(some 106), none, .q (.mv (.t 2))⟩,
        ⟨(some 107), none, .q (.mv (.t 14))⟩,
        ⟨(some 108), none, .q (.bin .sub (.t 106) (.t 107))⟩,
        ⟨(some 16), none, .q (.mv (.t 105))⟩,
        ⟨(some 17), none, .q (.mv (.t 108))⟩])
     (.seq (.reg [⟨(some 109), none, .q (.mv (.t 10))⟩,
        ⟨(some 110), none, .q (.bin .quo (.t 109) (.c (.int .i64 8)))⟩,
        ⟨(some 18), none, .q (.mv (.t 110))⟩])
     (.seq (.reg [⟨(some 111), none, .q (.mv (.t 16))⟩,
        ⟨(some 112), none, .q (.mv (.t 17))⟩,
        ⟨(some 113), none, .q (.bin .lss (.t 111) (.t 112))⟩])
     (.cond (.t 113)
      (.seq (.reg [⟨(some 114), none, .q (.mv (.t 16))⟩,
         ⟨(some 115), none, .q (.mv (.t 18))⟩,
         ⟨(some 116), none, .q (.bin .geq (.t 114) (.t 115))⟩,
         ⟨(some 8), none, .q (.mv (.t 116))⟩])
      (.seq (.reg [⟨(some 117), none, .q (.mv (.t 0))⟩,
         ⟨(some 118), none, .q (.mv (.t 1))⟩,
         ⟨(some 119), none, .q (.mv (.t 14))⟩,
         ⟨(some 120), none, .q (.mv (.t 3))⟩,
         ⟨(some 121), none, .c (.call 64 [(.t 117), (.t 118), (.t 119), (.t 120)])⟩])
      (.reg [⟨(some 122), none, .q (.mv (.t 14))⟩,
        ⟨(some 123), none, .q (.bin .add (.t 122) (.c (.int .i64 1)))⟩,
        ⟨(some 1), none, .q (.mv (.t 123))⟩])))
      (.seq (.reg [⟨(some 124), none, .q (.mv (.t 17))⟩,
         ⟨(some 125), none, .q (.mv (.t 18))⟩,
         ⟨(some 126), none, .q (.bin .geq (.t 124) (.t 125))⟩,
         ⟨(some 8), none, .q (.mv (.t 126))⟩])
      (.seq (.reg [⟨(some 127), none, .q (.mv (.t 0))⟩,
         ⟨(some 128), none, .q (.mv (.t 14))⟩,
         ⟨(some 129), none, .q (.bin .add (.t 128) (.c (.int .i64 1)))⟩,
         ⟨(some 130), none, .q (.mv (.t 2))⟩,
         ⟨(some 131), none, .q (.mv (.t 3))⟩,
         ⟨(some 132), none, .c (.call 64 [(.t 127), (.t 129), (.t 130), (.t 131)])⟩])
      (.reg [⟨(some 133), none, .q (.mv (.t 14))⟩,
        ⟨(some 2), none, .q (.mv (.t 133))⟩]))))))))))))))))))))))⟩
theorem l_slices_pdqsortOrdered_int64_ : lowF PA f_slices_pdqsortOrdered_int64_ 4 [.k [0, 1, 2, 3, 8, 9, 134], .s (.take 0 (.take 1 (.take 2 (.take 3 (.take 4 (.take 5 (.take 6 (.take 7 (.take 8 (.take 9 (.take 10 (.take 11 (.one 12 (.take 13 (.take 14 .done)))))))))))))))] = some c_slices_pdqsortOrdered_int64_ := by kernel_rfl
abbrev f_math_bits_Len : FuncId := 65
def c_math_bits_Len : AF := ⟨1, 8, [.t 2],
  (.seq (.reg [⟨(some 2), none, .q (.mv (.c (.int .i64 0)))⟩])
  (.seq (.cond (.c (.bool false))
    (.seq (.reg [⟨(some 3), none, .q (.mv (.t 0))⟩,
       ⟨(some 4), none, .q (.cvt .u32 (.t 3))⟩,
       ⟨(some 5), none, .c (.call 82 [(.t 4)])⟩,
       ⟨(some 2), none, .q (.mv (.t 5))⟩])
    .ret)
    .skip)
  (.seq (.reg [⟨(some 6), none, .q (.mv (.t 0))⟩,
     ⟨(some 7), none, .c (.call 83 [(.t 6)])⟩,
     ⟨(some 2), none, .q (.mv (.t 7))⟩])
  .ret)))⟩
theorem l_math_bits_Len : lowF PA f_math_bits_Len 1 [] = some c_math_bits_Len := by kernel_rfl
abbrev f_spec_l01Is : FuncId := 66
def c_spec_l01Is : AF := ⟨1, 26, [.t 2],
  (.seq (.reg [⟨(some 1), none, .m (.box (.t 0))⟩,
     ⟨(some 2), none, .q (.mv (.c (.bool false)))⟩])
  (.seq (.seq (.reg [⟨(some 4), none, .q (.fad 0 (.t 1))⟩,
      ⟨(some 5), none, .q (.ld false 1 (.t 4))⟩,
      ⟨(some 6), none, .q (.len (.t 5))⟩,
      ⟨(some 7), none, .c (.call 22 [(.t 6), (.c (.int .i64 1)), (.c (.int .i64 8))])⟩,
      ⟨(some 8), none, .q (.un .not (.t 7))⟩])
   (.cond (.t 8)
    (.seq (.reg [⟨(some 2), none, .q (.mv (.c (.bool false)))⟩])
    .ret)
    .skip))
  (.seq (.seq (.reg [⟨(some 3), none, .q (.mv (.c (.int .i64 0)))⟩])
   (.block 0 (.loop [1, 3] (.seq (.seq (.reg [⟨(some 9), none, .q (.mv (.t 3))⟩,
         ⟨(some 10), none, .q (.fad 0 (.t 1))⟩,
         ⟨(some 11), none, .q (.ld false 1 (.t 10))⟩,
         ⟨(some 12), none, .q (.len (.t 11))⟩,
         ⟨(some 13), none, .q (.bin .lss (.t 9) (.t 12))⟩])
      (.cond (.t 13)
       .skip
       (.exit 0)))
     (.seq (.block 1 (.seq (.reg [⟨(some 16), none, .q (.fad 0 (.t 1))⟩,
          ⟨(some 17), none, .q (.ld false 1 (.t 16))⟩,
          ⟨(some 18), none, .q (.mv (.t 3))⟩,
          ⟨(some 19), none, .q (.ixs 1 (.t 17) (.t 18))⟩,
          ⟨(some 20), none, .q (.ld false 1 (.t 19))⟩,
          ⟨(some 21), none, .c (.call 22 [(.t 20), (.c (.int .i64 2)), (.c (.int .i64 4))])⟩,
          ⟨(some 22), none, .q (.un .not (.t 21))⟩])
       (.cond (.t 22)
        (.seq (.reg [⟨(some 2), none, .q (.mv (.c (.bool false)))⟩])
        .ret)
        .skip)))
     (.reg [⟨(some 14), none, .q (.mv (.t 3))⟩,
       ⟨(some 15), none, .q (.bin .add (.t 14) (.c (.int .i64 1)))⟩,
       ⟨(some 3), none, .q (.mv (.t 15))⟩]))))))
  (.seq (.reg [⟨(some 23), none, .q (.ld true 1 (.t 1))⟩,
     ⟨(some 24), none, .c (.call 23 [(.t 23)])⟩,
     ⟨(some 25), none, .q (.bin .leq (.t 24) (.c (.int .i64 1024)))⟩,
     ⟨(some 2), none, .q (.mv (.t 25))⟩])
  .ret))))⟩
theorem l_spec_l01Is : lowF PA f_spec_l01Is 1 [.k [1, 3]] = some c_spec_l01Is := by kernel_rfl
abbrev f_spec_l01Code : FuncId := 67
def c_spec_l01Code : AF := ⟨2, 37, [.t 4],
  (.seq (.reg [⟨(some 2), none, .m (.box (.t 0))⟩,
     ⟨(some 4), none, .q (.mv (.c (.bool false)))⟩])
  (.seq (.seq (.reg [⟨(some 5), none, .q (.mv (.c (.int .i64 0)))⟩])
   (.block 0 (.loop [1, 2, 5] (.seq (.seq (.reg [⟨(some 6), none, .q (.mv (.t 5))⟩,
         ⟨(some 7), none, .q (.mv (.t 1))⟩,
         ⟨(some 8), none, .q (.len (.t 7))⟩,
         ⟨(some 9), none, .q (.bin .lss (.t 6) (.t 8))⟩])
      (.cond (.t 9)
       .skip
       (.exit 0)))
     (.seq (.block 1 (.seq (.sch (.take 0 ⟨(some 12), none, .q (.mv (.t 1))⟩ (.take 1 ⟨(some 13), none, .q (.mv (.t 5))⟩ (.take 2 ⟨(some 14), none, .q (.ixs 1 (.t 12) (.t 13))⟩ (.take 3 ⟨(some 15), none, .q (.ld false 1 (.t 14))⟩ (.take 4 ⟨(some 16), none, .q (.ld true 1 (.t 2))⟩ (.one ⟨(some 17), none, .c (.call 23 [(.t 16)])⟩ [4] (.take 6 ⟨(some 18), none, .q (.bin .sub (.t 17) (.c (.int .i64 1)))⟩ (.one ⟨(some 19), none, .c (.call 22 [(.t 15), (.c (.int .i64 0)), (.t 18)])⟩ [3] (.take 8 ⟨(some 20), none, .q (.un .not (.t 19))⟩ (.take 9 ⟨(some 21), none, .q (.mv (.t 20))⟩ (.take 10 ⟨(some 22), (some (21, false)), .q (.mv (.t 5))⟩ (.take 11 ⟨(some 23), (some (21, false)), .q (.bin .gtr (.t 22) (.c (.int .i64 0)))⟩ (.take 12 ⟨(some 24), (some (21, false)), .q (.mv (.t 23))⟩ (.take 13 ⟨(some 25), (some (24, true)), .q (.mv (.t 1))⟩ (.take 14 ⟨(some 26), (some (24, true)), .q (.mv (.t 5))⟩ (.take 15 ⟨(some 27), (some (24, true)), .q (.ixs 1 (.t 25) (.t 26))⟩ (.take 16 ⟨(some 28), (some (24, true)), .q (.ld false 1 (.t 27))⟩ (.take 17 ⟨(some 29), (some (24, true)), .q (.mv (.t 1))⟩ (.take 18 ⟨(some 30), (some (24, true)), .q (.mv (.t 5))⟩ (.take 19 ⟨(some 31), (some (24, true)), .q (.bin .sub (.t 30) (.c (.int .i64 1)))⟩ (.take 20 ⟨(some 32), (some (24, true)), .q (.ixs 1 (.t 29) (.t 31))⟩ (.take 21 ⟨(some 33), (some (24, true)), .q (.ld false 1 (.t 32))⟩ (.take 22 ⟨(some 34), (some (24, true)), .q (.bin .leq (.t 28) (.t 33))⟩ (.take 23 ⟨(some 35), (some (21, false)), .q (.pick (.t 24) (.t 34) (.c (.bool false)))⟩ (.take 24 ⟨(some 36), none, .q (.pick (.t 21) (.c (.bool true)) (.t 35))⟩ .done))))))))))))))))))))))))))
       (.cond (.t 36)
        (.seq (.reg [⟨(some 4), none, .q (.mv (.c (.bool false)))⟩])
        .ret)
        .skip)))
     (.reg [⟨(some 10), none, .q (.mv (.t 5))⟩,
       ⟨(some 11), none, .q (.bin .add (.t 10) (.c (.int .i64 1)))⟩,
       ⟨(some 5), none, .q (.mv (.t 11))⟩]))))))
  (.seq (.reg [⟨(some 4), none, .q (.mv (.c (.bool true)))⟩])
  .ret)))⟩
theorem l_spec_l01Code : lowF PA f_spec_l01Code 2 [.k [1, 2, 5], .s (.take 0 (.take 1 (.take 2 (.take 3 (.take 4 (.one 5 (.take 6 (.one 7 (.take 8 (.take 9 (.take 10 (.take 11 (.take 12 (.take 13 (.take 14 (.take 15 (.take 16 (.take 17 (.take 18 (.take 19 (.take 20 (.take 21 (.take 22 (.take 23 (.take 24 .done)))))))))))))))))))))))))] = some c_spec_l01Code := by kernel_rfl
abbrev f_impl_wordCode : FuncId := 68
def c_impl_wordCode : AF := ⟨2, 14, [.t 4],
  (.seq (.reg [⟨(some 2), none, .m (.box (.t 0))⟩,
     ⟨(some 4), none, .q (.mv (.c (.int .i64 0)))⟩])
  (.seq (.block 0 (.seq (.reg [⟨(some 6), none, .q (.ld true 1 (.t 2))⟩,
       ⟨(some 7), none, .c (.call 58 [(.t 6)])⟩,
       ⟨(some 8), none, .q (.un .not (.t 7))⟩,
       ⟨(some 5), none, .q (.mv (.t 8))⟩])
    (.cond (.t 5)
     (.seq (.reg [⟨(some 4), none, .q (.mv (.c (.int .i64 1)))⟩])
     .ret)
     (.seq (.reg [⟨(some 10), none, .q (.ld true 1 (.t 2))⟩,
        ⟨(some 11), none, .q (.mv (.t 1))⟩,
        ⟨(some 12), none, .c (.call 59 [(.t 10), (.t 11)])⟩,
        ⟨(some 13), none, .q (.un .not (.t 12))⟩,
        ⟨(some 9), none, .q (.mv (.t 13))⟩])
     (.cond (.t 9)
      (.seq (.reg [⟨(some 4), none, .q (.mv (.c (.int .i64 2)))⟩])
      .ret)
      .skip)))))
  (.seq (.reg [⟨(some 4), none, .q (.mv (.c (.int .i64 0)))⟩])
  .ret)))⟩
theorem l_impl_wordCode : lowF PA f_impl_wordCode 2 [] = some c_impl_wordCode := by kernel_rfl
abbrev f_impl_isCode : FuncId := 69
def c_impl_isCode : AF := ⟨2, 33, [.t 4],
  (.seq (.reg [⟨(some 2), none, .m (.box (.t 0))⟩,
     ⟨(some 4), none, .q (.mv (.c (.bool false)))⟩])
  (.seq (.seq (.reg [⟨(some 6), none, .q (.mv (.t 1))⟩,
      ⟨(some 7), none, .q (.len (.t 6))⟩,
      ⟨(some 8), none, .q (.ld true 1 (.t 2))⟩,
      ⟨(some 9), none, .c (.call 26 [(.t 8)])⟩,
      ⟨(some 10), none, .q (.bin .gtr (.t 7) (.t 9))⟩,
      ⟨(some 11), none, .q (.mv (.t 10))⟩,
      ⟨(some 12), (some (11, false)), .q (.ld true 1 (.t 2))⟩,
      ⟨(some 13), (some (11, false)), .q (.mv (.t 1))⟩,
      ⟨(some 14), (some (11, false)), .c (.call 59 [(.t 12), (.t 13)])⟩,
      ⟨(some 15), (some (11, false)), .q (.un .not (.t 14))⟩,
      ⟨(some 16), none, .q (.pick (.t 11) (.c (.bool true)) (.t 15))⟩])
   (.cond (.t 16)
    (.seq (.reg [⟨(some 4), none, .q (.mv (.c (.bool false)))⟩])
    .ret)
    .skip))
  (.seq (.seq (.reg [⟨(some 5), none, .q (.mv (.c (.int .i64 1)))⟩])
   (.block 0 (.loop [1, 5] (.seq (.seq (.reg [⟨(some 17), none, .q (.mv (.t 5))⟩,
         ⟨(some 18), none, .q (.mv (.t 1))⟩,
         ⟨(some 19), none, .q (.len (.t 18))⟩,
         ⟨(some 20), none, .q (.bin .lss (.t 17) (.t 19))⟩])
      (.cond (.t 20)
       .skip
       (.exit 0)))
     (.seq (.block 1 (.seq (.sch (.take 0 ⟨(some 23), none, .q (.mv (.t 1))⟩ (.take 1 ⟨(some 24), none, .q (.mv (.t 5))⟩ (.take 2 ⟨(some 25), none, .q (.ixs 1 (.t 23) (.t 24))⟩ (.take 3 ⟨(some 26), none, .q (.ld false 1 (.t 25))⟩ (.take 4 ⟨(some 27), none, .q (.mv (.t 1))⟩ (.take 5 ⟨(some 28), none, .q (.mv (.t 5))⟩ (.take 6 ⟨(some 29), none, .q (.bin .sub (.t 28) (.c (.int .i64 1)))⟩ (.take 7 ⟨(some 30), none, .q (.ixs 1 (.t 27) (.t 29))⟩ (.take 8 ⟨(some 31), none, .q (.ld false 1 (.t 30))⟩ (.take 9 ⟨(some 32), none, .q (.bin .leq (.t 26) (.t 31))⟩ .done)))))))))))
       (.cond (.t 32)
        (.seq (.reg [⟨(some 4), none, .q (.mv (.c (.bool false)))⟩])
        .ret)
        .skip)))
     (.reg [⟨(some 21), none, .q (.mv (.t 5))⟩,
       ⟨(some 22), none, .q (.bin .add (.t 21) (.c (.int .i64 1)))⟩,
       ⟨(some 5), none, .q (.mv (.t 22))⟩]))))))
  (.seq (.reg [⟨(some 4), none, .q (.mv (.c (.bool true)))⟩])
  .ret))))⟩
theorem l_impl_isCode : lowF PA f_impl_isCode 2 [.k [1, 5], .s (.take 0 (.take 1 (.take 2 (.take 3 (.take 4 (.take 5 (.take 6 (.take 7 (.take 8 (.take 9 .done))))))))))] = some c_impl_isCode := by kernel_rfl
abbrev f_spec_l01Digits : FuncId := 70
def c_spec_l01Digits : AF := ⟨2, 37, [.t 4],
  (.seq (.reg [⟨(some 2), none, .m (.box (.t 0))⟩,
     ⟨(some 4), none, .q (.mv (.c (.slice none 0 0)))⟩])
  (.seq (.reg [⟨(some 7), none, .q (.fad 0 (.t 2))⟩,
     ⟨(some 8), none, .q (.ld false 1 (.t 7))⟩,
     ⟨(some 9), none, .q (.len (.t 8))⟩,
     ⟨(some 10), none, .m (.mks 1 (.v (.int .i64 0)) 8 (.t 9) (.t 9))⟩,
     ⟨(some 5), none, .q (.mv (.t 10))⟩])
  (.seq (.seq (.reg [⟨(some 11), none, .q (.fad 0 (.t 2))⟩,
      ⟨(some 12), none, .q (.ld false 1 (.t 11))⟩,
      ⟨(some 13), none, .q (.len (.t 12))⟩,
      ⟨(some 14), none, .q (.bin .sub (.t 13) (.c (.int .i64 1)))⟩,
      ⟨(some 6), none, .q (.mv (.t 14))⟩])
   (.block 0 (.loop [1, 2, 5, 6] (.seq (.seq (.reg [⟨(some 15), none, .q (.mv (.t 6))⟩,
         ⟨(some 16), none, .q (.bin .geq (.t 15) (.c (.int .i64 0)))⟩])
      (.cond (.t 16)
       .skip
       (.exit 0)))
     (.seq (.block 1 (.seq (.reg [⟨(some 19), none, .q (.mv (.t 5))⟩,
          ⟨(some 20), none, .q (.mv (.t 6))⟩,
          ⟨(some 21), none, .q (.mv (.t 1))⟩,
          ⟨(some 22), none, .q (.fad 0 (.t 2))⟩,
          ⟨(some 23), none, .q (.ld false 1 (.t 22))⟩,
          ⟨(some 24), none, .q (.mv (.t 6))⟩,
          ⟨(some 25), none, .q (.ixs 1 (.t 23) (.t 24))⟩,
          ⟨(some 26), none, .q (.ld false 1 (.t 25))⟩,
          ⟨(some 27), none, .q (.bin .rem (.t 21) (.t 26))⟩,
          ⟨(some 28), none, .q (.ixs 1 (.t 19) (.t 20))⟩,
          ⟨none, none, .m (.st false 1 (.t 28) (.t 27))⟩])
       (.reg [⟨(some 29), none, .q (.mv (.t 1))⟩,
         ⟨(some 30), none, .q (.fad 0 (.t 2))⟩,
         ⟨(some 31), none, .q (.ld false 1 (.t 30))⟩,
         ⟨(some 32), none, .q (.mv (.t 6))⟩,
         ⟨(some 33), none, .q (.ixs 1 (.t 31) (.t 32))⟩,
         ⟨(some 34), none, .q (.ld false 1 (.t 33))⟩,
         ⟨(some 35), none, .q (.bin .quo (.t 29) (.t 34))⟩,
         ⟨(some 1), none, .q (.mv (.t 35))⟩])))
     (.reg [⟨(some 17), none, .q (.mv (.t 6))⟩,
       ⟨(some 18), none, .q (.bin .sub (.t 17) (.c (.int .i64 1)))⟩,
       ⟨(some 6), none, .q (.mv (.t 18))⟩]))))))
  (.seq (.reg [⟨(some 36), none, .q (.mv (.t 5))⟩,
     ⟨(some 4), none, .q (.mv (.t 36))⟩])
  .ret))))⟩
theorem l_spec_l01Digits : lowF PA f_spec_l01Digits 2 [.k [1, 2, 5, 6]] = some c_spec_l01Digits := by kernel_rfl
abbrev f_spec_l01Word : FuncId := 71
def c_spec_l01Word : AF := ⟨2, 26, [.t 4],
  (.seq (.reg [⟨(some 2), none, .m (.box (.t 0))⟩,
     ⟨(some 4), none, .q (.mv (.c (.int .i64 0)))⟩])
  (.seq (.reg [⟨(some 5), none, .q (.mv (.c (.int .i64 0)))⟩])
  (.seq (.seq (.reg [⟨(some 6), none, .q (.mv (.c (.int .i64 0)))⟩])
   (.block 0 (.loop [1, 2, 5, 6] (.seq (.seq (.reg [⟨(some 7), none, .q (.mv (.t 6))⟩,
         ⟨(some 8), none, .q (.mv (.t 1))⟩,
         ⟨(some 9), none, .q (.len (.t 8))⟩,
         ⟨(some 10), none, .q (.bin .lss (.t 7) (.t 9))⟩])
      (.cond (.t 10)
       .skip
       (.exit 0)))
     (.seq (.block 1 (.sch (.take 0 ⟨(some 13), none, .q (.mv (.t 5))⟩ (.take 1 ⟨(some 14), none, .q (.fad 0 (.t 2))⟩ (.take 2 ⟨(some 15), none, .q (.ld false 1 (.t 14))⟩ (.take 3 ⟨(some 16), none, .q (.mv (.t 6))⟩ (.take 4 ⟨(some 17), none, .q (.ixs 1 (.t 15) (.t 16))⟩ (.take 5 ⟨(some 18), none, .q (.ld false 1 (.t 17))⟩ (.take 6 ⟨(some 19), none, .q (.bin .mul (.t 13) (.t 18))⟩ (.take 7 ⟨(some 20), none, .q (.mv (.t 1))⟩ (.take 8 ⟨(some 21), none, .q (.mv (.t 6))⟩ (.take 9 ⟨(some 22), none, .q (.ixs 1 (.t 20) (.t 21))⟩ (.take 10 ⟨(some 23), none, .q (.ld false 1 (.t 22))⟩ (.take 11 ⟨(some 24), none, .q (.bin .add (.t 19) (.t 23))⟩ (.take 12 ⟨(some 5), none, .q (.mv (.t 24))⟩ .done)))))))))))))))
     (.reg [⟨(some 11), none, .q (.mv (.t 6))⟩,
       ⟨(some 12), none, .q (.bin .add (.t 11) (.c (.int .i64 1)))⟩,
       ⟨(some 6), none, .q (.mv (.t 12))⟩]))))))
  (.seq (.reg [⟨(some 25), none, .q (.mv (.t 5))⟩,
     ⟨(some 4), none, .q (.mv (.t 25))⟩])
  .ret))))⟩
theorem l_spec_l01Word : lowF PA f_spec_l01Word 2 [.k [1, 2, 5, 6], .s (.take 0 (.take 1 (.take 2 (.take 3 (.take 4 (.take 5 (.take 6 (.take 7 (.take 8 (.take 9 (.take 10 (.take 11 (.take 12 .done)))))))))))))] = some c_spec_l01Word := by kernel_rfl
abbrev f_cmp_isNaN_int64_ : FuncId := 73
def c_cmp_isNaN_int64_ : AF := ⟨1, 6, [.t 2],
  (.seq (.reg [⟨(some 2), none, .q (.mv (.c (.bool false)))⟩])
  (.seq (.reg [⟨(some 3), none, .q (.mv (.t 0))⟩,
     ⟨(some 4), none, .q (.mv (.t 0))⟩,
     ⟨(some 5), none, .q (.bin .neq (.t 3) (.t 4))⟩,
     ⟨(some 2), none, .q (.mv (.t 5))⟩])
  .ret))⟩
theorem l_cmp_isNaN_int64_ : lowF PA f_cmp_isNaN_int64_ 1 [] = some c_cmp_isNaN_int64_ := by kernel_rfl
abbrev f_slices_insertionSortOrdered_int64_ : FuncId := 74
def c_slices_insertionSortOrdered_int64_ : AF := ⟨3, 49, [],
  (.seq (.reg [⟨(some 8), none, .q (.mv (.t 1))⟩,
     ⟨(some 9), none, .q (.bin .add (.t 8) (.c (.int .i64 1)))⟩,
     ⟨(some 6), none, .q (.mv (.t 9))⟩])
  (.block 0 (.loop [0, 1, 2, 6, 49] (.seq (.seq (.reg [⟨(some 10), none, .q (.mv (.t 6))⟩,
        ⟨(some 11), none, .q (.mv (.t 2))⟩,
        ⟨(some 12), none, .q (.bin .lss (.t 10) (.t 11))⟩])
     (.cond (.t 12)
      .skip
      (.exit 0)))
    (.seq (.block 1 (.seq (.reg [⟨(some 15), none, .q (.mv (.t 6))⟩,
         ⟨(some 7), none, .q (.mv (.t 15))⟩])
      (.block 2 (.loop [0, 1, 2, 6, 7, 49] (.seq (.seq (.sch (.take 0 ⟨(some 16), none, .q (.mv (.t 7))⟩ (.take 1 ⟨(some 17), none, .q (.mv (.t 1))⟩ (.take 2 ⟨(some 18), none, .q (.bin .gtr (.t 16) (.t 17))⟩ (.take 3 ⟨(some 19), none, .q (.mv (.t 18))⟩ (.take 4 ⟨(some 20), (some (19, true)), .q (.mv (.t 0))⟩ (.take 5 ⟨(some 21), (some (19, true)), .q (.mv (.t 7))⟩ (.take 6 ⟨(some 22), (some (19, true)), .q (.ixs 1 (.t 20) (.t 21))⟩ (.take 7 ⟨(some 23), (some (19, true)), .q (.ld false 1 (.t 22))⟩ (.take 8 ⟨(some 24), (some (19, true)), .q (.mv (.t 0))⟩ (.take 9 ⟨(some 25), (some (19, true)), .q (.mv (.t 7))⟩ (.take 10 ⟨(some 26), (some (19, true)), .q (.bin .sub (.t 25) (.c (.int .i64 1)))⟩ (.take 11 ⟨(some 27), (some (19, true)), .q (.ixs 1 (.t 24) (.t 26))⟩ (.take 12 ⟨(some 28), (some (19, true)), .q (.ld false 1 (.t 27))⟩ (.one ⟨(some 29), (some (19, true)), .c (.call 61 [(.t 23), (.t 28)])⟩ [12, 7] (.take 14 ⟨(some 30), none, .q (.pick (.t 19) (.t 29) (.c (.bool false)))⟩ .done))))))))))))))))
         (.cond (.t 30)
          .skip
          (.exit 2)))
        (.seq (.block 3 (.sch (.take 0 ⟨(some 33), none, .q (.mv (.t 0))⟩ (.take 1 ⟨(some 34), none, .q (.mv (.t 7))⟩ (.take 2 ⟨(some 35), none, .q (.mv (.t 0))⟩ (.take 3 ⟨(some 36), none, .q (.mv (.t 7))⟩ (.take 4 ⟨(some 37), none, .q (.bin .sub (.t 36) (.c (.int .i64 1)))⟩ (.take 5 ⟨(some 38), none, .q (.mv (.t 0))⟩ (.take 6 ⟨(some 39), none, .q (.mv (.t 7))⟩ (.take 7 ⟨(some 40), none, .q (.bin .sub (.t 39) (.c (.int .i64 1)))⟩ (.take 8 ⟨(some 41), none, .q (.ixs 1 (.t 38) (.t 40))⟩ (.take 9 ⟨(some 42), none, .q (.ld false 1 (.t 41))⟩ (.take 10 ⟨(some 43), none, .q (.mv (.t 0))⟩ (.take 11 ⟨(some 44), none, .q (.mv (.t 7))⟩ (.take 12 ⟨(some 45), none, .q (.ixs 1 (.t 43) (.t 44))⟩ (.take 13 ⟨(some 46), none, .q (.ld false 1 (.t 45))⟩ (.take 14 ⟨(some 47), none, .q (.ixs 1 (.t 33) (.t 34))⟩ (.one ⟨none, none, .m (.st false 1 (.t 47) (.t 42))⟩ [13, 9] (.take 16 ⟨(some 48), none, .q (.ixs 1 (.t 35) (.t 37))⟩ (.one ⟨none, none, .m (.st false 1 (.t 48) (.t 46))⟩ [13, 9] .done))))))))))))))))))))
        (.reg [⟨(some 31), none, .q (.mv (.t 7))⟩,
          ⟨(some 32), none, .q (.bin .sub (.t 31) (.c (.int .i64 1)))⟩,
          ⟨(some 7), none, .q (.mv (.t 32))⟩])))))))
    (.reg [⟨(some 13), none, .q (.mv (.t 6))⟩,
      ⟨(some 14), none, .q (.bin .add (.t 13) (.c (.int .i64 1)))⟩,
      ⟨(some 6), none, .q (.mv (.t 14))⟩]))))))⟩
theorem l_slices_insertionSortOrdered_int64_ : lowF PA f_slices_insertionSortOrdered_int64_ 3 [.k [0, 1, 2, 6, 49], .k [0, 1, 2, 6, 7, 49], .s (.take 0 (.take 1 (.take 2 (.take 3 (.take 4 (.take 5 (.take 6 (.take 7 (.take 8 (.take 9 (.take 10 (.take 11 (.take 12 (.one 13 (.take 14 .done))))))))))))))), .s (.take 0 (.take 1 (.take 2 (.take 3 (.take 4 (.take 5 (.take 6 (.take 7 (.take 8 (.take 9 (.take 10 (.take 11 (.take 12 (.take 13 (.take 14 (.one 15 (.take 16 (.one 17 .done))))))))))))))))))] = some c_slices_insertionSortOrdered_int64_ := by kernel_rfl
abbrev f_slices_heapSortOrdered_int64_ : FuncId := 75
def c_slices_heapSortOrdered_int64_ : AF := ⟨3, 56, [],
  (.seq (.reg [⟨(some 11), none, .q (.mv (.t 1))⟩,
     ⟨(some 6), none, .q (.mv (.t 11))⟩])
  (.seq (.reg [⟨(some 7), none, .q (.mv (.c (.int .i64 0)))⟩])
  (.seq (.reg [⟨(some 12), none, .q (.mv (.t 2))⟩,
     ⟨(some 13), none, .q (.mv (.t 1))⟩,
     ⟨(some 14), none, .q (.bin .sub (.t 12) (.t 13))⟩,
     ⟨(some 8), none, .q (.mv (.t 14))⟩])
  (.seq (.seq (.reg [⟨(some 15), none, .q (.mv (.t 8))⟩,
      ⟨(some 16), none, .q (.bin .sub (.t 15) (.c (.int .i64 1)))⟩,
      ⟨(some 17), none, .q (.bin .quo (.t 16) (.c (.int .i64 2)))⟩,
      ⟨(some 9), none, .q (.mv (.t 17))⟩])
   (.block 0 (.loop [0, 6, 7, 8, 9, 56] (.seq (.seq (.reg [⟨(some 18), none, .q (.mv (.t 9))⟩,
         ⟨(some 19), none, .q (.bin .geq (.t 18) (.c (.int .i64 0)))⟩])
      (.cond (.t 19)
       .skip
       (.exit 0)))
     (.seq (.block 1 (.reg [⟨(some 22), none, .q (.mv (.t 0))⟩,
         ⟨(some 23), none, .q (.mv (.t 9))⟩,
         ⟨(some 24), none, .q (.mv (.t 8))⟩,
         ⟨(some 25), none, .q (.mv (.t 6))⟩,
         ⟨(some 26), none, .c (.call 84 [(.t 22), (.t 23), (.t 24), (.t 25)])⟩]))
     (.reg [⟨(some 20), none, .q (.mv (.t 9))⟩,
       ⟨(some 21), none, .q (.bin .sub (.t 20) (.c (.int .i64 1)))⟩,
       ⟨(some 9), none, .q (.mv (.t 21))⟩]))))))
  (.seq (.reg [⟨(some 27), none, .q (.mv (.t 8))⟩,
     ⟨(some 28), none, .q (.bin .sub (.t 27) (.c (.int .i64 1)))⟩,
     ⟨(some 10), none, .q (.mv (.t 28))⟩])
  (.block 2 (.loop [0, 6, 7, 10, 56] (.seq (.seq (.reg [⟨(some 29), none, .q (.mv (.t 10))⟩,
        ⟨(some 30), none, .q (.bin .geq (.t 29) (.c (.int .i64 0)))⟩])
     (.cond (.t 30)
      .skip
      (.exit 2)))
    (.seq (.block 3 (.seq (.sch (.take 0 ⟨(some 33), none, .q (.mv (.t 0))⟩ (.take 1 ⟨(some 34), none, .q (.mv (.t 6))⟩ (.take 2 ⟨(some 35), none, .q (.mv (.t 0))⟩ (.take 3 ⟨(some 36), none, .q (.mv (.t 6))⟩ (.take 4 ⟨(some 37), none, .q (.mv (.t 10))⟩ (.take 5 ⟨(some 38), none, .q (.bin .add (.t 36) (.t 37))⟩ (.take 6 ⟨(some 39), none, .q (.mv (.t 0))⟩ (.take 7 ⟨(some 40), none, .q (.mv (.t 6))⟩ (.take 8 ⟨(some 41), none, .q (.mv (.t 10))⟩ (.take 9 ⟨(some 42), none, .q (.bin .add (.t 40) (.t 41))⟩ (.take 10 ⟨(some 43), none, .q (.ixs 1 (.t 39) (.t 42))⟩ (.take 11 ⟨(some 44), none, .q (.ld false 1 (.t 43))⟩ (.take 12 ⟨(some 45), none, .q (.mv (.t 0))⟩ (.take 13 ⟨(some 46), none, .q (.mv (.t 6))⟩ (.take 14 ⟨(some 47), none, .q (.ixs 1 (.t 45) (.t 46))⟩ (.take 15 ⟨(some 48), none, .q (.ld false 1 (.t 47))⟩ (.take 16 ⟨(some 49), none, .q (.ixs 1 (.t 33) (.t 34))⟩ (.one ⟨none, none, .m (.st false 1 (.t 49) (.t 44))⟩ [15, 11] (.take 18 ⟨(some 50), none, .q (.ixs 1 (.t 35) (.t 38))⟩ (.one ⟨none, none, .m (.st false 1 (.t 50) (.t 48))⟩ [15, 11] .done)))))))))))))))))))))
      (.reg [⟨(some 51), none, .q (.mv (.t 0))⟩,
        ⟨(some 52), none, .q (.mv (.t 7))⟩,
        ⟨(some 53), none, .q (.mv (.t 10))⟩,
        ⟨(some 54), none, .q (.mv (.t 6))⟩,
        ⟨(some 55), none, .c (.call 84 [(.t 51), (.t 52), (.t 53), (.t 54)])⟩])))
    (.reg [⟨(some 31), none, .q (.mv (.t 10))⟩,
      ⟨(some 32), none, .q (.bin .sub (.t 31) (.c (.int .i64 1)))⟩,
      ⟨(some 10), none, .q (.mv (.t 32))⟩]))))))))))⟩
theorem l_slices_heapSortOrdered_int64_ : lowF PA f_slices_heapSortOrdered_int64_ 3 [.k [0, 6, 7, 8, 9, 56], .k [0, 6, 7, 10, 56], .s (.take 0 (.take 1 (.take 2 (.take 3 (.take 4 (.take 5 (.take 6 (.take 7 (.take 8 (.take 9 (.take 10 (.take 11 (.take 12 (.take 13 (.take 14 (.take 15 (.take 16 (.one 17 (.take 18 (.one 19 .done))))))))))))))))))))] = some c_slices_heapSortOrdered_int64_ := by kernel_rfl
abbrev f_slices_breakPatternsOrdered_int64_ : FuncId := 76
def c_slices_breakPatternsOrdered_int64_ : AF := ⟨3, 65, [],
  (.seq (.reg [⟨(some 11), none, .q (.mv (.t 2))⟩,
     ⟨(some 12), none, .q (.mv (.t 1))⟩,
     ⟨(some 13), none, .q (.bin .sub (.t 11) (.t 12))⟩,
     ⟨(some 6), none, .q (.mv (.t 13))⟩])
  (.seq (.reg [⟨(some 14), none, .q (.mv (.t 6))⟩,
     ⟨(some 15), none, .q (.bin .geq (.t 14) (.c (.int .i64 8)))⟩])
  (.cond (.t 15)
   (.seq (.reg [⟨(some 16), none, .q (.mv (.t 6))⟩,
      ⟨(some 17), none, .q (.cvt .u64 (.t 16))⟩,
      ⟨(some 7), none, .m (.alloc [(.v (.int .u64 0))])⟩,
      ⟨none, none, .m (.st false 1 (.t 7) (.t 17))⟩])
   (.seq (.reg [⟨(some 18), none, .q (.mv (.t 6))⟩,
      ⟨(some 19), none, .c (.call 85 [(.t 18)])⟩,
      ⟨(some 8), none, .q (.mv (.t 19))⟩])
   (.seq (.reg [⟨(some 20), none, .q (.mv (.t 1))⟩,
      ⟨(some 21), none, .q (.mv (.t 6))⟩,
      ⟨(some 22), none, .q (.bin .quo (.t 21) (.c (.int .i64 4)))⟩,
      ⟨(some 23), none, .q (.bin .mul (.t 22) (.c (.int .i64 2)))⟩,
      ⟨(some 24), none, .q (.bin .add (.t 20) (.t 23))⟩,
      ⟨(some 25), none, .q (.bin .sub (.t 24) (.c (.int .i64 1)))⟩,
      ⟨(some 9), none, .q (.mv (.t 25))⟩])
   (.block 0 (.loop [0, 1, 6, 7, 8, 9, 65] (.seq (.seq (.reg [⟨(some 26), none, .q (.mv (.t 9))⟩,
         ⟨(some 27), none, .q (.mv (.t 1))⟩,
         ⟨(some 28), none, .q (.mv (.t 6))⟩,
         ⟨(some 29), none, .q (.bin .quo (.t 28) (.c (.int .i64 4)))⟩,
         ⟨(some 30), none, .q (.bin .mul (.t 29) (.c (.int .i64 2)))⟩,
         ⟨(some 31), none, .q (.bin .add (.t 27) (.t 30))⟩,
         ⟨(some 32), none, .q (.bin .add (.t 31) (.c (.int .i64 1)))⟩,
         ⟨(some 33), none, .q (.bin .leq (.t 26) (.t 32))⟩])
      (.cond (.t 33)
       .skip
       (.exit 0)))
     (.seq (.block 1 (.seq (.reg [⟨(some 36), none, .c (.call 86 [(.t 7)])⟩,
          ⟨(some 37), none, .q (.mv (.t 8))⟩,
          ⟨(some 38), none, .q (.bin .sub (.t 37) (.c (.int .u64 1)))⟩,
          ⟨(some 39), none, .q (.bin .and (.t 36) (.t 38))⟩,
          ⟨(some 40), none, .q (.cvt .i64 (.t 39))⟩,
          ⟨(some 10), none, .q (.mv (.t 40))⟩])
       (.seq (.seq (.reg [⟨(some 41), none, .q (.mv (.t 10))⟩,
           ⟨(some 42), none, .q (.mv (.t 6))⟩,
           ⟨(some 43), none, .q (.bin .geq (.t 41) (.t 42))⟩])
        (.cond (.t 43)
         (.reg [⟨(some 44), none, .q (.mv (.t 10))⟩,
           ⟨(some 45), none, .q (.mv (.t 6))⟩,
           ⟨(some 46), none, .q (.bin .sub (.t 44) (.t 45))⟩,
           ⟨(some 10), none, .q (.mv (.t 46))⟩])
         .skip))
       (.sch (.take 0 ⟨(some 47), none, .q (.mv (.t 0))⟩ (.take 1 ⟨(some 48), none, .q (.mv (.t 9))⟩ (.take 2 ⟨(some 49), none, .q (.mv (.t 0))⟩ (.take 3 ⟨(some 50), none, .q (.mv (.t 1))⟩ (.take 4 ⟨(some 51), none, .q (.mv (.t 10))⟩ (.take 5 ⟨(some 52), none, .q (.bin .add (.t 50) (.t 51))⟩ (.take 6 ⟨(some 53), none, .q (.mv (.t 0))⟩ (.take 7 ⟨(some 54), none, .q (.mv (.t 1))⟩ (.take 8 ⟨(some 55), none, .q (.mv (.t 10))⟩ (.take 9 ⟨(some 56), none, .q (.bin .add (.t 54) (.t 55))⟩ (.take 10 ⟨(some 57), none, .q (.ixs 1 (.t 53) (.t 56))⟩ (.take 11 ⟨(some 58), none, .q (.ld false 1 (.t 57))⟩ (.take 12 ⟨(some 59), none, .q (.mv (.t 0))⟩ (.take 13 ⟨(some 60), none, .q (.mv (.t 9))⟩ (.take 14 ⟨(some 61), none, .q (.ixs 1 (.t 59) (.t 60))⟩ (.take 15 ⟨(some 62), none, .q (.ld false 1 (.t 61))⟩ (.take 16 ⟨(some 63), none, .q (.ixs 1 (.t 47) (.t 48))⟩ (.one ⟨none, none, .m (.st false 1 (.t 63) (.t 58))⟩ [15, 11] (.take 18 ⟨(some 64), none, .q (.ixs 1 (.t 49) (.t 52))⟩ (.one ⟨none, none, .m (.st false 1 (.t 64) (.t 62))⟩ [15, 11] .done))))))))))))))))))))))))
     (.reg [⟨(some 34), none, .q (.mv (.t 9))⟩,
       ⟨(some 35), none, .q (.bin .add (.t 34) (.c (.int .i64 1)))⟩,
       ⟨(some 9), none, .q (.mv (.t 35))⟩]))))))))
   .skip)))⟩
theorem l_slices_breakPatternsOrdered_int64_ : lowF PA f_slices_breakPatternsOrdered_int64_ 3 [.k [0, 1, 6, 7, 8, 9, 65], .s (.take 0 (.take 1 (.take 2 (.take 3 (.take 4 (.take 5 (.take 6 (.take 7 (.take 8 (.take 9 (.take 10 (.take 11 (.take 12 (.take 13 (.take 14 (.take 15 (.take 16 (.one 17 (.take 18 (.one 19 .done))))))))))))))))))))] = some c_slices_breakPatternsOrdered_int64_ := by kernel_rfl
abbrev f_slices_choosePivotOrdered_int64_ : FuncId := 77
def c_slices_choosePivotOrdered_int64_ : AF := ⟨3, 57, [.t 6, .t 7],
  (.seq (.reg [⟨(some 6), none, .q (.mv (.c (.int .i64 0)))⟩,
     ⟨(some 7), none, .q (.mv (.c (.int .i64 0)))⟩])
  (.seq (.reg [⟨(some 13), none, .q (.mv (.t 2))⟩,
     ⟨(some 14), none, .q (.mv (.t 1))⟩,
     ⟨(some 15), none, .q (.bin .sub (.t 13) (.t 14))⟩,
     ⟨(some 8), none, .q (.mv (.t 15))⟩])
  (.seq (.reg [⟨(some 9), none, .m (.alloc [(.v (.int .i64 0))])⟩])
  (.seq (.reg [⟨(some 16), none, .q (.mv (.t 1))⟩,
     ⟨(some 17), none, .q (.mv (.t 8))⟩,
     ⟨(some 18), none, .q (.bin .quo (.t 17) (.c (.int .i64 4)))⟩,
     ⟨(some 19), none, .q (.bin .mul (.t 18) (.c (.int .i64 1)))⟩,
     ⟨(some 20), none, .q (.bin .add (.t 16) (.t 19))⟩,
     ⟨(some 10), none, .q (.mv (.t 20))⟩])
  (.seq (.reg [⟨(some 21), none, .q (.mv (.t 1))⟩,
     ⟨(some 22), none, .q (.mv (.t 8))⟩,
     ⟨(some 23), none, .q (.bin .quo (.t 22) (.c (.int .i64 4)))⟩,
     ⟨(some 24), none, .q (.bin .mul (.t 23) (.c (.int .i64 2)))⟩,
     ⟨(some 25), none, .q (.bin .add (.t 21) (.t 24))⟩,
     ⟨(some 11), none, .q (.mv (.t 25))⟩])
  (.seq (.reg [⟨(some 26), none, .q (.mv (.t 1))⟩,
     ⟨(some 27), none, .q (.mv (.t 8))⟩,
     ⟨(some 28), none, .q (.bin .quo (.t 27) (.c (.int .i64 4)))⟩,
     ⟨(some 29), none, .q (.bin .mul (.t 28) (.c (.int .i64 3)))⟩,
     ⟨(some 30), none, .q (.bin .add (.t 26) (.t 29))⟩,
     ⟨(some 12), none, .q (.mv (.t 30))⟩])
  (.seq (.seq (.reg [⟨(some 31), none, .q (.mv (.t 8))⟩,
      ⟨(some 32), none, .q (.bin .geq (.t 31) (.c (.int .i64 8)))⟩])
   (.cond (.t 32)
    (.seq (.seq (.reg [⟨(some 33), none, .q (.mv (.t 8))⟩,
        ⟨(some 34), none, .q (.bin .geq (.t 33) (.c (.int .i64 50)))⟩])
     (.cond (.t 34)
      (.seq (.reg [⟨(some 35), none, .q (.mv (.t 0))⟩,
         ⟨(some 36), none, .q (.mv (.t 10))⟩,
         ⟨(some 37), none, .c (.call 87 [(.t 35), (.t 36), (.t 9)])⟩,
         ⟨(some 10), none, .q (.mv (.t 37))⟩])
      (.seq (.reg [⟨(some 38), none, .q (.mv (.t 0))⟩,
         ⟨(some 39), none, .q (.mv (.t 11))⟩,
         ⟨(some 40), none, .c (.call 87 [(.t 38), (.t 39), (.t 9)])⟩,
         ⟨(some 11), none, .q (.mv (.t 40))⟩])
      (.reg [⟨(some 41), none, .q (.mv (.t 0))⟩,
        ⟨(some 42), none, .q (.mv (.t 12))⟩,
        ⟨(some 43), none, .c (.call 87 [(.t 41), (.t 42), (.t 9)])⟩,
        ⟨(some 12), none, .q (.mv (.t 43))⟩])))
      .skip))
    (.reg [⟨(some 44), none, .q (.mv (.t 0))⟩,
      ⟨(some 45), none, .q (.mv (.t 10))⟩,
      ⟨(some 46), none, .q (.mv (.t 11))⟩,
      ⟨(some 47), none, .q (.mv (.t 12))⟩,
      ⟨(some 48), none, .c (.call 88 [(.t 44), (.t 45), (.t 46), (.t 47), (.t 9)])⟩,
      ⟨(some 11), none, .q (.mv (.t 48))⟩]))
    .skip))
  (.seq (.reg [⟨(some 49), none, .q (.ld false 1 (.t 9))⟩])
  (.block 0 (.seq (.reg [⟨(some 52), none, .q (.bin .eql (.t 49) (.c (.int .i64 0)))⟩,
      ⟨(some 51), none, .q (.mv (.t 52))⟩])
   (.cond (.t 51)
    (.seq (.reg [⟨(some 53), none, .q (.mv (.t 11))⟩,
       ⟨(some 6), none, .q (.mv (.t 53))⟩,
       ⟨(some 7), none, .q (.mv (.c (.int .i64 1)))⟩])
    .ret)
    (.seq (.reg [⟨(some 55), none, .q (.bin .eql (.t 49) (.c (.int .i64 12)))⟩,
       ⟨(some 54), none, .q (.mv (.t 55))⟩])
    (.cond (.t 54)
     (.seq (.reg [⟨(some 56), none, .q (.mv (.t 11))⟩,
        ⟨(some 6), none, .q (.mv (.t 56))⟩,
        ⟨(some 7), none, .q (.mv (.c (.int .i64 2)))⟩])
     .ret)
     (.seq (.reg [⟨(some 50), none, .q (.mv (.t 11))⟩,
        ⟨(some 6), none, .q (.mv (.t 50))⟩,
        ⟨(some 7), none, .q (.mv (.c (.int .i64 0)))⟩])
     .ret))))))))))))))⟩
theorem l_slices_choosePivotOrdered_int64_ : lowF PA f_slices_choosePivotOrdered_int64_ 3 [] = some c_slices_choosePivotOrdered_int64_ := by kernel_rfl
abbrev f_slices_reverseRangeOrdered_int64_ : FuncId := 78
def c_slices_reverseRangeOrdered_int64_ : AF := ⟨3, 32, [],
  (.seq (.reg [⟨(some 8), none, .q (.mv (.t 1))⟩,
     ⟨(some 6), none, .q (.mv (.t 8))⟩])
  (.seq (.reg [⟨(some 9), none, .q (.mv (.t 2))⟩,
     ⟨(some 10), none, .q (.bin .sub (.t 9) (.c (.int .i64 1)))⟩,
     ⟨(some 7), none, .q (.mv (.t 10))⟩])
  (.block 0 (.loop [0, 6, 7, 32] (.seq (.seq (.reg [⟨(some 11), none, .q (.mv (.t 6))⟩,
        ⟨(some 12), none, .q (.mv (.t 7))⟩,
        ⟨(some 13), none, .q (.bin .lss (.t 11) (.t 12))⟩])
     (.cond (.t 13)
      .skip
      (.exit 0)))
    (.block 1 (.seq (.sch (.take 0 ⟨(some 14), none, .q (.mv (.t 0))⟩ (.take 1 ⟨(some 15), none, .q (.mv (.t 6))⟩ (.take 2 ⟨(some 16), none, .q (.mv (.t 0))⟩ (.take 3 ⟨(some 17), none, .q (.mv (.t 7))⟩ (.take 4 ⟨(some 18), none, .q (.mv (.t 0))⟩ (.take 5 ⟨(some 19), none, .q (.mv (.t 7))⟩ (.take 6 ⟨(some 20), none, .q (.ixs 1 (.t 18) (.t 19))⟩ (.take 7 ⟨(some 21), none, .q (.ld false 1 (.t 20))⟩ (.take 8 ⟨(some 22), none, .q (.mv (.t 0))⟩ (.take 9 ⟨(some 23), none, .q (.mv (.t 6))⟩ (.take 10 ⟨(some 24), none, .q (.ixs 1 (.t 22) (.t 23))⟩ (.take 11 ⟨(some 25), none, .q (.ld false 1 (.t 24))⟩ (.take 12 ⟨(some 26), none, .q (.ixs 1 (.t 14) (.t 15))⟩ (.one ⟨none, none, .m (.st false 1 (.t 26) (.t 21))⟩ [11, 7] (.take 14 ⟨(some 27), none, .q (.ixs 1 (.t 16) (.t 17))⟩ (.one ⟨none, none, .m (.st false 1 (.t 27) (.t 25))⟩ [11, 7] .done)))))))))))))))))
     (.seq (.reg [⟨(some 28), none, .q (.mv (.t 6))⟩,
        ⟨(some 29), none, .q (.bin .add (.t 28) (.c (.int .i64 1)))⟩,
        ⟨(some 6), none, .q (.mv (.t 29))⟩])
     (.reg [⟨(some 30), none, .q (.mv (.t 7))⟩,
       ⟨(some 31), none, .q (.bin .sub (.t 30) (.c (.int .i64 1)))⟩,
       ⟨(some 7), none, .q (.mv (.t 31))⟩])))))))))⟩
theorem l_slices_reverseRangeOrdered_int64_ : lowF PA f_slices_reverseRangeOrdered_int64_ 3 [.k [0, 6, 7, 32], .s (.take 0 (.take 1 (.take 2 (.take 3 (.take 4 (.take 5 (.take 6 (.take 7 (.take 8 (.take 9 (.take 10 (.take 11 (.take 12 (.one 13 (.take 14 (.one 15 .done))))))))))))))))] = some c_slices_reverseRangeOrdered_int64_ := by kernel_rfl
abbrev f_slices_partialInsertionSortOrdered_int64_ : FuncId := 79
def c_slices_partialInsertionSortOrdered_int64_ : AF := ⟨3, 133, [.t 6],
  (.seq (.reg [⟨(some 6), none, .q (.mv (.c (.bool false)))⟩])
  (.seq (.reg [⟨(some 11), none, .q (.mv (.t 1))⟩,
     ⟨(some 12), none, .q (.bin .add (.t 11) (.c (.int .i64 1)))⟩,
     ⟨(some 7), none, .q (.mv (.t 12))⟩])
  (.seq (.seq (.reg [⟨(some 8), none, .q (.mv (.c (.int .i64 0)))⟩])
   (.block 0 (.loop [0, 1, 2, 7, 8, 133] (.seq (.seq (.reg [⟨(some 13), none, .q (.mv (.t 8))⟩,
         ⟨(some 14), none, .q (.bin .lss (.t 13) (.c (.int .i64 5)))⟩])
      (.cond (.t 14)
       .skip
       (.exit 0)))
     (.seq (.block 1 (.seq (.block 2 (.loop [0, 1, 2, 7, 8, 133] (.seq (.seq (.sch (.take 0 ⟨(some 17), none, .q (.mv (.t 7))⟩ (.take 1 ⟨(some 18), none, .q (.mv (.t 2))⟩ (.take 2 ⟨(some 19), none, .q (.bin .lss (.t 17) (.t 18))⟩ (.take 3 ⟨(some 20), none, .q (.mv (.t 19))⟩ (.take 4 ⟨(some 21), (some (20, true)), .q (.mv (.t 0))⟩ (.take 5 ⟨(some 22), (some (20, true)), .q (.mv (.t 7))⟩ (.take 6 ⟨(some 23), (some (20, true)), .q (.ixs 1 (.t 21) (.t 22))⟩ (.take 7 ⟨(some 24), (some (20, true)), .q (.ld false 1 (.t 23))⟩ (.take 8 ⟨(some 25), (some (20, true)), .q (.mv (.t 0))⟩ (.take 9 ⟨(some 26), (some (20, true)), .q (.mv (.t 7))⟩ (.take 10 ⟨(some 27), (some (20, true)), .q (.bin .sub (.t 26) (.c (.int .i64 1)))⟩ (.take 11 ⟨(some 28), (some (20, true)), .q (.ixs 1 (.t 25) (.t 27))⟩ (.take 12 ⟨(some 29), (some (20, true)), .q (.ld false 1 (.t 28))⟩ (.one ⟨(some 30), (some (20, true)), .c (.call 61 [(.t 24), (.t 29)])⟩ [12, 7] (.take 14 ⟨(some 31), (some (20, true)), .q (.un .not (.t 30))⟩ (.take 15 ⟨(some 32), none, .q (.pick (.t 20) (.t 31) (.c (.bool false)))⟩ .done)))))))))))))))))
           (.cond (.t 32)
            .skip
            (.exit 2)))
          (.block 3 (.reg [⟨(some 33), none, .q (.mv (.t 7))⟩,
             ⟨(some 34), none, .q (.bin .add (.t 33) (.c (.int .i64 1)))⟩,
             ⟨(some 7), none, .q (.mv (.t 34))⟩])))))
       (.seq (.seq (.reg [⟨(some 35), none, .q (.mv (.t 7))⟩,
           ⟨(some 36), none, .q (.mv (.t 2))⟩,
           ⟨(some 37), none, .q (.bin .eql (.t 35) (.t 36))⟩])
        (.cond (.t 37)
         (.seq (.reg [⟨(some 6), none, .q (.mv (.c (.bool true)))⟩])
         .ret)
         .skip))
       (.seq (.seq (.reg [⟨(some 38), none, .q (.mv (.t 2))⟩,
           ⟨(some 39), none, .q (.mv (.t 1))⟩,
           ⟨(some 40), none, .q (.bin .sub (.t 38) (.t 39))⟩,
           ⟨(some 41), none, .q (.bin .lss (.t 40) (.c (.int .i64 50)))⟩])
        (.cond (.t 41)
         (.seq (.reg [⟨(some 6), none, .q (.mv (.c (.bool false)))⟩])
         .ret)
         .skip))
       (.seq (.sch (.take 0 ⟨(some 42), none, .q (.mv (.t 0))⟩ (.take 1 ⟨(some 43), none, .q (.mv (.t 7))⟩ (.take 2 ⟨(some 44), none, .q (.mv (.t 0))⟩ (.take 3 ⟨(some 45), none, .q (.mv (.t 7))⟩ (.take 4 ⟨(some 46), none, .q (.bin .sub (.t 45) (.c (.int .i64 1)))⟩ (.take 5 ⟨(some 47), none, .q (.mv (.t 0))⟩ (.take 6 ⟨(some 48), none, .q (.mv (.t 7))⟩ (.take 7 ⟨(some 49), none, .q (.bin .sub (.t 48) (.c (.int .i64 1)))⟩ (.take 8 ⟨(some 50), none, .q (.ixs 1 (.t 47) (.t 49))⟩ (.take 9 ⟨(some 51), none, .q (.ld false 1 (.t 50))⟩ (.take 10 ⟨(some 52), none, .q (.mv (.t 0))⟩ (.take 11 ⟨(some 53), none, .q (.mv (.t 7))⟩ (.take 12 ⟨(some 54), none, .q (.ixs 1 (.t 52) (.t 53))⟩ (.take 13 ⟨(some 55), none, .q (.ld false 1 (.t 54))⟩ (.take 14 ⟨(some 56), none, .q (.ixs 1 (.t 42) (.t 43))⟩ (.one ⟨none, none, .m (.st false 1 (.t 56) (.t 51))⟩ [13, 9] (.take 16 ⟨(some 57), none, .q (.ixs 1 (.t 44) (.t 46))⟩ (.one ⟨none, none, .m (.st false 1 (.t 57) (.t 55))⟩ [13, 9] .done)))))))))))))))))))
       (.seq (.seq (.reg [⟨(some 58), none, .q (.mv (.t 7))⟩,
           ⟨(some 59), none, .q (.mv (.t 1))⟩,
           ⟨(some 60), none, .q (.bin .sub (.t 58) (.t 59))⟩,
           ⟨(some 61), none, .q (.bin .geq (.t 60) (.c (.int .i64 2)))⟩])
        (.cond (.t 61)
         (.seq (.reg [⟨(some 62), none, .q (.mv (.t 7))⟩,
            ⟨(some 63), none, .q (.bin .sub (.t 62) (.c (.int .i64 1)))⟩,
            ⟨(some 9), none, .q (.mv (.t 63))⟩])
         (.block 4 (.loop [0, 1, 2, 7, 8, 9, 133] (.seq (.seq (.reg [⟨(some 64), none, .q (.mv (.t 9))⟩,
               ⟨(some 65), none, .q (.bin .geq (.t 64) (.c (.int .i64 1)))⟩])
            (.cond (.t 65)
             .skip
             (.exit 4)))
           (.seq (.block 5 (.seq (.seq (.sch (.take 0 ⟨(some 68), none, .q (.mv (.t 0))⟩ (.take 1 ⟨(some 69), none, .q (.mv (.t 9))⟩ (.take 2 ⟨(some 70), none, .q (.ixs 1 (.t 68) (.t 69))⟩ (.take 3 ⟨(some 71), none, .q (.ld false 1 (.t 70))⟩ (.take 4 ⟨(some 72), none, .q (.mv (.t 0))⟩ (.take 5 ⟨(some 73), none, .q (.mv (.t 9))⟩ (.take 6 ⟨(some 74), none, .q (.bin .sub (.t 73) (.c (.int .i64 1)))⟩ (.take 7 ⟨(some 75), none, .q (.ixs 1 (.t 72) (.t 74))⟩ (.take 8 ⟨(some 76), none, .q (.ld false 1 (.t 75))⟩ (.one ⟨(some 77), none, .c (.call 61 [(.t 71), (.t 76)])⟩ [8, 3] (.take 10 ⟨(some 78), none, .q (.un .not (.t 77))⟩ .done))))))))))))
              (.cond (.t 78)
               (.exit 4)
               .skip))
             (.sch (.take 0 ⟨(some 79), none, .q (.mv (.t 0))⟩ (.take 1 ⟨(some 80), none, .q (.mv (.t 9))⟩ (.take 2 ⟨(some 81), none, .q (.mv (.t 0))⟩ (.take 3 ⟨(some 82), none, .q (.mv (.t 9))⟩ (.take 4 ⟨(some 83), none, .q (.bin .sub (.t 82) (.c (.int .i64 1)))⟩ (.take 5 ⟨(some 84), none, .q (.mv (.t 0))⟩ (.take 6 ⟨(some 85), none, .q (.mv (.t 9))⟩ (.take 7 ⟨(some 86), none, .q (.bin .sub (.t 85) (.c (.int .i64 1)))⟩ (.take 8 ⟨(some 87), none, .q (.ixs 1 (.t 84) (.t 86))⟩ (.take 9 ⟨(some 88), none, .q (.ld false 1 (.t 87))⟩ (.take 10 ⟨(some 89), none, .q (.mv (.t 0))⟩ (.take 11 ⟨(some 90), none, .q (.mv (.t 9))⟩ (.take 12 ⟨(some 91), none, .q (.ixs 1 (.t 89) (.t 90))⟩ (.take 13 ⟨(some 92), none, .q (.ld false 1 (.t 91))⟩ (.take 14 ⟨(some 93), none, .q (.ixs 1 (.t 79) (.t 80))⟩ (.one ⟨none, none, .m (.st false 1 (.t 93) (.t 88))⟩ [13, 9] (.take 16 ⟨(some 94), none, .q (.ixs 1 (.t 81) (.t 83))⟩ (.one ⟨none, none, .m (.st false 1 (.t 94) (.t 92))⟩ [13, 9] .done)))))))))))))))))))))
           (.reg [⟨(some 66), none, .q (.mv (.t 9))⟩,
             ⟨(some 67), none, .q (.bin .sub (.t 66) (.c (.int .i64 1)))⟩,
             ⟨(some 9), none, .q (.mv (.t 67))⟩]))))))
         .skip))
       (.seq (.reg [⟨(some 95), none, .q (.mv (.t 2))⟩,
          ⟨(some 96), none, .q (.mv (.t 7))⟩,
          ⟨(some 97), none, .q (.bin .sub (.t 95) (.t 96))⟩,
          ⟨(some 98), none, .q (.bin .geq (.t 97) (.c (.int .i64 2)))⟩])
       (.cond (.t 98)
        (.seq (.reg [⟨(some 99), none, .q (.mv (.t 7))⟩,
           ⟨(some 100), none, .q (.bin .add (.t 99) (.c (.int .i64 1)))⟩,
           ⟨(some 10), none, .q (.mv (.t 100))⟩])
        (.block 6 (.loop [0, 1, 2, 7, 8, 10, 133] (.seq (.seq (.reg [⟨(some 101), none, .q (.mv (.t 10))⟩,
              ⟨(some 102), none, .q (.mv (.t 2))⟩,
              ⟨(some 103), none, .q (.bin .lss (.t 101) (.t 102))⟩])
           (.cond (.t 103)
            .skip
            (.exit 6)))
          (.seq (.block 7 (.seq (.seq (.sch (.take 0 ⟨(some 106), none, .q (.mv (.t 0))⟩ (.take 1 ⟨(some 107), none, .q (.mv (.t 10))⟩ (.take 2 ⟨(some 108), none, .q (.ixs 1 (.t 106) (.t 107))⟩ (.take 3 ⟨(some 109), none, .q (.ld false 1 (.t 108))⟩ (.take 4 ⟨(some 110), none, .q (.mv (.t 0))⟩ (.take 5 ⟨(some 111), none, .q (.mv (.t 10))⟩ (.take 6 ⟨(some 112), none, .q (.bin .sub (.t 111) (.c (.int .i64 1)))⟩ (.take 7 ⟨(some 113), none, .q (.ixs 1 (.t 110) (.t 112))⟩ (.take 8 ⟨(some 114), none, .q (.ld false 1 (.t 113))⟩ (.one ⟨(some 115), none, .c (.call 61 [(.t 109), (.t 114)])⟩ [8, 3] (.take 10 ⟨(some 116), none, .q (.un .not (.t 115))⟩ .done))))))))))))
             (.cond (.t 116)
              (.exit 6)
              .skip))
            (.sch (.take 0 ⟨(some 117), none, .q (.mv (.t 0))⟩ (.take 1 ⟨(some 118), none, .q (.mv (.t 10))⟩ (.take 2 ⟨(some 119), none, .q (.mv (.t 0))⟩ (.take 3 ⟨(some 120), none, .q (.mv (.t 10))⟩ (.take 4 ⟨(some 121), none, .q (.bin .sub (.t 120) (.c (.int .i64 1)))⟩ (.take 5 ⟨(some 122), none, .q (.mv (.t 0))⟩ (.take 6 ⟨(some 123), none, .q (.mv (.t 10))⟩ (.take 7 ⟨(some 124), none, .q (.bin .sub (.t 123) (.c (.int .i64 1)))⟩ (.take 8 ⟨(some 125), none, .q (.ixs 1 (.t 122) (.t 124))⟩ (.take 9 ⟨(some 126), none, .q (.ld false 1 (.t 125))⟩ (.take 10 ⟨(some 127), none, .q (.mv (.t 0))⟩ (.take 11 ⟨(some 128), none, .q (.mv (.t 10))⟩ (.take 12 ⟨(some 129), none, .q (.ixs 1 (.t 127) (.t 128))⟩ (.take 13 ⟨(some 130), none, .q (.ld false 1 (.t 129))⟩ (.take 14 ⟨(some 131), none, .q (.ixs 1 (.t 117) (.t 118))⟩ (.one ⟨none, none, .m (.st false 1 (.t 131) (.t 126))⟩ [13, 9] (.take 16 ⟨(some 132), none, .q (.ixs 1 (.t 119) (.t 121))⟩ (.one ⟨none, none, .m (.st false 1 (.t 132) (.t 130))⟩ [13, 9] .done)))))))))))))))))))))
          (.reg [⟨(some 104), none, .q (.mv (.t 10))⟩,
            ⟨(some 105), none, .q (.bin .add (.t 104) (.c (.int .i64 1)))⟩,
            ⟨(some 10), none, .q (.mv (.t 105))⟩]))))))
        .skip))))))))
     (.reg [⟨(some 15), none, .q (.mv (.t 8))⟩,
       ⟨(some 16), none, .q (.bin .add (.t 15) (.c (.int .i64 1)))⟩,
       ⟨(some 8), none, .q (.mv (.t 16))⟩]))))))
  (.seq (.reg [⟨(some 6), none, .q (.mv (.c (.bool false)))⟩])
  .ret))))⟩
theorem l_slices_partialInsertionSortOrdered_int64_ : lowF PA f_slices_partialInsertionSortOrdered_int64_ 3 [.k [0, 1, 2, 7, 8, 133], .k [0, 1, 2, 7, 8, 133], .s (.take 0 (.take 1 (.take 2 (.take 3 (.take 4 (.take 5 (.take 6 (.take 7 (.take 8 (.take 9 (.take 10 (.take 11 (.take 12 (.one 13 (.take 14 (.take 15 .done)))))))))))))))), .s (.take 0 (.take 1 (.take 2 (.take 3 (.take 4 (.take 5 (.take 6 (.take 7 (.take 8 (.take 9 (.take 10 (.take 11 (.take 12 (.take 13 (.take 14 (.one 15 (.take 16 (.one 17 .done)))))))))))))))))), .k [0, 1, 2, 7, 8, 9, 133], .s (.take 0 (.take 1 (.take 2 (.take 3 (.take 4 (.take 5 (.take 6 (.take 7 (.take 8 (.one 9 (.take 10 .done))))))))))), .s (.take 0 (.take 1 (.take 2 (.take 3 (.take 4 (.take 5 (.take 6 (.take 7 (.take 8 (.take 9 (.take 10 (.take 11 (.take 12 (.take 13 (.take 14 (.one 15 (.take 16 (.one 17 .done)))))))))))))))))), .k [0, 1, 2, 7, 8, 10, 133], .s (.take 0 (.take 1 (.take 2 (.take 3 (.take 4 (.take 5 (.take 6 (.take 7 (.take 8 (.one 9 (.take 10 .done))))))))))), .s (.take 0 (.take 1 (.take 2 (.take 3 (.take 4 (.take 5 (.take 6 (.take 7 (.take 8 (.take 9 (.take 10 (.take 11 (.take 12 (.take 13 (.take 14 (.one 15 (.take 16 (.one 17 .done))))))))))))))))))] = some c_slices_partialInsertionSortOrdered_int64_ := by kernel_rfl
abbrev f_slices_partitionEqualOrdered_int64_ : FuncId := 80
def c_slices_partitionEqualOrdered_int64_ : AF := ⟨4, 84, [.t 8],
  (.seq (.reg [⟨(some 8), none, .q (.mv (.c (.int .i64 0)))⟩])
  (.seq (.sch (.take 0 ⟨(some 11), none, .q (.mv (.t 0))⟩ (.take 1 ⟨(some 12), none, .q (.mv (.t 1))⟩ (.take 2 ⟨(some 13), none, .q (.mv (.t 0))⟩ (.take 3 ⟨(some 14), none, .q (.mv (.t 3))⟩ (.take 4 ⟨(some 15), none, .q (.mv (.t 0))⟩ (.take 5 ⟨(some 16), none, .q (.mv (.t 3))⟩ (.take 6 ⟨(some 17), none, .q (.ixs 1 (.t 15) (.t 16))⟩ (.take 7 ⟨(some 18), none, .q (.ld false 1 (.t 17))⟩ (.take 8 ⟨(some 19), none, .q (.mv (.t 0))⟩ (.take 9 ⟨(some 20), none, .q (.mv (.t 1))⟩ (.take 10 ⟨(some 21), none, .q (.ixs 1 (.t 19) (.t 20))⟩ (.take 11 ⟨(some 22), none, .q (.ld false 1 (.t 21))⟩ (.take 12 ⟨(some 23), none, .q (.ixs 1 (.t 11) (.t 12))⟩ (.one ⟨none, none, .m (.st false 1 (.t 23) (.t 18))⟩ [11, 7] (.take 14 ⟨(some 24), none, .q (.ixs 1 (.t 13) (.t 14))⟩ (.one ⟨none, none, .m (.st false 1 (.t 24) (.t 22))⟩ [11, 7] .done)))))))))))))))))
  (.seq (.reg [⟨(some 25), none, .q (.mv (.t 1))⟩,
     ⟨(some 26), none, .q (.bin .add (.t 25) (.c (.int .i64 1)))⟩,
     ⟨(some 27), none, .q (.mv (.t 2))⟩,
     ⟨(some 28), none, .q (.bin .sub (.t 27) (.c (.int .i64 1)))⟩,
     ⟨(some 9), none, .q (.mv (.t 26))⟩,
     ⟨(some 10), none, .q (.mv (.t 28))⟩])
  (.seq (.seq (.block 0 (.loop [0, 1, 9, 10, 84] (.block 1 (.seq (.seq (.block 2 (.loop [0, 1, 9, 10, 84] (.seq (.seq (.sch (.take 0 ⟨(some 29), none, .q (.mv (.t 9))⟩ (.take 1 ⟨(some 30), none, .q (.mv (.t 10))⟩ (.take 2 ⟨(some 31), none, .q (.bin .leq (.t 29) (.t 30))⟩ (.take 3 ⟨(some 32), none, .q (.mv (.t 31))⟩ (.take 4 ⟨(some 33), (some (32, true)), .q (.mv (.t 0))⟩ (.take 5 ⟨(some 34), (some (32, true)), .q (.mv (.t 1))⟩ (.take 6 ⟨(some 35), (some (32, true)), .q (.ixs 1 (.t 33) (.t 34))⟩ (.take 7 ⟨(some 36), (some (32, true)), .q (.ld false 1 (.t 35))⟩ (.take 8 ⟨(some 37), (some (32, true)), .q (.mv (.t 0))⟩ (.take 9 ⟨(some 38), (some (32, true)), .q (.mv (.t 9))⟩ (.take 10 ⟨(some 39), (some (32, true)), .q (.ixs 1 (.t 37) (.t 38))⟩ (.take 11 ⟨(some 40), (some (32, true)), .q (.ld false 1 (.t 39))⟩ (.one ⟨(some 41), (some (32, true)), .c (.call 61 [(.t 36), (.t 40)])⟩ [11, 7] (.take 13 ⟨(some 42), (some (32, true)), .q (.un .not (.t 41))⟩ (.take 14 ⟨(some 43), none, .q (.pick (.t 32) (.t 42) (.c (.bool false)))⟩ .done))))))))))))))))
            (.cond (.t 43)
             .skip
             (.exit 2)))
           (.block 3 (.reg [⟨(some 44), none, .q (.mv (.t 9))⟩,
              ⟨(some 45), none, .q (.bin .add (.t 44) (.c (.int .i64 1)))⟩,
              ⟨(some 9), none, .q (.mv (.t 45))⟩])))))
        (.cut [0, 1, 9, 10, 84]))
       (.seq (.seq (.block 4 (.loop [0, 1, 9, 10, 84] (.seq (.seq (.sch (.take 0 ⟨(some 46), none, .q (.mv (.t 9))⟩ (.take 1 ⟨(some 47), none, .q (.mv (.t 10))⟩ (.take 2 ⟨(some 48), none, .q (.bin .leq (.t 46) (.t 47))⟩ (.take 3 ⟨(some 49), none, .q (.mv (.t 48))⟩ (.take 4 ⟨(some 50), (some (49, true)), .q (.mv (.t 0))⟩ (.take 5 ⟨(some 51), (some (49, true)), .q (.mv (.t 1))⟩ (.take 6 ⟨(some 52), (some (49, true)), .q (.ixs 1 (.t 50) (.t 51))⟩ (.take 7 ⟨(some 53), (some (49, true)), .q (.ld false 1 (.t 52))⟩ (.take 8 ⟨(some 54), (some (49, true)), .q (.mv (.t 0))⟩ (.take 9 ⟨(some 55), (some (49, true)), .q (.mv (.t 10))⟩ (.take 10 ⟨(some 56), (some (49, true)), .q (.ixs 1 (.t 54) (.t 55))⟩ (.take 11 ⟨(some 57), (some (49, true)), .q (.ld false 1 (.t 56))⟩ (.one ⟨(some 58), (some (49, true)), .c (.call 61 [(.t 53), (.t 57)])⟩ [11, 7] (.take 13 ⟨(some 59), none, .q (.pick (.t 49) (.t 58) (.c (.bool false)))⟩ .done)))))))))))))))
            (.cond (.t 59)
             .skip
             (.exit 4)))
           (.block 5 (.reg [⟨(some 60), none, .q (.mv (.t 10))⟩,
              ⟨(some 61), none, .q (.bin .sub (.t 60) (.c (.int .i64 1)))⟩,
              ⟨(some 10), none, .q (.mv (.t 61))⟩])))))
        (.cut [0, 1, 9, 10, 84]))
       (.seq (.seq (.reg [⟨(some 62), none, .q (.mv (.t 9))⟩,
           ⟨(some 63), none, .q (.mv (.t 10))⟩,
           ⟨(some 64), none, .q (.bin .gtr (.t 62) (.t 63))⟩])
        (.cond (.t 64)
         (.exit 0)
         .skip))
       (.seq (.sch (.take 0 ⟨(some 65), none, .q (.mv (.t 0))⟩ (.take 1 ⟨(some 66), none, .q (.mv (.t 9))⟩ (.take 2 ⟨(some 67), none, .q (.mv (.t 0))⟩ (.take 3 ⟨(some 68), none, .q (.mv (.t 10))⟩ (.take 4 ⟨(some 69), none, .q (.mv (.t 0))⟩ (.take 5 ⟨(some 70), none, .q (.mv (.t 10))⟩ (.take 6 ⟨(some 71), none, .q (.ixs 1 (.t 69) (.t 70))⟩ (.take 7 ⟨(some 72), none, .q (.ld false 1 (.t 71))⟩ (.take 8 ⟨(some 73), none, .q (.mv (.t 0))⟩ (.take 9 ⟨(some 74), none, .q (.mv (.t 9))⟩ (.take 10 ⟨(some 75), none, .q (.ixs 1 (.t 73) (.t 74))⟩ (.take 11 ⟨(some 76), none, .q (.ld false 1 (.t 75))⟩ (.take 12 ⟨(some 77), none, .q (.ixs 1 (.t 65) (.t 66))⟩ (.one ⟨none, none, .m (.st false 1 (.t 77) (.t 72))⟩ [11, 7] (.take 14 ⟨(some 78), none, .q (.ixs 1 (.t 67) (.t 68))⟩ (.one ⟨none, none, .m (.st false 1 (.t 78) (.t 76))⟩ [11, 7] .done)))))))))))))))))
       (.seq (.reg [⟨(some 79), none, .q (.mv (.t 9))⟩,
          ⟨(some 80), none, .q (.bin .add (.t 79) (.c (.int .i64 1)))⟩,
          ⟨(some 9), none, .q (.mv (.t 80))⟩])
       (.reg [⟨(some 81), none, .q (.mv (.t 10))⟩,
         ⟨(some 82), none, .q (.bin .sub (.t 81) (.c (.int .i64 1)))⟩,
         ⟨(some 10), none, .q (.mv (.t 82))⟩])))))))))
   (.cut [9, 84]))
  (.seq (.reg [⟨(some 83), none, .q (.mv (.t 9))⟩,
     ⟨(some 8), none, .q (.mv (.t 83))⟩])
  .ret)))))⟩
theorem l_slices_partitionEqualOrdered_int64_ : lowF PA f_slices_partitionEqualOrdered_int64_ 4 [.s (.take 0 (.take 1 (.take 2 (.take 3 (.take 4 (.take 5 (.take 6 (.take 7 (.take 8 (.take 9 (.take 10 (.take 11 (.take 12 (.one 13 (.take 14 (.one 15 .done)))))))))))))))), .k [0, 1, 9, 10, 84], .k [0, 1, 9, 10, 84], .s (.take 0 (.take 1 (.take 2 (.take 3 (.take 4 (.take 5 (.take 6 (.take 7 (.take 8 (.take 9 (.take 10 (.take 11 (.one 12 (.take 13 (.take 14 .done))))))))))))))), .c 2 [0, 1, 9, 10, 84], .k [0, 1, 9, 10, 84], .s (.take 0 (.take 1 (.take 2 (.take 3 (.take 4 (.take 5 (.take 6 (.take 7 (.take 8 (.take 9 (.take 10 (.take 11 (.one 12 (.take 13 .done)))))))))))))), .c 4 [0, 1, 9, 10, 84], .s (.take 0 (.take 1 (.take 2 (.take 3 (.take 4 (.take 5 (.take 6 (.take 7 (.take 8 (.take 9 (.take 10 (.take 11 (.take 12 (.one 13 (.take 14 (.one 15 .done)))))))))))))))), .c 0 [9, 84]] = some c_slices_partitionEqualOrdered_int64_ := by kernel_rfl
abbrev f_slices_partitionOrdered_int64_ : FuncId := 81
def c_slices_partitionOrdered_int64_ : AF := ⟨4, 168, [.t 8, .t 9],
  (.seq (.reg [⟨(some 8), none, .q (.mv (.c (.int .i64 0)))⟩,
     ⟨(some 9), none, .q (.mv (.c (.bool false)))⟩])
  (.seq (.sch (.take 0 ⟨(some 12), none, .q (.mv (.t 0))⟩ (.take 1 ⟨(some 13), none, .q (.mv (.t 1))⟩ (.take 2 ⟨(some 14), none, .q (.mv (.t 0))⟩ (.take 3 ⟨(some 15), none, .q (.mv (.t 3))⟩ (.take 4 ⟨(some 16), none, .q (.mv (.t 0))⟩ (.take 5 ⟨(some 17), none, .q (.mv (.t 3))⟩ (.take 6 ⟨(some 18), none, .q (.ixs 1 (.t 16) (.t 17))⟩ (.take 7 ⟨(some 19), none, .q (.ld false 1 (.t 18))⟩ (.take 8 ⟨(some 20), none, .q (.mv (.t 0))⟩ (.take 9 ⟨(some 21), none, .q (.mv (.t 1))⟩ (.take 10 ⟨(some 22), none, .q (.ixs 1 (.t 20) (.t 21))⟩ (.take 11 ⟨(some 23), none, .q (.ld false 1 (.t 22))⟩ (.take 12 ⟨(some 24), none, .q (.ixs 1 (.t 12) (.t 13))⟩ (.one ⟨none, none, .m (.st false 1 (.t 24) (.t 19))⟩ [11, 7] (.take 14 ⟨(some 25), none, .q (.ixs 1 (.t 14) (.t 15))⟩ (.one ⟨none, none, .m (.st false 1 (.t 25) (.t 23))⟩ [11, 7] .done)))))))))))))))))
  (.seq (.reg [⟨(some 26), none, .q (.mv (.t 1))⟩,
     ⟨(some 27), none, .q (.bin .add (.t 26) (.c (.int .i64 1)))⟩,
     ⟨(some 28), none, .q (.mv (.t 2))⟩,
     ⟨(some 29), none, .q (.bin .sub (.t 28) (.c (.int .i64 1)))⟩,
     ⟨(some 10), none, .q (.mv (.t 27))⟩,
     ⟨(some 11), none, .q (.mv (.t 29))⟩])
  (.seq (.seq (.block 0 (.loop [0, 1, 10, 11, 168] (.seq (.seq (.sch (.take 0 ⟨(some 30), none, .q (.mv (.t 10))⟩ (.take 1 ⟨(some 31), none, .q (.mv (.t 11))⟩ (.take 2 ⟨(some 32), none, .q (.bin .leq (.t 30) (.t 31))⟩ (.take 3 ⟨(some 33), none, .q (.mv (.t 32))⟩ (.take 4 ⟨(some 34), (some (33, true)), .q (.mv (.t 0))⟩ (.take 5 ⟨(some 35), (some (33, true)), .q (.mv (.t 10))⟩ (.take 6 ⟨(some 36), (some (33, true)), .q (.ixs 1 (.t 34) (.t 35))⟩ (.take 7 ⟨(some 37), (some (33, true)), .q (.ld false 1 (.t 36))⟩ (.take 8 ⟨(some 38), (some (33, true)), .q (.mv (.t 0))⟩ (.take 9 ⟨(some 39), (some (33, true)), .q (.mv (.t 1))⟩ (.take 10 ⟨(some 40), (some (33, true)), .q (.ixs 1 (.t 38) (.t 39))⟩ (.take 11 ⟨(some 41), (some (33, true)), .q (.ld false 1 (.t 40))⟩ (.one ⟨(some 42), (some (33, true)), .c (.call 61 [(.t 37), (.t 41)])⟩ [11, 7] (.take 13 ⟨(some 43), none, .q (.pick (.t 33) (.t 42) (.c (.bool false)))⟩ .done)))))))))))))))
       (.cond (.t 43)
        .skip
        (.exit 0)))
      (.block 1 (.reg [⟨(some 44), none, .q (.mv (.t 10))⟩,
         ⟨(some 45), none, .q (.bin .add (.t 44) (.c (.int .i64 1)))⟩,
         ⟨(some 10), none, .q (.mv (.t 45))⟩])))))
   (.cut [0, 1, 10, 11, 168]))
  (.seq (.seq (.block 2 (.loop [0, 1, 10, 11, 168] (.seq (.seq (.sch (.take 0 ⟨(some 46), none, .q (.mv (.t 10))⟩ (.take 1 ⟨(some 47), none, .q (.mv (.t 11))⟩ (.take 2 ⟨(some 48), none, .q (.bin .leq (.t 46) (.t 47))⟩ (.take 3 ⟨(some 49), none, .q (.mv (.t 48))⟩ (.take 4 ⟨(some 50), (some (49, true)), .q (.mv (.t 0))⟩ (.take 5 ⟨(some 51), (some (49, true)), .q (.mv (.t 11))⟩ (.take 6 ⟨(some 52), (some (49, true)), .q (.ixs 1 (.t 50) (.t 51))⟩ (.take 7 ⟨(some 53), (some (49, true)), .q (.ld false 1 (.t 52))⟩ (.take 8 ⟨(some 54), (some (49, true)), .q (.mv (.t 0))⟩ (.take 9 ⟨(some 55), (some (49, true)), .q (.mv (.t 1))⟩ (.take 10 ⟨(some 56), (some (49, true)), .q (.ixs 1 (.t 54) (.t 55))⟩ (.take 11 ⟨(some 57), (some (49, true)), .q (.ld false 1 (.t 56))⟩ (.one ⟨(some 58), (some (49, true)), .c (.call 61 [(.t 53), (.t 57)])⟩ [11, 7] (.take 13 ⟨(some 59), (some (49, true)), .q (.un .not (.t 58))⟩ (.take 14 ⟨(some 60), none, .q (.pick (.t 49) (.t 59) (.c (.bool false)))⟩ .done))))))))))))))))
       (.cond (.t 60)
        .skip
        (.exit 2)))
      (.block 3 (.reg [⟨(some 61), none, .q (.mv (.t 11))⟩,
         ⟨(some 62), none, .q (.bin .sub (.t 61) (.c (.int .i64 1)))⟩,
         ⟨(some 11), none, .q (.mv (.t 62))⟩])))))
   (.cut [0, 1, 10, 11, 168]))
  (.seq (.seq (.reg [⟨(some 63), none, .q (.mv (.t 10))⟩,
      ⟨(some 64), none, .q (.mv (.t 11))⟩,
      ⟨(some 65), none, .q (.bin .gtr (.t 63) (.t 64))⟩])
   (.cond (.t 65)
    (.seq (.sch (.take 0 ⟨(some 66), none, .q (.mv (.t 0))⟩ (.take 1 ⟨(some 67), none, .q (.mv (.t 11))⟩ (.take 2 ⟨(some 68), none, .q (.mv (.t 0))⟩ (.take 3 ⟨(some 69), none, .q (.mv (.t 1))⟩ (.take 4 ⟨(some 70), none, .q (.mv (.t 0))⟩ (.take 5 ⟨(some 71), none, .q (.mv (.t 1))⟩ (.take 6 ⟨(some 72), none, .q (.ixs 1 (.t 70) (.t 71))⟩ (.take 7 ⟨(some 73), none, .q (.ld false 1 (.t 72))⟩ (.take 8 ⟨(some 74), none, .q (.mv (.t 0))⟩ (.take 9 ⟨(some 75), none, .q (.mv (.t 11))⟩ (.take 10 ⟨(some 76), none, .q (.ixs 1 (.t 74) (.t 75))⟩ (.take 11 ⟨(some 77), none, .q (.ld false 1 (.t 76))⟩ (.take 12 ⟨(some 78), none, .q (.ixs 1 (.t 66) (.t 67))⟩ (.one ⟨none, none, .m (.st false 1 (.t 78) (.t 73))⟩ [11, 7] (.take 14 ⟨(some 79), none, .q (.ixs 1 (.t 68) (.t 69))⟩ (.one ⟨none, none, .m (.st false 1 (.t 79) (.t 77))⟩ [11, 7] .done)))))))))))))))))
    (.seq (.reg [⟨(some 80), none, .q (.mv (.t 11))⟩,
       ⟨(some 8), none, .q (.mv (.t 80))⟩,
       ⟨(some 9), none, .q (.mv (.c (.bool true)))⟩])
    .ret))
    .skip))
  (.seq (.sch (.take 0 ⟨(some 81), none, .q (.mv (.t 0))⟩ (.take 1 ⟨(some 82), none, .q (.mv (.t 10))⟩ (.take 2 ⟨(some 83), none, .q (.mv (.t 0))⟩ (.take 3 ⟨(some 84), none, .q (.mv (.t 11))⟩ (.take 4 ⟨(some 85), none, .q (.mv (.t 0))⟩ (.take 5 ⟨(some 86), none, .q (.mv (.t 11))⟩ (.take 6 ⟨(some 87), none, .q (.ixs 1 (.t 85) (.t 86))⟩ (.take 7 ⟨(some 88), none, .q (.ld false 1 (.t 87))⟩ (.take 8 ⟨(some 89), none, .q (.mv (.t 0))⟩ (.take 9 ⟨(some 90), none, .q (.mv (.t 10))⟩ (.take 10 ⟨(some 91), none, .q (.ixs 1 (.t 89) (.t 90))⟩ (.take 11 ⟨(some 92), none, .q (.ld false 1 (.t 91))⟩ (.take 12 ⟨(some 93), none, .q (.ixs 1 (.t 81) (.t 82))⟩ (.one ⟨none, none, .m (.st false 1 (.t 93) (.t 88))⟩ [11, 7] (.take 14 ⟨(some 94), none, .q (.ixs 1 (.t 83) (.t 84))⟩ (.one ⟨none, none, .m (.st false 1 (.t 94) (.t 92))⟩ [11, 7] .done)))))))))))))))))
  (.seq (.reg [⟨(some 95), none, .q (.mv (.t 10))⟩,
     ⟨(some 96), none, .q (.bin .add (.t 95) (.c (.int .i64 1)))⟩,
     ⟨(some 10), none, .q (.mv (.t 96))⟩])
  (.seq (.reg [⟨(some 97), none, .q (.mv (.t 11))⟩,
     ⟨(some 98), none, .q (.bin .sub (.t 97) (.c (.int .i64 1)))⟩,
     ⟨(some 11), none, .q (.mv (.t 98))⟩])
  (.seq (.seq (.block 4 (.loop [0, 1, 10, 11, 168] (.block 5 (.seq (.seq (.block 6 (.loop [0, 1, 10, 11, 168] (.seq (.seq (.sch (.take 0 ⟨(some 99), none, .q (.mv (.t 10))⟩ (.take 1 ⟨(some 100), none, .q (.mv (.t 11))⟩ (.take 2 ⟨(some 101), none, .q (.bin .leq (.t 99) (.t 100))⟩ (.take 3 ⟨(some 102), none, .q (.mv (.t 101))⟩ (.take 4 ⟨(some 103), (some (102, true)), .q (.mv (.t 0))⟩ (.take 5 ⟨(some 104), (some (102, true)), .q (.mv (.t 10))⟩ (.take 6 ⟨(some 105), (some (102, true)), .q (.ixs 1 (.t 103) (.t 104))⟩ (.take 7 ⟨(some 106), (some (102, true)), .q (.ld false 1 (.t 105))⟩ (.take 8 ⟨(some 107), (some (102, true)), .q (.mv (.t 0))⟩ (.take 9 ⟨(some 108), (some (102, true)), .q (.mv (.t 1))⟩ (.take 10 ⟨(some 109), (some (102, true)), .q (.ixs 1 (.t 107) (.t 108))⟩ (.take 11 ⟨(some 110), (some (102, true)), .q (.ld false 1 (.t 109))⟩ (.one ⟨(some 111), (some (102, true)), .c (.call 61 [(.t 106), (.t 110)])⟩ [11, 7] (.take 13 ⟨(some 112), none, .q (.pick (.t 102) (.t 111) (.c (.bool false)))⟩ .done)))))))))))))))
            (.cond (.t 112)
             .skip
             (.exit 6)))
           (.block 7 (.reg [⟨(some 113), none, .q (.mv (.t 10))⟩,
              ⟨(some 114), none, .q (.bin .add (.t 113) (.c (.int .i64 1)))⟩,
              ⟨(some 10), none, .q (.mv (.t 114))⟩])))))
        (.cut [0, 1, 10, 11, 168]))
       (.seq (.seq (.block 8 (.loop [0, 1, 10, 11, 168] (.seq (.seq (.sch (.take 0 ⟨(some 115), none, .q (.mv (.t 10))⟩ (.take 1 ⟨(some 116), none, .q (.mv (.t 11))⟩ (.take 2 ⟨(some 117), none, .q (.bin .leq (.t 115) (.t 116))⟩ (.take 3 ⟨(some 118), none, .q (.mv (.t 117))⟩ (.take 4 ⟨(some 119), (some (118, true)), .q (.mv (.t 0))⟩ (.take 5 ⟨(some 120), (some (118, true)), .q (.mv (.t 11))⟩ (.take 6 ⟨(some 121), (some (118, true)), .q (.ixs 1 (.t 119) (.t 120))⟩ (.take 7 ⟨(some 122), (some (118, true)), .q (.ld false 1 (.t 121))⟩ (.take 8 ⟨(some 123), (some (118, true)), .q (.mv (.t 0))⟩ (.take 9 ⟨(some 124), (some (118, true)), .q (.mv (.t 1))⟩ (.take 10 ⟨(some 125), (some (118, true)), .q (.ixs 1 (.t 123) (.t 124))⟩ (.take 11 ⟨(some 126), (some (118, true)), .q (.ld false 1 (.t 125))⟩ (.one ⟨(some 127), (some (118, true)), .c (.call 61 [(.t 122), (.t 126)])⟩ [11, 7] (.take 13 ⟨(some 128), (some (118, true)), .q (.un .not (.t 127))⟩ (.take 14 ⟨(some 129), none, .q (.pick (.t 118) (.t 128) (.c (.bool false)))⟩ .done))))))))))))))))
            (.cond (.t 129)
             .skip
             (.exit 8)))
           (.block 9 (.reg [⟨(some 130), none, .q (.mv (.t 11))⟩,
              ⟨(some 131), none, .q (.bin .sub (.t 130) (.c (.int .i64 1)))⟩,
              ⟨(some 11), none, .q (.mv (.t 131))⟩])))))
        (.cut [0, 1, 10, 11, 168]))
       (.seq (.seq (.reg [⟨(some 132), none, .q (.mv (.t 10))⟩,
           ⟨(some 133), none, .q (.mv (.t 11))⟩,
           ⟨(some 134), none, .q (.bin .gtr (.t 132) (.t 133))⟩])
        (.cond (.t 134)
         (.exit 4)
         .skip))
       (.seq (.sch (.take 0 ⟨(some 135), none, .q (.mv (.t 0))⟩ (.take 1 ⟨(some 136), none, .q (.mv (.t 10))⟩ (.take 2 ⟨(some 137), none, .q (.mv (.t 0))⟩ (.take 3 ⟨(some 138), none, .q (.mv (.t 11))⟩ (.take 4 ⟨(some 139), none, .q (.mv (.t 0))⟩ (.take 5 ⟨(some 140), none, .q (.mv (.t 11))⟩ (.take 6 ⟨(some 141), none, .q (.ixs 1 (.t 139) (.t 140))⟩ (.take 7 ⟨(some 142), none, .q (.ld false 1 (.t 141))⟩ (.take 8 ⟨(some 143), none, .q (.mv (.t 0))⟩ (.take 9 ⟨(some 144), none, .q (.mv (.t 10))⟩ (.take 10 ⟨(some 145), none, .q (.ixs 1 (.t 143) (.t 144))⟩ (.take 11 ⟨(some 146), none, .q (.ld false 1 (.t 145))⟩ (.take 12 ⟨(some 147), none, .q (.ixs 1 (.t 135) (.t 136))⟩ (.one ⟨none, none, .m (.st false 1 (.t 147) (.t 142))⟩ [11, 7] (.take 14 ⟨(some 148), none, .q (.ixs 1 (.t 137) (.t 138))⟩ (.one ⟨none, none, .m (.st false 1 (.t 148) (.t 146))⟩ [11, 7] .done)))))))))))))))))
       (.seq (.reg [⟨(some 149), none, .q (.mv (.t 10))⟩,
          ⟨(some 150), none, .q (.bin .add (.t 149) (.c (.int .i64 1)))⟩,
          ⟨(some 10), none, .q (.mv (.t 150))⟩])
       (.reg [⟨(some 151), none, .q (.mv (.t 11))⟩,
         ⟨(some 152), none, .q (.bin .sub (.t 151) (.c (.int .i64 1)))⟩,
         ⟨(some 11), none, .q (.mv (.t 152))⟩])))))))))
   (.cut [0, 1, 11, 168]))
  (.seq (.sch (.take 0 ⟨(some 153), none, .q (.mv (.t 0))⟩ (.take 1 ⟨(some 154), none, .q (.mv (.t 11))⟩ (.take 2 ⟨(some 155), none, .q (.mv (.t 0))⟩ (.take 3 ⟨(some 156), none, .q (.mv (.t 1))⟩ (.take 4 ⟨(some 157), none, .q (.mv (.t 0))⟩ (.take 5 ⟨(some 158), none, .q (.mv (.t 1))⟩ (.take 6 ⟨(some 159), none, .q (.ixs 1 (.t 157) (.t 158))⟩ (.take 7 ⟨(some 160), none, .q (.ld false 1 (.t 159))⟩ (.take 8 ⟨(some 161), none, .q (.mv (.t 0))⟩ (.take 9 ⟨(some 162), none, .q (.mv (.t 11))⟩ (.take 10 ⟨(some 163), none, .q (.ixs 1 (.t 161) (.t 162))⟩ (.take 11 ⟨(some 164), none, .q (.ld false 1 (.t 163))⟩ (.take 12 ⟨(some 165), none, .q (.ixs 1 (.t 153) (.t 154))⟩ (.one ⟨none, none, .m (.st false 1 (.t 165) (.t 160))⟩ [11, 7] (.take 14 ⟨(some 166), none, .q (.ixs 1 (.t 155) (.t 156))⟩ (.one ⟨none, none, .m (.st false 1 (.t 166) (.t 164))⟩ [11, 7] .done)))))))))))))))))
  (.seq (.reg [⟨(some 167), none, .q (.mv (.t 11))⟩,
     ⟨(some 8), none, .q (.mv (.t 167))⟩,
     ⟨(some 9), none, .q (.mv (.c (.bool false)))⟩])
  .ret))))))))))))⟩
theorem l_slices_partitionOrdered_int64_ : lowF PA f_slices_partitionOrdered_int64_ 4 [.s (.take 0 (.take 1 (.take 2 (.take 3 (.take 4 (.take 5 (.take 6 (.take 7 (.take 8 (.take 9 (.take 10 (.take 11 (.take 12 (.one 13 (.take 14 (.one 15 .done)))))))))))))))), .k [0, 1, 10, 11, 168], .s (.take 0 (.take 1 (.take 2 (.take 3 (.take 4 (.take 5 (.take 6 (.take 7 (.take 8 (.take 9 (.take 10 (.take 11 (.one 12 (.take 13 .done)))))))))))))), .c 0 [0, 1, 10, 11, 168], .k [0, 1, 10, 11, 168], .s (.take 0 (.take 1 (.take 2 (.take 3 (.take 4 (.take 5 (.take 6 (.take 7 (.take 8 (.take 9 (.take 10 (.take 11 (.one 12 (.take 13 (.take 14 .done))))))))))))))), .c 2 [0, 1, 10, 11, 168], .s (.take 0 (.take 1 (.take 2 (.take 3 (.take 4 (.take 5 (.take 6 (.take 7 (.take 8 (.take 9 (.take 10 (.take 11 (.take 12 (.one 13 (.take 14 (.one 15 .done)))))))))))))))), .s (.take 0 (.take 1 (.take 2 (.take 3 (.take 4 (.take 5 (.take 6 (.take 7 (.take 8 (.take 9 (.take 10 (.take 11 (.take 12 (.one 13 (.take 14 (.one 15 .done)))))))))))))))), .k [0, 1, 10, 11, 168], .k [0, 1, 10, 11, 168], .s (.take 0 (.take 1 (.take 2 (.take 3 (.take 4 (.take 5 (.take 6 (.take 7 (.take 8 (.take 9 (.take 10 (.take 11 (.one 12 (.take 13 .done)))))))))))))), .c 6 [0, 1, 10, 11, 168], .k [0, 1, 10, 11, 168], .s (.take 0 (.take 1 (.take 2 (.take 3 (.take 4 (.take 5 (.take 6 (.take 7 (.take 8 (.take 9 (.take 10 (.take 11 (.one 12 (.take 13 (.take 14 .done))))))))))))))), .c 8 [0, 1, 10, 11, 168], .s (.take 0 (.take 1 (.take 2 (.take 3 (.take 4 (.take 5 (.take 6 (.take 7 (.take 8 (.take 9 (.take 10 (.take 11 (.take 12 (.one 13 (.take 14 (.one 15 .done)))))))))))))))), .c 4 [0, 1, 11, 168], .s (.take 0 (.take 1 (.take 2 (.take 3 (.take 4 (.take 5 (.take 6 (.take 7 (.take 8 (.take 9 (.take 10 (.take 11 (.take 12 (.one 13 (.take 14 (.one 15 .done))))))))))))))))] = some c_slices_partitionOrdered_int64_ := by kernel_rfl
abbrev f_math_bits_Len32 : FuncId := 82
def c_math_bits_Len32 : AF := ⟨1, 19, [.t 2],
  (.seq (.reg [⟨(some 2), none, .q (.mv (.c (.int .i64 0)))⟩])
  (.seq (.seq (.reg [⟨(some 3), none, .q (.mv (.t 0))⟩,
      ⟨(some 4), none, .q (.bin .geq (.t 3) (.c (.int .u32 65536)))⟩])
   (.cond (.t 4)
    (.seq (.reg [⟨(some 5), none, .q (.mv (.t 0))⟩,
       ⟨(some 6), none, .q (.bin .shr (.t 5) (.c (.int .u64 16)))⟩,
       ⟨(some 0), none, .q (.mv (.t 6))⟩])
    (.reg [⟨(some 2), none, .q (.mv (.c (.int .i64 16)))⟩]))
    .skip))
  (.seq (.seq (.reg [⟨(some 7), none, .q (.mv (.t 0))⟩,
      ⟨(some 8), none, .q (.bin .geq (.t 7) (.c (.int .u32 256)))⟩])
   (.cond (.t 8)
    (.seq (.reg [⟨(some 9), none, .q (.mv (.t 0))⟩,
       ⟨(some 10), none, .q (.bin .shr (.t 9) (.c (.int .u64 8)))⟩,
       ⟨(some 0), none, .q (.mv (.t 10))⟩])
    (.reg [⟨(some 11), none, .q (.mv (.t 2))⟩,
      ⟨(some 12), none, .q (.bin .add (.t 11) (.c (.int .i64 8)))⟩,
      ⟨(some 2), none, .q (.mv (.t 12))⟩]))
    .skip))
  (.seq (.reg [⟨(some 13), none, .q (.mv (.t 2))⟩,
     ⟨(some 14), none, .q (.mv (.t 0))⟩,
     ⟨(some 15), none, .q (.cvt .u8 (.t 14))⟩,
     ⟨(some 16), none, .q (.ixt (.c (.string ⟨#[0, 1, 2, 2, 3, 3, 3, 3, 4, 4, 4, 4, 4, 4, 4, 4, 5, 5, 5, 5, 5, 5, 5, 5, 5, 5, 5, 5, 5, 5, 5, 5, 6, 6, 6, 6, 6, 6, 6, 6, 6, 6, 6, 6, 6, 6, 6, 6, 6, 6, 6, 6, 6, 6, 6, 6, 6, 6, 6, 6, 6, 6, 6, 6, 7, 7, 7, 7, 7, 7, 7, 7, 7, 7, 7, 7, 7, 7, 7, 7, 7, 7, 7, 7, 7, 7, 7, 7, 7, 7, 7, 7, 7, 7, 7, 7, 7, 7, 7, 7, 7, 7, 7, 7, 7, 7, 7, 7, 7, 7, 7, 7, 7, 7, 7, 7, 7, 7, 7, 7, 7, 7, 7, 7, 7, 7, 7, 7, 8, 8, 8, 8, 8, 8, 8, 8, 8, 8, 8, 8, 8, 8, 8, 8, 8, 8, 8, 8, 8, 8, 8, 8, 8, 8, 8, 8, 8, 8, 8, 8, 8, 8, 8, 8, 8, 8, 8, 8, 8, 8, 8, 8, 8, 8, 8, 8, 8, 8, 8, 8, 8, 8, 8, 8, 8, 8, 8, 8, 8, 8, 8, 8, 8, 8, 8, 8, 8, 8, 8, 8, 8, 8, 8, 8, 8, 8, 8, 8, 8, 8, 8, 8, 8, 8, 8, 8, 8, 8, 8, 8, 8, 8, 8, 8, 8, 8, 8, 8, 8, 8, 8, 8, 8, 8, 8, 8, 8, 8, 8, 8, 8, 8, 8, 8, 8, 8, 8, 8, 8, 8, 8, 8, 8, 8, 8, 8]⟩)) (.t 15))⟩,
     ⟨(some 17), none, .q (.cvt .i64 (.t 16))⟩,
     ⟨(some 18), none, .q (.bin .add (.t 13) (.t 17))⟩,
     ⟨(some 2), none, .q (.mv (.t 18))⟩])
  .ret))))⟩
theorem l_math_bits_Len32 : lowF PA f_math_bits_Len32 1 [] = some c_math_bits_Len32 := by kernel_rfl
abbrev f_math_bits_Len64 : FuncId := 83
def c_math_bits_Len64 : AF := ⟨1, 25, [.t 2],
  (.seq (.reg [⟨(some 2), none, .q (.mv (.c (.int .i64 0)))⟩])
  (.seq (.seq (.reg [⟨(some 3), none, .q (.mv (.t 0))⟩,
      ⟨(some 4), none, .q (.bin .geq (.t 3) (.c (.int .u64 4294967296)))⟩])
   (.cond (.t 4)
    (.seq (.reg [⟨(some 5), none, .q (.mv (.t 0))⟩,
       ⟨(some 6), none, .q (.bin .shr (.t 5) (.c (.int .u64 32)))⟩,
       ⟨(some 0), none, .q (.mv (.t 6))⟩])
    (.reg [⟨(some 2), none, .q (.mv (.c (.int .i64 32)))⟩]))
    .skip))
  (.seq (.seq (.reg [⟨(some 7), none, .q (.mv (.t 0))⟩,
      ⟨(some 8), none, .q (.bin .geq (.t 7) (.c (.int .u64 65536)))⟩])
   (.cond (.t 8)
    (.seq (.reg [⟨(some 9), none, .q (.mv (.t 0))⟩,
       ⟨(some 10), none, .q (.bin .shr (.t 9) (.c (.int .u64 16)))⟩,
       ⟨(some 0), none, .q (.mv (.t 10))⟩])
    (.reg [⟨(some 11), none, .q (.mv (.t 2))⟩,
      ⟨(some 12), none, .q (.bin .add (.t 11) (.c (.int .i64 16)))⟩,
      ⟨(some 2), none, .q (.mv (.t 12))⟩]))
    .skip))
  (.seq (.seq (.reg [⟨(some 13), none, .q (.mv (.t 0))⟩,
      ⟨(some 14), none, .q (.bin .geq (.t 13) (.c (.int .u64 256)))⟩])
   (.cond (.t 14)
    (.seq (.reg [⟨(some 15), none, .q (.mv (.t 0))⟩,
       ⟨(some 16), none, .q (.bin .shr (.t 15) (.c (.int .u64 8)))⟩,
       ⟨(some 0), none, .q (.mv (.t 16))⟩])
    (.reg [⟨(some 17), none, .q (.mv (.t 2))⟩,
      ⟨(some 18), none, .q (.bin .add (.t 17) (.c (.int .i64 8)))⟩,
      ⟨(some 2), none, .q (.mv (.t 18))⟩]))
    .skip))
  (.seq (.reg [⟨(some 19), none, .q (.mv (.t 2))⟩,
     ⟨(some 20), none, .q (.mv (.t 0))⟩,
     ⟨(some 21), none, .q (.cvt .u8 (.t 20))⟩,
     ⟨(some 22), none, .q (.ixt (.c (.string ⟨#[0, 1, 2, 2, 3, 3, 3, 3, 4, 4, 4, 4, 4, 4, 4, 4, 5, 5, 5, 5, 5, 5, 5, 5, 5, 5, 5, 5, 5, 5, 5, 5, 6, 6, 6, 6, 6, 6, 6, 6, 6, 6, 6, 6, 6, 6, 6, 6, 6, 6, 6, 6, 6, 6, 6, 6, 6, 6, 6, 6, 6, 6, 6, 6, 7, 7, 7, 7, 7, 7, 7, 7, 7, 7, 7, 7, 7, 7, 7, 7, 7, 7, 7, 7, 7, 7, 7, 7, 7, 7, 7, 7, 7, 7, 7, 7, 7, 7, 7, 7, 7, 7, 7, 7, 7, 7, 7, 7, 7, 7, 7, 7, 7, 7, 7, 7, 7, 7, 7, 7, 7, 7, 7, 7, 7, 7, 7, 7, 8, 8, 8, 8, 8, 8, 8, 8, 8, 8, 8, 8, 8, 8, 8, 8, 8, 8, 8, 8, 8, 8, 8, 8, 8, 8, 8, 8, 8, 8, 8, 8, 8, 8, 8, 8, 8, 8, 8, 8, 8, 8, 8, 8, 8, 8, 8, 8, 8, 8, 8, 8, 8, 8, 8, 8, 8, 8, 8, 8, 8, 8, 8, 8, 8, 8, 8, 8, 8, 8, 8, 8, 8, 8, 8, 8, 8, 8, 8, 8, 8, 8, 8, 8, 8, 8, 8, 8, 8, 8, 8, 8, 8, 8, 8, 8, 8, 8, 8, 8, 8, 8, 8, 8, 8, 8, 8, 8, 8, 8, 8, 8, 8, 8, 8, 8, 8, 8, 8, 8, 8, 8, 8, 8, 8, 8, 8, 8]⟩)) (.t 21))⟩,
     ⟨(some 23), none, .q (.cvt .i64 (.t 22))⟩,
     ⟨(some 24), none, .q (.bin .add (.t 19) (.t 23))⟩,
     ⟨(some 2), none, .q (.mv (.t 24))⟩])
  .ret)))))⟩
theorem l_math_bits_Len64 : lowF PA f_math_bits_Len64 1 [] = some c_math_bits_Len64 := by kernel_rfl
abbrev f_slices_siftDownOrdered_int64_ : FuncId := 84
def c_slices_siftDownOrdered_int64_ : AF := ⟨4, 76, [],
  (.seq (.reg [⟨(some 10), none, .q (.mv (.t 1))⟩,
     ⟨(some 8), none, .q (.mv (.t 10))⟩])
  (.block 0 (.loop [0, 2, 3, 8, 76] (.block 1 (.seq (.reg [⟨(some 11), none, .q (.mv (.t 8))⟩,
        ⟨(some 12), none, .q (.bin .mul (.c (.int .i64 2)) (.t 11))⟩,
        ⟨(some 13), none, .q (.bin .add (.t 12) (.c (.int .i64 1)))⟩,
        ⟨(some 9), none, .q (.mv (.t 13))⟩])
     (.seq (.seq (.reg [⟨(some 14), none, .q (.mv (.t 9))⟩,
         ⟨(some 15), none, .q (.mv (.t 2))⟩,
         ⟨(some 16), none, .q (.bin .geq (.t 14) (.t 15))⟩])
      (.cond (.t 16)
       (.exit 0)
       .skip))
     (.seq (.seq (.sch (.take 0 ⟨(some 17), none, .q (.mv (.t 9))⟩ (.take 1 ⟨(some 18), none, .q (.bin .add (.t 17) (.c (.int .i64 1)))⟩ (.take 2 ⟨(some 19), none, .q (.mv (.t 2))⟩ (.take 3 ⟨(some 20), none, .q (.bin .lss (.t 18) (.t 19))⟩ (.take 4 ⟨(some 21), none, .q (.mv (.t 20))⟩ (.take 5 ⟨(some 22), (some (21, true)), .q (.mv (.t 0))⟩ (.take 6 ⟨(some 23), (some (21, true)), .q (.mv (.t 3))⟩ (.take 7 ⟨(some 24), (some (21, true)), .q (.mv (.t 9))⟩ (.take 8 ⟨(some 25), (some (21, true)), .q (.bin .add (.t 23) (.t 24))⟩ (.take 9 ⟨(some 26), (some (21, true)), .q (.ixs 1 (.t 22) (.t 25))⟩ (.take 10 ⟨(some 27), (some (21, true)), .q (.ld false 1 (.t 26))⟩ (.take 11 ⟨(some 28), (some (21, true)), .q (.mv (.t 0))⟩ (.take 12 ⟨(some 29), (some (21, true)), .q (.mv (.t 3))⟩ (.take 13 ⟨(some 30), (some (21, true)), .q (.mv (.t 9))⟩ (.take 14 ⟨(some 31), (some (21, true)), .q (.bin .add (.t 29) (.t 30))⟩ (.take 15 ⟨(some 32), (some (21, true)), .q (.bin .add (.t 31) (.c (.int .i64 1)))⟩ (.take 16 ⟨(some 33), (some (21, true)), .q (.ixs 1 (.t 28) (.t 32))⟩ (.take 17 ⟨(some 34), (some (21, true)), .q (.ld false 1 (.t 33))⟩ (.one ⟨(some 35), (some (21, true)), .c (.call 61 [(.t 27), (.t 34)])⟩ [17, 10] (.take 19 ⟨(some 36), none, .q (.pick (.t 21) (.t 35) (.c (.bool false)))⟩ .done)))))))))))))))))))))
      (.cond (.t 36)
       (.reg [⟨(some 37), none, .q (.mv (.t 9))⟩,
         ⟨(some 38), none, .q (.bin .add (.t 37) (.c (.int .i64 1)))⟩,
         ⟨(some 9), none, .q (.mv (.t 38))⟩])
       .skip))
     (.seq (.seq (.sch (.take 0 ⟨(some 39), none, .q (.mv (.t 0))⟩ (.take 1 ⟨(some 40), none, .q (.mv (.t 3))⟩ (.take 2 ⟨(some 41), none, .q (.mv (.t 8))⟩ (.take 3 ⟨(some 42), none, .q (.bin .add (.t 40) (.t 41))⟩ (.take 4 ⟨(some 43), none, .q (.ixs 1 (.t 39) (.t 42))⟩ (.take 5 ⟨(some 44), none, .q (.ld false 1 (.t 43))⟩ (.take 6 ⟨(some 45), none, .q (.mv (.t 0))⟩ (.take 7 ⟨(some 46), none, .q (.mv (.t 3))⟩ (.take 8 ⟨(some 47), none, .q (.mv (.t 9))⟩ (.take 9 ⟨(some 48), none, .q (.bin .add (.t 46) (.t 47))⟩ (.take 10 ⟨(some 49), none, .q (.ixs 1 (.t 45) (.t 48))⟩ (.take 11 ⟨(some 50), none, .q (.ld false 1 (.t 49))⟩ (.one ⟨(some 51), none, .c (.call 61 [(.t 44), (.t 50)])⟩ [11, 5] (.take 13 ⟨(some 52), none, .q (.un .not (.t 51))⟩ .done)))))))))))))))
      (.cond (.t 52)
       .ret
       .skip))
     (.seq (.sch (.take 0 ⟨(some 53), none, .q (.mv (.t 0))⟩ (.take 1 ⟨(some 54), none, .q (.mv (.t 3))⟩ (.take 2 ⟨(some 55), none, .q (.mv (.t 8))⟩ (.take 3 ⟨(some 56), none, .q (.bin .add (.t 54) (.t 55))⟩ (.take 4 ⟨(some 57), none, .q (.mv (.t 0))⟩ (.take 5 ⟨(some 58), none, .q (.mv (.t 3))⟩ (.take 6 ⟨(some 59), none, .q (.mv (.t 9))⟩ (.take 7 ⟨(some 60), none, .q (.bin .add (.t 58) (.t 59))⟩ (.take 8 ⟨(some 61), none, .q (.mv (.t 0))⟩ (.take 9 ⟨(some 62), none, .q (.mv (.t 3))⟩ (.take 10 ⟨(some 63), none, .q (.mv (.t 9))⟩ (.take 11 ⟨(some 64), none, .q (.bin .add (.t 62) (.t 63))⟩ (.take 12 ⟨(some 65), none, .q (.ixs 1 (.t 61) (.t 64))⟩ (.take 13 ⟨(some 66), none, .q (.ld false 1 (.t 65))⟩ (.take 14 ⟨(some 67), none, .q (.mv (.t 0))⟩ (.take 15 ⟨(some 68), none, .q (.mv (.t 3))⟩ (.take 16 ⟨(some 69), none, .q (.mv (.t 8))⟩ (.take 17 ⟨(some 70), none, .q (.bin .add (.t 68) (.t 69))⟩ (.take 18 ⟨(some 71), none, .q (.ixs 1 (.t 67) (.t 70))⟩ (.take 19 ⟨(some 72), none, .q (.ld false 1 (.t 71))⟩ (.take 20 ⟨(some 73), none, .q (.ixs 1 (.t 53) (.t 56))⟩ (.one ⟨none, none, .m (.st false 1 (.t 73) (.t 66))⟩ [19, 13] (.take 22 ⟨(some 74), none, .q (.ixs 1 (.t 57) (.t 60))⟩ (.one ⟨none, none, .m (.st false 1 (.t 74) (.t 72))⟩ [19, 13] .done)))))))))))))))))))))))))
     (.reg [⟨(some 75), none, .q (.mv (.t 9))⟩,
       ⟨(some 8), none, .q (.mv (.t 75))⟩]))))))))))⟩
theorem l_slices_siftDownOrdered_int64_ : lowF PA f_slices_siftDownOrdered_int64_ 4 [.k [0, 2, 3, 8, 76], .s (.take 0 (.take 1 (.take 2 (.take 3 (.take 4 (.take 5 (.take 6 (.take 7 (.take 8 (.take 9 (.take 10 (.take 11 (.take 12 (.take 13 (.take 14 (.take 15 (.take 16 (.take 17 (.one 18 (.take 19 .done)))))))))))))))))))), .s (.take 0 (.take 1 (.take 2 (.take 3 (.take 4 (.take 5 (.take 6 (.take 7 (.take 8 (.take 9 (.take 10 (.take 11 (.one 12 (.take 13 .done)))))))))))))), .s (.take 0 (.take 1 (.take 2 (.take 3 (.take 4 (.take 5 (.take 6 (.take 7 (.take 8 (.take 9 (.take 10 (.take 11 (.take 12 (.take 13 (.take 14 (.take 15 (.take 16 (.take 17 (.take 18 (.take 19 (.take 20 (.one 21 (.take 22 (.one 23 .done))))))))))))))))))))))))] = some c_slices_siftDownOrdered_int64_ := by kernel_rfl
abbrev f_slices_nextPowerOfTwo : FuncId := 85
def c_slices_nextPowerOfTwo : AF := ⟨1, 7, [.t 2],
  (.seq (.reg [⟨(some 2), none, .q (.mv (.c (.int .u64 0)))⟩])
  (.seq (.reg [⟨(some 3), none, .q (.mv (.t 0))⟩,
     ⟨(some 4), none, .q (.cvt .u64 (.t 3))⟩,
     ⟨(some 5), none, .c (.call 65 [(.t 4)])⟩,
     ⟨(some 6), none, .q (.bin .shl (.c (.int .u64 1)) (.t 5))⟩,
     ⟨(some 2), none, .q (.mv (.t 6))⟩])
  .ret))⟩
theorem l_slices_nextPowerOfTwo : lowF PA f_slices_nextPowerOfTwo 1 [] = some c_slices_nextPowerOfTwo := by kernel_rfl
abbrev f___slices_xorshift__Next : FuncId := 86
def c___slices_xorshift__Next : AF := ⟨1, 33, [.t 2],
  (.seq (.reg [⟨(some 2), none, .q (.mv (.c (.int .u64 0)))⟩])
  (.seq (.sch (.take 0 ⟨(some 3), none, .q (.mv (.t 0))⟩ (.take 1 ⟨(some 4), none, .q (.nlc (.t 3))⟩ (.take 2 ⟨(some 5), none, .q (.ld false 1 (.t 4))⟩ (.take 3 ⟨(some 6), none, .q (.mv (.t 0))⟩ (.take 4 ⟨(some 7), none, .q (.nlc (.t 6))⟩ (.take 5 ⟨(some 8), none, .q (.ld false 1 (.t 7))⟩ (.take 6 ⟨(some 9), none, .q (.bin .shl (.t 8) (.c (.int .u64 13)))⟩ (.take 7 ⟨(some 10), none, .q (.bin .xor (.t 5) (.t 9))⟩ (.take 8 ⟨(some 11), none, .q (.nlc (.t 3))⟩ (.one ⟨none, none, .m (.st false 1 (.t 11) (.t 10))⟩ [5, 2] .done)))))))))))
  (.seq (.sch (.take 0 ⟨(some 12), none, .q (.mv (.t 0))⟩ (.take 1 ⟨(some 13), none, .q (.nlc (.t 12))⟩ (.take 2 ⟨(some 14), none, .q (.ld false 1 (.t 13))⟩ (.take 3 ⟨(some 15), none, .q (.mv (.t 0))⟩ (.take 4 ⟨(some 16), none, .q (.nlc (.t 15))⟩ (.take 5 ⟨(some 17), none, .q (.ld false 1 (.t 16))⟩ (.take 6 ⟨(some 18), none, .q (.bin .shr (.t 17) (.c (.int .u64 7)))⟩ (.take 7 ⟨(some 19), none, .q (.bin .xor (.t 14) (.t 18))⟩ (.take 8 ⟨(some 20), none, .q (.nlc (.t 12))⟩ (.one ⟨none, none, .m (.st false 1 (.t 20) (.t 19))⟩ [5, 2] .done)))))))))))
  (.seq (.sch (.take 0 ⟨(some 21), none, .q (.mv (.t 0))⟩ (.take 1 ⟨(some 22), none, .q (.nlc (.t 21))⟩ (.take 2 ⟨(some 23), none, .q (.ld false 1 (.t 22))⟩ (.take 3 ⟨(some 24), none, .q (.mv (.t 0))⟩ (.take 4 ⟨(some 25), none, .q (.nlc (.t 24))⟩ (.take 5 ⟨(some 26), none, .q (.ld false 1 (.t 25))⟩ (.take 6 ⟨(some 27), none, .q (.bin .shl (.t 26) (.c (.int .u64 17)))⟩ (.take 7 ⟨(some 28), none, .q (.bin .xor (.t 23) (.t 27))⟩ (.take 8 ⟨(some 29), none, .q (.nlc (.t 21))⟩ (.one ⟨none, none, .m (.st false 1 (.t 29) (.t 28))⟩ [5, 2] .done)))))))))))
  (.seq (.reg [⟨(some 30), none, .q (.mv (.t 0))⟩,
     ⟨(some 31), none, .q (.nlc (.t 30))⟩,
     ⟨(some 32), none, .q (.ld false 1 (.t 31))⟩,
     ⟨(some 2), none, .q (.mv (.t 32))⟩])
  .ret)))))⟩
theorem l___slices_xorshift__Next : lowF PA f___slices_xorshift__Next 1 [.s (.take 0 (.take 1 (.take 2 (.take 3 (.take 4 (.take 5 (.take 6 (.take 7 (.take 8 (.one 9 .done)))))))))), .s (.take 0 (.take 1 (.take 2 (.take 3 (.take 4 (.take 5 (.take 6 (.take 7 (.take 8 (.one 9 .done)))))))))), .s (.take 0 (.take 1 (.take 2 (.take 3 (.take 4 (.take 5 (.take 6 (.take 7 (.take 8 (.one 9 .done))))))))))] = some c___slices_xorshift__Next := by kernel_rfl
abbrev f_slices_medianAdjacentOrdered_int64_ : FuncId := 87
def c_slices_medianAdjacentOrdered_int64_ : AF := ⟨3, 15, [.t 6],
  (.seq (.reg [⟨(some 6), none, .q (.mv (.c (.int .i64 0)))⟩])
  (.seq (.reg [⟨(some 7), none, .q (.mv (.t 0))⟩,
     ⟨(some 8), none, .q (.mv (.t 1))⟩,
     ⟨(some 9), none, .q (.bin .sub (.t 8) (.c (.int .i64 1)))⟩,
     ⟨(some 10), none, .q (.mv (.t 1))⟩,
     ⟨(some 11), none, .q (.mv (.t 1))⟩,
     ⟨(some 12), none, .q (.bin .add (.t 11) (.c (.int .i64 1)))⟩,
     ⟨(some 13), none, .q (.mv (.t 2))⟩,
     ⟨(some 14), none, .c (.call 88 [(.t 7), (.t 9), (.t 10), (.t 12), (.t 13)])⟩,
     ⟨(some 6), none, .q (.mv (.t 14))⟩])
  .ret))⟩
theorem l_slices_medianAdjacentOrdered_int64_ : lowF PA f_slices_medianAdjacentOrdered_int64_ 3 [] = some c_slices_medianAdjacentOrdered_int64_ := by kernel_rfl
abbrev f_slices_medianOrdered_int64_ : FuncId := 88
def c_slices_medianOrdered_int64_ : AF := ⟨5, 36, [.t 10],
  (.seq (.reg [⟨(some 10), none, .q (.mv (.c (.int .i64 0)))⟩])
  (.seq (.reg [⟨(some 12), none, .q (.mv (.t 0))⟩,
     ⟨(some 13), none, .q (.mv (.t 1))⟩,
     ⟨(some 14), none, .q (.mv (.t 2))⟩,
     ⟨(some 15), none, .q (.mv (.t 4))⟩,
     ⟨(some 16), none, .c (.call 89 [(.t 12), (.t 13), (.t 14), (.t 15)])⟩,
     ⟨(some 11), none, .q (.mv (.t 16))⟩,
     ⟨(some 17), none, .q (.ext (.t 11) 0)⟩,
     ⟨(some 18), none, .q (.ext (.t 11) 1)⟩,
     ⟨(some 1), none, .q (.mv (.t 17))⟩,
     ⟨(some 2), none, .q (.mv (.t 18))⟩])
  (.seq (.reg [⟨(some 20), none, .q (.mv (.t 0))⟩,
     ⟨(some 21), none, .q (.mv (.t 2))⟩,
     ⟨(some 22), none, .q (.mv (.t 3))⟩,
     ⟨(some 23), none, .q (.mv (.t 4))⟩,
     ⟨(some 24), none, .c (.call 89 [(.t 20), (.t 21), (.t 22), (.t 23)])⟩,
     ⟨(some 19), none, .q (.mv (.t 24))⟩,
     ⟨(some 25), none, .q (.ext (.t 19) 0)⟩,
     ⟨(some 26), none, .q (.ext (.t 19) 1)⟩,
     ⟨(some 2), none, .q (.mv (.t 25))⟩,
     ⟨(some 3), none, .q (.mv (.t 26))⟩])
  (.seq (.reg [⟨(some 28), none, .q (.mv (.t 0))⟩,
     ⟨(some 29), none, .q (.mv (.t 1))⟩,
     ⟨(some 30), none, .q (.mv (.t 2))⟩,
     ⟨(some 31), none, .q (.mv (.t 4))⟩,
     ⟨(some 32), none, .c (.call 89 [(.t 28), (.t 29), (.t 30), (.t 31)])⟩,
     ⟨(some 27), none, .q (.mv (.t 32))⟩,
     ⟨(some 33), none, .q (.ext (.t 27) 0)⟩,
     ⟨(some 34), none, .q (.ext (.t 27) 1)⟩,
     ⟨(some 1), none, .q (.mv (.t 33))⟩,
     ⟨(some 2), none, .q (.mv (.t 34))⟩])
  (.seq (.reg [⟨(some 35), none, .q (.mv (.t 2))⟩,
     ⟨(some 10), none, .q (.mv (.t 35))⟩])
  .ret)))))⟩
theorem l_slices_medianOrdered_int64_ : lowF PA f_slices_medianOrdered_int64_ 5 [] = some c_slices_medianOrdered_int64_ := by kernel_rfl
abbrev f_slices_order2Ordered_int64_ : FuncId := 89
def c_slices_order2Ordered_int64_ : AF := ⟨4, 28, [.t 8, .t 9],
  (.seq (.reg [⟨(some 8), none, .q (.mv (.c (.int .i64 0)))⟩,
     ⟨(some 9), none, .q (.mv (.c (.int .i64 0)))⟩])
  (.seq (.seq (.sch (.take 0 ⟨(some 10), none, .q (.mv (.t 0))⟩ (.take 1 ⟨(some 11), none, .q (.mv (.t 2))⟩ (.take 2 ⟨(some 12), none, .q (.ixs 1 (.t 10) (.t 11))⟩ (.take 3 ⟨(some 13), none, .q (.ld false 1 (.t 12))⟩ (.take 4 ⟨(some 14), none, .q (.mv (.t 0))⟩ (.take 5 ⟨(some 15), none, .q (.mv (.t 1))⟩ (.take 6 ⟨(some 16), none, .q (.ixs 1 (.t 14) (.t 15))⟩ (.take 7 ⟨(some 17), none, .q (.ld false 1 (.t 16))⟩ (.one ⟨(some 18), none, .c (.call 61 [(.t 13), (.t 17)])⟩ [7, 3] .done))))))))))
   (.cond (.t 18)
    (.seq (.reg [⟨(some 19), none, .q (.mv (.t 3))⟩,
       ⟨(some 20), none, .q (.nlc (.t 19))⟩,
       ⟨(some 21), none, .q (.ld false 1 (.t 20))⟩,
       ⟨(some 22), none, .q (.bin .add (.t 21) (.c (.int .i64 1)))⟩,
       ⟨(some 23), none, .q (.nlc (.t 19))⟩,
       ⟨none, none, .m (.st false 1 (.t 23) (.t 22))⟩])
    (.seq (.reg [⟨(some 24), none, .q (.mv (.t 2))⟩,
       ⟨(some 25), none, .q (.mv (.t 1))⟩,
       ⟨(some 8), none, .q (.mv (.t 24))⟩,
       ⟨(some 9), none, .q (.mv (.t 25))⟩])
    .ret))
    .skip))
  (.seq (.reg [⟨(some 26), none, .q (.mv (.t 1))⟩,
     ⟨(some 27), none, .q (.mv (.t 2))⟩,
     ⟨(some 8), none, .q (.mv (.t 26))⟩,
     ⟨(some 9), none, .q (.mv (.t 27))⟩])
  .ret)))⟩
theorem l_slices_order2Ordered_int64_ : lowF PA f_slices_order2Ordered_int64_ 4 [.s (.take 0 (.take 1 (.take 2 (.take 3 (.take 4 (.take 5 (.take 6 (.take 7 (.one 8 .done)))))))))] = some c_slices_order2Ordered_int64_ := by kernel_rfl
def sort_ren : Go.Shelf.Ren := ⟨fun | 5 => 47 | 8 => 65 | 7 => 64 | 19 => 82 | 20 => 83 | 10 => 74 | 11 => 75 | 12 => 76 | 13 => 77 | 14 => 78 | 15 => 79 | 16 => 61 | 17 => 80 | 18 => 81 | 30 => 84 | 31 => 85 | 32 => 86 | 33 => 87 | 34 => 88 | 35 => 73 | 40 => 89 | n => n, fun | 23 => 22 | 25 => 2 | 3 => 3 | 32 => 71 | 22 => 22 | 0 => 0 | 44 => 87 | 46 => 89 | 4 => 4 | 36 => 81 | 35 => 80 | 41 => 61 | 5 => 5 | 9 => 9 | 53 => 90 | 57 => 94 | 63 => 96 | 64 => 97 | n => n, fun | n => n⟩
theorem sort_lay : Go.Proofs.SlLaysM.n5 Try.prog sort_ren := {
  mixed := by kernel_rfl
  f5 := ⟨Try.f47.name, by decide, Try.func47.trans (congrArg some (by kernel_rfl))⟩
  f7 := ⟨Try.f64.name, by decide, Try.func64.trans (congrArg some (by kernel_rfl))⟩
  f8 := Try.func65.trans (congrArg some (by kernel_rfl))
  f10 := ⟨Try.f74.name, by decide, Try.func74.trans (congrArg some (by kernel_rfl))⟩
  f11 := ⟨Try.f75.name, by decide, Try.func75.trans (congrArg some (by kernel_rfl))⟩
  f12 := ⟨Try.f76.name, by decide, Try.func76.trans (congrArg some (by kernel_rfl))⟩
  f13 := ⟨Try.f77.name, by decide, Try.func77.trans (congrArg some (by kernel_rfl))⟩
  f14 := ⟨Try.f78.name, by decide, Try.func78.trans (congrArg some (by kernel_rfl))⟩
  f15 := ⟨Try.f79.name, by decide, Try.func79.trans (congrArg some (by kernel_rfl))⟩
  f16 := ⟨Try.f61.name, by decide, Try.func61.trans (congrArg some (by kernel_rfl))⟩
  f17 := ⟨Try.f80.name, by decide, Try.func80.trans (congrArg some (by kernel_rfl))⟩
  f18 := ⟨Try.f81.name, by decide, Try.func81.trans (congrArg some (by kernel_rfl))⟩
  f19 := Try.func82.trans (congrArg some (by kernel_rfl))
  f20 := Try.func83.trans (congrArg some (by kernel_rfl))
  f30 := ⟨Try.f84.name, by decide, Try.func84.trans (congrArg some (by kernel_rfl))⟩
  f31 := Try.func85.trans (congrArg some (by kernel_rfl))
  f32 := Try.func86.trans (congrArg some (by kernel_rfl))
  f33 := ⟨Try.f87.name, by decide, Try.func87.trans (congrArg some (by kernel_rfl))⟩
  f34 := ⟨Try.f88.name, by decide, Try.func88.trans (congrArg some (by kernel_rfl))⟩
  f35 := ⟨Try.f73.name, by decide, Try.func73.trans (congrArg some (by kernel_rfl))⟩
  f40 := ⟨Try.f89.name, by decide, Try.func89.trans (congrArg some (by kernel_rfl))⟩
  t0 := Try.underlying0
  a0 := Try.isAgg0
  z0 := Try.sizeOf0
  v0 := Try.zeroValue0
  t3 := Try.underlying3
  a3 := Try.isAgg3
  z3 := Try.sizeOf3
  v3 := Try.zeroValue3
  t4 := Try.underlying4
  a4 := Try.isAgg4
  z4 := Try.sizeOf4
  v4 := Try.zeroValue4
  t5 := Try.underlying5
  a5 := Try.isAgg5
  z5 := Try.sizeOf5
  v5 := Try.zeroValue5
  t9 := Try.underlying9
  a9 := Try.isAgg9
  z9 := Try.sizeOf9
  v9 := Try.zeroValue9
  t22 := Try.underlying22
  a22 := Try.isAgg22
  z22 := Try.sizeOf22
  v22 := Try.zeroValue22
  t23 := Try.underlying22
  a23 := Try.isAgg22
  z23 := Try.sizeOf22
  v23 := Try.zeroValue22
  t25 := Try.underlying2
  a25 := Try.isAgg2
  z25 := Try.sizeOf2
  v25 := Try.zeroValue2
  t32 := Try.underlying71
  a32 := Try.isAgg71
  z32 := Try.sizeOf71
  v32 := Try.zeroValue71
  t35 := Try.underlying80
  a35 := Try.isAgg80
  z35 := Try.sizeOf80
  v35 := Try.zeroValue80
  t36 := Try.underlying81
  a36 := Try.isAgg81
  z36 := Try.sizeOf81
  v36 := Try.zeroValue81
  t41 := Try.underlying61
  a41 := Try.isAgg61
  z41 := Try.sizeOf61
  v41 := Try.zeroValue61
  t44 := Try.underlying87
  a44 := Try.isAgg87
  z44 := Try.sizeOf87
  v44 := Try.zeroValue87
  t46 := Try.underlying89
  a46 := Try.isAgg89
  z46 := Try.sizeOf89
  v46 := Try.zeroValue89
  t53 := Try.underlying90
  a53 := Try.isAgg90
  z53 := Try.sizeOf90
  v53 := Try.zeroValue90
  t57 := Try.underlying94
  a57 := Try.isAgg94
  z57 := Try.sizeOf94
  v57 := Try.zeroValue94
  t63 := Try.underlying96
  a63 := Try.isAgg96
  z63 := Try.sizeOf96
  v63 := Try.zeroValue96
  t64 := Try.underlying97
  a64 := Try.isAgg97
  z64 := Try.sizeOf97
  v64 := Try.zeroValue97 }
theorem sort_calls : SortCalls PA f_slices_Sort___int64_int64_ := fun blk off cap zs w h1 h2 h3 => AnyM.slices_Sort_int sort_lay blk off cap zs w h1 h2 h3
end Go.Proofs.Ythnklfdoicdiaaa.Va
