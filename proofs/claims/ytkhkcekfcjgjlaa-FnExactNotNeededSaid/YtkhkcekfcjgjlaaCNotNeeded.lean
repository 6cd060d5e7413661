/- The code of the functions that FnExactNotNeeded reaches, laid out for a walk: each is what the lowering makes of the program's own text. Condition: none. -/
import Derived.Test.YtkhkcekfcjgjlaaVa1
import Derived.Test.YtkhkcekfcjgjlaaProg
import Derived.KernelRfl
set_option linter.all false
set_option linter.unusedSimpArgs false
set_option linter.unusedVariables false
namespace Go.Proofs.Ytkhkcekfcjgjlaa.Va
open Go
noncomputable abbrev PA : Program := Go.Proofs.Try.prog
abbrev f_laws_FnExactNotNeeded : FuncId := 3
def c_laws_FnExactNotNeeded : AF := ⟨3, 138, [.t 6],
  (.seq (.reg [⟨(some 3), none, .m (.box (.t 0))⟩,
     ⟨(some 6), none, .q (.mv (.c (.bool false)))⟩])
  (.seq (.seq (.reg [⟨(some 20), none, .q (.mv (.t 1))⟩,
      ⟨(some 21), none, .q (.len (.t 20))⟩,
      ⟨(some 22), none, .q (.bin .gtr (.t 21) (.c (.int .i64 1048576)))⟩])
   (.cond (.t 22)
    (.seq (.reg [⟨(some 6), none, .q (.mv (.c (.bool true)))⟩])
    .ret)
    .skip))
  (.seq (.seq (.reg [⟨(some 23), none, .q (.mv (.t 2))⟩,
      ⟨(some 24), none, .q (.len (.t 23))⟩,
      ⟨(some 25), none, .q (.bin .gtr (.t 24) (.c (.int .i64 1048576)))⟩])
   (.cond (.t 25)
    (.seq (.reg [⟨(some 6), none, .q (.mv (.c (.bool true)))⟩])
    .ret)
    .skip))
  (.seq (.reg [⟨(some 7), none, .q (.mv (.c (.int .i64 1048576)))⟩])
  (.seq (.reg [⟨(some 26), none, .q (.ld true 1 (.t 3))⟩,
     ⟨(some 27), none, .q (.mv (.t 7))⟩,
     ⟨(some 28), none, .c (.call 7 [(.t 26), (.t 27)])⟩,
     ⟨(some 7), none, .q (.mv (.t 28))⟩])
  (.seq (.seq (.reg [⟨(some 29), none, .q (.mv (.t 7))⟩,
      ⟨(some 30), none, .q (.bin .lss (.t 29) (.c (.int .i64 0)))⟩])
   (.cond (.t 30)
    (.seq (.reg [⟨(some 6), none, .q (.mv (.c (.bool true)))⟩])
    .ret)
    .skip))
  (.seq (.reg [⟨(some 32), none, .q (.ld true 1 (.t 3))⟩,
     ⟨(some 33), none, .c (.call 9 [(.t 32)])⟩,
     ⟨(some 34), none, .q (.mv (.t 1))⟩,
     ⟨(some 35), none, .c (.call 10 [(.t 34)])⟩,
     ⟨(some 36), none, .q (.mv (.t 2))⟩,
     ⟨(some 37), none, .c (.call 11 [(.t 36)])⟩,
     ⟨(some 38), none, .c (.call 8 [(.t 33), (.t 35), (.t 37)])⟩,
     ⟨(some 31), none, .q (.mv (.t 38))⟩,
     ⟨(some 39), none, .q (.ext (.t 31) 0)⟩,
     ⟨(some 40), none, .q (.ext (.t 31) 1)⟩,
     ⟨(some 8), none, .q (.mv (.t 39))⟩,
     ⟨(some 9), none, .q (.mv (.t 40))⟩])
  (.seq (.reg [⟨(some 41), none, .q (.ld true 1 (.t 3))⟩,
     ⟨(some 42), none, .c (.call 9 [(.t 41)])⟩,
     ⟨(some 10), none, .m (.alloc [(.v (.slice none 0 0))])⟩,
     ⟨none, none, .m (.st true 1 (.t 10) (.t 42))⟩])
  (.seq (.reg [⟨(some 43), none, .q (.mv (.t 1))⟩,
     ⟨(some 44), none, .c (.call 10 [(.t 43)])⟩,
     ⟨(some 11), none, .q (.mv (.t 44))⟩])
  (.seq (.reg [⟨(some 45), none, .q (.mv (.t 2))⟩,
     ⟨(some 46), none, .c (.call 11 [(.t 45)])⟩,
     ⟨(some 12), none, .q (.mv (.t 46))⟩])
  (.seq (.reg [⟨(some 48), none, .q (.ld true 1 (.t 10))⟩,
     ⟨(some 49), none, .q (.mv (.t 11))⟩,
     ⟨(some 50), none, .q (.mv (.t 12))⟩,
     ⟨(some 51), none, .c (.call 12 [(.t 48), (.t 49), (.t 50)])⟩,
     ⟨(some 47), none, .q (.mv (.t 51))⟩,
     ⟨(some 52), none, .q (.ext (.t 47) 0)⟩,
     ⟨(some 53), none, .q (.ext (.t 47) 1)⟩,
     ⟨(some 13), none, .q (.mv (.t 52))⟩,
     ⟨(some 14), none, .q (.mv (.t 53))⟩])
  (.seq (.seq (.reg [⟨(some 54), none, .q (.mv (.t 13))⟩,
      ⟨(some 55), none, .q (.mv (.t 8))⟩,
      ⟨(some 56), none, .c (.call 13 [(.t 54), (.t 55)])⟩,
      ⟨(some 57), none, .q (.un .not (.t 56))⟩,
      ⟨(some 58), none, .q (.mv (.t 57))⟩,
      ⟨(some 59), (some (58, false)), .q (.mv (.t 14))⟩,
      ⟨(some 60), (some (58, false)), .q (.mv (.t 9))⟩,
      ⟨(some 61), (some (58, false)), .q (.bin .neq (.t 59) (.t 60))⟩,
      ⟨(some 62), none, .q (.pick (.t 58) (.c (.bool true)) (.t 61))⟩])
   (.cond (.t 62)
    (.seq (.reg [⟨(some 6), none, .q (.mv (.c (.bool false)))⟩])
    .ret)
    .skip))
  (.seq (.seq (.sch (.take 0 ⟨(some 63), none, .q (.ld true 1 (.t 10))⟩ (.take 1 ⟨(some 64), none, .q (.ld true 1 (.t 3))⟩ (.one ⟨(some 65), none, .c (.call 9 [(.t 64)])⟩ [1] (.one ⟨(some 66), none, .c (.call 14 [(.t 63), (.t 65)])⟩ [0] (.take 4 ⟨(some 67), none, .q (.un .not (.t 66))⟩ .done))))))
   (.cond (.t 67)
    (.seq (.reg [⟨(some 6), none, .q (.mv (.c (.bool false)))⟩])
    .ret)
    .skip))
  (.seq (.seq (.reg [⟨(some 68), none, .q (.mv (.t 11))⟩,
      ⟨(some 69), none, .q (.mv (.t 1))⟩,
      ⟨(some 70), none, .c (.call 10 [(.t 69)])⟩,
      ⟨(some 71), none, .c (.call 15 [(.t 68), (.t 70)])⟩,
      ⟨(some 72), none, .q (.un .not (.t 71))⟩])
   (.cond (.t 72)
    (.seq (.reg [⟨(some 6), none, .q (.mv (.c (.bool false)))⟩])
    .ret)
    .skip))
  (.seq (.seq (.reg [⟨(some 73), none, .q (.mv (.t 12))⟩,
      ⟨(some 74), none, .q (.mv (.t 2))⟩,
      ⟨(some 75), none, .c (.call 11 [(.t 74)])⟩,
      ⟨(some 76), none, .c (.call 13 [(.t 73), (.t 75)])⟩,
      ⟨(some 77), none, .q (.un .not (.t 76))⟩])
   (.cond (.t 77)
    (.seq (.reg [⟨(some 6), none, .q (.mv (.c (.bool false)))⟩])
    .ret)
    .skip))
  (.seq (.reg [⟨(some 15), none, .q (.mv (.c (.int .i64 1)))⟩])
  (.seq (.reg [⟨(some 78), none, .q (.ld true 1 (.t 10))⟩,
     ⟨(some 79), none, .q (.mv (.t 15))⟩,
     ⟨(some 80), none, .c (.call 16 [(.t 78), (.t 79)])⟩,
     ⟨(some 15), none, .q (.mv (.t 80))⟩])
  (.seq (.reg [⟨(some 81), none, .q (.mv (.t 11))⟩,
     ⟨(some 82), none, .q (.mv (.t 15))⟩,
     ⟨(some 83), none, .c (.call 17 [(.t 81), (.t 82)])⟩,
     ⟨(some 15), none, .q (.mv (.t 83))⟩])
  (.seq (.reg [⟨(some 84), none, .q (.mv (.t 12))⟩,
     ⟨(some 85), none, .q (.mv (.t 15))⟩,
     ⟨(some 86), none, .c (.call 18 [(.t 84), (.t 85)])⟩,
     ⟨(some 15), none, .q (.mv (.t 86))⟩])
  (.seq (.seq (.reg [⟨(some 87), none, .q (.mv (.t 15))⟩,
      ⟨(some 88), none, .q (.bin .lss (.t 87) (.c (.int .i64 0)))⟩,
      ⟨(some 89), none, .q (.mv (.t 88))⟩,
      ⟨(some 90), (some (89, false)), .q (.mv (.t 13))⟩,
      ⟨(some 91), (some (89, false)), .q (.mv (.t 8))⟩,
      ⟨(some 92), (some (89, false)), .c (.call 13 [(.t 90), (.t 91)])⟩,
      ⟨(some 93), (some (89, false)), .q (.un .not (.t 92))⟩,
      ⟨(some 94), none, .q (.pick (.t 89) (.c (.bool true)) (.t 93))⟩,
      ⟨(some 95), none, .q (.mv (.t 94))⟩,
      ⟨(some 96), (some (95, false)), .q (.mv (.t 14))⟩,
      ⟨(some 97), (some (95, false)), .q (.mv (.t 9))⟩,
      ⟨(some 98), (some (95, false)), .q (.bin .neq (.t 96) (.t 97))⟩,
      ⟨(some 99), none, .q (.pick (.t 95) (.c (.bool true)) (.t 98))⟩])
   (.cond (.t 99)
    (.seq (.reg [⟨(some 6), none, .q (.mv (.c (.bool false)))⟩])
    .ret)
    .skip))
  (.seq (.reg [⟨(some 16), none, .q (.mv (.c (.int .i64 1)))⟩])
  (.seq (.reg [⟨(some 100), none, .q (.mv (.t 13))⟩,
     ⟨(some 101), none, .q (.mv (.t 16))⟩,
     ⟨(some 102), none, .c (.call 18 [(.t 100), (.t 101)])⟩,
     ⟨(some 16), none, .q (.mv (.t 102))⟩])
  (.seq (.reg [⟨(some 17), none, .q (.mv (.c (.int .i64 1)))⟩])
  (.seq (.reg [⟨(some 103), none, .q (.mv (.t 13))⟩,
     ⟨(some 104), none, .q (.mv (.t 17))⟩,
     ⟨(some 105), none, .c (.call 19 [(.t 103), (.t 104)])⟩,
     ⟨(some 17), none, .q (.mv (.t 105))⟩])
  (.seq (.seq (.reg [⟨(some 106), none, .q (.mv (.t 17))⟩,
      ⟨(some 107), none, .q (.bin .lss (.t 106) (.c (.int .i64 0)))⟩])
   (.cond (.t 107)
    (.seq (.reg [⟨(some 6), none, .q (.mv (.c (.bool false)))⟩])
    .ret)
    .skip))
  (.seq (.seq (.reg [⟨(some 108), none, .q (.mv (.t 17))⟩,
      ⟨(some 109), none, .q (.mv (.t 16))⟩,
      ⟨(some 110), none, .q (.bin .neq (.t 108) (.t 109))⟩])
   (.cond (.t 110)
    (.seq (.reg [⟨(some 6), none, .q (.mv (.c (.bool false)))⟩])
    .ret)
    .skip))
  (.seq (.reg [⟨(some 112), none, .q (.ld true 1 (.t 3))⟩,
     ⟨(some 113), none, .c (.call 9 [(.t 112)])⟩,
     ⟨(some 114), none, .q (.mv (.t 1))⟩,
     ⟨(some 115), none, .c (.call 10 [(.t 114)])⟩,
     ⟨(some 116), none, .q (.mv (.t 2))⟩,
     ⟨(some 117), none, .c (.call 11 [(.t 116)])⟩,
     ⟨(some 118), none, .c (.call 12 [(.t 113), (.t 115), (.t 117)])⟩,
     ⟨(some 111), none, .q (.mv (.t 118))⟩,
     ⟨(some 119), none, .q (.ext (.t 111) 0)⟩,
     ⟨(some 120), none, .q (.ext (.t 111) 1)⟩,
     ⟨(some 18), none, .q (.mv (.t 119))⟩,
     ⟨(some 19), none, .q (.mv (.t 120))⟩])
  (.seq (.seq (.reg [⟨(some 121), none, .q (.mv (.t 18))⟩,
      ⟨(some 122), none, .q (.mv (.t 8))⟩,
      ⟨(some 123), none, .c (.call 13 [(.t 121), (.t 122)])⟩,
      ⟨(some 124), none, .q (.un .not (.t 123))⟩,
      ⟨(some 125), none, .q (.mv (.t 124))⟩,
      ⟨(some 126), (some (125, false)), .q (.mv (.t 19))⟩,
      ⟨(some 127), (some (125, false)), .q (.mv (.t 9))⟩,
      ⟨(some 128), (some (125, false)), .q (.bin .neq (.t 126) (.t 127))⟩,
      ⟨(some 129), none, .q (.pick (.t 125) (.c (.bool true)) (.t 128))⟩])
   (.cond (.t 129)
    (.seq (.reg [⟨(some 6), none, .q (.mv (.c (.bool false)))⟩])
    .ret)
    .skip))
  (.seq (.reg [⟨(some 17), none, .q (.mv (.c (.int .i64 1)))⟩])
  (.seq (.reg [⟨(some 130), none, .q (.mv (.t 13))⟩,
     ⟨(some 131), none, .q (.mv (.t 17))⟩,
     ⟨(some 132), none, .c (.call 19 [(.t 130), (.t 131)])⟩,
     ⟨(some 17), none, .q (.mv (.t 132))⟩])
  (.seq (.seq (.reg [⟨(some 133), none, .q (.mv (.t 17))⟩,
      ⟨(some 134), none, .q (.bin .lss (.t 133) (.c (.int .i64 0)))⟩])
   (.cond (.t 134)
    (.seq (.reg [⟨(some 6), none, .q (.mv (.c (.bool false)))⟩])
    .ret)
    .skip))
  (.seq (.seq (.reg [⟨(some 135), none, .q (.mv (.t 17))⟩,
      ⟨(some 136), none, .q (.mv (.t 16))⟩,
      ⟨(some 137), none, .q (.bin .neq (.t 135) (.t 136))⟩])
   (.cond (.t 137)
    (.seq (.reg [⟨(some 6), none, .q (.mv (.c (.bool false)))⟩])
    .ret)
    .skip))
  (.seq (.reg [⟨(some 6), none, .q (.mv (.c (.bool true)))⟩])
  .ret)))))))))))))))))))))))))))))))))⟩
theorem l_laws_FnExactNotNeeded : lowF PA f_laws_FnExactNotNeeded 3 [.s (.take 0 (.take 1 (.one 2 (.one 3 (.take 4 .done)))))] = some c_laws_FnExactNotNeeded := by kernel_rfl
abbrev f_laws_szSpace : FuncId := 7
def c_laws_szSpace : AF := ⟨2, 12, [.t 4],
  (.seq (.reg [⟨(some 2), none, .m (.box (.t 0))⟩,
     ⟨(some 4), none, .q (.mv (.c (.int .i64 0)))⟩])
  (.seq (.reg [⟨(some 5), none, .q (.fad 0 (.t 2))⟩,
     ⟨(some 6), none, .q (.ld false 1 (.t 5))⟩,
     ⟨(some 7), none, .q (.mv (.t 1))⟩,
     ⟨(some 8), none, .c (.call 26 [(.t 6), (.t 7)])⟩,
     ⟨(some 1), none, .q (.mv (.t 8))⟩])
  (.seq (.seq (.reg [⟨(some 9), none, .q (.mv (.t 1))⟩,
      ⟨(some 10), none, .q (.bin .lss (.t 9) (.c (.int .i64 0)))⟩])
   (.cond (.t 10)
    (.seq (.reg [⟨(some 4), none, .q (.mv (.c (.int .i64 (-1))))⟩])
    .ret)
    .skip))
  (.seq (.reg [⟨(some 11), none, .q (.mv (.t 1))⟩,
     ⟨(some 4), none, .q (.mv (.t 11))⟩])
  .ret))))⟩
theorem l_laws_szSpace : lowF PA f_laws_szSpace 2 [] = some c_laws_szSpace := by kernel_rfl
abbrev f_spec_NotNeeded : FuncId := 8
def c_spec_NotNeeded : AF := ⟨3, 62, [.t 6, .t 7],
  (.seq (.reg [⟨(some 3), none, .m (.box (.t 0))⟩,
     ⟨(some 6), none, .q (.mv (.c (.slice none 0 0)))⟩,
     ⟨(some 7), none, .q (.mv (.c (.int .i64 0)))⟩])
  (.seq (.seq (.reg [⟨(some 15), none, .q (.ld true 1 (.t 3))⟩,
      ⟨(some 16), none, .q (.mv (.t 1))⟩,
      ⟨(some 17), none, .q (.mv (.t 2))⟩,
      ⟨(some 18), none, .c (.call 27 [(.t 15), (.t 16), (.t 17), (.c (.int .i64 2))])⟩,
      ⟨(some 8), none, .q (.mv (.t 18))⟩])
   (.seq (.reg [⟨(some 19), none, .q (.mv (.t 8))⟩,
      ⟨(some 20), none, .q (.bin .neq (.t 19) (.c (.int .i64 0)))⟩])
   (.cond (.t 20)
    (.seq (.reg [⟨(some 21), none, .q (.mv (.t 8))⟩,
       ⟨(some 6), none, .q (.mv (.c (.slice none 0 0)))⟩,
       ⟨(some 7), none, .q (.mv (.t 21))⟩])
    .ret)
    .skip)))
  (.seq (.reg [⟨(some 23), none, .q (.ld true 1 (.t 3))⟩,
     ⟨(some 24), none, .q (.mv (.t 1))⟩,
     ⟨(some 25), none, .q (.mv (.t 2))⟩,
     ⟨(some 26), none, .c (.call 28 [(.t 23), (.t 24), (.t 25)])⟩,
     ⟨(some 22), none, .q (.mv (.t 26))⟩,
     ⟨(some 27), none, .q (.ext (.t 22) 0)⟩,
     ⟨(some 28), none, .q (.ext (.t 22) 1)⟩,
     ⟨(some 9), none, .q (.mv (.t 27))⟩,
     ⟨(some 10), none, .q (.mv (.t 28))⟩])
  (.seq (.reg [⟨(some 29), none, .m (.bsl 1 [])⟩,
     ⟨(some 11), none, .q (.mv (.t 29))⟩])
  (.seq (.seq (.reg [⟨(some 30), none, .q (.mv (.t 2))⟩,
      ⟨(some 31), none, .q (.len (.t 30))⟩,
      ⟨(some 32), none, .q (.mv (.c (.int .i64 0)))⟩])
   (.block 0 (.loop [1, 2, 3, 10, 11, 31, 32] (.seq (.reg [⟨(some 33), none, .q (.bin .lss (.t 32) (.t 31))⟩])
     (.seq (.cond (.t 33)
       .skip
       (.exit 0))
     (.seq (.block 1 (.seq (.reg [⟨(some 34), none, .q (.mv (.t 32))⟩,
          ⟨(some 12), none, .q (.mv (.t 34))⟩])
       (.seq (.sch (.take 0 ⟨(some 36), none, .q (.ld true 1 (.t 3))⟩ (.take 1 ⟨(some 37), none, .q (.mv (.t 1))⟩ (.take 2 ⟨(some 38), none, .q (.mv (.t 2))⟩ (.take 3 ⟨(some 39), none, .q (.mv (.t 12))⟩ (.take 4 ⟨(some 40), none, .q (.slc 1 (.t 38) none (some (.t 39)))⟩ (.take 6 ⟨(some 42), none, .q (.mv (.t 2))⟩ (.take 7 ⟨(some 43), none, .q (.mv (.t 12))⟩ (.take 8 ⟨(some 44), none, .q (.bin .add (.t 43) (.c (.int .i64 1)))⟩ (.take 9 ⟨(some 45), none, .q (.slc 1 (.t 42) (some (.t 44)) none)⟩ (.one ⟨(some 41), none, .c (.call 29 [(.t 40)])⟩ [] (.one ⟨(some 46), none, .m (.app 1 8 (.t 41) (.t 45))⟩ [] (.one ⟨(some 47), none, .c (.call 28 [(.t 36), (.t 37), (.t 46)])⟩ [0] (.take 12 ⟨(some 35), none, .q (.mv (.t 47))⟩ (.take 13 ⟨(some 48), none, .q (.ext (.t 35) 0)⟩ (.take 14 ⟨(some 49), none, .q (.ext (.t 35) 1)⟩ (.take 15 ⟨(some 13), none, .q (.mv (.t 48))⟩ (.take 16 ⟨(some 14), none, .q (.mv (.t 49))⟩ .done))))))))))))))))))
       (.seq (.reg [⟨(some 50), none, .q (.mv (.t 14))⟩,
          ⟨(some 51), none, .q (.mv (.t 10))⟩,
          ⟨(some 52), none, .q (.bin .eql (.t 50) (.t 51))⟩])
       (.cond (.t 52)
        (.reg [⟨(some 53), none, .q (.mv (.t 11))⟩,
          ⟨(some 54), none, .q (.mv (.t 2))⟩,
          ⟨(some 55), none, .q (.mv (.t 12))⟩,
          ⟨(some 56), none, .q (.ixs 1 (.t 54) (.t 55))⟩,
          ⟨(some 57), none, .q (.ld false 1 (.t 56))⟩,
          ⟨(some 58), none, .m (.bsl 1 [(.t 57)])⟩,
          ⟨(some 59), none, .m (.app 1 8 (.t 53) (.t 58))⟩,
          ⟨(some 11), none, .q (.mv (.t 59))⟩])
        .skip)))))
     (.reg [⟨(some 60), none, .q (.bin .add (.t 32) (.c (.int .i64 1)))⟩,
       ⟨(some 32), none, .q (.mv (.t 60))⟩])))))))
  (.seq (.reg [⟨(some 61), none, .q (.mv (.t 11))⟩,
     ⟨(some 6), none, .q (.mv (.t 61))⟩,
     ⟨(some 7), none, .q (.mv (.c (.int .i64 0)))⟩])
  .ret))))))⟩
theorem l_spec_NotNeeded : lowF PA f_spec_NotNeeded 3 [.k [1, 2, 3, 10, 11, 31, 32], .s (.take 0 (.take 1 (.take 2 (.take 3 (.take 4 (.take 6 (.take 7 (.take 8 (.take 9 (.one 5 (.one 10 (.one 11 (.take 12 (.take 13 (.take 14 (.take 15 (.take 16 .done)))))))))))))))))] = some c_spec_NotNeeded := by kernel_rfl
abbrev f_laws_toSpace : FuncId := 9
def c_laws_toSpace : AF := ⟨1, 9, [.c 2 true 1],
  (.seq (.reg [⟨(some 1), none, .m (.box (.t 0))⟩,
     ⟨(some 2), none, .m (.alloc [(.v (.slice none 0 0))])⟩])
  (.seq (.reg [⟨(some 3), none, .m (.alloc [(.v (.slice none 0 0))])⟩])
  (.seq (.reg [⟨(some 4), none, .q (.fad 0 (.t 1))⟩,
     ⟨(some 5), none, .q (.ld false 1 (.t 4))⟩,
     ⟨(some 6), none, .c (.call 11 [(.t 5)])⟩,
     ⟨(some 7), none, .q (.fad 0 (.t 3))⟩,
     ⟨none, none, .m (.st false 1 (.t 7) (.t 6))⟩])
  (.seq (.reg [⟨(some 8), none, .q (.ld true 1 (.t 3))⟩,
     ⟨none, none, .m (.st true 1 (.t 2) (.t 8))⟩])
  .ret))))⟩
theorem l_laws_toSpace : lowF PA f_laws_toSpace 1 [] = some c_laws_toSpace := by kernel_rfl
abbrev f_laws_toSlip : FuncId := 10
def c_laws_toSlip : AF := ⟨1, 22, [.t 2],
  (.seq (.reg [⟨(some 2), none, .q (.mv (.c (.slice none 0 0)))⟩])
  (.seq (.reg [⟨(some 5), none, .q (.mv (.t 0))⟩,
     ⟨(some 6), none, .q (.len (.t 5))⟩,
     ⟨(some 7), none, .m (.mks 1 (.v (.int .i64 0)) 8 (.t 6) (.t 6))⟩,
     ⟨(some 3), none, .q (.mv (.t 7))⟩])
  (.seq (.seq (.reg [⟨(some 4), none, .q (.mv (.c (.int .i64 0)))⟩])
   (.block 0 (.loop [0, 3, 4] (.seq (.seq (.reg [⟨(some 8), none, .q (.mv (.t 4))⟩,
         ⟨(some 9), none, .q (.mv (.t 0))⟩,
         ⟨(some 10), none, .q (.len (.t 9))⟩,
         ⟨(some 11), none, .q (.bin .lss (.t 8) (.t 10))⟩])
      (.cond (.t 11)
       .skip
       (.exit 0)))
     (.seq (.block 1 (.reg [⟨(some 14), none, .q (.mv (.t 3))⟩,
         ⟨(some 15), none, .q (.mv (.t 4))⟩,
         ⟨(some 16), none, .q (.mv (.t 0))⟩,
         ⟨(some 17), none, .q (.mv (.t 4))⟩,
         ⟨(some 18), none, .q (.ixs 1 (.t 16) (.t 17))⟩,
         ⟨(some 19), none, .q (.ld false 1 (.t 18))⟩,
         ⟨(some 20), none, .q (.ixs 1 (.t 14) (.t 15))⟩,
         ⟨none, none, .m (.st false 1 (.t 20) (.t 19))⟩]))
     (.reg [⟨(some 12), none, .q (.mv (.t 4))⟩,
       ⟨(some 13), none, .q (.bin .add (.t 12) (.c (.int .i64 1)))⟩,
       ⟨(some 4), none, .q (.mv (.t 13))⟩]))))))
  (.seq (.reg [⟨(some 21), none, .q (.mv (.t 3))⟩,
     ⟨(some 2), none, .q (.mv (.t 21))⟩])
  .ret))))⟩
theorem l_laws_toSlip : lowF PA f_laws_toSlip 1 [.k [0, 3, 4]] = some c_laws_toSlip := by kernel_rfl
abbrev f_laws_toInt64S : FuncId := 11
def c_laws_toInt64S : AF := ⟨1, 22, [.t 2],
  (.seq (.reg [⟨(some 2), none, .q (.mv (.c (.slice none 0 0)))⟩])
  (.seq (.reg [⟨(some 5), none, .q (.mv (.t 0))⟩,
     ⟨(some 6), none, .q (.len (.t 5))⟩,
     ⟨(some 7), none, .m (.mks 1 (.v (.int .i64 0)) 8 (.t 6) (.t 6))⟩,
     ⟨(some 3), none, .q (.mv (.t 7))⟩])
  (.seq (.seq (.reg [⟨(some 4), none, .q (.mv (.c (.int .i64 0)))⟩])
   (.block 0 (.loop [0, 3, 4] (.seq (.seq (.reg [⟨(some 8), none, .q (.mv (.t 4))⟩,
         ⟨(some 9), none, .q (.mv (.t 0))⟩,
         ⟨(some 10), none, .q (.len (.t 9))⟩,
         ⟨(some 11), none, .q (.bin .lss (.t 8) (.t 10))⟩])
      (.cond (.t 11)
       .skip
       (.exit 0)))
     (.seq (.block 1 (.reg [⟨(some 14), none, .q (.mv (.t 3))⟩,
         ⟨(some 15), none, .q (.mv (.t 4))⟩,
         ⟨(some 16), none, .q (.mv (.t 0))⟩,
         ⟨(some 17), none, .q (.mv (.t 4))⟩,
         ⟨(some 18), none, .q (.ixs 1 (.t 16) (.t 17))⟩,
         ⟨(some 19), none, .q (.ld false 1 (.t 18))⟩,
         ⟨(some 20), none, .q (.ixs 1 (.t 14) (.t 15))⟩,
         ⟨none, none, .m (.st false 1 (.t 20) (.t 19))⟩]))
     (.reg [⟨(some 12), none, .q (.mv (.t 4))⟩,
       ⟨(some 13), none, .q (.bin .add (.t 12) (.c (.int .i64 1)))⟩,
       ⟨(some 4), none, .q (.mv (.t 13))⟩]))))))
  (.seq (.reg [⟨(some 21), none, .q (.mv (.t 3))⟩,
     ⟨(some 2), none, .q (.mv (.t 21))⟩])
  .ret))))⟩
theorem l_laws_toInt64S : lowF PA f_laws_toInt64S 1 [.k [0, 3, 4]] = some c_laws_toInt64S := by kernel_rfl
abbrev f_impl_NotNeeded : FuncId := 12
def c_impl_NotNeeded : AF := ⟨3, 103, [.t 6, .t 7],
  (.seq (.reg [⟨(some 3), none, .m (.box (.t 0))⟩,
     ⟨(some 6), none, .q (.mv (.c (.slice none 0 0)))⟩,
     ⟨(some 7), none, .q (.mv (.c (.int .i64 0)))⟩])
  (.seq (.seq (.reg [⟨(some 23), none, .q (.ld true 1 (.t 3))⟩,
      ⟨(some 24), none, .q (.mv (.t 1))⟩,
      ⟨(some 25), none, .m (.bsl 1 [(.t 24)])⟩,
      ⟨(some 26), none, .c (.call 30 [(.t 23), (.t 25)])⟩,
      ⟨(some 8), none, .q (.mv (.t 26))⟩])
   (.seq (.reg [⟨(some 27), none, .q (.mv (.t 8))⟩,
      ⟨(some 28), none, .q (.bin .neq (.t 27) (.c (.int .i64 0)))⟩])
   (.cond (.t 28)
    (.seq (.reg [⟨(some 29), none, .q (.mv (.t 8))⟩,
       ⟨(some 6), none, .q (.mv (.c (.slice none 0 0)))⟩,
       ⟨(some 7), none, .q (.mv (.t 29))⟩])
    .ret)
    .skip)))
  (.seq (.seq (.reg [⟨(some 30), none, .q (.ld true 1 (.t 3))⟩,
      ⟨(some 31), none, .q (.mv (.t 2))⟩,
      ⟨(some 32), none, .c (.call 31 [(.t 30), (.t 31), (.c (.slice none 0 0))])⟩,
      ⟨(some 9), none, .q (.mv (.t 32))⟩])
   (.seq (.reg [⟨(some 33), none, .q (.mv (.t 9))⟩,
      ⟨(some 34), none, .q (.bin .neq (.t 33) (.c (.int .i64 0)))⟩])
   (.cond (.t 34)
    (.seq (.reg [⟨(some 35), none, .q (.mv (.t 9))⟩,
       ⟨(some 6), none, .q (.mv (.c (.slice none 0 0)))⟩,
       ⟨(some 7), none, .q (.mv (.t 35))⟩])
    .ret)
    .skip)))
  (.seq (.seq (.reg [⟨(some 36), none, .q (.mv (.t 2))⟩,
      ⟨(some 37), none, .q (.len (.t 36))⟩,
      ⟨(some 38), none, .q (.bin .lss (.t 37) (.c (.int .i64 2)))⟩])
   (.cond (.t 38)
    (.seq (.reg [⟨(some 6), none, .q (.mv (.c (.slice none 0 0)))⟩,
       ⟨(some 7), none, .q (.mv (.c (.int .i64 5)))⟩])
    .ret)
    .skip))
  (.seq (.reg [⟨(some 40), none, .q (.ld true 1 (.t 3))⟩,
     ⟨(some 41), none, .q (.mv (.t 1))⟩,
     ⟨(some 42), none, .q (.mv (.t 2))⟩,
     ⟨(some 43), none, .c (.call 32 [(.t 40), (.t 41), (.t 42)])⟩,
     ⟨(some 39), none, .q (.mv (.t 43))⟩,
     ⟨(some 44), none, .q (.ext (.t 39) 0)⟩,
     ⟨(some 45), none, .q (.ext (.t 39) 1)⟩,
     ⟨(some 10), none, .q (.mv (.t 44))⟩,
     ⟨(some 11), none, .q (.mv (.t 45))⟩])
  (.seq (.reg [⟨(some 46), none, .q (.ld true 1 (.t 3))⟩,
     ⟨(some 47), none, .q (.mv (.t 2))⟩,
     ⟨(some 48), none, .c (.call 33 [(.t 46), (.t 47)])⟩,
     ⟨(some 12), none, .q (.mv (.t 48))⟩])
  (.seq (.reg [⟨(some 49), none, .q (.mv (.t 2))⟩,
     ⟨(some 50), none, .q (.len (.t 49))⟩,
     ⟨(some 51), none, .m (.mks 1 (.v (.bool false)) 1 (.t 50) (.t 50))⟩,
     ⟨(some 13), none, .q (.mv (.t 51))⟩])
  (.seq (.seq (.sch (.take 0 ⟨(some 52), none, .q (.ld true 1 (.t 3))⟩ (.take 1 ⟨(some 53), none, .q (.ld true 1 (.t 3))⟩ (.take 2 ⟨(some 54), none, .q (.mv (.t 1))⟩ (.take 6 ⟨(some 58), none, .q (.mv (.c (.int .i64 0)))⟩ (.one ⟨(some 55), none, .c (.call 34 [(.t 53), (.t 54)])⟩ [1] (.one ⟨(some 56), none, .c (.call 33 [(.t 52), (.t 55)])⟩ [0] (.take 5 ⟨(some 57), none, .q (.len (.t 56))⟩ .done))))))))
   (.block 0 (.loop [2, 11, 12, 13, 56, 57, 58] (.seq (.reg [⟨(some 59), none, .q (.bin .lss (.t 58) (.t 57))⟩])
     (.seq (.cond (.t 59)
       .skip
       (.exit 0))
     (.seq (.block 1 (.seq (.reg [⟨(some 60), none, .q (.ixs 8 (.t 56) (.t 58))⟩,
          ⟨(some 61), none, .q (.ld true 8 (.t 60))⟩,
          ⟨(some 15), none, .m (.alloc [(.v (.int .u8 0)), (.v (.int .u8 0)), (.v (.int .u8 0)), (.v (.int .u8 0)), (.v (.int .u8 0)), (.v (.int .u8 0)), (.v (.int .u8 0)), (.v (.int .u8 0))])⟩,
          ⟨none, none, .m (.st true 8 (.t 15) (.t 61))⟩])
       (.seq (.reg [⟨(some 16), none, .q (.mv (.c (.int .i64 0)))⟩,
          ⟨(some 17), none, .q (.mv (.c (.int .i64 0)))⟩])
       (.seq (.seq (.reg [⟨(some 62), none, .q (.mv (.t 12))⟩,
           ⟨(some 63), none, .q (.len (.t 62))⟩,
           ⟨(some 64), none, .q (.mv (.c (.int .i64 0)))⟩])
        (.block 2 (.loop [2, 11, 12, 13, 15, 16, 17, 56, 57, 58, 62, 63, 64] (.seq (.reg [⟨(some 65), none, .q (.bin .lss (.t 64) (.t 63))⟩])
          (.seq (.cond (.t 65)
            .skip
            (.exit 2))
          (.seq (.block 3 (.seq (.reg [⟨(some 66), none, .q (.mv (.t 64))⟩,
               ⟨(some 67), none, .q (.ixs 8 (.t 62) (.t 64))⟩,
               ⟨(some 68), none, .q (.ld true 8 (.t 67))⟩,
               ⟨(some 19), none, .m (.alloc [(.v (.int .u8 0)), (.v (.int .u8 0)), (.v (.int .u8 0)), (.v (.int .u8 0)), (.v (.int .u8 0)), (.v (.int .u8 0)), (.v (.int .u8 0)), (.v (.int .u8 0))])⟩,
               ⟨(some 18), none, .q (.mv (.t 66))⟩,
               ⟨none, none, .m (.st true 8 (.t 19) (.t 68))⟩])
            (.seq (.reg [⟨(some 69), none, .q (.ld true 8 (.t 15))⟩,
               ⟨(some 70), none, .q (.ld true 8 (.t 19))⟩,
               ⟨(some 71), none, .c (.call 35 [(.t 69), (.t 70)])⟩,
               ⟨(some 72), none, .q (.mv (.t 11))⟩,
               ⟨(some 73), none, .q (.bin .leq (.t 71) (.t 72))⟩])
            (.cond (.t 73)
             (.seq (.reg [⟨(some 74), none, .q (.mv (.t 16))⟩,
                ⟨(some 75), none, .q (.bin .add (.t 74) (.c (.int .i64 1)))⟩,
                ⟨(some 16), none, .q (.mv (.t 75))⟩])
             (.reg [⟨(some 76), none, .q (.mv (.t 18))⟩,
               ⟨(some 17), none, .q (.mv (.t 76))⟩]))
             .skip))))
          (.reg [⟨(some 77), none, .q (.bin .add (.t 64) (.c (.int .i64 1)))⟩,
            ⟨(some 64), none, .q (.mv (.t 77))⟩])))))))
       (.seq (.reg [⟨(some 78), none, .q (.mv (.t 16))⟩,
          ⟨(some 79), none, .q (.bin .eql (.t 78) (.c (.int .i64 1)))⟩])
       (.cond (.t 79)
        (.reg [⟨(some 80), none, .q (.mv (.t 13))⟩,
          ⟨(some 81), none, .q (.mv (.t 17))⟩,
          ⟨(some 82), none, .q (.ixs 1 (.t 80) (.t 81))⟩,
          ⟨none, none, .m (.st false 1 (.t 82) (.c (.bool true)))⟩])
        .skip))))))
     (.reg [⟨(some 83), none, .q (.bin .add (.t 58) (.c (.int .i64 1)))⟩,
       ⟨(some 58), none, .q (.mv (.t 83))⟩])))))))
  (.seq (.reg [⟨(some 84), none, .m (.bsl 1 [])⟩,
     ⟨(some 20), none, .q (.mv (.t 84))⟩])
  (.seq (.seq (.reg [⟨(some 85), none, .q (.mv (.t 2))⟩,
      ⟨(some 86), none, .q (.len (.t 85))⟩,
      ⟨(some 87), none, .q (.mv (.c (.int .i64 0)))⟩])
   (.block 4 (.loop [13, 20, 85, 86, 87] (.seq (.reg [⟨(some 88), none, .q (.bin .lss (.t 87) (.t 86))⟩])
     (.seq (.cond (.t 88)
       .skip
       (.exit 4))
     (.seq (.block 5 (.seq (.reg [⟨(some 89), none, .q (.mv (.t 87))⟩,
          ⟨(some 90), none, .q (.ixs 1 (.t 85) (.t 87))⟩,
          ⟨(some 91), none, .q (.ld false 1 (.t 90))⟩,
          ⟨(some 21), none, .q (.mv (.t 89))⟩,
          ⟨(some 22), none, .q (.mv (.t 91))⟩])
       (.seq (.reg [⟨(some 92), none, .q (.mv (.t 13))⟩,
          ⟨(some 93), none, .q (.mv (.t 21))⟩,
          ⟨(some 94), none, .q (.ixs 1 (.t 92) (.t 93))⟩,
          ⟨(some 95), none, .q (.ld false 1 (.t 94))⟩,
          ⟨(some 96), none, .q (.un .not (.t 95))⟩])
       (.cond (.t 96)
        (.reg [⟨(some 97), none, .q (.mv (.t 20))⟩,
          ⟨(some 98), none, .q (.mv (.t 22))⟩,
          ⟨(some 99), none, .m (.bsl 1 [(.t 98)])⟩,
          ⟨(some 100), none, .m (.app 1 8 (.t 97) (.t 99))⟩,
          ⟨(some 20), none, .q (.mv (.t 100))⟩])
        .skip))))
     (.reg [⟨(some 101), none, .q (.bin .add (.t 87) (.c (.int .i64 1)))⟩,
       ⟨(some 87), none, .q (.mv (.t 101))⟩])))))))
  (.seq (.reg [⟨(some 102), none, .q (.mv (.t 20))⟩,
     ⟨(some 6), none, .q (.mv (.t 102))⟩,
     ⟨(some 7), none, .q (.mv (.c (.int .i64 0)))⟩])
  .ret)))))))))))⟩
theorem l_impl_NotNeeded : lowF PA f_impl_NotNeeded 3 [.s (.take 0 (.take 1 (.take 2 (.take 6 (.one 3 (.one 4 (.take 5 .done))))))), .k [2, 11, 12, 13, 56, 57, 58], .k [2, 11, 12, 13, 15, 16, 17, 56, 57, 58, 62, 63, 64], .k [13, 20, 85, 86, 87]] = some c_impl_NotNeeded := by kernel_rfl
abbrev f_laws_eqInt64S : FuncId := 13
def c_laws_eqInt64S : AF := ⟨2, 26, [.t 4],
  (.seq (.reg [⟨(some 4), none, .q (.mv (.c (.bool false)))⟩])
  (.seq (.seq (.reg [⟨(some 6), none, .q (.mv (.t 0))⟩,
      ⟨(some 7), none, .q (.len (.t 6))⟩,
      ⟨(some 8), none, .q (.mv (.t 1))⟩,
      ⟨(some 9), none, .q (.len (.t 8))⟩,
      ⟨(some 10), none, .q (.bin .neq (.t 7) (.t 9))⟩])
   (.cond (.t 10)
    (.seq (.reg [⟨(some 4), none, .q (.mv (.c (.bool false)))⟩])
    .ret)
    .skip))
  (.seq (.seq (.reg [⟨(some 5), none, .q (.mv (.c (.int .i64 0)))⟩])
   (.block 0 (.loop [0, 1, 5] (.seq (.seq (.reg [⟨(some 11), none, .q (.mv (.t 5))⟩,
         ⟨(some 12), none, .q (.mv (.t 0))⟩,
         ⟨(some 13), none, .q (.len (.t 12))⟩,
         ⟨(some 14), none, .q (.bin .lss (.t 11) (.t 13))⟩])
      (.cond (.t 14)
       .skip
       (.exit 0)))
     (.seq (.block 1 (.seq (.sch (.take 0 ⟨(some 17), none, .q (.mv (.t 0))⟩ (.take 1 ⟨(some 18), none, .q (.mv (.t 5))⟩ (.take 2 ⟨(some 19), none, .q (.ixs 1 (.t 17) (.t 18))⟩ (.take 3 ⟨(some 20), none, .q (.ld false 1 (.t 19))⟩ (.take 4 ⟨(some 21), none, .q (.mv (.t 1))⟩ (.take 5 ⟨(some 22), none, .q (.mv (.t 5))⟩ (.take 6 ⟨(some 23), none, .q (.ixs 1 (.t 21) (.t 22))⟩ (.take 7 ⟨(some 24), none, .q (.ld false 1 (.t 23))⟩ (.take 8 ⟨(some 25), none, .q (.bin .neq (.t 20) (.t 24))⟩ .done))))))))))
       (.cond (.t 25)
        (.seq (.reg [⟨(some 4), none, .q (.mv (.c (.bool false)))⟩])
        .ret)
        .skip)))
     (.reg [⟨(some 15), none, .q (.mv (.t 5))⟩,
       ⟨(some 16), none, .q (.bin .add (.t 15) (.c (.int .i64 1)))⟩,
       ⟨(some 5), none, .q (.mv (.t 16))⟩]))))))
  (.seq (.reg [⟨(some 4), none, .q (.mv (.c (.bool true)))⟩])
  .ret))))⟩
theorem l_laws_eqInt64S : lowF PA f_laws_eqInt64S 2 [.k [0, 1, 5], .s (.take 0 (.take 1 (.take 2 (.take 3 (.take 4 (.take 5 (.take 6 (.take 7 (.take 8 .done)))))))))] = some c_laws_eqInt64S := by kernel_rfl
abbrev f_laws_eqSpace : FuncId := 14
def c_laws_eqSpace : AF := ⟨2, 11, [.t 4],
  (.seq (.reg [⟨(some 2), none, .m (.box (.t 0))⟩,
     ⟨(some 3), none, .m (.box (.t 1))⟩,
     ⟨(some 4), none, .q (.mv (.c (.bool false)))⟩])
  (.seq (.seq (.reg [⟨(some 5), none, .q (.fad 0 (.t 2))⟩,
      ⟨(some 6), none, .q (.ld false 1 (.t 5))⟩,
      ⟨(some 7), none, .q (.fad 0 (.t 3))⟩,
      ⟨(some 8), none, .q (.ld false 1 (.t 7))⟩,
      ⟨(some 9), none, .c (.call 13 [(.t 6), (.t 8)])⟩,
      ⟨(some 10), none, .q (.un .not (.t 9))⟩])
   (.cond (.t 10)
    (.seq (.reg [⟨(some 4), none, .q (.mv (.c (.bool false)))⟩])
    .ret)
    .skip))
  (.seq (.reg [⟨(some 4), none, .q (.mv (.c (.bool true)))⟩])
  .ret)))⟩
theorem l_laws_eqSpace : lowF PA f_laws_eqSpace 2 [] = some c_laws_eqSpace := by kernel_rfl
abbrev f_laws_eqSlip : FuncId := 15
def c_laws_eqSlip : AF := ⟨2, 26, [.t 4],
  (.seq (.reg [⟨(some 4), none, .q (.mv (.c (.bool false)))⟩])
  (.seq (.seq (.reg [⟨(some 6), none, .q (.mv (.t 0))⟩,
      ⟨(some 7), none, .q (.len (.t 6))⟩,
      ⟨(some 8), none, .q (.mv (.t 1))⟩,
      ⟨(some 9), none, .q (.len (.t 8))⟩,
      ⟨(some 10), none, .q (.bin .neq (.t 7) (.t 9))⟩])
   (.cond (.t 10)
    (.seq (.reg [⟨(some 4), none, .q (.mv (.c (.bool false)))⟩])
    .ret)
    .skip))
  (.seq (.seq (.reg [⟨(some 5), none, .q (.mv (.c (.int .i64 0)))⟩])
   (.block 0 (.loop [0, 1, 5] (.seq (.seq (.reg [⟨(some 11), none, .q (.mv (.t 5))⟩,
         ⟨(some 12), none, .q (.mv (.t 0))⟩,
         ⟨(some 13), none, .q (.len (.t 12))⟩,
         ⟨(some 14), none, .q (.bin .lss (.t 11) (.t 13))⟩])
      (.cond (.t 14)
       .skip
       (.exit 0)))
     (.seq (.block 1 (.seq (.sch (.take 0 ⟨(some 17), none, .q (.mv (.t 0))⟩ (.take 1 ⟨(some 18), none, .q (.mv (.t 5))⟩ (.take 2 ⟨(some 19), none, .q (.ixs 1 (.t 17) (.t 18))⟩ (.take 3 ⟨(some 20), none, .q (.ld false 1 (.t 19))⟩ (.take 4 ⟨(some 21), none, .q (.mv (.t 1))⟩ (.take 5 ⟨(some 22), none, .q (.mv (.t 5))⟩ (.take 6 ⟨(some 23), none, .q (.ixs 1 (.t 21) (.t 22))⟩ (.take 7 ⟨(some 24), none, .q (.ld false 1 (.t 23))⟩ (.take 8 ⟨(some 25), none, .q (.bin .neq (.t 20) (.t 24))⟩ .done))))))))))
       (.cond (.t 25)
        (.seq (.reg [⟨(some 4), none, .q (.mv (.c (.bool false)))⟩])
        .ret)
        .skip)))
     (.reg [⟨(some 15), none, .q (.mv (.t 5))⟩,
       ⟨(some 16), none, .q (.bin .add (.t 15) (.c (.int .i64 1)))⟩,
       ⟨(some 5), none, .q (.mv (.t 16))⟩]))))))
  (.seq (.reg [⟨(some 4), none, .q (.mv (.c (.bool true)))⟩])
  .ret))))⟩
theorem l_laws_eqSlip : lowF PA f_laws_eqSlip 2 [.k [0, 1, 5], .s (.take 0 (.take 1 (.take 2 (.take 3 (.take 4 (.take 5 (.take 6 (.take 7 (.take 8 .done)))))))))] = some c_laws_eqSlip := by kernel_rfl
abbrev f_laws_markSpace : FuncId := 16
def c_laws_markSpace : AF := ⟨2, 10, [.t 4],
  (.seq (.reg [⟨(some 2), none, .m (.box (.t 0))⟩,
     ⟨(some 4), none, .q (.mv (.c (.int .i64 0)))⟩])
  (.seq (.reg [⟨(some 5), none, .q (.fad 0 (.t 2))⟩,
     ⟨(some 6), none, .q (.ld false 1 (.t 5))⟩,
     ⟨(some 7), none, .q (.mv (.t 1))⟩,
     ⟨(some 8), none, .c (.call 18 [(.t 6), (.t 7)])⟩,
     ⟨(some 1), none, .q (.mv (.t 8))⟩])
  (.seq (.reg [⟨(some 9), none, .q (.mv (.t 1))⟩,
     ⟨(some 4), none, .q (.mv (.t 9))⟩])
  .ret)))⟩
theorem l_laws_markSpace : lowF PA f_laws_markSpace 2 [] = some c_laws_markSpace := by kernel_rfl
abbrev f_laws_markSlip : FuncId := 17
def c_laws_markSlip : AF := ⟨2, 19, [.t 4],
  (.seq (.reg [⟨(some 4), none, .q (.mv (.c (.int .i64 0)))⟩])
  (.seq (.seq (.reg [⟨(some 5), none, .q (.mv (.c (.int .i64 0)))⟩])
   (.block 0 (.loop [0, 1, 5, 19] (.seq (.seq (.reg [⟨(some 6), none, .q (.mv (.t 5))⟩,
         ⟨(some 7), none, .q (.mv (.t 0))⟩,
         ⟨(some 8), none, .q (.len (.t 7))⟩,
         ⟨(some 9), none, .q (.bin .lss (.t 6) (.t 8))⟩])
      (.cond (.t 9)
       .skip
       (.exit 0)))
     (.seq (.block 1 (.seq (.reg [⟨(some 12), none, .q (.mv (.t 0))⟩,
          ⟨(some 13), none, .q (.mv (.t 5))⟩,
          ⟨(some 14), none, .q (.mv (.t 1))⟩,
          ⟨(some 15), none, .q (.ixs 1 (.t 12) (.t 13))⟩,
          ⟨none, none, .m (.st false 1 (.t 15) (.t 14))⟩])
       (.reg [⟨(some 16), none, .q (.mv (.t 1))⟩,
         ⟨(some 17), none, .q (.bin .add (.t 16) (.c (.int .i64 1)))⟩,
         ⟨(some 1), none, .q (.mv (.t 17))⟩])))
     (.reg [⟨(some 10), none, .q (.mv (.t 5))⟩,
       ⟨(some 11), none, .q (.bin .add (.t 10) (.c (.int .i64 1)))⟩,
       ⟨(some 5), none, .q (.mv (.t 11))⟩]))))))
  (.seq (.reg [⟨(some 18), none, .q (.mv (.t 1))⟩,
     ⟨(some 4), none, .q (.mv (.t 18))⟩])
  .ret)))⟩
theorem l_laws_markSlip : lowF PA f_laws_markSlip 2 [.k [0, 1, 5, 19]] = some c_laws_markSlip := by kernel_rfl
abbrev f_laws_markInt64S : FuncId := 18
def c_laws_markInt64S : AF := ⟨2, 19, [.t 4],
  (.seq (.reg [⟨(some 4), none, .q (.mv (.c (.int .i64 0)))⟩])
  (.seq (.seq (.reg [⟨(some 5), none, .q (.mv (.c (.int .i64 0)))⟩])
   (.block 0 (.loop [0, 1, 5, 19] (.seq (.seq (.reg [⟨(some 6), none, .q (.mv (.t 5))⟩,
         ⟨(some 7), none, .q (.mv (.t 0))⟩,
         ⟨(some 8), none, .q (.len (.t 7))⟩,
         ⟨(some 9), none, .q (.bin .lss (.t 6) (.t 8))⟩])
      (.cond (.t 9)
       .skip
       (.exit 0)))
     (.seq (.block 1 (.seq (.reg [⟨(some 12), none, .q (.mv (.t 0))⟩,
          ⟨(some 13), none, .q (.mv (.t 5))⟩,
          ⟨(some 14), none, .q (.mv (.t 1))⟩,
          ⟨(some 15), none, .q (.ixs 1 (.t 12) (.t 13))⟩,
          ⟨none, none, .m (.st false 1 (.t 15) (.t 14))⟩])
       (.reg [⟨(some 16), none, .q (.mv (.t 1))⟩,
         ⟨(some 17), none, .q (.bin .add (.t 16) (.c (.int .i64 1)))⟩,
         ⟨(some 1), none, .q (.mv (.t 17))⟩])))
     (.reg [⟨(some 10), none, .q (.mv (.t 5))⟩,
       ⟨(some 11), none, .q (.bin .add (.t 10) (.c (.int .i64 1)))⟩,
       ⟨(some 5), none, .q (.mv (.t 11))⟩]))))))
  (.seq (.reg [⟨(some 18), none, .q (.mv (.t 1))⟩,
     ⟨(some 4), none, .q (.mv (.t 18))⟩])
  .ret)))⟩
theorem l_laws_markInt64S : lowF PA f_laws_markInt64S 2 [.k [0, 1, 5, 19]] = some c_laws_markInt64S := by kernel_rfl
abbrev f_laws_heldInt64S : FuncId := 19
def c_laws_heldInt64S : AF := ⟨2, 21, [.t 4],
  (.seq (.reg [⟨(some 4), none, .q (.mv (.c (.int .i64 0)))⟩])
  (.seq (.seq (.reg [⟨(some 5), none, .q (.mv (.c (.int .i64 0)))⟩])
   (.block 0 (.loop [0, 1, 5] (.seq (.seq (.reg [⟨(some 6), none, .q (.mv (.t 5))⟩,
         ⟨(some 7), none, .q (.mv (.t 0))⟩,
         ⟨(some 8), none, .q (.len (.t 7))⟩,
         ⟨(some 9), none, .q (.bin .lss (.t 6) (.t 8))⟩])
      (.cond (.t 9)
       .skip
       (.exit 0)))
     (.seq (.block 1 (.seq (.seq (.reg [⟨(some 12), none, .q (.mv (.t 0))⟩,
           ⟨(some 13), none, .q (.mv (.t 5))⟩,
           ⟨(some 14), none, .q (.ixs 1 (.t 12) (.t 13))⟩,
           ⟨(some 15), none, .q (.ld false 1 (.t 14))⟩,
           ⟨(some 16), none, .q (.mv (.t 1))⟩,
           ⟨(some 17), none, .q (.bin .neq (.t 15) (.t 16))⟩])
        (.cond (.t 17)
         (.seq (.reg [⟨(some 4), none, .q (.mv (.c (.int .i64 (-1))))⟩])
         .ret)
         .skip))
       (.reg [⟨(some 18), none, .q (.mv (.t 1))⟩,
         ⟨(some 19), none, .q (.bin .add (.t 18) (.c (.int .i64 1)))⟩,
         ⟨(some 1), none, .q (.mv (.t 19))⟩])))
     (.reg [⟨(some 10), none, .q (.mv (.t 5))⟩,
       ⟨(some 11), none, .q (.bin .add (.t 10) (.c (.int .i64 1)))⟩,
       ⟨(some 5), none, .q (.mv (.t 11))⟩]))))))
  (.seq (.reg [⟨(some 20), none, .q (.mv (.t 1))⟩,
     ⟨(some 4), none, .q (.mv (.t 20))⟩])
  .ret)))⟩
theorem l_laws_heldInt64S : lowF PA f_laws_heldInt64S 2 [.k [0, 1, 5]] = some c_laws_heldInt64S := by kernel_rfl
abbrev f_laws_szInt64S : FuncId := 26
def c_laws_szInt64S : AF := ⟨2, 12, [.t 4],
  (.seq (.reg [⟨(some 4), none, .q (.mv (.c (.int .i64 0)))⟩])
  (.seq (.reg [⟨(some 5), none, .q (.mv (.t 1))⟩,
     ⟨(some 6), none, .q (.mv (.t 0))⟩,
     ⟨(some 7), none, .q (.len (.t 6))⟩,
     ⟨(some 8), none, .q (.bin .sub (.t 5) (.t 7))⟩,
     ⟨(some 1), none, .q (.mv (.t 8))⟩])
  (.seq (.seq (.reg [⟨(some 9), none, .q (.mv (.t 1))⟩,
      ⟨(some 10), none, .q (.bin .lss (.t 9) (.c (.int .i64 0)))⟩])
   (.cond (.t 10)
    (.seq (.reg [⟨(some 4), none, .q (.mv (.c (.int .i64 (-1))))⟩])
    .ret)
    .skip))
  (.seq (.reg [⟨(some 11), none, .q (.mv (.t 1))⟩,
     ⟨(some 4), none, .q (.mv (.t 11))⟩])
  .ret))))⟩
theorem l_laws_szInt64S : lowF PA f_laws_szInt64S 2 [] = some c_laws_szInt64S := by kernel_rfl
abbrev f_spec_l07Given : FuncId := 27
def c_spec_l07Given : AF := ⟨4, 28, [.t 8],
  (.seq (.reg [⟨(some 4), none, .m (.box (.t 0))⟩,
     ⟨(some 8), none, .q (.mv (.c (.int .i64 0)))⟩])
  (.seq (.reg [⟨(some 10), none, .q (.ld true 1 (.t 4))⟩,
     ⟨(some 11), none, .q (.mv (.t 1))⟩,
     ⟨(some 12), none, .m (.bsl 1 [(.t 11)])⟩,
     ⟨(some 13), none, .c (.call 46 [(.t 10), (.t 12)])⟩,
     ⟨(some 9), none, .q (.mv (.t 13))⟩])
  (.seq (.seq (.reg [⟨(some 14), none, .q (.mv (.t 9))⟩,
      ⟨(some 15), none, .q (.bin .eql (.t 14) (.c (.int .i64 0)))⟩])
   (.cond (.t 15)
    (.reg [⟨(some 16), none, .q (.ld true 1 (.t 4))⟩,
      ⟨(some 17), none, .q (.mv (.t 2))⟩,
      ⟨(some 18), none, .c (.call 47 [(.t 16), (.t 17)])⟩,
      ⟨(some 9), none, .q (.mv (.t 18))⟩])
    .skip))
  (.seq (.seq (.reg [⟨(some 19), none, .q (.mv (.t 9))⟩,
      ⟨(some 20), none, .q (.bin .eql (.t 19) (.c (.int .i64 0)))⟩,
      ⟨(some 21), none, .q (.mv (.t 20))⟩,
      ⟨(some 22), (some (21, true)), .q (.mv (.t 2))⟩,
      ⟨(some 23), (some (21, true)), .q (.len (.t 22))⟩,
      ⟨(some 24), (some (21, true)), .q (.mv (.t 3))⟩,
      ⟨(some 25), (some (21, true)), .q (.bin .lss (.t 23) (.t 24))⟩,
      ⟨(some 26), none, .q (.pick (.t 21) (.t 25) (.c (.bool false)))⟩])
   (.cond (.t 26)
    (.seq (.reg [⟨(some 8), none, .q (.mv (.c (.int .i64 5)))⟩])
    .ret)
    .skip))
  (.seq (.reg [⟨(some 27), none, .q (.mv (.t 9))⟩,
     ⟨(some 8), none, .q (.mv (.t 27))⟩])
  .ret)))))⟩
theorem l_spec_l07Given : lowF PA f_spec_l07Given 4 [] = some c_spec_l07Given := by kernel_rfl
abbrev f_spec_l07Worst : FuncId := 28
def c_spec_l07Worst : AF := ⟨3, 43, [.t 6, .t 7],
  (.seq (.reg [⟨(some 3), none, .m (.box (.t 0))⟩,
     ⟨(some 6), none, .q (.mv (.c (.int .i64 0)))⟩,
     ⟨(some 7), none, .q (.mv (.c (.int .i64 0)))⟩])
  (.seq (.reg [⟨(some 13), none, .q (.ld true 1 (.t 3))⟩,
     ⟨(some 14), none, .q (.mv (.t 1))⟩,
     ⟨(some 15), none, .c (.call 48 [(.t 13), (.t 14)])⟩,
     ⟨(some 8), none, .q (.mv (.t 15))⟩,
     ⟨(some 9), none, .q (.mv (.c (.int .i64 (-1))))⟩,
     ⟨(some 10), none, .q (.mv (.c (.int .i64 0)))⟩])
  (.seq (.seq (.reg [⟨(some 16), none, .q (.mv (.t 8))⟩,
      ⟨(some 17), none, .q (.len (.t 16))⟩,
      ⟨(some 18), none, .q (.mv (.c (.int .i64 0)))⟩])
   (.block 0 (.loop [2, 3, 8, 9, 10, 17, 18] (.seq (.reg [⟨(some 19), none, .q (.bin .lss (.t 18) (.t 17))⟩])
     (.seq (.cond (.t 19)
       .skip
       (.exit 0))
     (.seq (.block 1 (.seq (.reg [⟨(some 20), none, .q (.mv (.t 18))⟩,
          ⟨(some 11), none, .q (.mv (.t 20))⟩])
       (.seq (.sch (.take 0 ⟨(some 21), none, .q (.ld true 1 (.t 3))⟩ (.take 1 ⟨(some 22), none, .q (.mv (.t 2))⟩ (.take 2 ⟨(some 23), none, .q (.mv (.t 8))⟩ (.take 3 ⟨(some 24), none, .q (.mv (.t 11))⟩ (.take 4 ⟨(some 25), none, .q (.ixs 1 (.t 23) (.t 24))⟩ (.take 5 ⟨(some 26), none, .q (.ld false 1 (.t 25))⟩ (.one ⟨(some 27), none, .c (.call 49 [(.t 21), (.t 22), (.t 26)])⟩ [5, 0] (.take 7 ⟨(some 12), none, .q (.mv (.t 27))⟩ .done)))))))))
       (.seq (.reg [⟨(some 28), none, .q (.mv (.t 9))⟩,
          ⟨(some 29), none, .q (.bin .lss (.t 28) (.c (.int .i64 0)))⟩,
          ⟨(some 30), none, .q (.mv (.t 29))⟩,
          ⟨(some 31), (some (30, false)), .q (.mv (.t 12))⟩,
          ⟨(some 32), (some (30, false)), .q (.mv (.t 10))⟩,
          ⟨(some 33), (some (30, false)), .q (.bin .lss (.t 31) (.t 32))⟩,
          ⟨(some 34), none, .q (.pick (.t 30) (.c (.bool true)) (.t 33))⟩])
       (.cond (.t 34)
        (.seq (.reg [⟨(some 35), none, .q (.mv (.t 8))⟩,
           ⟨(some 36), none, .q (.mv (.t 11))⟩,
           ⟨(some 37), none, .q (.ixs 1 (.t 35) (.t 36))⟩,
           ⟨(some 38), none, .q (.ld false 1 (.t 37))⟩,
           ⟨(some 9), none, .q (.mv (.t 38))⟩])
        (.reg [⟨(some 39), none, .q (.mv (.t 12))⟩,
          ⟨(some 10), none, .q (.mv (.t 39))⟩]))
        .skip)))))
     (.reg [⟨(some 40), none, .q (.bin .add (.t 18) (.c (.int .i64 1)))⟩,
       ⟨(some 18), none, .q (.mv (.t 40))⟩])))))))
  (.seq (.reg [⟨(some 41), none, .q (.mv (.t 9))⟩,
     ⟨(some 42), none, .q (.mv (.t 10))⟩,
     ⟨(some 6), none, .q (.mv (.t 41))⟩,
     ⟨(some 7), none, .q (.mv (.t 42))⟩])
  .ret))))⟩
theorem l_spec_l07Worst : lowF PA f_spec_l07Worst 3 [.k [2, 3, 8, 9, 10, 17, 18], .s (.take 0 (.take 1 (.take 2 (.take 3 (.take 4 (.take 5 (.one 6 (.take 7 .done))))))))] = some c_spec_l07Worst := by kernel_rfl
abbrev f_spec_l01Own : FuncId := 29
def c_spec_l01Own : AF := ⟨1, 6, [.t 2],
  (.seq (.reg [⟨(some 2), none, .q (.mv (.c (.slice none 0 0)))⟩])
  (.seq (.reg [⟨(some 3), none, .m (.bsl 1 [])⟩,
     ⟨(some 4), none, .q (.mv (.t 0))⟩,
     ⟨(some 5), none, .m (.app 1 8 (.t 3) (.t 4))⟩,
     ⟨(some 2), none, .q (.mv (.t 5))⟩])
  .ret))⟩
theorem l_spec_l01Own : lowF PA f_spec_l01Own 1 [] = some c_spec_l01Own := by kernel_rfl
abbrev f_impl_slipCode : FuncId := 30
def c_impl_slipCode : AF := ⟨2, 21, [.t 4],
  (.seq (.reg [⟨(some 2), none, .m (.box (.t 0))⟩,
     ⟨(some 4), none, .q (.mv (.c (.int .i64 0)))⟩])
  (.seq (.seq (.reg [⟨(some 7), none, .q (.ld true 1 (.t 2))⟩,
      ⟨(some 8), none, .c (.call 50 [(.t 7)])⟩,
      ⟨(some 9), none, .q (.un .not (.t 8))⟩])
   (.cond (.t 9)
    (.seq (.reg [⟨(some 4), none, .q (.mv (.c (.int .i64 1)))⟩])
    .ret)
    .skip))
  (.seq (.seq (.reg [⟨(some 10), none, .q (.mv (.t 1))⟩,
      ⟨(some 11), none, .q (.len (.t 10))⟩,
      ⟨(some 12), none, .q (.mv (.c (.int .i64 0)))⟩])
   (.block 0 (.loop [2, 10, 11, 12] (.seq (.reg [⟨(some 13), none, .q (.bin .lss (.t 12) (.t 11))⟩])
     (.seq (.cond (.t 13)
       .skip
       (.exit 0))
     (.seq (.block 1 (.seq (.reg [⟨(some 14), none, .q (.ixs 1 (.t 10) (.t 12))⟩,
          ⟨(some 15), none, .q (.ld false 1 (.t 14))⟩,
          ⟨(some 6), none, .q (.mv (.t 15))⟩])
       (.seq (.reg [⟨(some 16), none, .q (.ld true 1 (.t 2))⟩,
          ⟨(some 17), none, .q (.mv (.t 6))⟩,
          ⟨(some 18), none, .c (.call 51 [(.t 16), (.t 17)])⟩,
          ⟨(some 19), none, .q (.un .not (.t 18))⟩])
       (.cond (.t 19)
        (.seq (.reg [⟨(some 4), none, .q (.mv (.c (.int .i64 2)))⟩])
        .ret)
        .skip))))
     (.reg [⟨(some 20), none, .q (.bin .add (.t 12) (.c (.int .i64 1)))⟩,
       ⟨(some 12), none, .q (.mv (.t 20))⟩])))))))
  (.seq (.reg [⟨(some 4), none, .q (.mv (.c (.int .i64 0)))⟩])
  .ret))))⟩
theorem l_impl_slipCode : lowF PA f_impl_slipCode 2 [.k [2, 10, 11, 12]] = some c_impl_slipCode := by kernel_rfl
abbrev f_impl_codeCode : FuncId := 31
def c_impl_codeCode : AF := ⟨3, 18, [.t 6],
  (.seq (.reg [⟨(some 3), none, .m (.box (.t 0))⟩,
     ⟨(some 6), none, .q (.mv (.c (.int .i64 0)))⟩])
  (.seq (.seq (.reg [⟨(some 8), none, .q (.ld true 1 (.t 3))⟩,
      ⟨(some 9), none, .q (.mv (.t 2))⟩,
      ⟨(some 10), none, .c (.call 52 [(.t 8), (.t 9)])⟩,
      ⟨(some 7), none, .q (.mv (.t 10))⟩])
   (.seq (.reg [⟨(some 11), none, .q (.mv (.t 7))⟩,
      ⟨(some 12), none, .q (.bin .neq (.t 11) (.c (.int .i64 0)))⟩])
   (.cond (.t 12)
    (.seq (.reg [⟨(some 13), none, .q (.mv (.t 7))⟩,
       ⟨(some 6), none, .q (.mv (.t 13))⟩])
    .ret)
    .skip)))
  (.seq (.seq (.reg [⟨(some 14), none, .q (.ld true 1 (.t 3))⟩,
      ⟨(some 15), none, .q (.mv (.t 1))⟩,
      ⟨(some 16), none, .c (.call 53 [(.t 14), (.t 15)])⟩,
      ⟨(some 17), none, .q (.un .not (.t 16))⟩])
   (.cond (.t 17)
    (.seq (.reg [⟨(some 6), none, .q (.mv (.c (.int .i64 2)))⟩])
    .ret)
    .skip))
  (.seq (.reg [⟨(some 6), none, .q (.mv (.c (.int .i64 0)))⟩])
  .ret))))⟩
theorem l_impl_codeCode : lowF PA f_impl_codeCode 3 [] = some c_impl_codeCode := by kernel_rfl
abbrev f_impl_worst : FuncId := 32
def c_impl_worst : AF := ⟨3, 38, [.t 6, .t 7],
  (.seq (.reg [⟨(some 3), none, .m (.box (.t 0))⟩,
     ⟨(some 6), none, .q (.mv (.c (.int .i64 0)))⟩,
     ⟨(some 7), none, .q (.mv (.c (.int .i64 0)))⟩])
  (.seq (.reg [⟨(some 13), none, .q (.ld true 1 (.t 3))⟩,
     ⟨(some 14), none, .q (.mv (.t 2))⟩,
     ⟨(some 15), none, .c (.call 54 [(.t 13), (.t 14)])⟩,
     ⟨(some 8), none, .q (.mv (.t 15))⟩,
     ⟨(some 9), none, .q (.mv (.c (.int .i64 0)))⟩,
     ⟨(some 10), none, .q (.mv (.c (.int .i64 (-1))))⟩])
  (.seq (.seq (.reg [⟨(some 16), none, .q (.ld true 1 (.t 3))⟩,
      ⟨(some 17), none, .q (.mv (.t 1))⟩,
      ⟨(some 18), none, .c (.call 34 [(.t 16), (.t 17)])⟩,
      ⟨(some 19), none, .q (.len (.t 18))⟩,
      ⟨(some 20), none, .q (.mv (.c (.int .i64 0)))⟩])
   (.block 0 (.loop [8, 9, 10, 18, 19, 20] (.seq (.reg [⟨(some 21), none, .q (.bin .lss (.t 20) (.t 19))⟩])
     (.seq (.cond (.t 21)
       .skip
       (.exit 0))
     (.seq (.block 1 (.seq (.reg [⟨(some 22), none, .q (.ixs 1 (.t 18) (.t 20))⟩,
          ⟨(some 23), none, .q (.ld false 1 (.t 22))⟩,
          ⟨(some 12), none, .q (.mv (.t 23))⟩])
       (.seq (.reg [⟨(some 24), none, .q (.mv (.t 8))⟩,
          ⟨(some 25), none, .q (.mv (.t 12))⟩,
          ⟨(some 26), none, .q (.ixs 1 (.t 24) (.t 25))⟩,
          ⟨(some 27), none, .q (.ld false 1 (.t 26))⟩,
          ⟨(some 28), none, .q (.mv (.t 10))⟩,
          ⟨(some 29), none, .q (.bin .gtr (.t 27) (.t 28))⟩])
       (.cond (.t 29)
        (.sch (.take 0 ⟨(some 30), none, .q (.mv (.t 12))⟩ (.take 1 ⟨(some 31), none, .q (.mv (.t 8))⟩ (.take 2 ⟨(some 32), none, .q (.mv (.t 12))⟩ (.take 3 ⟨(some 33), none, .q (.ixs 1 (.t 31) (.t 32))⟩ (.take 4 ⟨(some 34), none, .q (.ld false 1 (.t 33))⟩ (.take 5 ⟨(some 9), none, .q (.mv (.t 30))⟩ (.take 6 ⟨(some 10), none, .q (.mv (.t 34))⟩ .done))))))))
        .skip))))
     (.reg [⟨(some 35), none, .q (.bin .add (.t 20) (.c (.int .i64 1)))⟩,
       ⟨(some 20), none, .q (.mv (.t 35))⟩])))))))
  (.seq (.reg [⟨(some 36), none, .q (.mv (.t 9))⟩,
     ⟨(some 37), none, .q (.mv (.t 10))⟩,
     ⟨(some 6), none, .q (.mv (.t 36))⟩,
     ⟨(some 7), none, .q (.mv (.t 37))⟩])
  .ret))))⟩
theorem l_impl_worst : lowF PA f_impl_worst 3 [.k [8, 9, 10, 18, 19, 20], .s (.take 0 (.take 1 (.take 2 (.take 3 (.take 4 (.take 5 (.take 6 .done)))))))] = some c_impl_worst := by kernel_rfl
abbrev f_impl_digitsOfAll : FuncId := 33
def c_impl_digitsOfAll : AF := ⟨2, 23, [.t 4],
  (.seq (.reg [⟨(some 2), none, .m (.box (.t 0))⟩,
     ⟨(some 4), none, .q (.mv (.c (.slice none 0 0)))⟩])
  (.seq (.reg [⟨(some 8), none, .m (.bsl 8 [])⟩,
     ⟨(some 5), none, .q (.mv (.t 8))⟩])
  (.seq (.seq (.reg [⟨(some 9), none, .q (.mv (.t 1))⟩,
      ⟨(some 10), none, .q (.len (.t 9))⟩,
      ⟨(some 11), none, .q (.mv (.c (.int .i64 0)))⟩])
   (.block 0 (.loop [2, 5, 9, 10, 11] (.seq (.reg [⟨(some 12), none, .q (.bin .lss (.t 11) (.t 10))⟩])
     (.seq (.cond (.t 12)
       .skip
       (.exit 0))
     (.seq (.block 1 (.seq (.reg [⟨(some 13), none, .q (.ixs 1 (.t 9) (.t 11))⟩,
          ⟨(some 14), none, .q (.ld false 1 (.t 13))⟩,
          ⟨(some 7), none, .q (.mv (.t 14))⟩])
       (.reg [⟨(some 15), none, .q (.mv (.t 5))⟩,
         ⟨(some 16), none, .q (.ld true 1 (.t 2))⟩,
         ⟨(some 17), none, .q (.mv (.t 7))⟩,
         ⟨(some 18), none, .c (.call 55 [(.t 16), (.t 17)])⟩,
         ⟨(some 19), none, .m (.bsl 8 [(.t 18)])⟩,
         ⟨(some 20), none, .m (.app 8 8 (.t 15) (.t 19))⟩,
         ⟨(some 5), none, .q (.mv (.t 20))⟩])))
     (.reg [⟨(some 21), none, .q (.bin .add (.t 11) (.c (.int .i64 1)))⟩,
       ⟨(some 11), none, .q (.mv (.t 21))⟩])))))))
  (.seq (.reg [⟨(some 22), none, .q (.mv (.t 5))⟩,
     ⟨(some 4), none, .q (.mv (.t 22))⟩])
  .ret))))⟩
theorem l_impl_digitsOfAll : lowF PA f_impl_digitsOfAll 2 [.k [2, 5, 9, 10, 11]] = some c_impl_digitsOfAll := by kernel_rfl
abbrev f_impl_bets : FuncId := 34
def c_impl_bets : AF := ⟨2, 8, [.t 4],
  (.seq (.reg [⟨(some 2), none, .m (.box (.t 0))⟩,
     ⟨(some 3), none, .m (.box (.t 1))⟩,
     ⟨(some 4), none, .q (.mv (.c (.slice none 0 0)))⟩])
  (.seq (.reg [⟨(some 5), none, .q (.ld true 1 (.t 2))⟩,
     ⟨(some 6), none, .q (.mkf 57 [(.t 3)])⟩,
     ⟨(some 7), none, .c (.call 56 [(.t 5), (.t 6)])⟩,
     ⟨(some 4), none, .q (.mv (.t 7))⟩])
  .ret))⟩
theorem l_impl_bets : lowF PA f_impl_bets 2 [] = some c_impl_bets := by kernel_rfl
abbrev f_impl_far : FuncId := 35
def c_impl_far : AF := ⟨2, 22, [.t 4],
  (.seq (.reg [⟨(some 2), none, .m (.box (.t 0))⟩,
     ⟨(some 3), none, .m (.box (.t 1))⟩,
     ⟨(some 4), none, .q (.mv (.c (.int .i64 0)))⟩])
  (.seq (.reg [⟨(some 5), none, .q (.mv (.c (.int .i64 0)))⟩])
  (.seq (.seq (.reg [⟨(some 8), none, .q (.ld true 8 (.t 2))⟩,
      ⟨(some 9), none, .q (.mv (.c (.int .i64 0)))⟩])
   (.block 0 (.loop [3, 5, 8, 9] (.seq (.reg [⟨(some 10), none, .q (.bin .lss (.t 9) (.c (.int .i64 8)))⟩])
     (.seq (.cond (.t 10)
       .skip
       (.exit 0))
     (.seq (.block 1 (.seq (.reg [⟨(some 11), none, .q (.mv (.t 9))⟩,
          ⟨(some 12), none, .q (.ixv 8 (.t 8) (.t 9))⟩,
          ⟨(some 6), none, .q (.mv (.t 11))⟩,
          ⟨(some 7), none, .q (.mv (.t 12))⟩])
       (.seq (.reg [⟨(some 13), none, .q (.mv (.t 7))⟩,
          ⟨(some 14), none, .q (.mv (.t 6))⟩,
          ⟨(some 15), none, .q (.ixa 8 1 (.t 3) (.t 14))⟩,
          ⟨(some 16), none, .q (.ld false 1 (.t 15))⟩,
          ⟨(some 17), none, .q (.bin .neq (.t 13) (.t 16))⟩])
       (.cond (.t 17)
        (.reg [⟨(some 18), none, .q (.mv (.t 5))⟩,
          ⟨(some 19), none, .q (.bin .add (.t 18) (.c (.int .i64 1)))⟩,
          ⟨(some 5), none, .q (.mv (.t 19))⟩])
        .skip))))
     (.reg [⟨(some 20), none, .q (.bin .add (.t 9) (.c (.int .i64 1)))⟩,
       ⟨(some 9), none, .q (.mv (.t 20))⟩])))))))
  (.seq (.reg [⟨(some 21), none, .q (.mv (.t 5))⟩,
     ⟨(some 4), none, .q (.mv (.t 21))⟩])
  .ret))))⟩
theorem l_impl_far : lowF PA f_impl_far 2 [.k [3, 5, 8, 9]] = some c_impl_far := by kernel_rfl
abbrev f_spec_l07Code : FuncId := 46
def c_spec_l07Code : AF := ⟨2, 22, [.t 4],
  (.seq (.reg [⟨(some 2), none, .m (.box (.t 0))⟩,
     ⟨(some 4), none, .q (.mv (.c (.int .i64 0)))⟩])
  (.seq (.seq (.reg [⟨(some 6), none, .q (.ld true 1 (.t 2))⟩,
      ⟨(some 7), none, .c (.call 67 [(.t 6)])⟩,
      ⟨(some 8), none, .q (.un .not (.t 7))⟩])
   (.cond (.t 8)
    (.seq (.reg [⟨(some 4), none, .q (.mv (.c (.int .i64 1)))⟩])
    .ret)
    .skip))
  (.seq (.seq (.reg [⟨(some 9), none, .q (.mv (.t 1))⟩,
      ⟨(some 10), none, .q (.len (.t 9))⟩,
      ⟨(some 11), none, .q (.mv (.c (.int .i64 0)))⟩])
   (.block 0 (.loop [1, 2, 10, 11] (.seq (.reg [⟨(some 12), none, .q (.bin .lss (.t 11) (.t 10))⟩])
     (.seq (.cond (.t 12)
       .skip
       (.exit 0))
     (.seq (.block 1 (.seq (.reg [⟨(some 13), none, .q (.mv (.t 11))⟩,
          ⟨(some 5), none, .q (.mv (.t 13))⟩])
       (.seq (.sch (.take 0 ⟨(some 14), none, .q (.ld true 1 (.t 2))⟩ (.take 1 ⟨(some 15), none, .q (.mv (.t 1))⟩ (.take 2 ⟨(some 16), none, .q (.mv (.t 5))⟩ (.take 3 ⟨(some 17), none, .q (.ixs 1 (.t 15) (.t 16))⟩ (.take 4 ⟨(some 18), none, .q (.ld false 1 (.t 17))⟩ (.one ⟨(some 19), none, .c (.call 73 [(.t 14), (.t 18)])⟩ [4, 0] (.take 6 ⟨(some 20), none, .q (.un .not (.t 19))⟩ .done))))))))
       (.cond (.t 20)
        (.seq (.reg [⟨(some 4), none, .q (.mv (.c (.int .i64 2)))⟩])
        .ret)
        .skip))))
     (.reg [⟨(some 21), none, .q (.bin .add (.t 11) (.c (.int .i64 1)))⟩,
       ⟨(some 11), none, .q (.mv (.t 21))⟩])))))))
  (.seq (.reg [⟨(some 4), none, .q (.mv (.c (.int .i64 0)))⟩])
  .ret))))⟩
theorem l_spec_l07Code : lowF PA f_spec_l07Code 2 [.k [1, 2, 10, 11], .s (.take 0 (.take 1 (.take 2 (.take 3 (.take 4 (.one 5 (.take 6 .done)))))))] = some c_spec_l07Code := by kernel_rfl
abbrev f_spec_l01Given : FuncId := 47
def c_spec_l01Given : AF := ⟨2, 14, [.t 4],
  (.seq (.reg [⟨(some 2), none, .m (.box (.t 0))⟩,
     ⟨(some 4), none, .q (.mv (.c (.int .i64 0)))⟩])
  (.seq (.block 0 (.seq (.reg [⟨(some 6), none, .q (.ld true 1 (.t 2))⟩,
       ⟨(some 7), none, .c (.call 67 [(.t 6)])⟩,
       ⟨(some 8), none, .q (.un .not (.t 7))⟩,
       ⟨(some 5), none, .q (.mv (.t 8))⟩])
    (.cond (.t 5)
     (.seq (.reg [⟨(some 4), none, .q (.mv (.c (.int .i64 1)))⟩])
     .ret)
     (.seq (.reg [⟨(some 10), none, .q (.ld true 1 (.t 2))⟩,
        ⟨(some 11), none, .q (.mv (.t 1))⟩,
        ⟨(some 12), none, .c (.call 74 [(.t 10), (.t 11)])⟩,
        ⟨(some 13), none, .q (.un .not (.t 12))⟩,
        ⟨(some 9), none, .q (.mv (.t 13))⟩])
     (.cond (.t 9)
      (.seq (.reg [⟨(some 4), none, .q (.mv (.c (.int .i64 2)))⟩])
      .ret)
      .skip)))))
  (.seq (.reg [⟨(some 4), none, .q (.mv (.c (.int .i64 0)))⟩])
  .ret)))⟩
theorem l_spec_l01Given : lowF PA f_spec_l01Given 2 [] = some c_spec_l01Given := by kernel_rfl
abbrev f_spec_l07Bets : FuncId := 48
def c_spec_l07Bets : AF := ⟨2, 56, [.t 4],
  (.seq (.reg [⟨(some 2), none, .m (.box (.t 0))⟩,
     ⟨(some 4), none, .q (.mv (.c (.slice none 0 0)))⟩])
  (.seq (.reg [⟨(some 11), none, .m (.bsl 1 [(.c (.int .i64 0))])⟩,
     ⟨(some 5), none, .q (.mv (.t 11))⟩])
  (.seq (.seq (.reg [⟨(some 12), none, .q (.mv (.t 1))⟩,
      ⟨(some 13), none, .q (.len (.t 12))⟩,
      ⟨(some 14), none, .q (.mv (.c (.int .i64 0)))⟩])
   (.block 0 (.loop [1, 2, 5, 13, 14] (.seq (.reg [⟨(some 15), none, .q (.bin .lss (.t 14) (.t 13))⟩])
     (.seq (.cond (.t 15)
       .skip
       (.exit 0))
     (.seq (.block 1 (.seq (.reg [⟨(some 16), none, .q (.mv (.t 14))⟩,
          ⟨(some 6), none, .q (.mv (.t 16))⟩])
       (.seq (.reg [⟨(some 17), none, .m (.bsl 1 [])⟩,
          ⟨(some 18), none, .q (.mv (.t 1))⟩,
          ⟨(some 19), none, .q (.mv (.t 6))⟩,
          ⟨(some 20), none, .q (.ixs 1 (.t 18) (.t 19))⟩,
          ⟨(some 21), none, .q (.ld false 1 (.t 20))⟩,
          ⟨(some 22), none, .c (.call 75 [(.t 21)])⟩,
          ⟨(some 7), none, .q (.mv (.t 17))⟩,
          ⟨(some 8), none, .q (.mv (.t 22))⟩])
       (.seq (.seq (.reg [⟨(some 23), none, .q (.mv (.t 5))⟩,
           ⟨(some 24), none, .q (.len (.t 23))⟩,
           ⟨(some 25), none, .q (.mv (.c (.int .i64 0)))⟩])
        (.block 2 (.loop [1, 2, 5, 6, 7, 8, 13, 14, 24, 25] (.seq (.reg [⟨(some 26), none, .q (.bin .lss (.t 25) (.t 24))⟩])
          (.seq (.cond (.t 26)
            .skip
            (.exit 2))
          (.seq (.block 3 (.seq (.reg [⟨(some 27), none, .q (.mv (.t 25))⟩,
               ⟨(some 9), none, .q (.mv (.t 27))⟩])
            (.seq (.reg [⟨(some 28), none, .q (.mv (.t 8))⟩,
               ⟨(some 29), none, .q (.len (.t 28))⟩,
               ⟨(some 30), none, .q (.mv (.c (.int .i64 0)))⟩])
            (.block 4 (.loop [1, 2, 5, 6, 7, 8, 9, 13, 14, 24, 25, 29, 30] (.seq (.reg [⟨(some 31), none, .q (.bin .lss (.t 30) (.t 29))⟩])
              (.seq (.cond (.t 31)
                .skip
                (.exit 4))
              (.seq (.block 5 (.seq (.reg [⟨(some 32), none, .q (.mv (.t 30))⟩,
                   ⟨(some 10), none, .q (.mv (.t 32))⟩])
                (.sch (.take 0 ⟨(some 33), none, .q (.mv (.t 7))⟩ (.take 1 ⟨(some 34), none, .q (.mv (.t 5))⟩ (.take 2 ⟨(some 35), none, .q (.mv (.t 9))⟩ (.take 3 ⟨(some 36), none, .q (.ixs 1 (.t 34) (.t 35))⟩ (.take 4 ⟨(some 37), none, .q (.ld false 1 (.t 36))⟩ (.take 5 ⟨(some 38), none, .q (.fad 0 (.t 2))⟩ (.take 6 ⟨(some 39), none, .q (.ld false 1 (.t 38))⟩ (.take 7 ⟨(some 40), none, .q (.mv (.t 6))⟩ (.take 8 ⟨(some 41), none, .q (.ixs 1 (.t 39) (.t 40))⟩ (.take 9 ⟨(some 42), none, .q (.ld false 1 (.t 41))⟩ (.take 10 ⟨(some 43), none, .q (.bin .mul (.t 37) (.t 42))⟩ (.take 11 ⟨(some 44), none, .q (.mv (.t 8))⟩ (.take 12 ⟨(some 45), none, .q (.mv (.t 10))⟩ (.take 13 ⟨(some 46), none, .q (.ixs 1 (.t 44) (.t 45))⟩ (.take 14 ⟨(some 47), none, .q (.ld false 1 (.t 46))⟩ (.take 15 ⟨(some 48), none, .q (.bin .add (.t 43) (.t 47))⟩ (.one ⟨(some 49), none, .m (.bsl 1 [(.t 48)])⟩ [] (.one ⟨(some 50), none, .m (.app 1 8 (.t 33) (.t 49))⟩ [] (.take 18 ⟨(some 7), none, .q (.mv (.t 50))⟩ .done))))))))))))))))))))))
              (.reg [⟨(some 51), none, .q (.bin .add (.t 30) (.c (.int .i64 1)))⟩,
                ⟨(some 30), none, .q (.mv (.t 51))⟩])))))))))
          (.reg [⟨(some 52), none, .q (.bin .add (.t 25) (.c (.int .i64 1)))⟩,
            ⟨(some 25), none, .q (.mv (.t 52))⟩])))))))
       (.reg [⟨(some 53), none, .q (.mv (.t 7))⟩,
         ⟨(some 5), none, .q (.mv (.t 53))⟩])))))
     (.reg [⟨(some 54), none, .q (.bin .add (.t 14) (.c (.int .i64 1)))⟩,
       ⟨(some 14), none, .q (.mv (.t 54))⟩])))))))
  (.seq (.reg [⟨(some 55), none, .q (.mv (.t 5))⟩,
     ⟨(some 4), none, .q (.mv (.t 55))⟩])
  .ret))))⟩
theorem l_spec_l07Bets : lowF PA f_spec_l07Bets 2 [.k [1, 2, 5, 13, 14], .k [1, 2, 5, 6, 7, 8, 13, 14, 24, 25], .k [1, 2, 5, 6, 7, 8, 9, 13, 14, 24, 25, 29, 30], .s (.take 0 (.take 1 (.take 2 (.take 3 (.take 4 (.take 5 (.take 6 (.take 7 (.take 8 (.take 9 (.take 10 (.take 11 (.take 12 (.take 13 (.take 14 (.take 15 (.one 16 (.one 17 (.take 18 .done)))))))))))))))))))] = some c_spec_l07Bets := by kernel_rfl
abbrev f_spec_l07Best : FuncId := 49
def c_spec_l07Best : AF := ⟨3, 29, [.t 6],
  (.seq (.reg [⟨(some 3), none, .m (.box (.t 0))⟩,
     ⟨(some 6), none, .q (.mv (.c (.int .i64 0)))⟩])
  (.seq (.reg [⟨(some 7), none, .q (.mv (.c (.int .i64 0)))⟩])
  (.seq (.seq (.reg [⟨(some 9), none, .q (.mv (.t 1))⟩,
      ⟨(some 10), none, .q (.len (.t 9))⟩,
      ⟨(some 11), none, .q (.mv (.c (.int .i64 0)))⟩])
   (.block 0 (.loop [1, 2, 3, 7, 10, 11] (.seq (.reg [⟨(some 12), none, .q (.bin .lss (.t 11) (.t 10))⟩])
     (.seq (.cond (.t 12)
       .skip
       (.exit 0))
     (.seq (.block 1 (.seq (.reg [⟨(some 13), none, .q (.mv (.t 11))⟩,
          ⟨(some 8), none, .q (.mv (.t 13))⟩])
       (.sch (.take 0 ⟨(some 14), none, .q (.mv (.t 7))⟩ (.take 1 ⟨(some 15), none, .q (.fad 0 (.t 3))⟩ (.take 2 ⟨(some 16), none, .q (.ld false 1 (.t 15))⟩ (.take 3 ⟨(some 17), none, .q (.len (.t 16))⟩ (.take 4 ⟨(some 18), none, .q (.ld true 1 (.t 3))⟩ (.take 5 ⟨(some 19), none, .q (.mv (.t 1))⟩ (.take 6 ⟨(some 20), none, .q (.mv (.t 8))⟩ (.take 7 ⟨(some 21), none, .q (.ixs 1 (.t 19) (.t 20))⟩ (.take 8 ⟨(some 22), none, .q (.ld false 1 (.t 21))⟩ (.take 9 ⟨(some 23), none, .q (.mv (.t 2))⟩ (.one ⟨(some 24), none, .c (.call 59 [(.t 18), (.t 22), (.t 23)])⟩ [8, 4] (.take 11 ⟨(some 25), none, .q (.bin .sub (.t 17) (.t 24))⟩ (.take 12 ⟨(some 26), none, .q (.mx (.t 14) (.t 25))⟩ (.take 13 ⟨(some 7), none, .q (.mv (.t 26))⟩ .done)))))))))))))))))
     (.reg [⟨(some 27), none, .q (.bin .add (.t 11) (.c (.int .i64 1)))⟩,
       ⟨(some 11), none, .q (.mv (.t 27))⟩])))))))
  (.seq (.reg [⟨(some 28), none, .q (.mv (.t 7))⟩,
     ⟨(some 6), none, .q (.mv (.t 28))⟩])
  .ret))))⟩
theorem l_spec_l07Best : lowF PA f_spec_l07Best 3 [.k [1, 2, 3, 7, 10, 11], .s (.take 0 (.take 1 (.take 2 (.take 3 (.take 4 (.take 5 (.take 6 (.take 7 (.take 8 (.take 9 (.one 10 (.take 11 (.take 12 (.take 13 .done))))))))))))))] = some c_spec_l07Best := by kernel_rfl
abbrev f_impl_IsSpace : FuncId := 50
def c_impl_IsSpace : AF := ⟨1, 35, [.t 2],
  (.seq (.reg [⟨(some 1), none, .m (.box (.t 0))⟩,
     ⟨(some 2), none, .q (.mv (.c (.bool false)))⟩])
  (.seq (.seq (.reg [⟨(some 6), none, .q (.fad 0 (.t 1))⟩,
      ⟨(some 7), none, .q (.ld false 1 (.t 6))⟩,
      ⟨(some 8), none, .q (.len (.t 7))⟩,
      ⟨(some 9), none, .q (.bin .lss (.t 8) (.c (.int .i64 1)))⟩,
      ⟨(some 10), none, .q (.mv (.t 9))⟩,
      ⟨(some 11), (some (10, false)), .q (.fad 0 (.t 1))⟩,
      ⟨(some 12), (some (10, false)), .q (.ld false 1 (.t 11))⟩,
      ⟨(some 13), (some (10, false)), .q (.len (.t 12))⟩,
      ⟨(some 14), (some (10, false)), .q (.bin .gtr (.t 13) (.c (.int .i64 8)))⟩,
      ⟨(some 15), none, .q (.pick (.t 10) (.c (.bool true)) (.t 14))⟩])
   (.cond (.t 15)
    (.seq (.reg [⟨(some 2), none, .q (.mv (.c (.bool false)))⟩])
    .ret)
    .skip))
  (.seq (.reg [⟨(some 3), none, .q (.mv (.c (.int .i64 1)))⟩])
  (.seq (.seq (.reg [⟨(some 16), none, .q (.fad 0 (.t 1))⟩,
      ⟨(some 17), none, .q (.ld false 1 (.t 16))⟩,
      ⟨(some 18), none, .q (.len (.t 17))⟩,
      ⟨(some 19), none, .q (.mv (.c (.int .i64 0)))⟩])
   (.block 0 (.loop [3, 17, 18, 19] (.seq (.reg [⟨(some 20), none, .q (.bin .lss (.t 19) (.t 18))⟩])
     (.seq (.cond (.t 20)
       .skip
       (.exit 0))
     (.seq (.block 1 (.seq (.reg [⟨(some 21), none, .q (.ixs 1 (.t 17) (.t 19))⟩,
          ⟨(some 22), none, .q (.ld false 1 (.t 21))⟩,
          ⟨(some 5), none, .q (.mv (.t 22))⟩])
       (.seq (.seq (.reg [⟨(some 23), none, .q (.mv (.t 5))⟩,
           ⟨(some 24), none, .q (.bin .lss (.t 23) (.c (.int .i64 2)))⟩,
           ⟨(some 25), none, .q (.mv (.t 24))⟩,
           ⟨(some 26), (some (25, false)), .q (.mv (.t 5))⟩,
           ⟨(some 27), (some (25, false)), .q (.bin .gtr (.t 26) (.c (.int .i64 4)))⟩,
           ⟨(some 28), none, .q (.pick (.t 25) (.c (.bool true)) (.t 27))⟩])
        (.cond (.t 28)
         (.seq (.reg [⟨(some 2), none, .q (.mv (.c (.bool false)))⟩])
         .ret)
         .skip))
       (.reg [⟨(some 29), none, .q (.mv (.t 3))⟩,
         ⟨(some 30), none, .q (.mv (.t 5))⟩,
         ⟨(some 31), none, .q (.bin .mul (.t 29) (.t 30))⟩,
         ⟨(some 3), none, .q (.mv (.t 31))⟩]))))
     (.reg [⟨(some 32), none, .q (.bin .add (.t 19) (.c (.int .i64 1)))⟩,
       ⟨(some 19), none, .q (.mv (.t 32))⟩])))))))
  (.seq (.reg [⟨(some 33), none, .q (.mv (.t 3))⟩,
     ⟨(some 34), none, .q (.bin .leq (.t 33) (.c (.int .i64 1024)))⟩,
     ⟨(some 2), none, .q (.mv (.t 34))⟩])
  .ret)))))⟩
theorem l_impl_IsSpace : lowF PA f_impl_IsSpace 1 [.k [3, 17, 18, 19]] = some c_impl_IsSpace := by kernel_rfl
abbrev f_impl_isSlip : FuncId := 51
def c_impl_isSlip : AF := ⟨2, 33, [.t 4],
  (.seq (.reg [⟨(some 2), none, .m (.box (.t 0))⟩,
     ⟨(some 4), none, .q (.mv (.c (.bool false)))⟩])
  (.seq (.seq (.reg [⟨(some 7), none, .q (.mv (.t 1))⟩,
      ⟨(some 8), none, .q (.len (.t 7))⟩,
      ⟨(some 9), none, .q (.fad 0 (.t 2))⟩,
      ⟨(some 10), none, .q (.ld false 1 (.t 9))⟩,
      ⟨(some 11), none, .q (.len (.t 10))⟩,
      ⟨(some 12), none, .q (.bin .neq (.t 8) (.t 11))⟩])
   (.cond (.t 12)
    (.seq (.reg [⟨(some 4), none, .q (.mv (.c (.bool false)))⟩])
    .ret)
    .skip))
  (.seq (.seq (.reg [⟨(some 13), none, .q (.mv (.t 1))⟩,
      ⟨(some 14), none, .q (.len (.t 13))⟩,
      ⟨(some 15), none, .q (.mv (.c (.int .i64 0)))⟩])
   (.block 0 (.loop [2, 13, 14, 15] (.seq (.reg [⟨(some 16), none, .q (.bin .lss (.t 15) (.t 14))⟩])
     (.seq (.cond (.t 16)
       .skip
       (.exit 0))
     (.seq (.block 1 (.seq (.reg [⟨(some 17), none, .q (.mv (.t 15))⟩,
          ⟨(some 18), none, .q (.ixs 1 (.t 13) (.t 15))⟩,
          ⟨(some 19), none, .q (.ld false 1 (.t 18))⟩,
          ⟨(some 5), none, .q (.mv (.t 17))⟩,
          ⟨(some 6), none, .q (.mv (.t 19))⟩])
       (.seq (.reg [⟨(some 20), none, .q (.mv (.t 6))⟩,
          ⟨(some 21), none, .q (.bin .lss (.t 20) (.c (.int .i64 1)))⟩,
          ⟨(some 22), none, .q (.mv (.t 21))⟩,
          ⟨(some 23), (some (22, false)), .q (.mv (.t 6))⟩,
          ⟨(some 24), (some (22, false)), .q (.fad 0 (.t 2))⟩,
          ⟨(some 25), (some (22, false)), .q (.ld false 1 (.t 24))⟩,
          ⟨(some 26), (some (22, false)), .q (.mv (.t 5))⟩,
          ⟨(some 27), (some (22, false)), .q (.ixs 1 (.t 25) (.t 26))⟩,
          ⟨(some 28), (some (22, false)), .q (.ld false 1 (.t 27))⟩,
          ⟨(some 29), (some (22, false)), .q (.bin .shl (.c (.int .i64 1)) (.t 28))⟩,
          ⟨(some 30), (some (22, false)), .q (.bin .geq (.t 23) (.t 29))⟩,
          ⟨(some 31), none, .q (.pick (.t 22) (.c (.bool true)) (.t 30))⟩])
       (.cond (.t 31)
        (.seq (.reg [⟨(some 4), none, .q (.mv (.c (.bool false)))⟩])
        .ret)
        .skip))))
     (.reg [⟨(some 32), none, .q (.bin .add (.t 15) (.c (.int .i64 1)))⟩,
       ⟨(some 15), none, .q (.mv (.t 32))⟩])))))))
  (.seq (.reg [⟨(some 4), none, .q (.mv (.c (.bool true)))⟩])
  .ret))))⟩
theorem l_impl_isSlip : lowF PA f_impl_isSlip 2 [.k [2, 13, 14, 15]] = some c_impl_isSlip := by kernel_rfl
abbrev f_impl_wordCode : FuncId := 52
def c_impl_wordCode : AF := ⟨2, 14, [.t 4],
  (.seq (.reg [⟨(some 2), none, .m (.box (.t 0))⟩,
     ⟨(some 4), none, .q (.mv (.c (.int .i64 0)))⟩])
  (.seq (.block 0 (.seq (.reg [⟨(some 6), none, .q (.ld true 1 (.t 2))⟩,
       ⟨(some 7), none, .c (.call 50 [(.t 6)])⟩,
       ⟨(some 8), none, .q (.un .not (.t 7))⟩,
       ⟨(some 5), none, .q (.mv (.t 8))⟩])
    (.cond (.t 5)
     (.seq (.reg [⟨(some 4), none, .q (.mv (.c (.int .i64 1)))⟩])
     .ret)
     (.seq (.reg [⟨(some 10), none, .q (.ld true 1 (.t 2))⟩,
        ⟨(some 11), none, .q (.mv (.t 1))⟩,
        ⟨(some 12), none, .c (.call 76 [(.t 10), (.t 11)])⟩,
        ⟨(some 13), none, .q (.un .not (.t 12))⟩,
        ⟨(some 9), none, .q (.mv (.t 13))⟩])
     (.cond (.t 9)
      (.seq (.reg [⟨(some 4), none, .q (.mv (.c (.int .i64 2)))⟩])
      .ret)
      .skip)))))
  (.seq (.reg [⟨(some 4), none, .q (.mv (.c (.int .i64 0)))⟩])
  .ret)))⟩
theorem l_impl_wordCode : lowF PA f_impl_wordCode 2 [] = some c_impl_wordCode := by kernel_rfl
abbrev f_impl_isCode : FuncId := 53
def c_impl_isCode : AF := ⟨2, 33, [.t 4],
  (.seq (.reg [⟨(some 2), none, .m (.box (.t 0))⟩,
     ⟨(some 4), none, .q (.mv (.c (.bool false)))⟩])
  (.seq (.seq (.reg [⟨(some 6), none, .q (.mv (.t 1))⟩,
      ⟨(some 7), none, .q (.len (.t 6))⟩,
      ⟨(some 8), none, .q (.ld true 1 (.t 2))⟩,
      ⟨(some 9), none, .c (.call 77 [(.t 8)])⟩,
      ⟨(some 10), none, .q (.bin .gtr (.t 7) (.t 9))⟩,
      ⟨(some 11), none, .q (.mv (.t 10))⟩,
      ⟨(some 12), (some (11, false)), .q (.ld true 1 (.t 2))⟩,
      ⟨(some 13), (some (11, false)), .q (.mv (.t 1))⟩,
      ⟨(some 14), (some (11, false)), .c (.call 76 [(.t 12), (.t 13)])⟩,
      ⟨(some 15), (some (11, false)), .q (.un .not (.t 14))⟩,
      ⟨(some 16), none, .q (.pick (.t 11) (.c (.bool true)) (.t 15))⟩])
   (.cond (.t 16)
    (.seq (.reg [⟨(some 4), none, .q (.mv (.c (.bool false)))⟩])
    .ret)
    .skip))
  (.seq (.seq (.reg [⟨(some 5), none, .q (.mv (.c (.int .i64 1)))⟩])
   (.block 0 (.loop [1, 5] (.seq (.seq (.reg [⟨(some 17), none, .q (.mv (.t 5))⟩,
         ⟨(some 18), none, .q (.mv (.t 1))⟩,
         ⟨(some 19), none, .q (.len (.t 18))⟩,
         ⟨(some 20), none, .q (.bin .lss (.t 17) (.t 19))⟩])
      (.cond (.t 20)
       .skip
       (.exit 0)))
     (.seq (.block 1 (.seq (.sch (.take 0 ⟨(some 23), none, .q (.mv (.t 1))⟩ (.take 1 ⟨(some 24), none, .q (.mv (.t 5))⟩ (.take 2 ⟨(some 25), none, .q (.ixs 1 (.t 23) (.t 24))⟩ (.take 3 ⟨(some 26), none, .q (.ld false 1 (.t 25))⟩ (.take 4 ⟨(some 27), none, .q (.mv (.t 1))⟩ (.take 5 ⟨(some 28), none, .q (.mv (.t 5))⟩ (.take 6 ⟨(some 29), none, .q (.bin .sub (.t 28) (.c (.int .i64 1)))⟩ (.take 7 ⟨(some 30), none, .q (.ixs 1 (.t 27) (.t 29))⟩ (.take 8 ⟨(some 31), none, .q (.ld false 1 (.t 30))⟩ (.take 9 ⟨(some 32), none, .q (.bin .leq (.t 26) (.t 31))⟩ .done)))))))))))
       (.cond (.t 32)
        (.seq (.reg [⟨(some 4), none, .q (.mv (.c (.bool false)))⟩])
        .ret)
        .skip)))
     (.reg [⟨(some 21), none, .q (.mv (.t 5))⟩,
       ⟨(some 22), none, .q (.bin .add (.t 21) (.c (.int .i64 1)))⟩,
       ⟨(some 5), none, .q (.mv (.t 22))⟩]))))))
  (.seq (.reg [⟨(some 4), none, .q (.mv (.c (.bool true)))⟩])
  .ret))))⟩
theorem l_impl_isCode : lowF PA f_impl_isCode 2 [.k [1, 5], .s (.take 0 (.take 1 (.take 2 (.take 3 (.take 4 (.take 5 (.take 6 (.take 7 (.take 8 (.take 9 .done))))))))))] = some c_impl_isCode := by kernel_rfl
abbrev f_impl_farness : FuncId := 54
def c_impl_farness : AF := ⟨2, 41, [.t 4],
  (.seq (.reg [⟨(some 2), none, .m (.box (.t 0))⟩,
     ⟨(some 4), none, .q (.mv (.c (.slice none 0 0)))⟩])
  (.seq (.reg [⟨(some 12), none, .q (.ld true 1 (.t 2))⟩,
     ⟨(some 13), none, .q (.mv (.t 1))⟩,
     ⟨(some 14), none, .c (.call 33 [(.t 12), (.t 13)])⟩,
     ⟨(some 15), none, .m (.bsl 1 [])⟩,
     ⟨(some 5), none, .q (.mv (.t 14))⟩,
     ⟨(some 6), none, .q (.mv (.t 15))⟩])
  (.seq (.seq (.reg [⟨(some 16), none, .q (.ld true 1 (.t 2))⟩,
      ⟨(some 17), none, .c (.call 78 [(.t 16)])⟩,
      ⟨(some 18), none, .q (.len (.t 17))⟩,
      ⟨(some 19), none, .q (.mv (.c (.int .i64 0)))⟩])
   (.block 0 (.loop [5, 6, 17, 18, 19] (.seq (.reg [⟨(some 20), none, .q (.bin .lss (.t 19) (.t 18))⟩])
     (.seq (.cond (.t 20)
       .skip
       (.exit 0))
     (.seq (.block 1 (.seq (.reg [⟨(some 21), none, .q (.ixs 8 (.t 17) (.t 19))⟩,
          ⟨(some 22), none, .q (.ld true 8 (.t 21))⟩,
          ⟨(some 8), none, .m (.alloc [(.v (.int .u8 0)), (.v (.int .u8 0)), (.v (.int .u8 0)), (.v (.int .u8 0)), (.v (.int .u8 0)), (.v (.int .u8 0)), (.v (.int .u8 0)), (.v (.int .u8 0))])⟩,
          ⟨none, none, .m (.st true 8 (.t 8) (.t 22))⟩])
       (.seq (.reg [⟨(some 9), none, .q (.mv (.c (.int .i64 8)))⟩])
       (.seq (.seq (.reg [⟨(some 23), none, .q (.mv (.t 5))⟩,
           ⟨(some 24), none, .q (.len (.t 23))⟩,
           ⟨(some 25), none, .q (.mv (.c (.int .i64 0)))⟩])
        (.block 2 (.loop [5, 6, 8, 9, 17, 18, 19, 23, 24, 25] (.seq (.reg [⟨(some 26), none, .q (.bin .lss (.t 25) (.t 24))⟩])
          (.seq (.cond (.t 26)
            .skip
            (.exit 2))
          (.seq (.block 3 (.seq (.reg [⟨(some 27), none, .q (.ixs 8 (.t 23) (.t 25))⟩,
               ⟨(some 28), none, .q (.ld true 8 (.t 27))⟩,
               ⟨(some 11), none, .m (.alloc [(.v (.int .u8 0)), (.v (.int .u8 0)), (.v (.int .u8 0)), (.v (.int .u8 0)), (.v (.int .u8 0)), (.v (.int .u8 0)), (.v (.int .u8 0)), (.v (.int .u8 0))])⟩,
               ⟨none, none, .m (.st true 8 (.t 11) (.t 28))⟩])
            (.reg [⟨(some 29), none, .q (.mv (.t 9))⟩,
              ⟨(some 30), none, .q (.ld true 8 (.t 8))⟩,
              ⟨(some 31), none, .q (.ld true 8 (.t 11))⟩,
              ⟨(some 32), none, .c (.call 35 [(.t 30), (.t 31)])⟩,
              ⟨(some 33), none, .q (.mn (.t 29) (.t 32))⟩,
              ⟨(some 9), none, .q (.mv (.t 33))⟩])))
          (.reg [⟨(some 34), none, .q (.bin .add (.t 25) (.c (.int .i64 1)))⟩,
            ⟨(some 25), none, .q (.mv (.t 34))⟩])))))))
       (.reg [⟨(some 35), none, .q (.mv (.t 6))⟩,
         ⟨(some 36), none, .q (.mv (.t 9))⟩,
         ⟨(some 37), none, .m (.bsl 1 [(.t 36)])⟩,
         ⟨(some 38), none, .m (.app 1 8 (.t 35) (.t 37))⟩,
         ⟨(some 6), none, .q (.mv (.t 38))⟩])))))
     (.reg [⟨(some 39), none, .q (.bin .add (.t 19) (.c (.int .i64 1)))⟩,
       ⟨(some 19), none, .q (.mv (.t 39))⟩])))))))
  (.seq (.reg [⟨(some 40), none, .q (.mv (.t 6))⟩,
     ⟨(some 4), none, .q (.mv (.t 40))⟩])
  .ret))))⟩
theorem l_impl_farness : lowF PA f_impl_farness 2 [.k [5, 6, 17, 18, 19], .k [5, 6, 8, 9, 17, 18, 19, 23, 24, 25]] = some c_impl_farness := by kernel_rfl
abbrev f_impl_digitsOf : FuncId := 55
def c_impl_digitsOf : AF := ⟨2, 34, [.c 4 true 8],
  (.seq (.reg [⟨(some 2), none, .m (.box (.t 0))⟩,
     ⟨(some 4), none, .m (.alloc [(.v (.int .u8 0)), (.v (.int .u8 0)), (.v (.int .u8 0)), (.v (.int .u8 0)), (.v (.int .u8 0)), (.v (.int .u8 0)), (.v (.int .u8 0)), (.v (.int .u8 0))])⟩])
  (.seq (.reg [⟨(some 7), none, .q (.bld [(.v (.int .u8 0)), (.v (.int .u8 0)), (.v (.int .u8 0)), (.v (.int .u8 0)), (.v (.int .u8 0)), (.v (.int .u8 0)), (.v (.int .u8 0)), (.v (.int .u8 0))] [])⟩,
     ⟨(some 5), none, .m (.alloc [(.v (.int .u8 0)), (.v (.int .u8 0)), (.v (.int .u8 0)), (.v (.int .u8 0)), (.v (.int .u8 0)), (.v (.int .u8 0)), (.v (.int .u8 0)), (.v (.int .u8 0))])⟩,
     ⟨none, none, .m (.st true 8 (.t 5) (.t 7))⟩])
  (.seq (.seq (.reg [⟨(some 8), none, .q (.fad 0 (.t 2))⟩,
      ⟨(some 9), none, .q (.ld false 1 (.t 8))⟩,
      ⟨(some 10), none, .q (.len (.t 9))⟩,
      ⟨(some 11), none, .q (.bin .sub (.t 10) (.c (.int .i64 1)))⟩,
      ⟨(some 6), none, .q (.mv (.t 11))⟩])
   (.block 0 (.loop [1, 2, 4, 5, 6] (.seq (.seq (.reg [⟨(some 12), none, .q (.mv (.t 6))⟩,
         ⟨(some 13), none, .q (.bin .geq (.t 12) (.c (.int .i64 0)))⟩])
      (.cond (.t 13)
       .skip
       (.exit 0)))
     (.seq (.block 1 (.seq (.reg [⟨(some 16), none, .q (.mv (.t 6))⟩,
          ⟨(some 17), none, .q (.mv (.t 1))⟩,
          ⟨(some 18), none, .q (.fad 0 (.t 2))⟩,
          ⟨(some 19), none, .q (.ld false 1 (.t 18))⟩,
          ⟨(some 20), none, .q (.mv (.t 6))⟩,
          ⟨(some 21), none, .q (.ixs 1 (.t 19) (.t 20))⟩,
          ⟨(some 22), none, .q (.ld false 1 (.t 21))⟩,
          ⟨(some 23), none, .q (.bin .rem (.t 17) (.t 22))⟩,
          ⟨(some 24), none, .q (.cvt .u8 (.t 23))⟩,
          ⟨(some 25), none, .q (.ixa 8 1 (.t 5) (.t 16))⟩,
          ⟨none, none, .m (.st false 1 (.t 25) (.t 24))⟩])
       (.reg [⟨(some 26), none, .q (.mv (.t 1))⟩,
         ⟨(some 27), none, .q (.fad 0 (.t 2))⟩,
         ⟨(some 28), none, .q (.ld false 1 (.t 27))⟩,
         ⟨(some 29), none, .q (.mv (.t 6))⟩,
         ⟨(some 30), none, .q (.ixs 1 (.t 28) (.t 29))⟩,
         ⟨(some 31), none, .q (.ld false 1 (.t 30))⟩,
         ⟨(some 32), none, .q (.bin .quo (.t 26) (.t 31))⟩,
         ⟨(some 1), none, .q (.mv (.t 32))⟩])))
     (.reg [⟨(some 14), none, .q (.mv (.t 6))⟩,
       ⟨(some 15), none, .q (.bin .sub (.t 14) (.c (.int .i64 1)))⟩,
       ⟨(some 6), none, .q (.mv (.t 15))⟩]))))))
  (.seq (.reg [⟨(some 33), none, .q (.ld true 8 (.t 5))⟩,
     ⟨none, none, .m (.st true 8 (.t 4) (.t 33))⟩])
  .ret))))⟩
theorem l_impl_digitsOf : lowF PA f_impl_digitsOf 2 [.k [1, 2, 4, 5, 6]] = some c_impl_digitsOf := by kernel_rfl
abbrev f_impl_those : FuncId := 56
def c_impl_those : AF := ⟨2, 26, [.t 4],
  (.seq (.reg [⟨(some 2), none, .m (.box (.t 0))⟩,
     ⟨(some 4), none, .q (.mv (.c (.slice none 0 0)))⟩])
  (.seq (.reg [⟨(some 8), none, .m (.bsl 1 [])⟩,
     ⟨(some 5), none, .q (.mv (.t 8))⟩])
  (.seq (.seq (.reg [⟨(some 9), none, .q (.ld true 1 (.t 2))⟩,
      ⟨(some 10), none, .c (.call 78 [(.t 9)])⟩,
      ⟨(some 11), none, .q (.len (.t 10))⟩,
      ⟨(some 12), none, .q (.mv (.c (.int .i64 0)))⟩])
   (.block 0 (.loop [1, 5, 10, 11, 12] (.seq (.reg [⟨(some 13), none, .q (.bin .lss (.t 12) (.t 11))⟩])
     (.seq (.cond (.t 13)
       .skip
       (.exit 0))
     (.seq (.block 1 (.seq (.reg [⟨(some 14), none, .q (.mv (.t 12))⟩,
          ⟨(some 15), none, .q (.ixs 8 (.t 10) (.t 12))⟩,
          ⟨(some 16), none, .q (.ld true 8 (.t 15))⟩,
          ⟨(some 7), none, .m (.alloc [(.v (.int .u8 0)), (.v (.int .u8 0)), (.v (.int .u8 0)), (.v (.int .u8 0)), (.v (.int .u8 0)), (.v (.int .u8 0)), (.v (.int .u8 0)), (.v (.int .u8 0))])⟩,
          ⟨(some 6), none, .q (.mv (.t 14))⟩,
          ⟨none, none, .m (.st true 8 (.t 7) (.t 16))⟩])
       (.seq (.reg [⟨(some 17), none, .q (.mv (.t 1))⟩,
          ⟨(some 18), none, .q (.ld true 8 (.t 7))⟩,
          ⟨(some 19), none, .c (.cav (.t 17) [(.t 18)])⟩])
       (.cond (.t 19)
        (.reg [⟨(some 20), none, .q (.mv (.t 5))⟩,
          ⟨(some 21), none, .q (.mv (.t 6))⟩,
          ⟨(some 22), none, .m (.bsl 1 [(.t 21)])⟩,
          ⟨(some 23), none, .m (.app 1 8 (.t 20) (.t 22))⟩,
          ⟨(some 5), none, .q (.mv (.t 23))⟩])
        .skip))))
     (.reg [⟨(some 24), none, .q (.bin .add (.t 12) (.c (.int .i64 1)))⟩,
       ⟨(some 12), none, .q (.mv (.t 24))⟩])))))))
  (.seq (.reg [⟨(some 25), none, .q (.mv (.t 5))⟩,
     ⟨(some 4), none, .q (.mv (.t 25))⟩])
  .ret))))⟩
theorem l_impl_those : lowF PA f_impl_those 2 [.k [1, 5, 10, 11, 12]] = some c_impl_those := by kernel_rfl
abbrev f_impl_bets_1 : FuncId := 57
def c_impl_bets_1 : AF := ⟨2, 21, [.t 3],
  (.seq (.reg [⟨(some 2), none, .m (.box (.t 0))⟩,
     ⟨(some 3), none, .q (.mv (.c (.bool false)))⟩])
  (.seq (.seq (.reg [⟨(some 6), none, .q (.ld false 1 (.t 1))⟩,
      ⟨(some 7), none, .q (.len (.t 6))⟩,
      ⟨(some 8), none, .q (.mv (.c (.int .i64 0)))⟩])
   (.block 0 (.loop [2, 6, 7, 8] (.seq (.reg [⟨(some 9), none, .q (.bin .lss (.t 8) (.t 7))⟩])
     (.seq (.cond (.t 9)
       .skip
       (.exit 0))
     (.seq (.block 1 (.seq (.reg [⟨(some 10), none, .q (.mv (.t 8))⟩,
          ⟨(some 11), none, .q (.ixs 1 (.t 6) (.t 8))⟩,
          ⟨(some 12), none, .q (.ld false 1 (.t 11))⟩,
          ⟨(some 4), none, .q (.mv (.t 10))⟩,
          ⟨(some 5), none, .q (.mv (.t 12))⟩])
       (.seq (.reg [⟨(some 13), none, .q (.mv (.t 5))⟩,
          ⟨(some 14), none, .q (.mv (.t 4))⟩,
          ⟨(some 15), none, .q (.ixa 8 1 (.t 2) (.t 14))⟩,
          ⟨(some 16), none, .q (.ld false 1 (.t 15))⟩,
          ⟨(some 17), none, .q (.bin .shr (.t 13) (.t 16))⟩,
          ⟨(some 18), none, .q (.bin .and (.t 17) (.c (.int .i64 1)))⟩,
          ⟨(some 19), none, .q (.bin .eql (.t 18) (.c (.int .i64 0)))⟩])
       (.cond (.t 19)
        (.seq (.reg [⟨(some 3), none, .q (.mv (.c (.bool false)))⟩])
        .ret)
        .skip))))
     (.reg [⟨(some 20), none, .q (.bin .add (.t 8) (.c (.int .i64 1)))⟩,
       ⟨(some 8), none, .q (.mv (.t 20))⟩])))))))
  (.seq (.reg [⟨(some 3), none, .q (.mv (.c (.bool true)))⟩])
  .ret)))⟩
theorem l_impl_bets_1 : lowF PA f_impl_bets_1 2 [.k [2, 6, 7, 8]] = some c_impl_bets_1 := by kernel_rfl
abbrev f_spec_l01Distance : FuncId := 59
def c_spec_l01Distance : AF := ⟨3, 49, [.t 6],
  (.seq (.reg [⟨(some 3), none, .m (.box (.t 0))⟩,
     ⟨(some 6), none, .q (.mv (.c (.int .i64 0)))⟩])
  (.seq (.reg [⟨(some 7), none, .q (.mv (.c (.int .i64 0)))⟩])
  (.seq (.seq (.reg [⟨(some 9), none, .q (.fad 0 (.t 3))⟩,
      ⟨(some 10), none, .q (.ld false 1 (.t 9))⟩,
      ⟨(some 11), none, .q (.len (.t 10))⟩,
      ⟨(some 12), none, .q (.bin .sub (.t 11) (.c (.int .i64 1)))⟩,
      ⟨(some 8), none, .q (.mv (.t 12))⟩])
   (.block 0 (.loop [1, 2, 3, 7, 8] (.seq (.seq (.reg [⟨(some 13), none, .q (.mv (.t 8))⟩,
         ⟨(some 14), none, .q (.bin .geq (.t 13) (.c (.int .i64 0)))⟩])
      (.cond (.t 14)
       .skip
       (.exit 0)))
     (.seq (.block 1 (.seq (.seq (.sch (.take 0 ⟨(some 17), none, .q (.mv (.t 1))⟩ (.take 1 ⟨(some 18), none, .q (.fad 0 (.t 3))⟩ (.take 2 ⟨(some 19), none, .q (.ld false 1 (.t 18))⟩ (.take 3 ⟨(some 20), none, .q (.mv (.t 8))⟩ (.take 4 ⟨(some 21), none, .q (.ixs 1 (.t 19) (.t 20))⟩ (.take 5 ⟨(some 22), none, .q (.ld false 1 (.t 21))⟩ (.take 6 ⟨(some 23), none, .q (.bin .rem (.t 17) (.t 22))⟩ (.take 7 ⟨(some 24), none, .q (.mv (.t 2))⟩ (.take 8 ⟨(some 25), none, .q (.fad 0 (.t 3))⟩ (.take 9 ⟨(some 26), none, .q (.ld false 1 (.t 25))⟩ (.take 10 ⟨(some 27), none, .q (.mv (.t 8))⟩ (.take 11 ⟨(some 28), none, .q (.ixs 1 (.t 26) (.t 27))⟩ (.take 12 ⟨(some 29), none, .q (.ld false 1 (.t 28))⟩ (.take 13 ⟨(some 30), none, .q (.bin .rem (.t 24) (.t 29))⟩ (.take 14 ⟨(some 31), none, .q (.bin .neq (.t 23) (.t 30))⟩ .done))))))))))))))))
        (.cond (.t 31)
         (.reg [⟨(some 32), none, .q (.mv (.t 7))⟩,
           ⟨(some 33), none, .q (.bin .add (.t 32) (.c (.int .i64 1)))⟩,
           ⟨(some 7), none, .q (.mv (.t 33))⟩])
         .skip))
       (.seq (.reg [⟨(some 34), none, .q (.mv (.t 1))⟩,
          ⟨(some 35), none, .q (.fad 0 (.t 3))⟩,
          ⟨(some 36), none, .q (.ld false 1 (.t 35))⟩,
          ⟨(some 37), none, .q (.mv (.t 8))⟩,
          ⟨(some 38), none, .q (.ixs 1 (.t 36) (.t 37))⟩,
          ⟨(some 39), none, .q (.ld false 1 (.t 38))⟩,
          ⟨(some 40), none, .q (.bin .quo (.t 34) (.t 39))⟩,
          ⟨(some 1), none, .q (.mv (.t 40))⟩])
       (.reg [⟨(some 41), none, .q (.mv (.t 2))⟩,
         ⟨(some 42), none, .q (.fad 0 (.t 3))⟩,
         ⟨(some 43), none, .q (.ld false 1 (.t 42))⟩,
         ⟨(some 44), none, .q (.mv (.t 8))⟩,
         ⟨(some 45), none, .q (.ixs 1 (.t 43) (.t 44))⟩,
         ⟨(some 46), none, .q (.ld false 1 (.t 45))⟩,
         ⟨(some 47), none, .q (.bin .quo (.t 41) (.t 46))⟩,
         ⟨(some 2), none, .q (.mv (.t 47))⟩]))))
     (.reg [⟨(some 15), none, .q (.mv (.t 8))⟩,
       ⟨(some 16), none, .q (.bin .sub (.t 15) (.c (.int .i64 1)))⟩,
       ⟨(some 8), none, .q (.mv (.t 16))⟩]))))))
  (.seq (.reg [⟨(some 48), none, .q (.mv (.t 7))⟩,
     ⟨(some 6), none, .q (.mv (.t 48))⟩])
  .ret))))⟩
theorem l_spec_l01Distance : lowF PA f_spec_l01Distance 3 [.k [1, 2, 3, 7, 8], .s (.take 0 (.take 1 (.take 2 (.take 3 (.take 4 (.take 5 (.take 6 (.take 7 (.take 8 (.take 9 (.take 10 (.take 11 (.take 12 (.take 13 (.take 14 .done)))))))))))))))] = some c_spec_l01Distance := by kernel_rfl
abbrev f_spec_l01Is : FuncId := 67
def c_spec_l01Is : AF := ⟨1, 26, [.t 2],
  (.seq (.reg [⟨(some 1), none, .m (.box (.t 0))⟩,
     ⟨(some 2), none, .q (.mv (.c (.bool false)))⟩])
  (.seq (.seq (.reg [⟨(some 4), none, .q (.fad 0 (.t 1))⟩,
      ⟨(some 5), none, .q (.ld false 1 (.t 4))⟩,
      ⟨(some 6), none, .q (.len (.t 5))⟩,
      ⟨(some 7), none, .c (.call 68 [(.t 6), (.c (.int .i64 1)), (.c (.int .i64 8))])⟩,
      ⟨(some 8), none, .q (.un .not (.t 7))⟩])
   (.cond (.t 8)
    (.seq (.reg [⟨(some 2), none, .q (.mv (.c (.bool false)))⟩])
    .ret)
    .skip))
  (.seq (.seq (.reg [⟨(some 3), none, .q (.mv (.c (.int .i64 0)))⟩])
   (.block 0 (.loop [1, 3] (.seq (.seq (.reg [⟨(some 9), none, .q (.mv (.t 3))⟩,
         ⟨(some 10), none, .q (.fad 0 (.t 1))⟩,
         ⟨(some 11), none, .q (.ld false 1 (.t 10))⟩,
         ⟨(some 12), none, .q (.len (.t 11))⟩,
         ⟨(some 13), none, .q (.bin .lss (.t 9) (.t 12))⟩])
      (.cond (.t 13)
       .skip
       (.exit 0)))
     (.seq (.block 1 (.seq (.reg [⟨(some 16), none, .q (.fad 0 (.t 1))⟩,
          ⟨(some 17), none, .q (.ld false 1 (.t 16))⟩,
          ⟨(some 18), none, .q (.mv (.t 3))⟩,
          ⟨(some 19), none, .q (.ixs 1 (.t 17) (.t 18))⟩,
          ⟨(some 20), none, .q (.ld false 1 (.t 19))⟩,
          ⟨(some 21), none, .c (.call 68 [(.t 20), (.c (.int .i64 2)), (.c (.int .i64 4))])⟩,
          ⟨(some 22), none, .q (.un .not (.t 21))⟩])
       (.cond (.t 22)
        (.seq (.reg [⟨(some 2), none, .q (.mv (.c (.bool false)))⟩])
        .ret)
        .skip)))
     (.reg [⟨(some 14), none, .q (.mv (.t 3))⟩,
       ⟨(some 15), none, .q (.bin .add (.t 14) (.c (.int .i64 1)))⟩,
       ⟨(some 3), none, .q (.mv (.t 15))⟩]))))))
  (.seq (.reg [⟨(some 23), none, .q (.ld true 1 (.t 1))⟩,
     ⟨(some 24), none, .c (.call 69 [(.t 23)])⟩,
     ⟨(some 25), none, .q (.bin .leq (.t 24) (.c (.int .i64 1024)))⟩,
     ⟨(some 2), none, .q (.mv (.t 25))⟩])
  .ret))))⟩
theorem l_spec_l01Is : lowF PA f_spec_l01Is 1 [.k [1, 3]] = some c_spec_l01Is := by kernel_rfl
abbrev f_spec_l01In : FuncId := 68
def c_spec_l01In : AF := ⟨3, 15, [.t 6],
  (.seq (.reg [⟨(some 6), none, .q (.mv (.c (.bool false)))⟩])
  (.seq (.reg [⟨(some 7), none, .q (.mv (.t 0))⟩,
     ⟨(some 8), none, .q (.mv (.t 1))⟩,
     ⟨(some 9), none, .q (.bin .geq (.t 7) (.t 8))⟩,
     ⟨(some 10), none, .q (.mv (.t 9))⟩,
     ⟨(some 11), (some (10, true)), .q (.mv (.t 0))⟩,
     ⟨(some 12), (some (10, true)), .q (.mv (.t 2))⟩,
     ⟨(some 13), (some (10, true)), .q (.bin .leq (.t 11) (.t 12))⟩,
     ⟨(some 14), none, .q (.pick (.t 10) (.t 13) (.c (.bool false)))⟩,
     ⟨(some 6), none, .q (.mv (.t 14))⟩])
  .ret))⟩
theorem l_spec_l01In : lowF PA f_spec_l01In 3 [] = some c_spec_l01In := by kernel_rfl
abbrev f_spec_l01N : FuncId := 69
def c_spec_l01N : AF := ⟨1, 20, [.t 2],
  (.seq (.reg [⟨(some 1), none, .m (.box (.t 0))⟩,
     ⟨(some 2), none, .q (.mv (.c (.int .i64 0)))⟩])
  (.seq (.reg [⟨(some 3), none, .q (.mv (.c (.int .i64 1)))⟩])
  (.seq (.seq (.reg [⟨(some 4), none, .q (.mv (.c (.int .i64 0)))⟩])
   (.block 0 (.loop [1, 3, 4] (.seq (.seq (.reg [⟨(some 5), none, .q (.mv (.t 4))⟩,
         ⟨(some 6), none, .q (.fad 0 (.t 1))⟩,
         ⟨(some 7), none, .q (.ld false 1 (.t 6))⟩,
         ⟨(some 8), none, .q (.len (.t 7))⟩,
         ⟨(some 9), none, .q (.bin .lss (.t 5) (.t 8))⟩])
      (.cond (.t 9)
       .skip
       (.exit 0)))
     (.seq (.block 1 (.reg [⟨(some 12), none, .q (.mv (.t 3))⟩,
         ⟨(some 13), none, .q (.fad 0 (.t 1))⟩,
         ⟨(some 14), none, .q (.ld false 1 (.t 13))⟩,
         ⟨(some 15), none, .q (.mv (.t 4))⟩,
         ⟨(some 16), none, .q (.ixs 1 (.t 14) (.t 15))⟩,
         ⟨(some 17), none, .q (.ld false 1 (.t 16))⟩,
         ⟨(some 18), none, .q (.bin .mul (.t 12) (.t 17))⟩,
         ⟨(some 3), none, .q (.mv (.t 18))⟩]))
     (.reg [⟨(some 10), none, .q (.mv (.t 4))⟩,
       ⟨(some 11), none, .q (.bin .add (.t 10) (.c (.int .i64 1)))⟩,
       ⟨(some 4), none, .q (.mv (.t 11))⟩]))))))
  (.seq (.reg [⟨(some 19), none, .q (.mv (.t 3))⟩,
     ⟨(some 2), none, .q (.mv (.t 19))⟩])
  .ret))))⟩
theorem l_spec_l01N : lowF PA f_spec_l01N 1 [.k [1, 3, 4]] = some c_spec_l01N := by kernel_rfl
abbrev f_spec_l07Is : FuncId := 73
def c_spec_l07Is : AF := ⟨2, 32, [.t 4],
  (.seq (.reg [⟨(some 2), none, .m (.box (.t 0))⟩,
     ⟨(some 4), none, .q (.mv (.c (.bool false)))⟩])
  (.seq (.seq (.reg [⟨(some 6), none, .q (.mv (.t 1))⟩,
      ⟨(some 7), none, .q (.len (.t 6))⟩,
      ⟨(some 8), none, .q (.fad 0 (.t 2))⟩,
      ⟨(some 9), none, .q (.ld false 1 (.t 8))⟩,
      ⟨(some 10), none, .q (.len (.t 9))⟩,
      ⟨(some 11), none, .q (.bin .neq (.t 7) (.t 10))⟩])
   (.cond (.t 11)
    (.seq (.reg [⟨(some 4), none, .q (.mv (.c (.bool false)))⟩])
    .ret)
    .skip))
  (.seq (.seq (.reg [⟨(some 12), none, .q (.mv (.t 1))⟩,
      ⟨(some 13), none, .q (.len (.t 12))⟩,
      ⟨(some 14), none, .q (.mv (.c (.int .i64 0)))⟩])
   (.block 0 (.loop [1, 2, 13, 14] (.seq (.reg [⟨(some 15), none, .q (.bin .lss (.t 14) (.t 13))⟩])
     (.seq (.cond (.t 15)
       .skip
       (.exit 0))
     (.seq (.block 1 (.seq (.reg [⟨(some 16), none, .q (.mv (.t 14))⟩,
          ⟨(some 5), none, .q (.mv (.t 16))⟩])
       (.seq (.sch (.take 0 ⟨(some 17), none, .q (.mv (.t 1))⟩ (.take 1 ⟨(some 18), none, .q (.mv (.t 5))⟩ (.take 2 ⟨(some 19), none, .q (.ixs 1 (.t 17) (.t 18))⟩ (.take 3 ⟨(some 20), none, .q (.ld false 1 (.t 19))⟩ (.take 4 ⟨(some 21), none, .q (.fad 0 (.t 2))⟩ (.take 5 ⟨(some 22), none, .q (.ld false 1 (.t 21))⟩ (.take 6 ⟨(some 23), none, .q (.mv (.t 5))⟩ (.take 7 ⟨(some 24), none, .q (.ixs 1 (.t 22) (.t 23))⟩ (.take 8 ⟨(some 25), none, .q (.ld false 1 (.t 24))⟩ (.take 9 ⟨(some 26), none, .q (.cvt .u64 (.t 25))⟩ (.take 10 ⟨(some 27), none, .q (.bin .shl (.c (.int .i64 1)) (.t 26))⟩ (.take 11 ⟨(some 28), none, .q (.bin .sub (.t 27) (.c (.int .i64 1)))⟩ (.one ⟨(some 29), none, .c (.call 68 [(.t 20), (.c (.int .i64 1)), (.t 28)])⟩ [3] (.take 13 ⟨(some 30), none, .q (.un .not (.t 29))⟩ .done)))))))))))))))
       (.cond (.t 30)
        (.seq (.reg [⟨(some 4), none, .q (.mv (.c (.bool false)))⟩])
        .ret)
        .skip))))
     (.reg [⟨(some 31), none, .q (.bin .add (.t 14) (.c (.int .i64 1)))⟩,
       ⟨(some 14), none, .q (.mv (.t 31))⟩])))))))
  (.seq (.reg [⟨(some 4), none, .q (.mv (.c (.bool true)))⟩])
  .ret))))⟩
theorem l_spec_l07Is : lowF PA f_spec_l07Is 2 [.k [1, 2, 13, 14], .s (.take 0 (.take 1 (.take 2 (.take 3 (.take 4 (.take 5 (.take 6 (.take 7 (.take 8 (.take 9 (.take 10 (.take 11 (.one 12 (.take 13 .done))))))))))))))] = some c_spec_l07Is := by kernel_rfl
abbrev f_spec_l01Code : FuncId := 74
def c_spec_l01Code : AF := ⟨2, 37, [.t 4],
  (.seq (.reg [⟨(some 2), none, .m (.box (.t 0))⟩,
     ⟨(some 4), none, .q (.mv (.c (.bool false)))⟩])
  (.seq (.seq (.reg [⟨(some 5), none, .q (.mv (.c (.int .i64 0)))⟩])
   (.block 0 (.loop [1, 2, 5] (.seq (.seq (.reg [⟨(some 6), none, .q (.mv (.t 5))⟩,
         ⟨(some 7), none, .q (.mv (.t 1))⟩,
         ⟨(some 8), none, .q (.len (.t 7))⟩,
         ⟨(some 9), none, .q (.bin .lss (.t 6) (.t 8))⟩])
      (.cond (.t 9)
       .skip
       (.exit 0)))
     (.seq (.block 1 (.seq (.sch (.take 0 ⟨(some 12), none, .q (.mv (.t 1))⟩ (.take 1 ⟨(some 13), none, .q (.mv (.t 5))⟩ (.take 2 ⟨(some 14), none, .q (.ixs 1 (.t 12) (.t 13))⟩ (.take 3 ⟨(some 15), none, .q (.ld false 1 (.t 14))⟩ (.take 4 ⟨(some 16), none, .q (.ld true 1 (.t 2))⟩ (.one ⟨(some 17), none, .c (.call 69 [(.t 16)])⟩ [4] (.take 6 ⟨(some 18), none, .q (.bin .sub (.t 17) (.c (.int .i64 1)))⟩ (.one ⟨(some 19), none, .c (.call 68 [(.t 15), (.c (.int .i64 0)), (.t 18)])⟩ [3] (.take 8 ⟨(some 20), none, .q (.un .not (.t 19))⟩ (.take 9 ⟨(some 21), none, .q (.mv (.t 20))⟩ (.take 10 ⟨(some 22), (some (21, false)), .q (.mv (.t 5))⟩ (.take 11 ⟨(some 23), (some (21, false)), .q (.bin .gtr (.t 22) (.c (.int .i64 0)))⟩ (.take 12 ⟨(some 24), (some (21, false)), .q (.mv (.t 23))⟩ (.take 13 ⟨(some 25), (some (24, true)), .q (.mv (.t 1))⟩ (.take 14 ⟨(some 26), (some (24, true)), .q (.mv (.t 5))⟩ (.take 15 ⟨(some 27), (some (24, true)), .q (.ixs 1 (.t 25) (.t 26))⟩ (.take 16 ⟨(some 28), (some (24, true)), .q (.ld false 1 (.t 27))⟩ (.take 17 ⟨(some 29), (some (24, true)), .q (.mv (.t 1))⟩ (.take 18 ⟨(some 30), (some (24, true)), .q (.mv (.t 5))⟩ (.take 19 ⟨(some 31), (some (24, true)), .q (.bin .sub (.t 30) (.c (.int .i64 1)))⟩ (.take 20 ⟨(some 32), (some (24, true)), .q (.ixs 1 (.t 29) (.t 31))⟩ (.take 21 ⟨(some 33), (some (24, true)), .q (.ld false 1 (.t 32))⟩ (.take 22 ⟨(some 34), (some (24, true)), .q (.bin .leq (.t 28) (.t 33))⟩ (.take 23 ⟨(some 35), (some (21, false)), .q (.pick (.t 24) (.t 34) (.c (.bool false)))⟩ (.take 24 ⟨(some 36), none, .q (.pick (.t 21) (.c (.bool true)) (.t 35))⟩ .done))))))))))))))))))))))))))
       (.cond (.t 36)
        (.seq (.reg [⟨(some 4), none, .q (.mv (.c (.bool false)))⟩])
        .ret)
        .skip)))
     (.reg [⟨(some 10), none, .q (.mv (.t 5))⟩,
       ⟨(some 11), none, .q (.bin .add (.t 10) (.c (.int .i64 1)))⟩,
       ⟨(some 5), none, .q (.mv (.t 11))⟩]))))))
  (.seq (.reg [⟨(some 4), none, .q (.mv (.c (.bool true)))⟩])
  .ret)))⟩
theorem l_spec_l01Code : lowF PA f_spec_l01Code 2 [.k [1, 2, 5], .s (.take 0 (.take 1 (.take 2 (.take 3 (.take 4 (.one 5 (.take 6 (.one 7 (.take 8 (.take 9 (.take 10 (.take 11 (.take 12 (.take 13 (.take 14 (.take 15 (.take 16 (.take 17 (.take 18 (.take 19 (.take 20 (.take 21 (.take 22 (.take 23 (.take 24 .done)))))))))))))))))))))))))] = some c_spec_l01Code := by kernel_rfl
abbrev f_spec_l07Signs : FuncId := 75
def c_spec_l07Signs : AF := ⟨1, 21, [.t 2],
  (.seq (.reg [⟨(some 2), none, .q (.mv (.c (.slice none 0 0)))⟩])
  (.seq (.reg [⟨(some 5), none, .m (.bsl 1 [])⟩,
     ⟨(some 3), none, .q (.mv (.t 5))⟩])
  (.seq (.seq (.reg [⟨(some 4), none, .q (.mv (.c (.int .i64 0)))⟩])
   (.block 0 (.loop [0, 3, 4] (.seq (.seq (.reg [⟨(some 6), none, .q (.mv (.t 4))⟩,
         ⟨(some 7), none, .q (.bin .lss (.t 6) (.c (.int .i64 4)))⟩])
      (.cond (.t 7)
       .skip
       (.exit 0)))
     (.seq (.block 1 (.seq (.reg [⟨(some 10), none, .q (.mv (.t 0))⟩,
          ⟨(some 11), none, .q (.mv (.t 4))⟩,
          ⟨(some 12), none, .q (.cvt .u64 (.t 11))⟩,
          ⟨(some 13), none, .q (.bin .shr (.t 10) (.t 12))⟩,
          ⟨(some 14), none, .q (.bin .and (.t 13) (.c (.int .i64 1)))⟩,
          ⟨(some 15), none, .q (.bin .eql (.t 14) (.c (.int .i64 1)))⟩])
       (.cond (.t 15)
        (.reg [⟨(some 16), none, .q (.mv (.t 3))⟩,
          ⟨(some 17), none, .q (.mv (.t 4))⟩,
          ⟨(some 18), none, .m (.bsl 1 [(.t 17)])⟩,
          ⟨(some 19), none, .m (.app 1 8 (.t 16) (.t 18))⟩,
          ⟨(some 3), none, .q (.mv (.t 19))⟩])
        .skip)))
     (.reg [⟨(some 8), none, .q (.mv (.t 4))⟩,
       ⟨(some 9), none, .q (.bin .add (.t 8) (.c (.int .i64 1)))⟩,
       ⟨(some 4), none, .q (.mv (.t 9))⟩]))))))
  (.seq (.reg [⟨(some 20), none, .q (.mv (.t 3))⟩,
     ⟨(some 2), none, .q (.mv (.t 20))⟩])
  .ret))))⟩
theorem l_spec_l07Signs : lowF PA f_spec_l07Signs 1 [.k [0, 3, 4]] = some c_spec_l07Signs := by kernel_rfl
abbrev f_impl_areWords : FuncId := 76
def c_impl_areWords : AF := ⟨2, 24, [.t 4],
  (.seq (.reg [⟨(some 2), none, .m (.box (.t 0))⟩,
     ⟨(some 4), none, .q (.mv (.c (.bool false)))⟩])
  (.seq (.reg [⟨(some 8), none, .q (.ld true 1 (.t 2))⟩,
     ⟨(some 9), none, .c (.call 77 [(.t 8)])⟩,
     ⟨(some 5), none, .q (.mv (.t 9))⟩])
  (.seq (.seq (.reg [⟨(some 10), none, .q (.mv (.t 1))⟩,
      ⟨(some 11), none, .q (.len (.t 10))⟩,
      ⟨(some 12), none, .q (.mv (.c (.int .i64 0)))⟩])
   (.block 0 (.loop [5, 10, 11, 12] (.seq (.reg [⟨(some 13), none, .q (.bin .lss (.t 12) (.t 11))⟩])
     (.seq (.cond (.t 13)
       .skip
       (.exit 0))
     (.seq (.block 1 (.seq (.reg [⟨(some 14), none, .q (.ixs 1 (.t 10) (.t 12))⟩,
          ⟨(some 15), none, .q (.ld false 1 (.t 14))⟩,
          ⟨(some 7), none, .q (.mv (.t 15))⟩])
       (.seq (.reg [⟨(some 16), none, .q (.mv (.t 7))⟩,
          ⟨(some 17), none, .q (.bin .lss (.t 16) (.c (.int .i64 0)))⟩,
          ⟨(some 18), none, .q (.mv (.t 17))⟩,
          ⟨(some 19), (some (18, false)), .q (.mv (.t 7))⟩,
          ⟨(some 20), (some (18, false)), .q (.mv (.t 5))⟩,
          ⟨(some 21), (some (18, false)), .q (.bin .geq (.t 19) (.t 20))⟩,
          ⟨(some 22), none, .q (.pick (.t 18) (.c (.bool true)) (.t 21))⟩])
       (.cond (.t 22)
        (.seq (.reg [⟨(some 4), none, .q (.mv (.c (.bool false)))⟩])
        .ret)
        .skip))))
     (.reg [⟨(some 23), none, .q (.bin .add (.t 12) (.c (.int .i64 1)))⟩,
       ⟨(some 12), none, .q (.mv (.t 23))⟩])))))))
  (.seq (.reg [⟨(some 4), none, .q (.mv (.c (.bool true)))⟩])
  .ret))))⟩
theorem l_impl_areWords : lowF PA f_impl_areWords 2 [.k [5, 10, 11, 12]] = some c_impl_areWords := by kernel_rfl
abbrev f_impl_count : FuncId := 77
def c_impl_count : AF := ⟨1, 18, [.t 2],
  (.seq (.reg [⟨(some 1), none, .m (.box (.t 0))⟩,
     ⟨(some 2), none, .q (.mv (.c (.int .i64 0)))⟩])
  (.seq (.reg [⟨(some 3), none, .q (.mv (.c (.int .i64 1)))⟩])
  (.seq (.seq (.reg [⟨(some 6), none, .q (.fad 0 (.t 1))⟩,
      ⟨(some 7), none, .q (.ld false 1 (.t 6))⟩,
      ⟨(some 8), none, .q (.len (.t 7))⟩,
      ⟨(some 9), none, .q (.mv (.c (.int .i64 0)))⟩])
   (.block 0 (.loop [3, 7, 8, 9] (.seq (.reg [⟨(some 10), none, .q (.bin .lss (.t 9) (.t 8))⟩])
     (.seq (.cond (.t 10)
       .skip
       (.exit 0))
     (.seq (.block 1 (.seq (.reg [⟨(some 11), none, .q (.ixs 1 (.t 7) (.t 9))⟩,
          ⟨(some 12), none, .q (.ld false 1 (.t 11))⟩,
          ⟨(some 5), none, .q (.mv (.t 12))⟩])
       (.reg [⟨(some 13), none, .q (.mv (.t 3))⟩,
         ⟨(some 14), none, .q (.mv (.t 5))⟩,
         ⟨(some 15), none, .q (.bin .mul (.t 13) (.t 14))⟩,
         ⟨(some 3), none, .q (.mv (.t 15))⟩])))
     (.reg [⟨(some 16), none, .q (.bin .add (.t 9) (.c (.int .i64 1)))⟩,
       ⟨(some 9), none, .q (.mv (.t 16))⟩])))))))
  (.seq (.reg [⟨(some 17), none, .q (.mv (.t 3))⟩,
     ⟨(some 2), none, .q (.mv (.t 17))⟩])
  .ret))))⟩
theorem l_impl_count : lowF PA f_impl_count 1 [.k [3, 7, 8, 9]] = some c_impl_count := by kernel_rfl
abbrev f_impl_allDigits : FuncId := 78
def c_impl_allDigits : AF := ⟨1, 19, [.t 2],
  (.seq (.reg [⟨(some 1), none, .m (.box (.t 0))⟩,
     ⟨(some 2), none, .q (.mv (.c (.slice none 0 0)))⟩])
  (.seq (.reg [⟨(some 5), none, .m (.bsl 8 [])⟩,
     ⟨(some 3), none, .q (.mv (.t 5))⟩])
  (.seq (.seq (.reg [⟨(some 6), none, .q (.ld true 1 (.t 1))⟩,
      ⟨(some 7), none, .c (.call 77 [(.t 6)])⟩,
      ⟨(some 8), none, .q (.mv (.c (.int .i64 0)))⟩])
   (.block 0 (.loop [1, 3, 7, 8] (.seq (.reg [⟨(some 9), none, .q (.bin .lss (.t 8) (.t 7))⟩])
     (.seq (.cond (.t 9)
       .skip
       (.exit 0))
     (.seq (.block 1 (.seq (.reg [⟨(some 10), none, .q (.mv (.t 8))⟩,
          ⟨(some 4), none, .q (.mv (.t 10))⟩])
       (.reg [⟨(some 11), none, .q (.mv (.t 3))⟩,
         ⟨(some 12), none, .q (.ld true 1 (.t 1))⟩,
         ⟨(some 13), none, .q (.mv (.t 4))⟩,
         ⟨(some 14), none, .c (.call 55 [(.t 12), (.t 13)])⟩,
         ⟨(some 15), none, .m (.bsl 8 [(.t 14)])⟩,
         ⟨(some 16), none, .m (.app 8 8 (.t 11) (.t 15))⟩,
         ⟨(some 3), none, .q (.mv (.t 16))⟩])))
     (.reg [⟨(some 17), none, .q (.bin .add (.t 8) (.c (.int .i64 1)))⟩,
       ⟨(some 8), none, .q (.mv (.t 17))⟩])))))))
  (.seq (.reg [⟨(some 18), none, .q (.mv (.t 3))⟩,
     ⟨(some 2), none, .q (.mv (.t 18))⟩])
  .ret))))⟩
theorem l_impl_allDigits : lowF PA f_impl_allDigits 1 [.k [1, 3, 7, 8]] = some c_impl_allDigits := by kernel_rfl
end Go.Proofs.Ytkhkcekfcjgjlaa.Va
