/- The code of the functions that FnExactFirstCover reaches, laid out for a walk: each is what the lowering makes of the program's own text. Condition: none. -/
import Derived.Test.YtaigdomjaglifaaVa2
import Derived.Test.YtaigdomjaglifaaProg
import Derived.KernelRfl
set_option linter.all false
set_option linter.unusedSimpArgs false
set_option linter.unusedVariables false
namespace Go.Proofs.Ytaigdomjaglifaa.Va
open Go
noncomputable abbrev PA : Program := Go.Proofs.Try.prog
abbrev f_laws_FnExactFirstCover : FuncId := 6
def c_laws_FnExactFirstCover : AF := ⟨2, 101, [.t 4],
  (.seq (.reg [⟨(some 2), none, .m (.box (.t 0))⟩,
     ⟨(some 4), none, .q (.mv (.c (.bool false)))⟩])
  (.seq (.reg [⟨(some 5), none, .q (.mv (.c (.int .i64 1048576)))⟩])
  (.seq (.reg [⟨(some 16), none, .q (.ld true 1 (.t 2))⟩,
     ⟨(some 17), none, .q (.mv (.t 5))⟩,
     ⟨(some 18), none, .c (.call 7 [(.t 16), (.t 17)])⟩,
     ⟨(some 5), none, .q (.mv (.t 18))⟩])
  (.seq (.seq (.reg [⟨(some 19), none, .q (.mv (.t 5))⟩,
      ⟨(some 20), none, .q (.bin .lss (.t 19) (.c (.int .i64 0)))⟩])
   (.cond (.t 20)
    (.seq (.reg [⟨(some 4), none, .q (.mv (.c (.bool true)))⟩])
    .ret)
    .skip))
  (.seq (.reg [⟨(some 22), none, .q (.ld true 1 (.t 2))⟩,
     ⟨(some 23), none, .c (.call 9 [(.t 22)])⟩,
     ⟨(some 24), none, .q (.mv (.t 1))⟩,
     ⟨(some 25), none, .c (.call 20 [(.t 23), (.t 24)])⟩,
     ⟨(some 21), none, .q (.mv (.t 25))⟩,
     ⟨(some 26), none, .q (.ext (.t 21) 0)⟩,
     ⟨(some 27), none, .q (.ext (.t 21) 1)⟩,
     ⟨(some 6), none, .q (.mv (.t 26))⟩,
     ⟨(some 7), none, .q (.mv (.t 27))⟩])
  (.seq (.reg [⟨(some 28), none, .q (.ld true 1 (.t 2))⟩,
     ⟨(some 29), none, .c (.call 9 [(.t 28)])⟩,
     ⟨(some 8), none, .m (.alloc [(.v (.slice none 0 0))])⟩,
     ⟨none, none, .m (.st true 1 (.t 8) (.t 29))⟩])
  (.seq (.reg [⟨(some 31), none, .q (.ld true 1 (.t 8))⟩,
     ⟨(some 32), none, .q (.mv (.t 1))⟩,
     ⟨(some 33), none, .c (.call 21 [(.t 31), (.t 32)])⟩,
     ⟨(some 30), none, .q (.mv (.t 33))⟩,
     ⟨(some 34), none, .q (.ext (.t 30) 0)⟩,
     ⟨(some 35), none, .q (.ext (.t 30) 1)⟩,
     ⟨(some 9), none, .q (.mv (.t 34))⟩,
     ⟨(some 10), none, .q (.mv (.t 35))⟩])
  (.seq (.seq (.reg [⟨(some 36), none, .q (.mv (.t 9))⟩,
      ⟨(some 37), none, .q (.mv (.t 6))⟩,
      ⟨(some 38), none, .c (.call 14 [(.t 36), (.t 37)])⟩,
      ⟨(some 39), none, .q (.un .not (.t 38))⟩,
      ⟨(some 40), none, .q (.mv (.t 39))⟩,
      ⟨(some 41), (some (40, false)), .q (.mv (.t 10))⟩,
      ⟨(some 42), (some (40, false)), .q (.mv (.t 7))⟩,
      ⟨(some 43), (some (40, false)), .q (.bin .neq (.t 41) (.t 42))⟩,
      ⟨(some 44), none, .q (.pick (.t 40) (.c (.bool true)) (.t 43))⟩])
   (.cond (.t 44)
    (.seq (.reg [⟨(some 4), none, .q (.mv (.c (.bool false)))⟩])
    .ret)
    .skip))
  (.seq (.seq (.sch (.take 0 ⟨(some 45), none, .q (.ld true 1 (.t 8))⟩ (.take 1 ⟨(some 46), none, .q (.ld true 1 (.t 2))⟩ (.one ⟨(some 47), none, .c (.call 9 [(.t 46)])⟩ [1] (.one ⟨(some 48), none, .c (.call 11 [(.t 45), (.t 47)])⟩ [0] (.take 4 ⟨(some 49), none, .q (.un .not (.t 48))⟩ .done))))))
   (.cond (.t 49)
    (.seq (.reg [⟨(some 4), none, .q (.mv (.c (.bool false)))⟩])
    .ret)
    .skip))
  (.seq (.reg [⟨(some 11), none, .q (.mv (.c (.int .i64 1)))⟩])
  (.seq (.reg [⟨(some 50), none, .q (.ld true 1 (.t 8))⟩,
     ⟨(some 51), none, .q (.mv (.t 11))⟩,
     ⟨(some 52), none, .c (.call 15 [(.t 50), (.t 51)])⟩,
     ⟨(some 11), none, .q (.mv (.t 52))⟩])
  (.seq (.seq (.reg [⟨(some 53), none, .q (.mv (.t 11))⟩,
      ⟨(some 54), none, .q (.bin .lss (.t 53) (.c (.int .i64 0)))⟩,
      ⟨(some 55), none, .q (.mv (.t 54))⟩,
      ⟨(some 56), (some (55, false)), .q (.mv (.t 9))⟩,
      ⟨(some 57), (some (55, false)), .q (.mv (.t 6))⟩,
      ⟨(some 58), (some (55, false)), .c (.call 14 [(.t 56), (.t 57)])⟩,
      ⟨(some 59), (some (55, false)), .q (.un .not (.t 58))⟩,
      ⟨(some 60), none, .q (.pick (.t 55) (.c (.bool true)) (.t 59))⟩,
      ⟨(some 61), none, .q (.mv (.t 60))⟩,
      ⟨(some 62), (some (61, false)), .q (.mv (.t 10))⟩,
      ⟨(some 63), (some (61, false)), .q (.mv (.t 7))⟩,
      ⟨(some 64), (some (61, false)), .q (.bin .neq (.t 62) (.t 63))⟩,
      ⟨(some 65), none, .q (.pick (.t 61) (.c (.bool true)) (.t 64))⟩])
   (.cond (.t 65)
    (.seq (.reg [⟨(some 4), none, .q (.mv (.c (.bool false)))⟩])
    .ret)
    .skip))
  (.seq (.reg [⟨(some 12), none, .q (.mv (.c (.int .i64 1)))⟩])
  (.seq (.reg [⟨(some 66), none, .q (.mv (.t 9))⟩,
     ⟨(some 67), none, .q (.mv (.t 12))⟩,
     ⟨(some 68), none, .c (.call 16 [(.t 66), (.t 67)])⟩,
     ⟨(some 12), none, .q (.mv (.t 68))⟩])
  (.seq (.reg [⟨(some 13), none, .q (.mv (.c (.int .i64 1)))⟩])
  (.seq (.reg [⟨(some 69), none, .q (.mv (.t 9))⟩,
     ⟨(some 70), none, .q (.mv (.t 13))⟩,
     ⟨(some 71), none, .c (.call 17 [(.t 69), (.t 70)])⟩,
     ⟨(some 13), none, .q (.mv (.t 71))⟩])
  (.seq (.seq (.reg [⟨(some 72), none, .q (.mv (.t 13))⟩,
      ⟨(some 73), none, .q (.bin .lss (.t 72) (.c (.int .i64 0)))⟩])
   (.cond (.t 73)
    (.seq (.reg [⟨(some 4), none, .q (.mv (.c (.bool false)))⟩])
    .ret)
    .skip))
  (.seq (.seq (.reg [⟨(some 74), none, .q (.mv (.t 13))⟩,
      ⟨(some 75), none, .q (.mv (.t 12))⟩,
      ⟨(some 76), none, .q (.bin .neq (.t 74) (.t 75))⟩])
   (.cond (.t 76)
    (.seq (.reg [⟨(some 4), none, .q (.mv (.c (.bool false)))⟩])
    .ret)
    .skip))
  (.seq (.reg [⟨(some 78), none, .q (.ld true 1 (.t 2))⟩,
     ⟨(some 79), none, .c (.call 9 [(.t 78)])⟩,
     ⟨(some 80), none, .q (.mv (.t 1))⟩,
     ⟨(some 81), none, .c (.call 21 [(.t 79), (.t 80)])⟩,
     ⟨(some 77), none, .q (.mv (.t 81))⟩,
     ⟨(some 82), none, .q (.ext (.t 77) 0)⟩,
     ⟨(some 83), none, .q (.ext (.t 77) 1)⟩,
     ⟨(some 14), none, .q (.mv (.t 82))⟩,
     ⟨(some 15), none, .q (.mv (.t 83))⟩])
  (.seq (.seq (.reg [⟨(some 84), none, .q (.mv (.t 14))⟩,
      ⟨(some 85), none, .q (.mv (.t 6))⟩,
      ⟨(some 86), none, .c (.call 14 [(.t 84), (.t 85)])⟩,
      ⟨(some 87), none, .q (.un .not (.t 86))⟩,
      ⟨(some 88), none, .q (.mv (.t 87))⟩,
      ⟨(some 89), (some (88, false)), .q (.mv (.t 15))⟩,
      ⟨(some 90), (some (88, false)), .q (.mv (.t 7))⟩,
      ⟨(some 91), (some (88, false)), .q (.bin .neq (.t 89) (.t 90))⟩,
      ⟨(some 92), none, .q (.pick (.t 88) (.c (.bool true)) (.t 91))⟩])
   (.cond (.t 92)
    (.seq (.reg [⟨(some 4), none, .q (.mv (.c (.bool false)))⟩])
    .ret)
    .skip))
  (.seq (.reg [⟨(some 13), none, .q (.mv (.c (.int .i64 1)))⟩])
  (.seq (.reg [⟨(some 93), none, .q (.mv (.t 9))⟩,
     ⟨(some 94), none, .q (.mv (.t 13))⟩,
     ⟨(some 95), none, .c (.call 17 [(.t 93), (.t 94)])⟩,
     ⟨(some 13), none, .q (.mv (.t 95))⟩])
  (.seq (.seq (.reg [⟨(some 96), none, .q (.mv (.t 13))⟩,
      ⟨(some 97), none, .q (.bin .lss (.t 96) (.c (.int .i64 0)))⟩])
   (.cond (.t 97)
    (.seq (.reg [⟨(some 4), none, .q (.mv (.c (.bool false)))⟩])
    .ret)
    .skip))
  (.seq (.seq (.reg [⟨(some 98), none, .q (.mv (.t 13))⟩,
      ⟨(some 99), none, .q (.mv (.t 12))⟩,
      ⟨(some 100), none, .q (.bin .neq (.t 98) (.t 99))⟩])
   (.cond (.t 100)
    (.seq (.reg [⟨(some 4), none, .q (.mv (.c (.bool false)))⟩])
    .ret)
    .skip))
  (.seq (.reg [⟨(some 4), none, .q (.mv (.c (.bool true)))⟩])
  .ret)))))))))))))))))))))))))⟩
theorem l_laws_FnExactFirstCover : lowF PA f_laws_FnExactFirstCover 2 [.s (.take 0 (.take 1 (.one 2 (.one 3 (.take 4 .done)))))] = some c_laws_FnExactFirstCover := by kernel_rfl
abbrev f_laws_szSpace : FuncId := 7
def c_laws_szSpace : AF := ⟨2, 12, [.t 4],
  (.seq (.reg [⟨(some 2), none, .m (.box (.t 0))⟩,
     ⟨(some 4), none, .q (.mv (.c (.int .i64 0)))⟩])
  (.seq (.reg [⟨(some 5), none, .q (.fad 0 (.t 2))⟩,
     ⟨(some 6), none, .q (.ld false 1 (.t 5))⟩,
     ⟨(some 7), none, .q (.mv (.t 1))⟩,
     ⟨(some 8), none, .c (.call 22 [(.t 6), (.t 7)])⟩,
     ⟨(some 1), none, .q (.mv (.t 8))⟩])
  (.seq (.seq (.reg [⟨(some 9), none, .q (.mv (.t 1))⟩,
      ⟨(some 10), none, .q (.bin .lss (.t 9) (.c (.int .i64 0)))⟩])
   (.cond (.t 10)
    (.seq (.reg [⟨(some 4), none, .q (.mv (.c (.int .i64 (-1))))⟩])
    .ret)
    .skip))
  (.seq (.reg [⟨(some 11), none, .q (.mv (.t 1))⟩,
     ⟨(some 4), none, .q (.mv (.t 11))⟩])
  .ret))))⟩
theorem l_laws_szSpace : lowF PA f_laws_szSpace 2 [] = some c_laws_szSpace := by kernel_rfl
abbrev f_laws_toSpace : FuncId := 9
def c_laws_toSpace : AF := ⟨1, 9, [.c 2 true 1],
  (.seq (.reg [⟨(some 1), none, .m (.box (.t 0))⟩,
     ⟨(some 2), none, .m (.alloc [(.v (.slice none 0 0))])⟩])
  (.seq (.reg [⟨(some 3), none, .m (.alloc [(.v (.slice none 0 0))])⟩])
  (.seq (.reg [⟨(some 4), none, .q (.fad 0 (.t 1))⟩,
     ⟨(some 5), none, .q (.ld false 1 (.t 4))⟩,
     ⟨(some 6), none, .c (.call 25 [(.t 5)])⟩,
     ⟨(some 7), none, .q (.fad 0 (.t 3))⟩,
     ⟨none, none, .m (.st false 1 (.t 7) (.t 6))⟩])
  (.seq (.reg [⟨(some 8), none, .q (.ld true 1 (.t 3))⟩,
     ⟨none, none, .m (.st true 1 (.t 2) (.t 8))⟩])
  .ret))))⟩
theorem l_laws_toSpace : lowF PA f_laws_toSpace 1 [] = some c_laws_toSpace := by kernel_rfl
abbrev f_laws_eqSpace : FuncId := 11
def c_laws_eqSpace : AF := ⟨2, 11, [.t 4],
  (.seq (.reg [⟨(some 2), none, .m (.box (.t 0))⟩,
     ⟨(some 3), none, .m (.box (.t 1))⟩,
     ⟨(some 4), none, .q (.mv (.c (.bool false)))⟩])
  (.seq (.seq (.reg [⟨(some 5), none, .q (.fad 0 (.t 2))⟩,
      ⟨(some 6), none, .q (.ld false 1 (.t 5))⟩,
      ⟨(some 7), none, .q (.fad 0 (.t 3))⟩,
      ⟨(some 8), none, .q (.ld false 1 (.t 7))⟩,
      ⟨(some 9), none, .c (.call 14 [(.t 6), (.t 8)])⟩,
      ⟨(some 10), none, .q (.un .not (.t 9))⟩])
   (.cond (.t 10)
    (.seq (.reg [⟨(some 4), none, .q (.mv (.c (.bool false)))⟩])
    .ret)
    .skip))
  (.seq (.reg [⟨(some 4), none, .q (.mv (.c (.bool true)))⟩])
  .ret)))⟩
theorem l_laws_eqSpace : lowF PA f_laws_eqSpace 2 [] = some c_laws_eqSpace := by kernel_rfl
abbrev f_laws_eqInt64S : FuncId := 14
def c_laws_eqInt64S : AF := ⟨2, 26, [.t 4],
  (.seq (.reg [⟨(some 4), none, .q (.mv (.c (.bool false)))⟩])
  (.seq (.seq (.reg [⟨(some 6), none, .q (.mv (.t 0))⟩,
      ⟨(some 7), none, .q (.len (.t 6))⟩,
      ⟨(some 8), none, .q (.mv (.t 1))⟩,
      ⟨(some 9), none, .q (.len (.t 8))⟩,
      ⟨(some 10), none, .q (.bin .neq (.t 7) (.t 9))⟩])
   (.cond (.t 10)
    (.seq (.reg [⟨(some 4), none, .q (.mv (.c (.bool false)))⟩])
    .ret)
    .skip))
  (.seq (.seq (.reg [⟨(some 5), none, .q (.mv (.c (.int .i64 0)))⟩])
   (.block 0 (.loop [0, 1, 5] (.seq (.seq (.reg [⟨(some 11), none, .q (.mv (.t 5))⟩,
         ⟨(some 12), none, .q (.mv (.t 0))⟩,
         ⟨(some 13), none, .q (.len (.t 12))⟩,
         ⟨(some 14), none, .q (.bin .lss (.t 11) (.t 13))⟩])
      (.cond (.t 14)
       .skip
       (.exit 0)))
     (.seq (.block 1 (.seq (.sch (.take 0 ⟨(some 17), none, .q (.mv (.t 0))⟩ (.take 1 ⟨(some 18), none, .q (.mv (.t 5))⟩ (.take 2 ⟨(some 19), none, .q (.ixs 1 (.t 17) (.t 18))⟩ (.take 3 ⟨(some 20), none, .q (.ld false 1 (.t 19))⟩ (.take 4 ⟨(some 21), none, .q (.mv (.t 1))⟩ (.take 5 ⟨(some 22), none, .q (.mv (.t 5))⟩ (.take 6 ⟨(some 23), none, .q (.ixs 1 (.t 21) (.t 22))⟩ (.take 7 ⟨(some 24), none, .q (.ld false 1 (.t 23))⟩ (.take 8 ⟨(some 25), none, .q (.bin .neq (.t 20) (.t 24))⟩ .done))))))))))
       (.cond (.t 25)
        (.seq (.reg [⟨(some 4), none, .q (.mv (.c (.bool false)))⟩])
        .ret)
        .skip)))
     (.reg [⟨(some 15), none, .q (.mv (.t 5))⟩,
       ⟨(some 16), none, .q (.bin .add (.t 15) (.c (.int .i64 1)))⟩,
       ⟨(some 5), none, .q (.mv (.t 16))⟩]))))))
  (.seq (.reg [⟨(some 4), none, .q (.mv (.c (.bool true)))⟩])
  .ret))))⟩
theorem l_laws_eqInt64S : lowF PA f_laws_eqInt64S 2 [.k [0, 1, 5], .s (.take 0 (.take 1 (.take 2 (.take 3 (.take 4 (.take 5 (.take 6 (.take 7 (.take 8 .done)))))))))] = some c_laws_eqInt64S := by kernel_rfl
abbrev f_laws_markSpace : FuncId := 15
def c_laws_markSpace : AF := ⟨2, 10, [.t 4],
  (.seq (.reg [⟨(some 2), none, .m (.box (.t 0))⟩,
     ⟨(some 4), none, .q (.mv (.c (.int .i64 0)))⟩])
  (.seq (.reg [⟨(some 5), none, .q (.fad 0 (.t 2))⟩,
     ⟨(some 6), none, .q (.ld false 1 (.t 5))⟩,
     ⟨(some 7), none, .q (.mv (.t 1))⟩,
     ⟨(some 8), none, .c (.call 16 [(.t 6), (.t 7)])⟩,
     ⟨(some 1), none, .q (.mv (.t 8))⟩])
  (.seq (.reg [⟨(some 9), none, .q (.mv (.t 1))⟩,
     ⟨(some 4), none, .q (.mv (.t 9))⟩])
  .ret)))⟩
theorem l_laws_markSpace : lowF PA f_laws_markSpace 2 [] = some c_laws_markSpace := by kernel_rfl
abbrev f_laws_markInt64S : FuncId := 16
def c_laws_markInt64S : AF := ⟨2, 19, [.t 4],
  (.seq (.reg [⟨(some 4), none, .q (.mv (.c (.int .i64 0)))⟩])
  (.seq (.seq (.reg [⟨(some 5), none, .q (.mv (.c (.int .i64 0)))⟩])
   (.block 0 (.loop [0, 1, 5, 19] (.seq (.seq (.reg [⟨(some 6), none, .q (.mv (.t 5))⟩,
         ⟨(some 7), none, .q (.mv (.t 0))⟩,
         ⟨(some 8), none, .q (.len (.t 7))⟩,
         ⟨(some 9), none, .q (.bin .lss (.t 6) (.t 8))⟩])
      (.cond (.t 9)
       .skip
       (.exit 0)))
     (.seq (.block 1 (.seq (.reg [⟨(some 12), none, .q (.mv (.t 0))⟩,
          ⟨(some 13), none, .q (.mv (.t 5))⟩,
          ⟨(some 14), none, .q (.mv (.t 1))⟩,
          ⟨(some 15), none, .q (.ixs 1 (.t 12) (.t 13))⟩,
          ⟨none, none, .m (.st false 1 (.t 15) (.t 14))⟩])
       (.reg [⟨(some 16), none, .q (.mv (.t 1))⟩,
         ⟨(some 17), none, .q (.bin .add (.t 16) (.c (.int .i64 1)))⟩,
         ⟨(some 1), none, .q (.mv (.t 17))⟩])))
     (.reg [⟨(some 10), none, .q (.mv (.t 5))⟩,
       ⟨(some 11), none, .q (.bin .add (.t 10) (.c (.int .i64 1)))⟩,
       ⟨(some 5), none, .q (.mv (.t 11))⟩]))))))
  (.seq (.reg [⟨(some 18), none, .q (.mv (.t 1))⟩,
     ⟨(some 4), none, .q (.mv (.t 18))⟩])
  .ret)))⟩
theorem l_laws_markInt64S : lowF PA f_laws_markInt64S 2 [.k [0, 1, 5, 19]] = some c_laws_markInt64S := by kernel_rfl
abbrev f_laws_heldInt64S : FuncId := 17
def c_laws_heldInt64S : AF := ⟨2, 21, [.t 4],
  (.seq (.reg [⟨(some 4), none, .q (.mv (.c (.int .i64 0)))⟩])
  (.seq (.seq (.reg [⟨(some 5), none, .q (.mv (.c (.int .i64 0)))⟩])
   (.block 0 (.loop [0, 1, 5] (.seq (.seq (.reg [⟨(some 6), none, .q (.mv (.t 5))⟩,
         ⟨(some 7), none, .q (.mv (.t 0))⟩,
         ⟨(some 8), none, .q (.len (.t 7))⟩,
         ⟨(some 9), none, .q (.bin .lss (.t 6) (.t 8))⟩])
      (.cond (.t 9)
       .skip
       (.exit 0)))
     (.seq (.block 1 (.seq (.seq (.reg [⟨(some 12), none, .q (.mv (.t 0))⟩,
           ⟨(some 13), none, .q (.mv (.t 5))⟩,
           ⟨(some 14), none, .q (.ixs 1 (.t 12) (.t 13))⟩,
           ⟨(some 15), none, .q (.ld false 1 (.t 14))⟩,
           ⟨(some 16), none, .q (.mv (.t 1))⟩,
           ⟨(some 17), none, .q (.bin .neq (.t 15) (.t 16))⟩])
        (.cond (.t 17)
         (.seq (.reg [⟨(some 4), none, .q (.mv (.c (.int .i64 (-1))))⟩])
         .ret)
         .skip))
       (.reg [⟨(some 18), none, .q (.mv (.t 1))⟩,
         ⟨(some 19), none, .q (.bin .add (.t 18) (.c (.int .i64 1)))⟩,
         ⟨(some 1), none, .q (.mv (.t 19))⟩])))
     (.reg [⟨(some 10), none, .q (.mv (.t 5))⟩,
       ⟨(some 11), none, .q (.bin .add (.t 10) (.c (.int .i64 1)))⟩,
       ⟨(some 5), none, .q (.mv (.t 11))⟩]))))))
  (.seq (.reg [⟨(some 20), none, .q (.mv (.t 1))⟩,
     ⟨(some 4), none, .q (.mv (.t 20))⟩])
  .ret)))⟩
theorem l_laws_heldInt64S : lowF PA f_laws_heldInt64S 2 [.k [0, 1, 5]] = some c_laws_heldInt64S := by kernel_rfl
abbrev f_spec_FirstCover : FuncId := 20
def c_spec_FirstCover : AF := ⟨2, 16, [.t 4, .t 5],
  (.seq (.reg [⟨(some 2), none, .m (.box (.t 0))⟩,
     ⟨(some 4), none, .q (.mv (.c (.slice none 0 0)))⟩,
     ⟨(some 5), none, .q (.mv (.c (.int .i64 0)))⟩])
  (.seq (.seq (.reg [⟨(some 7), none, .q (.ld true 1 (.t 2))⟩,
      ⟨(some 8), none, .q (.mv (.t 1))⟩,
      ⟨(some 9), none, .c (.call 31 [(.t 7), (.t 8), (.c (.int .i64 1)), (.c (.int .i64 8))])⟩,
      ⟨(some 6), none, .q (.mv (.t 9))⟩])
   (.seq (.reg [⟨(some 10), none, .q (.mv (.t 6))⟩,
      ⟨(some 11), none, .q (.bin .neq (.t 10) (.c (.int .i64 0)))⟩])
   (.cond (.t 11)
    (.seq (.reg [⟨(some 12), none, .q (.mv (.t 6))⟩,
       ⟨(some 4), none, .q (.mv (.c (.slice none 0 0)))⟩,
       ⟨(some 5), none, .q (.mv (.t 12))⟩])
    .ret)
    .skip)))
  (.seq (.reg [⟨(some 13), none, .q (.ld true 1 (.t 2))⟩,
     ⟨(some 14), none, .q (.mv (.t 1))⟩,
     ⟨(some 15), none, .c (.call 32 [(.t 13), (.t 14)])⟩,
     ⟨(some 4), none, .q (.mv (.t 15))⟩,
     ⟨(some 5), none, .q (.mv (.c (.int .i64 0)))⟩])
  .ret)))⟩
theorem l_spec_FirstCover : lowF PA f_spec_FirstCover 2 [] = some c_spec_FirstCover := by kernel_rfl
abbrev f_impl_FirstCover : FuncId := 21
def c_impl_FirstCover : AF := ⟨2, 16, [.t 4, .t 5],
  (.seq (.reg [⟨(some 2), none, .m (.box (.t 0))⟩,
     ⟨(some 4), none, .q (.mv (.c (.slice none 0 0)))⟩,
     ⟨(some 5), none, .q (.mv (.c (.int .i64 0)))⟩])
  (.seq (.seq (.reg [⟨(some 7), none, .q (.ld true 1 (.t 2))⟩,
      ⟨(some 8), none, .q (.mv (.t 1))⟩,
      ⟨(some 9), none, .c (.call 33 [(.t 7), (.t 8), (.c (.int .i64 1)), (.c (.int .i64 8))])⟩,
      ⟨(some 6), none, .q (.mv (.t 9))⟩])
   (.seq (.reg [⟨(some 10), none, .q (.mv (.t 6))⟩,
      ⟨(some 11), none, .q (.bin .neq (.t 10) (.c (.int .i64 0)))⟩])
   (.cond (.t 11)
    (.seq (.reg [⟨(some 12), none, .q (.mv (.t 6))⟩,
       ⟨(some 4), none, .q (.mv (.c (.slice none 0 0)))⟩,
       ⟨(some 5), none, .q (.mv (.t 12))⟩])
    .ret)
    .skip)))
  (.seq (.reg [⟨(some 13), none, .q (.ld true 1 (.t 2))⟩,
     ⟨(some 14), none, .q (.mv (.t 1))⟩,
     ⟨(some 15), none, .c (.call 34 [(.t 13), (.t 14)])⟩,
     ⟨(some 4), none, .q (.mv (.t 15))⟩,
     ⟨(some 5), none, .q (.mv (.c (.int .i64 0)))⟩])
  .ret)))⟩
theorem l_impl_FirstCover : lowF PA f_impl_FirstCover 2 [] = some c_impl_FirstCover := by kernel_rfl
abbrev f_laws_szInt64S : FuncId := 22
def c_laws_szInt64S : AF := ⟨2, 12, [.t 4],
  (.seq (.reg [⟨(some 4), none, .q (.mv (.c (.int .i64 0)))⟩])
  (.seq (.reg [⟨(some 5), none, .q (.mv (.t 1))⟩,
     ⟨(some 6), none, .q (.mv (.t 0))⟩,
     ⟨(some 7), none, .q (.len (.t 6))⟩,
     ⟨(some 8), none, .q (.bin .sub (.t 5) (.t 7))⟩,
     ⟨(some 1), none, .q (.mv (.t 8))⟩])
  (.seq (.seq (.reg [⟨(some 9), none, .q (.mv (.t 1))⟩,
      ⟨(some 10), none, .q (.bin .lss (.t 9) (.c (.int .i64 0)))⟩])
   (.cond (.t 10)
    (.seq (.reg [⟨(some 4), none, .q (.mv (.c (.int .i64 (-1))))⟩])
    .ret)
    .skip))
  (.seq (.reg [⟨(some 11), none, .q (.mv (.t 1))⟩,
     ⟨(some 4), none, .q (.mv (.t 11))⟩])
  .ret))))⟩
theorem l_laws_szInt64S : lowF PA f_laws_szInt64S 2 [] = some c_laws_szInt64S := by kernel_rfl
abbrev f_laws_toInt64S : FuncId := 25
def c_laws_toInt64S : AF := ⟨1, 22, [.t 2],
  (.seq (.reg [⟨(some 2), none, .q (.mv (.c (.slice none 0 0)))⟩])
  (.seq (.reg [⟨(some 5), none, .q (.mv (.t 0))⟩,
     ⟨(some 6), none, .q (.len (.t 5))⟩,
     ⟨(some 7), none, .m (.mks 1 (.v (.int .i64 0)) 8 (.t 6) (.t 6))⟩,
     ⟨(some 3), none, .q (.mv (.t 7))⟩])
  (.seq (.seq (.reg [⟨(some 4), none, .q (.mv (.c (.int .i64 0)))⟩])
   (.block 0 (.loop [0, 3, 4] (.seq (.seq (.reg [⟨(some 8), none, .q (.mv (.t 4))⟩,
         ⟨(some 9), none, .q (.mv (.t 0))⟩,
         ⟨(some 10), none, .q (.len (.t 9))⟩,
         ⟨(some 11), none, .q (.bin .lss (.t 8) (.t 10))⟩])
      (.cond (.t 11)
       .skip
       (.exit 0)))
     (.seq (.block 1 (.reg [⟨(some 14), none, .q (.mv (.t 3))⟩,
         ⟨(some 15), none, .q (.mv (.t 4))⟩,
         ⟨(some 16), none, .q (.mv (.t 0))⟩,
         ⟨(some 17), none, .q (.mv (.t 4))⟩,
         ⟨(some 18), none, .q (.ixs 1 (.t 16) (.t 17))⟩,
         ⟨(some 19), none, .q (.ld false 1 (.t 18))⟩,
         ⟨(some 20), none, .q (.ixs 1 (.t 14) (.t 15))⟩,
         ⟨none, none, .m (.st false 1 (.t 20) (.t 19))⟩]))
     (.reg [⟨(some 12), none, .q (.mv (.t 4))⟩,
       ⟨(some 13), none, .q (.bin .add (.t 12) (.c (.int .i64 1)))⟩,
       ⟨(some 4), none, .q (.mv (.t 13))⟩]))))))
  (.seq (.reg [⟨(some 21), none, .q (.mv (.t 3))⟩,
     ⟨(some 2), none, .q (.mv (.t 21))⟩])
  .ret))))⟩
theorem l_laws_toInt64S : lowF PA f_laws_toInt64S 1 [.k [0, 3, 4]] = some c_laws_toInt64S := by kernel_rfl
abbrev f_spec_l04Sought : FuncId := 31
def c_spec_l04Sought : AF := ⟨4, 23, [.t 8],
  (.seq (.reg [⟨(some 4), none, .m (.box (.t 0))⟩,
     ⟨(some 8), none, .q (.mv (.c (.int .i64 0)))⟩])
  (.seq (.reg [⟨(some 10), none, .q (.ld true 1 (.t 4))⟩,
     ⟨(some 11), none, .q (.mv (.t 1))⟩,
     ⟨(some 12), none, .q (.mv (.t 2))⟩,
     ⟨(some 13), none, .q (.mv (.t 3))⟩,
     ⟨(some 14), none, .c (.call 35 [(.t 10), (.t 11), (.t 12), (.t 13)])⟩,
     ⟨(some 9), none, .q (.mv (.t 14))⟩])
  (.seq (.seq (.reg [⟨(some 15), none, .q (.mv (.t 9))⟩,
      ⟨(some 16), none, .q (.bin .eql (.t 15) (.c (.int .i64 0)))⟩,
      ⟨(some 17), none, .q (.mv (.t 16))⟩,
      ⟨(some 18), (some (17, true)), .q (.ld true 1 (.t 4))⟩,
      ⟨(some 19), (some (17, true)), .c (.call 36 [(.t 18)])⟩,
      ⟨(some 20), (some (17, true)), .q (.bin .gtr (.t 19) (.c (.int .i64 27)))⟩,
      ⟨(some 21), none, .q (.pick (.t 17) (.t 20) (.c (.bool false)))⟩])
   (.cond (.t 21)
    (.reg [⟨(some 9), none, .q (.mv (.c (.int .i64 3)))⟩])
    .skip))
  (.seq (.reg [⟨(some 22), none, .q (.mv (.t 9))⟩,
     ⟨(some 8), none, .q (.mv (.t 22))⟩])
  .ret))))⟩
theorem l_spec_l04Sought : lowF PA f_spec_l04Sought 4 [] = some c_spec_l04Sought := by kernel_rfl
abbrev f_spec_l04First : FuncId := 32
def c_spec_l04First : AF := ⟨2, 23, [.t 4],
  (.seq (.reg [⟨(some 2), none, .m (.box (.t 0))⟩,
     ⟨(some 4), none, .q (.mv (.c (.slice none 0 0)))⟩])
  (.seq (.reg [⟨(some 5), none, .q (.mv (.c (.int .i64 1)))⟩])
  (.block 0 (.loop [1, 2, 5] (.seq (.block 1 (.seq (.sch (.take 0 ⟨(some 11), none, .q (.ld true 1 (.t 2))⟩ (.take 2 ⟨(some 13), none, .q (.ld true 1 (.t 2))⟩ (.take 5 ⟨(some 16), none, .q (.mv (.t 1))⟩ (.take 6 ⟨(some 17), none, .q (.mv (.t 5))⟩ (.two ⟨(some 12), none, .m (.bsl 1 [])⟩ [] (.one ⟨(some 14), none, .c (.call 36 [(.t 13)])⟩ [2] (.one ⟨(some 15), none, .m (.mks 1 (.v (.int .i64 0)) 8 (.t 14) (.t 14))⟩ [] (.one ⟨(some 18), none, .c (.call 50 [(.t 11), (.t 12), (.t 15), (.t 16), (.t 17)])⟩ [0] (.take 8 ⟨(some 10), none, .q (.mv (.t 18))⟩ (.take 9 ⟨(some 19), none, .q (.ext (.t 10) 0)⟩ (.take 10 ⟨(some 20), none, .q (.ext (.t 10) 1)⟩ (.take 11 ⟨(some 6), none, .q (.mv (.t 19))⟩ (.take 12 ⟨(some 7), none, .q (.mv (.t 20))⟩ .done)))))))) ⟨(some 14), none, .c (.call 36 [(.t 13)])⟩ [2] (.two ⟨(some 12), none, .m (.bsl 1 [])⟩ [] (.one ⟨(some 15), none, .m (.mks 1 (.v (.int .i64 0)) 8 (.t 14) (.t 14))⟩ [] (.one ⟨(some 18), none, .c (.call 50 [(.t 11), (.t 12), (.t 15), (.t 16), (.t 17)])⟩ [0] (.take 8 ⟨(some 10), none, .q (.mv (.t 18))⟩ (.take 9 ⟨(some 19), none, .q (.ext (.t 10) 0)⟩ (.take 10 ⟨(some 20), none, .q (.ext (.t 10) 1)⟩ (.take 11 ⟨(some 6), none, .q (.mv (.t 19))⟩ (.take 12 ⟨(some 7), none, .q (.mv (.t 20))⟩ .done))))))) ⟨(some 15), none, .m (.mks 1 (.v (.int .i64 0)) 8 (.t 14) (.t 14))⟩ [] (.one ⟨(some 12), none, .m (.bsl 1 [])⟩ [] (.one ⟨(some 18), none, .c (.call 50 [(.t 11), (.t 12), (.t 15), (.t 16), (.t 17)])⟩ [0] (.take 8 ⟨(some 10), none, .q (.mv (.t 18))⟩ (.take 9 ⟨(some 19), none, .q (.ext (.t 10) 0)⟩ (.take 10 ⟨(some 20), none, .q (.ext (.t 10) 1)⟩ (.take 11 ⟨(some 6), none, .q (.mv (.t 19))⟩ (.take 12 ⟨(some 7), none, .q (.mv (.t 20))⟩ .done))))))))))))))
      (.seq (.reg [⟨(some 21), none, .q (.mv (.t 7))⟩])
      (.cond (.t 21)
       (.seq (.reg [⟨(some 22), none, .q (.mv (.t 6))⟩,
          ⟨(some 4), none, .q (.mv (.t 22))⟩])
       .ret)
       .skip))))
    (.reg [⟨(some 8), none, .q (.mv (.t 5))⟩,
      ⟨(some 9), none, .q (.bin .add (.t 8) (.c (.int .i64 1)))⟩,
      ⟨(some 5), none, .q (.mv (.t 9))⟩]))))))⟩
theorem l_spec_l04First : lowF PA f_spec_l04First 2 [.k [1, 2, 5], .s (.take 0 (.take 2 (.take 5 (.take 6 (.two 1 (.one 3 (.one 4 (.one 7 (.take 8 (.take 9 (.take 10 (.take 11 (.take 12 .done)))))))) 3 (.two 1 (.one 4 (.one 7 (.take 8 (.take 9 (.take 10 (.take 11 (.take 12 .done))))))) 4 (.one 1 (.one 7 (.take 8 (.take 9 (.take 10 (.take 11 (.take 12 .done)))))))))))))] = some c_spec_l04First := by kernel_rfl
abbrev f_impl_soughtCode : FuncId := 33
def c_impl_soughtCode : AF := ⟨4, 26, [.t 8],
  (.seq (.reg [⟨(some 4), none, .m (.box (.t 0))⟩,
     ⟨(some 8), none, .q (.mv (.c (.int .i64 0)))⟩])
  (.seq (.block 0 (.seq (.reg [⟨(some 10), none, .q (.ld true 1 (.t 4))⟩,
       ⟨(some 11), none, .c (.call 40 [(.t 10)])⟩,
       ⟨(some 12), none, .q (.un .not (.t 11))⟩,
       ⟨(some 9), none, .q (.mv (.t 12))⟩])
    (.cond (.t 9)
     (.seq (.reg [⟨(some 8), none, .q (.mv (.c (.int .i64 1)))⟩])
     .ret)
     (.seq (.reg [⟨(some 14), none, .q (.mv (.t 1))⟩,
        ⟨(some 15), none, .q (.mv (.t 2))⟩,
        ⟨(some 16), none, .q (.bin .lss (.t 14) (.t 15))⟩,
        ⟨(some 17), none, .q (.mv (.t 16))⟩,
        ⟨(some 18), (some (17, false)), .q (.mv (.t 1))⟩,
        ⟨(some 19), (some (17, false)), .q (.mv (.t 3))⟩,
        ⟨(some 20), (some (17, false)), .q (.bin .gtr (.t 18) (.t 19))⟩,
        ⟨(some 21), none, .q (.pick (.t 17) (.c (.bool true)) (.t 20))⟩,
        ⟨(some 13), none, .q (.mv (.t 21))⟩])
     (.cond (.t 13)
      (.seq (.reg [⟨(some 8), none, .q (.mv (.c (.int .i64 2)))⟩])
      .ret)
      (.seq (.reg [⟨(some 23), none, .q (.ld true 1 (.t 4))⟩,
         ⟨(some 24), none, .c (.call 41 [(.t 23)])⟩,
         ⟨(some 25), none, .q (.bin .gtr (.t 24) (.c (.int .i64 27)))⟩,
         ⟨(some 22), none, .q (.mv (.t 25))⟩])
      (.cond (.t 22)
       (.seq (.reg [⟨(some 8), none, .q (.mv (.c (.int .i64 3)))⟩])
       .ret)
       .skip)))))))
  (.seq (.reg [⟨(some 8), none, .q (.mv (.c (.int .i64 0)))⟩])
  .ret)))⟩
theorem l_impl_soughtCode : lowF PA f_impl_soughtCode 4 [] = some c_impl_soughtCode := by kernel_rfl
abbrev f_impl_firstCover : FuncId := 34
def c_impl_firstCover : AF := ⟨2, 30, [.t 4],
  (.seq (.reg [⟨(some 2), none, .m (.box (.t 0))⟩,
     ⟨(some 4), none, .q (.mv (.c (.slice none 0 0)))⟩])
  (.seq (.reg [⟨(some 11), none, .q (.ld true 1 (.t 2))⟩,
     ⟨(some 12), none, .q (.mv (.t 1))⟩,
     ⟨(some 13), none, .c (.call 51 [(.t 11), (.t 12)])⟩,
     ⟨(some 5), none, .m (.alloc [(.v (.slice none 0 0))])⟩,
     ⟨none, none, .m (.st false 1 (.t 5) (.t 13))⟩])
  (.seq (.sch (.take 0 ⟨(some 14), none, .q (.ld false 1 (.t 5))⟩ (.take 1 ⟨(some 15), none, .q (.len (.t 14))⟩ (.take 2 ⟨(some 16), none, .q (.bin .shl (.c (.int .u64 1)) (.t 15))⟩ (.take 3 ⟨(some 17), none, .q (.bin .sub (.t 16) (.c (.int .u64 1)))⟩ (.take 4 ⟨(some 18), none, .q (.ld false 1 (.t 5))⟩ (.take 5 ⟨(some 19), none, .q (.ixs 1 (.t 18) (.c (.int .i64 0)))⟩ (.take 6 ⟨(some 20), none, .q (.ld false 1 (.t 19))⟩ (.three ⟨(some 21), none, .c (.call 52 [(.t 20)])⟩ [6] (.two ⟨(some 6), none, .m (.alloc [(.v (.int .u64 0))])⟩ [] (.one ⟨(some 7), none, .m (.alloc [(.v (.int .i64 0))])⟩ [] (.one ⟨none, none, .m (.st false 1 (.t 6) (.t 17))⟩ [0] (.one ⟨none, none, .m (.st false 1 (.t 7) (.t 21))⟩ [6, 4, 0] .done))) ⟨(some 7), none, .m (.alloc [(.v (.int .i64 0))])⟩ [] (.one ⟨(some 6), none, .m (.alloc [(.v (.int .u64 0))])⟩ [] (.one ⟨none, none, .m (.st false 1 (.t 6) (.t 17))⟩ [0] (.one ⟨none, none, .m (.st false 1 (.t 7) (.t 21))⟩ [6, 4, 0] .done)))) ⟨(some 6), none, .m (.alloc [(.v (.int .u64 0))])⟩ [] (.two ⟨(some 21), none, .c (.call 52 [(.t 20)])⟩ [6] (.one ⟨(some 7), none, .m (.alloc [(.v (.int .i64 0))])⟩ [] (.one ⟨none, none, .m (.st false 1 (.t 6) (.t 17))⟩ [0] (.one ⟨none, none, .m (.st false 1 (.t 7) (.t 21))⟩ [6, 4, 0] .done))) ⟨(some 7), none, .m (.alloc [(.v (.int .i64 0))])⟩ [] (.one ⟨(some 21), none, .c (.call 52 [(.t 20)])⟩ [6] (.one ⟨none, none, .m (.st false 1 (.t 6) (.t 17))⟩ [0] (.one ⟨none, none, .m (.st false 1 (.t 7) (.t 21))⟩ [6, 4, 0] .done)))) ⟨(some 7), none, .m (.alloc [(.v (.int .i64 0))])⟩ [] (.two ⟨(some 21), none, .c (.call 52 [(.t 20)])⟩ [6] (.one ⟨(some 6), none, .m (.alloc [(.v (.int .u64 0))])⟩ [] (.one ⟨none, none, .m (.st false 1 (.t 6) (.t 17))⟩ [0] (.one ⟨none, none, .m (.st false 1 (.t 7) (.t 21))⟩ [6, 4, 0] .done))) ⟨(some 6), none, .m (.alloc [(.v (.int .u64 0))])⟩ [] (.one ⟨(some 21), none, .c (.call 52 [(.t 20)])⟩ [6] (.one ⟨none, none, .m (.st false 1 (.t 6) (.t 17))⟩ [0] (.one ⟨none, none, .m (.st false 1 (.t 7) (.t 21))⟩ [6, 4, 0] .done)))))))))))))
  (.seq (.reg [⟨(some 8), none, .m (.alloc [(.v (.int .i64 0))])⟩,
     ⟨none, none, .m (.st false 1 (.t 8) (.c (.int .i64 1)))⟩])
  (.block 0 (.loop [5, 6, 7, 8] (.seq (.block 1 (.seq (.reg [⟨(some 24), none, .m (.bsl 1 [])⟩,
         ⟨(some 9), none, .m (.alloc [(.v (.slice none 0 0))])⟩,
         ⟨none, none, .m (.st false 1 (.t 9) (.t 24))⟩])
      (.seq (.reg [⟨(some 10), none, .m (.alloc [(.v .nilFunc)])⟩])
      (.seq (.reg [⟨(some 25), none, .q (.mkf 53 [(.t 8), (.t 9), (.t 6), (.t 7), (.t 5), (.t 10)])⟩,
         ⟨none, none, .m (.st false 1 (.t 10) (.t 25))⟩])
      (.seq (.reg [⟨(some 26), none, .q (.ld false 1 (.t 10))⟩,
         ⟨(some 27), none, .c (.cav (.t 26) [(.c (.int .i64 0)), (.c (.int .u64 0))])⟩])
      (.cond (.t 27)
       (.seq (.reg [⟨(some 28), none, .q (.ld false 1 (.t 9))⟩,
          ⟨(some 4), none, .q (.mv (.t 28))⟩])
       .ret)
       .skip))))))
    (.seq (.seq (.reg [⟨(some 29), none, .q (.ld false 1 (.t 8))⟩])
     (.reg [⟨(some 8), none, .m (.alloc [(.v (.int .i64 0))])⟩,
       ⟨none, none, .m (.st false 1 (.t 8) (.t 29))⟩]))
    (.reg [⟨(some 22), none, .q (.ld false 1 (.t 8))⟩,
      ⟨(some 23), none, .q (.bin .add (.t 22) (.c (.int .i64 1)))⟩,
      ⟨none, none, .m (.st false 1 (.t 8) (.t 23))⟩])))))))))⟩
theorem l_impl_firstCover : lowF PA f_impl_firstCover 2 [.s (.take 0 (.take 1 (.take 2 (.take 3 (.take 4 (.take 5 (.take 6 (.three 7 (.two 8 (.one 9 (.one 10 (.one 11 .done))) 9 (.one 8 (.one 10 (.one 11 .done)))) 8 (.two 7 (.one 9 (.one 10 (.one 11 .done))) 9 (.one 7 (.one 10 (.one 11 .done)))) 9 (.two 7 (.one 8 (.one 10 (.one 11 .done))) 8 (.one 7 (.one 10 (.one 11 .done)))))))))))), .k [5, 6, 7, 8]] = some c_impl_firstCover := by kernel_rfl
abbrev f_spec_l04Code : FuncId := 35
def c_spec_l04Code : AF := ⟨4, 19, [.t 8],
  (.seq (.reg [⟨(some 4), none, .m (.box (.t 0))⟩,
     ⟨(some 8), none, .q (.mv (.c (.int .i64 0)))⟩])
  (.seq (.block 0 (.seq (.reg [⟨(some 10), none, .q (.ld true 1 (.t 4))⟩,
       ⟨(some 11), none, .c (.call 54 [(.t 10)])⟩,
       ⟨(some 12), none, .q (.un .not (.t 11))⟩,
       ⟨(some 9), none, .q (.mv (.t 12))⟩])
    (.cond (.t 9)
     (.seq (.reg [⟨(some 8), none, .q (.mv (.c (.int .i64 1)))⟩])
     .ret)
     (.seq (.reg [⟨(some 14), none, .q (.mv (.t 1))⟩,
        ⟨(some 15), none, .q (.mv (.t 2))⟩,
        ⟨(some 16), none, .q (.mv (.t 3))⟩,
        ⟨(some 17), none, .c (.call 55 [(.t 14), (.t 15), (.t 16)])⟩,
        ⟨(some 18), none, .q (.un .not (.t 17))⟩,
        ⟨(some 13), none, .q (.mv (.t 18))⟩])
     (.cond (.t 13)
      (.seq (.reg [⟨(some 8), none, .q (.mv (.c (.int .i64 2)))⟩])
      .ret)
      .skip)))))
  (.seq (.reg [⟨(some 8), none, .q (.mv (.c (.int .i64 0)))⟩])
  .ret)))⟩
theorem l_spec_l04Code : lowF PA f_spec_l04Code 4 [] = some c_spec_l04Code := by kernel_rfl
abbrev f_spec_l01N : FuncId := 36
def c_spec_l01N : AF := ⟨1, 20, [.t 2],
  (.seq (.reg [⟨(some 1), none, .m (.box (.t 0))⟩,
     ⟨(some 2), none, .q (.mv (.c (.int .i64 0)))⟩])
  (.seq (.reg [⟨(some 3), none, .q (.mv (.c (.int .i64 1)))⟩])
  (.seq (.seq (.reg [⟨(some 4), none, .q (.mv (.c (.int .i64 0)))⟩])
   (.block 0 (.loop [1, 3, 4] (.seq (.seq (.reg [⟨(some 5), none, .q (.mv (.t 4))⟩,
         ⟨(some 6), none, .q (.fad 0 (.t 1))⟩,
         ⟨(some 7), none, .q (.ld false 1 (.t 6))⟩,
         ⟨(some 8), none, .q (.len (.t 7))⟩,
         ⟨(some 9), none, .q (.bin .lss (.t 5) (.t 8))⟩])
      (.cond (.t 9)
       .skip
       (.exit 0)))
     (.seq (.block 1 (.reg [⟨(some 12), none, .q (.mv (.t 3))⟩,
         ⟨(some 13), none, .q (.fad 0 (.t 1))⟩,
         ⟨(some 14), none, .q (.ld false 1 (.t 13))⟩,
         ⟨(some 15), none, .q (.mv (.t 4))⟩,
         ⟨(some 16), none, .q (.ixs 1 (.t 14) (.t 15))⟩,
         ⟨(some 17), none, .q (.ld false 1 (.t 16))⟩,
         ⟨(some 18), none, .q (.bin .mul (.t 12) (.t 17))⟩,
         ⟨(some 3), none, .q (.mv (.t 18))⟩]))
     (.reg [⟨(some 10), none, .q (.mv (.t 4))⟩,
       ⟨(some 11), none, .q (.bin .add (.t 10) (.c (.int .i64 1)))⟩,
       ⟨(some 4), none, .q (.mv (.t 11))⟩]))))))
  (.seq (.reg [⟨(some 19), none, .q (.mv (.t 3))⟩,
     ⟨(some 2), none, .q (.mv (.t 19))⟩])
  .ret))))⟩
theorem l_spec_l01N : lowF PA f_spec_l01N 1 [.k [1, 3, 4]] = some c_spec_l01N := by kernel_rfl
abbrev f_spec_l01Size : FuncId := 37
def c_spec_l01Size : AF := ⟨2, 68, [.t 4],
  (.seq (.reg [⟨(some 2), none, .m (.box (.t 0))⟩,
     ⟨(some 4), none, .q (.mv (.c (.int .i64 0)))⟩])
  (.seq (.reg [⟨(some 10), none, .q (.fad 0 (.t 2))⟩,
     ⟨(some 11), none, .q (.ld false 1 (.t 10))⟩,
     ⟨(some 12), none, .q (.len (.t 11))⟩,
     ⟨(some 13), none, .q (.bin .add (.t 12) (.c (.int .i64 1)))⟩,
     ⟨(some 14), none, .m (.mks 1 (.v (.int .i64 0)) 8 (.t 13) (.t 13))⟩,
     ⟨(some 5), none, .q (.mv (.t 14))⟩])
  (.seq (.reg [⟨(some 15), none, .q (.mv (.t 5))⟩,
     ⟨(some 16), none, .q (.ixs 1 (.t 15) (.c (.int .i64 0)))⟩,
     ⟨none, none, .m (.st false 1 (.t 16) (.c (.int .i64 1)))⟩])
  (.seq (.seq (.reg [⟨(some 6), none, .q (.mv (.c (.int .i64 0)))⟩])
   (.block 0 (.loop [1, 2, 5, 6] (.seq (.seq (.reg [⟨(some 17), none, .q (.mv (.t 6))⟩,
         ⟨(some 18), none, .q (.fad 0 (.t 2))⟩,
         ⟨(some 19), none, .q (.ld false 1 (.t 18))⟩,
         ⟨(some 20), none, .q (.len (.t 19))⟩,
         ⟨(some 21), none, .q (.bin .lss (.t 17) (.t 20))⟩])
      (.cond (.t 21)
       .skip
       (.exit 0)))
     (.seq (.block 1 (.seq (.reg [⟨(some 24), none, .q (.mv (.t 6))⟩,
          ⟨(some 25), none, .q (.bin .add (.t 24) (.c (.int .i64 1)))⟩,
          ⟨(some 7), none, .q (.mv (.t 25))⟩])
       (.block 2 (.loop [1, 2, 5, 6, 7] (.seq (.seq (.reg [⟨(some 26), none, .q (.mv (.t 7))⟩,
             ⟨(some 27), none, .q (.bin .gtr (.t 26) (.c (.int .i64 0)))⟩])
          (.cond (.t 27)
           .skip
           (.exit 2)))
         (.seq (.block 3 (.sch (.take 0 ⟨(some 30), none, .q (.mv (.t 5))⟩ (.take 1 ⟨(some 31), none, .q (.mv (.t 7))⟩ (.take 2 ⟨(some 32), none, .q (.mv (.t 5))⟩ (.take 3 ⟨(some 33), none, .q (.mv (.t 7))⟩ (.take 4 ⟨(some 34), none, .q (.ixs 1 (.t 32) (.t 33))⟩ (.take 5 ⟨(some 35), none, .q (.ld false 1 (.t 34))⟩ (.take 6 ⟨(some 36), none, .q (.mv (.t 5))⟩ (.take 7 ⟨(some 37), none, .q (.mv (.t 7))⟩ (.take 8 ⟨(some 38), none, .q (.bin .sub (.t 37) (.c (.int .i64 1)))⟩ (.take 9 ⟨(some 39), none, .q (.ixs 1 (.t 36) (.t 38))⟩ (.take 10 ⟨(some 40), none, .q (.ld false 1 (.t 39))⟩ (.take 11 ⟨(some 41), none, .q (.fad 0 (.t 2))⟩ (.take 12 ⟨(some 42), none, .q (.ld false 1 (.t 41))⟩ (.take 13 ⟨(some 43), none, .q (.mv (.t 6))⟩ (.take 14 ⟨(some 44), none, .q (.ixs 1 (.t 42) (.t 43))⟩ (.take 15 ⟨(some 45), none, .q (.ld false 1 (.t 44))⟩ (.take 16 ⟨(some 46), none, .q (.bin .sub (.t 45) (.c (.int .i64 1)))⟩ (.take 17 ⟨(some 47), none, .q (.bin .mul (.t 40) (.t 46))⟩ (.take 18 ⟨(some 48), none, .q (.bin .add (.t 35) (.t 47))⟩ (.take 19 ⟨(some 49), none, .q (.ixs 1 (.t 30) (.t 31))⟩ (.one ⟨none, none, .m (.st false 1 (.t 49) (.t 48))⟩ [15, 12, 10, 5] .done)))))))))))))))))))))))
         (.reg [⟨(some 28), none, .q (.mv (.t 7))⟩,
           ⟨(some 29), none, .q (.bin .sub (.t 28) (.c (.int .i64 1)))⟩,
           ⟨(some 7), none, .q (.mv (.t 29))⟩])))))))
     (.reg [⟨(some 22), none, .q (.mv (.t 6))⟩,
       ⟨(some 23), none, .q (.bin .add (.t 22) (.c (.int .i64 1)))⟩,
       ⟨(some 6), none, .q (.mv (.t 23))⟩]))))))
  (.seq (.reg [⟨(some 8), none, .q (.mv (.c (.int .i64 0)))⟩])
  (.seq (.seq (.reg [⟨(some 9), none, .q (.mv (.c (.int .i64 0)))⟩])
   (.block 4 (.loop [1, 5, 8, 9] (.seq (.seq (.reg [⟨(some 50), none, .q (.mv (.t 9))⟩,
         ⟨(some 51), none, .q (.mv (.t 5))⟩,
         ⟨(some 52), none, .q (.len (.t 51))⟩,
         ⟨(some 53), none, .q (.bin .lss (.t 50) (.t 52))⟩,
         ⟨(some 54), none, .q (.mv (.t 53))⟩,
         ⟨(some 55), (some (54, true)), .q (.mv (.t 9))⟩,
         ⟨(some 56), (some (54, true)), .q (.mv (.t 1))⟩,
         ⟨(some 57), (some (54, true)), .q (.bin .leq (.t 55) (.t 56))⟩,
         ⟨(some 58), none, .q (.pick (.t 54) (.t 57) (.c (.bool false)))⟩])
      (.cond (.t 58)
       .skip
       (.exit 4)))
     (.seq (.block 5 (.reg [⟨(some 61), none, .q (.mv (.t 8))⟩,
         ⟨(some 62), none, .q (.mv (.t 5))⟩,
         ⟨(some 63), none, .q (.mv (.t 9))⟩,
         ⟨(some 64), none, .q (.ixs 1 (.t 62) (.t 63))⟩,
         ⟨(some 65), none, .q (.ld false 1 (.t 64))⟩,
         ⟨(some 66), none, .q (.bin .add (.t 61) (.t 65))⟩,
         ⟨(some 8), none, .q (.mv (.t 66))⟩]))
     (.reg [⟨(some 59), none, .q (.mv (.t 9))⟩,
       ⟨(some 60), none, .q (.bin .add (.t 59) (.c (.int .i64 1)))⟩,
       ⟨(some 9), none, .q (.mv (.t 60))⟩]))))))
  (.seq (.reg [⟨(some 67), none, .q (.mv (.t 8))⟩,
     ⟨(some 4), none, .q (.mv (.t 67))⟩])
  .ret)))))))⟩
theorem l_spec_l01Size : lowF PA f_spec_l01Size 2 [.k [1, 2, 5, 6], .k [1, 2, 5, 6, 7], .s (.take 0 (.take 1 (.take 2 (.take 3 (.take 4 (.take 5 (.take 6 (.take 7 (.take 8 (.take 9 (.take 10 (.take 11 (.take 12 (.take 13 (.take 14 (.take 15 (.take 16 (.take 17 (.take 18 (.take 19 (.one 20 .done))))))))))))))))))))), .k [1, 5, 8, 9]] = some c_spec_l01Size := by kernel_rfl
abbrev f_spec_l01Ball : FuncId := 38
def c_spec_l01Ball : AF := ⟨3, 27, [.t 6],
  (.seq (.reg [⟨(some 3), none, .m (.box (.t 0))⟩,
     ⟨(some 6), none, .q (.mv (.c (.slice none 0 0)))⟩])
  (.seq (.reg [⟨(some 9), none, .m (.bsl 1 [])⟩,
     ⟨(some 7), none, .q (.mv (.t 9))⟩])
  (.seq (.seq (.reg [⟨(some 8), none, .q (.mv (.c (.int .i64 0)))⟩])
   (.block 0 (.loop [1, 2, 3, 7, 8] (.seq (.seq (.reg [⟨(some 10), none, .q (.mv (.t 8))⟩,
         ⟨(some 11), none, .q (.ld true 1 (.t 3))⟩,
         ⟨(some 12), none, .c (.call 36 [(.t 11)])⟩,
         ⟨(some 13), none, .q (.bin .lss (.t 10) (.t 12))⟩])
      (.cond (.t 13)
       .skip
       (.exit 0)))
     (.seq (.block 1 (.seq (.reg [⟨(some 16), none, .q (.ld true 1 (.t 3))⟩,
          ⟨(some 17), none, .q (.mv (.t 8))⟩,
          ⟨(some 18), none, .q (.mv (.t 1))⟩,
          ⟨(some 19), none, .c (.call 56 [(.t 16), (.t 17), (.t 18)])⟩,
          ⟨(some 20), none, .q (.mv (.t 2))⟩,
          ⟨(some 21), none, .q (.bin .leq (.t 19) (.t 20))⟩])
       (.cond (.t 21)
        (.reg [⟨(some 22), none, .q (.mv (.t 7))⟩,
          ⟨(some 23), none, .q (.mv (.t 8))⟩,
          ⟨(some 24), none, .m (.bsl 1 [(.t 23)])⟩,
          ⟨(some 25), none, .m (.app 1 8 (.t 22) (.t 24))⟩,
          ⟨(some 7), none, .q (.mv (.t 25))⟩])
        .skip)))
     (.reg [⟨(some 14), none, .q (.mv (.t 8))⟩,
       ⟨(some 15), none, .q (.bin .add (.t 14) (.c (.int .i64 1)))⟩,
       ⟨(some 8), none, .q (.mv (.t 15))⟩]))))))
  (.seq (.reg [⟨(some 26), none, .q (.mv (.t 7))⟩,
     ⟨(some 6), none, .q (.mv (.t 26))⟩])
  .ret))))⟩
theorem l_spec_l01Ball : lowF PA f_spec_l01Ball 3 [.k [1, 2, 3, 7, 8]] = some c_spec_l01Ball := by kernel_rfl
abbrev f_impl_IsSpace : FuncId := 40
def c_impl_IsSpace : AF := ⟨1, 35, [.t 2],
  (.seq (.reg [⟨(some 1), none, .m (.box (.t 0))⟩,
     ⟨(some 2), none, .q (.mv (.c (.bool false)))⟩])
  (.seq (.seq (.reg [⟨(some 6), none, .q (.fad 0 (.t 1))⟩,
      ⟨(some 7), none, .q (.ld false 1 (.t 6))⟩,
      ⟨(some 8), none, .q (.len (.t 7))⟩,
      ⟨(some 9), none, .q (.bin .lss (.t 8) (.c (.int .i64 1)))⟩,
      ⟨(some 10), none, .q (.mv (.t 9))⟩,
      ⟨(some 11), (some (10, false)), .q (.fad 0 (.t 1))⟩,
      ⟨(some 12), (some (10, false)), .q (.ld false 1 (.t 11))⟩,
      ⟨(some 13), (some (10, false)), .q (.len (.t 12))⟩,
      ⟨(some 14), (some (10, false)), .q (.bin .gtr (.t 13) (.c (.int .i64 8)))⟩,
      ⟨(some 15), none, .q (.pick (.t 10) (.c (.bool true)) (.t 14))⟩])
   (.cond (.t 15)
    (.seq (.reg [⟨(some 2), none, .q (.mv (.c (.bool false)))⟩])
    .ret)
    .skip))
  (.seq (.reg [⟨(some 3), none, .q (.mv (.c (.int .i64 1)))⟩])
  (.seq (.seq (.reg [⟨(some 16), none, .q (.fad 0 (.t 1))⟩,
      ⟨(some 17), none, .q (.ld false 1 (.t 16))⟩,
      ⟨(some 18), none, .q (.len (.t 17))⟩,
      ⟨(some 19), none, .q (.mv (.c (.int .i64 0)))⟩])
   (.block 0 (.loop [3, 17, 18, 19] (.seq (.reg [⟨(some 20), none, .q (.bin .lss (.t 19) (.t 18))⟩])
     (.seq (.cond (.t 20)
       .skip
       (.exit 0))
     (.seq (.block 1 (.seq (.reg [⟨(some 21), none, .q (.ixs 1 (.t 17) (.t 19))⟩,
          ⟨(some 22), none, .q (.ld false 1 (.t 21))⟩,
          ⟨(some 5), none, .q (.mv (.t 22))⟩])
       (.seq (.seq (.reg [⟨(some 23), none, .q (.mv (.t 5))⟩,
           ⟨(some 24), none, .q (.bin .lss (.t 23) (.c (.int .i64 2)))⟩,
           ⟨(some 25), none, .q (.mv (.t 24))⟩,
           ⟨(some 26), (some (25, false)), .q (.mv (.t 5))⟩,
           ⟨(some 27), (some (25, false)), .q (.bin .gtr (.t 26) (.c (.int .i64 4)))⟩,
           ⟨(some 28), none, .q (.pick (.t 25) (.c (.bool true)) (.t 27))⟩])
        (.cond (.t 28)
         (.seq (.reg [⟨(some 2), none, .q (.mv (.c (.bool false)))⟩])
         .ret)
         .skip))
       (.reg [⟨(some 29), none, .q (.mv (.t 3))⟩,
         ⟨(some 30), none, .q (.mv (.t 5))⟩,
         ⟨(some 31), none, .q (.bin .mul (.t 29) (.t 30))⟩,
         ⟨(some 3), none, .q (.mv (.t 31))⟩]))))
     (.reg [⟨(some 32), none, .q (.bin .add (.t 19) (.c (.int .i64 1)))⟩,
       ⟨(some 19), none, .q (.mv (.t 32))⟩])))))))
  (.seq (.reg [⟨(some 33), none, .q (.mv (.t 3))⟩,
     ⟨(some 34), none, .q (.bin .leq (.t 33) (.c (.int .i64 1024)))⟩,
     ⟨(some 2), none, .q (.mv (.t 34))⟩])
  .ret)))))⟩
theorem l_impl_IsSpace : lowF PA f_impl_IsSpace 1 [.k [3, 17, 18, 19]] = some c_impl_IsSpace := by kernel_rfl
abbrev f_impl_count : FuncId := 41
def c_impl_count : AF := ⟨1, 18, [.t 2],
  (.seq (.reg [⟨(some 1), none, .m (.box (.t 0))⟩,
     ⟨(some 2), none, .q (.mv (.c (.int .i64 0)))⟩])
  (.seq (.reg [⟨(some 3), none, .q (.mv (.c (.int .i64 1)))⟩])
  (.seq (.seq (.reg [⟨(some 6), none, .q (.fad 0 (.t 1))⟩,
      ⟨(some 7), none, .q (.ld false 1 (.t 6))⟩,
      ⟨(some 8), none, .q (.len (.t 7))⟩,
      ⟨(some 9), none, .q (.mv (.c (.int .i64 0)))⟩])
   (.block 0 (.loop [3, 7, 8, 9] (.seq (.reg [⟨(some 10), none, .q (.bin .lss (.t 9) (.t 8))⟩])
     (.seq (.cond (.t 10)
       .skip
       (.exit 0))
     (.seq (.block 1 (.seq (.reg [⟨(some 11), none, .q (.ixs 1 (.t 7) (.t 9))⟩,
          ⟨(some 12), none, .q (.ld false 1 (.t 11))⟩,
          ⟨(some 5), none, .q (.mv (.t 12))⟩])
       (.reg [⟨(some 13), none, .q (.mv (.t 3))⟩,
         ⟨(some 14), none, .q (.mv (.t 5))⟩,
         ⟨(some 15), none, .q (.bin .mul (.t 13) (.t 14))⟩,
         ⟨(some 3), none, .q (.mv (.t 15))⟩])))
     (.reg [⟨(some 16), none, .q (.bin .add (.t 9) (.c (.int .i64 1)))⟩,
       ⟨(some 9), none, .q (.mv (.t 16))⟩])))))))
  (.seq (.reg [⟨(some 17), none, .q (.mv (.t 3))⟩,
     ⟨(some 2), none, .q (.mv (.t 17))⟩])
  .ret))))⟩
theorem l_impl_count : lowF PA f_impl_count 1 [.k [3, 7, 8, 9]] = some c_impl_count := by kernel_rfl
abbrev f_impl_ball : FuncId := 42
def c_impl_ball : AF := ⟨3, 14, [.t 6],
  (.seq (.reg [⟨(some 3), none, .m (.box (.t 0))⟩,
     ⟨(some 5), none, .m (.box (.t 2))⟩,
     ⟨(some 6), none, .q (.mv (.c (.slice none 0 0)))⟩])
  (.seq (.reg [⟨(some 8), none, .q (.ld true 1 (.t 3))⟩,
     ⟨(some 9), none, .q (.mv (.t 1))⟩,
     ⟨(some 10), none, .c (.call 60 [(.t 8), (.t 9)])⟩,
     ⟨(some 7), none, .m (.alloc [(.v (.int .u8 0)), (.v (.int .u8 0)), (.v (.int .u8 0)), (.v (.int .u8 0)), (.v (.int .u8 0)), (.v (.int .u8 0)), (.v (.int .u8 0)), (.v (.int .u8 0))])⟩,
     ⟨none, none, .m (.st true 8 (.t 7) (.t 10))⟩])
  (.seq (.reg [⟨(some 11), none, .q (.ld true 1 (.t 3))⟩,
     ⟨(some 12), none, .q (.mkf 62 [(.t 7), (.t 5)])⟩,
     ⟨(some 13), none, .c (.call 61 [(.t 11), (.t 12)])⟩,
     ⟨(some 6), none, .q (.mv (.t 13))⟩])
  .ret)))⟩
theorem l_impl_ball : lowF PA f_impl_ball 3 [] = some c_impl_ball := by kernel_rfl
abbrev f_spec_l04Cover : FuncId := 50
def c_spec_l04Cover : AF := ⟨5, 118, [.t 10, .t 11],
  (.seq (.reg [⟨(some 5), none, .m (.box (.t 0))⟩,
     ⟨(some 10), none, .q (.mv (.c (.slice none 0 0)))⟩,
     ⟨(some 11), none, .q (.mv (.c (.bool false)))⟩])
  (.seq (.reg [⟨(some 12), none, .q (.mv (.c (.int .i64 (-1))))⟩,
     ⟨(some 13), none, .q (.mv (.c (.int .i64 0)))⟩])
  (.seq (.seq (.reg [⟨(some 14), none, .q (.mv (.c (.int .i64 0)))⟩])
   (.block 0 (.loop [1, 2, 3, 4, 5, 12, 13, 14] (.seq (.seq (.reg [⟨(some 24), none, .q (.mv (.t 14))⟩,
         ⟨(some 25), none, .q (.mv (.t 2))⟩,
         ⟨(some 26), none, .q (.len (.t 25))⟩,
         ⟨(some 27), none, .q (.bin .lss (.t 24) (.t 26))⟩])
      (.cond (.t 27)
       .skip
       (.exit 0)))
     (.seq (.block 1 (.seq (.reg [⟨(some 30), none, .q (.mv (.t 2))⟩,
          ⟨(some 31), none, .q (.mv (.t 14))⟩,
          ⟨(some 32), none, .q (.ixs 1 (.t 30) (.t 31))⟩,
          ⟨(some 33), none, .q (.ld false 1 (.t 32))⟩,
          ⟨(some 34), none, .q (.bin .eql (.t 33) (.c (.int .i64 0)))⟩])
       (.cond (.t 34)
        (.seq (.reg [⟨(some 35), none, .q (.mv (.t 13))⟩,
           ⟨(some 36), none, .q (.bin .add (.t 35) (.c (.int .i64 1)))⟩,
           ⟨(some 13), none, .q (.mv (.t 36))⟩])
        (.seq (.reg [⟨(some 37), none, .q (.mv (.t 12))⟩,
           ⟨(some 38), none, .q (.bin .lss (.t 37) (.c (.int .i64 0)))⟩])
        (.cond (.t 38)
         (.reg [⟨(some 39), none, .q (.mv (.t 14))⟩,
           ⟨(some 12), none, .q (.mv (.t 39))⟩])
         .skip)))
        .skip)))
     (.reg [⟨(some 28), none, .q (.mv (.t 14))⟩,
       ⟨(some 29), none, .q (.bin .add (.t 28) (.c (.int .i64 1)))⟩,
       ⟨(some 14), none, .q (.mv (.t 29))⟩]))))))
  (.seq (.seq (.reg [⟨(some 40), none, .q (.mv (.t 4))⟩,
      ⟨(some 41), none, .q (.ld true 1 (.t 5))⟩,
      ⟨(some 42), none, .q (.mv (.t 3))⟩,
      ⟨(some 43), none, .c (.call 37 [(.t 41), (.t 42)])⟩,
      ⟨(some 44), none, .q (.bin .mul (.t 40) (.t 43))⟩,
      ⟨(some 45), none, .q (.mv (.t 13))⟩,
      ⟨(some 46), none, .q (.bin .lss (.t 44) (.t 45))⟩])
   (.cond (.t 46)
    (.seq (.reg [⟨(some 10), none, .q (.mv (.c (.slice none 0 0)))⟩,
       ⟨(some 11), none, .q (.mv (.c (.bool false)))⟩])
    .ret)
    .skip))
  (.seq (.seq (.reg [⟨(some 47), none, .q (.mv (.t 4))⟩,
      ⟨(some 48), none, .q (.bin .eql (.t 47) (.c (.int .i64 0)))⟩])
   (.cond (.t 48)
    (.seq (.reg [⟨(some 49), none, .q (.mv (.t 1))⟩,
       ⟨(some 10), none, .q (.mv (.t 49))⟩,
       ⟨(some 11), none, .q (.mv (.c (.bool true)))⟩])
    .ret)
    .skip))
  (.seq (.reg [⟨(some 15), none, .q (.mv (.c (.int .i64 0)))⟩])
  (.seq (.seq (.reg [⟨(some 50), none, .q (.mv (.t 1))⟩,
      ⟨(some 51), none, .q (.len (.t 50))⟩,
      ⟨(some 52), none, .q (.bin .gtr (.t 51) (.c (.int .i64 0)))⟩])
   (.cond (.t 52)
    (.reg [⟨(some 53), none, .q (.mv (.t 1))⟩,
      ⟨(some 54), none, .q (.mv (.t 1))⟩,
      ⟨(some 55), none, .q (.len (.t 54))⟩,
      ⟨(some 56), none, .q (.bin .sub (.t 55) (.c (.int .i64 1)))⟩,
      ⟨(some 57), none, .q (.ixs 1 (.t 53) (.t 56))⟩,
      ⟨(some 58), none, .q (.ld false 1 (.t 57))⟩,
      ⟨(some 59), none, .q (.bin .add (.t 58) (.c (.int .i64 1)))⟩,
      ⟨(some 15), none, .q (.mv (.t 59))⟩])
    .skip))
  (.seq (.reg [⟨(some 60), none, .q (.ld true 1 (.t 5))⟩,
     ⟨(some 61), none, .c (.call 36 [(.t 60)])⟩,
     ⟨(some 62), none, .q (.bin .sub (.t 61) (.c (.int .i64 1)))⟩,
     ⟨(some 16), none, .q (.mv (.t 62))⟩])
  (.seq (.seq (.reg [⟨(some 63), none, .q (.mv (.t 12))⟩,
      ⟨(some 64), none, .q (.bin .geq (.t 63) (.c (.int .i64 0)))⟩])
   (.cond (.t 64)
    (.seq (.reg [⟨(some 65), none, .q (.ld true 1 (.t 5))⟩,
       ⟨(some 66), none, .q (.mv (.t 12))⟩,
       ⟨(some 67), none, .q (.mv (.t 3))⟩,
       ⟨(some 68), none, .c (.call 38 [(.t 65), (.t 66), (.t 67)])⟩,
       ⟨(some 17), none, .q (.mv (.t 68))⟩])
    (.reg [⟨(some 69), none, .q (.mv (.t 17))⟩,
      ⟨(some 70), none, .q (.mv (.t 17))⟩,
      ⟨(some 71), none, .q (.len (.t 70))⟩,
      ⟨(some 72), none, .q (.bin .sub (.t 71) (.c (.int .i64 1)))⟩,
      ⟨(some 73), none, .q (.ixs 1 (.t 69) (.t 72))⟩,
      ⟨(some 74), none, .q (.ld false 1 (.t 73))⟩,
      ⟨(some 16), none, .q (.mv (.t 74))⟩]))
    .skip))
  (.seq (.seq (.reg [⟨(some 75), none, .q (.mv (.t 15))⟩,
      ⟨(some 18), none, .q (.mv (.t 75))⟩])
   (.block 2 (.loop [1, 2, 3, 4, 5, 16, 18] (.seq (.seq (.reg [⟨(some 76), none, .q (.mv (.t 18))⟩,
         ⟨(some 77), none, .q (.mv (.t 16))⟩,
         ⟨(some 78), none, .q (.bin .leq (.t 76) (.t 77))⟩])
      (.cond (.t 78)
       .skip
       (.exit 2)))
     (.seq (.block 3 (.seq (.sch (.take 0 ⟨(some 81), none, .q (.mv (.t 2))⟩ (.take 2 ⟨(some 83), none, .q (.ld true 1 (.t 5))⟩ (.take 3 ⟨(some 84), none, .q (.mv (.t 18))⟩ (.take 4 ⟨(some 85), none, .q (.mv (.t 3))⟩ (.one ⟨(some 82), none, .c (.call 58 [(.t 81)])⟩ [] (.one ⟨(some 86), none, .c (.call 38 [(.t 83), (.t 84), (.t 85)])⟩ [2] (.take 6 ⟨(some 19), none, .q (.mv (.t 82))⟩ (.take 7 ⟨(some 20), none, .q (.mv (.t 86))⟩ .done)))))))))
       (.seq (.seq (.reg [⟨(some 21), none, .q (.mv (.c (.int .i64 0)))⟩])
        (.block 4 (.loop [1, 2, 3, 4, 5, 16, 18, 19, 20, 21] (.seq (.seq (.reg [⟨(some 87), none, .q (.mv (.t 21))⟩,
              ⟨(some 88), none, .q (.mv (.t 20))⟩,
              ⟨(some 89), none, .q (.len (.t 88))⟩,
              ⟨(some 90), none, .q (.bin .lss (.t 87) (.t 89))⟩])
           (.cond (.t 90)
            .skip
            (.exit 4)))
          (.seq (.block 5 (.reg [⟨(some 93), none, .q (.mv (.t 19))⟩,
              ⟨(some 94), none, .q (.mv (.t 20))⟩,
              ⟨(some 95), none, .q (.mv (.t 21))⟩,
              ⟨(some 96), none, .q (.ixs 1 (.t 94) (.t 95))⟩,
              ⟨(some 97), none, .q (.ld false 1 (.t 96))⟩,
              ⟨(some 98), none, .q (.ixs 1 (.t 93) (.t 97))⟩,
              ⟨(some 99), none, .q (.ld false 1 (.t 98))⟩,
              ⟨(some 100), none, .q (.bin .add (.t 99) (.c (.int .i64 1)))⟩,
              ⟨(some 101), none, .q (.ixs 1 (.t 93) (.t 97))⟩,
              ⟨none, none, .m (.st false 1 (.t 101) (.t 100))⟩]))
          (.reg [⟨(some 91), none, .q (.mv (.t 21))⟩,
            ⟨(some 92), none, .q (.bin .add (.t 91) (.c (.int .i64 1)))⟩,
            ⟨(some 21), none, .q (.mv (.t 92))⟩]))))))
       (.seq (.sch (.take 0 ⟨(some 103), none, .q (.ld true 1 (.t 5))⟩ (.take 1 ⟨(some 104), none, .q (.mv (.t 1))⟩ (.take 3 ⟨(some 106), none, .q (.mv (.t 18))⟩ (.take 6 ⟨(some 109), none, .q (.mv (.t 19))⟩ (.take 7 ⟨(some 110), none, .q (.mv (.t 3))⟩ (.take 8 ⟨(some 111), none, .q (.mv (.t 4))⟩ (.take 9 ⟨(some 112), none, .q (.bin .sub (.t 111) (.c (.int .i64 1)))⟩ (.two ⟨(some 105), none, .c (.call 58 [(.t 104)])⟩ [] (.one ⟨(some 107), none, .m (.bsl 1 [(.t 106)])⟩ [] (.one ⟨(some 108), none, .m (.app 1 8 (.t 105) (.t 107))⟩ [] (.one ⟨(some 113), none, .c (.call 50 [(.t 103), (.t 108), (.t 109), (.t 110), (.t 112)])⟩ [0] (.take 11 ⟨(some 102), none, .q (.mv (.t 113))⟩ (.take 12 ⟨(some 114), none, .q (.ext (.t 102) 0)⟩ (.take 13 ⟨(some 115), none, .q (.ext (.t 102) 1)⟩ (.take 14 ⟨(some 22), none, .q (.mv (.t 114))⟩ (.take 15 ⟨(some 23), none, .q (.mv (.t 115))⟩ .done)))))))) ⟨(some 107), none, .m (.bsl 1 [(.t 106)])⟩ [] (.one ⟨(some 105), none, .c (.call 58 [(.t 104)])⟩ [] (.one ⟨(some 108), none, .m (.app 1 8 (.t 105) (.t 107))⟩ [] (.one ⟨(some 113), none, .c (.call 50 [(.t 103), (.t 108), (.t 109), (.t 110), (.t 112)])⟩ [0] (.take 11 ⟨(some 102), none, .q (.mv (.t 113))⟩ (.take 12 ⟨(some 114), none, .q (.ext (.t 102) 0)⟩ (.take 13 ⟨(some 115), none, .q (.ext (.t 102) 1)⟩ (.take 14 ⟨(some 22), none, .q (.mv (.t 114))⟩ (.take 15 ⟨(some 23), none, .q (.mv (.t 115))⟩ .done)))))))))))))))))
       (.seq (.reg [⟨(some 116), none, .q (.mv (.t 23))⟩])
       (.cond (.t 116)
        (.seq (.reg [⟨(some 117), none, .q (.mv (.t 22))⟩,
           ⟨(some 10), none, .q (.mv (.t 117))⟩,
           ⟨(some 11), none, .q (.mv (.c (.bool true)))⟩])
        .ret)
        .skip))))))
     (.reg [⟨(some 79), none, .q (.mv (.t 18))⟩,
       ⟨(some 80), none, .q (.bin .add (.t 79) (.c (.int .i64 1)))⟩,
       ⟨(some 18), none, .q (.mv (.t 80))⟩]))))))
  (.seq (.reg [⟨(some 10), none, .q (.mv (.c (.slice none 0 0)))⟩,
     ⟨(some 11), none, .q (.mv (.c (.bool false)))⟩])
  .ret)))))))))))⟩
theorem l_spec_l04Cover : lowF PA f_spec_l04Cover 5 [.k [1, 2, 3, 4, 5, 12, 13, 14], .k [1, 2, 3, 4, 5, 16, 18], .s (.take 0 (.take 2 (.take 3 (.take 4 (.one 1 (.one 5 (.take 6 (.take 7 .done)))))))), .k [1, 2, 3, 4, 5, 16, 18, 19, 20, 21], .s (.take 0 (.take 1 (.take 3 (.take 6 (.take 7 (.take 8 (.take 9 (.two 2 (.one 4 (.one 5 (.one 10 (.take 11 (.take 12 (.take 13 (.take 14 (.take 15 .done)))))))) 4 (.one 2 (.one 5 (.one 10 (.take 11 (.take 12 (.take 13 (.take 14 (.take 15 .done))))))))))))))))] = some c_spec_l04Cover := by kernel_rfl
abbrev f_impl_nearSets : FuncId := 51
def c_impl_nearSets : AF := ⟨2, 36, [.t 4],
  (.seq (.reg [⟨(some 2), none, .m (.box (.t 0))⟩,
     ⟨(some 4), none, .q (.mv (.c (.slice none 0 0)))⟩])
  (.seq (.reg [⟨(some 10), none, .m (.bsl 1 [])⟩,
     ⟨(some 5), none, .q (.mv (.t 10))⟩])
  (.seq (.seq (.reg [⟨(some 11), none, .q (.ld true 1 (.t 2))⟩,
      ⟨(some 12), none, .c (.call 41 [(.t 11)])⟩,
      ⟨(some 13), none, .q (.mv (.c (.int .i64 0)))⟩])
   (.block 0 (.loop [1, 2, 5, 12, 13] (.seq (.reg [⟨(some 14), none, .q (.bin .lss (.t 13) (.t 12))⟩])
     (.seq (.cond (.t 14)
       .skip
       (.exit 0))
     (.seq (.block 1 (.seq (.reg [⟨(some 15), none, .q (.mv (.t 13))⟩,
          ⟨(some 6), none, .q (.mv (.t 15))⟩])
       (.seq (.reg [⟨(some 7), none, .q (.mv (.c (.int .u64 0)))⟩])
       (.seq (.seq (.reg [⟨(some 16), none, .q (.ld true 1 (.t 2))⟩,
           ⟨(some 17), none, .q (.mv (.t 6))⟩,
           ⟨(some 18), none, .q (.mv (.t 1))⟩,
           ⟨(some 19), none, .c (.call 42 [(.t 16), (.t 17), (.t 18)])⟩,
           ⟨(some 20), none, .q (.len (.t 19))⟩,
           ⟨(some 21), none, .q (.mv (.c (.int .i64 0)))⟩])
        (.block 2 (.loop [1, 2, 5, 7, 12, 13, 19, 20, 21] (.seq (.reg [⟨(some 22), none, .q (.bin .lss (.t 21) (.t 20))⟩])
          (.seq (.cond (.t 22)
            .skip
            (.exit 2))
          (.seq (.block 3 (.seq (.reg [⟨(some 23), none, .q (.ixs 1 (.t 19) (.t 21))⟩,
               ⟨(some 24), none, .q (.ld false 1 (.t 23))⟩,
               ⟨(some 9), none, .q (.mv (.t 24))⟩])
            (.reg [⟨(some 25), none, .q (.mv (.t 7))⟩,
              ⟨(some 26), none, .q (.mv (.t 9))⟩,
              ⟨(some 27), none, .q (.bin .shl (.c (.int .u64 1)) (.t 26))⟩,
              ⟨(some 28), none, .q (.bin .or (.t 25) (.t 27))⟩,
              ⟨(some 7), none, .q (.mv (.t 28))⟩])))
          (.reg [⟨(some 29), none, .q (.bin .add (.t 21) (.c (.int .i64 1)))⟩,
            ⟨(some 21), none, .q (.mv (.t 29))⟩])))))))
       (.reg [⟨(some 30), none, .q (.mv (.t 5))⟩,
         ⟨(some 31), none, .q (.mv (.t 7))⟩,
         ⟨(some 32), none, .m (.bsl 1 [(.t 31)])⟩,
         ⟨(some 33), none, .m (.app 1 8 (.t 30) (.t 32))⟩,
         ⟨(some 5), none, .q (.mv (.t 33))⟩])))))
     (.reg [⟨(some 34), none, .q (.bin .add (.t 13) (.c (.int .i64 1)))⟩,
       ⟨(some 13), none, .q (.mv (.t 34))⟩])))))))
  (.seq (.reg [⟨(some 35), none, .q (.mv (.t 5))⟩,
     ⟨(some 4), none, .q (.mv (.t 35))⟩])
  .ret))))⟩
theorem l_impl_nearSets : lowF PA f_impl_nearSets 2 [.k [1, 2, 5, 12, 13], .k [1, 2, 5, 7, 12, 13, 19, 20, 21]] = some c_impl_nearSets := by kernel_rfl
abbrev f_math_bits_OnesCount64 : FuncId := 52
def c_math_bits_OnesCount64 : AF := ⟨1, 35, [.t 2],
  (.seq (.reg [⟨(some 2), none, .q (.mv (.c (.int .i64 0)))⟩])
  (.seq (.reg [⟨(some 3), none, .q (.mv (.t 0))⟩,
     ⟨(some 4), none, .q (.bin .shr (.t 3) (.c (.int .u64 1)))⟩,
     ⟨(some 5), none, .q (.bin .and (.t 4) (.c (.int .u64 6148914691236517205)))⟩,
     ⟨(some 6), none, .q (.mv (.t 0))⟩,
     ⟨(some 7), none, .q (.bin .and (.t 6) (.c (.int .u64 6148914691236517205)))⟩,
     ⟨(some 8), none, .q (.bin .add (.t 5) (.t 7))⟩,
     ⟨(some 0), none, .q (.mv (.t 8))⟩])
  (.seq (.reg [⟨(some 9), none, .q (.mv (.t 0))⟩,
     ⟨(some 10), none, .q (.bin .shr (.t 9) (.c (.int .u64 2)))⟩,
     ⟨(some 11), none, .q (.bin .and (.t 10) (.c (.int .u64 3689348814741910323)))⟩,
     ⟨(some 12), none, .q (.mv (.t 0))⟩,
     ⟨(some 13), none, .q (.bin .and (.t 12) (.c (.int .u64 3689348814741910323)))⟩,
     ⟨(some 14), none, .q (.bin .add (.t 11) (.t 13))⟩,
     ⟨(some 0), none, .q (.mv (.t 14))⟩])
  (.seq (.reg [⟨(some 15), none, .q (.mv (.t 0))⟩,
     ⟨(some 16), none, .q (.bin .shr (.t 15) (.c (.int .u64 4)))⟩,
     ⟨(some 17), none, .q (.mv (.t 0))⟩,
     ⟨(some 18), none, .q (.bin .add (.t 16) (.t 17))⟩,
     ⟨(some 19), none, .q (.bin .and (.t 18) (.c (.int .u64 1085102592571150095)))⟩,
     ⟨(some 0), none, .q (.mv (.t 19))⟩])
  (.seq (.reg [⟨(some 20), none, .q (.mv (.t 0))⟩,
     ⟨(some 21), none, .q (.mv (.t 0))⟩,
     ⟨(some 22), none, .q (.bin .shr (.t 21) (.c (.int .u64 8)))⟩,
     ⟨(some 23), none, .q (.bin .add (.t 20) (.t 22))⟩,
     ⟨(some 0), none, .q (.mv (.t 23))⟩])
  (.seq (.reg [⟨(some 24), none, .q (.mv (.t 0))⟩,
     ⟨(some 25), none, .q (.mv (.t 0))⟩,
     ⟨(some 26), none, .q (.bin .shr (.t 25) (.c (.int .u64 16)))⟩,
     ⟨(some 27), none, .q (.bin .add (.t 24) (.t 26))⟩,
     ⟨(some 0), none, .q (.mv (.t 27))⟩])
  (.seq (.reg [⟨(some 28), none, .q (.mv (.t 0))⟩,
     ⟨(some 29), none, .q (.mv (.t 0))⟩,
     ⟨(some 30), none, .q (.bin .shr (.t 29) (.c (.int .u64 32)))⟩,
     ⟨(some 31), none, .q (.bin .add (.t 28) (.t 30))⟩,
     ⟨(some 0), none, .q (.mv (.t 31))⟩])
  (.seq (.reg [⟨(some 32), none, .q (.mv (.t 0))⟩,
     ⟨(some 33), none, .q (.cvt .i64 (.t 32))⟩,
     ⟨(some 34), none, .q (.bin .and (.t 33) (.c (.int .i64 127)))⟩,
     ⟨(some 2), none, .q (.mv (.t 34))⟩])
  .ret))))))))⟩
theorem l_math_bits_OnesCount64 : lowF PA f_math_bits_OnesCount64 1 [] = some c_math_bits_OnesCount64 := by kernel_rfl
abbrev f_impl_firstCover_1 : FuncId := 53
def c_impl_firstCover_1 : AF := ⟨8, 56, [.t 10],
  (.seq (.reg [⟨(some 10), none, .q (.mv (.c (.bool false)))⟩])
  (.seq (.reg [⟨(some 13), none, .q (.ld false 1 (.t 2))⟩,
     ⟨(some 14), none, .q (.ld false 1 (.t 3))⟩,
     ⟨(some 15), none, .q (.len (.t 14))⟩,
     ⟨(some 16), none, .q (.bin .sub (.t 13) (.t 15))⟩,
     ⟨(some 11), none, .q (.mv (.t 16))⟩])
  (.seq (.seq (.reg [⟨(some 17), none, .q (.mv (.t 1))⟩,
      ⟨(some 18), none, .q (.ld false 1 (.t 4))⟩,
      ⟨(some 19), none, .q (.bin .eql (.t 17) (.t 18))⟩])
   (.cond (.t 19)
    (.seq (.reg [⟨(some 20), none, .q (.mv (.t 11))⟩,
       ⟨(some 21), none, .q (.bin .eql (.t 20) (.c (.int .i64 0)))⟩,
       ⟨(some 10), none, .q (.mv (.t 21))⟩])
    .ret)
    .skip))
  (.seq (.seq (.sch (.take 0 ⟨(some 22), none, .q (.ld false 1 (.t 4))⟩ (.take 1 ⟨(some 23), none, .q (.mv (.t 1))⟩ (.take 2 ⟨(some 24), none, .q (.bin .andNot (.t 22) (.t 23))⟩ (.take 4 ⟨(some 26), none, .q (.mv (.t 11))⟩ (.take 5 ⟨(some 27), none, .q (.ld false 1 (.t 5))⟩ (.take 6 ⟨(some 28), none, .q (.bin .mul (.t 26) (.t 27))⟩ (.one ⟨(some 25), none, .c (.call 52 [(.t 24)])⟩ [] (.take 7 ⟨(some 29), none, .q (.bin .gtr (.t 25) (.t 28))⟩ .done)))))))))
   (.cond (.t 29)
    (.seq (.reg [⟨(some 10), none, .q (.mv (.c (.bool false)))⟩])
    .ret)
    .skip))
  (.seq (.seq (.reg [⟨(some 30), none, .q (.mv (.t 0))⟩,
      ⟨(some 12), none, .q (.mv (.t 30))⟩])
   (.block 0 (.loop [1, 3, 6, 7, 12, 58, 59, 60, 61, 62, 63] (.seq (.seq (.reg [⟨(some 31), none, .q (.mv (.t 12))⟩,
         ⟨(some 32), none, .q (.ld false 1 (.t 6))⟩,
         ⟨(some 33), none, .q (.len (.t 32))⟩,
         ⟨(some 34), none, .q (.bin .lss (.t 31) (.t 33))⟩])
      (.cond (.t 34)
       .skip
       (.exit 0)))
     (.seq (.block 1 (.seq (.reg [⟨(some 37), none, .q (.ld false 1 (.t 3))⟩,
          ⟨(some 38), none, .q (.mv (.t 12))⟩,
          ⟨(some 39), none, .m (.bsl 1 [(.t 38)])⟩,
          ⟨(some 40), none, .m (.app 1 8 (.t 37) (.t 39))⟩,
          ⟨none, none, .m (.st false 1 (.t 3) (.t 40))⟩])
       (.seq (.seq (.sch (.take 0 ⟨(some 41), none, .q (.ld false 1 (.t 7))⟩ (.take 1 ⟨(some 42), none, .q (.mv (.t 12))⟩ (.take 2 ⟨(some 43), none, .q (.bin .add (.t 42) (.c (.int .i64 1)))⟩ (.take 3 ⟨(some 44), none, .q (.mv (.t 1))⟩ (.take 4 ⟨(some 45), none, .q (.ld false 1 (.t 6))⟩ (.take 5 ⟨(some 46), none, .q (.mv (.t 12))⟩ (.take 6 ⟨(some 47), none, .q (.ixs 1 (.t 45) (.t 46))⟩ (.take 7 ⟨(some 48), none, .q (.ld false 1 (.t 47))⟩ (.take 8 ⟨(some 49), none, .q (.bin .or (.t 44) (.t 48))⟩ (.one ⟨(some 50), none, .c (.cav (.t 41) [(.t 43), (.t 49)])⟩ [0] .done)))))))))))
        (.cond (.t 50)
         (.seq (.reg [⟨(some 10), none, .q (.mv (.c (.bool true)))⟩])
         .ret)
         .skip))
       (.reg [⟨(some 51), none, .q (.ld false 1 (.t 3))⟩,
         ⟨(some 52), none, .q (.ld false 1 (.t 3))⟩,
         ⟨(some 53), none, .q (.len (.t 52))⟩,
         ⟨(some 54), none, .q (.bin .sub (.t 53) (.c (.int .i64 1)))⟩,
         ⟨(some 55), none, .q (.slc 1 (.t 51) none (some (.t 54)))⟩,
         ⟨none, none, .m (.st false 1 (.t 3) (.t 55))⟩]))))
     (.reg [⟨(some 35), none, .q (.mv (.t 12))⟩,
       ⟨(some 36), none, .q (.bin .add (.t 35) (.c (.int .i64 1)))⟩,
       ⟨(some 12), none, .q (.mv (.t 36))⟩]))))))
  (.seq (.reg [⟨(some 10), none, .q (.mv (.c (.bool false)))⟩])
  .ret))))))⟩
theorem l_impl_firstCover_1 : lowF PA f_impl_firstCover_1 8 [.s (.take 0 (.take 1 (.take 2 (.take 4 (.take 5 (.take 6 (.one 3 (.take 7 .done)))))))), .k [1, 3, 6, 7, 12, 58, 59, 60, 61, 62, 63], .s (.take 0 (.take 1 (.take 2 (.take 3 (.take 4 (.take 5 (.take 6 (.take 7 (.take 8 (.one 9 .done))))))))))] = some c_impl_firstCover_1 := by kernel_rfl
abbrev f_spec_l01Is : FuncId := 54
def c_spec_l01Is : AF := ⟨1, 26, [.t 2],
  (.seq (.reg [⟨(some 1), none, .m (.box (.t 0))⟩,
     ⟨(some 2), none, .q (.mv (.c (.bool false)))⟩])
  (.seq (.seq (.reg [⟨(some 4), none, .q (.fad 0 (.t 1))⟩,
      ⟨(some 5), none, .q (.ld false 1 (.t 4))⟩,
      ⟨(some 6), none, .q (.len (.t 5))⟩,
      ⟨(some 7), none, .c (.call 55 [(.t 6), (.c (.int .i64 1)), (.c (.int .i64 8))])⟩,
      ⟨(some 8), none, .q (.un .not (.t 7))⟩])
   (.cond (.t 8)
    (.seq (.reg [⟨(some 2), none, .q (.mv (.c (.bool false)))⟩])
    .ret)
    .skip))
  (.seq (.seq (.reg [⟨(some 3), none, .q (.mv (.c (.int .i64 0)))⟩])
   (.block 0 (.loop [1, 3] (.seq (.seq (.reg [⟨(some 9), none, .q (.mv (.t 3))⟩,
         ⟨(some 10), none, .q (.fad 0 (.t 1))⟩,
         ⟨(some 11), none, .q (.ld false 1 (.t 10))⟩,
         ⟨(some 12), none, .q (.len (.t 11))⟩,
         ⟨(some 13), none, .q (.bin .lss (.t 9) (.t 12))⟩])
      (.cond (.t 13)
       .skip
       (.exit 0)))
     (.seq (.block 1 (.seq (.reg [⟨(some 16), none, .q (.fad 0 (.t 1))⟩,
          ⟨(some 17), none, .q (.ld false 1 (.t 16))⟩,
          ⟨(some 18), none, .q (.mv (.t 3))⟩,
          ⟨(some 19), none, .q (.ixs 1 (.t 17) (.t 18))⟩,
          ⟨(some 20), none, .q (.ld false 1 (.t 19))⟩,
          ⟨(some 21), none, .c (.call 55 [(.t 20), (.c (.int .i64 2)), (.c (.int .i64 4))])⟩,
          ⟨(some 22), none, .q (.un .not (.t 21))⟩])
       (.cond (.t 22)
        (.seq (.reg [⟨(some 2), none, .q (.mv (.c (.bool false)))⟩])
        .ret)
        .skip)))
     (.reg [⟨(some 14), none, .q (.mv (.t 3))⟩,
       ⟨(some 15), none, .q (.bin .add (.t 14) (.c (.int .i64 1)))⟩,
       ⟨(some 3), none, .q (.mv (.t 15))⟩]))))))
  (.seq (.reg [⟨(some 23), none, .q (.ld true 1 (.t 1))⟩,
     ⟨(some 24), none, .c (.call 36 [(.t 23)])⟩,
     ⟨(some 25), none, .q (.bin .leq (.t 24) (.c (.int .i64 1024)))⟩,
     ⟨(some 2), none, .q (.mv (.t 25))⟩])
  .ret))))⟩
theorem l_spec_l01Is : lowF PA f_spec_l01Is 1 [.k [1, 3]] = some c_spec_l01Is := by kernel_rfl
abbrev f_spec_l01In : FuncId := 55
def c_spec_l01In : AF := ⟨3, 15, [.t 6],
  (.seq (.reg [⟨(some 6), none, .q (.mv (.c (.bool false)))⟩])
  (.seq (.reg [⟨(some 7), none, .q (.mv (.t 0))⟩,
     ⟨(some 8), none, .q (.mv (.t 1))⟩,
     ⟨(some 9), none, .q (.bin .geq (.t 7) (.t 8))⟩,
     ⟨(some 10), none, .q (.mv (.t 9))⟩,
     ⟨(some 11), (some (10, true)), .q (.mv (.t 0))⟩,
     ⟨(some 12), (some (10, true)), .q (.mv (.t 2))⟩,
     ⟨(some 13), (some (10, true)), .q (.bin .leq (.t 11) (.t 12))⟩,
     ⟨(some 14), none, .q (.pick (.t 10) (.t 13) (.c (.bool false)))⟩,
     ⟨(some 6), none, .q (.mv (.t 14))⟩])
  .ret))⟩
theorem l_spec_l01In : lowF PA f_spec_l01In 3 [] = some c_spec_l01In := by kernel_rfl
abbrev f_spec_l01Distance : FuncId := 56
def c_spec_l01Distance : AF := ⟨3, 49, [.t 6],
  (.seq (.reg [⟨(some 3), none, .m (.box (.t 0))⟩,
     ⟨(some 6), none, .q (.mv (.c (.int .i64 0)))⟩])
  (.seq (.reg [⟨(some 7), none, .q (.mv (.c (.int .i64 0)))⟩])
  (.seq (.seq (.reg [⟨(some 9), none, .q (.fad 0 (.t 3))⟩,
      ⟨(some 10), none, .q (.ld false 1 (.t 9))⟩,
      ⟨(some 11), none, .q (.len (.t 10))⟩,
      ⟨(some 12), none, .q (.bin .sub (.t 11) (.c (.int .i64 1)))⟩,
      ⟨(some 8), none, .q (.mv (.t 12))⟩])
   (.block 0 (.loop [1, 2, 3, 7, 8] (.seq (.seq (.reg [⟨(some 13), none, .q (.mv (.t 8))⟩,
         ⟨(some 14), none, .q (.bin .geq (.t 13) (.c (.int .i64 0)))⟩])
      (.cond (.t 14)
       .skip
       (.exit 0)))
     (.seq (.block 1 (.seq (.seq (.sch (.take 0 ⟨(some 17), none, .q (.mv (.t 1))⟩ (.take 1 ⟨(some 18), none, .q (.fad 0 (.t 3))⟩ (.take 2 ⟨(some 19), none, .q (.ld false 1 (.t 18))⟩ (.take 3 ⟨(some 20), none, .q (.mv (.t 8))⟩ (.take 4 ⟨(some 21), none, .q (.ixs 1 (.t 19) (.t 20))⟩ (.take 5 ⟨(some 22), none, .q (.ld false 1 (.t 21))⟩ (.take 6 ⟨(some 23), none, .q (.bin .rem (.t 17) (.t 22))⟩ (.take 7 ⟨(some 24), none, .q (.mv (.t 2))⟩ (.take 8 ⟨(some 25), none, .q (.fad 0 (.t 3))⟩ (.take 9 ⟨(some 26), none, .q (.ld false 1 (.t 25))⟩ (.take 10 ⟨(some 27), none, .q (.mv (.t 8))⟩ (.take 11 ⟨(some 28), none, .q (.ixs 1 (.t 26) (.t 27))⟩ (.take 12 ⟨(some 29), none, .q (.ld false 1 (.t 28))⟩ (.take 13 ⟨(some 30), none, .q (.bin .rem (.t 24) (.t 29))⟩ (.take 14 ⟨(some 31), none, .q (.bin .neq (.t 23) (.t 30))⟩ .done))))))))))))))))
        (.cond (.t 31)
         (.reg [⟨(some 32), none, .q (.mv (.t 7))⟩,
           ⟨(some 33), none, .q (.bin .add (.t 32) (.c (.int .i64 1)))⟩,
           ⟨(some 7), none, .q (.mv (.t 33))⟩])
         .skip))
       (.seq (.reg [⟨(some 34), none, .q (.mv (.t 1))⟩,
          ⟨(some 35), none, .q (.fad 0 (.t 3))⟩,
          ⟨(some 36), none, .q (.ld false 1 (.t 35))⟩,
          ⟨(some 37), none, .q (.mv (.t 8))⟩,
          ⟨(some 38), none, .q (.ixs 1 (.t 36) (.t 37))⟩,
          ⟨(some 39), none, .q (.ld false 1 (.t 38))⟩,
          ⟨(some 40), none, .q (.bin .quo (.t 34) (.t 39))⟩,
          ⟨(some 1), none, .q (.mv (.t 40))⟩])
       (.reg [⟨(some 41), none, .q (.mv (.t 2))⟩,
         ⟨(some 42), none, .q (.fad 0 (.t 3))⟩,
         ⟨(some 43), none, .q (.ld false 1 (.t 42))⟩,
         ⟨(some 44), none, .q (.mv (.t 8))⟩,
         ⟨(some 45), none, .q (.ixs 1 (.t 43) (.t 44))⟩,
         ⟨(some 46), none, .q (.ld false 1 (.t 45))⟩,
         ⟨(some 47), none, .q (.bin .quo (.t 41) (.t 46))⟩,
         ⟨(some 2), none, .q (.mv (.t 47))⟩]))))
     (.reg [⟨(some 15), none, .q (.mv (.t 8))⟩,
       ⟨(some 16), none, .q (.bin .sub (.t 15) (.c (.int .i64 1)))⟩,
       ⟨(some 8), none, .q (.mv (.t 16))⟩]))))))
  (.seq (.reg [⟨(some 48), none, .q (.mv (.t 7))⟩,
     ⟨(some 6), none, .q (.mv (.t 48))⟩])
  .ret))))⟩
theorem l_spec_l01Distance : lowF PA f_spec_l01Distance 3 [.k [1, 2, 3, 7, 8], .s (.take 0 (.take 1 (.take 2 (.take 3 (.take 4 (.take 5 (.take 6 (.take 7 (.take 8 (.take 9 (.take 10 (.take 11 (.take 12 (.take 13 (.take 14 .done)))))))))))))))] = some c_spec_l01Distance := by kernel_rfl
abbrev f_spec_l01Own : FuncId := 58
def c_spec_l01Own : AF := ⟨1, 6, [.t 2],
  (.seq (.reg [⟨(some 2), none, .q (.mv (.c (.slice none 0 0)))⟩])
  (.seq (.reg [⟨(some 3), none, .m (.bsl 1 [])⟩,
     ⟨(some 4), none, .q (.mv (.t 0))⟩,
     ⟨(some 5), none, .m (.app 1 8 (.t 3) (.t 4))⟩,
     ⟨(some 2), none, .q (.mv (.t 5))⟩])
  .ret))⟩
theorem l_spec_l01Own : lowF PA f_spec_l01Own 1 [] = some c_spec_l01Own := by kernel_rfl
abbrev f_impl_digitsOf : FuncId := 60
def c_impl_digitsOf : AF := ⟨2, 34, [.c 4 true 8],
  (.seq (.reg [⟨(some 2), none, .m (.box (.t 0))⟩,
     ⟨(some 4), none, .m (.alloc [(.v (.int .u8 0)), (.v (.int .u8 0)), (.v (.int .u8 0)), (.v (.int .u8 0)), (.v (.int .u8 0)), (.v (.int .u8 0)), (.v (.int .u8 0)), (.v (.int .u8 0))])⟩])
  (.seq (.reg [⟨(some 7), none, .q (.bld [(.v (.int .u8 0)), (.v (.int .u8 0)), (.v (.int .u8 0)), (.v (.int .u8 0)), (.v (.int .u8 0)), (.v (.int .u8 0)), (.v (.int .u8 0)), (.v (.int .u8 0))] [])⟩,
     ⟨(some 5), none, .m (.alloc [(.v (.int .u8 0)), (.v (.int .u8 0)), (.v (.int .u8 0)), (.v (.int .u8 0)), (.v (.int .u8 0)), (.v (.int .u8 0)), (.v (.int .u8 0)), (.v (.int .u8 0))])⟩,
     ⟨none, none, .m (.st true 8 (.t 5) (.t 7))⟩])
  (.seq (.seq (.reg [⟨(some 8), none, .q (.fad 0 (.t 2))⟩,
      ⟨(some 9), none, .q (.ld false 1 (.t 8))⟩,
      ⟨(some 10), none, .q (.len (.t 9))⟩,
      ⟨(some 11), none, .q (.bin .sub (.t 10) (.c (.int .i64 1)))⟩,
      ⟨(some 6), none, .q (.mv (.t 11))⟩])
   (.block 0 (.loop [1, 2, 4, 5, 6] (.seq (.seq (.reg [⟨(some 12), none, .q (.mv (.t 6))⟩,
         ⟨(some 13), none, .q (.bin .geq (.t 12) (.c (.int .i64 0)))⟩])
      (.cond (.t 13)
       .skip
       (.exit 0)))
     (.seq (.block 1 (.seq (.reg [⟨(some 16), none, .q (.mv (.t 6))⟩,
          ⟨(some 17), none, .q (.mv (.t 1))⟩,
          ⟨(some 18), none, .q (.fad 0 (.t 2))⟩,
          ⟨(some 19), none, .q (.ld false 1 (.t 18))⟩,
          ⟨(some 20), none, .q (.mv (.t 6))⟩,
          ⟨(some 21), none, .q (.ixs 1 (.t 19) (.t 20))⟩,
          ⟨(some 22), none, .q (.ld false 1 (.t 21))⟩,
          ⟨(some 23), none, .q (.bin .rem (.t 17) (.t 22))⟩,
          ⟨(some 24), none, .q (.cvt .u8 (.t 23))⟩,
          ⟨(some 25), none, .q (.ixa 8 1 (.t 5) (.t 16))⟩,
          ⟨none, none, .m (.st false 1 (.t 25) (.t 24))⟩])
       (.reg [⟨(some 26), none, .q (.mv (.t 1))⟩,
         ⟨(some 27), none, .q (.fad 0 (.t 2))⟩,
         ⟨(some 28), none, .q (.ld false 1 (.t 27))⟩,
         ⟨(some 29), none, .q (.mv (.t 6))⟩,
         ⟨(some 30), none, .q (.ixs 1 (.t 28) (.t 29))⟩,
         ⟨(some 31), none, .q (.ld false 1 (.t 30))⟩,
         ⟨(some 32), none, .q (.bin .quo (.t 26) (.t 31))⟩,
         ⟨(some 1), none, .q (.mv (.t 32))⟩])))
     (.reg [⟨(some 14), none, .q (.mv (.t 6))⟩,
       ⟨(some 15), none, .q (.bin .sub (.t 14) (.c (.int .i64 1)))⟩,
       ⟨(some 6), none, .q (.mv (.t 15))⟩]))))))
  (.seq (.reg [⟨(some 33), none, .q (.ld true 8 (.t 5))⟩,
     ⟨none, none, .m (.st true 8 (.t 4) (.t 33))⟩])
  .ret))))⟩
theorem l_impl_digitsOf : lowF PA f_impl_digitsOf 2 [.k [1, 2, 4, 5, 6]] = some c_impl_digitsOf := by kernel_rfl
abbrev f_impl_those : FuncId := 61
def c_impl_those : AF := ⟨2, 26, [.t 4],
  (.seq (.reg [⟨(some 2), none, .m (.box (.t 0))⟩,
     ⟨(some 4), none, .q (.mv (.c (.slice none 0 0)))⟩])
  (.seq (.reg [⟨(some 8), none, .m (.bsl 1 [])⟩,
     ⟨(some 5), none, .q (.mv (.t 8))⟩])
  (.seq (.seq (.reg [⟨(some 9), none, .q (.ld true 1 (.t 2))⟩,
      ⟨(some 10), none, .c (.call 68 [(.t 9)])⟩,
      ⟨(some 11), none, .q (.len (.t 10))⟩,
      ⟨(some 12), none, .q (.mv (.c (.int .i64 0)))⟩])
   (.block 0 (.loop [1, 5, 10, 11, 12] (.seq (.reg [⟨(some 13), none, .q (.bin .lss (.t 12) (.t 11))⟩])
     (.seq (.cond (.t 13)
       .skip
       (.exit 0))
     (.seq (.block 1 (.seq (.reg [⟨(some 14), none, .q (.mv (.t 12))⟩,
          ⟨(some 15), none, .q (.ixs 8 (.t 10) (.t 12))⟩,
          ⟨(some 16), none, .q (.ld true 8 (.t 15))⟩,
          ⟨(some 7), none, .m (.alloc [(.v (.int .u8 0)), (.v (.int .u8 0)), (.v (.int .u8 0)), (.v (.int .u8 0)), (.v (.int .u8 0)), (.v (.int .u8 0)), (.v (.int .u8 0)), (.v (.int .u8 0))])⟩,
          ⟨(some 6), none, .q (.mv (.t 14))⟩,
          ⟨none, none, .m (.st true 8 (.t 7) (.t 16))⟩])
       (.seq (.reg [⟨(some 17), none, .q (.mv (.t 1))⟩,
          ⟨(some 18), none, .q (.ld true 8 (.t 7))⟩,
          ⟨(some 19), none, .c (.cav (.t 17) [(.t 18)])⟩])
       (.cond (.t 19)
        (.reg [⟨(some 20), none, .q (.mv (.t 5))⟩,
          ⟨(some 21), none, .q (.mv (.t 6))⟩,
          ⟨(some 22), none, .m (.bsl 1 [(.t 21)])⟩,
          ⟨(some 23), none, .m (.app 1 8 (.t 20) (.t 22))⟩,
          ⟨(some 5), none, .q (.mv (.t 23))⟩])
        .skip))))
     (.reg [⟨(some 24), none, .q (.bin .add (.t 12) (.c (.int .i64 1)))⟩,
       ⟨(some 12), none, .q (.mv (.t 24))⟩])))))))
  (.seq (.reg [⟨(some 25), none, .q (.mv (.t 5))⟩,
     ⟨(some 4), none, .q (.mv (.t 25))⟩])
  .ret))))⟩
theorem l_impl_those : lowF PA f_impl_those 2 [.k [1, 5, 10, 11, 12]] = some c_impl_those := by kernel_rfl
abbrev f_impl_ball_1 : FuncId := 62
def c_impl_ball_1 : AF := ⟨3, 10, [.t 4],
  (.seq (.reg [⟨(some 3), none, .m (.box (.t 0))⟩,
     ⟨(some 4), none, .q (.mv (.c (.bool false)))⟩])
  (.seq (.sch (.take 0 ⟨(some 5), none, .q (.ld true 8 (.t 1))⟩ (.take 1 ⟨(some 6), none, .q (.ld true 8 (.t 3))⟩ (.take 3 ⟨(some 8), none, .q (.ld false 1 (.t 2))⟩ (.one ⟨(some 7), none, .c (.call 63 [(.t 5), (.t 6)])⟩ [1, 0] (.take 4 ⟨(some 9), none, .q (.bin .leq (.t 7) (.t 8))⟩ (.take 5 ⟨(some 4), none, .q (.mv (.t 9))⟩ .done)))))))
  .ret))⟩
theorem l_impl_ball_1 : lowF PA f_impl_ball_1 3 [.s (.take 0 (.take 1 (.take 3 (.one 2 (.take 4 (.take 5 .done))))))] = some c_impl_ball_1 := by kernel_rfl
abbrev f_impl_far : FuncId := 63
def c_impl_far : AF := ⟨2, 22, [.t 4],
  (.seq (.reg [⟨(some 2), none, .m (.box (.t 0))⟩,
     ⟨(some 3), none, .m (.box (.t 1))⟩,
     ⟨(some 4), none, .q (.mv (.c (.int .i64 0)))⟩])
  (.seq (.reg [⟨(some 5), none, .q (.mv (.c (.int .i64 0)))⟩])
  (.seq (.seq (.reg [⟨(some 8), none, .q (.ld true 8 (.t 2))⟩,
      ⟨(some 9), none, .q (.mv (.c (.int .i64 0)))⟩])
   (.block 0 (.loop [3, 5, 8, 9] (.seq (.reg [⟨(some 10), none, .q (.bin .lss (.t 9) (.c (.int .i64 8)))⟩])
     (.seq (.cond (.t 10)
       .skip
       (.exit 0))
     (.seq (.block 1 (.seq (.reg [⟨(some 11), none, .q (.mv (.t 9))⟩,
          ⟨(some 12), none, .q (.ixv 8 (.t 8) (.t 9))⟩,
          ⟨(some 6), none, .q (.mv (.t 11))⟩,
          ⟨(some 7), none, .q (.mv (.t 12))⟩])
       (.seq (.reg [⟨(some 13), none, .q (.mv (.t 7))⟩,
          ⟨(some 14), none, .q (.mv (.t 6))⟩,
          ⟨(some 15), none, .q (.ixa 8 1 (.t 3) (.t 14))⟩,
          ⟨(some 16), none, .q (.ld false 1 (.t 15))⟩,
          ⟨(some 17), none, .q (.bin .neq (.t 13) (.t 16))⟩])
       (.cond (.t 17)
        (.reg [⟨(some 18), none, .q (.mv (.t 5))⟩,
          ⟨(some 19), none, .q (.bin .add (.t 18) (.c (.int .i64 1)))⟩,
          ⟨(some 5), none, .q (.mv (.t 19))⟩])
        .skip))))
     (.reg [⟨(some 20), none, .q (.bin .add (.t 9) (.c (.int .i64 1)))⟩,
       ⟨(some 9), none, .q (.mv (.t 20))⟩])))))))
  (.seq (.reg [⟨(some 21), none, .q (.mv (.t 5))⟩,
     ⟨(some 4), none, .q (.mv (.t 21))⟩])
  .ret))))⟩
theorem l_impl_far : lowF PA f_impl_far 2 [.k [3, 5, 8, 9]] = some c_impl_far := by kernel_rfl
abbrev f_impl_allDigits : FuncId := 68
def c_impl_allDigits : AF := ⟨1, 19, [.t 2],
  (.seq (.reg [⟨(some 1), none, .m (.box (.t 0))⟩,
     ⟨(some 2), none, .q (.mv (.c (.slice none 0 0)))⟩])
  (.seq (.reg [⟨(some 5), none, .m (.bsl 8 [])⟩,
     ⟨(some 3), none, .q (.mv (.t 5))⟩])
  (.seq (.seq (.reg [⟨(some 6), none, .q (.ld true 1 (.t 1))⟩,
      ⟨(some 7), none, .c (.call 41 [(.t 6)])⟩,
      ⟨(some 8), none, .q (.mv (.c (.int .i64 0)))⟩])
   (.block 0 (.loop [1, 3, 7, 8] (.seq (.reg [⟨(some 9), none, .q (.bin .lss (.t 8) (.t 7))⟩])
     (.seq (.cond (.t 9)
       .skip
       (.exit 0))
     (.seq (.block 1 (.seq (.reg [⟨(some 10), none, .q (.mv (.t 8))⟩,
          ⟨(some 4), none, .q (.mv (.t 10))⟩])
       (.reg [⟨(some 11), none, .q (.mv (.t 3))⟩,
         ⟨(some 12), none, .q (.ld true 1 (.t 1))⟩,
         ⟨(some 13), none, .q (.mv (.t 4))⟩,
         ⟨(some 14), none, .c (.call 60 [(.t 12), (.t 13)])⟩,
         ⟨(some 15), none, .m (.bsl 8 [(.t 14)])⟩,
         ⟨(some 16), none, .m (.app 8 8 (.t 11) (.t 15))⟩,
         ⟨(some 3), none, .q (.mv (.t 16))⟩])))
     (.reg [⟨(some 17), none, .q (.bin .add (.t 8) (.c (.int .i64 1)))⟩,
       ⟨(some 8), none, .q (.mv (.t 17))⟩])))))))
  (.seq (.reg [⟨(some 18), none, .q (.mv (.t 3))⟩,
     ⟨(some 2), none, .q (.mv (.t 18))⟩])
  .ret))))⟩
theorem l_impl_allDigits : lowF PA f_impl_allDigits 1 [.k [1, 3, 7, 8]] = some c_impl_allDigits := by kernel_rfl
end Go.Proofs.Ytaigdomjaglifaa.Va
