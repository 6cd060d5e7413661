/- The code of the functions that FnExactFirstPerfect reaches, laid out for a walk: each is what the lowering makes of the program's own text. Condition: none. -/
import Derived.Shelf.SortM.Plain
import Derived.Test.YtaigdomjaglifaaVa2
import Derived.Test.YtaigdomjaglifaaProg
import Derived.KernelRfl
set_option linter.all false
set_option linter.unusedSimpArgs false
set_option linter.unusedVariables false
namespace Go.Proofs.Ytaigdomjaglifaa.Va
open Go
noncomputable abbrev PA : Program := Go.Proofs.Try.prog
abbrev f_laws_FnExactFirstPerfect : FuncId := 4
def c_laws_FnExactFirstPerfect : AF := ⟨2, 101, [.t 4],
  (.seq (.reg [⟨(some 2), none, .m (.box (.t 0))⟩,
     ⟨(some 4), none, .q (.mv (.c (.bool false)))⟩])
  (.seq (.reg [⟨(some 5), none, .q (.mv (.c (.int .i64 1048576)))⟩])
  (.seq (.reg [⟨(some 16), none, .q (.ld true 1 (.t 2))⟩,
     ⟨(some 17), none, .q (.mv (.t 5))⟩,
     ⟨(some 18), none, .c (.call 7 [(.t 16), (.t 17)])⟩,
     ⟨(some 5), none, .q (.mv (.t 18))⟩])
  (.seq (.seq (.reg [⟨(some 19), none, .q (.mv (.t 5))⟩,
      ⟨(some 20), none, .q (.bin .lss (.t 19) (.c (.int .i64 0)))⟩])
   (.cond (.t 20)
    (.seq (.reg [⟨(some 4), none, .q (.mv (.c (.bool true)))⟩])
    .ret)
    .skip))
  (.seq (.reg [⟨(some 22), none, .q (.ld true 1 (.t 2))⟩,
     ⟨(some 23), none, .c (.call 9 [(.t 22)])⟩,
     ⟨(some 24), none, .q (.mv (.t 1))⟩,
     ⟨(some 25), none, .c (.call 12 [(.t 23), (.t 24)])⟩,
     ⟨(some 21), none, .q (.mv (.t 25))⟩,
     ⟨(some 26), none, .q (.ext (.t 21) 0)⟩,
     ⟨(some 27), none, .q (.ext (.t 21) 1)⟩,
     ⟨(some 6), none, .q (.mv (.t 26))⟩,
     ⟨(some 7), none, .q (.mv (.t 27))⟩])
  (.seq (.reg [⟨(some 28), none, .q (.ld true 1 (.t 2))⟩,
     ⟨(some 29), none, .c (.call 9 [(.t 28)])⟩,
     ⟨(some 8), none, .m (.alloc [(.v (.slice none 0 0))])⟩,
     ⟨none, none, .m (.st true 1 (.t 8) (.t 29))⟩])
  (.seq (.reg [⟨(some 31), none, .q (.ld true 1 (.t 8))⟩,
     ⟨(some 32), none, .q (.mv (.t 1))⟩,
     ⟨(some 33), none, .c (.call 13 [(.t 31), (.t 32)])⟩,
     ⟨(some 30), none, .q (.mv (.t 33))⟩,
     ⟨(some 34), none, .q (.ext (.t 30) 0)⟩,
     ⟨(some 35), none, .q (.ext (.t 30) 1)⟩,
     ⟨(some 9), none, .q (.mv (.t 34))⟩,
     ⟨(some 10), none, .q (.mv (.t 35))⟩])
  (.seq (.seq (.reg [⟨(some 36), none, .q (.mv (.t 9))⟩,
      ⟨(some 37), none, .q (.mv (.t 6))⟩,
      ⟨(some 38), none, .c (.call 14 [(.t 36), (.t 37)])⟩,
      ⟨(some 39), none, .q (.un .not (.t 38))⟩,
      ⟨(some 40), none, .q (.mv (.t 39))⟩,
      ⟨(some 41), (some (40, false)), .q (.mv (.t 10))⟩,
      ⟨(some 42), (some (40, false)), .q (.mv (.t 7))⟩,
      ⟨(some 43), (some (40, false)), .q (.bin .neq (.t 41) (.t 42))⟩,
      ⟨(some 44), none, .q (.pick (.t 40) (.c (.bool true)) (.t 43))⟩])
   (.cond (.t 44)
    (.seq (.reg [⟨(some 4), none, .q (.mv (.c (.bool false)))⟩])
    .ret)
    .skip))
  (.seq (.seq (.sch (.take 0 ⟨(some 45), none, .q (.ld true 1 (.t 8))⟩ (.take 1 ⟨(some 46), none, .q (.ld true 1 (.t 2))⟩ (.one ⟨(some 47), none, .c (.call 9 [(.t 46)])⟩ [1] (.one ⟨(some 48), none, .c (.call 11 [(.t 45), (.t 47)])⟩ [0] (.take 4 ⟨(some 49), none, .q (.un .not (.t 48))⟩ .done))))))
   (.cond (.t 49)
    (.seq (.reg [⟨(some 4), none, .q (.mv (.c (.bool false)))⟩])
    .ret)
    .skip))
  (.seq (.reg [⟨(some 11), none, .q (.mv (.c (.int .i64 1)))⟩])
  (.seq (.reg [⟨(some 50), none, .q (.ld true 1 (.t 8))⟩,
     ⟨(some 51), none, .q (.mv (.t 11))⟩,
     ⟨(some 52), none, .c (.call 15 [(.t 50), (.t 51)])⟩,
     ⟨(some 11), none, .q (.mv (.t 52))⟩])
  (.seq (.seq (.reg [⟨(some 53), none, .q (.mv (.t 11))⟩,
      ⟨(some 54), none, .q (.bin .lss (.t 53) (.c (.int .i64 0)))⟩,
      ⟨(some 55), none, .q (.mv (.t 54))⟩,
      ⟨(some 56), (some (55, false)), .q (.mv (.t 9))⟩,
      ⟨(some 57), (some (55, false)), .q (.mv (.t 6))⟩,
      ⟨(some 58), (some (55, false)), .c (.call 14 [(.t 56), (.t 57)])⟩,
      ⟨(some 59), (some (55, false)), .q (.un .not (.t 58))⟩,
      ⟨(some 60), none, .q (.pick (.t 55) (.c (.bool true)) (.t 59))⟩,
      ⟨(some 61), none, .q (.mv (.t 60))⟩,
      ⟨(some 62), (some (61, false)), .q (.mv (.t 10))⟩,
      ⟨(some 63), (some (61, false)), .q (.mv (.t 7))⟩,
      ⟨(some 64), (some (61, false)), .q (.bin .neq (.t 62) (.t 63))⟩,
      ⟨(some 65), none, .q (.pick (.t 61) (.c (.bool true)) (.t 64))⟩])
   (.cond (.t 65)
    (.seq (.reg [⟨(some 4), none, .q (.mv (.c (.bool false)))⟩])
    .ret)
    .skip))
  (.seq (.reg [⟨(some 12), none, .q (.mv (.c (.int .i64 1)))⟩])
  (.seq (.reg [⟨(some 66), none, .q (.mv (.t 9))⟩,
     ⟨(some 67), none, .q (.mv (.t 12))⟩,
     ⟨(some 68), none, .c (.call 16 [(.t 66), (.t 67)])⟩,
     ⟨(some 12), none, .q (.mv (.t 68))⟩])
  (.seq (.reg [⟨(some 13), none, .q (.mv (.c (.int .i64 1)))⟩])
  (.seq (.reg [⟨(some 69), none, .q (.mv (.t 9))⟩,
     ⟨(some 70), none, .q (.mv (.t 13))⟩,
     ⟨(some 71), none, .c (.call 17 [(.t 69), (.t 70)])⟩,
     ⟨(some 13), none, .q (.mv (.t 71))⟩])
  (.seq (.seq (.reg [⟨(some 72), none, .q (.mv (.t 13))⟩,
      ⟨(some 73), none, .q (.bin .lss (.t 72) (.c (.int .i64 0)))⟩])
   (.cond (.t 73)
    (.seq (.reg [⟨(some 4), none, .q (.mv (.c (.bool false)))⟩])
    .ret)
    .skip))
  (.seq (.seq (.reg [⟨(some 74), none, .q (.mv (.t 13))⟩,
      ⟨(some 75), none, .q (.mv (.t 12))⟩,
      ⟨(some 76), none, .q (.bin .neq (.t 74) (.t 75))⟩])
   (.cond (.t 76)
    (.seq (.reg [⟨(some 4), none, .q (.mv (.c (.bool false)))⟩])
    .ret)
    .skip))
  (.seq (.reg [⟨(some 78), none, .q (.ld true 1 (.t 2))⟩,
     ⟨(some 79), none, .c (.call 9 [(.t 78)])⟩,
     ⟨(some 80), none, .q (.mv (.t 1))⟩,
     ⟨(some 81), none, .c (.call 13 [(.t 79), (.t 80)])⟩,
     ⟨(some 77), none, .q (.mv (.t 81))⟩,
     ⟨(some 82), none, .q (.ext (.t 77) 0)⟩,
     ⟨(some 83), none, .q (.ext (.t 77) 1)⟩,
     ⟨(some 14), none, .q (.mv (.t 82))⟩,
     ⟨(some 15), none, .q (.mv (.t 83))⟩])
  (.seq (.seq (.reg [⟨(some 84), none, .q (.mv (.t 14))⟩,
      ⟨(some 85), none, .q (.mv (.t 6))⟩,
      ⟨(some 86), none, .c (.call 14 [(.t 84), (.t 85)])⟩,
      ⟨(some 87), none, .q (.un .not (.t 86))⟩,
      ⟨(some 88), none, .q (.mv (.t 87))⟩,
      ⟨(some 89), (some (88, false)), .q (.mv (.t 15))⟩,
      ⟨(some 90), (some (88, false)), .q (.mv (.t 7))⟩,
      ⟨(some 91), (some (88, false)), .q (.bin .neq (.t 89) (.t 90))⟩,
      ⟨(some 92), none, .q (.pick (.t 88) (.c (.bool true)) (.t 91))⟩])
   (.cond (.t 92)
    (.seq (.reg [⟨(some 4), none, .q (.mv (.c (.bool false)))⟩])
    .ret)
    .skip))
  (.seq (.reg [⟨(some 13), none, .q (.mv (.c (.int .i64 1)))⟩])
  (.seq (.reg [⟨(some 93), none, .q (.mv (.t 9))⟩,
     ⟨(some 94), none, .q (.mv (.t 13))⟩,
     ⟨(some 95), none, .c (.call 17 [(.t 93), (.t 94)])⟩,
     ⟨(some 13), none, .q (.mv (.t 95))⟩])
  (.seq (.seq (.reg [⟨(some 96), none, .q (.mv (.t 13))⟩,
      ⟨(some 97), none, .q (.bin .lss (.t 96) (.c (.int .i64 0)))⟩])
   (.cond (.t 97)
    (.seq (.reg [⟨(some 4), none, .q (.mv (.c (.bool false)))⟩])
    .ret)
    .skip))
  (.seq (.seq (.reg [⟨(some 98), none, .q (.mv (.t 13))⟩,
      ⟨(some 99), none, .q (.mv (.t 12))⟩,
      ⟨(some 100), none, .q (.bin .neq (.t 98) (.t 99))⟩])
   (.cond (.t 100)
    (.seq (.reg [⟨(some 4), none, .q (.mv (.c (.bool false)))⟩])
    .ret)
    .skip))
  (.seq (.reg [⟨(some 4), none, .q (.mv (.c (.bool true)))⟩])
  .ret)))))))))))))))))))))))))⟩
theorem l_laws_FnExactFirstPerfect : lowF PA f_laws_FnExactFirstPerfect 2 [.s (.take 0 (.take 1 (.one 2 (.one 3 (.take 4 .done)))))] = some c_laws_FnExactFirstPerfect := by kernel_rfl
abbrev f_laws_szSpace : FuncId := 7
def c_laws_szSpace : AF := ⟨2, 12, [.t 4],
  (.seq (.reg [⟨(some 2), none, .m (.box (.t 0))⟩,
     ⟨(some 4), none, .q (.mv (.c (.int .i64 0)))⟩])
  (.seq (.reg [⟨(some 5), none, .q (.fad 0 (.t 2))⟩,
     ⟨(some 6), none, .q (.ld false 1 (.t 5))⟩,
     ⟨(some 7), none, .q (.mv (.t 1))⟩,
     ⟨(some 8), none, .c (.call 22 [(.t 6), (.t 7)])⟩,
     ⟨(some 1), none, .q (.mv (.t 8))⟩])
  (.seq (.seq (.reg [⟨(some 9), none, .q (.mv (.t 1))⟩,
      ⟨(some 10), none, .q (.bin .lss (.t 9) (.c (.int .i64 0)))⟩])
   (.cond (.t 10)
    (.seq (.reg [⟨(some 4), none, .q (.mv (.c (.int .i64 (-1))))⟩])
    .ret)
    .skip))
  (.seq (.reg [⟨(some 11), none, .q (.mv (.t 1))⟩,
     ⟨(some 4), none, .q (.mv (.t 11))⟩])
  .ret))))⟩
theorem l_laws_szSpace : lowF PA f_laws_szSpace 2 [] = some c_laws_szSpace := by kernel_rfl
abbrev f_laws_toSpace : FuncId := 9
def c_laws_toSpace : AF := ⟨1, 9, [.c 2 true 1],
  (.seq (.reg [⟨(some 1), none, .m (.box (.t 0))⟩,
     ⟨(some 2), none, .m (.alloc [(.v (.slice none 0 0))])⟩])
  (.seq (.reg [⟨(some 3), none, .m (.alloc [(.v (.slice none 0 0))])⟩])
  (.seq (.reg [⟨(some 4), none, .q (.fad 0 (.t 1))⟩,
     ⟨(some 5), none, .q (.ld false 1 (.t 4))⟩,
     ⟨(some 6), none, .c (.call 25 [(.t 5)])⟩,
     ⟨(some 7), none, .q (.fad 0 (.t 3))⟩,
     ⟨none, none, .m (.st false 1 (.t 7) (.t 6))⟩])
  (.seq (.reg [⟨(some 8), none, .q (.ld true 1 (.t 3))⟩,
     ⟨none, none, .m (.st true 1 (.t 2) (.t 8))⟩])
  .ret))))⟩
theorem l_laws_toSpace : lowF PA f_laws_toSpace 1 [] = some c_laws_toSpace := by kernel_rfl
abbrev f_laws_eqSpace : FuncId := 11
def c_laws_eqSpace : AF := ⟨2, 11, [.t 4],
  (.seq (.reg [⟨(some 2), none, .m (.box (.t 0))⟩,
     ⟨(some 3), none, .m (.box (.t 1))⟩,
     ⟨(some 4), none, .q (.mv (.c (.bool false)))⟩])
  (.seq (.seq (.reg [⟨(some 5), none, .q (.fad 0 (.t 2))⟩,
      ⟨(some 6), none, .q (.ld false 1 (.t 5))⟩,
      ⟨(some 7), none, .q (.fad 0 (.t 3))⟩,
      ⟨(some 8), none, .q (.ld false 1 (.t 7))⟩,
      ⟨(some 9), none, .c (.call 14 [(.t 6), (.t 8)])⟩,
      ⟨(some 10), none, .q (.un .not (.t 9))⟩])
   (.cond (.t 10)
    (.seq (.reg [⟨(some 4), none, .q (.mv (.c (.bool false)))⟩])
    .ret)
    .skip))
  (.seq (.reg [⟨(some 4), none, .q (.mv (.c (.bool true)))⟩])
  .ret)))⟩
theorem l_laws_eqSpace : lowF PA f_laws_eqSpace 2 [] = some c_laws_eqSpace := by kernel_rfl
abbrev f_spec_FirstPerfect : FuncId := 12
def c_spec_FirstPerfect : AF := ⟨2, 24, [.t 4, .t 5],
  (.seq (.reg [⟨(some 2), none, .m (.box (.t 0))⟩,
     ⟨(some 4), none, .q (.mv (.c (.slice none 0 0)))⟩,
     ⟨(some 5), none, .q (.mv (.c (.int .i64 0)))⟩])
  (.seq (.seq (.reg [⟨(some 9), none, .q (.ld true 1 (.t 2))⟩,
      ⟨(some 10), none, .q (.mv (.t 1))⟩,
      ⟨(some 11), none, .c (.call 23 [(.t 9), (.t 10)])⟩,
      ⟨(some 6), none, .q (.mv (.t 11))⟩])
   (.seq (.reg [⟨(some 12), none, .q (.mv (.t 6))⟩,
      ⟨(some 13), none, .q (.bin .neq (.t 12) (.c (.int .i64 0)))⟩])
   (.cond (.t 13)
    (.seq (.reg [⟨(some 14), none, .q (.mv (.t 6))⟩,
       ⟨(some 4), none, .q (.mv (.c (.slice none 0 0)))⟩,
       ⟨(some 5), none, .q (.mv (.t 14))⟩])
    .ret)
    .skip)))
  (.seq (.reg [⟨(some 16), none, .q (.ld true 1 (.t 2))⟩,
     ⟨(some 17), none, .q (.mv (.t 1))⟩,
     ⟨(some 18), none, .c (.call 24 [(.t 16), (.t 17)])⟩,
     ⟨(some 15), none, .q (.mv (.t 18))⟩,
     ⟨(some 19), none, .q (.ext (.t 15) 0)⟩,
     ⟨(some 20), none, .q (.ext (.t 15) 1)⟩,
     ⟨(some 7), none, .q (.mv (.t 19))⟩,
     ⟨(some 8), none, .q (.mv (.t 20))⟩])
  (.seq (.seq (.reg [⟨(some 21), none, .q (.mv (.t 7))⟩,
      ⟨(some 22), none, .q (.bin .eql (.t 21) (.c (.int .i64 0)))⟩])
   (.cond (.t 22)
    (.seq (.reg [⟨(some 4), none, .q (.mv (.c (.slice none 0 0)))⟩,
       ⟨(some 5), none, .q (.mv (.c (.int .i64 4)))⟩])
    .ret)
    .skip))
  (.seq (.reg [⟨(some 23), none, .q (.mv (.t 8))⟩,
     ⟨(some 4), none, .q (.mv (.t 23))⟩,
     ⟨(some 5), none, .q (.mv (.c (.int .i64 0)))⟩])
  .ret)))))⟩
theorem l_spec_FirstPerfect : lowF PA f_spec_FirstPerfect 2 [] = some c_spec_FirstPerfect := by kernel_rfl
abbrev f_impl_FirstPerfect : FuncId := 13
def c_impl_FirstPerfect : AF := ⟨2, 21, [.t 4, .t 5],
  (.seq (.reg [⟨(some 2), none, .m (.box (.t 0))⟩,
     ⟨(some 4), none, .q (.mv (.c (.slice none 0 0)))⟩,
     ⟨(some 5), none, .q (.mv (.c (.int .i64 0)))⟩])
  (.seq (.seq (.reg [⟨(some 8), none, .q (.ld true 1 (.t 2))⟩,
      ⟨(some 9), none, .q (.mv (.t 1))⟩,
      ⟨(some 10), none, .c (.call 26 [(.t 8), (.t 9)])⟩,
      ⟨(some 6), none, .q (.mv (.t 10))⟩])
   (.seq (.reg [⟨(some 11), none, .q (.mv (.t 6))⟩,
      ⟨(some 12), none, .q (.bin .neq (.t 11) (.c (.int .i64 0)))⟩])
   (.cond (.t 12)
    (.seq (.reg [⟨(some 13), none, .q (.mv (.t 6))⟩,
       ⟨(some 4), none, .q (.mv (.c (.slice none 0 0)))⟩,
       ⟨(some 5), none, .q (.mv (.t 13))⟩])
    .ret)
    .skip)))
  (.seq (.reg [⟨(some 7), none, .m (.alloc [(.v (.slice none 0 0))])⟩])
  (.seq (.reg [⟨(some 14), none, .q (.ld true 1 (.t 2))⟩,
     ⟨(some 15), none, .q (.mv (.t 1))⟩,
     ⟨(some 16), none, .q (.mkf 29 [(.t 7)])⟩,
     ⟨(some 17), none, .c (.call 27 [(.t 14), (.t 15), (.t 16)])⟩])
  (.seq (.seq (.reg [⟨(some 18), none, .q (.ld false 1 (.t 7))⟩,
      ⟨(some 19), none, .q (.isn false (.t 18))⟩])
   (.cond (.t 19)
    (.seq (.reg [⟨(some 4), none, .q (.mv (.c (.slice none 0 0)))⟩,
       ⟨(some 5), none, .q (.mv (.c (.int .i64 4)))⟩])
    .ret)
    .skip))
  (.seq (.reg [⟨(some 20), none, .q (.ld false 1 (.t 7))⟩,
     ⟨(some 4), none, .q (.mv (.t 20))⟩,
     ⟨(some 5), none, .q (.mv (.c (.int .i64 0)))⟩])
  .ret))))))⟩
theorem l_impl_FirstPerfect : lowF PA f_impl_FirstPerfect 2 [] = some c_impl_FirstPerfect := by kernel_rfl
abbrev f_laws_eqInt64S : FuncId := 14
def c_laws_eqInt64S : AF := ⟨2, 26, [.t 4],
  (.seq (.reg [⟨(some 4), none, .q (.mv (.c (.bool false)))⟩])
  (.seq (.seq (.reg [⟨(some 6), none, .q (.mv (.t 0))⟩,
      ⟨(some 7), none, .q (.len (.t 6))⟩,
      ⟨(some 8), none, .q (.mv (.t 1))⟩,
      ⟨(some 9), none, .q (.len (.t 8))⟩,
      ⟨(some 10), none, .q (.bin .neq (.t 7) (.t 9))⟩])
   (.cond (.t 10)
    (.seq (.reg [⟨(some 4), none, .q (.mv (.c (.bool false)))⟩])
    .ret)
    .skip))
  (.seq (.seq (.reg [⟨(some 5), none, .q (.mv (.c (.int .i64 0)))⟩])
   (.block 0 (.loop [0, 1, 5] (.seq (.seq (.reg [⟨(some 11), none, .q (.mv (.t 5))⟩,
         ⟨(some 12), none, .q (.mv (.t 0))⟩,
         ⟨(some 13), none, .q (.len (.t 12))⟩,
         ⟨(some 14), none, .q (.bin .lss (.t 11) (.t 13))⟩])
      (.cond (.t 14)
       .skip
       (.exit 0)))
     (.seq (.block 1 (.seq (.sch (.take 0 ⟨(some 17), none, .q (.mv (.t 0))⟩ (.take 1 ⟨(some 18), none, .q (.mv (.t 5))⟩ (.take 2 ⟨(some 19), none, .q (.ixs 1 (.t 17) (.t 18))⟩ (.take 3 ⟨(some 20), none, .q (.ld false 1 (.t 19))⟩ (.take 4 ⟨(some 21), none, .q (.mv (.t 1))⟩ (.take 5 ⟨(some 22), none, .q (.mv (.t 5))⟩ (.take 6 ⟨(some 23), none, .q (.ixs 1 (.t 21) (.t 22))⟩ (.take 7 ⟨(some 24), none, .q (.ld false 1 (.t 23))⟩ (.take 8 ⟨(some 25), none, .q (.bin .neq (.t 20) (.t 24))⟩ .done))))))))))
       (.cond (.t 25)
        (.seq (.reg [⟨(some 4), none, .q (.mv (.c (.bool false)))⟩])
        .ret)
        .skip)))
     (.reg [⟨(some 15), none, .q (.mv (.t 5))⟩,
       ⟨(some 16), none, .q (.bin .add (.t 15) (.c (.int .i64 1)))⟩,
       ⟨(some 5), none, .q (.mv (.t 16))⟩]))))))
  (.seq (.reg [⟨(some 4), none, .q (.mv (.c (.bool true)))⟩])
  .ret))))⟩
theorem l_laws_eqInt64S : lowF PA f_laws_eqInt64S 2 [.k [0, 1, 5], .s (.take 0 (.take 1 (.take 2 (.take 3 (.take 4 (.take 5 (.take 6 (.take 7 (.take 8 .done)))))))))] = some c_laws_eqInt64S := by kernel_rfl
abbrev f_laws_markSpace : FuncId := 15
def c_laws_markSpace : AF := ⟨2, 10, [.t 4],
  (.seq (.reg [⟨(some 2), none, .m (.box (.t 0))⟩,
     ⟨(some 4), none, .q (.mv (.c (.int .i64 0)))⟩])
  (.seq (.reg [⟨(some 5), none, .q (.fad 0 (.t 2))⟩,
     ⟨(some 6), none, .q (.ld false 1 (.t 5))⟩,
     ⟨(some 7), none, .q (.mv (.t 1))⟩,
     ⟨(some 8), none, .c (.call 16 [(.t 6), (.t 7)])⟩,
     ⟨(some 1), none, .q (.mv (.t 8))⟩])
  (.seq (.reg [⟨(some 9), none, .q (.mv (.t 1))⟩,
     ⟨(some 4), none, .q (.mv (.t 9))⟩])
  .ret)))⟩
theorem l_laws_markSpace : lowF PA f_laws_markSpace 2 [] = some c_laws_markSpace := by kernel_rfl
abbrev f_laws_markInt64S : FuncId := 16
def c_laws_markInt64S : AF := ⟨2, 19, [.t 4],
  (.seq (.reg [⟨(some 4), none, .q (.mv (.c (.int .i64 0)))⟩])
  (.seq (.seq (.reg [⟨(some 5), none, .q (.mv (.c (.int .i64 0)))⟩])
   (.block 0 (.loop [0, 1, 5, 19] (.seq (.seq (.reg [⟨(some 6), none, .q (.mv (.t 5))⟩,
         ⟨(some 7), none, .q (.mv (.t 0))⟩,
         ⟨(some 8), none, .q (.len (.t 7))⟩,
         ⟨(some 9), none, .q (.bin .lss (.t 6) (.t 8))⟩])
      (.cond (.t 9)
       .skip
       (.exit 0)))
     (.seq (.block 1 (.seq (.reg [⟨(some 12), none, .q (.mv (.t 0))⟩,
          ⟨(some 13), none, .q (.mv (.t 5))⟩,
          ⟨(some 14), none, .q (.mv (.t 1))⟩,
          ⟨(some 15), none, .q (.ixs 1 (.t 12) (.t 13))⟩,
          ⟨none, none, .m (.st false 1 (.t 15) (.t 14))⟩])
       (.reg [⟨(some 16), none, .q (.mv (.t 1))⟩,
         ⟨(some 17), none, .q (.bin .add (.t 16) (.c (.int .i64 1)))⟩,
         ⟨(some 1), none, .q (.mv (.t 17))⟩])))
     (.reg [⟨(some 10), none, .q (.mv (.t 5))⟩,
       ⟨(some 11), none, .q (.bin .add (.t 10) (.c (.int .i64 1)))⟩,
       ⟨(some 5), none, .q (.mv (.t 11))⟩]))))))
  (.seq (.reg [⟨(some 18), none, .q (.mv (.t 1))⟩,
     ⟨(some 4), none, .q (.mv (.t 18))⟩])
  .ret)))⟩
theorem l_laws_markInt64S : lowF PA f_laws_markInt64S 2 [.k [0, 1, 5, 19]] = some c_laws_markInt64S := by kernel_rfl
abbrev f_laws_heldInt64S : FuncId := 17
def c_laws_heldInt64S : AF := ⟨2, 21, [.t 4],
  (.seq (.reg [⟨(some 4), none, .q (.mv (.c (.int .i64 0)))⟩])
  (.seq (.seq (.reg [⟨(some 5), none, .q (.mv (.c (.int .i64 0)))⟩])
   (.block 0 (.loop [0, 1, 5] (.seq (.seq (.reg [⟨(some 6), none, .q (.mv (.t 5))⟩,
         ⟨(some 7), none, .q (.mv (.t 0))⟩,
         ⟨(some 8), none, .q (.len (.t 7))⟩,
         ⟨(some 9), none, .q (.bin .lss (.t 6) (.t 8))⟩])
      (.cond (.t 9)
       .skip
       (.exit 0)))
     (.seq (.block 1 (.seq (.seq (.reg [⟨(some 12), none, .q (.mv (.t 0))⟩,
           ⟨(some 13), none, .q (.mv (.t 5))⟩,
           ⟨(some 14), none, .q (.ixs 1 (.t 12) (.t 13))⟩,
           ⟨(some 15), none, .q (.ld false 1 (.t 14))⟩,
           ⟨(some 16), none, .q (.mv (.t 1))⟩,
           ⟨(some 17), none, .q (.bin .neq (.t 15) (.t 16))⟩])
        (.cond (.t 17)
         (.seq (.reg [⟨(some 4), none, .q (.mv (.c (.int .i64 (-1))))⟩])
         .ret)
         .skip))
       (.reg [⟨(some 18), none, .q (.mv (.t 1))⟩,
         ⟨(some 19), none, .q (.bin .add (.t 18) (.c (.int .i64 1)))⟩,
         ⟨(some 1), none, .q (.mv (.t 19))⟩])))
     (.reg [⟨(some 10), none, .q (.mv (.t 5))⟩,
       ⟨(some 11), none, .q (.bin .add (.t 10) (.c (.int .i64 1)))⟩,
       ⟨(some 5), none, .q (.mv (.t 11))⟩]))))))
  (.seq (.reg [⟨(some 20), none, .q (.mv (.t 1))⟩,
     ⟨(some 4), none, .q (.mv (.t 20))⟩])
  .ret)))⟩
theorem l_laws_heldInt64S : lowF PA f_laws_heldInt64S 2 [.k [0, 1, 5]] = some c_laws_heldInt64S := by kernel_rfl
abbrev f_laws_szInt64S : FuncId := 22
def c_laws_szInt64S : AF := ⟨2, 12, [.t 4],
  (.seq (.reg [⟨(some 4), none, .q (.mv (.c (.int .i64 0)))⟩])
  (.seq (.reg [⟨(some 5), none, .q (.mv (.t 1))⟩,
     ⟨(some 6), none, .q (.mv (.t 0))⟩,
     ⟨(some 7), none, .q (.len (.t 6))⟩,
     ⟨(some 8), none, .q (.bin .sub (.t 5) (.t 7))⟩,
     ⟨(some 1), none, .q (.mv (.t 8))⟩])
  (.seq (.seq (.reg [⟨(some 9), none, .q (.mv (.t 1))⟩,
      ⟨(some 10), none, .q (.bin .lss (.t 9) (.c (.int .i64 0)))⟩])
   (.cond (.t 10)
    (.seq (.reg [⟨(some 4), none, .q (.mv (.c (.int .i64 (-1))))⟩])
    .ret)
    .skip))
  (.seq (.reg [⟨(some 11), none, .q (.mv (.t 1))⟩,
     ⟨(some 4), none, .q (.mv (.t 11))⟩])
  .ret))))⟩
theorem l_laws_szInt64S : lowF PA f_laws_szInt64S 2 [] = some c_laws_szInt64S := by kernel_rfl
abbrev f_spec_l06Few : FuncId := 23
def c_spec_l06Few : AF := ⟨2, 17, [.t 4],
  (.seq (.reg [⟨(some 2), none, .m (.box (.t 0))⟩,
     ⟨(some 4), none, .q (.mv (.c (.int .i64 0)))⟩])
  (.seq (.reg [⟨(some 6), none, .q (.ld true 1 (.t 2))⟩,
     ⟨(some 7), none, .q (.mv (.t 1))⟩,
     ⟨(some 8), none, .c (.call 35 [(.t 6), (.t 7), (.c (.int .i64 1)), (.c (.int .i64 8))])⟩,
     ⟨(some 5), none, .q (.mv (.t 8))⟩])
  (.seq (.seq (.reg [⟨(some 9), none, .q (.mv (.t 5))⟩,
      ⟨(some 10), none, .q (.bin .eql (.t 9) (.c (.int .i64 0)))⟩,
      ⟨(some 11), none, .q (.mv (.t 10))⟩,
      ⟨(some 12), (some (11, true)), .q (.ld true 1 (.t 2))⟩,
      ⟨(some 13), (some (11, true)), .c (.call 36 [(.t 12)])⟩,
      ⟨(some 14), (some (11, true)), .q (.bin .gtr (.t 13) (.c (.int .i64 64)))⟩,
      ⟨(some 15), none, .q (.pick (.t 11) (.t 14) (.c (.bool false)))⟩])
   (.cond (.t 15)
    (.reg [⟨(some 5), none, .q (.mv (.c (.int .i64 3)))⟩])
    .skip))
  (.seq (.reg [⟨(some 16), none, .q (.mv (.t 5))⟩,
     ⟨(some 4), none, .q (.mv (.t 16))⟩])
  .ret))))⟩
theorem l_spec_l06Few : lowF PA f_spec_l06Few 2 [] = some c_spec_l06Few := by kernel_rfl
abbrev f_spec_l06All : FuncId := 24
def c_spec_l06All : AF := ⟨2, 39, [.t 4, .t 5],
  (.seq (.reg [⟨(some 2), none, .m (.box (.t 0))⟩,
     ⟨(some 4), none, .q (.mv (.c (.int .i64 0)))⟩,
     ⟨(some 5), none, .q (.mv (.c (.slice none 0 0)))⟩])
  (.seq (.reg [⟨(some 9), none, .q (.ld true 1 (.t 2))⟩,
     ⟨(some 10), none, .c (.call 36 [(.t 9)])⟩,
     ⟨(some 11), none, .m (.bsl 1 [])⟩,
     ⟨(some 6), none, .q (.mv (.t 10))⟩,
     ⟨(some 7), none, .q (.mv (.t 11))⟩])
  (.seq (.seq (.reg [⟨(some 12), none, .q (.mv (.t 6))⟩,
      ⟨(some 13), none, .q (.ld true 1 (.t 2))⟩,
      ⟨(some 14), none, .q (.mv (.t 1))⟩,
      ⟨(some 15), none, .c (.call 37 [(.t 13), (.t 14)])⟩,
      ⟨(some 16), none, .q (.bin .rem (.t 12) (.t 15))⟩,
      ⟨(some 17), none, .q (.bin .neq (.t 16) (.c (.int .i64 0)))⟩])
   (.cond (.t 17)
    (.seq (.reg [⟨(some 18), none, .m (.bsl 1 [])⟩,
       ⟨(some 4), none, .q (.mv (.c (.int .i64 0)))⟩,
       ⟨(some 5), none, .q (.mv (.t 18))⟩])
    .ret)
    .skip))
  (.seq (.seq (.reg [⟨(some 8), none, .q (.mv (.c (.int .i64 0)))⟩])
   (.block 0 (.loop [1, 2, 6, 7, 8] (.seq (.seq (.reg [⟨(some 19), none, .q (.mv (.t 8))⟩,
         ⟨(some 20), none, .q (.mv (.t 6))⟩,
         ⟨(some 21), none, .q (.bin .lss (.t 19) (.t 20))⟩])
      (.cond (.t 21)
       .skip
       (.exit 0)))
     (.seq (.block 1 (.reg [⟨(some 24), none, .q (.mv (.t 7))⟩,
         ⟨(some 25), none, .q (.ld true 1 (.t 2))⟩,
         ⟨(some 26), none, .q (.mv (.t 8))⟩,
         ⟨(some 27), none, .q (.mv (.t 1))⟩,
         ⟨(some 28), none, .c (.call 38 [(.t 25), (.t 26), (.t 27)])⟩,
         ⟨(some 29), none, .m (.bsl 1 [(.t 28)])⟩,
         ⟨(some 30), none, .m (.app 1 24 (.t 24) (.t 29))⟩,
         ⟨(some 7), none, .q (.mv (.t 30))⟩]))
     (.reg [⟨(some 22), none, .q (.mv (.t 8))⟩,
       ⟨(some 23), none, .q (.bin .add (.t 22) (.c (.int .i64 1)))⟩,
       ⟨(some 8), none, .q (.mv (.t 23))⟩]))))))
  (.seq (.sch (.take 0 ⟨(some 31), none, .q (.ld true 1 (.t 2))⟩ (.take 1 ⟨(some 32), none, .q (.mv (.t 7))⟩ (.take 3 ⟨(some 34), none, .q (.mv (.t 6))⟩ (.two ⟨(some 33), none, .m (.bsl 1 [])⟩ [] (.one ⟨(some 35), none, .m (.mks 1 (.v (.bool false)) 1 (.t 34) (.t 34))⟩ [] (.one ⟨(some 36), none, .c (.call 39 [(.t 31), (.t 32), (.t 33), (.t 35)])⟩ [0] (.take 6 ⟨(some 37), none, .q (.ext (.t 36) 0)⟩ (.take 7 ⟨(some 38), none, .q (.ext (.t 36) 1)⟩ (.take 8 ⟨(some 4), none, .q (.mv (.t 37))⟩ (.take 9 ⟨(some 5), none, .q (.mv (.t 38))⟩ .done)))))) ⟨(some 35), none, .m (.mks 1 (.v (.bool false)) 1 (.t 34) (.t 34))⟩ [] (.one ⟨(some 33), none, .m (.bsl 1 [])⟩ [] (.one ⟨(some 36), none, .c (.call 39 [(.t 31), (.t 32), (.t 33), (.t 35)])⟩ [0] (.take 6 ⟨(some 37), none, .q (.ext (.t 36) 0)⟩ (.take 7 ⟨(some 38), none, .q (.ext (.t 36) 1)⟩ (.take 8 ⟨(some 4), none, .q (.mv (.t 37))⟩ (.take 9 ⟨(some 5), none, .q (.mv (.t 38))⟩ .done)))))))))))
  .ret)))))⟩
theorem l_spec_l06All : lowF PA f_spec_l06All 2 [.k [1, 2, 6, 7, 8], .s (.take 0 (.take 1 (.take 3 (.two 2 (.one 4 (.one 5 (.take 6 (.take 7 (.take 8 (.take 9 .done)))))) 4 (.one 2 (.one 5 (.take 6 (.take 7 (.take 8 (.take 9 .done))))))))))] = some c_spec_l06All := by kernel_rfl
abbrev f_laws_toInt64S : FuncId := 25
def c_laws_toInt64S : AF := ⟨1, 22, [.t 2],
  (.seq (.reg [⟨(some 2), none, .q (.mv (.c (.slice none 0 0)))⟩])
  (.seq (.reg [⟨(some 5), none, .q (.mv (.t 0))⟩,
     ⟨(some 6), none, .q (.len (.t 5))⟩,
     ⟨(some 7), none, .m (.mks 1 (.v (.int .i64 0)) 8 (.t 6) (.t 6))⟩,
     ⟨(some 3), none, .q (.mv (.t 7))⟩])
  (.seq (.seq (.reg [⟨(some 4), none, .q (.mv (.c (.int .i64 0)))⟩])
   (.block 0 (.loop [0, 3, 4] (.seq (.seq (.reg [⟨(some 8), none, .q (.mv (.t 4))⟩,
         ⟨(some 9), none, .q (.mv (.t 0))⟩,
         ⟨(some 10), none, .q (.len (.t 9))⟩,
         ⟨(some 11), none, .q (.bin .lss (.t 8) (.t 10))⟩])
      (.cond (.t 11)
       .skip
       (.exit 0)))
     (.seq (.block 1 (.reg [⟨(some 14), none, .q (.mv (.t 3))⟩,
         ⟨(some 15), none, .q (.mv (.t 4))⟩,
         ⟨(some 16), none, .q (.mv (.t 0))⟩,
         ⟨(some 17), none, .q (.mv (.t 4))⟩,
         ⟨(some 18), none, .q (.ixs 1 (.t 16) (.t 17))⟩,
         ⟨(some 19), none, .q (.ld false 1 (.t 18))⟩,
         ⟨(some 20), none, .q (.ixs 1 (.t 14) (.t 15))⟩,
         ⟨none, none, .m (.st false 1 (.t 20) (.t 19))⟩]))
     (.reg [⟨(some 12), none, .q (.mv (.t 4))⟩,
       ⟨(some 13), none, .q (.bin .add (.t 12) (.c (.int .i64 1)))⟩,
       ⟨(some 4), none, .q (.mv (.t 13))⟩]))))))
  (.seq (.reg [⟨(some 21), none, .q (.mv (.t 3))⟩,
     ⟨(some 2), none, .q (.mv (.t 21))⟩])
  .ret))))⟩
theorem l_laws_toInt64S : lowF PA f_laws_toInt64S 1 [.k [0, 3, 4]] = some c_laws_toInt64S := by kernel_rfl
abbrev f_impl_perfectCode : FuncId := 26
def c_impl_perfectCode : AF := ⟨2, 20, [.t 4],
  (.seq (.reg [⟨(some 2), none, .m (.box (.t 0))⟩,
     ⟨(some 4), none, .q (.mv (.c (.int .i64 0)))⟩])
  (.seq (.block 0 (.seq (.reg [⟨(some 6), none, .q (.ld true 1 (.t 2))⟩,
       ⟨(some 7), none, .c (.call 40 [(.t 6)])⟩,
       ⟨(some 8), none, .q (.un .not (.t 7))⟩,
       ⟨(some 5), none, .q (.mv (.t 8))⟩])
    (.cond (.t 5)
     (.seq (.reg [⟨(some 4), none, .q (.mv (.c (.int .i64 1)))⟩])
     .ret)
     (.seq (.reg [⟨(some 10), none, .q (.mv (.t 1))⟩,
        ⟨(some 11), none, .q (.bin .lss (.t 10) (.c (.int .i64 1)))⟩,
        ⟨(some 12), none, .q (.mv (.t 11))⟩,
        ⟨(some 13), (some (12, false)), .q (.mv (.t 1))⟩,
        ⟨(some 14), (some (12, false)), .q (.bin .gtr (.t 13) (.c (.int .i64 8)))⟩,
        ⟨(some 15), none, .q (.pick (.t 12) (.c (.bool true)) (.t 14))⟩,
        ⟨(some 9), none, .q (.mv (.t 15))⟩])
     (.cond (.t 9)
      (.seq (.reg [⟨(some 4), none, .q (.mv (.c (.int .i64 2)))⟩])
      .ret)
      (.seq (.reg [⟨(some 17), none, .q (.ld true 1 (.t 2))⟩,
         ⟨(some 18), none, .c (.call 41 [(.t 17)])⟩,
         ⟨(some 19), none, .q (.bin .gtr (.t 18) (.c (.int .i64 64)))⟩,
         ⟨(some 16), none, .q (.mv (.t 19))⟩])
      (.cond (.t 16)
       (.seq (.reg [⟨(some 4), none, .q (.mv (.c (.int .i64 3)))⟩])
       .ret)
       .skip)))))))
  (.seq (.reg [⟨(some 4), none, .q (.mv (.c (.int .i64 0)))⟩])
  .ret)))⟩
theorem l_impl_perfectCode : lowF PA f_impl_perfectCode 2 [] = some c_impl_perfectCode := by kernel_rfl
abbrev f_impl_perfects : FuncId := 27
def c_impl_perfects : AF := ⟨3, 40, [],
  (.seq (.reg [⟨(some 3), none, .m (.box (.t 0))⟩,
     ⟨(some 5), none, .m (.box (.t 2))⟩])
  (.seq (.reg [⟨(some 11), none, .m (.bsl 1 [])⟩,
     ⟨(some 6), none, .m (.alloc [(.v (.slice none 0 0))])⟩,
     ⟨none, none, .m (.st false 1 (.t 6) (.t 11))⟩])
  (.seq (.seq (.reg [⟨(some 12), none, .q (.ld true 1 (.t 3))⟩,
      ⟨(some 13), none, .c (.call 41 [(.t 12)])⟩,
      ⟨(some 14), none, .q (.mv (.c (.int .i64 0)))⟩])
   (.block 0 (.loop [1, 3, 5, 6, 13, 14, 43] (.seq (.reg [⟨(some 15), none, .q (.bin .lss (.t 14) (.t 13))⟩])
     (.seq (.cond (.t 15)
       .skip
       (.exit 0))
     (.seq (.block 1 (.seq (.reg [⟨(some 16), none, .q (.mv (.t 14))⟩,
          ⟨(some 7), none, .q (.mv (.t 16))⟩])
       (.sch (.take 0 ⟨(some 17), none, .q (.ld false 1 (.t 6))⟩ (.take 1 ⟨(some 18), none, .q (.ld true 1 (.t 3))⟩ (.take 2 ⟨(some 19), none, .q (.mv (.t 7))⟩ (.take 3 ⟨(some 20), none, .q (.mv (.t 1))⟩ (.one ⟨(some 21), none, .c (.call 42 [(.t 18), (.t 19), (.t 20)])⟩ [1] (.one ⟨(some 22), none, .m (.bsl 1 [(.t 21)])⟩ [] (.one ⟨(some 23), none, .m (.app 1 24 (.t 17) (.t 22))⟩ [0] (.one ⟨none, none, .m (.st false 1 (.t 6) (.t 23))⟩ [1, 0] .done)))))))))))
     (.reg [⟨(some 24), none, .q (.bin .add (.t 14) (.c (.int .i64 1)))⟩,
       ⟨(some 14), none, .q (.mv (.t 24))⟩])))))))
  (.seq (.seq (.sch (.take 0 ⟨(some 25), none, .q (.ld false 1 (.t 6))⟩ (.take 1 ⟨(some 26), none, .q (.len (.t 25))⟩ (.take 2 ⟨(some 27), none, .q (.ld false 1 (.t 6))⟩ (.take 3 ⟨(some 28), none, .q (.ixs 1 (.t 27) (.c (.int .i64 0)))⟩ (.take 4 ⟨(some 29), none, .q (.ld false 1 (.t 28))⟩ (.take 5 ⟨(some 30), none, .q (.len (.t 29))⟩ (.take 6 ⟨(some 31), none, .q (.bin .rem (.t 26) (.t 30))⟩ (.take 7 ⟨(some 32), none, .q (.bin .neq (.t 31) (.c (.int .i64 0)))⟩ .done)))))))))
   (.cond (.t 32)
    .ret
    .skip))
  (.seq (.reg [⟨(some 33), none, .q (.ld false 1 (.t 6))⟩,
     ⟨(some 34), none, .q (.len (.t 33))⟩,
     ⟨(some 35), none, .m (.mks 1 (.v (.bool false)) 1 (.t 34) (.t 34))⟩,
     ⟨(some 36), none, .m (.bsl 1 [])⟩,
     ⟨(some 8), none, .m (.alloc [(.v (.slice none 0 0))])⟩,
     ⟨(some 9), none, .m (.alloc [(.v (.slice none 0 0))])⟩,
     ⟨none, none, .m (.st false 1 (.t 8) (.t 35))⟩,
     ⟨none, none, .m (.st false 1 (.t 9) (.t 36))⟩])
  (.seq (.reg [⟨(some 10), none, .m (.alloc [(.v .nilFunc)])⟩])
  (.seq (.reg [⟨(some 37), none, .q (.mkf 43 [(.t 8), (.t 9), (.t 5), (.t 6), (.t 10)])⟩,
     ⟨none, none, .m (.st false 1 (.t 10) (.t 37))⟩])
  (.reg [⟨(some 38), none, .q (.ld false 1 (.t 10))⟩,
    ⟨(some 39), none, .c (.cav (.t 38) [])⟩]))))))))⟩
theorem l_impl_perfects : lowF PA f_impl_perfects 3 [.k [1, 3, 5, 6, 13, 14, 43], .s (.take 0 (.take 1 (.take 2 (.take 3 (.one 4 (.one 5 (.one 6 (.one 7 .done)))))))), .s (.take 0 (.take 1 (.take 2 (.take 3 (.take 4 (.take 5 (.take 6 (.take 7 .done))))))))] = some c_impl_perfects := by kernel_rfl
abbrev f_impl_FirstPerfect_1 : FuncId := 29
def c_impl_FirstPerfect_1 : AF := ⟨2, 12, [],
  (.seq (.reg [⟨(some 3), none, .q (.ld false 1 (.t 1))⟩,
     ⟨(some 4), none, .q (.isn false (.t 3))⟩,
     ⟨(some 5), none, .q (.mv (.t 4))⟩,
     ⟨(some 6), (some (5, false)), .q (.mv (.t 0))⟩,
     ⟨(some 7), (some (5, false)), .q (.ld false 1 (.t 1))⟩,
     ⟨(some 8), (some (5, false)), .c (.call 30 [(.t 6), (.t 7)])⟩,
     ⟨(some 9), (some (5, false)), .q (.bin .lss (.t 8) (.c (.int .i64 0)))⟩,
     ⟨(some 10), none, .q (.pick (.t 5) (.c (.bool true)) (.t 9))⟩])
  (.cond (.t 10)
   (.reg [⟨(some 11), none, .q (.mv (.t 0))⟩,
     ⟨none, none, .m (.st false 1 (.t 1) (.t 11))⟩])
   .skip))⟩
theorem l_impl_FirstPerfect_1 : lowF PA f_impl_FirstPerfect_1 2 [] = some c_impl_FirstPerfect_1 := by kernel_rfl
abbrev f_slices_Compare___int64_int64_ : FuncId := 30
def c_slices_Compare___int64_int64_ : AF := ⟨2, 36, [.t 4],
  (.seq (.reg [⟨(some 4), none, .q (.mv (.c (.int .i64 0)))⟩])
  (.seq (.seq (.reg [⟨(some 9), none, .q (.mv (.t 0))⟩,
      ⟨(some 10), none, .q (.len (.t 9))⟩,
      ⟨(some 11), none, .q (.mv (.c (.int .i64 0)))⟩])
   (.block 0 (.loop [0, 1, 9, 10, 11] (.seq (.reg [⟨(some 12), none, .q (.bin .lss (.t 11) (.t 10))⟩])
     (.seq (.cond (.t 12)
       .skip
       (.exit 0))
     (.seq (.block 1 (.seq (.reg [⟨(some 13), none, .q (.mv (.t 11))⟩,
          ⟨(some 14), none, .q (.ixs 1 (.t 9) (.t 11))⟩,
          ⟨(some 15), none, .q (.ld false 1 (.t 14))⟩,
          ⟨(some 5), none, .q (.mv (.t 13))⟩,
          ⟨(some 6), none, .q (.mv (.t 15))⟩])
       (.seq (.seq (.reg [⟨(some 16), none, .q (.mv (.t 5))⟩,
           ⟨(some 17), none, .q (.mv (.t 1))⟩,
           ⟨(some 18), none, .q (.len (.t 17))⟩,
           ⟨(some 19), none, .q (.bin .geq (.t 16) (.t 18))⟩])
        (.cond (.t 19)
         (.seq (.reg [⟨(some 4), none, .q (.mv (.c (.int .i64 1)))⟩])
         .ret)
         .skip))
       (.seq (.reg [⟨(some 20), none, .q (.mv (.t 1))⟩,
          ⟨(some 21), none, .q (.mv (.t 5))⟩,
          ⟨(some 22), none, .q (.ixs 1 (.t 20) (.t 21))⟩,
          ⟨(some 23), none, .q (.ld false 1 (.t 22))⟩,
          ⟨(some 7), none, .q (.mv (.t 23))⟩])
       (.seq (.reg [⟨(some 24), none, .q (.mv (.t 6))⟩,
          ⟨(some 25), none, .q (.mv (.t 7))⟩,
          ⟨(some 26), none, .c (.call 49 [(.t 24), (.t 25)])⟩,
          ⟨(some 8), none, .q (.mv (.t 26))⟩])
       (.seq (.reg [⟨(some 27), none, .q (.mv (.t 8))⟩,
          ⟨(some 28), none, .q (.bin .neq (.t 27) (.c (.int .i64 0)))⟩])
       (.cond (.t 28)
        (.seq (.reg [⟨(some 29), none, .q (.mv (.t 8))⟩,
           ⟨(some 4), none, .q (.mv (.t 29))⟩])
        .ret)
        .skip)))))))
     (.reg [⟨(some 30), none, .q (.bin .add (.t 11) (.c (.int .i64 1)))⟩,
       ⟨(some 11), none, .q (.mv (.t 30))⟩])))))))
  (.seq (.seq (.reg [⟨(some 31), none, .q (.mv (.t 0))⟩,
      ⟨(some 32), none, .q (.len (.t 31))⟩,
      ⟨(some 33), none, .q (.mv (.t 1))⟩,
      ⟨(some 34), none, .q (.len (.t 33))⟩,
      ⟨(some 35), none, .q (.bin .lss (.t 32) (.t 34))⟩])
   (.cond (.t 35)
    (.seq (.reg [⟨(some 4), none, .q (.mv (.c (.int .i64 (-1))))⟩])
    .ret)
    .skip))
  (.seq (.reg [⟨(some 4), none, .q (.mv (.c (.int .i64 0)))⟩])
  .ret))))⟩
theorem l_slices_Compare___int64_int64_ : lowF PA f_slices_Compare___int64_int64_ 2 [.k [0, 1, 9, 10, 11]] = some c_slices_Compare___int64_int64_ := by kernel_rfl
abbrev f_spec_l04Code : FuncId := 35
def c_spec_l04Code : AF := ⟨4, 19, [.t 8],
  (.seq (.reg [⟨(some 4), none, .m (.box (.t 0))⟩,
     ⟨(some 8), none, .q (.mv (.c (.int .i64 0)))⟩])
  (.seq (.block 0 (.seq (.reg [⟨(some 10), none, .q (.ld true 1 (.t 4))⟩,
       ⟨(some 11), none, .c (.call 54 [(.t 10)])⟩,
       ⟨(some 12), none, .q (.un .not (.t 11))⟩,
       ⟨(some 9), none, .q (.mv (.t 12))⟩])
    (.cond (.t 9)
     (.seq (.reg [⟨(some 8), none, .q (.mv (.c (.int .i64 1)))⟩])
     .ret)
     (.seq (.reg [⟨(some 14), none, .q (.mv (.t 1))⟩,
        ⟨(some 15), none, .q (.mv (.t 2))⟩,
        ⟨(some 16), none, .q (.mv (.t 3))⟩,
        ⟨(some 17), none, .c (.call 55 [(.t 14), (.t 15), (.t 16)])⟩,
        ⟨(some 18), none, .q (.un .not (.t 17))⟩,
        ⟨(some 13), none, .q (.mv (.t 18))⟩])
     (.cond (.t 13)
      (.seq (.reg [⟨(some 8), none, .q (.mv (.c (.int .i64 2)))⟩])
      .ret)
      .skip)))))
  (.seq (.reg [⟨(some 8), none, .q (.mv (.c (.int .i64 0)))⟩])
  .ret)))⟩
theorem l_spec_l04Code : lowF PA f_spec_l04Code 4 [] = some c_spec_l04Code := by kernel_rfl
abbrev f_spec_l01N : FuncId := 36
def c_spec_l01N : AF := ⟨1, 20, [.t 2],
  (.seq (.reg [⟨(some 1), none, .m (.box (.t 0))⟩,
     ⟨(some 2), none, .q (.mv (.c (.int .i64 0)))⟩])
  (.seq (.reg [⟨(some 3), none, .q (.mv (.c (.int .i64 1)))⟩])
  (.seq (.seq (.reg [⟨(some 4), none, .q (.mv (.c (.int .i64 0)))⟩])
   (.block 0 (.loop [1, 3, 4] (.seq (.seq (.reg [⟨(some 5), none, .q (.mv (.t 4))⟩,
         ⟨(some 6), none, .q (.fad 0 (.t 1))⟩,
         ⟨(some 7), none, .q (.ld false 1 (.t 6))⟩,
         ⟨(some 8), none, .q (.len (.t 7))⟩,
         ⟨(some 9), none, .q (.bin .lss (.t 5) (.t 8))⟩])
      (.cond (.t 9)
       .skip
       (.exit 0)))
     (.seq (.block 1 (.reg [⟨(some 12), none, .q (.mv (.t 3))⟩,
         ⟨(some 13), none, .q (.fad 0 (.t 1))⟩,
         ⟨(some 14), none, .q (.ld false 1 (.t 13))⟩,
         ⟨(some 15), none, .q (.mv (.t 4))⟩,
         ⟨(some 16), none, .q (.ixs 1 (.t 14) (.t 15))⟩,
         ⟨(some 17), none, .q (.ld false 1 (.t 16))⟩,
         ⟨(some 18), none, .q (.bin .mul (.t 12) (.t 17))⟩,
         ⟨(some 3), none, .q (.mv (.t 18))⟩]))
     (.reg [⟨(some 10), none, .q (.mv (.t 4))⟩,
       ⟨(some 11), none, .q (.bin .add (.t 10) (.c (.int .i64 1)))⟩,
       ⟨(some 4), none, .q (.mv (.t 11))⟩]))))))
  (.seq (.reg [⟨(some 19), none, .q (.mv (.t 3))⟩,
     ⟨(some 2), none, .q (.mv (.t 19))⟩])
  .ret))))⟩
theorem l_spec_l01N : lowF PA f_spec_l01N 1 [.k [1, 3, 4]] = some c_spec_l01N := by kernel_rfl
abbrev f_spec_l01Size : FuncId := 37
def c_spec_l01Size : AF := ⟨2, 68, [.t 4],
  (.seq (.reg [⟨(some 2), none, .m (.box (.t 0))⟩,
     ⟨(some 4), none, .q (.mv (.c (.int .i64 0)))⟩])
  (.seq (.reg [⟨(some 10), none, .q (.fad 0 (.t 2))⟩,
     ⟨(some 11), none, .q (.ld false 1 (.t 10))⟩,
     ⟨(some 12), none, .q (.len (.t 11))⟩,
     ⟨(some 13), none, .q (.bin .add (.t 12) (.c (.int .i64 1)))⟩,
     ⟨(some 14), none, .m (.mks 1 (.v (.int .i64 0)) 8 (.t 13) (.t 13))⟩,
     ⟨(some 5), none, .q (.mv (.t 14))⟩])
  (.seq (.reg [⟨(some 15), none, .q (.mv (.t 5))⟩,
     ⟨(some 16), none, .q (.ixs 1 (.t 15) (.c (.int .i64 0)))⟩,
     ⟨none, none, .m (.st false 1 (.t 16) (.c (.int .i64 1)))⟩])
  (.seq (.seq (.reg [⟨(some 6), none, .q (.mv (.c (.int .i64 0)))⟩])
   (.block 0 (.loop [1, 2, 5, 6] (.seq (.seq (.reg [⟨(some 17), none, .q (.mv (.t 6))⟩,
         ⟨(some 18), none, .q (.fad 0 (.t 2))⟩,
         ⟨(some 19), none, .q (.ld false 1 (.t 18))⟩,
         ⟨(some 20), none, .q (.len (.t 19))⟩,
         ⟨(some 21), none, .q (.bin .lss (.t 17) (.t 20))⟩])
      (.cond (.t 21)
       .skip
       (.exit 0)))
     (.seq (.block 1 (.seq (.reg [⟨(some 24), none, .q (.mv (.t 6))⟩,
          ⟨(some 25), none, .q (.bin .add (.t 24) (.c (.int .i64 1)))⟩,
          ⟨(some 7), none, .q (.mv (.t 25))⟩])
       (.block 2 (.loop [1, 2, 5, 6, 7] (.seq (.seq (.reg [⟨(some 26), none, .q (.mv (.t 7))⟩,
             ⟨(some 27), none, .q (.bin .gtr (.t 26) (.c (.int .i64 0)))⟩])
          (.cond (.t 27)
           .skip
           (.exit 2)))
         (.seq (.block 3 (.sch (.take 0 ⟨(some 30), none, .q (.mv (.t 5))⟩ (.take 1 ⟨(some 31), none, .q (.mv (.t 7))⟩ (.take 2 ⟨(some 32), none, .q (.mv (.t 5))⟩ (.take 3 ⟨(some 33), none, .q (.mv (.t 7))⟩ (.take 4 ⟨(some 34), none, .q (.ixs 1 (.t 32) (.t 33))⟩ (.take 5 ⟨(some 35), none, .q (.ld false 1 (.t 34))⟩ (.take 6 ⟨(some 36), none, .q (.mv (.t 5))⟩ (.take 7 ⟨(some 37), none, .q (.mv (.t 7))⟩ (.take 8 ⟨(some 38), none, .q (.bin .sub (.t 37) (.c (.int .i64 1)))⟩ (.take 9 ⟨(some 39), none, .q (.ixs 1 (.t 36) (.t 38))⟩ (.take 10 ⟨(some 40), none, .q (.ld false 1 (.t 39))⟩ (.take 11 ⟨(some 41), none, .q (.fad 0 (.t 2))⟩ (.take 12 ⟨(some 42), none, .q (.ld false 1 (.t 41))⟩ (.take 13 ⟨(some 43), none, .q (.mv (.t 6))⟩ (.take 14 ⟨(some 44), none, .q (.ixs 1 (.t 42) (.t 43))⟩ (.take 15 ⟨(some 45), none, .q (.ld false 1 (.t 44))⟩ (.take 16 ⟨(some 46), none, .q (.bin .sub (.t 45) (.c (.int .i64 1)))⟩ (.take 17 ⟨(some 47), none, .q (.bin .mul (.t 40) (.t 46))⟩ (.take 18 ⟨(some 48), none, .q (.bin .add (.t 35) (.t 47))⟩ (.take 19 ⟨(some 49), none, .q (.ixs 1 (.t 30) (.t 31))⟩ (.one ⟨none, none, .m (.st false 1 (.t 49) (.t 48))⟩ [15, 12, 10, 5] .done)))))))))))))))))))))))
         (.reg [⟨(some 28), none, .q (.mv (.t 7))⟩,
           ⟨(some 29), none, .q (.bin .sub (.t 28) (.c (.int .i64 1)))⟩,
           ⟨(some 7), none, .q (.mv (.t 29))⟩])))))))
     (.reg [⟨(some 22), none, .q (.mv (.t 6))⟩,
       ⟨(some 23), none, .q (.bin .add (.t 22) (.c (.int .i64 1)))⟩,
       ⟨(some 6), none, .q (.mv (.t 23))⟩]))))))
  (.seq (.reg [⟨(some 8), none, .q (.mv (.c (.int .i64 0)))⟩])
  (.seq (.seq (.reg [⟨(some 9), none, .q (.mv (.c (.int .i64 0)))⟩])
   (.block 4 (.loop [1, 5, 8, 9] (.seq (.seq (.reg [⟨(some 50), none, .q (.mv (.t 9))⟩,
         ⟨(some 51), none, .q (.mv (.t 5))⟩,
         ⟨(some 52), none, .q (.len (.t 51))⟩,
         ⟨(some 53), none, .q (.bin .lss (.t 50) (.t 52))⟩,
         ⟨(some 54), none, .q (.mv (.t 53))⟩,
         ⟨(some 55), (some (54, true)), .q (.mv (.t 9))⟩,
         ⟨(some 56), (some (54, true)), .q (.mv (.t 1))⟩,
         ⟨(some 57), (some (54, true)), .q (.bin .leq (.t 55) (.t 56))⟩,
         ⟨(some 58), none, .q (.pick (.t 54) (.t 57) (.c (.bool false)))⟩])
      (.cond (.t 58)
       .skip
       (.exit 4)))
     (.seq (.block 5 (.reg [⟨(some 61), none, .q (.mv (.t 8))⟩,
         ⟨(some 62), none, .q (.mv (.t 5))⟩,
         ⟨(some 63), none, .q (.mv (.t 9))⟩,
         ⟨(some 64), none, .q (.ixs 1 (.t 62) (.t 63))⟩,
         ⟨(some 65), none, .q (.ld false 1 (.t 64))⟩,
         ⟨(some 66), none, .q (.bin .add (.t 61) (.t 65))⟩,
         ⟨(some 8), none, .q (.mv (.t 66))⟩]))
     (.reg [⟨(some 59), none, .q (.mv (.t 9))⟩,
       ⟨(some 60), none, .q (.bin .add (.t 59) (.c (.int .i64 1)))⟩,
       ⟨(some 9), none, .q (.mv (.t 60))⟩]))))))
  (.seq (.reg [⟨(some 67), none, .q (.mv (.t 8))⟩,
     ⟨(some 4), none, .q (.mv (.t 67))⟩])
  .ret)))))))⟩
theorem l_spec_l01Size : lowF PA f_spec_l01Size 2 [.k [1, 2, 5, 6], .k [1, 2, 5, 6, 7], .s (.take 0 (.take 1 (.take 2 (.take 3 (.take 4 (.take 5 (.take 6 (.take 7 (.take 8 (.take 9 (.take 10 (.take 11 (.take 12 (.take 13 (.take 14 (.take 15 (.take 16 (.take 17 (.take 18 (.take 19 (.one 20 .done))))))))))))))))))))), .k [1, 5, 8, 9]] = some c_spec_l01Size := by kernel_rfl
abbrev f_spec_l01Ball : FuncId := 38
def c_spec_l01Ball : AF := ⟨3, 27, [.t 6],
  (.seq (.reg [⟨(some 3), none, .m (.box (.t 0))⟩,
     ⟨(some 6), none, .q (.mv (.c (.slice none 0 0)))⟩])
  (.seq (.reg [⟨(some 9), none, .m (.bsl 1 [])⟩,
     ⟨(some 7), none, .q (.mv (.t 9))⟩])
  (.seq (.seq (.reg [⟨(some 8), none, .q (.mv (.c (.int .i64 0)))⟩])
   (.block 0 (.loop [1, 2, 3, 7, 8] (.seq (.seq (.reg [⟨(some 10), none, .q (.mv (.t 8))⟩,
         ⟨(some 11), none, .q (.ld true 1 (.t 3))⟩,
         ⟨(some 12), none, .c (.call 36 [(.t 11)])⟩,
         ⟨(some 13), none, .q (.bin .lss (.t 10) (.t 12))⟩])
      (.cond (.t 13)
       .skip
       (.exit 0)))
     (.seq (.block 1 (.seq (.reg [⟨(some 16), none, .q (.ld true 1 (.t 3))⟩,
          ⟨(some 17), none, .q (.mv (.t 8))⟩,
          ⟨(some 18), none, .q (.mv (.t 1))⟩,
          ⟨(some 19), none, .c (.call 56 [(.t 16), (.t 17), (.t 18)])⟩,
          ⟨(some 20), none, .q (.mv (.t 2))⟩,
          ⟨(some 21), none, .q (.bin .leq (.t 19) (.t 20))⟩])
       (.cond (.t 21)
        (.reg [⟨(some 22), none, .q (.mv (.t 7))⟩,
          ⟨(some 23), none, .q (.mv (.t 8))⟩,
          ⟨(some 24), none, .m (.bsl 1 [(.t 23)])⟩,
          ⟨(some 25), none, .m (.app 1 8 (.t 22) (.t 24))⟩,
          ⟨(some 7), none, .q (.mv (.t 25))⟩])
        .skip)))
     (.reg [⟨(some 14), none, .q (.mv (.t 8))⟩,
       ⟨(some 15), none, .q (.bin .add (.t 14) (.c (.int .i64 1)))⟩,
       ⟨(some 8), none, .q (.mv (.t 15))⟩]))))))
  (.seq (.reg [⟨(some 26), none, .q (.mv (.t 7))⟩,
     ⟨(some 6), none, .q (.mv (.t 26))⟩])
  .ret))))⟩
theorem l_spec_l01Ball : lowF PA f_spec_l01Ball 3 [.k [1, 2, 3, 7, 8]] = some c_spec_l01Ball := by kernel_rfl
abbrev f_spec_l06Search : FuncId := 39
def c_spec_l06Search : AF := ⟨4, 119, [.t 8, .t 9],
  (.seq (.reg [⟨(some 4), none, .m (.box (.t 0))⟩,
     ⟨(some 8), none, .q (.mv (.c (.int .i64 0)))⟩,
     ⟨(some 9), none, .q (.mv (.c (.slice none 0 0)))⟩])
  (.seq (.reg [⟨(some 10), none, .q (.mv (.c (.int .i64 0)))⟩])
  (.seq (.block 0 (.loop [1, 2, 3, 4, 10] (.seq (.seq (.reg [⟨(some 20), none, .q (.mv (.t 10))⟩,
         ⟨(some 21), none, .q (.mv (.t 3))⟩,
         ⟨(some 22), none, .q (.len (.t 21))⟩,
         ⟨(some 23), none, .q (.bin .lss (.t 20) (.t 22))⟩,
         ⟨(some 24), none, .q (.mv (.t 23))⟩,
         ⟨(some 25), (some (24, true)), .q (.mv (.t 3))⟩,
         ⟨(some 26), (some (24, true)), .q (.mv (.t 10))⟩,
         ⟨(some 27), (some (24, true)), .q (.ixs 1 (.t 25) (.t 26))⟩,
         ⟨(some 28), (some (24, true)), .q (.ld false 1 (.t 27))⟩,
         ⟨(some 29), none, .q (.pick (.t 24) (.t 28) (.c (.bool false)))⟩])
      (.cond (.t 29)
       .skip
       (.exit 0)))
     (.block 1 (.reg [⟨(some 30), none, .q (.mv (.t 10))⟩,
        ⟨(some 31), none, .q (.bin .add (.t 30) (.c (.int .i64 1)))⟩,
        ⟨(some 10), none, .q (.mv (.t 31))⟩])))))
  (.seq (.seq (.reg [⟨(some 32), none, .q (.mv (.t 10))⟩,
      ⟨(some 33), none, .q (.mv (.t 3))⟩,
      ⟨(some 34), none, .q (.len (.t 33))⟩,
      ⟨(some 35), none, .q (.bin .eql (.t 32) (.t 34))⟩])
   (.cond (.t 35)
    (.seq (.reg [⟨(some 36), none, .q (.mv (.t 2))⟩,
       ⟨(some 8), none, .q (.mv (.c (.int .i64 1)))⟩,
       ⟨(some 9), none, .q (.mv (.t 36))⟩])
    .ret)
    .skip))
  (.seq (.reg [⟨(some 37), none, .m (.bsl 1 [])⟩,
     ⟨(some 11), none, .q (.mv (.c (.int .i64 0)))⟩,
     ⟨(some 12), none, .q (.mv (.t 37))⟩])
  (.seq (.seq (.reg [⟨(some 13), none, .q (.mv (.c (.int .i64 0)))⟩])
   (.block 2 (.loop [1, 2, 3, 4, 10, 11, 12, 13] (.seq (.seq (.reg [⟨(some 38), none, .q (.mv (.t 13))⟩,
         ⟨(some 39), none, .q (.mv (.t 1))⟩,
         ⟨(some 40), none, .q (.mv (.t 10))⟩,
         ⟨(some 41), none, .q (.ixs 1 (.t 39) (.t 40))⟩,
         ⟨(some 42), none, .q (.ld false 1 (.t 41))⟩,
         ⟨(some 43), none, .q (.len (.t 42))⟩,
         ⟨(some 44), none, .q (.bin .lss (.t 38) (.t 43))⟩])
      (.cond (.t 44)
       .skip
       (.exit 2)))
     (.seq (.block 3 (.seq (.reg [⟨(some 47), none, .q (.mv (.t 1))⟩,
          ⟨(some 48), none, .q (.mv (.t 10))⟩,
          ⟨(some 49), none, .q (.ixs 1 (.t 47) (.t 48))⟩,
          ⟨(some 50), none, .q (.ld false 1 (.t 49))⟩,
          ⟨(some 51), none, .q (.mv (.t 13))⟩,
          ⟨(some 52), none, .q (.ixs 1 (.t 50) (.t 51))⟩,
          ⟨(some 53), none, .q (.ld false 1 (.t 52))⟩,
          ⟨(some 14), none, .q (.mv (.t 53))⟩])
       (.seq (.reg [⟨(some 54), none, .m (.bsl 1 [])⟩,
          ⟨(some 55), none, .q (.mv (.t 3))⟩,
          ⟨(some 56), none, .m (.app 1 1 (.t 54) (.t 55))⟩,
          ⟨(some 15), none, .q (.mv (.t 56))⟩,
          ⟨(some 16), none, .q (.mv (.c (.bool true)))⟩])
       (.seq (.seq (.reg [⟨(some 17), none, .q (.mv (.c (.int .i64 0)))⟩])
        (.block 4 (.loop [1, 2, 3, 4, 10, 11, 12, 13, 14, 15, 16, 17] (.seq (.seq (.reg [⟨(some 57), none, .q (.mv (.t 17))⟩,
              ⟨(some 58), none, .q (.mv (.t 1))⟩,
              ⟨(some 59), none, .q (.mv (.t 14))⟩,
              ⟨(some 60), none, .q (.ixs 1 (.t 58) (.t 59))⟩,
              ⟨(some 61), none, .q (.ld false 1 (.t 60))⟩,
              ⟨(some 62), none, .q (.len (.t 61))⟩,
              ⟨(some 63), none, .q (.bin .lss (.t 57) (.t 62))⟩])
           (.cond (.t 63)
            .skip
            (.exit 4)))
          (.seq (.block 5 (.seq (.reg [⟨(some 66), none, .q (.mv (.t 16))⟩,
               ⟨(some 67), none, .q (.mv (.t 66))⟩,
               ⟨(some 68), (some (67, true)), .q (.mv (.t 15))⟩,
               ⟨(some 69), (some (67, true)), .q (.mv (.t 1))⟩,
               ⟨(some 70), (some (67, true)), .q (.mv (.t 14))⟩,
               ⟨(some 71), (some (67, true)), .q (.ixs 1 (.t 69) (.t 70))⟩,
               ⟨(some 72), (some (67, true)), .q (.ld false 1 (.t 71))⟩,
               ⟨(some 73), (some (67, true)), .q (.mv (.t 17))⟩,
               ⟨(some 74), (some (67, true)), .q (.ixs 1 (.t 72) (.t 73))⟩,
               ⟨(some 75), (some (67, true)), .q (.ld false 1 (.t 74))⟩,
               ⟨(some 76), (some (67, true)), .q (.ixs 1 (.t 68) (.t 75))⟩,
               ⟨(some 77), (some (67, true)), .q (.ld false 1 (.t 76))⟩,
               ⟨(some 78), (some (67, true)), .q (.un .not (.t 77))⟩,
               ⟨(some 79), none, .q (.pick (.t 67) (.t 78) (.c (.bool false)))⟩,
               ⟨(some 16), none, .q (.mv (.t 79))⟩])
            (.reg [⟨(some 80), none, .q (.mv (.t 15))⟩,
              ⟨(some 81), none, .q (.mv (.t 1))⟩,
              ⟨(some 82), none, .q (.mv (.t 14))⟩,
              ⟨(some 83), none, .q (.ixs 1 (.t 81) (.t 82))⟩,
              ⟨(some 84), none, .q (.ld false 1 (.t 83))⟩,
              ⟨(some 85), none, .q (.mv (.t 17))⟩,
              ⟨(some 86), none, .q (.ixs 1 (.t 84) (.t 85))⟩,
              ⟨(some 87), none, .q (.ld false 1 (.t 86))⟩,
              ⟨(some 88), none, .q (.ixs 1 (.t 80) (.t 87))⟩,
              ⟨none, none, .m (.st false 1 (.t 88) (.c (.bool true)))⟩])))
          (.reg [⟨(some 64), none, .q (.mv (.t 17))⟩,
            ⟨(some 65), none, .q (.bin .add (.t 64) (.c (.int .i64 1)))⟩,
            ⟨(some 17), none, .q (.mv (.t 65))⟩]))))))
       (.seq (.seq (.reg [⟨(some 89), none, .q (.mv (.t 16))⟩,
           ⟨(some 90), none, .q (.un .not (.t 89))⟩])
        (.cond (.t 90)
         (.exit 3)
         .skip))
       (.seq (.sch (.take 0 ⟨(some 92), none, .q (.ld true 1 (.t 4))⟩ (.take 1 ⟨(some 93), none, .q (.mv (.t 1))⟩ (.take 2 ⟨(some 94), none, .q (.mv (.t 2))⟩ (.take 4 ⟨(some 96), none, .q (.mv (.t 14))⟩ (.take 6 ⟨(some 98), none, .q (.mv (.t 15))⟩ (.one ⟨(some 95), none, .c (.call 58 [(.t 94)])⟩ [] (.one ⟨(some 97), none, .c (.call 57 [(.t 95), (.t 96)])⟩ [] (.one ⟨(some 99), none, .c (.call 39 [(.t 92), (.t 93), (.t 97), (.t 98)])⟩ [0] (.take 8 ⟨(some 91), none, .q (.mv (.t 99))⟩ (.take 9 ⟨(some 100), none, .q (.ext (.t 91) 0)⟩ (.take 10 ⟨(some 101), none, .q (.ext (.t 91) 1)⟩ (.take 11 ⟨(some 18), none, .q (.mv (.t 100))⟩ (.take 12 ⟨(some 19), none, .q (.mv (.t 101))⟩ .done))))))))))))))
       (.seq (.seq (.reg [⟨(some 102), none, .q (.mv (.t 18))⟩,
           ⟨(some 103), none, .q (.bin .gtr (.t 102) (.c (.int .i64 0)))⟩,
           ⟨(some 104), none, .q (.mv (.t 103))⟩,
           ⟨(some 105), (some (104, true)), .q (.mv (.t 11))⟩,
           ⟨(some 106), (some (104, true)), .q (.bin .eql (.t 105) (.c (.int .i64 0)))⟩,
           ⟨(some 107), (some (104, true)), .q (.mv (.t 106))⟩,
           ⟨(some 108), (some (107, false)), .q (.mv (.t 19))⟩,
           ⟨(some 109), (some (107, false)), .q (.mv (.t 12))⟩,
           ⟨(some 110), (some (107, false)), .c (.call 59 [(.t 108), (.t 109)])⟩,
           ⟨(some 111), (some (104, true)), .q (.pick (.t 107) (.c (.bool true)) (.t 110))⟩,
           ⟨(some 112), none, .q (.pick (.t 104) (.t 111) (.c (.bool false)))⟩])
        (.cond (.t 112)
         (.reg [⟨(some 113), none, .q (.mv (.t 19))⟩,
           ⟨(some 12), none, .q (.mv (.t 113))⟩])
         .skip))
       (.reg [⟨(some 114), none, .q (.mv (.t 11))⟩,
         ⟨(some 115), none, .q (.mv (.t 18))⟩,
         ⟨(some 116), none, .q (.bin .add (.t 114) (.t 115))⟩,
         ⟨(some 11), none, .q (.mv (.t 116))⟩]))))))))
     (.reg [⟨(some 45), none, .q (.mv (.t 13))⟩,
       ⟨(some 46), none, .q (.bin .add (.t 45) (.c (.int .i64 1)))⟩,
       ⟨(some 13), none, .q (.mv (.t 46))⟩]))))))
  (.seq (.reg [⟨(some 117), none, .q (.mv (.t 11))⟩,
     ⟨(some 118), none, .q (.mv (.t 12))⟩,
     ⟨(some 8), none, .q (.mv (.t 117))⟩,
     ⟨(some 9), none, .q (.mv (.t 118))⟩])
  .ret)))))))⟩
theorem l_spec_l06Search : lowF PA f_spec_l06Search 4 [.k [1, 2, 3, 4, 10], .k [1, 2, 3, 4, 10, 11, 12, 13], .k [1, 2, 3, 4, 10, 11, 12, 13, 14, 15, 16, 17], .s (.take 0 (.take 1 (.take 2 (.take 4 (.take 6 (.one 3 (.one 5 (.one 7 (.take 8 (.take 9 (.take 10 (.take 11 (.take 12 .done)))))))))))))] = some c_spec_l06Search := by kernel_rfl
abbrev f_impl_IsSpace : FuncId := 40
def c_impl_IsSpace : AF := ⟨1, 35, [.t 2],
  (.seq (.reg [⟨(some 1), none, .m (.box (.t 0))⟩,
     ⟨(some 2), none, .q (.mv (.c (.bool false)))⟩])
  (.seq (.seq (.reg [⟨(some 6), none, .q (.fad 0 (.t 1))⟩,
      ⟨(some 7), none, .q (.ld false 1 (.t 6))⟩,
      ⟨(some 8), none, .q (.len (.t 7))⟩,
      ⟨(some 9), none, .q (.bin .lss (.t 8) (.c (.int .i64 1)))⟩,
      ⟨(some 10), none, .q (.mv (.t 9))⟩,
      ⟨(some 11), (some (10, false)), .q (.fad 0 (.t 1))⟩,
      ⟨(some 12), (some (10, false)), .q (.ld false 1 (.t 11))⟩,
      ⟨(some 13), (some (10, false)), .q (.len (.t 12))⟩,
      ⟨(some 14), (some (10, false)), .q (.bin .gtr (.t 13) (.c (.int .i64 8)))⟩,
      ⟨(some 15), none, .q (.pick (.t 10) (.c (.bool true)) (.t 14))⟩])
   (.cond (.t 15)
    (.seq (.reg [⟨(some 2), none, .q (.mv (.c (.bool false)))⟩])
    .ret)
    .skip))
  (.seq (.reg [⟨(some 3), none, .q (.mv (.c (.int .i64 1)))⟩])
  (.seq (.seq (.reg [⟨(some 16), none, .q (.fad 0 (.t 1))⟩,
      ⟨(some 17), none, .q (.ld false 1 (.t 16))⟩,
      ⟨(some 18), none, .q (.len (.t 17))⟩,
      ⟨(some 19), none, .q (.mv (.c (.int .i64 0)))⟩])
   (.block 0 (.loop [3, 17, 18, 19] (.seq (.reg [⟨(some 20), none, .q (.bin .lss (.t 19) (.t 18))⟩])
     (.seq (.cond (.t 20)
       .skip
       (.exit 0))
     (.seq (.block 1 (.seq (.reg [⟨(some 21), none, .q (.ixs 1 (.t 17) (.t 19))⟩,
          ⟨(some 22), none, .q (.ld false 1 (.t 21))⟩,
          ⟨(some 5), none, .q (.mv (.t 22))⟩])
       (.seq (.seq (.reg [⟨(some 23), none, .q (.mv (.t 5))⟩,
           ⟨(some 24), none, .q (.bin .lss (.t 23) (.c (.int .i64 2)))⟩,
           ⟨(some 25), none, .q (.mv (.t 24))⟩,
           ⟨(some 26), (some (25, false)), .q (.mv (.t 5))⟩,
           ⟨(some 27), (some (25, false)), .q (.bin .gtr (.t 26) (.c (.int .i64 4)))⟩,
           ⟨(some 28), none, .q (.pick (.t 25) (.c (.bool true)) (.t 27))⟩])
        (.cond (.t 28)
         (.seq (.reg [⟨(some 2), none, .q (.mv (.c (.bool false)))⟩])
         .ret)
         .skip))
       (.reg [⟨(some 29), none, .q (.mv (.t 3))⟩,
         ⟨(some 30), none, .q (.mv (.t 5))⟩,
         ⟨(some 31), none, .q (.bin .mul (.t 29) (.t 30))⟩,
         ⟨(some 3), none, .q (.mv (.t 31))⟩]))))
     (.reg [⟨(some 32), none, .q (.bin .add (.t 19) (.c (.int .i64 1)))⟩,
       ⟨(some 19), none, .q (.mv (.t 32))⟩])))))))
  (.seq (.reg [⟨(some 33), none, .q (.mv (.t 3))⟩,
     ⟨(some 34), none, .q (.bin .leq (.t 33) (.c (.int .i64 1024)))⟩,
     ⟨(some 2), none, .q (.mv (.t 34))⟩])
  .ret)))))⟩
theorem l_impl_IsSpace : lowF PA f_impl_IsSpace 1 [.k [3, 17, 18, 19]] = some c_impl_IsSpace := by kernel_rfl
abbrev f_impl_count : FuncId := 41
def c_impl_count : AF := ⟨1, 18, [.t 2],
  (.seq (.reg [⟨(some 1), none, .m (.box (.t 0))⟩,
     ⟨(some 2), none, .q (.mv (.c (.int .i64 0)))⟩])
  (.seq (.reg [⟨(some 3), none, .q (.mv (.c (.int .i64 1)))⟩])
  (.seq (.seq (.reg [⟨(some 6), none, .q (.fad 0 (.t 1))⟩,
      ⟨(some 7), none, .q (.ld false 1 (.t 6))⟩,
      ⟨(some 8), none, .q (.len (.t 7))⟩,
      ⟨(some 9), none, .q (.mv (.c (.int .i64 0)))⟩])
   (.block 0 (.loop [3, 7, 8, 9] (.seq (.reg [⟨(some 10), none, .q (.bin .lss (.t 9) (.t 8))⟩])
     (.seq (.cond (.t 10)
       .skip
       (.exit 0))
     (.seq (.block 1 (.seq (.reg [⟨(some 11), none, .q (.ixs 1 (.t 7) (.t 9))⟩,
          ⟨(some 12), none, .q (.ld false 1 (.t 11))⟩,
          ⟨(some 5), none, .q (.mv (.t 12))⟩])
       (.reg [⟨(some 13), none, .q (.mv (.t 3))⟩,
         ⟨(some 14), none, .q (.mv (.t 5))⟩,
         ⟨(some 15), none, .q (.bin .mul (.t 13) (.t 14))⟩,
         ⟨(some 3), none, .q (.mv (.t 15))⟩])))
     (.reg [⟨(some 16), none, .q (.bin .add (.t 9) (.c (.int .i64 1)))⟩,
       ⟨(some 9), none, .q (.mv (.t 16))⟩])))))))
  (.seq (.reg [⟨(some 17), none, .q (.mv (.t 3))⟩,
     ⟨(some 2), none, .q (.mv (.t 17))⟩])
  .ret))))⟩
theorem l_impl_count : lowF PA f_impl_count 1 [.k [3, 7, 8, 9]] = some c_impl_count := by kernel_rfl
abbrev f_impl_ball : FuncId := 42
def c_impl_ball : AF := ⟨3, 14, [.t 6],
  (.seq (.reg [⟨(some 3), none, .m (.box (.t 0))⟩,
     ⟨(some 5), none, .m (.box (.t 2))⟩,
     ⟨(some 6), none, .q (.mv (.c (.slice none 0 0)))⟩])
  (.seq (.reg [⟨(some 8), none, .q (.ld true 1 (.t 3))⟩,
     ⟨(some 9), none, .q (.mv (.t 1))⟩,
     ⟨(some 10), none, .c (.call 60 [(.t 8), (.t 9)])⟩,
     ⟨(some 7), none, .m (.alloc [(.v (.int .u8 0)), (.v (.int .u8 0)), (.v (.int .u8 0)), (.v (.int .u8 0)), (.v (.int .u8 0)), (.v (.int .u8 0)), (.v (.int .u8 0)), (.v (.int .u8 0))])⟩,
     ⟨none, none, .m (.st true 8 (.t 7) (.t 10))⟩])
  (.seq (.reg [⟨(some 11), none, .q (.ld true 1 (.t 3))⟩,
     ⟨(some 12), none, .q (.mkf 62 [(.t 7), (.t 5)])⟩,
     ⟨(some 13), none, .c (.call 61 [(.t 11), (.t 12)])⟩,
     ⟨(some 6), none, .q (.mv (.t 13))⟩])
  .ret)))⟩
theorem l_impl_ball : lowF PA f_impl_ball 3 [] = some c_impl_ball := by kernel_rfl
abbrev f_impl_perfects_1 : FuncId := 43
def c_impl_perfects_1 : AF := ⟨5, 77, [],
  (.seq (.reg [⟨(some 13), none, .q (.ld false 1 (.t 0))⟩,
     ⟨(some 14), none, .c (.call 44 [(.t 13), (.c (.bool false))])⟩,
     ⟨(some 5), none, .q (.mv (.t 14))⟩])
  (.seq (.seq (.reg [⟨(some 15), none, .q (.mv (.t 5))⟩,
      ⟨(some 16), none, .q (.bin .lss (.t 15) (.c (.int .i64 0)))⟩])
   (.cond (.t 16)
    (.seq (.reg [⟨(some 17), none, .q (.ld false 1 (.t 1))⟩,
       ⟨(some 18), none, .c (.call 45 [(.t 17)])⟩,
       ⟨(some 6), none, .q (.mv (.t 18))⟩])
    (.seq (.reg [⟨(some 19), none, .q (.mv (.t 6))⟩,
       ⟨(some 20), none, .c (.call 46 [(.t 19)])⟩])
    (.seq (.reg [⟨(some 21), none, .q (.ld false 1 (.t 2))⟩,
       ⟨(some 22), none, .q (.mv (.t 6))⟩,
       ⟨(some 23), none, .c (.cav (.t 21) [(.t 22)])⟩])
    .ret)))
    .skip))
  (.seq (.reg [⟨(some 24), none, .q (.ld false 1 (.t 3))⟩,
     ⟨(some 25), none, .q (.mv (.t 5))⟩,
     ⟨(some 26), none, .q (.ixs 1 (.t 24) (.t 25))⟩,
     ⟨(some 27), none, .q (.ld false 1 (.t 26))⟩,
     ⟨(some 28), none, .q (.len (.t 27))⟩,
     ⟨(some 29), none, .q (.mv (.c (.int .i64 0)))⟩])
  (.block 0 (.loop [0, 1, 3, 4, 27, 28, 29, 77, 78, 79, 80, 81, 82] (.seq (.reg [⟨(some 30), none, .q (.bin .lss (.t 29) (.t 28))⟩])
    (.seq (.cond (.t 30)
      .skip
      (.exit 0))
    (.seq (.block 1 (.seq (.reg [⟨(some 31), none, .q (.ixs 1 (.t 27) (.t 29))⟩,
         ⟨(some 32), none, .q (.ld false 1 (.t 31))⟩,
         ⟨(some 8), none, .q (.mv (.t 32))⟩])
      (.seq (.seq (.reg [⟨(some 33), none, .q (.ld false 1 (.t 3))⟩,
          ⟨(some 34), none, .q (.mv (.t 8))⟩,
          ⟨(some 35), none, .q (.ixs 1 (.t 33) (.t 34))⟩,
          ⟨(some 36), none, .q (.ld false 1 (.t 35))⟩,
          ⟨(some 37), none, .q (.mkf 48 [(.t 0)])⟩,
          ⟨(some 38), none, .c (.call 47 [(.t 36), (.t 37)])⟩])
       (.cond (.t 38)
        (.exit 1)
        .skip))
      (.seq (.seq (.reg [⟨(some 39), none, .q (.ld false 1 (.t 3))⟩,
          ⟨(some 40), none, .q (.mv (.t 8))⟩,
          ⟨(some 41), none, .q (.ixs 1 (.t 39) (.t 40))⟩,
          ⟨(some 42), none, .q (.ld false 1 (.t 41))⟩,
          ⟨(some 43), none, .q (.len (.t 42))⟩,
          ⟨(some 44), none, .q (.mv (.c (.int .i64 0)))⟩])
       (.block 2 (.loop [0, 1, 3, 4, 8, 27, 28, 29, 42, 43, 44, 77, 78, 79, 80, 81, 82] (.seq (.reg [⟨(some 45), none, .q (.bin .lss (.t 44) (.t 43))⟩])
         (.seq (.cond (.t 45)
           .skip
           (.exit 2))
         (.seq (.block 3 (.seq (.reg [⟨(some 46), none, .q (.ixs 1 (.t 42) (.t 44))⟩,
              ⟨(some 47), none, .q (.ld false 1 (.t 46))⟩,
              ⟨(some 10), none, .q (.mv (.t 47))⟩])
           (.reg [⟨(some 48), none, .q (.ld false 1 (.t 0))⟩,
             ⟨(some 49), none, .q (.mv (.t 10))⟩,
             ⟨(some 50), none, .q (.ixs 1 (.t 48) (.t 49))⟩,
             ⟨none, none, .m (.st false 1 (.t 50) (.c (.bool true)))⟩])))
         (.reg [⟨(some 51), none, .q (.bin .add (.t 44) (.c (.int .i64 1)))⟩,
           ⟨(some 44), none, .q (.mv (.t 51))⟩])))))))
      (.seq (.reg [⟨(some 52), none, .q (.ld false 1 (.t 1))⟩,
         ⟨(some 53), none, .q (.mv (.t 8))⟩,
         ⟨(some 54), none, .m (.bsl 1 [(.t 53)])⟩,
         ⟨(some 55), none, .m (.app 1 8 (.t 52) (.t 54))⟩,
         ⟨none, none, .m (.st false 1 (.t 1) (.t 55))⟩])
      (.seq (.reg [⟨(some 56), none, .q (.ld false 1 (.t 4))⟩,
         ⟨(some 57), none, .c (.cav (.t 56) [])⟩])
      (.seq (.reg [⟨(some 58), none, .q (.ld false 1 (.t 1))⟩,
         ⟨(some 59), none, .q (.ld false 1 (.t 1))⟩,
         ⟨(some 60), none, .q (.len (.t 59))⟩,
         ⟨(some 61), none, .q (.bin .sub (.t 60) (.c (.int .i64 1)))⟩,
         ⟨(some 62), none, .q (.slc 1 (.t 58) none (some (.t 61)))⟩,
         ⟨none, none, .m (.st false 1 (.t 1) (.t 62))⟩])
      (.seq (.reg [⟨(some 63), none, .q (.ld false 1 (.t 3))⟩,
         ⟨(some 64), none, .q (.mv (.t 8))⟩,
         ⟨(some 65), none, .q (.ixs 1 (.t 63) (.t 64))⟩,
         ⟨(some 66), none, .q (.ld false 1 (.t 65))⟩,
         ⟨(some 67), none, .q (.len (.t 66))⟩,
         ⟨(some 68), none, .q (.mv (.c (.int .i64 0)))⟩])
      (.block 4 (.loop [0, 1, 3, 4, 27, 28, 29, 66, 67, 68, 77, 78, 79, 80, 81, 82] (.seq (.reg [⟨(some 69), none, .q (.bin .lss (.t 68) (.t 67))⟩])
        (.seq (.cond (.t 69)
          .skip
          (.exit 4))
        (.seq (.block 5 (.seq (.reg [⟨(some 70), none, .q (.ixs 1 (.t 66) (.t 68))⟩,
             ⟨(some 71), none, .q (.ld false 1 (.t 70))⟩,
             ⟨(some 12), none, .q (.mv (.t 71))⟩])
          (.reg [⟨(some 72), none, .q (.ld false 1 (.t 0))⟩,
            ⟨(some 73), none, .q (.mv (.t 12))⟩,
            ⟨(some 74), none, .q (.ixs 1 (.t 72) (.t 73))⟩,
            ⟨none, none, .m (.st false 1 (.t 74) (.c (.bool false)))⟩])))
        (.reg [⟨(some 75), none, .q (.bin .add (.t 68) (.c (.int .i64 1)))⟩,
          ⟨(some 68), none, .q (.mv (.t 75))⟩]))))))))))))))
    (.reg [⟨(some 76), none, .q (.bin .add (.t 29) (.c (.int .i64 1)))⟩,
      ⟨(some 29), none, .q (.mv (.t 76))⟩])))))))))⟩
theorem l_impl_perfects_1 : lowF PA f_impl_perfects_1 5 [.k [0, 1, 3, 4, 27, 28, 29, 77, 78, 79, 80, 81, 82], .k [0, 1, 3, 4, 8, 27, 28, 29, 42, 43, 44, 77, 78, 79, 80, 81, 82], .k [0, 1, 3, 4, 27, 28, 29, 66, 67, 68, 77, 78, 79, 80, 81, 82]] = some c_impl_perfects_1 := by kernel_rfl
abbrev f_slices_Index___bool_bool_ : FuncId := 44
def c_slices_Index___bool_bool_ : AF := ⟨2, 19, [.t 4],
  (.seq (.reg [⟨(some 4), none, .q (.mv (.c (.int .i64 0)))⟩])
  (.seq (.seq (.reg [⟨(some 6), none, .q (.mv (.t 0))⟩,
      ⟨(some 7), none, .q (.len (.t 6))⟩,
      ⟨(some 8), none, .q (.mv (.c (.int .i64 0)))⟩])
   (.block 0 (.loop [0, 1, 7, 8] (.seq (.reg [⟨(some 9), none, .q (.bin .lss (.t 8) (.t 7))⟩])
     (.seq (.cond (.t 9)
       .skip
       (.exit 0))
     (.seq (.block 1 (.seq (.reg [⟨(some 10), none, .q (.mv (.t 8))⟩,
          ⟨(some 5), none, .q (.mv (.t 10))⟩])
       (.seq (.reg [⟨(some 11), none, .q (.mv (.t 1))⟩,
          ⟨(some 12), none, .q (.mv (.t 0))⟩,
          ⟨(some 13), none, .q (.mv (.t 5))⟩,
          ⟨(some 14), none, .q (.ixs 1 (.t 12) (.t 13))⟩,
          ⟨(some 15), none, .q (.ld false 1 (.t 14))⟩,
          ⟨(some 16), none, .q (.eqb false (.t 11) (.t 15))⟩])
       (.cond (.t 16)
        (.seq (.reg [⟨(some 17), none, .q (.mv (.t 5))⟩,
           ⟨(some 4), none, .q (.mv (.t 17))⟩])
        .ret)
        .skip))))
     (.reg [⟨(some 18), none, .q (.bin .add (.t 8) (.c (.int .i64 1)))⟩,
       ⟨(some 8), none, .q (.mv (.t 18))⟩])))))))
  (.seq (.reg [⟨(some 4), none, .q (.mv (.c (.int .i64 (-1))))⟩])
  .ret)))⟩
theorem l_slices_Index___bool_bool_ : lowF PA f_slices_Index___bool_bool_ 2 [.k [0, 1, 7, 8]] = some c_slices_Index___bool_bool_ := by kernel_rfl
abbrev f_slices_Clone___int64_int64_ : FuncId := 45
def c_slices_Clone___int64_int64_ : AF := ⟨1, 8, [.t 2],
  (.seq (.reg [⟨(some 2), none, .q (.mv (.c (.slice none 0 0)))⟩])
  (.seq (.seq (.reg [⟨(some 3), none, .q (.mv (.t 0))⟩,
      ⟨(some 4), none, .q (.isn false (.t 3))⟩])
   (.cond (.t 4)
    (.seq (.reg [⟨(some 2), none, .q (.mv (.c (.slice none 0 0)))⟩])
    .ret)
    .skip))
  (.seq (.reg [⟨(some 5), none, .m (.bsl 1 [])⟩,
     ⟨(some 6), none, .q (.mv (.t 0))⟩,
     ⟨(some 7), none, .m (.app 1 8 (.t 5) (.t 6))⟩,
     ⟨(some 2), none, .q (.mv (.t 7))⟩])
  .ret)))⟩
theorem l_slices_Clone___int64_int64_ : lowF PA f_slices_Clone___int64_int64_ 1 [] = some c_slices_Clone___int64_int64_ := by kernel_rfl
abbrev f_slices_Sort___int64_int64_ : FuncId := 46
def c_slices_Sort___int64_int64_ : AF := ⟨1, 11, [],
  (.seq (.reg [⟨(some 3), none, .q (.mv (.t 0))⟩,
     ⟨(some 4), none, .q (.len (.t 3))⟩,
     ⟨(some 2), none, .q (.mv (.t 4))⟩])
  (.reg [⟨(some 5), none, .q (.mv (.t 0))⟩,
    ⟨(some 6), none, .q (.mv (.t 2))⟩,
    ⟨(some 7), none, .q (.mv (.t 2))⟩,
    ⟨(some 8), none, .q (.cvt .u64 (.t 7))⟩,
    ⟨(some 9), none, .c (.call 65 [(.t 8)])⟩,
    ⟨(some 10), none, .c (.call 64 [(.t 5), (.c (.int .i64 0)), (.t 6), (.t 9)])⟩]))⟩
theorem l_slices_Sort___int64_int64_ : lowF PA f_slices_Sort___int64_int64_ 1 [] = some c_slices_Sort___int64_int64_ := by kernel_rfl
abbrev f_slices_ContainsFunc___int64_int64_ : FuncId := 47
def c_slices_ContainsFunc___int64_int64_ : AF := ⟨2, 9, [.t 4],
  (.seq (.reg [⟨(some 4), none, .q (.mv (.c (.bool false)))⟩])
  (.seq (.reg [⟨(some 5), none, .q (.mv (.t 0))⟩,
     ⟨(some 6), none, .q (.mv (.t 1))⟩,
     ⟨(some 7), none, .c (.call 66 [(.t 5), (.t 6)])⟩,
     ⟨(some 8), none, .q (.bin .geq (.t 7) (.c (.int .i64 0)))⟩,
     ⟨(some 4), none, .q (.mv (.t 8))⟩])
  .ret))⟩
theorem l_slices_ContainsFunc___int64_int64_ : lowF PA f_slices_ContainsFunc___int64_int64_ 2 [] = some c_slices_ContainsFunc___int64_int64_ := by kernel_rfl
abbrev f_impl_perfects_1_1 : FuncId := 48
def c_impl_perfects_1_1 : AF := ⟨2, 8, [.t 3],
  (.seq (.reg [⟨(some 3), none, .q (.mv (.c (.bool false)))⟩])
  (.seq (.reg [⟨(some 4), none, .q (.ld false 1 (.t 1))⟩,
     ⟨(some 5), none, .q (.mv (.t 0))⟩,
     ⟨(some 6), none, .q (.ixs 1 (.t 4) (.t 5))⟩,
     ⟨(some 7), none, .q (.ld false 1 (.t 6))⟩,
     ⟨(some 3), none, .q (.mv (.t 7))⟩])
  .ret))⟩
theorem l_impl_perfects_1_1 : lowF PA f_impl_perfects_1_1 2 [] = some c_impl_perfects_1_1 := by kernel_rfl
abbrev f_cmp_Compare_int64_ : FuncId := 49
def c_cmp_Compare_int64_ : AF := ⟨2, 20, [.t 4],
  (.seq (.reg [⟨(some 4), none, .q (.mv (.c (.int .i64 0)))⟩])
  (.seq (.reg [⟨(some 7), none, .q (.mv (.t 0))⟩,
     ⟨(some 8), none, .c (.call 67 [(.t 7)])⟩,
     ⟨(some 5), none, .q (.mv (.t 8))⟩])
  (.seq (.reg [⟨(some 9), none, .q (.mv (.t 1))⟩,
     ⟨(some 10), none, .c (.call 67 [(.t 9)])⟩,
     ⟨(some 6), none, .q (.mv (.t 10))⟩])
  (.seq (.seq (.reg [⟨(some 11), none, .q (.mv (.t 5))⟩])
   (.cond (.t 11)
    (.seq (.seq (.reg [⟨(some 12), none, .q (.mv (.t 6))⟩])
     (.cond (.t 12)
      (.seq (.reg [⟨(some 4), none, .q (.mv (.c (.int .i64 0)))⟩])
      .ret)
      .skip))
    (.seq (.reg [⟨(some 4), none, .q (.mv (.c (.int .i64 (-1))))⟩])
    .ret))
    .skip))
  (.seq (.seq (.reg [⟨(some 13), none, .q (.mv (.t 6))⟩])
   (.cond (.t 13)
    (.seq (.reg [⟨(some 4), none, .q (.mv (.c (.int .i64 1)))⟩])
    .ret)
    .skip))
  (.seq (.seq (.reg [⟨(some 14), none, .q (.mv (.t 0))⟩,
      ⟨(some 15), none, .q (.mv (.t 1))⟩,
      ⟨(some 16), none, .q (.bin .lss (.t 14) (.t 15))⟩])
   (.cond (.t 16)
    (.seq (.reg [⟨(some 4), none, .q (.mv (.c (.int .i64 (-1))))⟩])
    .ret)
    .skip))
  (.seq (.seq (.reg [⟨(some 17), none, .q (.mv (.t 0))⟩,
      ⟨(some 18), none, .q (.mv (.t 1))⟩,
      ⟨(some 19), none, .q (.bin .gtr (.t 17) (.t 18))⟩])
   (.cond (.t 19)
    (.seq (.reg [⟨(some 4), none, .q (.mv (.c (.int .i64 1)))⟩])
    .ret)
    .skip))
  (.seq (.reg [⟨(some 4), none, .q (.mv (.c (.int .i64 0)))⟩])
  .ret))))))))⟩
theorem l_cmp_Compare_int64_ : lowF PA f_cmp_Compare_int64_ 2 [] = some c_cmp_Compare_int64_ := by kernel_rfl
abbrev f_spec_l01Is : FuncId := 54
def c_spec_l01Is : AF := ⟨1, 26, [.t 2],
  (.seq (.reg [⟨(some 1), none, .m (.box (.t 0))⟩,
     ⟨(some 2), none, .q (.mv (.c (.bool false)))⟩])
  (.seq (.seq (.reg [⟨(some 4), none, .q (.fad 0 (.t 1))⟩,
      ⟨(some 5), none, .q (.ld false 1 (.t 4))⟩,
      ⟨(some 6), none, .q (.len (.t 5))⟩,
      ⟨(some 7), none, .c (.call 55 [(.t 6), (.c (.int .i64 1)), (.c (.int .i64 8))])⟩,
      ⟨(some 8), none, .q (.un .not (.t 7))⟩])
   (.cond (.t 8)
    (.seq (.reg [⟨(some 2), none, .q (.mv (.c (.bool false)))⟩])
    .ret)
    .skip))
  (.seq (.seq (.reg [⟨(some 3), none, .q (.mv (.c (.int .i64 0)))⟩])
   (.block 0 (.loop [1, 3] (.seq (.seq (.reg [⟨(some 9), none, .q (.mv (.t 3))⟩,
         ⟨(some 10), none, .q (.fad 0 (.t 1))⟩,
         ⟨(some 11), none, .q (.ld false 1 (.t 10))⟩,
         ⟨(some 12), none, .q (.len (.t 11))⟩,
         ⟨(some 13), none, .q (.bin .lss (.t 9) (.t 12))⟩])
      (.cond (.t 13)
       .skip
       (.exit 0)))
     (.seq (.block 1 (.seq (.reg [⟨(some 16), none, .q (.fad 0 (.t 1))⟩,
          ⟨(some 17), none, .q (.ld false 1 (.t 16))⟩,
          ⟨(some 18), none, .q (.mv (.t 3))⟩,
          ⟨(some 19), none, .q (.ixs 1 (.t 17) (.t 18))⟩,
          ⟨(some 20), none, .q (.ld false 1 (.t 19))⟩,
          ⟨(some 21), none, .c (.call 55 [(.t 20), (.c (.int .i64 2)), (.c (.int .i64 4))])⟩,
          ⟨(some 22), none, .q (.un .not (.t 21))⟩])
       (.cond (.t 22)
        (.seq (.reg [⟨(some 2), none, .q (.mv (.c (.bool false)))⟩])
        .ret)
        .skip)))
     (.reg [⟨(some 14), none, .q (.mv (.t 3))⟩,
       ⟨(some 15), none, .q (.bin .add (.t 14) (.c (.int .i64 1)))⟩,
       ⟨(some 3), none, .q (.mv (.t 15))⟩]))))))
  (.seq (.reg [⟨(some 23), none, .q (.ld true 1 (.t 1))⟩,
     ⟨(some 24), none, .c (.call 36 [(.t 23)])⟩,
     ⟨(some 25), none, .q (.bin .leq (.t 24) (.c (.int .i64 1024)))⟩,
     ⟨(some 2), none, .q (.mv (.t 25))⟩])
  .ret))))⟩
theorem l_spec_l01Is : lowF PA f_spec_l01Is 1 [.k [1, 3]] = some c_spec_l01Is := by kernel_rfl
abbrev f_spec_l01In : FuncId := 55
def c_spec_l01In : AF := ⟨3, 15, [.t 6],
  (.seq (.reg [⟨(some 6), none, .q (.mv (.c (.bool false)))⟩])
  (.seq (.reg [⟨(some 7), none, .q (.mv (.t 0))⟩,
     ⟨(some 8), none, .q (.mv (.t 1))⟩,
     ⟨(some 9), none, .q (.bin .geq (.t 7) (.t 8))⟩,
     ⟨(some 10), none, .q (.mv (.t 9))⟩,
     ⟨(some 11), (some (10, true)), .q (.mv (.t 0))⟩,
     ⟨(some 12), (some (10, true)), .q (.mv (.t 2))⟩,
     ⟨(some 13), (some (10, true)), .q (.bin .leq (.t 11) (.t 12))⟩,
     ⟨(some 14), none, .q (.pick (.t 10) (.t 13) (.c (.bool false)))⟩,
     ⟨(some 6), none, .q (.mv (.t 14))⟩])
  .ret))⟩
theorem l_spec_l01In : lowF PA f_spec_l01In 3 [] = some c_spec_l01In := by kernel_rfl
abbrev f_spec_l01Distance : FuncId := 56
def c_spec_l01Distance : AF := ⟨3, 49, [.t 6],
  (.seq (.reg [⟨(some 3), none, .m (.box (.t 0))⟩,
     ⟨(some 6), none, .q (.mv (.c (.int .i64 0)))⟩])
  (.seq (.reg [⟨(some 7), none, .q (.mv (.c (.int .i64 0)))⟩])
  (.seq (.seq (.reg [⟨(some 9), none, .q (.fad 0 (.t 3))⟩,
      ⟨(some 10), none, .q (.ld false 1 (.t 9))⟩,
      ⟨(some 11), none, .q (.len (.t 10))⟩,
      ⟨(some 12), none, .q (.bin .sub (.t 11) (.c (.int .i64 1)))⟩,
      ⟨(some 8), none, .q (.mv (.t 12))⟩])
   (.block 0 (.loop [1, 2, 3, 7, 8] (.seq (.seq (.reg [⟨(some 13), none, .q (.mv (.t 8))⟩,
         ⟨(some 14), none, .q (.bin .geq (.t 13) (.c (.int .i64 0)))⟩])
      (.cond (.t 14)
       .skip
       (.exit 0)))
     (.seq (.block 1 (.seq (.seq (.sch (.take 0 ⟨(some 17), none, .q (.mv (.t 1))⟩ (.take 1 ⟨(some 18), none, .q (.fad 0 (.t 3))⟩ (.take 2 ⟨(some 19), none, .q (.ld false 1 (.t 18))⟩ (.take 3 ⟨(some 20), none, .q (.mv (.t 8))⟩ (.take 4 ⟨(some 21), none, .q (.ixs 1 (.t 19) (.t 20))⟩ (.take 5 ⟨(some 22), none, .q (.ld false 1 (.t 21))⟩ (.take 6 ⟨(some 23), none, .q (.bin .rem (.t 17) (.t 22))⟩ (.take 7 ⟨(some 24), none, .q (.mv (.t 2))⟩ (.take 8 ⟨(some 25), none, .q (.fad 0 (.t 3))⟩ (.take 9 ⟨(some 26), none, .q (.ld false 1 (.t 25))⟩ (.take 10 ⟨(some 27), none, .q (.mv (.t 8))⟩ (.take 11 ⟨(some 28), none, .q (.ixs 1 (.t 26) (.t 27))⟩ (.take 12 ⟨(some 29), none, .q (.ld false 1 (.t 28))⟩ (.take 13 ⟨(some 30), none, .q (.bin .rem (.t 24) (.t 29))⟩ (.take 14 ⟨(some 31), none, .q (.bin .neq (.t 23) (.t 30))⟩ .done))))))))))))))))
        (.cond (.t 31)
         (.reg [⟨(some 32), none, .q (.mv (.t 7))⟩,
           ⟨(some 33), none, .q (.bin .add (.t 32) (.c (.int .i64 1)))⟩,
           ⟨(some 7), none, .q (.mv (.t 33))⟩])
         .skip))
       (.seq (.reg [⟨(some 34), none, .q (.mv (.t 1))⟩,
          ⟨(some 35), none, .q (.fad 0 (.t 3))⟩,
          ⟨(some 36), none, .q (.ld false 1 (.t 35))⟩,
          ⟨(some 37), none, .q (.mv (.t 8))⟩,
          ⟨(some 38), none, .q (.ixs 1 (.t 36) (.t 37))⟩,
          ⟨(some 39), none, .q (.ld false 1 (.t 38))⟩,
          ⟨(some 40), none, .q (.bin .quo (.t 34) (.t 39))⟩,
          ⟨(some 1), none, .q (.mv (.t 40))⟩])
       (.reg [⟨(some 41), none, .q (.mv (.t 2))⟩,
         ⟨(some 42), none, .q (.fad 0 (.t 3))⟩,
         ⟨(some 43), none, .q (.ld false 1 (.t 42))⟩,
         ⟨(some 44), none, .q (.mv (.t 8))⟩,
         ⟨(some 45), none, .q (.ixs 1 (.t 43) (.t 44))⟩,
         ⟨(some 46), none, .q (.ld false 1 (.t 45))⟩,
         ⟨(some 47), none, .q (.bin .quo (.t 41) (.t 46))⟩,
         ⟨(some 2), none, .q (.mv (.t 47))⟩]))))
     (.reg [⟨(some 15), none, .q (.mv (.t 8))⟩,
       ⟨(some 16), none, .q (.bin .sub (.t 15) (.c (.int .i64 1)))⟩,
       ⟨(some 8), none, .q (.mv (.t 16))⟩]))))))
  (.seq (.reg [⟨(some 48), none, .q (.mv (.t 7))⟩,
     ⟨(some 6), none, .q (.mv (.t 48))⟩])
  .ret))))⟩
theorem l_spec_l01Distance : lowF PA f_spec_l01Distance 3 [.k [1, 2, 3, 7, 8], .s (.take 0 (.take 1 (.take 2 (.take 3 (.take 4 (.take 5 (.take 6 (.take 7 (.take 8 (.take 9 (.take 10 (.take 11 (.take 12 (.take 13 (.take 14 .done)))))))))))))))] = some c_spec_l01Distance := by kernel_rfl
abbrev f_spec_l01Put : FuncId := 57
def c_spec_l01Put : AF := ⟨2, 46, [.t 4],
  (.seq (.reg [⟨(some 4), none, .q (.mv (.c (.slice none 0 0)))⟩])
  (.seq (.reg [⟨(some 7), none, .q (.mv (.t 0))⟩,
     ⟨(some 8), none, .q (.len (.t 7))⟩,
     ⟨(some 5), none, .q (.mv (.t 8))⟩])
  (.seq (.block 0 (.loop [0, 1, 5] (.seq (.seq (.reg [⟨(some 9), none, .q (.mv (.t 5))⟩,
         ⟨(some 10), none, .q (.bin .gtr (.t 9) (.c (.int .i64 0)))⟩,
         ⟨(some 11), none, .q (.mv (.t 10))⟩,
         ⟨(some 12), (some (11, true)), .q (.mv (.t 0))⟩,
         ⟨(some 13), (some (11, true)), .q (.mv (.t 5))⟩,
         ⟨(some 14), (some (11, true)), .q (.bin .sub (.t 13) (.c (.int .i64 1)))⟩,
         ⟨(some 15), (some (11, true)), .q (.ixs 1 (.t 12) (.t 14))⟩,
         ⟨(some 16), (some (11, true)), .q (.ld false 1 (.t 15))⟩,
         ⟨(some 17), (some (11, true)), .q (.mv (.t 1))⟩,
         ⟨(some 18), (some (11, true)), .q (.bin .gtr (.t 16) (.t 17))⟩,
         ⟨(some 19), none, .q (.pick (.t 11) (.t 18) (.c (.bool false)))⟩])
      (.cond (.t 19)
       .skip
       (.exit 0)))
     (.block 1 (.reg [⟨(some 20), none, .q (.mv (.t 5))⟩,
        ⟨(some 21), none, .q (.bin .sub (.t 20) (.c (.int .i64 1)))⟩,
        ⟨(some 5), none, .q (.mv (.t 21))⟩])))))
  (.seq (.seq (.reg [⟨(some 22), none, .q (.mv (.t 5))⟩,
      ⟨(some 23), none, .q (.bin .gtr (.t 22) (.c (.int .i64 0)))⟩,
      ⟨(some 24), none, .q (.mv (.t 23))⟩,
      ⟨(some 25), (some (24, true)), .q (.mv (.t 0))⟩,
      ⟨(some 26), (some (24, true)), .q (.mv (.t 5))⟩,
      ⟨(some 27), (some (24, true)), .q (.bin .sub (.t 26) (.c (.int .i64 1)))⟩,
      ⟨(some 28), (some (24, true)), .q (.ixs 1 (.t 25) (.t 27))⟩,
      ⟨(some 29), (some (24, true)), .q (.ld false 1 (.t 28))⟩,
      ⟨(some 30), (some (24, true)), .q (.mv (.t 1))⟩,
      ⟨(some 31), (some (24, true)), .q (.bin .eql (.t 29) (.t 30))⟩,
      ⟨(some 32), none, .q (.pick (.t 24) (.t 31) (.c (.bool false)))⟩])
   (.cond (.t 32)
    (.seq (.reg [⟨(some 33), none, .q (.mv (.t 0))⟩,
       ⟨(some 4), none, .q (.mv (.t 33))⟩])
    .ret)
    .skip))
  (.seq (.reg [⟨(some 34), none, .q (.mv (.t 0))⟩,
     ⟨(some 35), none, .q (.mv (.t 5))⟩,
     ⟨(some 36), none, .q (.slc 1 (.t 34) none (some (.t 35)))⟩,
     ⟨(some 37), none, .c (.call 58 [(.t 36)])⟩,
     ⟨(some 38), none, .q (.mv (.t 1))⟩,
     ⟨(some 39), none, .m (.bsl 1 [(.t 38)])⟩,
     ⟨(some 40), none, .m (.app 1 8 (.t 37) (.t 39))⟩,
     ⟨(some 6), none, .q (.mv (.t 40))⟩])
  (.seq (.reg [⟨(some 41), none, .q (.mv (.t 6))⟩,
     ⟨(some 42), none, .q (.mv (.t 0))⟩,
     ⟨(some 43), none, .q (.mv (.t 5))⟩,
     ⟨(some 44), none, .q (.slc 1 (.t 42) (some (.t 43)) none)⟩,
     ⟨(some 45), none, .m (.app 1 8 (.t 41) (.t 44))⟩,
     ⟨(some 4), none, .q (.mv (.t 45))⟩])
  .ret))))))⟩
theorem l_spec_l01Put : lowF PA f_spec_l01Put 2 [.k [0, 1, 5]] = some c_spec_l01Put := by kernel_rfl
abbrev f_spec_l01Own : FuncId := 58
def c_spec_l01Own : AF := ⟨1, 6, [.t 2],
  (.seq (.reg [⟨(some 2), none, .q (.mv (.c (.slice none 0 0)))⟩])
  (.seq (.reg [⟨(some 3), none, .m (.bsl 1 [])⟩,
     ⟨(some 4), none, .q (.mv (.t 0))⟩,
     ⟨(some 5), none, .m (.app 1 8 (.t 3) (.t 4))⟩,
     ⟨(some 2), none, .q (.mv (.t 5))⟩])
  .ret))⟩
theorem l_spec_l01Own : lowF PA f_spec_l01Own 1 [] = some c_spec_l01Own := by kernel_rfl
abbrev f_spec_l06Before : FuncId := 59
def c_spec_l06Before : AF := ⟨2, 30, [.t 4],
  (.seq (.reg [⟨(some 4), none, .q (.mv (.c (.bool false)))⟩])
  (.seq (.seq (.reg [⟨(some 5), none, .q (.mv (.c (.int .i64 0)))⟩])
   (.block 0 (.loop [0, 1, 5] (.seq (.seq (.reg [⟨(some 6), none, .q (.mv (.t 5))⟩,
         ⟨(some 7), none, .q (.mv (.t 0))⟩,
         ⟨(some 8), none, .q (.len (.t 7))⟩,
         ⟨(some 9), none, .q (.bin .lss (.t 6) (.t 8))⟩])
      (.cond (.t 9)
       .skip
       (.exit 0)))
     (.seq (.block 1 (.seq (.sch (.take 0 ⟨(some 12), none, .q (.mv (.t 0))⟩ (.take 1 ⟨(some 13), none, .q (.mv (.t 5))⟩ (.take 2 ⟨(some 14), none, .q (.ixs 1 (.t 12) (.t 13))⟩ (.take 3 ⟨(some 15), none, .q (.ld false 1 (.t 14))⟩ (.take 4 ⟨(some 16), none, .q (.mv (.t 1))⟩ (.take 5 ⟨(some 17), none, .q (.mv (.t 5))⟩ (.take 6 ⟨(some 18), none, .q (.ixs 1 (.t 16) (.t 17))⟩ (.take 7 ⟨(some 19), none, .q (.ld false 1 (.t 18))⟩ (.take 8 ⟨(some 20), none, .q (.bin .neq (.t 15) (.t 19))⟩ .done))))))))))
       (.cond (.t 20)
        (.seq (.sch (.take 0 ⟨(some 21), none, .q (.mv (.t 0))⟩ (.take 1 ⟨(some 22), none, .q (.mv (.t 5))⟩ (.take 2 ⟨(some 23), none, .q (.ixs 1 (.t 21) (.t 22))⟩ (.take 3 ⟨(some 24), none, .q (.ld false 1 (.t 23))⟩ (.take 4 ⟨(some 25), none, .q (.mv (.t 1))⟩ (.take 5 ⟨(some 26), none, .q (.mv (.t 5))⟩ (.take 6 ⟨(some 27), none, .q (.ixs 1 (.t 25) (.t 26))⟩ (.take 7 ⟨(some 28), none, .q (.ld false 1 (.t 27))⟩ (.take 8 ⟨(some 29), none, .q (.bin .lss (.t 24) (.t 28))⟩ (.take 9 ⟨(some 4), none, .q (.mv (.t 29))⟩ .done)))))))))))
        .ret)
        .skip)))
     (.reg [⟨(some 10), none, .q (.mv (.t 5))⟩,
       ⟨(some 11), none, .q (.bin .add (.t 10) (.c (.int .i64 1)))⟩,
       ⟨(some 5), none, .q (.mv (.t 11))⟩]))))))
  (.seq (.reg [⟨(some 4), none, .q (.mv (.c (.bool false)))⟩])
  .ret)))⟩
theorem l_spec_l06Before : lowF PA f_spec_l06Before 2 [.k [0, 1, 5], .s (.take 0 (.take 1 (.take 2 (.take 3 (.take 4 (.take 5 (.take 6 (.take 7 (.take 8 .done))))))))), .s (.take 0 (.take 1 (.take 2 (.take 3 (.take 4 (.take 5 (.take 6 (.take 7 (.take 8 (.take 9 .done))))))))))] = some c_spec_l06Before := by kernel_rfl
abbrev f_impl_digitsOf : FuncId := 60
def c_impl_digitsOf : AF := ⟨2, 34, [.c 4 true 8],
  (.seq (.reg [⟨(some 2), none, .m (.box (.t 0))⟩,
     ⟨(some 4), none, .m (.alloc [(.v (.int .u8 0)), (.v (.int .u8 0)), (.v (.int .u8 0)), (.v (.int .u8 0)), (.v (.int .u8 0)), (.v (.int .u8 0)), (.v (.int .u8 0)), (.v (.int .u8 0))])⟩])
  (.seq (.reg [⟨(some 7), none, .q (.bld [(.v (.int .u8 0)), (.v (.int .u8 0)), (.v (.int .u8 0)), (.v (.int .u8 0)), (.v (.int .u8 0)), (.v (.int .u8 0)), (.v (.int .u8 0)), (.v (.int .u8 0))] [])⟩,
     ⟨(some 5), none, .m (.alloc [(.v (.int .u8 0)), (.v (.int .u8 0)), (.v (.int .u8 0)), (.v (.int .u8 0)), (.v (.int .u8 0)), (.v (.int .u8 0)), (.v (.int .u8 0)), (.v (.int .u8 0))])⟩,
     ⟨none, none, .m (.st true 8 (.t 5) (.t 7))⟩])
  (.seq (.seq (.reg [⟨(some 8), none, .q (.fad 0 (.t 2))⟩,
      ⟨(some 9), none, .q (.ld false 1 (.t 8))⟩,
      ⟨(some 10), none, .q (.len (.t 9))⟩,
      ⟨(some 11), none, .q (.bin .sub (.t 10) (.c (.int .i64 1)))⟩,
      ⟨(some 6), none, .q (.mv (.t 11))⟩])
   (.block 0 (.loop [1, 2, 4, 5, 6] (.seq (.seq (.reg [⟨(some 12), none, .q (.mv (.t 6))⟩,
         ⟨(some 13), none, .q (.bin .geq (.t 12) (.c (.int .i64 0)))⟩])
      (.cond (.t 13)
       .skip
       (.exit 0)))
     (.seq (.block 1 (.seq (.reg [⟨(some 16), none, .q (.mv (.t 6))⟩,
          ⟨(some 17), none, .q (.mv (.t 1))⟩,
          ⟨(some 18), none, .q (.fad 0 (.t 2))⟩,
          ⟨(some 19), none, .q (.ld false 1 (.t 18))⟩,
          ⟨(some 20), none, .q (.mv (.t 6))⟩,
          ⟨(some 21), none, .q (.ixs 1 (.t 19) (.t 20))⟩,
          ⟨(some 22), none, .q (.ld false 1 (.t 21))⟩,
          ⟨(some 23), none, .q (.bin .rem (.t 17) (.t 22))⟩,
          ⟨(some 24), none, .q (.cvt .u8 (.t 23))⟩,
          ⟨(some 25), none, .q (.ixa 8 1 (.t 5) (.t 16))⟩,
          ⟨none, none, .m (.st false 1 (.t 25) (.t 24))⟩])
       (.reg [⟨(some 26), none, .q (.mv (.t 1))⟩,
         ⟨(some 27), none, .q (.fad 0 (.t 2))⟩,
         ⟨(some 28), none, .q (.ld false 1 (.t 27))⟩,
         ⟨(some 29), none, .q (.mv (.t 6))⟩,
         ⟨(some 30), none, .q (.ixs 1 (.t 28) (.t 29))⟩,
         ⟨(some 31), none, .q (.ld false 1 (.t 30))⟩,
         ⟨(some 32), none, .q (.bin .quo (.t 26) (.t 31))⟩,
         ⟨(some 1), none, .q (.mv (.t 32))⟩])))
     (.reg [⟨(some 14), none, .q (.mv (.t 6))⟩,
       ⟨(some 15), none, .q (.bin .sub (.t 14) (.c (.int .i64 1)))⟩,
       ⟨(some 6), none, .q (.mv (.t 15))⟩]))))))
  (.seq (.reg [⟨(some 33), none, .q (.ld true 8 (.t 5))⟩,
     ⟨none, none, .m (.st true 8 (.t 4) (.t 33))⟩])
  .ret))))⟩
theorem l_impl_digitsOf : lowF PA f_impl_digitsOf 2 [.k [1, 2, 4, 5, 6]] = some c_impl_digitsOf := by kernel_rfl
abbrev f_impl_those : FuncId := 61
def c_impl_those : AF := ⟨2, 26, [.t 4],
  (.seq (.reg [⟨(some 2), none, .m (.box (.t 0))⟩,
     ⟨(some 4), none, .q (.mv (.c (.slice none 0 0)))⟩])
  (.seq (.reg [⟨(some 8), none, .m (.bsl 1 [])⟩,
     ⟨(some 5), none, .q (.mv (.t 8))⟩])
  (.seq (.seq (.reg [⟨(some 9), none, .q (.ld true 1 (.t 2))⟩,
      ⟨(some 10), none, .c (.call 68 [(.t 9)])⟩,
      ⟨(some 11), none, .q (.len (.t 10))⟩,
      ⟨(some 12), none, .q (.mv (.c (.int .i64 0)))⟩])
   (.block 0 (.loop [1, 5, 10, 11, 12] (.seq (.reg [⟨(some 13), none, .q (.bin .lss (.t 12) (.t 11))⟩])
     (.seq (.cond (.t 13)
       .skip
       (.exit 0))
     (.seq (.block 1 (.seq (.reg [⟨(some 14), none, .q (.mv (.t 12))⟩,
          ⟨(some 15), none, .q (.ixs 8 (.t 10) (.t 12))⟩,
          ⟨(some 16), none, .q (.ld true 8 (.t 15))⟩,
          ⟨(some 7), none, .m (.alloc [(.v (.int .u8 0)), (.v (.int .u8 0)), (.v (.int .u8 0)), (.v (.int .u8 0)), (.v (.int .u8 0)), (.v (.int .u8 0)), (.v (.int .u8 0)), (.v (.int .u8 0))])⟩,
          ⟨(some 6), none, .q (.mv (.t 14))⟩,
          ⟨none, none, .m (.st true 8 (.t 7) (.t 16))⟩])
       (.seq (.reg [⟨(some 17), none, .q (.mv (.t 1))⟩,
          ⟨(some 18), none, .q (.ld true 8 (.t 7))⟩,
          ⟨(some 19), none, .c (.cav (.t 17) [(.t 18)])⟩])
       (.cond (.t 19)
        (.reg [⟨(some 20), none, .q (.mv (.t 5))⟩,
          ⟨(some 21), none, .q (.mv (.t 6))⟩,
          ⟨(some 22), none, .m (.bsl 1 [(.t 21)])⟩,
          ⟨(some 23), none, .m (.app 1 8 (.t 20) (.t 22))⟩,
          ⟨(some 5), none, .q (.mv (.t 23))⟩])
        .skip))))
     (.reg [⟨(some 24), none, .q (.bin .add (.t 12) (.c (.int .i64 1)))⟩,
       ⟨(some 12), none, .q (.mv (.t 24))⟩])))))))
  (.seq (.reg [⟨(some 25), none, .q (.mv (.t 5))⟩,
     ⟨(some 4), none, .q (.mv (.t 25))⟩])
  .ret))))⟩
theorem l_impl_those : lowF PA f_impl_those 2 [.k [1, 5, 10, 11, 12]] = some c_impl_those := by kernel_rfl
abbrev f_impl_ball_1 : FuncId := 62
def c_impl_ball_1 : AF := ⟨3, 10, [.t 4],
  (.seq (.reg [⟨(some 3), none, .m (.box (.t 0))⟩,
     ⟨(some 4), none, .q (.mv (.c (.bool false)))⟩])
  (.seq (.sch (.take 0 ⟨(some 5), none, .q (.ld true 8 (.t 1))⟩ (.take 1 ⟨(some 6), none, .q (.ld true 8 (.t 3))⟩ (.take 3 ⟨(some 8), none, .q (.ld false 1 (.t 2))⟩ (.one ⟨(some 7), none, .c (.call 63 [(.t 5), (.t 6)])⟩ [1, 0] (.take 4 ⟨(some 9), none, .q (.bin .leq (.t 7) (.t 8))⟩ (.take 5 ⟨(some 4), none, .q (.mv (.t 9))⟩ .done)))))))
  .ret))⟩
theorem l_impl_ball_1 : lowF PA f_impl_ball_1 3 [.s (.take 0 (.take 1 (.take 3 (.one 2 (.take 4 (.take 5 .done))))))] = some c_impl_ball_1 := by kernel_rfl
abbrev f_impl_far : FuncId := 63
def c_impl_far : AF := ⟨2, 22, [.t 4],
  (.seq (.reg [⟨(some 2), none, .m (.box (.t 0))⟩,
     ⟨(some 3), none, .m (.box (.t 1))⟩,
     ⟨(some 4), none, .q (.mv (.c (.int .i64 0)))⟩])
  (.seq (.reg [⟨(some 5), none, .q (.mv (.c (.int .i64 0)))⟩])
  (.seq (.seq (.reg [⟨(some 8), none, .q (.ld true 8 (.t 2))⟩,
      ⟨(some 9), none, .q (.mv (.c (.int .i64 0)))⟩])
   (.block 0 (.loop [3, 5, 8, 9] (.seq (.reg [⟨(some 10), none, .q (.bin .lss (.t 9) (.c (.int .i64 8)))⟩])
     (.seq (.cond (.t 10)
       .skip
       (.exit 0))
     (.seq (.block 1 (.seq (.reg [⟨(some 11), none, .q (.mv (.t 9))⟩,
          ⟨(some 12), none, .q (.ixv 8 (.t 8) (.t 9))⟩,
          ⟨(some 6), none, .q (.mv (.t 11))⟩,
          ⟨(some 7), none, .q (.mv (.t 12))⟩])
       (.seq (.reg [⟨(some 13), none, .q (.mv (.t 7))⟩,
          ⟨(some 14), none, .q (.mv (.t 6))⟩,
          ⟨(some 15), none, .q (.ixa 8 1 (.t 3) (.t 14))⟩,
          ⟨(some 16), none, .q (.ld false 1 (.t 15))⟩,
          ⟨(some 17), none, .q (.bin .neq (.t 13) (.t 16))⟩])
       (.cond (.t 17)
        (.reg [⟨(some 18), none, .q (.mv (.t 5))⟩,
          ⟨(some 19), none, .q (.bin .add (.t 18) (.c (.int .i64 1)))⟩,
          ⟨(some 5), none, .q (.mv (.t 19))⟩])
        .skip))))
     (.reg [⟨(some 20), none, .q (.bin .add (.t 9) (.c (.int .i64 1)))⟩,
       ⟨(some 9), none, .q (.mv (.t 20))⟩])))))))
  (.seq (.reg [⟨(some 21), none, .q (.mv (.t 5))⟩,
     ⟨(some 4), none, .q (.mv (.t 21))⟩])
  .ret))))⟩
theorem l_impl_far : lowF PA f_impl_far 2 [.k [3, 5, 8, 9]] = some c_impl_far := by kernel_rfl
abbrev f_slices_pdqsortOrdered_int64_ : FuncId := 64
abbrev f_math_bits_Len : FuncId := 65
abbrev f_slices_IndexFunc___int64_int64_ : FuncId := 66
def c_slices_IndexFunc___int64_int64_ : AF := ⟨2, 19, [.t 4],
  (.seq (.reg [⟨(some 4), none, .q (.mv (.c (.int .i64 0)))⟩])
  (.seq (.seq (.reg [⟨(some 6), none, .q (.mv (.t 0))⟩,
      ⟨(some 7), none, .q (.len (.t 6))⟩,
      ⟨(some 8), none, .q (.mv (.c (.int .i64 0)))⟩])
   (.block 0 (.loop [0, 1, 7, 8] (.seq (.reg [⟨(some 9), none, .q (.bin .lss (.t 8) (.t 7))⟩])
     (.seq (.cond (.t 9)
       .skip
       (.exit 0))
     (.seq (.block 1 (.seq (.reg [⟨(some 10), none, .q (.mv (.t 8))⟩,
          ⟨(some 5), none, .q (.mv (.t 10))⟩])
       (.seq (.reg [⟨(some 11), none, .q (.mv (.t 1))⟩,
          ⟨(some 12), none, .q (.mv (.t 0))⟩,
          ⟨(some 13), none, .q (.mv (.t 5))⟩,
          ⟨(some 14), none, .q (.ixs 1 (.t 12) (.t 13))⟩,
          ⟨(some 15), none, .q (.ld false 1 (.t 14))⟩,
          ⟨(some 16), none, .c (.cav (.t 11) [(.t 15)])⟩])
       (.cond (.t 16)
        (.seq (.reg [⟨(some 17), none, .q (.mv (.t 5))⟩,
           ⟨(some 4), none, .q (.mv (.t 17))⟩])
        .ret)
        .skip))))
     (.reg [⟨(some 18), none, .q (.bin .add (.t 8) (.c (.int .i64 1)))⟩,
       ⟨(some 8), none, .q (.mv (.t 18))⟩])))))))
  (.seq (.reg [⟨(some 4), none, .q (.mv (.c (.int .i64 (-1))))⟩])
  .ret)))⟩
theorem l_slices_IndexFunc___int64_int64_ : lowF PA f_slices_IndexFunc___int64_int64_ 2 [.k [0, 1, 7, 8]] = some c_slices_IndexFunc___int64_int64_ := by kernel_rfl
abbrev f_cmp_isNaN_int64_ : FuncId := 67
def c_cmp_isNaN_int64_ : AF := ⟨1, 6, [.t 2],
  (.seq (.reg [⟨(some 2), none, .q (.mv (.c (.bool false)))⟩])
  (.seq (.reg [⟨(some 3), none, .q (.mv (.t 0))⟩,
     ⟨(some 4), none, .q (.mv (.t 0))⟩,
     ⟨(some 5), none, .q (.bin .neq (.t 3) (.t 4))⟩,
     ⟨(some 2), none, .q (.mv (.t 5))⟩])
  .ret))⟩
theorem l_cmp_isNaN_int64_ : lowF PA f_cmp_isNaN_int64_ 1 [] = some c_cmp_isNaN_int64_ := by kernel_rfl
abbrev f_impl_allDigits : FuncId := 68
def c_impl_allDigits : AF := ⟨1, 19, [.t 2],
  (.seq (.reg [⟨(some 1), none, .m (.box (.t 0))⟩,
     ⟨(some 2), none, .q (.mv (.c (.slice none 0 0)))⟩])
  (.seq (.reg [⟨(some 5), none, .m (.bsl 8 [])⟩,
     ⟨(some 3), none, .q (.mv (.t 5))⟩])
  (.seq (.seq (.reg [⟨(some 6), none, .q (.ld true 1 (.t 1))⟩,
      ⟨(some 7), none, .c (.call 41 [(.t 6)])⟩,
      ⟨(some 8), none, .q (.mv (.c (.int .i64 0)))⟩])
   (.block 0 (.loop [1, 3, 7, 8] (.seq (.reg [⟨(some 9), none, .q (.bin .lss (.t 8) (.t 7))⟩])
     (.seq (.cond (.t 9)
       .skip
       (.exit 0))
     (.seq (.block 1 (.seq (.reg [⟨(some 10), none, .q (.mv (.t 8))⟩,
          ⟨(some 4), none, .q (.mv (.t 10))⟩])
       (.reg [⟨(some 11), none, .q (.mv (.t 3))⟩,
         ⟨(some 12), none, .q (.ld true 1 (.t 1))⟩,
         ⟨(some 13), none, .q (.mv (.t 4))⟩,
         ⟨(some 14), none, .c (.call 60 [(.t 12), (.t 13)])⟩,
         ⟨(some 15), none, .m (.bsl 8 [(.t 14)])⟩,
         ⟨(some 16), none, .m (.app 8 8 (.t 11) (.t 15))⟩,
         ⟨(some 3), none, .q (.mv (.t 16))⟩])))
     (.reg [⟨(some 17), none, .q (.bin .add (.t 8) (.c (.int .i64 1)))⟩,
       ⟨(some 8), none, .q (.mv (.t 17))⟩])))))))
  (.seq (.reg [⟨(some 18), none, .q (.mv (.t 3))⟩,
     ⟨(some 2), none, .q (.mv (.t 18))⟩])
  .ret))))⟩
theorem l_impl_allDigits : lowF PA f_impl_allDigits 1 [.k [1, 3, 7, 8]] = some c_impl_allDigits := by kernel_rfl
abbrev f_slices_insertionSortOrdered_int64_ : FuncId := 69
abbrev f_slices_heapSortOrdered_int64_ : FuncId := 70
abbrev f_slices_breakPatternsOrdered_int64_ : FuncId := 71
abbrev f_slices_choosePivotOrdered_int64_ : FuncId := 72
abbrev f_slices_reverseRangeOrdered_int64_ : FuncId := 73
abbrev f_slices_partialInsertionSortOrdered_int64_ : FuncId := 74
abbrev f_cmp_Less_int64_ : FuncId := 75
abbrev f_slices_partitionEqualOrdered_int64_ : FuncId := 76
abbrev f_slices_partitionOrdered_int64_ : FuncId := 77
abbrev f_math_bits_Len32 : FuncId := 78
abbrev f_math_bits_Len64 : FuncId := 79
abbrev f_slices_siftDownOrdered_int64_ : FuncId := 80
abbrev f_slices_nextPowerOfTwo : FuncId := 81
abbrev f___slices_xorshift__Next : FuncId := 82
abbrev f_slices_medianAdjacentOrdered_int64_ : FuncId := 83
abbrev f_slices_medianOrdered_int64_ : FuncId := 84
abbrev f_slices_order2Ordered_int64_ : FuncId := 85
def sort_ren : Go.Shelf.Ren := ⟨fun | 5 => 46 | 8 => 65 | 7 => 64 | 19 => 78 | 20 => 79 | 10 => 69 | 11 => 70 | 12 => 71 | 13 => 72 | 14 => 73 | 15 => 74 | 16 => 75 | 17 => 76 | 18 => 77 | 30 => 80 | 31 => 81 | 32 => 82 | 33 => 83 | 34 => 84 | 35 => 67 | 40 => 85 | n => n, fun | 23 => 22 | 25 => 2 | 3 => 3 | 32 => 74 | 22 => 22 | 0 => 0 | 44 => 88 | 46 => 60 | 4 => 4 | 36 => 80 | 35 => 79 | 41 => 85 | 5 => 5 | 9 => 9 | 53 => 89 | 57 => 93 | 63 => 95 | 64 => 96 | n => n, fun | n => n⟩
theorem sort_lay : Go.Proofs.SlLaysM.n5 Try.prog sort_ren := {
  mixed := by kernel_rfl
  f5 := ⟨Try.f46.name, by decide, Try.func46.trans (congrArg some (by kernel_rfl))⟩
  f7 := ⟨Try.f64.name, by decide, Try.func64.trans (congrArg some (by kernel_rfl))⟩
  f8 := Try.func65.trans (congrArg some (by kernel_rfl))
  f10 := ⟨Try.f69.name, by decide, Try.func69.trans (congrArg some (by kernel_rfl))⟩
  f11 := ⟨Try.f70.name, by decide, Try.func70.trans (congrArg some (by kernel_rfl))⟩
  f12 := ⟨Try.f71.name, by decide, Try.func71.trans (congrArg some (by kernel_rfl))⟩
  f13 := ⟨Try.f72.name, by decide, Try.func72.trans (congrArg some (by kernel_rfl))⟩
  f14 := ⟨Try.f73.name, by decide, Try.func73.trans (congrArg some (by kernel_rfl))⟩
  f15 := ⟨Try.f74.name, by decide, Try.func74.trans (congrArg some (by kernel_rfl))⟩
  f16 := ⟨Try.f75.name, by decide, Try.func75.trans (congrArg some (by kernel_rfl))⟩
  f17 := ⟨Try.f76.name, by decide, Try.func76.trans (congrArg some (by kernel_rfl))⟩
  f18 := ⟨Try.f77.name, by decide, Try.func77.trans (congrArg some (by kernel_rfl))⟩
  f19 := Try.func78.trans (congrArg some (by kernel_rfl))
  f20 := Try.func79.trans (congrArg some (by kernel_rfl))
  f30 := ⟨Try.f80.name, by decide, Try.func80.trans (congrArg some (by kernel_rfl))⟩
  f31 := Try.func81.trans (congrArg some (by kernel_rfl))
  f32 := Try.func82.trans (congrArg some (by kernel_rfl))
  f33 := ⟨Try.f83.name, by decide, Try.func83.trans (congrArg some (by kernel_rfl))⟩
  f34 := ⟨Try.f84.name, by decide, Try.func84.trans (congrArg some (by kernel_rfl))⟩
  f35 := ⟨Try.f67.name, by decide, Try.func67.trans (congrArg some (by kernel_rfl))⟩
  f40 := ⟨Try.f85.name, by decide, Try.func85.trans (congrArg some (by kernel_rfl))⟩
  t0 := Try.underlying0
  a0 := Try.isAgg0
  z0 := Try.sizeOf0
  v0 := Try.zeroValue0
  t3 := Try.underlying3
  a3 := Try.isAgg3
  z3 := Try.sizeOf3
  v3 := Try.zeroValue3
  t4 := Try.underlying4
  a4 := Try.isAgg4
  z4 := Try.sizeOf4
  v4 := Try.zeroValue4
  t5 := Try.underlying5
  a5 := Try.isAgg5
  z5 := Try.sizeOf5
  v5 := Try.zeroValue5
  t9 := Try.underlying9
  a9 := Try.isAgg9
  z9 := Try.sizeOf9
  v9 := Try.zeroValue9
  t22 := Try.underlying22
  a22 := Try.isAgg22
  z22 := Try.sizeOf22
  v22 := Try.zeroValue22
  t23 := Try.underlying22
  a23 := Try.isAgg22
  z23 := Try.sizeOf22
  v23 := Try.zeroValue22
  t25 := Try.underlying2
  a25 := Try.isAgg2
  z25 := Try.sizeOf2
  v25 := Try.zeroValue2
  t32 := Try.underlying74
  a32 := Try.isAgg74
  z32 := Try.sizeOf74
  v32 := Try.zeroValue74
  t35 := Try.underlying79
  a35 := Try.isAgg79
  z35 := Try.sizeOf79
  v35 := Try.zeroValue79
  t36 := Try.underlying80
  a36 := Try.isAgg80
  z36 := Try.sizeOf80
  v36 := Try.zeroValue80
  t41 := Try.underlying85
  a41 := Try.isAgg85
  z41 := Try.sizeOf85
  v41 := Try.zeroValue85
  t44 := Try.underlying88
  a44 := Try.isAgg88
  z44 := Try.sizeOf88
  v44 := Try.zeroValue88
  t46 := Try.underlying60
  a46 := Try.isAgg60
  z46 := Try.sizeOf60
  v46 := Try.zeroValue60
  t53 := Try.underlying89
  a53 := Try.isAgg89
  z53 := Try.sizeOf89
  v53 := Try.zeroValue89
  t57 := Try.underlying93
  a57 := Try.isAgg93
  z57 := Try.sizeOf93
  v57 := Try.zeroValue93
  t63 := Try.underlying95
  a63 := Try.isAgg95
  z63 := Try.sizeOf95
  v63 := Try.zeroValue95
  t64 := Try.underlying96
  a64 := Try.isAgg96
  z64 := Try.sizeOf96
  v64 := Try.zeroValue96 }
theorem sort_calls : SortCalls PA f_slices_Sort___int64_int64_ := fun blk off cap zs w h1 h2 h3 => AnyM.slices_Sort_int sort_lay blk off cap zs w h1 h2 h3
end Go.Proofs.Ytaigdomjaglifaa.Va
