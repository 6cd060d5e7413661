/- The code of the functions that FnExactSwitchBundle reaches, laid out for a walk: each is what the lowering makes of the program's own text. Condition: none. -/
import Derived.Shelf.SortM.Plain
import Derived.Test.YtmaipkohkfikeaaVa2
import Derived.Test.YtmaipkohkfikeaaProg
import Derived.KernelRfl
set_option linter.all false
set_option linter.unusedSimpArgs false
set_option linter.unusedVariables false
namespace Go.Proofs.Ytmaipkohkfikeaa.Va
open Go
noncomputable abbrev PA : Program := Go.Proofs.Try.prog
abbrev f_laws_FnExactSwitchBundle : FuncId := 4
def c_laws_FnExactSwitchBundle : AF := ⟨4, 127, [.t 8],
  (.seq (.reg [⟨(some 4), none, .m (.box (.t 0))⟩,
     ⟨(some 8), none, .q (.mv (.c (.bool false)))⟩])
  (.seq (.seq (.reg [⟨(some 21), none, .q (.mv (.t 1))⟩,
      ⟨(some 22), none, .q (.len (.t 21))⟩,
      ⟨(some 23), none, .q (.bin .gtr (.t 22) (.c (.int .i64 1048576)))⟩])
   (.cond (.t 23)
    (.seq (.reg [⟨(some 8), none, .q (.mv (.c (.bool true)))⟩])
    .ret)
    .skip))
  (.seq (.reg [⟨(some 9), none, .q (.mv (.c (.int .i64 1048576)))⟩])
  (.seq (.reg [⟨(some 24), none, .q (.ld true 1 (.t 4))⟩,
     ⟨(some 25), none, .q (.mv (.t 9))⟩,
     ⟨(some 26), none, .c (.call 8 [(.t 24), (.t 25)])⟩,
     ⟨(some 9), none, .q (.mv (.t 26))⟩])
  (.seq (.seq (.reg [⟨(some 27), none, .q (.mv (.t 9))⟩,
      ⟨(some 28), none, .q (.bin .lss (.t 27) (.c (.int .i64 0)))⟩])
   (.cond (.t 28)
    (.seq (.reg [⟨(some 8), none, .q (.mv (.c (.bool true)))⟩])
    .ret)
    .skip))
  (.seq (.reg [⟨(some 30), none, .q (.ld true 1 (.t 4))⟩,
     ⟨(some 31), none, .c (.call 10 [(.t 30)])⟩,
     ⟨(some 32), none, .q (.mv (.t 1))⟩,
     ⟨(some 33), none, .c (.call 11 [(.t 32)])⟩,
     ⟨(some 34), none, .q (.mv (.t 2))⟩,
     ⟨(some 35), none, .q (.mv (.t 3))⟩,
     ⟨(some 36), none, .c (.call 18 [(.t 31), (.t 33), (.t 34), (.t 35)])⟩,
     ⟨(some 29), none, .q (.mv (.t 36))⟩,
     ⟨(some 37), none, .q (.ext (.t 29) 0)⟩,
     ⟨(some 38), none, .q (.ext (.t 29) 1)⟩,
     ⟨(some 10), none, .q (.mv (.t 37))⟩,
     ⟨(some 11), none, .q (.mv (.t 38))⟩])
  (.seq (.reg [⟨(some 39), none, .q (.ld true 1 (.t 4))⟩,
     ⟨(some 40), none, .c (.call 10 [(.t 39)])⟩,
     ⟨(some 12), none, .m (.alloc [(.v (.slice none 0 0))])⟩,
     ⟨none, none, .m (.st true 1 (.t 12) (.t 40))⟩])
  (.seq (.reg [⟨(some 41), none, .q (.mv (.t 1))⟩,
     ⟨(some 42), none, .c (.call 11 [(.t 41)])⟩,
     ⟨(some 13), none, .q (.mv (.t 42))⟩])
  (.seq (.reg [⟨(some 44), none, .q (.ld true 1 (.t 12))⟩,
     ⟨(some 45), none, .q (.mv (.t 13))⟩,
     ⟨(some 46), none, .q (.mv (.t 2))⟩,
     ⟨(some 47), none, .q (.mv (.t 3))⟩,
     ⟨(some 48), none, .c (.call 19 [(.t 44), (.t 45), (.t 46), (.t 47)])⟩,
     ⟨(some 43), none, .q (.mv (.t 48))⟩,
     ⟨(some 49), none, .q (.ext (.t 43) 0)⟩,
     ⟨(some 50), none, .q (.ext (.t 43) 1)⟩,
     ⟨(some 14), none, .q (.mv (.t 49))⟩,
     ⟨(some 15), none, .q (.mv (.t 50))⟩])
  (.seq (.seq (.reg [⟨(some 51), none, .q (.mv (.t 14))⟩,
      ⟨(some 52), none, .q (.mv (.t 10))⟩,
      ⟨(some 53), none, .c (.call 13 [(.t 51), (.t 52)])⟩,
      ⟨(some 54), none, .q (.un .not (.t 53))⟩,
      ⟨(some 55), none, .q (.mv (.t 54))⟩,
      ⟨(some 56), (some (55, false)), .q (.mv (.t 15))⟩,
      ⟨(some 57), (some (55, false)), .q (.mv (.t 11))⟩,
      ⟨(some 58), (some (55, false)), .q (.bin .neq (.t 56) (.t 57))⟩,
      ⟨(some 59), none, .q (.pick (.t 55) (.c (.bool true)) (.t 58))⟩])
   (.cond (.t 59)
    (.seq (.reg [⟨(some 8), none, .q (.mv (.c (.bool false)))⟩])
    .ret)
    .skip))
  (.seq (.seq (.sch (.take 0 ⟨(some 60), none, .q (.ld true 1 (.t 12))⟩ (.take 1 ⟨(some 61), none, .q (.ld true 1 (.t 4))⟩ (.one ⟨(some 62), none, .c (.call 10 [(.t 61)])⟩ [1] (.one ⟨(some 63), none, .c (.call 14 [(.t 60), (.t 62)])⟩ [0] (.take 4 ⟨(some 64), none, .q (.un .not (.t 63))⟩ .done))))))
   (.cond (.t 64)
    (.seq (.reg [⟨(some 8), none, .q (.mv (.c (.bool false)))⟩])
    .ret)
    .skip))
  (.seq (.seq (.reg [⟨(some 65), none, .q (.mv (.t 13))⟩,
      ⟨(some 66), none, .q (.mv (.t 1))⟩,
      ⟨(some 67), none, .c (.call 11 [(.t 66)])⟩,
      ⟨(some 68), none, .c (.call 13 [(.t 65), (.t 67)])⟩,
      ⟨(some 69), none, .q (.un .not (.t 68))⟩])
   (.cond (.t 69)
    (.seq (.reg [⟨(some 8), none, .q (.mv (.c (.bool false)))⟩])
    .ret)
    .skip))
  (.seq (.reg [⟨(some 16), none, .q (.mv (.c (.int .i64 1)))⟩])
  (.seq (.reg [⟨(some 70), none, .q (.ld true 1 (.t 12))⟩,
     ⟨(some 71), none, .q (.mv (.t 16))⟩,
     ⟨(some 72), none, .c (.call 15 [(.t 70), (.t 71)])⟩,
     ⟨(some 16), none, .q (.mv (.t 72))⟩])
  (.seq (.reg [⟨(some 73), none, .q (.mv (.t 13))⟩,
     ⟨(some 74), none, .q (.mv (.t 16))⟩,
     ⟨(some 75), none, .c (.call 16 [(.t 73), (.t 74)])⟩,
     ⟨(some 16), none, .q (.mv (.t 75))⟩])
  (.seq (.seq (.reg [⟨(some 76), none, .q (.mv (.t 16))⟩,
      ⟨(some 77), none, .q (.bin .lss (.t 76) (.c (.int .i64 0)))⟩,
      ⟨(some 78), none, .q (.mv (.t 77))⟩,
      ⟨(some 79), (some (78, false)), .q (.mv (.t 14))⟩,
      ⟨(some 80), (some (78, false)), .q (.mv (.t 10))⟩,
      ⟨(some 81), (some (78, false)), .c (.call 13 [(.t 79), (.t 80)])⟩,
      ⟨(some 82), (some (78, false)), .q (.un .not (.t 81))⟩,
      ⟨(some 83), none, .q (.pick (.t 78) (.c (.bool true)) (.t 82))⟩,
      ⟨(some 84), none, .q (.mv (.t 83))⟩,
      ⟨(some 85), (some (84, false)), .q (.mv (.t 15))⟩,
      ⟨(some 86), (some (84, false)), .q (.mv (.t 11))⟩,
      ⟨(some 87), (some (84, false)), .q (.bin .neq (.t 85) (.t 86))⟩,
      ⟨(some 88), none, .q (.pick (.t 84) (.c (.bool true)) (.t 87))⟩])
   (.cond (.t 88)
    (.seq (.reg [⟨(some 8), none, .q (.mv (.c (.bool false)))⟩])
    .ret)
    .skip))
  (.seq (.reg [⟨(some 17), none, .q (.mv (.c (.int .i64 1)))⟩])
  (.seq (.reg [⟨(some 89), none, .q (.mv (.t 14))⟩,
     ⟨(some 90), none, .q (.mv (.t 17))⟩,
     ⟨(some 91), none, .c (.call 16 [(.t 89), (.t 90)])⟩,
     ⟨(some 17), none, .q (.mv (.t 91))⟩])
  (.seq (.reg [⟨(some 18), none, .q (.mv (.c (.int .i64 1)))⟩])
  (.seq (.reg [⟨(some 92), none, .q (.mv (.t 14))⟩,
     ⟨(some 93), none, .q (.mv (.t 18))⟩,
     ⟨(some 94), none, .c (.call 17 [(.t 92), (.t 93)])⟩,
     ⟨(some 18), none, .q (.mv (.t 94))⟩])
  (.seq (.seq (.reg [⟨(some 95), none, .q (.mv (.t 18))⟩,
      ⟨(some 96), none, .q (.bin .lss (.t 95) (.c (.int .i64 0)))⟩])
   (.cond (.t 96)
    (.seq (.reg [⟨(some 8), none, .q (.mv (.c (.bool false)))⟩])
    .ret)
    .skip))
  (.seq (.seq (.reg [⟨(some 97), none, .q (.mv (.t 18))⟩,
      ⟨(some 98), none, .q (.mv (.t 17))⟩,
      ⟨(some 99), none, .q (.bin .neq (.t 97) (.t 98))⟩])
   (.cond (.t 99)
    (.seq (.reg [⟨(some 8), none, .q (.mv (.c (.bool false)))⟩])
    .ret)
    .skip))
  (.seq (.reg [⟨(some 101), none, .q (.ld true 1 (.t 4))⟩,
     ⟨(some 102), none, .c (.call 10 [(.t 101)])⟩,
     ⟨(some 103), none, .q (.mv (.t 1))⟩,
     ⟨(some 104), none, .c (.call 11 [(.t 103)])⟩,
     ⟨(some 105), none, .q (.mv (.t 2))⟩,
     ⟨(some 106), none, .q (.mv (.t 3))⟩,
     ⟨(some 107), none, .c (.call 19 [(.t 102), (.t 104), (.t 105), (.t 106)])⟩,
     ⟨(some 100), none, .q (.mv (.t 107))⟩,
     ⟨(some 108), none, .q (.ext (.t 100) 0)⟩,
     ⟨(some 109), none, .q (.ext (.t 100) 1)⟩,
     ⟨(some 19), none, .q (.mv (.t 108))⟩,
     ⟨(some 20), none, .q (.mv (.t 109))⟩])
  (.seq (.seq (.reg [⟨(some 110), none, .q (.mv (.t 19))⟩,
      ⟨(some 111), none, .q (.mv (.t 10))⟩,
      ⟨(some 112), none, .c (.call 13 [(.t 110), (.t 111)])⟩,
      ⟨(some 113), none, .q (.un .not (.t 112))⟩,
      ⟨(some 114), none, .q (.mv (.t 113))⟩,
      ⟨(some 115), (some (114, false)), .q (.mv (.t 20))⟩,
      ⟨(some 116), (some (114, false)), .q (.mv (.t 11))⟩,
      ⟨(some 117), (some (114, false)), .q (.bin .neq (.t 115) (.t 116))⟩,
      ⟨(some 118), none, .q (.pick (.t 114) (.c (.bool true)) (.t 117))⟩])
   (.cond (.t 118)
    (.seq (.reg [⟨(some 8), none, .q (.mv (.c (.bool false)))⟩])
    .ret)
    .skip))
  (.seq (.reg [⟨(some 18), none, .q (.mv (.c (.int .i64 1)))⟩])
  (.seq (.reg [⟨(some 119), none, .q (.mv (.t 14))⟩,
     ⟨(some 120), none, .q (.mv (.t 18))⟩,
     ⟨(some 121), none, .c (.call 17 [(.t 119), (.t 120)])⟩,
     ⟨(some 18), none, .q (.mv (.t 121))⟩])
  (.seq (.seq (.reg [⟨(some 122), none, .q (.mv (.t 18))⟩,
      ⟨(some 123), none, .q (.bin .lss (.t 122) (.c (.int .i64 0)))⟩])
   (.cond (.t 123)
    (.seq (.reg [⟨(some 8), none, .q (.mv (.c (.bool false)))⟩])
    .ret)
    .skip))
  (.seq (.seq (.reg [⟨(some 124), none, .q (.mv (.t 18))⟩,
      ⟨(some 125), none, .q (.mv (.t 17))⟩,
      ⟨(some 126), none, .q (.bin .neq (.t 124) (.t 125))⟩])
   (.cond (.t 126)
    (.seq (.reg [⟨(some 8), none, .q (.mv (.c (.bool false)))⟩])
    .ret)
    .skip))
  (.seq (.reg [⟨(some 8), none, .q (.mv (.c (.bool true)))⟩])
  .ret)))))))))))))))))))))))))))))⟩
theorem l_laws_FnExactSwitchBundle : lowF PA f_laws_FnExactSwitchBundle 4 [.s (.take 0 (.take 1 (.one 2 (.one 3 (.take 4 .done)))))] = some c_laws_FnExactSwitchBundle := by kernel_rfl
abbrev f_laws_szSpace : FuncId := 8
def c_laws_szSpace : AF := ⟨2, 12, [.t 4],
  (.seq (.reg [⟨(some 2), none, .m (.box (.t 0))⟩,
     ⟨(some 4), none, .q (.mv (.c (.int .i64 0)))⟩])
  (.seq (.reg [⟨(some 5), none, .q (.fad 0 (.t 2))⟩,
     ⟨(some 6), none, .q (.ld false 1 (.t 5))⟩,
     ⟨(some 7), none, .q (.mv (.t 1))⟩,
     ⟨(some 8), none, .c (.call 26 [(.t 6), (.t 7)])⟩,
     ⟨(some 1), none, .q (.mv (.t 8))⟩])
  (.seq (.seq (.reg [⟨(some 9), none, .q (.mv (.t 1))⟩,
      ⟨(some 10), none, .q (.bin .lss (.t 9) (.c (.int .i64 0)))⟩])
   (.cond (.t 10)
    (.seq (.reg [⟨(some 4), none, .q (.mv (.c (.int .i64 (-1))))⟩])
    .ret)
    .skip))
  (.seq (.reg [⟨(some 11), none, .q (.mv (.t 1))⟩,
     ⟨(some 4), none, .q (.mv (.t 11))⟩])
  .ret))))⟩
theorem l_laws_szSpace : lowF PA f_laws_szSpace 2 [] = some c_laws_szSpace := by kernel_rfl
abbrev f_laws_toSpace : FuncId := 10
def c_laws_toSpace : AF := ⟨1, 9, [.c 2 true 1],
  (.seq (.reg [⟨(some 1), none, .m (.box (.t 0))⟩,
     ⟨(some 2), none, .m (.alloc [(.v (.slice none 0 0))])⟩])
  (.seq (.reg [⟨(some 3), none, .m (.alloc [(.v (.slice none 0 0))])⟩])
  (.seq (.reg [⟨(some 4), none, .q (.fad 0 (.t 1))⟩,
     ⟨(some 5), none, .q (.ld false 1 (.t 4))⟩,
     ⟨(some 6), none, .c (.call 11 [(.t 5)])⟩,
     ⟨(some 7), none, .q (.fad 0 (.t 3))⟩,
     ⟨none, none, .m (.st false 1 (.t 7) (.t 6))⟩])
  (.seq (.reg [⟨(some 8), none, .q (.ld true 1 (.t 3))⟩,
     ⟨none, none, .m (.st true 1 (.t 2) (.t 8))⟩])
  .ret))))⟩
theorem l_laws_toSpace : lowF PA f_laws_toSpace 1 [] = some c_laws_toSpace := by kernel_rfl
abbrev f_laws_toInt64S : FuncId := 11
def c_laws_toInt64S : AF := ⟨1, 22, [.t 2],
  (.seq (.reg [⟨(some 2), none, .q (.mv (.c (.slice none 0 0)))⟩])
  (.seq (.reg [⟨(some 5), none, .q (.mv (.t 0))⟩,
     ⟨(some 6), none, .q (.len (.t 5))⟩,
     ⟨(some 7), none, .m (.mks 1 (.v (.int .i64 0)) 8 (.t 6) (.t 6))⟩,
     ⟨(some 3), none, .q (.mv (.t 7))⟩])
  (.seq (.seq (.reg [⟨(some 4), none, .q (.mv (.c (.int .i64 0)))⟩])
   (.block 0 (.loop [0, 3, 4] (.seq (.seq (.reg [⟨(some 8), none, .q (.mv (.t 4))⟩,
         ⟨(some 9), none, .q (.mv (.t 0))⟩,
         ⟨(some 10), none, .q (.len (.t 9))⟩,
         ⟨(some 11), none, .q (.bin .lss (.t 8) (.t 10))⟩])
      (.cond (.t 11)
       .skip
       (.exit 0)))
     (.seq (.block 1 (.reg [⟨(some 14), none, .q (.mv (.t 3))⟩,
         ⟨(some 15), none, .q (.mv (.t 4))⟩,
         ⟨(some 16), none, .q (.mv (.t 0))⟩,
         ⟨(some 17), none, .q (.mv (.t 4))⟩,
         ⟨(some 18), none, .q (.ixs 1 (.t 16) (.t 17))⟩,
         ⟨(some 19), none, .q (.ld false 1 (.t 18))⟩,
         ⟨(some 20), none, .q (.ixs 1 (.t 14) (.t 15))⟩,
         ⟨none, none, .m (.st false 1 (.t 20) (.t 19))⟩]))
     (.reg [⟨(some 12), none, .q (.mv (.t 4))⟩,
       ⟨(some 13), none, .q (.bin .add (.t 12) (.c (.int .i64 1)))⟩,
       ⟨(some 4), none, .q (.mv (.t 13))⟩]))))))
  (.seq (.reg [⟨(some 21), none, .q (.mv (.t 3))⟩,
     ⟨(some 2), none, .q (.mv (.t 21))⟩])
  .ret))))⟩
theorem l_laws_toInt64S : lowF PA f_laws_toInt64S 1 [.k [0, 3, 4]] = some c_laws_toInt64S := by kernel_rfl
abbrev f_laws_eqInt64S : FuncId := 13
def c_laws_eqInt64S : AF := ⟨2, 26, [.t 4],
  (.seq (.reg [⟨(some 4), none, .q (.mv (.c (.bool false)))⟩])
  (.seq (.seq (.reg [⟨(some 6), none, .q (.mv (.t 0))⟩,
      ⟨(some 7), none, .q (.len (.t 6))⟩,
      ⟨(some 8), none, .q (.mv (.t 1))⟩,
      ⟨(some 9), none, .q (.len (.t 8))⟩,
      ⟨(some 10), none, .q (.bin .neq (.t 7) (.t 9))⟩])
   (.cond (.t 10)
    (.seq (.reg [⟨(some 4), none, .q (.mv (.c (.bool false)))⟩])
    .ret)
    .skip))
  (.seq (.seq (.reg [⟨(some 5), none, .q (.mv (.c (.int .i64 0)))⟩])
   (.block 0 (.loop [0, 1, 5] (.seq (.seq (.reg [⟨(some 11), none, .q (.mv (.t 5))⟩,
         ⟨(some 12), none, .q (.mv (.t 0))⟩,
         ⟨(some 13), none, .q (.len (.t 12))⟩,
         ⟨(some 14), none, .q (.bin .lss (.t 11) (.t 13))⟩])
      (.cond (.t 14)
       .skip
       (.exit 0)))
     (.seq (.block 1 (.seq (.sch (.take 0 ⟨(some 17), none, .q (.mv (.t 0))⟩ (.take 1 ⟨(some 18), none, .q (.mv (.t 5))⟩ (.take 2 ⟨(some 19), none, .q (.ixs 1 (.t 17) (.t 18))⟩ (.take 3 ⟨(some 20), none, .q (.ld false 1 (.t 19))⟩ (.take 4 ⟨(some 21), none, .q (.mv (.t 1))⟩ (.take 5 ⟨(some 22), none, .q (.mv (.t 5))⟩ (.take 6 ⟨(some 23), none, .q (.ixs 1 (.t 21) (.t 22))⟩ (.take 7 ⟨(some 24), none, .q (.ld false 1 (.t 23))⟩ (.take 8 ⟨(some 25), none, .q (.bin .neq (.t 20) (.t 24))⟩ .done))))))))))
       (.cond (.t 25)
        (.seq (.reg [⟨(some 4), none, .q (.mv (.c (.bool false)))⟩])
        .ret)
        .skip)))
     (.reg [⟨(some 15), none, .q (.mv (.t 5))⟩,
       ⟨(some 16), none, .q (.bin .add (.t 15) (.c (.int .i64 1)))⟩,
       ⟨(some 5), none, .q (.mv (.t 16))⟩]))))))
  (.seq (.reg [⟨(some 4), none, .q (.mv (.c (.bool true)))⟩])
  .ret))))⟩
theorem l_laws_eqInt64S : lowF PA f_laws_eqInt64S 2 [.k [0, 1, 5], .s (.take 0 (.take 1 (.take 2 (.take 3 (.take 4 (.take 5 (.take 6 (.take 7 (.take 8 .done)))))))))] = some c_laws_eqInt64S := by kernel_rfl
abbrev f_laws_eqSpace : FuncId := 14
def c_laws_eqSpace : AF := ⟨2, 11, [.t 4],
  (.seq (.reg [⟨(some 2), none, .m (.box (.t 0))⟩,
     ⟨(some 3), none, .m (.box (.t 1))⟩,
     ⟨(some 4), none, .q (.mv (.c (.bool false)))⟩])
  (.seq (.seq (.reg [⟨(some 5), none, .q (.fad 0 (.t 2))⟩,
      ⟨(some 6), none, .q (.ld false 1 (.t 5))⟩,
      ⟨(some 7), none, .q (.fad 0 (.t 3))⟩,
      ⟨(some 8), none, .q (.ld false 1 (.t 7))⟩,
      ⟨(some 9), none, .c (.call 13 [(.t 6), (.t 8)])⟩,
      ⟨(some 10), none, .q (.un .not (.t 9))⟩])
   (.cond (.t 10)
    (.seq (.reg [⟨(some 4), none, .q (.mv (.c (.bool false)))⟩])
    .ret)
    .skip))
  (.seq (.reg [⟨(some 4), none, .q (.mv (.c (.bool true)))⟩])
  .ret)))⟩
theorem l_laws_eqSpace : lowF PA f_laws_eqSpace 2 [] = some c_laws_eqSpace := by kernel_rfl
abbrev f_laws_markSpace : FuncId := 15
def c_laws_markSpace : AF := ⟨2, 10, [.t 4],
  (.seq (.reg [⟨(some 2), none, .m (.box (.t 0))⟩,
     ⟨(some 4), none, .q (.mv (.c (.int .i64 0)))⟩])
  (.seq (.reg [⟨(some 5), none, .q (.fad 0 (.t 2))⟩,
     ⟨(some 6), none, .q (.ld false 1 (.t 5))⟩,
     ⟨(some 7), none, .q (.mv (.t 1))⟩,
     ⟨(some 8), none, .c (.call 16 [(.t 6), (.t 7)])⟩,
     ⟨(some 1), none, .q (.mv (.t 8))⟩])
  (.seq (.reg [⟨(some 9), none, .q (.mv (.t 1))⟩,
     ⟨(some 4), none, .q (.mv (.t 9))⟩])
  .ret)))⟩
theorem l_laws_markSpace : lowF PA f_laws_markSpace 2 [] = some c_laws_markSpace := by kernel_rfl
abbrev f_laws_markInt64S : FuncId := 16
def c_laws_markInt64S : AF := ⟨2, 19, [.t 4],
  (.seq (.reg [⟨(some 4), none, .q (.mv (.c (.int .i64 0)))⟩])
  (.seq (.seq (.reg [⟨(some 5), none, .q (.mv (.c (.int .i64 0)))⟩])
   (.block 0 (.loop [0, 1, 5, 19] (.seq (.seq (.reg [⟨(some 6), none, .q (.mv (.t 5))⟩,
         ⟨(some 7), none, .q (.mv (.t 0))⟩,
         ⟨(some 8), none, .q (.len (.t 7))⟩,
         ⟨(some 9), none, .q (.bin .lss (.t 6) (.t 8))⟩])
      (.cond (.t 9)
       .skip
       (.exit 0)))
     (.seq (.block 1 (.seq (.reg [⟨(some 12), none, .q (.mv (.t 0))⟩,
          ⟨(some 13), none, .q (.mv (.t 5))⟩,
          ⟨(some 14), none, .q (.mv (.t 1))⟩,
          ⟨(some 15), none, .q (.ixs 1 (.t 12) (.t 13))⟩,
          ⟨none, none, .m (.st false 1 (.t 15) (.t 14))⟩])
       (.reg [⟨(some 16), none, .q (.mv (.t 1))⟩,
         ⟨(some 17), none, .q (.bin .add (.t 16) (.c (.int .i64 1)))⟩,
         ⟨(some 1), none, .q (.mv (.t 17))⟩])))
     (.reg [⟨(some 10), none, .q (.mv (.t 5))⟩,
       ⟨(some 11), none, .q (.bin .add (.t 10) (.c (.int .i64 1)))⟩,
       ⟨(some 5), none, .q (.mv (.t 11))⟩]))))))
  (.seq (.reg [⟨(some 18), none, .q (.mv (.t 1))⟩,
     ⟨(some 4), none, .q (.mv (.t 18))⟩])
  .ret)))⟩
theorem l_laws_markInt64S : lowF PA f_laws_markInt64S 2 [.k [0, 1, 5, 19]] = some c_laws_markInt64S := by kernel_rfl
abbrev f_laws_heldInt64S : FuncId := 17
def c_laws_heldInt64S : AF := ⟨2, 21, [.t 4],
  (.seq (.reg [⟨(some 4), none, .q (.mv (.c (.int .i64 0)))⟩])
  (.seq (.seq (.reg [⟨(some 5), none, .q (.mv (.c (.int .i64 0)))⟩])
   (.block 0 (.loop [0, 1, 5] (.seq (.seq (.reg [⟨(some 6), none, .q (.mv (.t 5))⟩,
         ⟨(some 7), none, .q (.mv (.t 0))⟩,
         ⟨(some 8), none, .q (.len (.t 7))⟩,
         ⟨(some 9), none, .q (.bin .lss (.t 6) (.t 8))⟩])
      (.cond (.t 9)
       .skip
       (.exit 0)))
     (.seq (.block 1 (.seq (.seq (.reg [⟨(some 12), none, .q (.mv (.t 0))⟩,
           ⟨(some 13), none, .q (.mv (.t 5))⟩,
           ⟨(some 14), none, .q (.ixs 1 (.t 12) (.t 13))⟩,
           ⟨(some 15), none, .q (.ld false 1 (.t 14))⟩,
           ⟨(some 16), none, .q (.mv (.t 1))⟩,
           ⟨(some 17), none, .q (.bin .neq (.t 15) (.t 16))⟩])
        (.cond (.t 17)
         (.seq (.reg [⟨(some 4), none, .q (.mv (.c (.int .i64 (-1))))⟩])
         .ret)
         .skip))
       (.reg [⟨(some 18), none, .q (.mv (.t 1))⟩,
         ⟨(some 19), none, .q (.bin .add (.t 18) (.c (.int .i64 1)))⟩,
         ⟨(some 1), none, .q (.mv (.t 19))⟩])))
     (.reg [⟨(some 10), none, .q (.mv (.t 5))⟩,
       ⟨(some 11), none, .q (.bin .add (.t 10) (.c (.int .i64 1)))⟩,
       ⟨(some 5), none, .q (.mv (.t 11))⟩]))))))
  (.seq (.reg [⟨(some 20), none, .q (.mv (.t 1))⟩,
     ⟨(some 4), none, .q (.mv (.t 20))⟩])
  .ret)))⟩
theorem l_laws_heldInt64S : lowF PA f_laws_heldInt64S 2 [.k [0, 1, 5]] = some c_laws_heldInt64S := by kernel_rfl
abbrev f_spec_SwitchBundle : FuncId := 18
def c_spec_SwitchBundle : AF := ⟨4, 61, [.t 8, .t 9],
  (.seq (.reg [⟨(some 4), none, .m (.box (.t 0))⟩,
     ⟨(some 8), none, .q (.mv (.c (.slice none 0 0)))⟩,
     ⟨(some 9), none, .q (.mv (.c (.int .i64 0)))⟩])
  (.seq (.seq (.reg [⟨(some 16), none, .q (.ld true 1 (.t 4))⟩,
      ⟨(some 17), none, .q (.mv (.t 1))⟩,
      ⟨(some 18), none, .q (.mv (.t 2))⟩,
      ⟨(some 19), none, .q (.mv (.t 3))⟩,
      ⟨(some 20), none, .c (.call 27 [(.t 16), (.t 17), (.t 18), (.t 19)])⟩,
      ⟨(some 10), none, .q (.mv (.t 20))⟩])
   (.seq (.reg [⟨(some 21), none, .q (.mv (.t 10))⟩,
      ⟨(some 22), none, .q (.bin .neq (.t 21) (.c (.int .i64 0)))⟩])
   (.cond (.t 22)
    (.seq (.reg [⟨(some 23), none, .q (.mv (.t 10))⟩,
       ⟨(some 8), none, .q (.mv (.c (.slice none 0 0)))⟩,
       ⟨(some 9), none, .q (.mv (.t 23))⟩])
    .ret)
    .skip)))
  (.seq (.reg [⟨(some 24), none, .q (.ld true 1 (.t 4))⟩,
     ⟨(some 25), none, .q (.mv (.t 1))⟩,
     ⟨(some 26), none, .q (.mv (.t 2))⟩,
     ⟨(some 27), none, .q (.mv (.t 3))⟩,
     ⟨(some 28), none, .c (.call 28 [(.t 24), (.t 25), (.t 26), (.t 27)])⟩,
     ⟨(some 29), none, .m (.bsl 1 [])⟩,
     ⟨(some 11), none, .q (.mv (.t 28))⟩,
     ⟨(some 12), none, .q (.mv (.t 29))⟩])
  (.seq (.seq (.reg [⟨(some 13), none, .q (.mv (.c (.int .i64 0)))⟩])
   (.block 0 (.loop [1, 3, 4, 11, 12, 13] (.seq (.seq (.reg [⟨(some 30), none, .q (.mv (.t 13))⟩,
         ⟨(some 31), none, .q (.mv (.t 1))⟩,
         ⟨(some 32), none, .q (.len (.t 31))⟩,
         ⟨(some 33), none, .q (.bin .lss (.t 30) (.t 32))⟩])
      (.cond (.t 33)
       .skip
       (.exit 0)))
     (.seq (.block 1 (.seq (.reg [⟨(some 36), none, .q (.mv (.t 1))⟩,
          ⟨(some 37), none, .q (.mv (.t 13))⟩,
          ⟨(some 38), none, .q (.ixs 1 (.t 36) (.t 37))⟩,
          ⟨(some 39), none, .q (.ld false 1 (.t 38))⟩,
          ⟨(some 14), none, .q (.mv (.t 39))⟩])
       (.seq (.seq (.reg [⟨(some 40), none, .q (.mv (.t 11))⟩,
           ⟨(some 41), none, .q (.mv (.t 14))⟩,
           ⟨(some 42), none, .c (.call 31 [(.t 40), (.t 41)])⟩])
        (.cond (.t 42)
         (.seq (.reg [⟨(some 43), none, .q (.ld true 1 (.t 4))⟩,
            ⟨(some 44), none, .q (.mv (.t 14))⟩,
            ⟨(some 45), none, .c (.call 32 [(.t 43), (.t 44)])⟩,
            ⟨(some 15), none, .q (.mv (.t 45))⟩])
         (.seq (.reg [⟨(some 46), none, .q (.mv (.t 15))⟩,
            ⟨(some 47), none, .q (.mv (.t 3))⟩,
            ⟨(some 48), none, .q (.mv (.t 15))⟩,
            ⟨(some 49), none, .q (.mv (.t 3))⟩,
            ⟨(some 50), none, .q (.ixs 1 (.t 48) (.t 49))⟩,
            ⟨(some 51), none, .q (.ld false 1 (.t 50))⟩,
            ⟨(some 52), none, .q (.bin .sub (.c (.int .i64 1)) (.t 51))⟩,
            ⟨(some 53), none, .q (.ixs 1 (.t 46) (.t 47))⟩,
            ⟨none, none, .m (.st false 1 (.t 53) (.t 52))⟩])
         (.reg [⟨(some 54), none, .q (.ld true 1 (.t 4))⟩,
           ⟨(some 55), none, .q (.mv (.t 15))⟩,
           ⟨(some 56), none, .c (.call 33 [(.t 54), (.t 55)])⟩,
           ⟨(some 14), none, .q (.mv (.t 56))⟩])))
         .skip))
       (.reg [⟨(some 57), none, .q (.mv (.t 12))⟩,
         ⟨(some 58), none, .q (.mv (.t 14))⟩,
         ⟨(some 59), none, .c (.call 34 [(.t 57), (.t 58)])⟩,
         ⟨(some 12), none, .q (.mv (.t 59))⟩]))))
     (.reg [⟨(some 34), none, .q (.mv (.t 13))⟩,
       ⟨(some 35), none, .q (.bin .add (.t 34) (.c (.int .i64 1)))⟩,
       ⟨(some 13), none, .q (.mv (.t 35))⟩]))))))
  (.seq (.reg [⟨(some 60), none, .q (.mv (.t 12))⟩,
     ⟨(some 8), none, .q (.mv (.t 60))⟩,
     ⟨(some 9), none, .q (.mv (.c (.int .i64 0)))⟩])
  .ret)))))⟩
theorem l_spec_SwitchBundle : lowF PA f_spec_SwitchBundle 4 [.k [1, 3, 4, 11, 12, 13]] = some c_spec_SwitchBundle := by kernel_rfl
abbrev f_impl_SwitchBundle : FuncId := 19
def c_impl_SwitchBundle : AF := ⟨4, 28, [.t 8, .t 9],
  (.seq (.reg [⟨(some 4), none, .m (.box (.t 0))⟩,
     ⟨(some 7), none, .m (.box (.t 3))⟩,
     ⟨(some 8), none, .q (.mv (.c (.slice none 0 0)))⟩,
     ⟨(some 9), none, .q (.mv (.c (.int .i64 0)))⟩])
  (.seq (.seq (.reg [⟨(some 12), none, .q (.ld true 1 (.t 4))⟩,
      ⟨(some 13), none, .q (.mv (.t 1))⟩,
      ⟨(some 14), none, .q (.mv (.t 2))⟩,
      ⟨(some 15), none, .q (.ld false 1 (.t 7))⟩,
      ⟨(some 16), none, .c (.call 29 [(.t 12), (.t 13), (.t 14), (.t 15)])⟩,
      ⟨(some 10), none, .q (.mv (.t 16))⟩])
   (.seq (.reg [⟨(some 17), none, .q (.mv (.t 10))⟩,
      ⟨(some 18), none, .q (.bin .neq (.t 17) (.c (.int .i64 0)))⟩])
   (.cond (.t 18)
    (.seq (.reg [⟨(some 19), none, .q (.mv (.t 10))⟩,
       ⟨(some 8), none, .q (.mv (.c (.slice none 0 0)))⟩,
       ⟨(some 9), none, .q (.mv (.t 19))⟩])
    .ret)
    .skip)))
  (.seq (.reg [⟨(some 20), none, .q (.ld true 1 (.t 4))⟩,
     ⟨(some 21), none, .q (.mv (.t 1))⟩,
     ⟨(some 22), none, .q (.mv (.t 2))⟩,
     ⟨(some 23), none, .q (.ld false 1 (.t 7))⟩,
     ⟨(some 24), none, .c (.call 30 [(.t 20), (.t 21), (.t 22), (.t 23)])⟩,
     ⟨(some 11), none, .m (.alloc [(.v (.slice none 0 0))])⟩,
     ⟨none, none, .m (.st false 1 (.t 11) (.t 24))⟩])
  (.seq (.reg [⟨(some 25), none, .q (.mv (.t 1))⟩,
     ⟨(some 26), none, .q (.mkf 36 [(.t 4), (.t 11), (.t 7)])⟩,
     ⟨(some 27), none, .c (.call 35 [(.t 25), (.t 26)])⟩,
     ⟨(some 8), none, .q (.mv (.t 27))⟩,
     ⟨(some 9), none, .q (.mv (.c (.int .i64 0)))⟩])
  .ret))))⟩
theorem l_impl_SwitchBundle : lowF PA f_impl_SwitchBundle 4 [] = some c_impl_SwitchBundle := by kernel_rfl
abbrev f_laws_szInt64S : FuncId := 26
def c_laws_szInt64S : AF := ⟨2, 12, [.t 4],
  (.seq (.reg [⟨(some 4), none, .q (.mv (.c (.int .i64 0)))⟩])
  (.seq (.reg [⟨(some 5), none, .q (.mv (.t 1))⟩,
     ⟨(some 6), none, .q (.mv (.t 0))⟩,
     ⟨(some 7), none, .q (.len (.t 6))⟩,
     ⟨(some 8), none, .q (.bin .sub (.t 5) (.t 7))⟩,
     ⟨(some 1), none, .q (.mv (.t 8))⟩])
  (.seq (.seq (.reg [⟨(some 9), none, .q (.mv (.t 1))⟩,
      ⟨(some 10), none, .q (.bin .lss (.t 9) (.c (.int .i64 0)))⟩])
   (.cond (.t 10)
    (.seq (.reg [⟨(some 4), none, .q (.mv (.c (.int .i64 (-1))))⟩])
    .ret)
    .skip))
  (.seq (.reg [⟨(some 11), none, .q (.mv (.t 1))⟩,
     ⟨(some 4), none, .q (.mv (.t 11))⟩])
  .ret))))⟩
theorem l_laws_szInt64S : lowF PA f_laws_szInt64S 2 [] = some c_laws_szInt64S := by kernel_rfl
abbrev f_spec_l06Given : FuncId := 27
def c_spec_l06Given : AF := ⟨4, 59, [.t 8],
  (.seq (.reg [⟨(some 4), none, .m (.box (.t 0))⟩,
     ⟨(some 8), none, .q (.mv (.c (.int .i64 0)))⟩])
  (.seq (.reg [⟨(some 11), none, .q (.ld true 1 (.t 4))⟩,
     ⟨(some 12), none, .q (.mv (.t 1))⟩,
     ⟨(some 13), none, .c (.call 53 [(.t 11), (.t 12)])⟩,
     ⟨(some 9), none, .q (.mv (.t 13))⟩])
  (.seq (.seq (.reg [⟨(some 14), none, .q (.mv (.t 9))⟩,
      ⟨(some 15), none, .q (.bin .eql (.t 14) (.c (.int .i64 0)))⟩,
      ⟨(some 16), none, .q (.mv (.t 15))⟩,
      ⟨(some 17), (some (16, true)), .q (.mv (.t 2))⟩,
      ⟨(some 18), (some (16, true)), .q (.ld true 1 (.t 4))⟩,
      ⟨(some 19), (some (16, true)), .c (.call 55 [(.t 18)])⟩,
      ⟨(some 20), (some (16, true)), .q (.bin .sub (.t 19) (.c (.int .i64 1)))⟩,
      ⟨(some 21), (some (16, true)), .c (.call 54 [(.t 17), (.c (.int .i64 0)), (.t 20)])⟩,
      ⟨(some 22), (some (16, true)), .q (.un .not (.t 21))⟩,
      ⟨(some 23), (some (16, true)), .q (.mv (.t 22))⟩,
      ⟨(some 24), (some (23, false)), .q (.mv (.t 3))⟩,
      ⟨(some 25), (some (23, false)), .q (.fad 0 (.t 4))⟩,
      ⟨(some 26), (some (23, false)), .q (.ld false 1 (.t 25))⟩,
      ⟨(some 27), (some (23, false)), .q (.len (.t 26))⟩,
      ⟨(some 28), (some (23, false)), .q (.bin .sub (.t 27) (.c (.int .i64 1)))⟩,
      ⟨(some 29), (some (23, false)), .c (.call 54 [(.t 24), (.c (.int .i64 0)), (.t 28)])⟩,
      ⟨(some 30), (some (23, false)), .q (.un .not (.t 29))⟩,
      ⟨(some 31), (some (16, true)), .q (.pick (.t 23) (.c (.bool true)) (.t 30))⟩,
      ⟨(some 32), none, .q (.pick (.t 16) (.t 31) (.c (.bool false)))⟩])
   (.cond (.t 32)
    (.reg [⟨(some 9), none, .q (.mv (.c (.int .i64 2)))⟩])
    .skip))
  (.seq (.seq (.reg [⟨(some 33), none, .q (.mv (.t 9))⟩,
      ⟨(some 34), none, .q (.bin .neq (.t 33) (.c (.int .i64 0)))⟩])
   (.cond (.t 34)
    (.seq (.reg [⟨(some 35), none, .q (.mv (.t 9))⟩,
       ⟨(some 8), none, .q (.mv (.t 35))⟩])
    .ret)
    .skip))
  (.seq (.seq (.reg [⟨(some 10), none, .q (.mv (.c (.int .i64 0)))⟩])
   (.block 0 (.loop [1, 2, 4, 10] (.seq (.seq (.reg [⟨(some 36), none, .q (.mv (.t 10))⟩,
         ⟨(some 37), none, .q (.fad 0 (.t 4))⟩,
         ⟨(some 38), none, .q (.ld false 1 (.t 37))⟩,
         ⟨(some 39), none, .q (.len (.t 38))⟩,
         ⟨(some 40), none, .q (.bin .lss (.t 36) (.t 39))⟩])
      (.cond (.t 40)
       .skip
       (.exit 0)))
     (.seq (.block 1 (.seq (.reg [⟨(some 43), none, .q (.fad 0 (.t 4))⟩,
          ⟨(some 44), none, .q (.ld false 1 (.t 43))⟩,
          ⟨(some 45), none, .q (.mv (.t 10))⟩,
          ⟨(some 46), none, .q (.ixs 1 (.t 44) (.t 45))⟩,
          ⟨(some 47), none, .q (.ld false 1 (.t 46))⟩,
          ⟨(some 48), none, .q (.bin .neq (.t 47) (.c (.int .i64 2)))⟩])
       (.cond (.t 48)
        (.seq (.reg [⟨(some 8), none, .q (.mv (.c (.int .i64 5)))⟩])
        .ret)
        .skip)))
     (.reg [⟨(some 41), none, .q (.mv (.t 10))⟩,
       ⟨(some 42), none, .q (.bin .add (.t 41) (.c (.int .i64 1)))⟩,
       ⟨(some 10), none, .q (.mv (.t 42))⟩]))))))
  (.seq (.seq (.reg [⟨(some 49), none, .q (.ld true 1 (.t 4))⟩,
      ⟨(some 50), none, .q (.mv (.t 1))⟩,
      ⟨(some 51), none, .c (.call 56 [(.t 49), (.t 50), (.c (.int .i64 1))])⟩,
      ⟨(some 52), none, .q (.un .not (.t 51))⟩,
      ⟨(some 53), none, .q (.mv (.t 52))⟩,
      ⟨(some 54), (some (53, false)), .q (.mv (.t 1))⟩,
      ⟨(some 55), (some (53, false)), .q (.mv (.t 2))⟩,
      ⟨(some 56), (some (53, false)), .c (.call 31 [(.t 54), (.t 55)])⟩,
      ⟨(some 57), (some (53, false)), .q (.un .not (.t 56))⟩,
      ⟨(some 58), none, .q (.pick (.t 53) (.c (.bool true)) (.t 57))⟩])
   (.cond (.t 58)
    (.seq (.reg [⟨(some 8), none, .q (.mv (.c (.int .i64 5)))⟩])
    .ret)
    .skip))
  (.seq (.reg [⟨(some 8), none, .q (.mv (.c (.int .i64 0)))⟩])
  .ret)))))))⟩
theorem l_spec_l06Given : lowF PA f_spec_l06Given 4 [.k [1, 2, 4, 10]] = some c_spec_l06Given := by kernel_rfl
abbrev f_spec_l06Bundle : FuncId := 28
def c_spec_l06Bundle : AF := ⟨4, 86, [.t 8],
  (.seq (.reg [⟨(some 4), none, .m (.box (.t 0))⟩,
     ⟨(some 8), none, .q (.mv (.c (.slice none 0 0)))⟩])
  (.seq (.reg [⟨(some 14), none, .q (.mv (.t 2))⟩,
     ⟨(some 15), none, .m (.bsl 1 [(.t 14)])⟩,
     ⟨(some 16), none, .q (.mv (.t 2))⟩,
     ⟨(some 17), none, .m (.bsl 1 [(.t 16)])⟩,
     ⟨(some 9), none, .q (.mv (.t 15))⟩,
     ⟨(some 10), none, .q (.mv (.t 17))⟩])
  (.seq (.seq (.reg [⟨(some 11), none, .q (.mv (.c (.int .i64 0)))⟩])
   (.block 0 (.loop [1, 3, 4, 9, 10, 11] (.seq (.seq (.reg [⟨(some 18), none, .q (.mv (.t 11))⟩,
         ⟨(some 19), none, .q (.mv (.t 10))⟩,
         ⟨(some 20), none, .q (.len (.t 19))⟩,
         ⟨(some 21), none, .q (.bin .lss (.t 18) (.t 20))⟩])
      (.cond (.t 21)
       .skip
       (.exit 0)))
     (.seq (.block 1 (.seq (.reg [⟨(some 12), none, .q (.mv (.c (.int .i64 0)))⟩])
       (.block 2 (.loop [1, 3, 4, 9, 10, 11, 12] (.seq (.seq (.reg [⟨(some 24), none, .q (.mv (.t 12))⟩,
             ⟨(some 25), none, .q (.mv (.t 1))⟩,
             ⟨(some 26), none, .q (.len (.t 25))⟩,
             ⟨(some 27), none, .q (.bin .lss (.t 24) (.t 26))⟩])
          (.cond (.t 27)
           .skip
           (.exit 2)))
         (.seq (.block 3 (.seq (.sch (.take 0 ⟨(some 30), none, .q (.ld true 1 (.t 4))⟩ (.take 1 ⟨(some 31), none, .q (.mv (.t 10))⟩ (.take 2 ⟨(some 32), none, .q (.mv (.t 11))⟩ (.take 3 ⟨(some 33), none, .q (.ixs 1 (.t 31) (.t 32))⟩ (.take 4 ⟨(some 34), none, .q (.ld false 1 (.t 33))⟩ (.take 5 ⟨(some 35), none, .q (.mv (.t 1))⟩ (.take 6 ⟨(some 36), none, .q (.mv (.t 12))⟩ (.take 7 ⟨(some 37), none, .q (.ixs 1 (.t 35) (.t 36))⟩ (.take 8 ⟨(some 38), none, .q (.ld false 1 (.t 37))⟩ (.one ⟨(some 39), none, .c (.call 42 [(.t 30), (.t 34), (.t 38)])⟩ [8, 4, 0] (.take 10 ⟨(some 40), none, .q (.bin .eql (.t 39) (.c (.int .i64 3)))⟩ (.take 11 ⟨(some 41), none, .q (.mv (.t 40))⟩ (.take 12 ⟨(some 42), (some (41, true)), .q (.ld true 1 (.t 4))⟩ (.take 13 ⟨(some 43), (some (41, true)), .q (.mv (.t 10))⟩ (.take 14 ⟨(some 44), (some (41, true)), .q (.mv (.t 11))⟩ (.take 15 ⟨(some 45), (some (41, true)), .q (.ixs 1 (.t 43) (.t 44))⟩ (.take 16 ⟨(some 46), (some (41, true)), .q (.ld false 1 (.t 45))⟩ (.take 18 ⟨(some 48), (some (41, true)), .q (.mv (.t 3))⟩ (.take 21 ⟨(some 51), (some (41, true)), .q (.ld true 1 (.t 4))⟩ (.take 22 ⟨(some 52), (some (41, true)), .q (.mv (.t 1))⟩ (.take 23 ⟨(some 53), (some (41, true)), .q (.mv (.t 12))⟩ (.take 24 ⟨(some 54), (some (41, true)), .q (.ixs 1 (.t 52) (.t 53))⟩ (.take 25 ⟨(some 55), (some (41, true)), .q (.ld false 1 (.t 54))⟩ (.take 27 ⟨(some 57), (some (41, true)), .q (.mv (.t 3))⟩ (.one ⟨(some 47), (some (41, true)), .c (.call 32 [(.t 42), (.t 46)])⟩ [16, 12] (.take 19 ⟨(some 49), (some (41, true)), .q (.ixs 1 (.t 47) (.t 48))⟩ (.take 20 ⟨(some 50), (some (41, true)), .q (.ld false 1 (.t 49))⟩ (.one ⟨(some 56), (some (41, true)), .c (.call 32 [(.t 51), (.t 55)])⟩ [25, 21] (.take 28 ⟨(some 58), (some (41, true)), .q (.ixs 1 (.t 56) (.t 57))⟩ (.take 29 ⟨(some 59), (some (41, true)), .q (.ld false 1 (.t 58))⟩ (.take 30 ⟨(some 60), (some (41, true)), .q (.bin .neq (.t 50) (.t 59))⟩ (.take 31 ⟨(some 61), none, .q (.pick (.t 41) (.t 60) (.c (.bool false)))⟩ (.take 32 ⟨(some 13), none, .q (.mv (.t 61))⟩ .done))))))))))))))))))))))))))))))))))
           (.seq (.reg [⟨(some 62), none, .q (.mv (.t 13))⟩,
              ⟨(some 63), none, .q (.mv (.t 62))⟩,
              ⟨(some 64), (some (63, true)), .q (.mv (.t 9))⟩,
              ⟨(some 65), (some (63, true)), .q (.mv (.t 1))⟩,
              ⟨(some 66), (some (63, true)), .q (.mv (.t 12))⟩,
              ⟨(some 67), (some (63, true)), .q (.ixs 1 (.t 65) (.t 66))⟩,
              ⟨(some 68), (some (63, true)), .q (.ld false 1 (.t 67))⟩,
              ⟨(some 69), (some (63, true)), .c (.call 31 [(.t 64), (.t 68)])⟩,
              ⟨(some 70), (some (63, true)), .q (.un .not (.t 69))⟩,
              ⟨(some 71), none, .q (.pick (.t 63) (.t 70) (.c (.bool false)))⟩])
           (.cond (.t 71)
            (.seq (.reg [⟨(some 72), none, .q (.mv (.t 9))⟩,
               ⟨(some 73), none, .q (.mv (.t 1))⟩,
               ⟨(some 74), none, .q (.mv (.t 12))⟩,
               ⟨(some 75), none, .q (.ixs 1 (.t 73) (.t 74))⟩,
               ⟨(some 76), none, .q (.ld false 1 (.t 75))⟩,
               ⟨(some 77), none, .c (.call 34 [(.t 72), (.t 76)])⟩,
               ⟨(some 9), none, .q (.mv (.t 77))⟩])
            (.reg [⟨(some 78), none, .q (.mv (.t 10))⟩,
              ⟨(some 79), none, .q (.mv (.t 1))⟩,
              ⟨(some 80), none, .q (.mv (.t 12))⟩,
              ⟨(some 81), none, .q (.ixs 1 (.t 79) (.t 80))⟩,
              ⟨(some 82), none, .q (.ld false 1 (.t 81))⟩,
              ⟨(some 83), none, .m (.bsl 1 [(.t 82)])⟩,
              ⟨(some 84), none, .m (.app 1 8 (.t 78) (.t 83))⟩,
              ⟨(some 10), none, .q (.mv (.t 84))⟩]))
            .skip))))
         (.reg [⟨(some 28), none, .q (.mv (.t 12))⟩,
           ⟨(some 29), none, .q (.bin .add (.t 28) (.c (.int .i64 1)))⟩,
           ⟨(some 12), none, .q (.mv (.t 29))⟩])))))))
     (.reg [⟨(some 22), none, .q (.mv (.t 11))⟩,
       ⟨(some 23), none, .q (.bin .add (.t 22) (.c (.int .i64 1)))⟩,
       ⟨(some 11), none, .q (.mv (.t 23))⟩]))))))
  (.seq (.reg [⟨(some 85), none, .q (.mv (.t 9))⟩,
     ⟨(some 8), none, .q (.mv (.t 85))⟩])
  .ret))))⟩
theorem l_spec_l06Bundle : lowF PA f_spec_l06Bundle 4 [.k [1, 3, 4, 9, 10, 11], .k [1, 3, 4, 9, 10, 11, 12], .s (.take 0 (.take 1 (.take 2 (.take 3 (.take 4 (.take 5 (.take 6 (.take 7 (.take 8 (.one 9 (.take 10 (.take 11 (.take 12 (.take 13 (.take 14 (.take 15 (.take 16 (.take 18 (.take 21 (.take 22 (.take 23 (.take 24 (.take 25 (.take 27 (.one 17 (.take 19 (.take 20 (.one 26 (.take 28 (.take 29 (.take 30 (.take 31 (.take 32 .done)))))))))))))))))))))))))))))))))] = some c_spec_l06Bundle := by kernel_rfl
abbrev f_impl_bundleCode : FuncId := 29
def c_impl_bundleCode : AF := ⟨4, 40, [.t 8],
  (.seq (.reg [⟨(some 4), none, .m (.box (.t 0))⟩,
     ⟨(some 8), none, .q (.mv (.c (.int .i64 0)))⟩])
  (.seq (.seq (.reg [⟨(some 10), none, .q (.ld true 1 (.t 4))⟩,
      ⟨(some 11), none, .q (.mv (.t 1))⟩,
      ⟨(some 12), none, .q (.mv (.t 2))⟩,
      ⟨(some 13), none, .m (.bsl 1 [(.t 12)])⟩,
      ⟨(some 14), none, .c (.call 57 [(.t 10), (.t 11), (.t 13)])⟩,
      ⟨(some 9), none, .q (.mv (.t 14))⟩])
   (.seq (.reg [⟨(some 15), none, .q (.mv (.t 9))⟩,
      ⟨(some 16), none, .q (.bin .neq (.t 15) (.c (.int .i64 0)))⟩])
   (.cond (.t 16)
    (.seq (.reg [⟨(some 17), none, .q (.mv (.t 9))⟩,
       ⟨(some 8), none, .q (.mv (.t 17))⟩])
    .ret)
    .skip)))
  (.seq (.block 0 (.seq (.reg [⟨(some 19), none, .q (.ld true 1 (.t 4))⟩,
       ⟨(some 20), none, .q (.mv (.t 3))⟩,
       ⟨(some 21), none, .c (.call 58 [(.t 19), (.t 20)])⟩,
       ⟨(some 22), none, .q (.un .not (.t 21))⟩,
       ⟨(some 18), none, .q (.mv (.t 22))⟩])
    (.cond (.t 18)
     (.seq (.reg [⟨(some 8), none, .q (.mv (.c (.int .i64 2)))⟩])
     .ret)
     (.seq (.reg [⟨(some 24), none, .q (.fad 0 (.t 4))⟩,
        ⟨(some 25), none, .q (.ld false 1 (.t 24))⟩,
        ⟨(some 26), none, .c (.call 59 [(.t 25)])⟩,
        ⟨(some 27), none, .q (.bin .gtr (.t 26) (.c (.int .i64 2)))⟩,
        ⟨(some 28), none, .q (.mv (.t 27))⟩,
        ⟨(some 29), (some (28, false)), .q (.ld true 1 (.t 4))⟩,
        ⟨(some 30), (some (28, false)), .q (.mv (.t 1))⟩,
        ⟨(some 31), (some (28, false)), .c (.call 60 [(.t 29), (.t 30), (.c (.int .i64 1))])⟩,
        ⟨(some 32), (some (28, false)), .q (.un .not (.t 31))⟩,
        ⟨(some 33), none, .q (.pick (.t 28) (.c (.bool true)) (.t 32))⟩,
        ⟨(some 34), none, .q (.mv (.t 33))⟩,
        ⟨(some 35), (some (34, false)), .q (.mv (.t 1))⟩,
        ⟨(some 36), (some (34, false)), .q (.mv (.t 2))⟩,
        ⟨(some 37), (some (34, false)), .c (.call 38 [(.t 35), (.t 36)])⟩,
        ⟨(some 38), (some (34, false)), .q (.un .not (.t 37))⟩,
        ⟨(some 39), none, .q (.pick (.t 34) (.c (.bool true)) (.t 38))⟩,
        ⟨(some 23), none, .q (.mv (.t 39))⟩])
     (.cond (.t 23)
      (.seq (.reg [⟨(some 8), none, .q (.mv (.c (.int .i64 5)))⟩])
      .ret)
      .skip)))))
  (.seq (.reg [⟨(some 8), none, .q (.mv (.c (.int .i64 0)))⟩])
  .ret))))⟩
theorem l_impl_bundleCode : lowF PA f_impl_bundleCode 4 [] = some c_impl_bundleCode := by kernel_rfl
abbrev f_impl_bundle : FuncId := 30
def c_impl_bundle : AF := ⟨4, 83, [.t 8],
  (.seq (.reg [⟨(some 4), none, .m (.box (.t 0))⟩,
     ⟨(some 8), none, .q (.mv (.c (.slice none 0 0)))⟩])
  (.seq (.reg [⟨(some 17), none, .q (.ld true 1 (.t 4))⟩,
     ⟨(some 18), none, .q (.mv (.t 1))⟩,
     ⟨(some 19), none, .c (.call 61 [(.t 17), (.t 18)])⟩,
     ⟨(some 9), none, .q (.mv (.t 19))⟩])
  (.seq (.reg [⟨(some 20), none, .q (.ld true 1 (.t 4))⟩,
     ⟨(some 21), none, .q (.mv (.t 2))⟩,
     ⟨(some 22), none, .c (.call 37 [(.t 20), (.t 21)])⟩,
     ⟨(some 23), none, .m (.bsl 8 [(.t 22)])⟩,
     ⟨(some 10), none, .q (.mv (.t 23))⟩])
  (.seq (.seq (.reg [⟨(some 11), none, .q (.mv (.c (.int .i64 0)))⟩])
   (.block 0 (.loop [3, 4, 9, 10, 11] (.seq (.seq (.reg [⟨(some 24), none, .q (.mv (.t 11))⟩,
         ⟨(some 25), none, .q (.mv (.t 10))⟩,
         ⟨(some 26), none, .q (.len (.t 25))⟩,
         ⟨(some 27), none, .q (.bin .lss (.t 24) (.t 26))⟩])
      (.cond (.t 27)
       .skip
       (.exit 0)))
     (.seq (.block 1 (.seq (.reg [⟨(some 30), none, .q (.mv (.t 9))⟩,
          ⟨(some 31), none, .q (.len (.t 30))⟩,
          ⟨(some 32), none, .q (.mv (.c (.int .i64 0)))⟩])
       (.block 2 (.loop [3, 4, 9, 10, 11, 30, 31, 32] (.seq (.reg [⟨(some 33), none, .q (.bin .lss (.t 32) (.t 31))⟩])
         (.seq (.cond (.t 33)
           .skip
           (.exit 2))
         (.seq (.block 3 (.seq (.reg [⟨(some 34), none, .q (.ixs 8 (.t 30) (.t 32))⟩,
              ⟨(some 35), none, .q (.ld true 8 (.t 34))⟩,
              ⟨(some 13), none, .m (.alloc [(.v (.int .u8 0)), (.v (.int .u8 0)), (.v (.int .u8 0)), (.v (.int .u8 0)), (.v (.int .u8 0)), (.v (.int .u8 0)), (.v (.int .u8 0)), (.v (.int .u8 0))])⟩,
              ⟨none, none, .m (.st true 8 (.t 13) (.t 35))⟩])
           (.seq (.sch (.take 0 ⟨(some 36), none, .q (.ld true 8 (.t 13))⟩ (.take 1 ⟨(some 37), none, .q (.mv (.t 10))⟩ (.take 2 ⟨(some 38), none, .q (.mv (.t 11))⟩ (.take 3 ⟨(some 39), none, .q (.ixs 8 (.t 37) (.t 38))⟩ (.take 4 ⟨(some 40), none, .q (.ld true 8 (.t 39))⟩ (.one ⟨(some 41), none, .c (.call 45 [(.t 36), (.t 40)])⟩ [4, 0] (.take 6 ⟨(some 42), none, .q (.bin .eql (.t 41) (.c (.int .i64 3)))⟩ (.take 7 ⟨(some 43), none, .q (.mv (.t 42))⟩ (.take 8 ⟨(some 44), (some (43, true)), .q (.mv (.t 3))⟩ (.take 9 ⟨(some 45), (some (43, true)), .q (.ixa 8 1 (.t 13) (.t 44))⟩ (.take 10 ⟨(some 46), (some (43, true)), .q (.ld false 1 (.t 45))⟩ (.take 11 ⟨(some 47), (some (43, true)), .q (.mv (.t 10))⟩ (.take 12 ⟨(some 48), (some (43, true)), .q (.mv (.t 11))⟩ (.take 13 ⟨(some 49), (some (43, true)), .q (.mv (.t 3))⟩ (.take 14 ⟨(some 50), (some (43, true)), .q (.ixs 8 (.t 47) (.t 48))⟩ (.take 15 ⟨(some 51), (some (43, true)), .q (.ixa 8 1 (.t 50) (.t 49))⟩ (.take 16 ⟨(some 52), (some (43, true)), .q (.ld false 1 (.t 51))⟩ (.take 17 ⟨(some 53), (some (43, true)), .q (.bin .neq (.t 46) (.t 52))⟩ (.take 18 ⟨(some 54), none, .q (.pick (.t 43) (.t 53) (.c (.bool false)))⟩ (.take 19 ⟨(some 55), none, .q (.mv (.t 54))⟩ (.take 20 ⟨(some 56), (some (55, true)), .q (.mv (.t 10))⟩ (.take 21 ⟨(some 57), (some (55, true)), .q (.ld true 8 (.t 13))⟩ (.one ⟨(some 58), (some (55, true)), .c (.call 62 [(.t 56), (.t 57)])⟩ [21] (.take 23 ⟨(some 59), (some (55, true)), .q (.un .not (.t 58))⟩ (.take 24 ⟨(some 60), none, .q (.pick (.t 55) (.t 59) (.c (.bool false)))⟩ .done))))))))))))))))))))))))))
           (.cond (.t 60)
            (.reg [⟨(some 61), none, .q (.mv (.t 10))⟩,
              ⟨(some 62), none, .q (.ld true 8 (.t 13))⟩,
              ⟨(some 63), none, .m (.bsl 8 [(.t 62)])⟩,
              ⟨(some 64), none, .m (.app 8 8 (.t 61) (.t 63))⟩,
              ⟨(some 10), none, .q (.mv (.t 64))⟩])
            .skip))))
         (.reg [⟨(some 65), none, .q (.bin .add (.t 32) (.c (.int .i64 1)))⟩,
           ⟨(some 32), none, .q (.mv (.t 65))⟩]))))))))
     (.reg [⟨(some 28), none, .q (.mv (.t 11))⟩,
       ⟨(some 29), none, .q (.bin .add (.t 28) (.c (.int .i64 1)))⟩,
       ⟨(some 11), none, .q (.mv (.t 29))⟩]))))))
  (.seq (.reg [⟨(some 66), none, .m (.bsl 1 [])⟩,
     ⟨(some 14), none, .q (.mv (.t 66))⟩])
  (.seq (.seq (.reg [⟨(some 67), none, .q (.mv (.t 10))⟩,
      ⟨(some 68), none, .q (.len (.t 67))⟩,
      ⟨(some 69), none, .q (.mv (.c (.int .i64 0)))⟩])
   (.block 4 (.loop [4, 14, 67, 68, 69] (.seq (.reg [⟨(some 70), none, .q (.bin .lss (.t 69) (.t 68))⟩])
     (.seq (.cond (.t 70)
       .skip
       (.exit 4))
     (.seq (.block 5 (.seq (.reg [⟨(some 71), none, .q (.ixs 8 (.t 67) (.t 69))⟩,
          ⟨(some 72), none, .q (.ld true 8 (.t 71))⟩,
          ⟨(some 16), none, .m (.alloc [(.v (.int .u8 0)), (.v (.int .u8 0)), (.v (.int .u8 0)), (.v (.int .u8 0)), (.v (.int .u8 0)), (.v (.int .u8 0)), (.v (.int .u8 0)), (.v (.int .u8 0))])⟩,
          ⟨none, none, .m (.st true 8 (.t 16) (.t 72))⟩])
       (.reg [⟨(some 73), none, .q (.mv (.t 14))⟩,
         ⟨(some 74), none, .q (.ld true 1 (.t 4))⟩,
         ⟨(some 75), none, .q (.ld true 8 (.t 16))⟩,
         ⟨(some 76), none, .c (.call 39 [(.t 74), (.t 75)])⟩,
         ⟨(some 77), none, .m (.bsl 1 [(.t 76)])⟩,
         ⟨(some 78), none, .m (.app 1 8 (.t 73) (.t 77))⟩,
         ⟨(some 14), none, .q (.mv (.t 78))⟩])))
     (.reg [⟨(some 79), none, .q (.bin .add (.t 69) (.c (.int .i64 1)))⟩,
       ⟨(some 69), none, .q (.mv (.t 79))⟩])))))))
  (.seq (.reg [⟨(some 80), none, .q (.mv (.t 14))⟩,
     ⟨(some 81), none, .c (.call 51 [(.t 80)])⟩])
  (.seq (.reg [⟨(some 82), none, .q (.mv (.t 14))⟩,
     ⟨(some 8), none, .q (.mv (.t 82))⟩])
  .ret))))))))⟩
theorem l_impl_bundle : lowF PA f_impl_bundle 4 [.k [3, 4, 9, 10, 11], .k [3, 4, 9, 10, 11, 30, 31, 32], .s (.take 0 (.take 1 (.take 2 (.take 3 (.take 4 (.one 5 (.take 6 (.take 7 (.take 8 (.take 9 (.take 10 (.take 11 (.take 12 (.take 13 (.take 14 (.take 15 (.take 16 (.take 17 (.take 18 (.take 19 (.take 20 (.take 21 (.one 22 (.take 23 (.take 24 .done))))))))))))))))))))))))), .k [4, 14, 67, 68, 69]] = some c_impl_bundle := by kernel_rfl
abbrev f_spec_l01Has : FuncId := 31
def c_spec_l01Has : AF := ⟨2, 18, [.t 4],
  (.seq (.reg [⟨(some 4), none, .q (.mv (.c (.bool false)))⟩])
  (.seq (.seq (.reg [⟨(some 5), none, .q (.mv (.c (.int .i64 0)))⟩])
   (.block 0 (.loop [0, 1, 5] (.seq (.seq (.reg [⟨(some 6), none, .q (.mv (.t 5))⟩,
         ⟨(some 7), none, .q (.mv (.t 0))⟩,
         ⟨(some 8), none, .q (.len (.t 7))⟩,
         ⟨(some 9), none, .q (.bin .lss (.t 6) (.t 8))⟩])
      (.cond (.t 9)
       .skip
       (.exit 0)))
     (.seq (.block 1 (.seq (.reg [⟨(some 12), none, .q (.mv (.t 0))⟩,
          ⟨(some 13), none, .q (.mv (.t 5))⟩,
          ⟨(some 14), none, .q (.ixs 1 (.t 12) (.t 13))⟩,
          ⟨(some 15), none, .q (.ld false 1 (.t 14))⟩,
          ⟨(some 16), none, .q (.mv (.t 1))⟩,
          ⟨(some 17), none, .q (.bin .eql (.t 15) (.t 16))⟩])
       (.cond (.t 17)
        (.seq (.reg [⟨(some 4), none, .q (.mv (.c (.bool true)))⟩])
        .ret)
        .skip)))
     (.reg [⟨(some 10), none, .q (.mv (.t 5))⟩,
       ⟨(some 11), none, .q (.bin .add (.t 10) (.c (.int .i64 1)))⟩,
       ⟨(some 5), none, .q (.mv (.t 11))⟩]))))))
  (.seq (.reg [⟨(some 4), none, .q (.mv (.c (.bool false)))⟩])
  .ret)))⟩
theorem l_spec_l01Has : lowF PA f_spec_l01Has 2 [.k [0, 1, 5]] = some c_spec_l01Has := by kernel_rfl
abbrev f_spec_l01Digits : FuncId := 32
def c_spec_l01Digits : AF := ⟨2, 37, [.t 4],
  (.seq (.reg [⟨(some 2), none, .m (.box (.t 0))⟩,
     ⟨(some 4), none, .q (.mv (.c (.slice none 0 0)))⟩])
  (.seq (.reg [⟨(some 7), none, .q (.fad 0 (.t 2))⟩,
     ⟨(some 8), none, .q (.ld false 1 (.t 7))⟩,
     ⟨(some 9), none, .q (.len (.t 8))⟩,
     ⟨(some 10), none, .m (.mks 1 (.v (.int .i64 0)) 8 (.t 9) (.t 9))⟩,
     ⟨(some 5), none, .q (.mv (.t 10))⟩])
  (.seq (.seq (.reg [⟨(some 11), none, .q (.fad 0 (.t 2))⟩,
      ⟨(some 12), none, .q (.ld false 1 (.t 11))⟩,
      ⟨(some 13), none, .q (.len (.t 12))⟩,
      ⟨(some 14), none, .q (.bin .sub (.t 13) (.c (.int .i64 1)))⟩,
      ⟨(some 6), none, .q (.mv (.t 14))⟩])
   (.block 0 (.loop [1, 2, 5, 6] (.seq (.seq (.reg [⟨(some 15), none, .q (.mv (.t 6))⟩,
         ⟨(some 16), none, .q (.bin .geq (.t 15) (.c (.int .i64 0)))⟩])
      (.cond (.t 16)
       .skip
       (.exit 0)))
     (.seq (.block 1 (.seq (.reg [⟨(some 19), none, .q (.mv (.t 5))⟩,
          ⟨(some 20), none, .q (.mv (.t 6))⟩,
          ⟨(some 21), none, .q (.mv (.t 1))⟩,
          ⟨(some 22), none, .q (.fad 0 (.t 2))⟩,
          ⟨(some 23), none, .q (.ld false 1 (.t 22))⟩,
          ⟨(some 24), none, .q (.mv (.t 6))⟩,
          ⟨(some 25), none, .q (.ixs 1 (.t 23) (.t 24))⟩,
          ⟨(some 26), none, .q (.ld false 1 (.t 25))⟩,
          ⟨(some 27), none, .q (.bin .rem (.t 21) (.t 26))⟩,
          ⟨(some 28), none, .q (.ixs 1 (.t 19) (.t 20))⟩,
          ⟨none, none, .m (.st false 1 (.t 28) (.t 27))⟩])
       (.reg [⟨(some 29), none, .q (.mv (.t 1))⟩,
         ⟨(some 30), none, .q (.fad 0 (.t 2))⟩,
         ⟨(some 31), none, .q (.ld false 1 (.t 30))⟩,
         ⟨(some 32), none, .q (.mv (.t 6))⟩,
         ⟨(some 33), none, .q (.ixs 1 (.t 31) (.t 32))⟩,
         ⟨(some 34), none, .q (.ld false 1 (.t 33))⟩,
         ⟨(some 35), none, .q (.bin .quo (.t 29) (.t 34))⟩,
         ⟨(some 1), none, .q (.mv (.t 35))⟩])))
     (.reg [⟨(some 17), none, .q (.mv (.t 6))⟩,
       ⟨(some 18), none, .q (.bin .sub (.t 17) (.c (.int .i64 1)))⟩,
       ⟨(some 6), none, .q (.mv (.t 18))⟩]))))))
  (.seq (.reg [⟨(some 36), none, .q (.mv (.t 5))⟩,
     ⟨(some 4), none, .q (.mv (.t 36))⟩])
  .ret))))⟩
theorem l_spec_l01Digits : lowF PA f_spec_l01Digits 2 [.k [1, 2, 5, 6]] = some c_spec_l01Digits := by kernel_rfl
abbrev f_spec_l01Word : FuncId := 33
def c_spec_l01Word : AF := ⟨2, 26, [.t 4],
  (.seq (.reg [⟨(some 2), none, .m (.box (.t 0))⟩,
     ⟨(some 4), none, .q (.mv (.c (.int .i64 0)))⟩])
  (.seq (.reg [⟨(some 5), none, .q (.mv (.c (.int .i64 0)))⟩])
  (.seq (.seq (.reg [⟨(some 6), none, .q (.mv (.c (.int .i64 0)))⟩])
   (.block 0 (.loop [1, 2, 5, 6] (.seq (.seq (.reg [⟨(some 7), none, .q (.mv (.t 6))⟩,
         ⟨(some 8), none, .q (.mv (.t 1))⟩,
         ⟨(some 9), none, .q (.len (.t 8))⟩,
         ⟨(some 10), none, .q (.bin .lss (.t 7) (.t 9))⟩])
      (.cond (.t 10)
       .skip
       (.exit 0)))
     (.seq (.block 1 (.sch (.take 0 ⟨(some 13), none, .q (.mv (.t 5))⟩ (.take 1 ⟨(some 14), none, .q (.fad 0 (.t 2))⟩ (.take 2 ⟨(some 15), none, .q (.ld false 1 (.t 14))⟩ (.take 3 ⟨(some 16), none, .q (.mv (.t 6))⟩ (.take 4 ⟨(some 17), none, .q (.ixs 1 (.t 15) (.t 16))⟩ (.take 5 ⟨(some 18), none, .q (.ld false 1 (.t 17))⟩ (.take 6 ⟨(some 19), none, .q (.bin .mul (.t 13) (.t 18))⟩ (.take 7 ⟨(some 20), none, .q (.mv (.t 1))⟩ (.take 8 ⟨(some 21), none, .q (.mv (.t 6))⟩ (.take 9 ⟨(some 22), none, .q (.ixs 1 (.t 20) (.t 21))⟩ (.take 10 ⟨(some 23), none, .q (.ld false 1 (.t 22))⟩ (.take 11 ⟨(some 24), none, .q (.bin .add (.t 19) (.t 23))⟩ (.take 12 ⟨(some 5), none, .q (.mv (.t 24))⟩ .done)))))))))))))))
     (.reg [⟨(some 11), none, .q (.mv (.t 6))⟩,
       ⟨(some 12), none, .q (.bin .add (.t 11) (.c (.int .i64 1)))⟩,
       ⟨(some 6), none, .q (.mv (.t 12))⟩]))))))
  (.seq (.reg [⟨(some 25), none, .q (.mv (.t 5))⟩,
     ⟨(some 4), none, .q (.mv (.t 25))⟩])
  .ret))))⟩
theorem l_spec_l01Word : lowF PA f_spec_l01Word 2 [.k [1, 2, 5, 6], .s (.take 0 (.take 1 (.take 2 (.take 3 (.take 4 (.take 5 (.take 6 (.take 7 (.take 8 (.take 9 (.take 10 (.take 11 (.take 12 .done)))))))))))))] = some c_spec_l01Word := by kernel_rfl
abbrev f_spec_l01Put : FuncId := 34
def c_spec_l01Put : AF := ⟨2, 46, [.t 4],
  (.seq (.reg [⟨(some 4), none, .q (.mv (.c (.slice none 0 0)))⟩])
  (.seq (.reg [⟨(some 7), none, .q (.mv (.t 0))⟩,
     ⟨(some 8), none, .q (.len (.t 7))⟩,
     ⟨(some 5), none, .q (.mv (.t 8))⟩])
  (.seq (.block 0 (.loop [0, 1, 5] (.seq (.seq (.reg [⟨(some 9), none, .q (.mv (.t 5))⟩,
         ⟨(some 10), none, .q (.bin .gtr (.t 9) (.c (.int .i64 0)))⟩,
         ⟨(some 11), none, .q (.mv (.t 10))⟩,
         ⟨(some 12), (some (11, true)), .q (.mv (.t 0))⟩,
         ⟨(some 13), (some (11, true)), .q (.mv (.t 5))⟩,
         ⟨(some 14), (some (11, true)), .q (.bin .sub (.t 13) (.c (.int .i64 1)))⟩,
         ⟨(some 15), (some (11, true)), .q (.ixs 1 (.t 12) (.t 14))⟩,
         ⟨(some 16), (some (11, true)), .q (.ld false 1 (.t 15))⟩,
         ⟨(some 17), (some (11, true)), .q (.mv (.t 1))⟩,
         ⟨(some 18), (some (11, true)), .q (.bin .gtr (.t 16) (.t 17))⟩,
         ⟨(some 19), none, .q (.pick (.t 11) (.t 18) (.c (.bool false)))⟩])
      (.cond (.t 19)
       .skip
       (.exit 0)))
     (.block 1 (.reg [⟨(some 20), none, .q (.mv (.t 5))⟩,
        ⟨(some 21), none, .q (.bin .sub (.t 20) (.c (.int .i64 1)))⟩,
        ⟨(some 5), none, .q (.mv (.t 21))⟩])))))
  (.seq (.seq (.reg [⟨(some 22), none, .q (.mv (.t 5))⟩,
      ⟨(some 23), none, .q (.bin .gtr (.t 22) (.c (.int .i64 0)))⟩,
      ⟨(some 24), none, .q (.mv (.t 23))⟩,
      ⟨(some 25), (some (24, true)), .q (.mv (.t 0))⟩,
      ⟨(some 26), (some (24, true)), .q (.mv (.t 5))⟩,
      ⟨(some 27), (some (24, true)), .q (.bin .sub (.t 26) (.c (.int .i64 1)))⟩,
      ⟨(some 28), (some (24, true)), .q (.ixs 1 (.t 25) (.t 27))⟩,
      ⟨(some 29), (some (24, true)), .q (.ld false 1 (.t 28))⟩,
      ⟨(some 30), (some (24, true)), .q (.mv (.t 1))⟩,
      ⟨(some 31), (some (24, true)), .q (.bin .eql (.t 29) (.t 30))⟩,
      ⟨(some 32), none, .q (.pick (.t 24) (.t 31) (.c (.bool false)))⟩])
   (.cond (.t 32)
    (.seq (.reg [⟨(some 33), none, .q (.mv (.t 0))⟩,
       ⟨(some 4), none, .q (.mv (.t 33))⟩])
    .ret)
    .skip))
  (.seq (.reg [⟨(some 34), none, .q (.mv (.t 0))⟩,
     ⟨(some 35), none, .q (.mv (.t 5))⟩,
     ⟨(some 36), none, .q (.slc 1 (.t 34) none (some (.t 35)))⟩,
     ⟨(some 37), none, .c (.call 63 [(.t 36)])⟩,
     ⟨(some 38), none, .q (.mv (.t 1))⟩,
     ⟨(some 39), none, .m (.bsl 1 [(.t 38)])⟩,
     ⟨(some 40), none, .m (.app 1 8 (.t 37) (.t 39))⟩,
     ⟨(some 6), none, .q (.mv (.t 40))⟩])
  (.seq (.reg [⟨(some 41), none, .q (.mv (.t 6))⟩,
     ⟨(some 42), none, .q (.mv (.t 0))⟩,
     ⟨(some 43), none, .q (.mv (.t 5))⟩,
     ⟨(some 44), none, .q (.slc 1 (.t 42) (some (.t 43)) none)⟩,
     ⟨(some 45), none, .m (.app 1 8 (.t 41) (.t 44))⟩,
     ⟨(some 4), none, .q (.mv (.t 45))⟩])
  .ret))))))⟩
theorem l_spec_l01Put : lowF PA f_spec_l01Put 2 [.k [0, 1, 5]] = some c_spec_l01Put := by kernel_rfl
abbrev f_impl_mapped : FuncId := 35
def c_impl_mapped : AF := ⟨2, 26, [.t 4],
  (.seq (.reg [⟨(some 4), none, .q (.mv (.c (.slice none 0 0)))⟩])
  (.seq (.reg [⟨(some 8), none, .m (.bsl 1 [])⟩,
     ⟨(some 5), none, .q (.mv (.t 8))⟩])
  (.seq (.seq (.reg [⟨(some 9), none, .q (.mv (.t 0))⟩,
      ⟨(some 10), none, .q (.len (.t 9))⟩,
      ⟨(some 11), none, .q (.mv (.c (.int .i64 0)))⟩])
   (.block 0 (.loop [1, 5, 9, 10, 11, 26] (.seq (.reg [⟨(some 12), none, .q (.bin .lss (.t 11) (.t 10))⟩])
     (.seq (.cond (.t 12)
       .skip
       (.exit 0))
     (.seq (.block 1 (.seq (.reg [⟨(some 13), none, .q (.ixs 1 (.t 9) (.t 11))⟩,
          ⟨(some 14), none, .q (.ld false 1 (.t 13))⟩,
          ⟨(some 7), none, .q (.mv (.t 14))⟩])
       (.reg [⟨(some 15), none, .q (.mv (.t 5))⟩,
         ⟨(some 16), none, .q (.mv (.t 1))⟩,
         ⟨(some 17), none, .q (.mv (.t 7))⟩,
         ⟨(some 18), none, .c (.cav (.t 16) [(.t 17)])⟩,
         ⟨(some 19), none, .m (.bsl 1 [(.t 18)])⟩,
         ⟨(some 20), none, .m (.app 1 8 (.t 15) (.t 19))⟩,
         ⟨(some 5), none, .q (.mv (.t 20))⟩])))
     (.reg [⟨(some 21), none, .q (.bin .add (.t 11) (.c (.int .i64 1)))⟩,
       ⟨(some 11), none, .q (.mv (.t 21))⟩])))))))
  (.seq (.reg [⟨(some 22), none, .q (.mv (.t 5))⟩,
     ⟨(some 23), none, .c (.call 51 [(.t 22)])⟩])
  (.seq (.reg [⟨(some 24), none, .q (.mv (.t 5))⟩,
     ⟨(some 25), none, .c (.call 52 [(.t 24)])⟩,
     ⟨(some 4), none, .q (.mv (.t 25))⟩])
  .ret)))))⟩
theorem l_impl_mapped : lowF PA f_impl_mapped 2 [.k [1, 5, 9, 10, 11, 26]] = some c_impl_mapped := by kernel_rfl
abbrev f_impl_SwitchBundle_1 : FuncId := 36
def c_impl_SwitchBundle_1 : AF := ⟨4, 22, [.t 5],
  (.seq (.reg [⟨(some 5), none, .q (.mv (.c (.int .i64 0)))⟩])
  (.seq (.reg [⟨(some 7), none, .q (.ld true 1 (.t 1))⟩,
     ⟨(some 8), none, .q (.mv (.t 0))⟩,
     ⟨(some 9), none, .c (.call 37 [(.t 7), (.t 8)])⟩,
     ⟨(some 6), none, .m (.alloc [(.v (.int .u8 0)), (.v (.int .u8 0)), (.v (.int .u8 0)), (.v (.int .u8 0)), (.v (.int .u8 0)), (.v (.int .u8 0)), (.v (.int .u8 0)), (.v (.int .u8 0))])⟩,
     ⟨none, none, .m (.st true 8 (.t 6) (.t 9))⟩])
  (.seq (.seq (.reg [⟨(some 10), none, .q (.ld false 1 (.t 2))⟩,
      ⟨(some 11), none, .q (.mv (.t 0))⟩,
      ⟨(some 12), none, .c (.call 38 [(.t 10), (.t 11)])⟩])
   (.cond (.t 12)
    (.sch (.take 0 ⟨(some 13), none, .q (.ld false 1 (.t 3))⟩ (.take 1 ⟨(some 14), none, .q (.ld false 1 (.t 3))⟩ (.take 2 ⟨(some 15), none, .q (.ixa 8 1 (.t 6) (.t 14))⟩ (.take 3 ⟨(some 16), none, .q (.ld false 1 (.t 15))⟩ (.take 4 ⟨(some 17), none, .q (.bin .sub (.c (.int .u8 1)) (.t 16))⟩ (.take 5 ⟨(some 18), none, .q (.ixa 8 1 (.t 6) (.t 13))⟩ (.one ⟨none, none, .m (.st false 1 (.t 18) (.t 17))⟩ [3, 1, 0] .done))))))))
    .skip))
  (.seq (.reg [⟨(some 19), none, .q (.ld true 1 (.t 1))⟩,
     ⟨(some 20), none, .q (.ld true 8 (.t 6))⟩,
     ⟨(some 21), none, .c (.call 39 [(.t 19), (.t 20)])⟩,
     ⟨(some 5), none, .q (.mv (.t 21))⟩])
  .ret))))⟩
theorem l_impl_SwitchBundle_1 : lowF PA f_impl_SwitchBundle_1 4 [.s (.take 0 (.take 1 (.take 2 (.take 3 (.take 4 (.take 5 (.one 6 .done)))))))] = some c_impl_SwitchBundle_1 := by kernel_rfl
abbrev f_impl_digitsOf : FuncId := 37
def c_impl_digitsOf : AF := ⟨2, 34, [.c 4 true 8],
  (.seq (.reg [⟨(some 2), none, .m (.box (.t 0))⟩,
     ⟨(some 4), none, .m (.alloc [(.v (.int .u8 0)), (.v (.int .u8 0)), (.v (.int .u8 0)), (.v (.int .u8 0)), (.v (.int .u8 0)), (.v (.int .u8 0)), (.v (.int .u8 0)), (.v (.int .u8 0))])⟩])
  (.seq (.reg [⟨(some 7), none, .q (.bld [(.v (.int .u8 0)), (.v (.int .u8 0)), (.v (.int .u8 0)), (.v (.int .u8 0)), (.v (.int .u8 0)), (.v (.int .u8 0)), (.v (.int .u8 0)), (.v (.int .u8 0))] [])⟩,
     ⟨(some 5), none, .m (.alloc [(.v (.int .u8 0)), (.v (.int .u8 0)), (.v (.int .u8 0)), (.v (.int .u8 0)), (.v (.int .u8 0)), (.v (.int .u8 0)), (.v (.int .u8 0)), (.v (.int .u8 0))])⟩,
     ⟨none, none, .m (.st true 8 (.t 5) (.t 7))⟩])
  (.seq (.seq (.reg [⟨(some 8), none, .q (.fad 0 (.t 2))⟩,
      ⟨(some 9), none, .q (.ld false 1 (.t 8))⟩,
      ⟨(some 10), none, .q (.len (.t 9))⟩,
      ⟨(some 11), none, .q (.bin .sub (.t 10) (.c (.int .i64 1)))⟩,
      ⟨(some 6), none, .q (.mv (.t 11))⟩])
   (.block 0 (.loop [1, 2, 4, 5, 6] (.seq (.seq (.reg [⟨(some 12), none, .q (.mv (.t 6))⟩,
         ⟨(some 13), none, .q (.bin .geq (.t 12) (.c (.int .i64 0)))⟩])
      (.cond (.t 13)
       .skip
       (.exit 0)))
     (.seq (.block 1 (.seq (.reg [⟨(some 16), none, .q (.mv (.t 6))⟩,
          ⟨(some 17), none, .q (.mv (.t 1))⟩,
          ⟨(some 18), none, .q (.fad 0 (.t 2))⟩,
          ⟨(some 19), none, .q (.ld false 1 (.t 18))⟩,
          ⟨(some 20), none, .q (.mv (.t 6))⟩,
          ⟨(some 21), none, .q (.ixs 1 (.t 19) (.t 20))⟩,
          ⟨(some 22), none, .q (.ld false 1 (.t 21))⟩,
          ⟨(some 23), none, .q (.bin .rem (.t 17) (.t 22))⟩,
          ⟨(some 24), none, .q (.cvt .u8 (.t 23))⟩,
          ⟨(some 25), none, .q (.ixa 8 1 (.t 5) (.t 16))⟩,
          ⟨none, none, .m (.st false 1 (.t 25) (.t 24))⟩])
       (.reg [⟨(some 26), none, .q (.mv (.t 1))⟩,
         ⟨(some 27), none, .q (.fad 0 (.t 2))⟩,
         ⟨(some 28), none, .q (.ld false 1 (.t 27))⟩,
         ⟨(some 29), none, .q (.mv (.t 6))⟩,
         ⟨(some 30), none, .q (.ixs 1 (.t 28) (.t 29))⟩,
         ⟨(some 31), none, .q (.ld false 1 (.t 30))⟩,
         ⟨(some 32), none, .q (.bin .quo (.t 26) (.t 31))⟩,
         ⟨(some 1), none, .q (.mv (.t 32))⟩])))
     (.reg [⟨(some 14), none, .q (.mv (.t 6))⟩,
       ⟨(some 15), none, .q (.bin .sub (.t 14) (.c (.int .i64 1)))⟩,
       ⟨(some 6), none, .q (.mv (.t 15))⟩]))))))
  (.seq (.reg [⟨(some 33), none, .q (.ld true 8 (.t 5))⟩,
     ⟨none, none, .m (.st true 8 (.t 4) (.t 33))⟩])
  .ret))))⟩
theorem l_impl_digitsOf : lowF PA f_impl_digitsOf 2 [.k [1, 2, 4, 5, 6]] = some c_impl_digitsOf := by kernel_rfl
abbrev f_slices_Contains___int64_int64_ : FuncId := 38
def c_slices_Contains___int64_int64_ : AF := ⟨2, 9, [.t 4],
  (.seq (.reg [⟨(some 4), none, .q (.mv (.c (.bool false)))⟩])
  (.seq (.reg [⟨(some 5), none, .q (.mv (.t 0))⟩,
     ⟨(some 6), none, .q (.mv (.t 1))⟩,
     ⟨(some 7), none, .c (.call 64 [(.t 5), (.t 6)])⟩,
     ⟨(some 8), none, .q (.bin .geq (.t 7) (.c (.int .i64 0)))⟩,
     ⟨(some 4), none, .q (.mv (.t 8))⟩])
  .ret))⟩
theorem l_slices_Contains___int64_int64_ : lowF PA f_slices_Contains___int64_int64_ 2 [] = some c_slices_Contains___int64_int64_ := by kernel_rfl
abbrev f_impl_wordOf : FuncId := 39
def c_impl_wordOf : AF := ⟨2, 26, [.t 4],
  (.seq (.reg [⟨(some 2), none, .m (.box (.t 0))⟩,
     ⟨(some 3), none, .m (.box (.t 1))⟩,
     ⟨(some 4), none, .q (.mv (.c (.int .i64 0)))⟩])
  (.seq (.reg [⟨(some 5), none, .q (.mv (.c (.int .i64 0)))⟩])
  (.seq (.seq (.reg [⟨(some 8), none, .q (.fad 0 (.t 2))⟩,
      ⟨(some 9), none, .q (.ld false 1 (.t 8))⟩,
      ⟨(some 10), none, .q (.len (.t 9))⟩,
      ⟨(some 11), none, .q (.mv (.c (.int .i64 0)))⟩])
   (.block 0 (.loop [3, 5, 9, 10, 11] (.seq (.reg [⟨(some 12), none, .q (.bin .lss (.t 11) (.t 10))⟩])
     (.seq (.cond (.t 12)
       .skip
       (.exit 0))
     (.seq (.block 1 (.seq (.reg [⟨(some 13), none, .q (.mv (.t 11))⟩,
          ⟨(some 14), none, .q (.ixs 1 (.t 9) (.t 11))⟩,
          ⟨(some 15), none, .q (.ld false 1 (.t 14))⟩,
          ⟨(some 6), none, .q (.mv (.t 13))⟩,
          ⟨(some 7), none, .q (.mv (.t 15))⟩])
       (.reg [⟨(some 16), none, .q (.mv (.t 5))⟩,
         ⟨(some 17), none, .q (.mv (.t 7))⟩,
         ⟨(some 18), none, .q (.bin .mul (.t 16) (.t 17))⟩,
         ⟨(some 19), none, .q (.mv (.t 6))⟩,
         ⟨(some 20), none, .q (.ixa 8 1 (.t 3) (.t 19))⟩,
         ⟨(some 21), none, .q (.ld false 1 (.t 20))⟩,
         ⟨(some 22), none, .q (.cvt .i64 (.t 21))⟩,
         ⟨(some 23), none, .q (.bin .add (.t 18) (.t 22))⟩,
         ⟨(some 5), none, .q (.mv (.t 23))⟩])))
     (.reg [⟨(some 24), none, .q (.bin .add (.t 11) (.c (.int .i64 1)))⟩,
       ⟨(some 11), none, .q (.mv (.t 24))⟩])))))))
  (.seq (.reg [⟨(some 25), none, .q (.mv (.t 5))⟩,
     ⟨(some 4), none, .q (.mv (.t 25))⟩])
  .ret))))⟩
theorem l_impl_wordOf : lowF PA f_impl_wordOf 2 [.k [3, 5, 9, 10, 11]] = some c_impl_wordOf := by kernel_rfl
abbrev f_spec_l01Distance : FuncId := 42
def c_spec_l01Distance : AF := ⟨3, 49, [.t 6],
  (.seq (.reg [⟨(some 3), none, .m (.box (.t 0))⟩,
     ⟨(some 6), none, .q (.mv (.c (.int .i64 0)))⟩])
  (.seq (.reg [⟨(some 7), none, .q (.mv (.c (.int .i64 0)))⟩])
  (.seq (.seq (.reg [⟨(some 9), none, .q (.fad 0 (.t 3))⟩,
      ⟨(some 10), none, .q (.ld false 1 (.t 9))⟩,
      ⟨(some 11), none, .q (.len (.t 10))⟩,
      ⟨(some 12), none, .q (.bin .sub (.t 11) (.c (.int .i64 1)))⟩,
      ⟨(some 8), none, .q (.mv (.t 12))⟩])
   (.block 0 (.loop [1, 2, 3, 7, 8] (.seq (.seq (.reg [⟨(some 13), none, .q (.mv (.t 8))⟩,
         ⟨(some 14), none, .q (.bin .geq (.t 13) (.c (.int .i64 0)))⟩])
      (.cond (.t 14)
       .skip
       (.exit 0)))
     (.seq (.block 1 (.seq (.seq (.sch (.take 0 ⟨(some 17), none, .q (.mv (.t 1))⟩ (.take 1 ⟨(some 18), none, .q (.fad 0 (.t 3))⟩ (.take 2 ⟨(some 19), none, .q (.ld false 1 (.t 18))⟩ (.take 3 ⟨(some 20), none, .q (.mv (.t 8))⟩ (.take 4 ⟨(some 21), none, .q (.ixs 1 (.t 19) (.t 20))⟩ (.take 5 ⟨(some 22), none, .q (.ld false 1 (.t 21))⟩ (.take 6 ⟨(some 23), none, .q (.bin .rem (.t 17) (.t 22))⟩ (.take 7 ⟨(some 24), none, .q (.mv (.t 2))⟩ (.take 8 ⟨(some 25), none, .q (.fad 0 (.t 3))⟩ (.take 9 ⟨(some 26), none, .q (.ld false 1 (.t 25))⟩ (.take 10 ⟨(some 27), none, .q (.mv (.t 8))⟩ (.take 11 ⟨(some 28), none, .q (.ixs 1 (.t 26) (.t 27))⟩ (.take 12 ⟨(some 29), none, .q (.ld false 1 (.t 28))⟩ (.take 13 ⟨(some 30), none, .q (.bin .rem (.t 24) (.t 29))⟩ (.take 14 ⟨(some 31), none, .q (.bin .neq (.t 23) (.t 30))⟩ .done))))))))))))))))
        (.cond (.t 31)
         (.reg [⟨(some 32), none, .q (.mv (.t 7))⟩,
           ⟨(some 33), none, .q (.bin .add (.t 32) (.c (.int .i64 1)))⟩,
           ⟨(some 7), none, .q (.mv (.t 33))⟩])
         .skip))
       (.seq (.reg [⟨(some 34), none, .q (.mv (.t 1))⟩,
          ⟨(some 35), none, .q (.fad 0 (.t 3))⟩,
          ⟨(some 36), none, .q (.ld false 1 (.t 35))⟩,
          ⟨(some 37), none, .q (.mv (.t 8))⟩,
          ⟨(some 38), none, .q (.ixs 1 (.t 36) (.t 37))⟩,
          ⟨(some 39), none, .q (.ld false 1 (.t 38))⟩,
          ⟨(some 40), none, .q (.bin .quo (.t 34) (.t 39))⟩,
          ⟨(some 1), none, .q (.mv (.t 40))⟩])
       (.reg [⟨(some 41), none, .q (.mv (.t 2))⟩,
         ⟨(some 42), none, .q (.fad 0 (.t 3))⟩,
         ⟨(some 43), none, .q (.ld false 1 (.t 42))⟩,
         ⟨(some 44), none, .q (.mv (.t 8))⟩,
         ⟨(some 45), none, .q (.ixs 1 (.t 43) (.t 44))⟩,
         ⟨(some 46), none, .q (.ld false 1 (.t 45))⟩,
         ⟨(some 47), none, .q (.bin .quo (.t 41) (.t 46))⟩,
         ⟨(some 2), none, .q (.mv (.t 47))⟩]))))
     (.reg [⟨(some 15), none, .q (.mv (.t 8))⟩,
       ⟨(some 16), none, .q (.bin .sub (.t 15) (.c (.int .i64 1)))⟩,
       ⟨(some 8), none, .q (.mv (.t 16))⟩]))))))
  (.seq (.reg [⟨(some 48), none, .q (.mv (.t 7))⟩,
     ⟨(some 6), none, .q (.mv (.t 48))⟩])
  .ret))))⟩
theorem l_spec_l01Distance : lowF PA f_spec_l01Distance 3 [.k [1, 2, 3, 7, 8], .s (.take 0 (.take 1 (.take 2 (.take 3 (.take 4 (.take 5 (.take 6 (.take 7 (.take 8 (.take 9 (.take 10 (.take 11 (.take 12 (.take 13 (.take 14 .done)))))))))))))))] = some c_spec_l01Distance := by kernel_rfl
abbrev f_impl_far : FuncId := 45
def c_impl_far : AF := ⟨2, 22, [.t 4],
  (.seq (.reg [⟨(some 2), none, .m (.box (.t 0))⟩,
     ⟨(some 3), none, .m (.box (.t 1))⟩,
     ⟨(some 4), none, .q (.mv (.c (.int .i64 0)))⟩])
  (.seq (.reg [⟨(some 5), none, .q (.mv (.c (.int .i64 0)))⟩])
  (.seq (.seq (.reg [⟨(some 8), none, .q (.ld true 8 (.t 2))⟩,
      ⟨(some 9), none, .q (.mv (.c (.int .i64 0)))⟩])
   (.block 0 (.loop [3, 5, 8, 9] (.seq (.reg [⟨(some 10), none, .q (.bin .lss (.t 9) (.c (.int .i64 8)))⟩])
     (.seq (.cond (.t 10)
       .skip
       (.exit 0))
     (.seq (.block 1 (.seq (.reg [⟨(some 11), none, .q (.mv (.t 9))⟩,
          ⟨(some 12), none, .q (.ixv 8 (.t 8) (.t 9))⟩,
          ⟨(some 6), none, .q (.mv (.t 11))⟩,
          ⟨(some 7), none, .q (.mv (.t 12))⟩])
       (.seq (.reg [⟨(some 13), none, .q (.mv (.t 7))⟩,
          ⟨(some 14), none, .q (.mv (.t 6))⟩,
          ⟨(some 15), none, .q (.ixa 8 1 (.t 3) (.t 14))⟩,
          ⟨(some 16), none, .q (.ld false 1 (.t 15))⟩,
          ⟨(some 17), none, .q (.bin .neq (.t 13) (.t 16))⟩])
       (.cond (.t 17)
        (.reg [⟨(some 18), none, .q (.mv (.t 5))⟩,
          ⟨(some 19), none, .q (.bin .add (.t 18) (.c (.int .i64 1)))⟩,
          ⟨(some 5), none, .q (.mv (.t 19))⟩])
        .skip))))
     (.reg [⟨(some 20), none, .q (.bin .add (.t 9) (.c (.int .i64 1)))⟩,
       ⟨(some 9), none, .q (.mv (.t 20))⟩])))))))
  (.seq (.reg [⟨(some 21), none, .q (.mv (.t 5))⟩,
     ⟨(some 4), none, .q (.mv (.t 21))⟩])
  .ret))))⟩
theorem l_impl_far : lowF PA f_impl_far 2 [.k [3, 5, 8, 9]] = some c_impl_far := by kernel_rfl
abbrev f_slices_Sort___int64_int64_ : FuncId := 51
def c_slices_Sort___int64_int64_ : AF := ⟨1, 11, [],
  (.seq (.reg [⟨(some 3), none, .q (.mv (.t 0))⟩,
     ⟨(some 4), none, .q (.len (.t 3))⟩,
     ⟨(some 2), none, .q (.mv (.t 4))⟩])
  (.reg [⟨(some 5), none, .q (.mv (.t 0))⟩,
    ⟨(some 6), none, .q (.mv (.t 2))⟩,
    ⟨(some 7), none, .q (.mv (.t 2))⟩,
    ⟨(some 8), none, .q (.cvt .u64 (.t 7))⟩,
    ⟨(some 9), none, .c (.call 75 [(.t 8)])⟩,
    ⟨(some 10), none, .c (.call 74 [(.t 5), (.c (.int .i64 0)), (.t 6), (.t 9)])⟩]))⟩
theorem l_slices_Sort___int64_int64_ : lowF PA f_slices_Sort___int64_int64_ 1 [] = some c_slices_Sort___int64_int64_ := by kernel_rfl
abbrev f_slices_Compact___int64_int64_ : FuncId := 52
def c_slices_Compact___int64_int64_ : AF := ⟨1, 61, [.t 2],
  (.seq (.reg [⟨(some 2), none, .q (.mv (.c (.slice none 0 0)))⟩])
  (.seq (.seq (.reg [⟨(some 6), none, .q (.mv (.t 0))⟩,
      ⟨(some 7), none, .q (.len (.t 6))⟩,
      ⟨(some 8), none, .q (.bin .lss (.t 7) (.c (.int .i64 2)))⟩])
   (.cond (.t 8)
    (.seq (.reg [⟨(some 9), none, .q (.mv (.t 0))⟩,
       ⟨(some 2), none, .q (.mv (.t 9))⟩])
    .ret)
    .skip))
  (.seq (.seq (.reg [⟨(some 3), none, .q (.mv (.c (.int .i64 1)))⟩])
   (.block 0 (.loop [0, 3, 61] (.seq (.seq (.reg [⟨(some 10), none, .q (.mv (.t 3))⟩,
         ⟨(some 11), none, .q (.mv (.t 0))⟩,
         ⟨(some 12), none, .q (.len (.t 11))⟩,
         ⟨(some 13), none, .q (.bin .lss (.t 10) (.t 12))⟩])
      (.cond (.t 13)
       .skip
       (.exit 0)))
     (.seq (.block 1 (.seq (.sch (.take 0 ⟨(some 16), none, .q (.mv (.t 0))⟩ (.take 1 ⟨(some 17), none, .q (.mv (.t 3))⟩ (.take 2 ⟨(some 18), none, .q (.ixs 1 (.t 16) (.t 17))⟩ (.take 3 ⟨(some 19), none, .q (.ld false 1 (.t 18))⟩ (.take 4 ⟨(some 20), none, .q (.mv (.t 0))⟩ (.take 5 ⟨(some 21), none, .q (.mv (.t 3))⟩ (.take 6 ⟨(some 22), none, .q (.bin .sub (.t 21) (.c (.int .i64 1)))⟩ (.take 7 ⟨(some 23), none, .q (.ixs 1 (.t 20) (.t 22))⟩ (.take 8 ⟨(some 24), none, .q (.ld false 1 (.t 23))⟩ (.take 9 ⟨(some 25), none, .q (.bin .eql (.t 19) (.t 24))⟩ .done)))))))))))
       (.cond (.t 25)
        (.seq (.reg [⟨(some 26), none, .q (.mv (.t 0))⟩,
           ⟨(some 27), none, .q (.mv (.t 3))⟩,
           ⟨(some 28), none, .q (.slc 1 (.t 26) (some (.t 27)) none)⟩,
           ⟨(some 4), none, .q (.mv (.t 28))⟩])
        (.seq (.seq (.reg [⟨(some 5), none, .q (.mv (.c (.int .i64 1)))⟩])
         (.block 2 (.loop [0, 3, 4, 5, 61] (.seq (.seq (.reg [⟨(some 29), none, .q (.mv (.t 5))⟩,
               ⟨(some 30), none, .q (.mv (.t 4))⟩,
               ⟨(some 31), none, .q (.len (.t 30))⟩,
               ⟨(some 32), none, .q (.bin .lss (.t 29) (.t 31))⟩])
            (.cond (.t 32)
             .skip
             (.exit 2)))
           (.seq (.block 3 (.seq (.sch (.take 0 ⟨(some 35), none, .q (.mv (.t 4))⟩ (.take 1 ⟨(some 36), none, .q (.mv (.t 5))⟩ (.take 2 ⟨(some 37), none, .q (.ixs 1 (.t 35) (.t 36))⟩ (.take 3 ⟨(some 38), none, .q (.ld false 1 (.t 37))⟩ (.take 4 ⟨(some 39), none, .q (.mv (.t 4))⟩ (.take 5 ⟨(some 40), none, .q (.mv (.t 5))⟩ (.take 6 ⟨(some 41), none, .q (.bin .sub (.t 40) (.c (.int .i64 1)))⟩ (.take 7 ⟨(some 42), none, .q (.ixs 1 (.t 39) (.t 41))⟩ (.take 8 ⟨(some 43), none, .q (.ld false 1 (.t 42))⟩ (.take 9 ⟨(some 44), none, .q (.bin .neq (.t 38) (.t 43))⟩ .done)))))))))))
             (.cond (.t 44)
              (.seq (.reg [⟨(some 45), none, .q (.mv (.t 0))⟩,
                 ⟨(some 46), none, .q (.mv (.t 3))⟩,
                 ⟨(some 47), none, .q (.mv (.t 4))⟩,
                 ⟨(some 48), none, .q (.mv (.t 5))⟩,
                 ⟨(some 49), none, .q (.ixs 1 (.t 47) (.t 48))⟩,
                 ⟨(some 50), none, .q (.ld false 1 (.t 49))⟩,
                 ⟨(some 51), none, .q (.ixs 1 (.t 45) (.t 46))⟩,
                 ⟨none, none, .m (.st false 1 (.t 51) (.t 50))⟩])
              (.reg [⟨(some 52), none, .q (.mv (.t 3))⟩,
                ⟨(some 53), none, .q (.bin .add (.t 52) (.c (.int .i64 1)))⟩,
                ⟨(some 3), none, .q (.mv (.t 53))⟩]))
              .skip)))
           (.reg [⟨(some 33), none, .q (.mv (.t 5))⟩,
             ⟨(some 34), none, .q (.bin .add (.t 33) (.c (.int .i64 1)))⟩,
             ⟨(some 5), none, .q (.mv (.t 34))⟩]))))))
        (.seq (.reg [⟨(some 54), none, .q (.mv (.t 0))⟩,
           ⟨(some 55), none, .q (.mv (.t 3))⟩,
           ⟨(some 56), none, .q (.slc 1 (.t 54) (some (.t 55)) none)⟩,
           ⟨none, none, .m (.clr 1 (.v (.int .i64 0)) (.t 56))⟩])
        (.seq (.reg [⟨(some 57), none, .q (.mv (.t 0))⟩,
           ⟨(some 58), none, .q (.mv (.t 3))⟩,
           ⟨(some 59), none, .q (.slc 1 (.t 57) none (some (.t 58)))⟩,
           ⟨(some 2), none, .q (.mv (.t 59))⟩])
        .ret))))
        .skip)))
     (.reg [⟨(some 14), none, .q (.mv (.t 3))⟩,
       ⟨(some 15), none, .q (.bin .add (.t 14) (.c (.int .i64 1)))⟩,
       ⟨(some 3), none, .q (.mv (.t 15))⟩]))))))
  (.seq (.reg [⟨(some 60), none, .q (.mv (.t 0))⟩,
     ⟨(some 2), none, .q (.mv (.t 60))⟩])
  .ret))))⟩
theorem l_slices_Compact___int64_int64_ : lowF PA f_slices_Compact___int64_int64_ 1 [.k [0, 3, 61], .s (.take 0 (.take 1 (.take 2 (.take 3 (.take 4 (.take 5 (.take 6 (.take 7 (.take 8 (.take 9 .done)))))))))), .k [0, 3, 4, 5, 61], .s (.take 0 (.take 1 (.take 2 (.take 3 (.take 4 (.take 5 (.take 6 (.take 7 (.take 8 (.take 9 .done))))))))))] = some c_slices_Compact___int64_int64_ := by kernel_rfl
abbrev f_spec_l01Given : FuncId := 53
def c_spec_l01Given : AF := ⟨2, 14, [.t 4],
  (.seq (.reg [⟨(some 2), none, .m (.box (.t 0))⟩,
     ⟨(some 4), none, .q (.mv (.c (.int .i64 0)))⟩])
  (.seq (.block 0 (.seq (.reg [⟨(some 6), none, .q (.ld true 1 (.t 2))⟩,
       ⟨(some 7), none, .c (.call 73 [(.t 6)])⟩,
       ⟨(some 8), none, .q (.un .not (.t 7))⟩,
       ⟨(some 5), none, .q (.mv (.t 8))⟩])
    (.cond (.t 5)
     (.seq (.reg [⟨(some 4), none, .q (.mv (.c (.int .i64 1)))⟩])
     .ret)
     (.seq (.reg [⟨(some 10), none, .q (.ld true 1 (.t 2))⟩,
        ⟨(some 11), none, .q (.mv (.t 1))⟩,
        ⟨(some 12), none, .c (.call 76 [(.t 10), (.t 11)])⟩,
        ⟨(some 13), none, .q (.un .not (.t 12))⟩,
        ⟨(some 9), none, .q (.mv (.t 13))⟩])
     (.cond (.t 9)
      (.seq (.reg [⟨(some 4), none, .q (.mv (.c (.int .i64 2)))⟩])
      .ret)
      .skip)))))
  (.seq (.reg [⟨(some 4), none, .q (.mv (.c (.int .i64 0)))⟩])
  .ret)))⟩
theorem l_spec_l01Given : lowF PA f_spec_l01Given 2 [] = some c_spec_l01Given := by kernel_rfl
abbrev f_spec_l01In : FuncId := 54
def c_spec_l01In : AF := ⟨3, 15, [.t 6],
  (.seq (.reg [⟨(some 6), none, .q (.mv (.c (.bool false)))⟩])
  (.seq (.reg [⟨(some 7), none, .q (.mv (.t 0))⟩,
     ⟨(some 8), none, .q (.mv (.t 1))⟩,
     ⟨(some 9), none, .q (.bin .geq (.t 7) (.t 8))⟩,
     ⟨(some 10), none, .q (.mv (.t 9))⟩,
     ⟨(some 11), (some (10, true)), .q (.mv (.t 0))⟩,
     ⟨(some 12), (some (10, true)), .q (.mv (.t 2))⟩,
     ⟨(some 13), (some (10, true)), .q (.bin .leq (.t 11) (.t 12))⟩,
     ⟨(some 14), none, .q (.pick (.t 10) (.t 13) (.c (.bool false)))⟩,
     ⟨(some 6), none, .q (.mv (.t 14))⟩])
  .ret))⟩
theorem l_spec_l01In : lowF PA f_spec_l01In 3 [] = some c_spec_l01In := by kernel_rfl
abbrev f_spec_l01N : FuncId := 55
def c_spec_l01N : AF := ⟨1, 20, [.t 2],
  (.seq (.reg [⟨(some 1), none, .m (.box (.t 0))⟩,
     ⟨(some 2), none, .q (.mv (.c (.int .i64 0)))⟩])
  (.seq (.reg [⟨(some 3), none, .q (.mv (.c (.int .i64 1)))⟩])
  (.seq (.seq (.reg [⟨(some 4), none, .q (.mv (.c (.int .i64 0)))⟩])
   (.block 0 (.loop [1, 3, 4] (.seq (.seq (.reg [⟨(some 5), none, .q (.mv (.t 4))⟩,
         ⟨(some 6), none, .q (.fad 0 (.t 1))⟩,
         ⟨(some 7), none, .q (.ld false 1 (.t 6))⟩,
         ⟨(some 8), none, .q (.len (.t 7))⟩,
         ⟨(some 9), none, .q (.bin .lss (.t 5) (.t 8))⟩])
      (.cond (.t 9)
       .skip
       (.exit 0)))
     (.seq (.block 1 (.reg [⟨(some 12), none, .q (.mv (.t 3))⟩,
         ⟨(some 13), none, .q (.fad 0 (.t 1))⟩,
         ⟨(some 14), none, .q (.ld false 1 (.t 13))⟩,
         ⟨(some 15), none, .q (.mv (.t 4))⟩,
         ⟨(some 16), none, .q (.ixs 1 (.t 14) (.t 15))⟩,
         ⟨(some 17), none, .q (.ld false 1 (.t 16))⟩,
         ⟨(some 18), none, .q (.bin .mul (.t 12) (.t 17))⟩,
         ⟨(some 3), none, .q (.mv (.t 18))⟩]))
     (.reg [⟨(some 10), none, .q (.mv (.t 4))⟩,
       ⟨(some 11), none, .q (.bin .add (.t 10) (.c (.int .i64 1)))⟩,
       ⟨(some 4), none, .q (.mv (.t 11))⟩]))))))
  (.seq (.reg [⟨(some 19), none, .q (.mv (.t 3))⟩,
     ⟨(some 2), none, .q (.mv (.t 19))⟩])
  .ret))))⟩
theorem l_spec_l01N : lowF PA f_spec_l01N 1 [.k [1, 3, 4]] = some c_spec_l01N := by kernel_rfl
abbrev f_spec_l06Is : FuncId := 56
def c_spec_l06Is : AF := ⟨3, 24, [.t 6],
  (.seq (.reg [⟨(some 3), none, .m (.box (.t 0))⟩,
     ⟨(some 6), none, .q (.mv (.c (.bool false)))⟩])
  (.seq (.reg [⟨(some 9), none, .q (.ld true 1 (.t 3))⟩,
     ⟨(some 10), none, .q (.mv (.t 1))⟩,
     ⟨(some 11), none, .q (.mv (.t 2))⟩,
     ⟨(some 12), none, .c (.call 77 [(.t 9), (.t 10), (.t 11)])⟩,
     ⟨(some 7), none, .q (.mv (.t 12))⟩])
  (.seq (.seq (.reg [⟨(some 13), none, .q (.mv (.t 7))⟩,
      ⟨(some 14), none, .q (.len (.t 13))⟩,
      ⟨(some 15), none, .q (.mv (.c (.int .i64 0)))⟩])
   (.block 0 (.loop [7, 14, 15] (.seq (.reg [⟨(some 16), none, .q (.bin .lss (.t 15) (.t 14))⟩])
     (.seq (.cond (.t 16)
       .skip
       (.exit 0))
     (.seq (.block 1 (.seq (.reg [⟨(some 17), none, .q (.mv (.t 15))⟩,
          ⟨(some 8), none, .q (.mv (.t 17))⟩])
       (.seq (.reg [⟨(some 18), none, .q (.mv (.t 7))⟩,
          ⟨(some 19), none, .q (.mv (.t 8))⟩,
          ⟨(some 20), none, .q (.ixs 1 (.t 18) (.t 19))⟩,
          ⟨(some 21), none, .q (.ld false 1 (.t 20))⟩,
          ⟨(some 22), none, .q (.bin .neq (.t 21) (.c (.int .i64 1)))⟩])
       (.cond (.t 22)
        (.seq (.reg [⟨(some 6), none, .q (.mv (.c (.bool false)))⟩])
        .ret)
        .skip))))
     (.reg [⟨(some 23), none, .q (.bin .add (.t 15) (.c (.int .i64 1)))⟩,
       ⟨(some 15), none, .q (.mv (.t 23))⟩])))))))
  (.seq (.reg [⟨(some 6), none, .q (.mv (.c (.bool true)))⟩])
  .ret))))⟩
theorem l_spec_l06Is : lowF PA f_spec_l06Is 3 [.k [7, 14, 15]] = some c_spec_l06Is := by kernel_rfl
abbrev f_impl_codeCode : FuncId := 57
def c_impl_codeCode : AF := ⟨3, 18, [.t 6],
  (.seq (.reg [⟨(some 3), none, .m (.box (.t 0))⟩,
     ⟨(some 6), none, .q (.mv (.c (.int .i64 0)))⟩])
  (.seq (.seq (.reg [⟨(some 8), none, .q (.ld true 1 (.t 3))⟩,
      ⟨(some 9), none, .q (.mv (.t 2))⟩,
      ⟨(some 10), none, .c (.call 78 [(.t 8), (.t 9)])⟩,
      ⟨(some 7), none, .q (.mv (.t 10))⟩])
   (.seq (.reg [⟨(some 11), none, .q (.mv (.t 7))⟩,
      ⟨(some 12), none, .q (.bin .neq (.t 11) (.c (.int .i64 0)))⟩])
   (.cond (.t 12)
    (.seq (.reg [⟨(some 13), none, .q (.mv (.t 7))⟩,
       ⟨(some 6), none, .q (.mv (.t 13))⟩])
    .ret)
    .skip)))
  (.seq (.seq (.reg [⟨(some 14), none, .q (.ld true 1 (.t 3))⟩,
      ⟨(some 15), none, .q (.mv (.t 1))⟩,
      ⟨(some 16), none, .c (.call 79 [(.t 14), (.t 15)])⟩,
      ⟨(some 17), none, .q (.un .not (.t 16))⟩])
   (.cond (.t 17)
    (.seq (.reg [⟨(some 6), none, .q (.mv (.c (.int .i64 2)))⟩])
    .ret)
    .skip))
  (.seq (.reg [⟨(some 6), none, .q (.mv (.c (.int .i64 0)))⟩])
  .ret))))⟩
theorem l_impl_codeCode : lowF PA f_impl_codeCode 3 [] = some c_impl_codeCode := by kernel_rfl
abbrev f_impl_isPlace : FuncId := 58
def c_impl_isPlace : AF := ⟨2, 13, [.t 4],
  (.seq (.reg [⟨(some 2), none, .m (.box (.t 0))⟩,
     ⟨(some 4), none, .q (.mv (.c (.bool false)))⟩])
  (.seq (.reg [⟨(some 5), none, .q (.mv (.t 1))⟩,
     ⟨(some 6), none, .q (.bin .geq (.t 5) (.c (.int .i64 0)))⟩,
     ⟨(some 7), none, .q (.mv (.t 6))⟩,
     ⟨(some 8), (some (7, true)), .q (.mv (.t 1))⟩,
     ⟨(some 9), (some (7, true)), .q (.ld true 1 (.t 2))⟩,
     ⟨(some 10), (some (7, true)), .c (.call 71 [(.t 9)])⟩,
     ⟨(some 11), (some (7, true)), .q (.bin .lss (.t 8) (.t 10))⟩,
     ⟨(some 12), none, .q (.pick (.t 7) (.t 11) (.c (.bool false)))⟩,
     ⟨(some 4), none, .q (.mv (.t 12))⟩])
  .ret))⟩
theorem l_impl_isPlace : lowF PA f_impl_isPlace 2 [] = some c_impl_isPlace := by kernel_rfl
abbrev f_slices_Max___int64_int64_ : FuncId := 59
def c_slices_Max___int64_int64_ : AF := ⟨1, 25, [.t 2],
  (.seq (.reg [⟨(some 2), none, .q (.mv (.c (.int .i64 0)))⟩])
  (.seq (.seq (.reg [⟨(some 5), none, .q (.mv (.t 0))⟩,
      ⟨(some 6), none, .q (.len (.t 5))⟩,
      ⟨(some 7), none, .q (.bin .lss (.t 6) (.c (.int .i64 1)))⟩])
   (.cond (.t 7)
    .bad
    .skip))
  (.seq (.reg [⟨(some 9), none, .q (.mv (.t 0))⟩,
     ⟨(some 10), none, .q (.ixs 1 (.t 9) (.c (.int .i64 0)))⟩,
     ⟨(some 11), none, .q (.ld false 1 (.t 10))⟩,
     ⟨(some 3), none, .q (.mv (.t 11))⟩])
  (.seq (.seq (.reg [⟨(some 4), none, .q (.mv (.c (.int .i64 1)))⟩])
   (.block 0 (.loop [0, 3, 4] (.seq (.seq (.reg [⟨(some 12), none, .q (.mv (.t 4))⟩,
         ⟨(some 13), none, .q (.mv (.t 0))⟩,
         ⟨(some 14), none, .q (.len (.t 13))⟩,
         ⟨(some 15), none, .q (.bin .lss (.t 12) (.t 14))⟩])
      (.cond (.t 15)
       .skip
       (.exit 0)))
     (.seq (.block 1 (.reg [⟨(some 18), none, .q (.mv (.t 3))⟩,
         ⟨(some 19), none, .q (.mv (.t 0))⟩,
         ⟨(some 20), none, .q (.mv (.t 4))⟩,
         ⟨(some 21), none, .q (.ixs 1 (.t 19) (.t 20))⟩,
         ⟨(some 22), none, .q (.ld false 1 (.t 21))⟩,
         ⟨(some 23), none, .q (.mx (.t 18) (.t 22))⟩,
         ⟨(some 3), none, .q (.mv (.t 23))⟩]))
     (.reg [⟨(some 16), none, .q (.mv (.t 4))⟩,
       ⟨(some 17), none, .q (.bin .add (.t 16) (.c (.int .i64 1)))⟩,
       ⟨(some 4), none, .q (.mv (.t 17))⟩]))))))
  (.seq (.reg [⟨(some 24), none, .q (.mv (.t 3))⟩,
     ⟨(some 2), none, .q (.mv (.t 24))⟩])
  .ret)))))⟩
theorem l_slices_Max___int64_int64_ : lowF PA f_slices_Max___int64_int64_ 1 [.x 2, .k [0, 3, 4]] = some c_slices_Max___int64_int64_ := by kernel_rfl
abbrev f_impl_isPerfect : FuncId := 60
def c_impl_isPerfect : AF := ⟨3, 13, [.t 6],
  (.seq (.reg [⟨(some 3), none, .m (.box (.t 0))⟩,
     ⟨(some 6), none, .q (.mv (.c (.bool false)))⟩])
  (.seq (.reg [⟨(some 7), none, .q (.ld true 1 (.t 3))⟩,
     ⟨(some 8), none, .q (.mv (.t 1))⟩,
     ⟨(some 9), none, .q (.mv (.t 2))⟩,
     ⟨(some 10), none, .c (.call 81 [(.t 7), (.t 8), (.t 9)])⟩,
     ⟨(some 11), none, .c (.call 80 [(.t 10), (.f 82)])⟩,
     ⟨(some 12), none, .q (.un .not (.t 11))⟩,
     ⟨(some 6), none, .q (.mv (.t 12))⟩])
  .ret))⟩
theorem l_impl_isPerfect : lowF PA f_impl_isPerfect 3 [] = some c_impl_isPerfect := by kernel_rfl
abbrev f_impl_digitsOfAll : FuncId := 61
def c_impl_digitsOfAll : AF := ⟨2, 23, [.t 4],
  (.seq (.reg [⟨(some 2), none, .m (.box (.t 0))⟩,
     ⟨(some 4), none, .q (.mv (.c (.slice none 0 0)))⟩])
  (.seq (.reg [⟨(some 8), none, .m (.bsl 8 [])⟩,
     ⟨(some 5), none, .q (.mv (.t 8))⟩])
  (.seq (.seq (.reg [⟨(some 9), none, .q (.mv (.t 1))⟩,
      ⟨(some 10), none, .q (.len (.t 9))⟩,
      ⟨(some 11), none, .q (.mv (.c (.int .i64 0)))⟩])
   (.block 0 (.loop [2, 5, 9, 10, 11] (.seq (.reg [⟨(some 12), none, .q (.bin .lss (.t 11) (.t 10))⟩])
     (.seq (.cond (.t 12)
       .skip
       (.exit 0))
     (.seq (.block 1 (.seq (.reg [⟨(some 13), none, .q (.ixs 1 (.t 9) (.t 11))⟩,
          ⟨(some 14), none, .q (.ld false 1 (.t 13))⟩,
          ⟨(some 7), none, .q (.mv (.t 14))⟩])
       (.reg [⟨(some 15), none, .q (.mv (.t 5))⟩,
         ⟨(some 16), none, .q (.ld true 1 (.t 2))⟩,
         ⟨(some 17), none, .q (.mv (.t 7))⟩,
         ⟨(some 18), none, .c (.call 37 [(.t 16), (.t 17)])⟩,
         ⟨(some 19), none, .m (.bsl 8 [(.t 18)])⟩,
         ⟨(some 20), none, .m (.app 8 8 (.t 15) (.t 19))⟩,
         ⟨(some 5), none, .q (.mv (.t 20))⟩])))
     (.reg [⟨(some 21), none, .q (.bin .add (.t 11) (.c (.int .i64 1)))⟩,
       ⟨(some 11), none, .q (.mv (.t 21))⟩])))))))
  (.seq (.reg [⟨(some 22), none, .q (.mv (.t 5))⟩,
     ⟨(some 4), none, .q (.mv (.t 22))⟩])
  .ret))))⟩
theorem l_impl_digitsOfAll : lowF PA f_impl_digitsOfAll 2 [.k [2, 5, 9, 10, 11]] = some c_impl_digitsOfAll := by kernel_rfl
abbrev f_slices_Contains___impl_digits_impl_digits_ : FuncId := 62
def c_slices_Contains___impl_digits_impl_digits_ : AF := ⟨2, 9, [.t 4],
  (.seq (.reg [⟨(some 3), none, .m (.box (.t 1))⟩,
     ⟨(some 4), none, .q (.mv (.c (.bool false)))⟩])
  (.seq (.reg [⟨(some 5), none, .q (.mv (.t 0))⟩,
     ⟨(some 6), none, .q (.ld true 8 (.t 3))⟩,
     ⟨(some 7), none, .c (.call 83 [(.t 5), (.t 6)])⟩,
     ⟨(some 8), none, .q (.bin .geq (.t 7) (.c (.int .i64 0)))⟩,
     ⟨(some 4), none, .q (.mv (.t 8))⟩])
  .ret))⟩
theorem l_slices_Contains___impl_digits_impl_digits_ : lowF PA f_slices_Contains___impl_digits_impl_digits_ 2 [] = some c_slices_Contains___impl_digits_impl_digits_ := by kernel_rfl
abbrev f_spec_l01Own : FuncId := 63
def c_spec_l01Own : AF := ⟨1, 6, [.t 2],
  (.seq (.reg [⟨(some 2), none, .q (.mv (.c (.slice none 0 0)))⟩])
  (.seq (.reg [⟨(some 3), none, .m (.bsl 1 [])⟩,
     ⟨(some 4), none, .q (.mv (.t 0))⟩,
     ⟨(some 5), none, .m (.app 1 8 (.t 3) (.t 4))⟩,
     ⟨(some 2), none, .q (.mv (.t 5))⟩])
  .ret))⟩
theorem l_spec_l01Own : lowF PA f_spec_l01Own 1 [] = some c_spec_l01Own := by kernel_rfl
abbrev f_slices_Index___int64_int64_ : FuncId := 64
def c_slices_Index___int64_int64_ : AF := ⟨2, 19, [.t 4],
  (.seq (.reg [⟨(some 4), none, .q (.mv (.c (.int .i64 0)))⟩])
  (.seq (.seq (.reg [⟨(some 6), none, .q (.mv (.t 0))⟩,
      ⟨(some 7), none, .q (.len (.t 6))⟩,
      ⟨(some 8), none, .q (.mv (.c (.int .i64 0)))⟩])
   (.block 0 (.loop [0, 1, 7, 8] (.seq (.reg [⟨(some 9), none, .q (.bin .lss (.t 8) (.t 7))⟩])
     (.seq (.cond (.t 9)
       .skip
       (.exit 0))
     (.seq (.block 1 (.seq (.reg [⟨(some 10), none, .q (.mv (.t 8))⟩,
          ⟨(some 5), none, .q (.mv (.t 10))⟩])
       (.seq (.reg [⟨(some 11), none, .q (.mv (.t 1))⟩,
          ⟨(some 12), none, .q (.mv (.t 0))⟩,
          ⟨(some 13), none, .q (.mv (.t 5))⟩,
          ⟨(some 14), none, .q (.ixs 1 (.t 12) (.t 13))⟩,
          ⟨(some 15), none, .q (.ld false 1 (.t 14))⟩,
          ⟨(some 16), none, .q (.bin .eql (.t 11) (.t 15))⟩])
       (.cond (.t 16)
        (.seq (.reg [⟨(some 17), none, .q (.mv (.t 5))⟩,
           ⟨(some 4), none, .q (.mv (.t 17))⟩])
        .ret)
        .skip))))
     (.reg [⟨(some 18), none, .q (.bin .add (.t 8) (.c (.int .i64 1)))⟩,
       ⟨(some 8), none, .q (.mv (.t 18))⟩])))))))
  (.seq (.reg [⟨(some 4), none, .q (.mv (.c (.int .i64 (-1))))⟩])
  .ret)))⟩
theorem l_slices_Index___int64_int64_ : lowF PA f_slices_Index___int64_int64_ 2 [.k [0, 1, 7, 8]] = some c_slices_Index___int64_int64_ := by kernel_rfl
abbrev f_impl_count : FuncId := 69
def c_impl_count : AF := ⟨1, 18, [.t 2],
  (.seq (.reg [⟨(some 1), none, .m (.box (.t 0))⟩,
     ⟨(some 2), none, .q (.mv (.c (.int .i64 0)))⟩])
  (.seq (.reg [⟨(some 3), none, .q (.mv (.c (.int .i64 1)))⟩])
  (.seq (.seq (.reg [⟨(some 6), none, .q (.fad 0 (.t 1))⟩,
      ⟨(some 7), none, .q (.ld false 1 (.t 6))⟩,
      ⟨(some 8), none, .q (.len (.t 7))⟩,
      ⟨(some 9), none, .q (.mv (.c (.int .i64 0)))⟩])
   (.block 0 (.loop [3, 7, 8, 9] (.seq (.reg [⟨(some 10), none, .q (.bin .lss (.t 9) (.t 8))⟩])
     (.seq (.cond (.t 10)
       .skip
       (.exit 0))
     (.seq (.block 1 (.seq (.reg [⟨(some 11), none, .q (.ixs 1 (.t 7) (.t 9))⟩,
          ⟨(some 12), none, .q (.ld false 1 (.t 11))⟩,
          ⟨(some 5), none, .q (.mv (.t 12))⟩])
       (.reg [⟨(some 13), none, .q (.mv (.t 3))⟩,
         ⟨(some 14), none, .q (.mv (.t 5))⟩,
         ⟨(some 15), none, .q (.bin .mul (.t 13) (.t 14))⟩,
         ⟨(some 3), none, .q (.mv (.t 15))⟩])))
     (.reg [⟨(some 16), none, .q (.bin .add (.t 9) (.c (.int .i64 1)))⟩,
       ⟨(some 9), none, .q (.mv (.t 16))⟩])))))))
  (.seq (.reg [⟨(some 17), none, .q (.mv (.t 3))⟩,
     ⟨(some 2), none, .q (.mv (.t 17))⟩])
  .ret))))⟩
theorem l_impl_count : lowF PA f_impl_count 1 [.k [3, 7, 8, 9]] = some c_impl_count := by kernel_rfl
abbrev f_impl_allDigits : FuncId := 70
def c_impl_allDigits : AF := ⟨1, 19, [.t 2],
  (.seq (.reg [⟨(some 1), none, .m (.box (.t 0))⟩,
     ⟨(some 2), none, .q (.mv (.c (.slice none 0 0)))⟩])
  (.seq (.reg [⟨(some 5), none, .m (.bsl 8 [])⟩,
     ⟨(some 3), none, .q (.mv (.t 5))⟩])
  (.seq (.seq (.reg [⟨(some 6), none, .q (.ld true 1 (.t 1))⟩,
      ⟨(some 7), none, .c (.call 69 [(.t 6)])⟩,
      ⟨(some 8), none, .q (.mv (.c (.int .i64 0)))⟩])
   (.block 0 (.loop [1, 3, 7, 8] (.seq (.reg [⟨(some 9), none, .q (.bin .lss (.t 8) (.t 7))⟩])
     (.seq (.cond (.t 9)
       .skip
       (.exit 0))
     (.seq (.block 1 (.seq (.reg [⟨(some 10), none, .q (.mv (.t 8))⟩,
          ⟨(some 4), none, .q (.mv (.t 10))⟩])
       (.reg [⟨(some 11), none, .q (.mv (.t 3))⟩,
         ⟨(some 12), none, .q (.ld true 1 (.t 1))⟩,
         ⟨(some 13), none, .q (.mv (.t 4))⟩,
         ⟨(some 14), none, .c (.call 37 [(.t 12), (.t 13)])⟩,
         ⟨(some 15), none, .m (.bsl 8 [(.t 14)])⟩,
         ⟨(some 16), none, .m (.app 8 8 (.t 11) (.t 15))⟩,
         ⟨(some 3), none, .q (.mv (.t 16))⟩])))
     (.reg [⟨(some 17), none, .q (.bin .add (.t 8) (.c (.int .i64 1)))⟩,
       ⟨(some 8), none, .q (.mv (.t 17))⟩])))))))
  (.seq (.reg [⟨(some 18), none, .q (.mv (.t 3))⟩,
     ⟨(some 2), none, .q (.mv (.t 18))⟩])
  .ret))))⟩
theorem l_impl_allDigits : lowF PA f_impl_allDigits 1 [.k [1, 3, 7, 8]] = some c_impl_allDigits := by kernel_rfl
abbrev f_impl_places : FuncId := 71
def c_impl_places : AF := ⟨1, 6, [.t 2],
  (.seq (.reg [⟨(some 1), none, .m (.box (.t 0))⟩,
     ⟨(some 2), none, .q (.mv (.c (.int .i64 0)))⟩])
  (.seq (.reg [⟨(some 3), none, .q (.fad 0 (.t 1))⟩,
     ⟨(some 4), none, .q (.ld false 1 (.t 3))⟩,
     ⟨(some 5), none, .q (.len (.t 4))⟩,
     ⟨(some 2), none, .q (.mv (.t 5))⟩])
  .ret))⟩
theorem l_impl_places : lowF PA f_impl_places 1 [] = some c_impl_places := by kernel_rfl
abbrev f_spec_l01Is : FuncId := 73
def c_spec_l01Is : AF := ⟨1, 26, [.t 2],
  (.seq (.reg [⟨(some 1), none, .m (.box (.t 0))⟩,
     ⟨(some 2), none, .q (.mv (.c (.bool false)))⟩])
  (.seq (.seq (.reg [⟨(some 4), none, .q (.fad 0 (.t 1))⟩,
      ⟨(some 5), none, .q (.ld false 1 (.t 4))⟩,
      ⟨(some 6), none, .q (.len (.t 5))⟩,
      ⟨(some 7), none, .c (.call 54 [(.t 6), (.c (.int .i64 1)), (.c (.int .i64 8))])⟩,
      ⟨(some 8), none, .q (.un .not (.t 7))⟩])
   (.cond (.t 8)
    (.seq (.reg [⟨(some 2), none, .q (.mv (.c (.bool false)))⟩])
    .ret)
    .skip))
  (.seq (.seq (.reg [⟨(some 3), none, .q (.mv (.c (.int .i64 0)))⟩])
   (.block 0 (.loop [1, 3] (.seq (.seq (.reg [⟨(some 9), none, .q (.mv (.t 3))⟩,
         ⟨(some 10), none, .q (.fad 0 (.t 1))⟩,
         ⟨(some 11), none, .q (.ld false 1 (.t 10))⟩,
         ⟨(some 12), none, .q (.len (.t 11))⟩,
         ⟨(some 13), none, .q (.bin .lss (.t 9) (.t 12))⟩])
      (.cond (.t 13)
       .skip
       (.exit 0)))
     (.seq (.block 1 (.seq (.reg [⟨(some 16), none, .q (.fad 0 (.t 1))⟩,
          ⟨(some 17), none, .q (.ld false 1 (.t 16))⟩,
          ⟨(some 18), none, .q (.mv (.t 3))⟩,
          ⟨(some 19), none, .q (.ixs 1 (.t 17) (.t 18))⟩,
          ⟨(some 20), none, .q (.ld false 1 (.t 19))⟩,
          ⟨(some 21), none, .c (.call 54 [(.t 20), (.c (.int .i64 2)), (.c (.int .i64 4))])⟩,
          ⟨(some 22), none, .q (.un .not (.t 21))⟩])
       (.cond (.t 22)
        (.seq (.reg [⟨(some 2), none, .q (.mv (.c (.bool false)))⟩])
        .ret)
        .skip)))
     (.reg [⟨(some 14), none, .q (.mv (.t 3))⟩,
       ⟨(some 15), none, .q (.bin .add (.t 14) (.c (.int .i64 1)))⟩,
       ⟨(some 3), none, .q (.mv (.t 15))⟩]))))))
  (.seq (.reg [⟨(some 23), none, .q (.ld true 1 (.t 1))⟩,
     ⟨(some 24), none, .c (.call 55 [(.t 23)])⟩,
     ⟨(some 25), none, .q (.bin .leq (.t 24) (.c (.int .i64 1024)))⟩,
     ⟨(some 2), none, .q (.mv (.t 25))⟩])
  .ret))))⟩
theorem l_spec_l01Is : lowF PA f_spec_l01Is 1 [.k [1, 3]] = some c_spec_l01Is := by kernel_rfl
abbrev f_slices_pdqsortOrdered_int64_ : FuncId := 74
def c_slices_pdqsortOrdered_int64_ : AF := ⟨4, 134, [],
  (.seq (.reg [⟨(some 8), none, .q (.mv (.c (.bool true)))⟩])
  (.seq (.reg [⟨(some 9), none, .q (.mv (.c (.bool true)))⟩])
  (.block 0 (.loop [0, 1, 2, 3, 8, 9, 134] (.block 1 (.seq (.reg [⟨(some 19), none, .q (.mv (.t 2))⟩,
        ⟨(some 20), none, .q (.mv (.t 1))⟩,
        ⟨(some 21), none, .q (.bin .sub (.t 19) (.t 20))⟩,
        ⟨(some 10), none, .q (.mv (.t 21))⟩])
     (.seq (.seq (.reg [⟨(some 22), none, .q (.mv (.t 10))⟩,
         ⟨(some 23), none, .q (.bin .leq (.t 22) (.c (.int .i64 12)))⟩])
      (.cond (.t 23)
       (.seq (.reg [⟨(some 24), none, .q (.mv (.t 0))⟩,
          ⟨(some 25), none, .q (.mv (.t 1))⟩,
          ⟨(some 26), none, .q (.mv (.t 2))⟩,
          ⟨(some 27), none, .c (.call 90 [(.t 24), (.t 25), (.t 26)])⟩])
       .ret)
       .skip))
     (.seq (.seq (.reg [⟨(some 28), none, .q (.mv (.t 3))⟩,
         ⟨(some 29), none, .q (.bin .eql (.t 28) (.c (.int .i64 0)))⟩])
      (.cond (.t 29)
       (.seq (.reg [⟨(some 30), none, .q (.mv (.t 0))⟩,
          ⟨(some 31), none, .q (.mv (.t 1))⟩,
          ⟨(some 32), none, .q (.mv (.t 2))⟩,
          ⟨(some 33), none, .c (.call 91 [(.t 30), (.t 31), (.t 32)])⟩])
       .ret)
       .skip))
     (.seq (.seq (.reg [⟨(some 34), none, .q (.mv (.t 8))⟩,
         ⟨(some 35), none, .q (.un .not (.t 34))⟩])
      (.cond (.t 35)
       (.seq (.reg [⟨(some 36), none, .q (.mv (.t 0))⟩,
          ⟨(some 37), none, .q (.mv (.t 1))⟩,
          ⟨(some 38), none, .q (.mv (.t 2))⟩,
          ⟨(some 39), none, .c (.call 92 [(.t 36), (.t 37), (.t 38)])⟩])
       (.reg [⟨(some 40), none, .q (.mv (.t 3))⟩,
         ⟨(some 41), none, .q (.bin .sub (.t 40) (.c (.int .i64 1)))⟩,
         ⟨(some 3), none, .q (.mv (.t 41))⟩]))
       .skip))
     (.seq (.reg [⟨(some 43), none, .q (.mv (.t 0))⟩,
        ⟨(some 44), none, .q (.mv (.t 1))⟩,
        ⟨(some 45), none, .q (.mv (.t 2))⟩,
        ⟨(some 46), none, .c (.call 93 [(.t 43), (.t 44), (.t 45)])⟩,
        ⟨(some 42), none, .q (.mv (.t 46))⟩,
        ⟨(some 47), none, .q (.ext (.t 42) 0)⟩,
        ⟨(some 48), none, .q (.ext (.t 42) 1)⟩,
        ⟨(some 11), none, .q (.mv (.t 47))⟩,
        ⟨(some 12), none, .q (.mv (.t 48))⟩])
     (.seq (.seq (.reg [⟨(some 49), none, .q (.mv (.t 12))⟩,
         ⟨(some 50), none, .q (.bin .eql (.t 49) (.c (.int .i64 2)))⟩])
      (.cond (.t 50)
       (.seq (.reg [⟨(some 51), none, .q (.mv (.t 0))⟩,
          ⟨(some 52), none, .q (.mv (.t 1))⟩,
          ⟨(some 53), none, .q (.mv (.t 2))⟩,
          ⟨(some 54), none, .c (.call 94 [(.t 51), (.t 52), (.t 53)])⟩])
       (.seq (.reg [⟨(some 55), none, .q (.mv (.t 2))⟩,
          ⟨(some 56), none, .q (.bin .sub (.t 55) (.c (.int .i64 1)))⟩,
          ⟨(some 57), none, .q (.mv (.t 11))⟩,
          ⟨(some 58), none, .q (.mv (.t 1))⟩,
          ⟨(some 59), none, .q (.bin .sub (.t 57) (.t 58))⟩,
          ⟨(some 60), none, .q (.bin .sub (.t 56) (.t 59))⟩,
          ⟨(some 11), none, .q (.mv (.t 60))⟩])
       (.reg [⟨(some 12), none, .q (.mv (.c (.int .i64 1)))⟩])))
       .skip))
     (.seq (.seq (.reg [⟨(some 61), none, .q (.mv (.t 8))⟩,
         ⟨(some 62), none, .q (.mv (.t 61))⟩,
         ⟨(some 63), (some (62, true)), .q (.mv (.t 9))⟩,
         ⟨(some 64), none, .q (.pick (.t 62) (.t 63) (.c (.bool false)))⟩,
         ⟨(some 65), none, .q (.mv (.t 64))⟩,
         ⟨(some 66), (some (65, true)), .q (.mv (.t 12))⟩,
         ⟨(some 67), (some (65, true)), .q (.bin .eql (.t 66) (.c (.int .i64 1)))⟩,
         ⟨(some 68), none, .q (.pick (.t 65) (.t 67) (.c (.bool false)))⟩])
      (.cond (.t 68)
       (.seq (.reg [⟨(some 69), none, .q (.mv (.t 0))⟩,
          ⟨(some 70), none, .q (.mv (.t 1))⟩,
          ⟨(some 71), none, .q (.mv (.t 2))⟩,
          ⟨(some 72), none, .c (.call 95 [(.t 69), (.t 70), (.t 71)])⟩])
       (.cond (.t 72)
        .ret
        .skip))
       .skip))
     (.seq (.seq (.sch (.take 0 ⟨(some 73), none, .q (.mv (.t 1))⟩ (.take 1 ⟨(some 74), none, .q (.bin .gtr (.t 73) (.c (.int .i64 0)))⟩ (.take 2 ⟨(some 75), none, .q (.mv (.t 74))⟩ (.take 3 ⟨(some 76), (some (75, true)), .q (.mv (.t 0))⟩ (.take 4 ⟨(some 77), (some (75, true)), .q (.mv (.t 1))⟩ (.take 5 ⟨(some 78), (some (75, true)), .q (.bin .sub (.t 77) (.c (.int .i64 1)))⟩ (.take 6 ⟨(some 79), (some (75, true)), .q (.ixs 1 (.t 76) (.t 78))⟩ (.take 7 ⟨(some 80), (some (75, true)), .q (.ld false 1 (.t 79))⟩ (.take 8 ⟨(some 81), (some (75, true)), .q (.mv (.t 0))⟩ (.take 9 ⟨(some 82), (some (75, true)), .q (.mv (.t 11))⟩ (.take 10 ⟨(some 83), (some (75, true)), .q (.ixs 1 (.t 81) (.t 82))⟩ (.take 11 ⟨(some 84), (some (75, true)), .q (.ld false 1 (.t 83))⟩ (.one ⟨(some 85), (some (75, true)), .c (.call 96 [(.t 80), (.t 84)])⟩ [11, 7] (.take 13 ⟨(some 86), (some (75, true)), .q (.un .not (.t 85))⟩ (.take 14 ⟨(some 87), none, .q (.pick (.t 75) (.t 86) (.c (.bool false)))⟩ .done))))))))))))))))
      (.cond (.t 87)
       (.seq (.reg [⟨(some 88), none, .q (.mv (.t 0))⟩,
          ⟨(some 89), none, .q (.mv (.t 1))⟩,
          ⟨(some 90), none, .q (.mv (.t 2))⟩,
          ⟨(some 91), none, .q (.mv (.t 11))⟩,
          ⟨(some 92), none, .c (.call 97 [(.t 88), (.t 89), (.t 90), (.t 91)])⟩,
          ⟨(some 13), none, .q (.mv (.t 92))⟩])
       (.seq (.reg [⟨(some 93), none, .q (.mv (.t 13))⟩,
          ⟨(some 1), none, .q (.mv (.t 93))⟩])
       (.exit 1)))
       .skip))
     (.seq (.reg [⟨(some 95), none, .q (.mv (.t 0))⟩,
        ⟨(some 96), none, .q (.mv (.t 1))⟩,
        ⟨(some 97), none, .q (.mv (.t 2))⟩,
        ⟨(some 98), none, .q (.mv (.t 11))⟩,
        ⟨(some 99), none, .c (.call 98 [(.t 95), (.t 96), (.t 97), (.t 98)])⟩,
        ⟨(some 94), none, .q (.mv (.t 99))⟩,
        ⟨(some 100), none, .q (.ext (.t 94) 0)⟩,
        ⟨(some 101), none, .q (.ext (.t 94) 1)⟩,
        ⟨(some 14), none, .q (.mv (.t 100))⟩,
        ⟨(some 15), none, .q (.mv (.t 101))⟩])
     (.seq (.reg [⟨(some 102), none, .q (.mv (.t 15))⟩,
        ⟨(some 9), none, .q (.mv (.t 102))⟩])
     (.seq (.reg [⟨(some 103), none, .q (.mv (.t 14))⟩,
        ⟨(some 104), none, .q (.mv (.t 1))⟩,
        ⟨(some 105), none, .q (.bin .sub (.t 103) (.t 104))⟩,
        ⟨(some 106), none, .q (.mv (.t 2))⟩,
        ⟨(some 107), none, .q (.mv (.t 14))⟩,
        ⟨(some 108), none, .q (.bin .sub (.t 106) (.t 107))⟩,
        ⟨(some 16), none, .q (.mv (.t 105))⟩,
        ⟨(some 17), none, .q (.mv (.t 108))⟩])
     (.seq (.reg [⟨(some 109), none, .q (.mv (.t 10))⟩,
        ⟨(some 110), none, .q (.bin .quo (.t 109) (.c (.int .i64 8)))⟩,
        ⟨(some 18), none, .q (.mv (.t 110))⟩])
     (.seq (.reg [⟨(some 111), none, .q (.mv (.t 16))⟩,
        ⟨(some 112), none, .q (.mv (.t 17))⟩,
        ⟨(some 113), none, .q (.bin .lss (.t 111) (.t 112))⟩])
     (.cond (.t 113)
      (.seq (.reg [⟨(some 114), none, .q (.mv (.t 16))⟩,
         ⟨(some 115), none, .q (.mv (.t 18))⟩,
         ⟨(some 116), none, .q (.bin .geq (.t 114) (.t 115))⟩,
         ⟨(some 8), none, .q (.mv (.t 116))⟩])
      (.seq (.reg [⟨(some 117), none, .q (.mv (.t 0))⟩,
         ⟨(some 118), none, .q (.mv (.t 1))⟩,
         ⟨(some 119), none, .q (.mv (.t 14))⟩,
         ⟨(some 120), none, .q (.mv (.t 3))⟩,
         ⟨(some 121), none, .c (.call 74 [(.t 117), (.t 118), (.t 119), (.t 120)])⟩])
      (.reg [⟨(some 122), none, .q (.mv (.t 14))⟩,
        ⟨(some 123), none, .q (.bin .add (.t 122) (.c (.int .i64 1)))⟩,
        ⟨(some 1), none, .q (.mv (.t 123))⟩])))
      (.seq (.reg [⟨(some 124), none, .q (.mv (.t 17))⟩,
         ⟨(some 125), none, .q (.mv (.t 18))⟩,
         ⟨(some 126), none, .q (.bin .geq (.t 124) (.t 125))⟩,
         ⟨(some 8), none, .q (.mv (.t 126))⟩])
      (.seq (.reg [⟨(some 127), none, .q (.mv (.t 0))⟩,
         ⟨(some 128), none, .q (.mv (.t 14))⟩,
         ⟨(some 129), none, .q (.bin .add (.t 128) (.c (.int .i64 1)))⟩,
         ⟨(some 130), none, .q (.mv (.t 2))⟩,
         ⟨(some 131), none, .q (.mv (.t 3))⟩,
         ⟨(some 132), none, .c (.call 74 [(.t 127), (.t 129), (.t 130), (.t 131)])⟩])
      (.reg [⟨(some 133), none, .q (.mv (.t 14))⟩,
        ⟨(some 2), none, .q (.mv (.t 133))⟩]))))))))))))))))))))))⟩
theorem l_slices_pdqsortOrdered_int64_ : lowF PA f_slices_pdqsortOrdered_int64_ 4 [.k [0, 1, 2, 3, 8, 9, 134], .s (.take 0 (.take 1 (.take 2 (.take 3 (.take 4 (.take 5 (.take 6 (.take 7 (.take 8 (.take 9 (.take 10 (.take 11 (.one 12 (.take 13 (.take 14 .done)))))))))))))))] = some c_slices_pdqsortOrdered_int64_ := by kernel_rfl
abbrev f_math_bits_Len : FuncId := 75
def c_math_bits_Len : AF := ⟨1, 8, [.t 2],
  (.seq (.reg [⟨(some 2), none, .q (.mv (.c (.int .i64 0)))⟩])
  (.seq (.cond (.c (.bool false))
    (.seq (.reg [⟨(some 3), none, .q (.mv (.t 0))⟩,
       ⟨(some 4), none, .q (.cvt .u32 (.t 3))⟩,
       ⟨(some 5), none, .c (.call 99 [(.t 4)])⟩,
       ⟨(some 2), none, .q (.mv (.t 5))⟩])
    .ret)
    .skip)
  (.seq (.reg [⟨(some 6), none, .q (.mv (.t 0))⟩,
     ⟨(some 7), none, .c (.call 100 [(.t 6)])⟩,
     ⟨(some 2), none, .q (.mv (.t 7))⟩])
  .ret)))⟩
theorem l_math_bits_Len : lowF PA f_math_bits_Len 1 [] = some c_math_bits_Len := by kernel_rfl
abbrev f_spec_l01Code : FuncId := 76
def c_spec_l01Code : AF := ⟨2, 37, [.t 4],
  (.seq (.reg [⟨(some 2), none, .m (.box (.t 0))⟩,
     ⟨(some 4), none, .q (.mv (.c (.bool false)))⟩])
  (.seq (.seq (.reg [⟨(some 5), none, .q (.mv (.c (.int .i64 0)))⟩])
   (.block 0 (.loop [1, 2, 5] (.seq (.seq (.reg [⟨(some 6), none, .q (.mv (.t 5))⟩,
         ⟨(some 7), none, .q (.mv (.t 1))⟩,
         ⟨(some 8), none, .q (.len (.t 7))⟩,
         ⟨(some 9), none, .q (.bin .lss (.t 6) (.t 8))⟩])
      (.cond (.t 9)
       .skip
       (.exit 0)))
     (.seq (.block 1 (.seq (.sch (.take 0 ⟨(some 12), none, .q (.mv (.t 1))⟩ (.take 1 ⟨(some 13), none, .q (.mv (.t 5))⟩ (.take 2 ⟨(some 14), none, .q (.ixs 1 (.t 12) (.t 13))⟩ (.take 3 ⟨(some 15), none, .q (.ld false 1 (.t 14))⟩ (.take 4 ⟨(some 16), none, .q (.ld true 1 (.t 2))⟩ (.one ⟨(some 17), none, .c (.call 55 [(.t 16)])⟩ [4] (.take 6 ⟨(some 18), none, .q (.bin .sub (.t 17) (.c (.int .i64 1)))⟩ (.one ⟨(some 19), none, .c (.call 54 [(.t 15), (.c (.int .i64 0)), (.t 18)])⟩ [3] (.take 8 ⟨(some 20), none, .q (.un .not (.t 19))⟩ (.take 9 ⟨(some 21), none, .q (.mv (.t 20))⟩ (.take 10 ⟨(some 22), (some (21, false)), .q (.mv (.t 5))⟩ (.take 11 ⟨(some 23), (some (21, false)), .q (.bin .gtr (.t 22) (.c (.int .i64 0)))⟩ (.take 12 ⟨(some 24), (some (21, false)), .q (.mv (.t 23))⟩ (.take 13 ⟨(some 25), (some (24, true)), .q (.mv (.t 1))⟩ (.take 14 ⟨(some 26), (some (24, true)), .q (.mv (.t 5))⟩ (.take 15 ⟨(some 27), (some (24, true)), .q (.ixs 1 (.t 25) (.t 26))⟩ (.take 16 ⟨(some 28), (some (24, true)), .q (.ld false 1 (.t 27))⟩ (.take 17 ⟨(some 29), (some (24, true)), .q (.mv (.t 1))⟩ (.take 18 ⟨(some 30), (some (24, true)), .q (.mv (.t 5))⟩ (.take 19 ⟨(some 31), (some (24, true)), .q (.bin .sub (.t 30) (.c (.int .i64 1)))⟩ (.take 20 ⟨(some 32), (some (24, true)), .q (.ixs 1 (.t 29) (.t 31))⟩ (.take 21 ⟨(some 33), (some (24, true)), .q (.ld false 1 (.t 32))⟩ (.take 22 ⟨(some 34), (some (24, true)), .q (.bin .leq (.t 28) (.t 33))⟩ (.take 23 ⟨(some 35), (some (21, false)), .q (.pick (.t 24) (.t 34) (.c (.bool false)))⟩ (.take 24 ⟨(some 36), none, .q (.pick (.t 21) (.c (.bool true)) (.t 35))⟩ .done))))))))))))))))))))))))))
       (.cond (.t 36)
        (.seq (.reg [⟨(some 4), none, .q (.mv (.c (.bool false)))⟩])
        .ret)
        .skip)))
     (.reg [⟨(some 10), none, .q (.mv (.t 5))⟩,
       ⟨(some 11), none, .q (.bin .add (.t 10) (.c (.int .i64 1)))⟩,
       ⟨(some 5), none, .q (.mv (.t 11))⟩]))))))
  (.seq (.reg [⟨(some 4), none, .q (.mv (.c (.bool true)))⟩])
  .ret)))⟩
theorem l_spec_l01Code : lowF PA f_spec_l01Code 2 [.k [1, 2, 5], .s (.take 0 (.take 1 (.take 2 (.take 3 (.take 4 (.one 5 (.take 6 (.one 7 (.take 8 (.take 9 (.take 10 (.take 11 (.take 12 (.take 13 (.take 14 (.take 15 (.take 16 (.take 17 (.take 18 (.take 19 (.take 20 (.take 21 (.take 22 (.take 23 (.take 24 .done)))))))))))))))))))))))))] = some c_spec_l01Code := by kernel_rfl
abbrev f_spec_l02Times : FuncId := 77
def c_spec_l02Times : AF := ⟨3, 43, [.t 6],
  (.seq (.reg [⟨(some 3), none, .m (.box (.t 0))⟩,
     ⟨(some 6), none, .q (.mv (.c (.slice none 0 0)))⟩])
  (.seq (.reg [⟨(some 11), none, .q (.ld true 1 (.t 3))⟩,
     ⟨(some 12), none, .c (.call 55 [(.t 11)])⟩,
     ⟨(some 13), none, .m (.mks 1 (.v (.int .i64 0)) 8 (.t 12) (.t 12))⟩,
     ⟨(some 7), none, .q (.mv (.t 13))⟩])
  (.seq (.seq (.reg [⟨(some 8), none, .q (.mv (.c (.int .i64 0)))⟩])
   (.block 0 (.loop [1, 2, 3, 7, 8] (.seq (.seq (.reg [⟨(some 14), none, .q (.mv (.t 8))⟩,
         ⟨(some 15), none, .q (.mv (.t 1))⟩,
         ⟨(some 16), none, .q (.len (.t 15))⟩,
         ⟨(some 17), none, .q (.bin .lss (.t 14) (.t 16))⟩])
      (.cond (.t 17)
       .skip
       (.exit 0)))
     (.seq (.block 1 (.seq (.sch (.take 0 ⟨(some 20), none, .q (.ld true 1 (.t 3))⟩ (.take 1 ⟨(some 21), none, .q (.mv (.t 1))⟩ (.take 2 ⟨(some 22), none, .q (.mv (.t 8))⟩ (.take 3 ⟨(some 23), none, .q (.ixs 1 (.t 21) (.t 22))⟩ (.take 4 ⟨(some 24), none, .q (.ld false 1 (.t 23))⟩ (.take 5 ⟨(some 25), none, .q (.mv (.t 2))⟩ (.one ⟨(some 26), none, .c (.call 101 [(.t 20), (.t 24), (.t 25)])⟩ [4, 0] (.take 7 ⟨(some 9), none, .q (.mv (.t 26))⟩ .done)))))))))
       (.seq (.reg [⟨(some 10), none, .q (.mv (.c (.int .i64 0)))⟩])
       (.block 2 (.loop [1, 2, 3, 7, 8, 9, 10] (.seq (.seq (.reg [⟨(some 27), none, .q (.mv (.t 10))⟩,
             ⟨(some 28), none, .q (.mv (.t 9))⟩,
             ⟨(some 29), none, .q (.len (.t 28))⟩,
             ⟨(some 30), none, .q (.bin .lss (.t 27) (.t 29))⟩])
          (.cond (.t 30)
           .skip
           (.exit 2)))
         (.seq (.block 3 (.reg [⟨(some 33), none, .q (.mv (.t 7))⟩,
             ⟨(some 34), none, .q (.mv (.t 9))⟩,
             ⟨(some 35), none, .q (.mv (.t 10))⟩,
             ⟨(some 36), none, .q (.ixs 1 (.t 34) (.t 35))⟩,
             ⟨(some 37), none, .q (.ld false 1 (.t 36))⟩,
             ⟨(some 38), none, .q (.ixs 1 (.t 33) (.t 37))⟩,
             ⟨(some 39), none, .q (.ld false 1 (.t 38))⟩,
             ⟨(some 40), none, .q (.bin .add (.t 39) (.c (.int .i64 1)))⟩,
             ⟨(some 41), none, .q (.ixs 1 (.t 33) (.t 37))⟩,
             ⟨none, none, .m (.st false 1 (.t 41) (.t 40))⟩]))
         (.reg [⟨(some 31), none, .q (.mv (.t 10))⟩,
           ⟨(some 32), none, .q (.bin .add (.t 31) (.c (.int .i64 1)))⟩,
           ⟨(some 10), none, .q (.mv (.t 32))⟩]))))))))
     (.reg [⟨(some 18), none, .q (.mv (.t 8))⟩,
       ⟨(some 19), none, .q (.bin .add (.t 18) (.c (.int .i64 1)))⟩,
       ⟨(some 8), none, .q (.mv (.t 19))⟩]))))))
  (.seq (.reg [⟨(some 42), none, .q (.mv (.t 7))⟩,
     ⟨(some 6), none, .q (.mv (.t 42))⟩])
  .ret))))⟩
theorem l_spec_l02Times : lowF PA f_spec_l02Times 3 [.k [1, 2, 3, 7, 8], .s (.take 0 (.take 1 (.take 2 (.take 3 (.take 4 (.take 5 (.one 6 (.take 7 .done)))))))), .k [1, 2, 3, 7, 8, 9, 10]] = some c_spec_l02Times := by kernel_rfl
abbrev f_impl_wordCode : FuncId := 78
def c_impl_wordCode : AF := ⟨2, 14, [.t 4],
  (.seq (.reg [⟨(some 2), none, .m (.box (.t 0))⟩,
     ⟨(some 4), none, .q (.mv (.c (.int .i64 0)))⟩])
  (.seq (.block 0 (.seq (.reg [⟨(some 6), none, .q (.ld true 1 (.t 2))⟩,
       ⟨(some 7), none, .c (.call 102 [(.t 6)])⟩,
       ⟨(some 8), none, .q (.un .not (.t 7))⟩,
       ⟨(some 5), none, .q (.mv (.t 8))⟩])
    (.cond (.t 5)
     (.seq (.reg [⟨(some 4), none, .q (.mv (.c (.int .i64 1)))⟩])
     .ret)
     (.seq (.reg [⟨(some 10), none, .q (.ld true 1 (.t 2))⟩,
        ⟨(some 11), none, .q (.mv (.t 1))⟩,
        ⟨(some 12), none, .c (.call 103 [(.t 10), (.t 11)])⟩,
        ⟨(some 13), none, .q (.un .not (.t 12))⟩,
        ⟨(some 9), none, .q (.mv (.t 13))⟩])
     (.cond (.t 9)
      (.seq (.reg [⟨(some 4), none, .q (.mv (.c (.int .i64 2)))⟩])
      .ret)
      .skip)))))
  (.seq (.reg [⟨(some 4), none, .q (.mv (.c (.int .i64 0)))⟩])
  .ret)))⟩
theorem l_impl_wordCode : lowF PA f_impl_wordCode 2 [] = some c_impl_wordCode := by kernel_rfl
abbrev f_impl_isCode : FuncId := 79
def c_impl_isCode : AF := ⟨2, 33, [.t 4],
  (.seq (.reg [⟨(some 2), none, .m (.box (.t 0))⟩,
     ⟨(some 4), none, .q (.mv (.c (.bool false)))⟩])
  (.seq (.seq (.reg [⟨(some 6), none, .q (.mv (.t 1))⟩,
      ⟨(some 7), none, .q (.len (.t 6))⟩,
      ⟨(some 8), none, .q (.ld true 1 (.t 2))⟩,
      ⟨(some 9), none, .c (.call 69 [(.t 8)])⟩,
      ⟨(some 10), none, .q (.bin .gtr (.t 7) (.t 9))⟩,
      ⟨(some 11), none, .q (.mv (.t 10))⟩,
      ⟨(some 12), (some (11, false)), .q (.ld true 1 (.t 2))⟩,
      ⟨(some 13), (some (11, false)), .q (.mv (.t 1))⟩,
      ⟨(some 14), (some (11, false)), .c (.call 103 [(.t 12), (.t 13)])⟩,
      ⟨(some 15), (some (11, false)), .q (.un .not (.t 14))⟩,
      ⟨(some 16), none, .q (.pick (.t 11) (.c (.bool true)) (.t 15))⟩])
   (.cond (.t 16)
    (.seq (.reg [⟨(some 4), none, .q (.mv (.c (.bool false)))⟩])
    .ret)
    .skip))
  (.seq (.seq (.reg [⟨(some 5), none, .q (.mv (.c (.int .i64 1)))⟩])
   (.block 0 (.loop [1, 5] (.seq (.seq (.reg [⟨(some 17), none, .q (.mv (.t 5))⟩,
         ⟨(some 18), none, .q (.mv (.t 1))⟩,
         ⟨(some 19), none, .q (.len (.t 18))⟩,
         ⟨(some 20), none, .q (.bin .lss (.t 17) (.t 19))⟩])
      (.cond (.t 20)
       .skip
       (.exit 0)))
     (.seq (.block 1 (.seq (.sch (.take 0 ⟨(some 23), none, .q (.mv (.t 1))⟩ (.take 1 ⟨(some 24), none, .q (.mv (.t 5))⟩ (.take 2 ⟨(some 25), none, .q (.ixs 1 (.t 23) (.t 24))⟩ (.take 3 ⟨(some 26), none, .q (.ld false 1 (.t 25))⟩ (.take 4 ⟨(some 27), none, .q (.mv (.t 1))⟩ (.take 5 ⟨(some 28), none, .q (.mv (.t 5))⟩ (.take 6 ⟨(some 29), none, .q (.bin .sub (.t 28) (.c (.int .i64 1)))⟩ (.take 7 ⟨(some 30), none, .q (.ixs 1 (.t 27) (.t 29))⟩ (.take 8 ⟨(some 31), none, .q (.ld false 1 (.t 30))⟩ (.take 9 ⟨(some 32), none, .q (.bin .leq (.t 26) (.t 31))⟩ .done)))))))))))
       (.cond (.t 32)
        (.seq (.reg [⟨(some 4), none, .q (.mv (.c (.bool false)))⟩])
        .ret)
        .skip)))
     (.reg [⟨(some 21), none, .q (.mv (.t 5))⟩,
       ⟨(some 22), none, .q (.bin .add (.t 21) (.c (.int .i64 1)))⟩,
       ⟨(some 5), none, .q (.mv (.t 22))⟩]))))))
  (.seq (.reg [⟨(some 4), none, .q (.mv (.c (.bool true)))⟩])
  .ret))))⟩
theorem l_impl_isCode : lowF PA f_impl_isCode 2 [.k [1, 5], .s (.take 0 (.take 1 (.take 2 (.take 3 (.take 4 (.take 5 (.take 6 (.take 7 (.take 8 (.take 9 .done))))))))))] = some c_impl_isCode := by kernel_rfl
abbrev f_slices_ContainsFunc___int64_int64_ : FuncId := 80
def c_slices_ContainsFunc___int64_int64_ : AF := ⟨2, 9, [.t 4],
  (.seq (.reg [⟨(some 4), none, .q (.mv (.c (.bool false)))⟩])
  (.seq (.reg [⟨(some 5), none, .q (.mv (.t 0))⟩,
     ⟨(some 6), none, .q (.mv (.t 1))⟩,
     ⟨(some 7), none, .c (.call 104 [(.t 5), (.t 6)])⟩,
     ⟨(some 8), none, .q (.bin .geq (.t 7) (.c (.int .i64 0)))⟩,
     ⟨(some 4), none, .q (.mv (.t 8))⟩])
  .ret))⟩
theorem l_slices_ContainsFunc___int64_int64_ : lowF PA f_slices_ContainsFunc___int64_int64_ 2 [] = some c_slices_ContainsFunc___int64_int64_ := by kernel_rfl
abbrev f_impl_times : FuncId := 81
def c_impl_times : AF := ⟨3, 48, [.t 6],
  (.seq (.reg [⟨(some 3), none, .m (.box (.t 0))⟩,
     ⟨(some 6), none, .q (.mv (.c (.slice none 0 0)))⟩])
  (.seq (.sch (.take 0 ⟨(some 13), none, .q (.ld true 1 (.t 3))⟩ (.take 2 ⟨(some 15), none, .q (.ld true 1 (.t 3))⟩ (.one ⟨(some 14), none, .c (.call 70 [(.t 13)])⟩ [0] (.one ⟨(some 16), none, .c (.call 69 [(.t 15)])⟩ [2] (.take 5 ⟨(some 7), none, .q (.mv (.t 14))⟩ (.one ⟨(some 17), none, .m (.mks 1 (.v (.int .i64 0)) 8 (.t 16) (.t 16))⟩ [] (.take 6 ⟨(some 8), none, .q (.mv (.t 17))⟩ .done))))))))
  (.seq (.seq (.reg [⟨(some 18), none, .q (.mv (.t 1))⟩,
      ⟨(some 19), none, .q (.len (.t 18))⟩,
      ⟨(some 20), none, .q (.mv (.c (.int .i64 0)))⟩])
   (.block 0 (.loop [2, 7, 8, 18, 19, 20] (.seq (.reg [⟨(some 21), none, .q (.bin .lss (.t 20) (.t 19))⟩])
     (.seq (.cond (.t 21)
       .skip
       (.exit 0))
     (.seq (.block 1 (.seq (.reg [⟨(some 22), none, .q (.ixs 1 (.t 18) (.t 20))⟩,
          ⟨(some 23), none, .q (.ld false 1 (.t 22))⟩,
          ⟨(some 10), none, .q (.mv (.t 23))⟩])
       (.seq (.reg [⟨(some 24), none, .q (.mv (.t 7))⟩,
          ⟨(some 25), none, .q (.len (.t 24))⟩,
          ⟨(some 26), none, .q (.mv (.c (.int .i64 0)))⟩])
       (.block 2 (.loop [2, 7, 8, 10, 18, 19, 20, 24, 25, 26] (.seq (.reg [⟨(some 27), none, .q (.bin .lss (.t 26) (.t 25))⟩])
         (.seq (.cond (.t 27)
           .skip
           (.exit 2))
         (.seq (.block 3 (.seq (.reg [⟨(some 28), none, .q (.mv (.t 26))⟩,
              ⟨(some 29), none, .q (.ixs 8 (.t 24) (.t 26))⟩,
              ⟨(some 30), none, .q (.ld true 8 (.t 29))⟩,
              ⟨(some 12), none, .m (.alloc [(.v (.int .u8 0)), (.v (.int .u8 0)), (.v (.int .u8 0)), (.v (.int .u8 0)), (.v (.int .u8 0)), (.v (.int .u8 0)), (.v (.int .u8 0)), (.v (.int .u8 0))])⟩,
              ⟨(some 11), none, .q (.mv (.t 28))⟩,
              ⟨none, none, .m (.st true 8 (.t 12) (.t 30))⟩])
           (.seq (.sch (.take 0 ⟨(some 31), none, .q (.mv (.t 7))⟩ (.take 1 ⟨(some 32), none, .q (.mv (.t 10))⟩ (.take 2 ⟨(some 33), none, .q (.ixs 8 (.t 31) (.t 32))⟩ (.take 3 ⟨(some 34), none, .q (.ld true 8 (.t 33))⟩ (.take 4 ⟨(some 35), none, .q (.ld true 8 (.t 12))⟩ (.take 6 ⟨(some 37), none, .q (.mv (.t 2))⟩ (.one ⟨(some 36), none, .c (.call 45 [(.t 34), (.t 35)])⟩ [4, 3] (.take 7 ⟨(some 38), none, .q (.bin .leq (.t 36) (.t 37))⟩ .done)))))))))
           (.cond (.t 38)
            (.reg [⟨(some 39), none, .q (.mv (.t 8))⟩,
              ⟨(some 40), none, .q (.mv (.t 11))⟩,
              ⟨(some 41), none, .q (.ixs 1 (.t 39) (.t 40))⟩,
              ⟨(some 42), none, .q (.ld false 1 (.t 41))⟩,
              ⟨(some 43), none, .q (.bin .add (.t 42) (.c (.int .i64 1)))⟩,
              ⟨(some 44), none, .q (.ixs 1 (.t 39) (.t 40))⟩,
              ⟨none, none, .m (.st false 1 (.t 44) (.t 43))⟩])
            .skip))))
         (.reg [⟨(some 45), none, .q (.bin .add (.t 26) (.c (.int .i64 1)))⟩,
           ⟨(some 26), none, .q (.mv (.t 45))⟩])))))))))
     (.reg [⟨(some 46), none, .q (.bin .add (.t 20) (.c (.int .i64 1)))⟩,
       ⟨(some 20), none, .q (.mv (.t 46))⟩])))))))
  (.seq (.reg [⟨(some 47), none, .q (.mv (.t 8))⟩,
     ⟨(some 6), none, .q (.mv (.t 47))⟩])
  .ret))))⟩
theorem l_impl_times : lowF PA f_impl_times 3 [.s (.take 0 (.take 2 (.one 1 (.one 3 (.take 5 (.one 4 (.take 6 .done))))))), .k [2, 7, 8, 18, 19, 20], .k [2, 7, 8, 10, 18, 19, 20, 24, 25, 26], .s (.take 0 (.take 1 (.take 2 (.take 3 (.take 4 (.take 6 (.one 5 (.take 7 .done))))))))] = some c_impl_times := by kernel_rfl
abbrev f_impl_isPerfect_1 : FuncId := 82
def c_impl_isPerfect_1 : AF := ⟨1, 5, [.t 2],
  (.seq (.reg [⟨(some 2), none, .q (.mv (.c (.bool false)))⟩])
  (.seq (.reg [⟨(some 3), none, .q (.mv (.t 0))⟩,
     ⟨(some 4), none, .q (.bin .neq (.t 3) (.c (.int .i64 1)))⟩,
     ⟨(some 2), none, .q (.mv (.t 4))⟩])
  .ret))⟩
theorem l_impl_isPerfect_1 : lowF PA f_impl_isPerfect_1 1 [] = some c_impl_isPerfect_1 := by kernel_rfl
abbrev f_slices_Index___impl_digits_impl_digits_ : FuncId := 83
def c_slices_Index___impl_digits_impl_digits_ : AF := ⟨2, 19, [.t 4],
  (.seq (.reg [⟨(some 3), none, .m (.box (.t 1))⟩,
     ⟨(some 4), none, .q (.mv (.c (.int .i64 0)))⟩])
  (.seq (.seq (.reg [⟨(some 6), none, .q (.mv (.t 0))⟩,
      ⟨(some 7), none, .q (.len (.t 6))⟩,
      ⟨(some 8), none, .q (.mv (.c (.int .i64 0)))⟩])
   (.block 0 (.loop [0, 3, 7, 8] (.seq (.reg [⟨(some 9), none, .q (.bin .lss (.t 8) (.t 7))⟩])
     (.seq (.cond (.t 9)
       .skip
       (.exit 0))
     (.seq (.block 1 (.seq (.reg [⟨(some 10), none, .q (.mv (.t 8))⟩,
          ⟨(some 5), none, .q (.mv (.t 10))⟩])
       (.seq (.sch (.take 0 ⟨(some 11), none, .q (.ld true 8 (.t 3))⟩ (.take 1 ⟨(some 12), none, .q (.mv (.t 0))⟩ (.take 2 ⟨(some 13), none, .q (.mv (.t 5))⟩ (.take 3 ⟨(some 14), none, .q (.ixs 8 (.t 12) (.t 13))⟩ (.take 4 ⟨(some 15), none, .q (.ld true 8 (.t 14))⟩ (.take 5 ⟨(some 16), none, .q (.eqg 8 .u8 false (.t 11) (.t 15))⟩ .done)))))))
       (.cond (.t 16)
        (.seq (.reg [⟨(some 17), none, .q (.mv (.t 5))⟩,
           ⟨(some 4), none, .q (.mv (.t 17))⟩])
        .ret)
        .skip))))
     (.reg [⟨(some 18), none, .q (.bin .add (.t 8) (.c (.int .i64 1)))⟩,
       ⟨(some 8), none, .q (.mv (.t 18))⟩])))))))
  (.seq (.reg [⟨(some 4), none, .q (.mv (.c (.int .i64 (-1))))⟩])
  .ret)))⟩
theorem l_slices_Index___impl_digits_impl_digits_ : lowF PA f_slices_Index___impl_digits_impl_digits_ 2 [.k [0, 3, 7, 8], .s (.take 0 (.take 1 (.take 2 (.take 3 (.take 4 (.take 5 .done))))))] = some c_slices_Index___impl_digits_impl_digits_ := by kernel_rfl
abbrev f_slices_insertionSortOrdered_int64_ : FuncId := 90
def c_slices_insertionSortOrdered_int64_ : AF := ⟨3, 49, [],
  (.seq (.reg [⟨(some 8), none, .q (.mv (.t 1))⟩,
     ⟨(some 9), none, .q (.bin .add (.t 8) (.c (.int .i64 1)))⟩,
     ⟨(some 6), none, .q (.mv (.t 9))⟩])
  (.block 0 (.loop [0, 1, 2, 6, 49] (.seq (.seq (.reg [⟨(some 10), none, .q (.mv (.t 6))⟩,
        ⟨(some 11), none, .q (.mv (.t 2))⟩,
        ⟨(some 12), none, .q (.bin .lss (.t 10) (.t 11))⟩])
     (.cond (.t 12)
      .skip
      (.exit 0)))
    (.seq (.block 1 (.seq (.reg [⟨(some 15), none, .q (.mv (.t 6))⟩,
         ⟨(some 7), none, .q (.mv (.t 15))⟩])
      (.block 2 (.loop [0, 1, 2, 6, 7, 49] (.seq (.seq (.sch (.take 0 ⟨(some 16), none, .q (.mv (.t 7))⟩ (.take 1 ⟨(some 17), none, .q (.mv (.t 1))⟩ (.take 2 ⟨(some 18), none, .q (.bin .gtr (.t 16) (.t 17))⟩ (.take 3 ⟨(some 19), none, .q (.mv (.t 18))⟩ (.take 4 ⟨(some 20), (some (19, true)), .q (.mv (.t 0))⟩ (.take 5 ⟨(some 21), (some (19, true)), .q (.mv (.t 7))⟩ (.take 6 ⟨(some 22), (some (19, true)), .q (.ixs 1 (.t 20) (.t 21))⟩ (.take 7 ⟨(some 23), (some (19, true)), .q (.ld false 1 (.t 22))⟩ (.take 8 ⟨(some 24), (some (19, true)), .q (.mv (.t 0))⟩ (.take 9 ⟨(some 25), (some (19, true)), .q (.mv (.t 7))⟩ (.take 10 ⟨(some 26), (some (19, true)), .q (.bin .sub (.t 25) (.c (.int .i64 1)))⟩ (.take 11 ⟨(some 27), (some (19, true)), .q (.ixs 1 (.t 24) (.t 26))⟩ (.take 12 ⟨(some 28), (some (19, true)), .q (.ld false 1 (.t 27))⟩ (.one ⟨(some 29), (some (19, true)), .c (.call 96 [(.t 23), (.t 28)])⟩ [12, 7] (.take 14 ⟨(some 30), none, .q (.pick (.t 19) (.t 29) (.c (.bool false)))⟩ .done))))))))))))))))
         (.cond (.t 30)
          .skip
          (.exit 2)))
        (.seq (.block 3 (.sch (.take 0 ⟨(some 33), none, .q (.mv (.t 0))⟩ (.take 1 ⟨(some 34), none, .q (.mv (.t 7))⟩ (.take 2 ⟨(some 35), none, .q (.mv (.t 0))⟩ (.take 3 ⟨(some 36), none, .q (.mv (.t 7))⟩ (.take 4 ⟨(some 37), none, .q (.bin .sub (.t 36) (.c (.int .i64 1)))⟩ (.take 5 ⟨(some 38), none, .q (.mv (.t 0))⟩ (.take 6 ⟨(some 39), none, .q (.mv (.t 7))⟩ (.take 7 ⟨(some 40), none, .q (.bin .sub (.t 39) (.c (.int .i64 1)))⟩ (.take 8 ⟨(some 41), none, .q (.ixs 1 (.t 38) (.t 40))⟩ (.take 9 ⟨(some 42), none, .q (.ld false 1 (.t 41))⟩ (.take 10 ⟨(some 43), none, .q (.mv (.t 0))⟩ (.take 11 ⟨(some 44), none, .q (.mv (.t 7))⟩ (.take 12 ⟨(some 45), none, .q (.ixs 1 (.t 43) (.t 44))⟩ (.take 13 ⟨(some 46), none, .q (.ld false 1 (.t 45))⟩ (.take 14 ⟨(some 47), none, .q (.ixs 1 (.t 33) (.t 34))⟩ (.one ⟨none, none, .m (.st false 1 (.t 47) (.t 42))⟩ [13, 9] (.take 16 ⟨(some 48), none, .q (.ixs 1 (.t 35) (.t 37))⟩ (.one ⟨none, none, .m (.st false 1 (.t 48) (.t 46))⟩ [13, 9] .done))))))))))))))))))))
        (.reg [⟨(some 31), none, .q (.mv (.t 7))⟩,
          ⟨(some 32), none, .q (.bin .sub (.t 31) (.c (.int .i64 1)))⟩,
          ⟨(some 7), none, .q (.mv (.t 32))⟩])))))))
    (.reg [⟨(some 13), none, .q (.mv (.t 6))⟩,
      ⟨(some 14), none, .q (.bin .add (.t 13) (.c (.int .i64 1)))⟩,
      ⟨(some 6), none, .q (.mv (.t 14))⟩]))))))⟩
theorem l_slices_insertionSortOrdered_int64_ : lowF PA f_slices_insertionSortOrdered_int64_ 3 [.k [0, 1, 2, 6, 49], .k [0, 1, 2, 6, 7, 49], .s (.take 0 (.take 1 (.take 2 (.take 3 (.take 4 (.take 5 (.take 6 (.take 7 (.take 8 (.take 9 (.take 10 (.take 11 (.take 12 (.one 13 (.take 14 .done))))))))))))))), .s (.take 0 (.take 1 (.take 2 (.take 3 (.take 4 (.take 5 (.take 6 (.take 7 (.take 8 (.take 9 (.take 10 (.take 11 (.take 12 (.take 13 (.take 14 (.one 15 (.take 16 (.one 17 .done))))))))))))))))))] = some c_slices_insertionSortOrdered_int64_ := by kernel_rfl
abbrev f_slices_heapSortOrdered_int64_ : FuncId := 91
def c_slices_heapSortOrdered_int64_ : AF := ⟨3, 56, [],
  (.seq (.reg [⟨(some 11), none, .q (.mv (.t 1))⟩,
     ⟨(some 6), none, .q (.mv (.t 11))⟩])
  (.seq (.reg [⟨(some 7), none, .q (.mv (.c (.int .i64 0)))⟩])
  (.seq (.reg [⟨(some 12), none, .q (.mv (.t 2))⟩,
     ⟨(some 13), none, .q (.mv (.t 1))⟩,
     ⟨(some 14), none, .q (.bin .sub (.t 12) (.t 13))⟩,
     ⟨(some 8), none, .q (.mv (.t 14))⟩])
  (.seq (.seq (.reg [⟨(some 15), none, .q (.mv (.t 8))⟩,
      ⟨(some 16), none, .q (.bin .sub (.t 15) (.c (.int .i64 1)))⟩,
      ⟨(some 17), none, .q (.bin .quo (.t 16) (.c (.int .i64 2)))⟩,
      ⟨(some 9), none, .q (.mv (.t 17))⟩])
   (.block 0 (.loop [0, 6, 7, 8, 9, 56] (.seq (.seq (.reg [⟨(some 18), none, .q (.mv (.t 9))⟩,
         ⟨(some 19), none, .q (.bin .geq (.t 18) (.c (.int .i64 0)))⟩])
      (.cond (.t 19)
       .skip
       (.exit 0)))
     (.seq (.block 1 (.reg [⟨(some 22), none, .q (.mv (.t 0))⟩,
         ⟨(some 23), none, .q (.mv (.t 9))⟩,
         ⟨(some 24), none, .q (.mv (.t 8))⟩,
         ⟨(some 25), none, .q (.mv (.t 6))⟩,
         ⟨(some 26), none, .c (.call 108 [(.t 22), (.t 23), (.t 24), (.t 25)])⟩]))
     (.reg [⟨(some 20), none, .q (.mv (.t 9))⟩,
       ⟨(some 21), none, .q (.bin .sub (.t 20) (.c (.int .i64 1)))⟩,
       ⟨(some 9), none, .q (.mv (.t 21))⟩]))))))
  (.seq (.reg [⟨(some 27), none, .q (.mv (.t 8))⟩,
     ⟨(some 28), none, .q (.bin .sub (.t 27) (.c (.int .i64 1)))⟩,
     ⟨(some 10), none, .q (.mv (.t 28))⟩])
  (.block 2 (.loop [0, 6, 7, 10, 56] (.seq (.seq (.reg [⟨(some 29), none, .q (.mv (.t 10))⟩,
        ⟨(some 30), none, .q (.bin .geq (.t 29) (.c (.int .i64 0)))⟩])
     (.cond (.t 30)
      .skip
      (.exit 2)))
    (.seq (.block 3 (.seq (.sch (.take 0 ⟨(some 33), none, .q (.mv (.t 0))⟩ (.take 1 ⟨(some 34), none, .q (.mv (.t 6))⟩ (.take 2 ⟨(some 35), none, .q (.mv (.t 0))⟩ (.take 3 ⟨(some 36), none, .q (.mv (.t 6))⟩ (.take 4 ⟨(some 37), none, .q (.mv (.t 10))⟩ (.take 5 ⟨(some 38), none, .q (.bin .add (.t 36) (.t 37))⟩ (.take 6 ⟨(some 39), none, .q (.mv (.t 0))⟩ (.take 7 ⟨(some 40), none, .q (.mv (.t 6))⟩ (.take 8 ⟨(some 41), none, .q (.mv (.t 10))⟩ (.take 9 ⟨(some 42), none, .q (.bin .add (.t 40) (.t 41))⟩ (.take 10 ⟨(some 43), none, .q (.ixs 1 (.t 39) (.t 42))⟩ (.take 11 ⟨(some 44), none, .q (.ld false 1 (.t 43))⟩ (.take 12 ⟨(some 45), none, .q (.mv (.t 0))⟩ (.take 13 ⟨(some 46), none, .q (.mv (.t 6))⟩ (.take 14 ⟨(some 47), none, .q (.ixs 1 (.t 45) (.t 46))⟩ (.take 15 ⟨(some 48), none, .q (.ld false 1 (.t 47))⟩ (.take 16 ⟨(some 49), none, .q (.ixs 1 (.t 33) (.t 34))⟩ (.one ⟨none, none, .m (.st false 1 (.t 49) (.t 44))⟩ [15, 11] (.take 18 ⟨(some 50), none, .q (.ixs 1 (.t 35) (.t 38))⟩ (.one ⟨none, none, .m (.st false 1 (.t 50) (.t 48))⟩ [15, 11] .done)))))))))))))))))))))
      (.reg [⟨(some 51), none, .q (.mv (.t 0))⟩,
        ⟨(some 52), none, .q (.mv (.t 7))⟩,
        ⟨(some 53), none, .q (.mv (.t 10))⟩,
        ⟨(some 54), none, .q (.mv (.t 6))⟩,
        ⟨(some 55), none, .c (.call 108 [(.t 51), (.t 52), (.t 53), (.t 54)])⟩])))
    (.reg [⟨(some 31), none, .q (.mv (.t 10))⟩,
      ⟨(some 32), none, .q (.bin .sub (.t 31) (.c (.int .i64 1)))⟩,
      ⟨(some 10), none, .q (.mv (.t 32))⟩]))))))))))⟩
theorem l_slices_heapSortOrdered_int64_ : lowF PA f_slices_heapSortOrdered_int64_ 3 [.k [0, 6, 7, 8, 9, 56], .k [0, 6, 7, 10, 56], .s (.take 0 (.take 1 (.take 2 (.take 3 (.take 4 (.take 5 (.take 6 (.take 7 (.take 8 (.take 9 (.take 10 (.take 11 (.take 12 (.take 13 (.take 14 (.take 15 (.take 16 (.one 17 (.take 18 (.one 19 .done))))))))))))))))))))] = some c_slices_heapSortOrdered_int64_ := by kernel_rfl
abbrev f_slices_breakPatternsOrdered_int64_ : FuncId := 92
def c_slices_breakPatternsOrdered_int64_ : AF := ⟨3, 65, [],
  (.seq (.reg [⟨(some 11), none, .q (.mv (.t 2))⟩,
     ⟨(some 12), none, .q (.mv (.t 1))⟩,
     ⟨(some 13), none, .q (.bin .sub (.t 11) (.t 12))⟩,
     ⟨(some 6), none, .q (.mv (.t 13))⟩])
  (.seq (.reg [⟨(some 14), none, .q (.mv (.t 6))⟩,
     ⟨(some 15), none, .q (.bin .geq (.t 14) (.c (.int .i64 8)))⟩])
  (.cond (.t 15)
   (.seq (.reg [⟨(some 16), none, .q (.mv (.t 6))⟩,
      ⟨(some 17), none, .q (.cvt .u64 (.t 16))⟩,
      ⟨(some 7), none, .m (.alloc [(.v (.int .u64 0))])⟩,
      ⟨none, none, .m (.st false 1 (.t 7) (.t 17))⟩])
   (.seq (.reg [⟨(some 18), none, .q (.mv (.t 6))⟩,
      ⟨(some 19), none, .c (.call 109 [(.t 18)])⟩,
      ⟨(some 8), none, .q (.mv (.t 19))⟩])
   (.seq (.reg [⟨(some 20), none, .q (.mv (.t 1))⟩,
      ⟨(some 21), none, .q (.mv (.t 6))⟩,
      ⟨(some 22), none, .q (.bin .quo (.t 21) (.c (.int .i64 4)))⟩,
      ⟨(some 23), none, .q (.bin .mul (.t 22) (.c (.int .i64 2)))⟩,
      ⟨(some 24), none, .q (.bin .add (.t 20) (.t 23))⟩,
      ⟨(some 25), none, .q (.bin .sub (.t 24) (.c (.int .i64 1)))⟩,
      ⟨(some 9), none, .q (.mv (.t 25))⟩])
   (.block 0 (.loop [0, 1, 6, 7, 8, 9, 65] (.seq (.seq (.reg [⟨(some 26), none, .q (.mv (.t 9))⟩,
         ⟨(some 27), none, .q (.mv (.t 1))⟩,
         ⟨(some 28), none, .q (.mv (.t 6))⟩,
         ⟨(some 29), none, .q (.bin .quo (.t 28) (.c (.int .i64 4)))⟩,
         ⟨(some 30), none, .q (.bin .mul (.t 29) (.c (.int .i64 2)))⟩,
         ⟨(some 31), none, .q (.bin .add (.t 27) (.t 30))⟩,
         ⟨(some 32), none, .q (.bin .add (.t 31) (.c (.int .i64 1)))⟩,
         ⟨(some 33), none, .q (.bin .leq (.t 26) (.t 32))⟩])
      (.cond (.t 33)
       .skip
       (.exit 0)))
     (.seq (.block 1 (.seq (.reg [⟨(some 36), none, .c (.call 110 [(.t 7)])⟩,
          ⟨(some 37), none, .q (.mv (.t 8))⟩,
          ⟨(some 38), none, .q (.bin .sub (.t 37) (.c (.int .u64 1)))⟩,
          ⟨(some 39), none, .q (.bin .and (.t 36) (.t 38))⟩,
          ⟨(some 40), none, .q (.cvt .i64 (.t 39))⟩,
          ⟨(some 10), none, .q (.mv (.t 40))⟩])
       (.seq (.seq (.reg [⟨(some 41), none, .q (.mv (.t 10))⟩,
           ⟨(some 42), none, .q (.mv (.t 6))⟩,
           ⟨(some 43), none, .q (.bin .geq (.t 41) (.t 42))⟩])
        (.cond (.t 43)
         (.reg [⟨(some 44), none, .q (.mv (.t 10))⟩,
           ⟨(some 45), none, .q (.mv (.t 6))⟩,
           ⟨(some 46), none, .q (.bin .sub (.t 44) (.t 45))⟩,
           ⟨(some 10), none, .q (.mv (.t 46))⟩])
         .skip))
       (.sch (.take 0 ⟨(some 47), none, .q (.mv (.t 0))⟩ (.take 1 ⟨(some 48), none, .q (.mv (.t 9))⟩ (.take 2 ⟨(some 49), none, .q (.mv (.t 0))⟩ (.take 3 ⟨(some 50), none, .q (.mv (.t 1))⟩ (.take 4 ⟨(some 51), none, .q (.mv (.t 10))⟩ (.take 5 ⟨(some 52), none, .q (.bin .add (.t 50) (.t 51))⟩ (.take 6 ⟨(some 53), none, .q (.mv (.t 0))⟩ (.take 7 ⟨(some 54), none, .q (.mv (.t 1))⟩ (.take 8 ⟨(some 55), none, .q (.mv (.t 10))⟩ (.take 9 ⟨(some 56), none, .q (.bin .add (.t 54) (.t 55))⟩ (.take 10 ⟨(some 57), none, .q (.ixs 1 (.t 53) (.t 56))⟩ (.take 11 ⟨(some 58), none, .q (.ld false 1 (.t 57))⟩ (.take 12 ⟨(some 59), none, .q (.mv (.t 0))⟩ (.take 13 ⟨(some 60), none, .q (.mv (.t 9))⟩ (.take 14 ⟨(some 61), none, .q (.ixs 1 (.t 59) (.t 60))⟩ (.take 15 ⟨(some 62), none, .q (.ld false 1 (.t 61))⟩ (.take 16 ⟨(some 63), none, .q (.ixs 1 (.t 47) (.t 48))⟩ (.one ⟨none, none, .m (.st false 1 (.t 63) (.t 58))⟩ [15, 11] (.take 18 ⟨(some 64), none, .q (.ixs 1 (.t 49) (.t 52))⟩ (.one ⟨none, none, .m (.st false 1 (.t 64) (.t 62))⟩ [15, 11] .done))))))))))))))))))))))))
     (.reg [⟨(some 34), none, .q (.mv (.t 9))⟩,
       ⟨(some 35), none, .q (.bin .add (.t 34) (.c (.int .i64 1)))⟩,
       ⟨(some 9), none, .q (.mv (.t 35))⟩]))))))))
   .skip)))⟩
theorem l_slices_breakPatternsOrdered_int64_ : lowF PA f_slices_breakPatternsOrdered_int64_ 3 [.k [0, 1, 6, 7, 8, 9, 65], .s (.take 0 (.take 1 (.take 2 (.take 3 (.take 4 (.take 5 (.take 6 (.take 7 (.take 8 (.take 9 (.take 10 (.take 11 (.take 12 (.take 13 (.take 14 (.take 15 (.take 16 (.one 17 (.take 18 (.one 19 .done))))))))))))))))))))] = some c_slices_breakPatternsOrdered_int64_ := by kernel_rfl
abbrev f_slices_choosePivotOrdered_int64_ : FuncId := 93
def c_slices_choosePivotOrdered_int64_ : AF := ⟨3, 57, [.t 6, .t 7],
  (.seq (.reg [⟨(some 6), none, .q (.mv (.c (.int .i64 0)))⟩,
     ⟨(some 7), none, .q (.mv (.c (.int .i64 0)))⟩])
  (.seq (.reg [⟨(some 13), none, .q (.mv (.t 2))⟩,
     ⟨(some 14), none, .q (.mv (.t 1))⟩,
     ⟨(some 15), none, .q (.bin .sub (.t 13) (.t 14))⟩,
     ⟨(some 8), none, .q (.mv (.t 15))⟩])
  (.seq (.reg [⟨(some 9), none, .m (.alloc [(.v (.int .i64 0))])⟩])
  (.seq (.reg [⟨(some 16), none, .q (.mv (.t 1))⟩,
     ⟨(some 17), none, .q (.mv (.t 8))⟩,
     ⟨(some 18), none, .q (.bin .quo (.t 17) (.c (.int .i64 4)))⟩,
     ⟨(some 19), none, .q (.bin .mul (.t 18) (.c (.int .i64 1)))⟩,
     ⟨(some 20), none, .q (.bin .add (.t 16) (.t 19))⟩,
     ⟨(some 10), none, .q (.mv (.t 20))⟩])
  (.seq (.reg [⟨(some 21), none, .q (.mv (.t 1))⟩,
     ⟨(some 22), none, .q (.mv (.t 8))⟩,
     ⟨(some 23), none, .q (.bin .quo (.t 22) (.c (.int .i64 4)))⟩,
     ⟨(some 24), none, .q (.bin .mul (.t 23) (.c (.int .i64 2)))⟩,
     ⟨(some 25), none, .q (.bin .add (.t 21) (.t 24))⟩,
     ⟨(some 11), none, .q (.mv (.t 25))⟩])
  (.seq (.reg [⟨(some 26), none, .q (.mv (.t 1))⟩,
     ⟨(some 27), none, .q (.mv (.t 8))⟩,
     ⟨(some 28), none, .q (.bin .quo (.t 27) (.c (.int .i64 4)))⟩,
     ⟨(some 29), none, .q (.bin .mul (.t 28) (.c (.int .i64 3)))⟩,
     ⟨(some 30), none, .q (.bin .add (.t 26) (.t 29))⟩,
     ⟨(some 12), none, .q (.mv (.t 30))⟩])
  (.seq (.seq (.reg [⟨(some 31), none, .q (.mv (.t 8))⟩,
      ⟨(some 32), none, .q (.bin .geq (.t 31) (.c (.int .i64 8)))⟩])
   (.cond (.t 32)
    (.seq (.seq (.reg [⟨(some 33), none, .q (.mv (.t 8))⟩,
        ⟨(some 34), none, .q (.bin .geq (.t 33) (.c (.int .i64 50)))⟩])
     (.cond (.t 34)
      (.seq (.reg [⟨(some 35), none, .q (.mv (.t 0))⟩,
         ⟨(some 36), none, .q (.mv (.t 10))⟩,
         ⟨(some 37), none, .c (.call 111 [(.t 35), (.t 36), (.t 9)])⟩,
         ⟨(some 10), none, .q (.mv (.t 37))⟩])
      (.seq (.reg [⟨(some 38), none, .q (.mv (.t 0))⟩,
         ⟨(some 39), none, .q (.mv (.t 11))⟩,
         ⟨(some 40), none, .c (.call 111 [(.t 38), (.t 39), (.t 9)])⟩,
         ⟨(some 11), none, .q (.mv (.t 40))⟩])
      (.reg [⟨(some 41), none, .q (.mv (.t 0))⟩,
        ⟨(some 42), none, .q (.mv (.t 12))⟩,
        ⟨(some 43), none, .c (.call 111 [(.t 41), (.t 42), (.t 9)])⟩,
        ⟨(some 12), none, .q (.mv (.t 43))⟩])))
      .skip))
    (.reg [⟨(some 44), none, .q (.mv (.t 0))⟩,
      ⟨(some 45), none, .q (.mv (.t 10))⟩,
      ⟨(some 46), none, .q (.mv (.t 11))⟩,
      ⟨(some 47), none, .q (.mv (.t 12))⟩,
      ⟨(some 48), none, .c (.call 112 [(.t 44), (.t 45), (.t 46), (.t 47), (.t 9)])⟩,
      ⟨(some 11), none, .q (.mv (.t 48))⟩]))
    .skip))
  (.seq (.reg [⟨(some 49), none, .q (.ld false 1 (.t 9))⟩])
  (.block 0 (.seq (.reg [⟨(some 52), none, .q (.bin .eql (.t 49) (.c (.int .i64 0)))⟩,
      ⟨(some 51), none, .q (.mv (.t 52))⟩])
   (.cond (.t 51)
    (.seq (.reg [⟨(some 53), none, .q (.mv (.t 11))⟩,
       ⟨(some 6), none, .q (.mv (.t 53))⟩,
       ⟨(some 7), none, .q (.mv (.c (.int .i64 1)))⟩])
    .ret)
    (.seq (.reg [⟨(some 55), none, .q (.bin .eql (.t 49) (.c (.int .i64 12)))⟩,
       ⟨(some 54), none, .q (.mv (.t 55))⟩])
    (.cond (.t 54)
     (.seq (.reg [⟨(some 56), none, .q (.mv (.t 11))⟩,
        ⟨(some 6), none, .q (.mv (.t 56))⟩,
        ⟨(some 7), none, .q (.mv (.c (.int .i64 2)))⟩])
     .ret)
     (.seq (.reg [⟨(some 50), none, .q (.mv (.t 11))⟩,
        ⟨(some 6), none, .q (.mv (.t 50))⟩,
        ⟨(some 7), none, .q (.mv (.c (.int .i64 0)))⟩])
     .ret))))))))))))))⟩
theorem l_slices_choosePivotOrdered_int64_ : lowF PA f_slices_choosePivotOrdered_int64_ 3 [] = some c_slices_choosePivotOrdered_int64_ := by kernel_rfl
abbrev f_slices_reverseRangeOrdered_int64_ : FuncId := 94
def c_slices_reverseRangeOrdered_int64_ : AF := ⟨3, 32, [],
  (.seq (.reg [⟨(some 8), none, .q (.mv (.t 1))⟩,
     ⟨(some 6), none, .q (.mv (.t 8))⟩])
  (.seq (.reg [⟨(some 9), none, .q (.mv (.t 2))⟩,
     ⟨(some 10), none, .q (.bin .sub (.t 9) (.c (.int .i64 1)))⟩,
     ⟨(some 7), none, .q (.mv (.t 10))⟩])
  (.block 0 (.loop [0, 6, 7, 32] (.seq (.seq (.reg [⟨(some 11), none, .q (.mv (.t 6))⟩,
        ⟨(some 12), none, .q (.mv (.t 7))⟩,
        ⟨(some 13), none, .q (.bin .lss (.t 11) (.t 12))⟩])
     (.cond (.t 13)
      .skip
      (.exit 0)))
    (.block 1 (.seq (.sch (.take 0 ⟨(some 14), none, .q (.mv (.t 0))⟩ (.take 1 ⟨(some 15), none, .q (.mv (.t 6))⟩ (.take 2 ⟨(some 16), none, .q (.mv (.t 0))⟩ (.take 3 ⟨(some 17), none, .q (.mv (.t 7))⟩ (.take 4 ⟨(some 18), none, .q (.mv (.t 0))⟩ (.take 5 ⟨(some 19), none, .q (.mv (.t 7))⟩ (.take 6 ⟨(some 20), none, .q (.ixs 1 (.t 18) (.t 19))⟩ (.take 7 ⟨(some 21), none, .q (.ld false 1 (.t 20))⟩ (.take 8 ⟨(some 22), none, .q (.mv (.t 0))⟩ (.take 9 ⟨(some 23), none, .q (.mv (.t 6))⟩ (.take 10 ⟨(some 24), none, .q (.ixs 1 (.t 22) (.t 23))⟩ (.take 11 ⟨(some 25), none, .q (.ld false 1 (.t 24))⟩ (.take 12 ⟨(some 26), none, .q (.ixs 1 (.t 14) (.t 15))⟩ (.one ⟨none, none, .m (.st false 1 (.t 26) (.t 21))⟩ [11, 7] (.take 14 ⟨(some 27), none, .q (.ixs 1 (.t 16) (.t 17))⟩ (.one ⟨none, none, .m (.st false 1 (.t 27) (.t 25))⟩ [11, 7] .done)))))))))))))))))
     (.seq (.reg [⟨(some 28), none, .q (.mv (.t 6))⟩,
        ⟨(some 29), none, .q (.bin .add (.t 28) (.c (.int .i64 1)))⟩,
        ⟨(some 6), none, .q (.mv (.t 29))⟩])
     (.reg [⟨(some 30), none, .q (.mv (.t 7))⟩,
       ⟨(some 31), none, .q (.bin .sub (.t 30) (.c (.int .i64 1)))⟩,
       ⟨(some 7), none, .q (.mv (.t 31))⟩])))))))))⟩
theorem l_slices_reverseRangeOrdered_int64_ : lowF PA f_slices_reverseRangeOrdered_int64_ 3 [.k [0, 6, 7, 32], .s (.take 0 (.take 1 (.take 2 (.take 3 (.take 4 (.take 5 (.take 6 (.take 7 (.take 8 (.take 9 (.take 10 (.take 11 (.take 12 (.one 13 (.take 14 (.one 15 .done))))))))))))))))] = some c_slices_reverseRangeOrdered_int64_ := by kernel_rfl
abbrev f_slices_partialInsertionSortOrdered_int64_ : FuncId := 95
def c_slices_partialInsertionSortOrdered_int64_ : AF := ⟨3, 133, [.t 6],
  (.seq (.reg [⟨(some 6), none, .q (.mv (.c (.bool false)))⟩])
  (.seq (.reg [⟨(some 11), none, .q (.mv (.t 1))⟩,
     ⟨(some 12), none, .q (.bin .add (.t 11) (.c (.int .i64 1)))⟩,
     ⟨(some 7), none, .q (.mv (.t 12))⟩])
  (.seq (.seq (.reg [⟨(some 8), none, .q (.mv (.c (.int .i64 0)))⟩])
   (.block 0 (.loop [0, 1, 2, 7, 8, 133] (.seq (.seq (.reg [⟨(some 13), none, .q (.mv (.t 8))⟩,
         ⟨(some 14), none, .q (.bin .lss (.t 13) (.c (.int .i64 5)))⟩])
      (.cond (.t 14)
       .skip
       (.exit 0)))
     (.seq (.block 1 (.seq (.block 2 (.loop [0, 1, 2, 7, 8, 133] (.seq (.seq (.sch (.take 0 ⟨(some 17), none, .q (.mv (.t 7))⟩ (.take 1 ⟨(some 18), none, .q (.mv (.t 2))⟩ (.take 2 ⟨(some 19), none, .q (.bin .lss (.t 17) (.t 18))⟩ (.take 3 ⟨(some 20), none, .q (.mv (.t 19))⟩ (.take 4 ⟨(some 21), (some (20, true)), .q (.mv (.t 0))⟩ (.take 5 ⟨(some 22), (some (20, true)), .q (.mv (.t 7))⟩ (.take 6 ⟨(some 23), (some (20, true)), .q (.ixs 1 (.t 21) (.t 22))⟩ (.take 7 ⟨(some 24), (some (20, true)), .q (.ld false 1 (.t 23))⟩ (.take 8 ⟨(some 25), (some (20, true)), .q (.mv (.t 0))⟩ (.take 9 ⟨(some 26), (some (20, true)), .q (.mv (.t 7))⟩ (.take 10 ⟨(some 27), (some (20, true)), .q (.bin .sub (.t 26) (.c (.int .i64 1)))⟩ (.take 11 ⟨(some 28), (some (20, true)), .q (.ixs 1 (.t 25) (.t 27))⟩ (.take 12 ⟨(some 29), (some (20, true)), .q (.ld false 1 (.t 28))⟩ (.one ⟨(some 30), (some (20, true)), .c (.call 96 [(.t 24), (.t 29)])⟩ [12, 7] (.take 14 ⟨(some 31), (some (20, true)), .q (.un .not (.t 30))⟩ (.take 15 ⟨(some 32), none, .q (.pick (.t 20) (.t 31) (.c (.bool false)))⟩ .done)))))))))))))))))
           (.cond (.t 32)
            .skip
            (.exit 2)))
          (.block 3 (.reg [⟨(some 33), none, .q (.mv (.t 7))⟩,
             ⟨(some 34), none, .q (.bin .add (.t 33) (.c (.int .i64 1)))⟩,
             ⟨(some 7), none, .q (.mv (.t 34))⟩])))))
       (.seq (.seq (.reg [⟨(some 35), none, .q (.mv (.t 7))⟩,
           ⟨(some 36), none, .q (.mv (.t 2))⟩,
           ⟨(some 37), none, .q (.bin .eql (.t 35) (.t 36))⟩])
        (.cond (.t 37)
         (.seq (.reg [⟨(some 6), none, .q (.mv (.c (.bool true)))⟩])
         .ret)
         .skip))
       (.seq (.seq (.reg [⟨(some 38), none, .q (.mv (.t 2))⟩,
           ⟨(some 39), none, .q (.mv (.t 1))⟩,
           ⟨(some 40), none, .q (.bin .sub (.t 38) (.t 39))⟩,
           ⟨(some 41), none, .q (.bin .lss (.t 40) (.c (.int .i64 50)))⟩])
        (.cond (.t 41)
         (.seq (.reg [⟨(some 6), none, .q (.mv (.c (.bool false)))⟩])
         .ret)
         .skip))
       (.seq (.sch (.take 0 ⟨(some 42), none, .q (.mv (.t 0))⟩ (.take 1 ⟨(some 43), none, .q (.mv (.t 7))⟩ (.take 2 ⟨(some 44), none, .q (.mv (.t 0))⟩ (.take 3 ⟨(some 45), none, .q (.mv (.t 7))⟩ (.take 4 ⟨(some 46), none, .q (.bin .sub (.t 45) (.c (.int .i64 1)))⟩ (.take 5 ⟨(some 47), none, .q (.mv (.t 0))⟩ (.take 6 ⟨(some 48), none, .q (.mv (.t 7))⟩ (.take 7 ⟨(some 49), none, .q (.bin .sub (.t 48) (.c (.int .i64 1)))⟩ (.take 8 ⟨(some 50), none, .q (.ixs 1 (.t 47) (.t 49))⟩ (.take 9 ⟨(some 51), none, .q (.ld false 1 (.t 50))⟩ (.take 10 ⟨(some 52), none, .q (.mv (.t 0))⟩ (.take 11 ⟨(some 53), none, .q (.mv (.t 7))⟩ (.take 12 ⟨(some 54), none, .q (.ixs 1 (.t 52) (.t 53))⟩ (.take 13 ⟨(some 55), none, .q (.ld false 1 (.t 54))⟩ (.take 14 ⟨(some 56), none, .q (.ixs 1 (.t 42) (.t 43))⟩ (.one ⟨none, none, .m (.st false 1 (.t 56) (.t 51))⟩ [13, 9] (.take 16 ⟨(some 57), none, .q (.ixs 1 (.t 44) (.t 46))⟩ (.one ⟨none, none, .m (.st false 1 (.t 57) (.t 55))⟩ [13, 9] .done)))))))))))))))))))
       (.seq (.seq (.reg [⟨(some 58), none, .q (.mv (.t 7))⟩,
           ⟨(some 59), none, .q (.mv (.t 1))⟩,
           ⟨(some 60), none, .q (.bin .sub (.t 58) (.t 59))⟩,
           ⟨(some 61), none, .q (.bin .geq (.t 60) (.c (.int .i64 2)))⟩])
        (.cond (.t 61)
         (.seq (.reg [⟨(some 62), none, .q (.mv (.t 7))⟩,
            ⟨(some 63), none, .q (.bin .sub (.t 62) (.c (.int .i64 1)))⟩,
            ⟨(some 9), none, .q (.mv (.t 63))⟩])
         (.block 4 (.loop [0, 1, 2, 7, 8, 9, 133] (.seq (.seq (.reg [⟨(some 64), none, .q (.mv (.t 9))⟩,
               ⟨(some 65), none, .q (.bin .geq (.t 64) (.c (.int .i64 1)))⟩])
            (.cond (.t 65)
             .skip
             (.exit 4)))
           (.seq (.block 5 (.seq (.seq (.sch (.take 0 ⟨(some 68), none, .q (.mv (.t 0))⟩ (.take 1 ⟨(some 69), none, .q (.mv (.t 9))⟩ (.take 2 ⟨(some 70), none, .q (.ixs 1 (.t 68) (.t 69))⟩ (.take 3 ⟨(some 71), none, .q (.ld false 1 (.t 70))⟩ (.take 4 ⟨(some 72), none, .q (.mv (.t 0))⟩ (.take 5 ⟨(some 73), none, .q (.mv (.t 9))⟩ (.take 6 ⟨(some 74), none, .q (.bin .sub (.t 73) (.c (.int .i64 1)))⟩ (.take 7 ⟨(some 75), none, .q (.ixs 1 (.t 72) (.t 74))⟩ (.take 8 ⟨(some 76), none, .q (.ld false 1 (.t 75))⟩ (.one ⟨(some 77), none, .c (.call 96 [(.t 71), (.t 76)])⟩ [8, 3] (.take 10 ⟨(some 78), none, .q (.un .not (.t 77))⟩ .done))))))))))))
              (.cond (.t 78)
               (.exit 4)
               .skip))
             (.sch (.take 0 ⟨(some 79), none, .q (.mv (.t 0))⟩ (.take 1 ⟨(some 80), none, .q (.mv (.t 9))⟩ (.take 2 ⟨(some 81), none, .q (.mv (.t 0))⟩ (.take 3 ⟨(some 82), none, .q (.mv (.t 9))⟩ (.take 4 ⟨(some 83), none, .q (.bin .sub (.t 82) (.c (.int .i64 1)))⟩ (.take 5 ⟨(some 84), none, .q (.mv (.t 0))⟩ (.take 6 ⟨(some 85), none, .q (.mv (.t 9))⟩ (.take 7 ⟨(some 86), none, .q (.bin .sub (.t 85) (.c (.int .i64 1)))⟩ (.take 8 ⟨(some 87), none, .q (.ixs 1 (.t 84) (.t 86))⟩ (.take 9 ⟨(some 88), none, .q (.ld false 1 (.t 87))⟩ (.take 10 ⟨(some 89), none, .q (.mv (.t 0))⟩ (.take 11 ⟨(some 90), none, .q (.mv (.t 9))⟩ (.take 12 ⟨(some 91), none, .q (.ixs 1 (.t 89) (.t 90))⟩ (.take 13 ⟨(some 92), none, .q (.ld false 1 (.t 91))⟩ (.take 14 ⟨(some 93), none, .q (.ixs 1 (.t 79) (.t 80))⟩ (.one ⟨none, none, .m (.st false 1 (.t 93) (.t 88))⟩ [13, 9] (.take 16 ⟨(some 94), none, .q (.ixs 1 (.t 81) (.t 83))⟩ (.one ⟨none, none, .m (.st false 1 (.t 94) (.t 92))⟩ [13, 9] .done)))))))))))))))))))))
           (.reg [⟨(some 66), none, .q (.mv (.t 9))⟩,
             ⟨(some 67), none, .q (.bin .sub (.t 66) (.c (.int .i64 1)))⟩,
             ⟨(some 9), none, .q (.mv (.t 67))⟩]))))))
         .skip))
       (.seq (.reg [⟨(some 95), none, .q (.mv (.t 2))⟩,
          ⟨(some 96), none, .q (.mv (.t 7))⟩,
          ⟨(some 97), none, .q (.bin .sub (.t 95) (.t 96))⟩,
          ⟨(some 98), none, .q (.bin .geq (.t 97) (.c (.int .i64 2)))⟩])
       (.cond (.t 98)
        (.seq (.reg [⟨(some 99), none, .q (.mv (.t 7))⟩,
           ⟨(some 100), none, .q (.bin .add (.t 99) (.c (.int .i64 1)))⟩,
           ⟨(some 10), none, .q (.mv (.t 100))⟩])
        (.block 6 (.loop [0, 1, 2, 7, 8, 10, 133] (.seq (.seq (.reg [⟨(some 101), none, .q (.mv (.t 10))⟩,
              ⟨(some 102), none, .q (.mv (.t 2))⟩,
              ⟨(some 103), none, .q (.bin .lss (.t 101) (.t 102))⟩])
           (.cond (.t 103)
            .skip
            (.exit 6)))
          (.seq (.block 7 (.seq (.seq (.sch (.take 0 ⟨(some 106), none, .q (.mv (.t 0))⟩ (.take 1 ⟨(some 107), none, .q (.mv (.t 10))⟩ (.take 2 ⟨(some 108), none, .q (.ixs 1 (.t 106) (.t 107))⟩ (.take 3 ⟨(some 109), none, .q (.ld false 1 (.t 108))⟩ (.take 4 ⟨(some 110), none, .q (.mv (.t 0))⟩ (.take 5 ⟨(some 111), none, .q (.mv (.t 10))⟩ (.take 6 ⟨(some 112), none, .q (.bin .sub (.t 111) (.c (.int .i64 1)))⟩ (.take 7 ⟨(some 113), none, .q (.ixs 1 (.t 110) (.t 112))⟩ (.take 8 ⟨(some 114), none, .q (.ld false 1 (.t 113))⟩ (.one ⟨(some 115), none, .c (.call 96 [(.t 109), (.t 114)])⟩ [8, 3] (.take 10 ⟨(some 116), none, .q (.un .not (.t 115))⟩ .done))))))))))))
             (.cond (.t 116)
              (.exit 6)
              .skip))
            (.sch (.take 0 ⟨(some 117), none, .q (.mv (.t 0))⟩ (.take 1 ⟨(some 118), none, .q (.mv (.t 10))⟩ (.take 2 ⟨(some 119), none, .q (.mv (.t 0))⟩ (.take 3 ⟨(some 120), none, .q (.mv (.t 10))⟩ (.take 4 ⟨(some 121), none, .q (.bin .sub (.t 120) (.c (.int .i64 1)))⟩ (.take 5 ⟨(some 122), none, .q (.mv (.t 0))⟩ (.take 6 ⟨(some 123), none, .q (.mv (.t 10))⟩ (.take 7 ⟨(some 124), none, .q (.bin .sub (.t 123) (.c (.int .i64 1)))⟩ (.take 8 ⟨(some 125), none, .q (.ixs 1 (.t 122) (.t 124))⟩ (.take 9 ⟨(some 126), none, .q (.ld false 1 (.t 125))⟩ (.take 10 ⟨(some 127), none, .q (.mv (.t 0))⟩ (.take 11 ⟨(some 128), none, .q (.mv (.t 10))⟩ (.take 12 ⟨(some 129), none, .q (.ixs 1 (.t 127) (.t 128))⟩ (.take 13 ⟨(some 130), none, .q (.ld false 1 (.t 129))⟩ (.take 14 ⟨(some 131), none, .q (.ixs 1 (.t 117) (.t 118))⟩ (.one ⟨none, none, .m (.st false 1 (.t 131) (.t 126))⟩ [13, 9] (.take 16 ⟨(some 132), none, .q (.ixs 1 (.t 119) (.t 121))⟩ (.one ⟨none, none, .m (.st false 1 (.t 132) (.t 130))⟩ [13, 9] .done)))))))))))))))))))))
          (.reg [⟨(some 104), none, .q (.mv (.t 10))⟩,
            ⟨(some 105), none, .q (.bin .add (.t 104) (.c (.int .i64 1)))⟩,
            ⟨(some 10), none, .q (.mv (.t 105))⟩]))))))
        .skip))))))))
     (.reg [⟨(some 15), none, .q (.mv (.t 8))⟩,
       ⟨(some 16), none, .q (.bin .add (.t 15) (.c (.int .i64 1)))⟩,
       ⟨(some 8), none, .q (.mv (.t 16))⟩]))))))
  (.seq (.reg [⟨(some 6), none, .q (.mv (.c (.bool false)))⟩])
  .ret))))⟩
theorem l_slices_partialInsertionSortOrdered_int64_ : lowF PA f_slices_partialInsertionSortOrdered_int64_ 3 [.k [0, 1, 2, 7, 8, 133], .k [0, 1, 2, 7, 8, 133], .s (.take 0 (.take 1 (.take 2 (.take 3 (.take 4 (.take 5 (.take 6 (.take 7 (.take 8 (.take 9 (.take 10 (.take 11 (.take 12 (.one 13 (.take 14 (.take 15 .done)))))))))))))))), .s (.take 0 (.take 1 (.take 2 (.take 3 (.take 4 (.take 5 (.take 6 (.take 7 (.take 8 (.take 9 (.take 10 (.take 11 (.take 12 (.take 13 (.take 14 (.one 15 (.take 16 (.one 17 .done)))))))))))))))))), .k [0, 1, 2, 7, 8, 9, 133], .s (.take 0 (.take 1 (.take 2 (.take 3 (.take 4 (.take 5 (.take 6 (.take 7 (.take 8 (.one 9 (.take 10 .done))))))))))), .s (.take 0 (.take 1 (.take 2 (.take 3 (.take 4 (.take 5 (.take 6 (.take 7 (.take 8 (.take 9 (.take 10 (.take 11 (.take 12 (.take 13 (.take 14 (.one 15 (.take 16 (.one 17 .done)))))))))))))))))), .k [0, 1, 2, 7, 8, 10, 133], .s (.take 0 (.take 1 (.take 2 (.take 3 (.take 4 (.take 5 (.take 6 (.take 7 (.take 8 (.one 9 (.take 10 .done))))))))))), .s (.take 0 (.take 1 (.take 2 (.take 3 (.take 4 (.take 5 (.take 6 (.take 7 (.take 8 (.take 9 (.take 10 (.take 11 (.take 12 (.take 13 (.take 14 (.one 15 (.take 16 (.one 17 .done))))))))))))))))))] = some c_slices_partialInsertionSortOrdered_int64_ := by kernel_rfl
abbrev f_cmp_Less_int64_ : FuncId := 96
def c_cmp_Less_int64_ : AF := ⟨2, 17, [.t 4],
  (.seq (.reg [⟨(some 4), none, .q (.mv (.c (.bool false)))⟩])
  (.seq (.reg [⟨(some 5), none, .q (.mv (.t 0))⟩,
     ⟨(some 6), none, .c (.call 113 [(.t 5)])⟩,
     ⟨(some 7), none, .q (.mv (.t 6))⟩,
     ⟨(some 8), (some (7, true)), .q (.mv (.t 1))⟩,
     ⟨(some 9), (some (7, true)), .c (.call 113 [(.t 8)])⟩,
     ⟨(some 10), (some (7, true)), .q (.un .not (.t 9))⟩,
     ⟨(some 11), none, .q (.pick (.t 7) (.t 10) (.c (.bool false)))⟩,
     ⟨(some 12), none, .q (.mv (.t 11))⟩,
     ⟨(some 13), (some (12, false)), .q (.mv (.t 0))⟩,
     ⟨(some 14), (some (12, false)), .q (.mv (.t 1))⟩,
     ⟨(some 15), (some (12, false)), .q (.bin .lss (.t 13) (.t 14))⟩,
     ⟨(some 16), none, .q (.pick (.t 12) (.c (.bool true)) (.t 15))⟩,
     ⟨(some 4), none, .q (.mv (.t 16))⟩])
  .ret))⟩
theorem l_cmp_Less_int64_ : lowF PA f_cmp_Less_int64_ 2 [] = some c_cmp_Less_int64_ := by kernel_rfl
abbrev f_slices_partitionEqualOrdered_int64_ : FuncId := 97
def c_slices_partitionEqualOrdered_int64_ : AF := ⟨4, 84, [.t 8],
  (.seq (.reg [⟨(some 8), none, .q (.mv (.c (.int .i64 0)))⟩])
  (.seq (.sch (.take 0 ⟨(some 11), none, .q (.mv (.t 0))⟩ (.take 1 ⟨(some 12), none, .q (.mv (.t 1))⟩ (.take 2 ⟨(some 13), none, .q (.mv (.t 0))⟩ (.take 3 ⟨(some 14), none, .q (.mv (.t 3))⟩ (.take 4 ⟨(some 15), none, .q (.mv (.t 0))⟩ (.take 5 ⟨(some 16), none, .q (.mv (.t 3))⟩ (.take 6 ⟨(some 17), none, .q (.ixs 1 (.t 15) (.t 16))⟩ (.take 7 ⟨(some 18), none, .q (.ld false 1 (.t 17))⟩ (.take 8 ⟨(some 19), none, .q (.mv (.t 0))⟩ (.take 9 ⟨(some 20), none, .q (.mv (.t 1))⟩ (.take 10 ⟨(some 21), none, .q (.ixs 1 (.t 19) (.t 20))⟩ (.take 11 ⟨(some 22), none, .q (.ld false 1 (.t 21))⟩ (.take 12 ⟨(some 23), none, .q (.ixs 1 (.t 11) (.t 12))⟩ (.one ⟨none, none, .m (.st false 1 (.t 23) (.t 18))⟩ [11, 7] (.take 14 ⟨(some 24), none, .q (.ixs 1 (.t 13) (.t 14))⟩ (.one ⟨none, none, .m (.st false 1 (.t 24) (.t 22))⟩ [11, 7] .done)))))))))))))))))
  (.seq (.reg [⟨(some 25), none, .q (.mv (.t 1))⟩,
     ⟨(some 26), none, .q (.bin .add (.t 25) (.c (.int .i64 1)))⟩,
     ⟨(some 27), none, .q (.mv (.t 2))⟩,
     ⟨(some 28), none, .q (.bin .sub (.t 27) (.c (.int .i64 1)))⟩,
     ⟨(some 9), none, .q (.mv (.t 26))⟩,
     ⟨(some 10), none, .q (.mv (.t 28))⟩])
  (.seq (.seq (.block 0 (.loop [0, 1, 9, 10, 84] (.block 1 (.seq (.seq (.block 2 (.loop [0, 1, 9, 10, 84] (.seq (.seq (.sch (.take 0 ⟨(some 29), none, .q (.mv (.t 9))⟩ (.take 1 ⟨(some 30), none, .q (.mv (.t 10))⟩ (.take 2 ⟨(some 31), none, .q (.bin .leq (.t 29) (.t 30))⟩ (.take 3 ⟨(some 32), none, .q (.mv (.t 31))⟩ (.take 4 ⟨(some 33), (some (32, true)), .q (.mv (.t 0))⟩ (.take 5 ⟨(some 34), (some (32, true)), .q (.mv (.t 1))⟩ (.take 6 ⟨(some 35), (some (32, true)), .q (.ixs 1 (.t 33) (.t 34))⟩ (.take 7 ⟨(some 36), (some (32, true)), .q (.ld false 1 (.t 35))⟩ (.take 8 ⟨(some 37), (some (32, true)), .q (.mv (.t 0))⟩ (.take 9 ⟨(some 38), (some (32, true)), .q (.mv (.t 9))⟩ (.take 10 ⟨(some 39), (some (32, true)), .q (.ixs 1 (.t 37) (.t 38))⟩ (.take 11 ⟨(some 40), (some (32, true)), .q (.ld false 1 (.t 39))⟩ (.one ⟨(some 41), (some (32, true)), .c (.call 96 [(.t 36), (.t 40)])⟩ [11, 7] (.take 13 ⟨(some 42), (some (32, true)), .q (.un .not (.t 41))⟩ (.take 14 ⟨(some 43), none, .q (.pick (.t 32) (.t 42) (.c (.bool false)))⟩ .done))))))))))))))))
            (.cond (.t 43)
             .skip
             (.exit 2)))
           (.block 3 (.reg [⟨(some 44), none, .q (.mv (.t 9))⟩,
              ⟨(some 45), none, .q (.bin .add (.t 44) (.c (.int .i64 1)))⟩,
              ⟨(some 9), none, .q (.mv (.t 45))⟩])))))
        (.cut [0, 1, 9, 10, 84]))
       (.seq (.seq (.block 4 (.loop [0, 1, 9, 10, 84] (.seq (.seq (.sch (.take 0 ⟨(some 46), none, .q (.mv (.t 9))⟩ (.take 1 ⟨(some 47), none, .q (.mv (.t 10))⟩ (.take 2 ⟨(some 48), none, .q (.bin .leq (.t 46) (.t 47))⟩ (.take 3 ⟨(some 49), none, .q (.mv (.t 48))⟩ (.take 4 ⟨(some 50), (some (49, true)), .q (.mv (.t 0))⟩ (.take 5 ⟨(some 51), (some (49, true)), .q (.mv (.t 1))⟩ (.take 6 ⟨(some 52), (some (49, true)), .q (.ixs 1 (.t 50) (.t 51))⟩ (.take 7 ⟨(some 53), (some (49, true)), .q (.ld false 1 (.t 52))⟩ (.take 8 ⟨(some 54), (some (49, true)), .q (.mv (.t 0))⟩ (.take 9 ⟨(some 55), (some (49, true)), .q (.mv (.t 10))⟩ (.take 10 ⟨(some 56), (some (49, true)), .q (.ixs 1 (.t 54) (.t 55))⟩ (.take 11 ⟨(some 57), (some (49, true)), .q (.ld false 1 (.t 56))⟩ (.one ⟨(some 58), (some (49, true)), .c (.call 96 [(.t 53), (.t 57)])⟩ [11, 7] (.take 13 ⟨(some 59), none, .q (.pick (.t 49) (.t 58) (.c (.bool false)))⟩ .done)))))))))))))))
            (.cond (.t 59)
             .skip
             (.exit 4)))
           (.block 5 (.reg [⟨(some 60), none, .q (.mv (.t 10))⟩,
              ⟨(some 61), none, .q (.bin .sub (.t 60) (.c (.int .i64 1)))⟩,
              ⟨(some 10), none, .q (.mv (.t 61))⟩])))))
        (.cut [0, 1, 9, 10, 84]))
       (.seq (.seq (.reg [⟨(some 62), none, .q (.mv (.t 9))⟩,
           ⟨(some 63), none, .q (.mv (.t 10))⟩,
           ⟨(some 64), none, .q (.bin .gtr (.t 62) (.t 63))⟩])
        (.cond (.t 64)
         (.exit 0)
         .skip))
       (.seq (.sch (.take 0 ⟨(some 65), none, .q (.mv (.t 0))⟩ (.take 1 ⟨(some 66), none, .q (.mv (.t 9))⟩ (.take 2 ⟨(some 67), none, .q (.mv (.t 0))⟩ (.take 3 ⟨(some 68), none, .q (.mv (.t 10))⟩ (.take 4 ⟨(some 69), none, .q (.mv (.t 0))⟩ (.take 5 ⟨(some 70), none, .q (.mv (.t 10))⟩ (.take 6 ⟨(some 71), none, .q (.ixs 1 (.t 69) (.t 70))⟩ (.take 7 ⟨(some 72), none, .q (.ld false 1 (.t 71))⟩ (.take 8 ⟨(some 73), none, .q (.mv (.t 0))⟩ (.take 9 ⟨(some 74), none, .q (.mv (.t 9))⟩ (.take 10 ⟨(some 75), none, .q (.ixs 1 (.t 73) (.t 74))⟩ (.take 11 ⟨(some 76), none, .q (.ld false 1 (.t 75))⟩ (.take 12 ⟨(some 77), none, .q (.ixs 1 (.t 65) (.t 66))⟩ (.one ⟨none, none, .m (.st false 1 (.t 77) (.t 72))⟩ [11, 7] (.take 14 ⟨(some 78), none, .q (.ixs 1 (.t 67) (.t 68))⟩ (.one ⟨none, none, .m (.st false 1 (.t 78) (.t 76))⟩ [11, 7] .done)))))))))))))))))
       (.seq (.reg [⟨(some 79), none, .q (.mv (.t 9))⟩,
          ⟨(some 80), none, .q (.bin .add (.t 79) (.c (.int .i64 1)))⟩,
          ⟨(some 9), none, .q (.mv (.t 80))⟩])
       (.reg [⟨(some 81), none, .q (.mv (.t 10))⟩,
         ⟨(some 82), none, .q (.bin .sub (.t 81) (.c (.int .i64 1)))⟩,
         ⟨(some 10), none, .q (.mv (.t 82))⟩])))))))))
   (.cut [9, 84]))
  (.seq (.reg [⟨(some 83), none, .q (.mv (.t 9))⟩,
     ⟨(some 8), none, .q (.mv (.t 83))⟩])
  .ret)))))⟩
theorem l_slices_partitionEqualOrdered_int64_ : lowF PA f_slices_partitionEqualOrdered_int64_ 4 [.s (.take 0 (.take 1 (.take 2 (.take 3 (.take 4 (.take 5 (.take 6 (.take 7 (.take 8 (.take 9 (.take 10 (.take 11 (.take 12 (.one 13 (.take 14 (.one 15 .done)))))))))))))))), .k [0, 1, 9, 10, 84], .k [0, 1, 9, 10, 84], .s (.take 0 (.take 1 (.take 2 (.take 3 (.take 4 (.take 5 (.take 6 (.take 7 (.take 8 (.take 9 (.take 10 (.take 11 (.one 12 (.take 13 (.take 14 .done))))))))))))))), .c 2 [0, 1, 9, 10, 84], .k [0, 1, 9, 10, 84], .s (.take 0 (.take 1 (.take 2 (.take 3 (.take 4 (.take 5 (.take 6 (.take 7 (.take 8 (.take 9 (.take 10 (.take 11 (.one 12 (.take 13 .done)))))))))))))), .c 4 [0, 1, 9, 10, 84], .s (.take 0 (.take 1 (.take 2 (.take 3 (.take 4 (.take 5 (.take 6 (.take 7 (.take 8 (.take 9 (.take 10 (.take 11 (.take 12 (.one 13 (.take 14 (.one 15 .done)))))))))))))))), .c 0 [9, 84]] = some c_slices_partitionEqualOrdered_int64_ := by kernel_rfl
abbrev f_slices_partitionOrdered_int64_ : FuncId := 98
def c_slices_partitionOrdered_int64_ : AF := ⟨4, 168, [.t 8, .t 9],
  (.seq (.reg [⟨(some 8), none, .q (.mv (.c (.int .i64 0)))⟩,
     ⟨(some 9), none, .q (.mv (.c (.bool false)))⟩])
  (.seq (.sch (.take 0 ⟨(some 12), none, .q (.mv (.t 0))⟩ (.take 1 ⟨(some 13), none, .q (.mv (.t 1))⟩ (.take 2 ⟨(some 14), none, .q (.mv (.t 0))⟩ (.take 3 ⟨(some 15), none, .q (.mv (.t 3))⟩ (.take 4 ⟨(some 16), none, .q (.mv (.t 0))⟩ (.take 5 ⟨(some 17), none, .q (.mv (.t 3))⟩ (.take 6 ⟨(some 18), none, .q (.ixs 1 (.t 16) (.t 17))⟩ (.take 7 ⟨(some 19), none, .q (.ld false 1 (.t 18))⟩ (.take 8 ⟨(some 20), none, .q (.mv (.t 0))⟩ (.take 9 ⟨(some 21), none, .q (.mv (.t 1))⟩ (.take 10 ⟨(some 22), none, .q (.ixs 1 (.t 20) (.t 21))⟩ (.take 11 ⟨(some 23), none, .q (.ld false 1 (.t 22))⟩ (.take 12 ⟨(some 24), none, .q (.ixs 1 (.t 12) (.t 13))⟩ (.one ⟨none, none, .m (.st false 1 (.t 24) (.t 19))⟩ [11, 7] (.take 14 ⟨(some 25), none, .q (.ixs 1 (.t 14) (.t 15))⟩ (.one ⟨none, none, .m (.st false 1 (.t 25) (.t 23))⟩ [11, 7] .done)))))))))))))))))
  (.seq (.reg [⟨(some 26), none, .q (.mv (.t 1))⟩,
     ⟨(some 27), none, .q (.bin .add (.t 26) (.c (.int .i64 1)))⟩,
     ⟨(some 28), none, .q (.mv (.t 2))⟩,
     ⟨(some 29), none, .q (.bin .sub (.t 28) (.c (.int .i64 1)))⟩,
     ⟨(some 10), none, .q (.mv (.t 27))⟩,
     ⟨(some 11), none, .q (.mv (.t 29))⟩])
  (.seq (.seq (.block 0 (.loop [0, 1, 10, 11, 168] (.seq (.seq (.sch (.take 0 ⟨(some 30), none, .q (.mv (.t 10))⟩ (.take 1 ⟨(some 31), none, .q (.mv (.t 11))⟩ (.take 2 ⟨(some 32), none, .q (.bin .leq (.t 30) (.t 31))⟩ (.take 3 ⟨(some 33), none, .q (.mv (.t 32))⟩ (.take 4 ⟨(some 34), (some (33, true)), .q (.mv (.t 0))⟩ (.take 5 ⟨(some 35), (some (33, true)), .q (.mv (.t 10))⟩ (.take 6 ⟨(some 36), (some (33, true)), .q (.ixs 1 (.t 34) (.t 35))⟩ (.take 7 ⟨(some 37), (some (33, true)), .q (.ld false 1 (.t 36))⟩ (.take 8 ⟨(some 38), (some (33, true)), .q (.mv (.t 0))⟩ (.take 9 ⟨(some 39), (some (33, true)), .q (.mv (.t 1))⟩ (.take 10 ⟨(some 40), (some (33, true)), .q (.ixs 1 (.t 38) (.t 39))⟩ (.take 11 ⟨(some 41), (some (33, true)), .q (.ld false 1 (.t 40))⟩ (.one ⟨(some 42), (some (33, true)), .c (.call 96 [(.t 37), (.t 41)])⟩ [11, 7] (.take 13 ⟨(some 43), none, .q (.pick (.t 33) (.t 42) (.c (.bool false)))⟩ .done)))))))))))))))
       (.cond (.t 43)
        .skip
        (.exit 0)))
      (.block 1 (.reg [⟨(some 44), none, .q (.mv (.t 10))⟩,
         ⟨(some 45), none, .q (.bin .add (.t 44) (.c (.int .i64 1)))⟩,
         ⟨(some 10), none, .q (.mv (.t 45))⟩])))))
   (.cut [0, 1, 10, 11, 168]))
  (.seq (.seq (.block 2 (.loop [0, 1, 10, 11, 168] (.seq (.seq (.sch (.take 0 ⟨(some 46), none, .q (.mv (.t 10))⟩ (.take 1 ⟨(some 47), none, .q (.mv (.t 11))⟩ (.take 2 ⟨(some 48), none, .q (.bin .leq (.t 46) (.t 47))⟩ (.take 3 ⟨(some 49), none, .q (.mv (.t 48))⟩ (.take 4 ⟨(some 50), (some (49, true)), .q (.mv (.t 0))⟩ (.take 5 ⟨(some 51), (some (49, true)), .q (.mv (.t 11))⟩ (.take 6 ⟨(some 52), (some (49, true)), .q (.ixs 1 (.t 50) (.t 51))⟩ (.take 7 ⟨(some 53), (some (49, true)), .q (.ld false 1 (.t 52))⟩ (.take 8 ⟨(some 54), (some (49, true)), .q (.mv (.t 0))⟩ (.take 9 ⟨(some 55), (some (49, true)), .q (.mv (.t 1))⟩ (.take 10 ⟨(some 56), (some (49, true)), .q (.ixs 1 (.t 54) (.t 55))⟩ (.take 11 ⟨(some 57), (some (49, true)), .q (.ld false 1 (.t 56))⟩ (.one ⟨(some 58), (some (49, true)), .c (.call 96 [(.t 53), (.t 57)])⟩ [11, 7] (.take 13 ⟨(some 59), (some (49, true)), .q (.un .not (.t 58))⟩ (.take 14 ⟨(some 60), none, .q (.pick (.t 49) (.t 59) (.c (.bool false)))⟩ .done))))))))))))))))
       (.cond (.t 60)
        .skip
        (.exit 2)))
      (.block 3 (.reg [⟨(some 61), none, .q (.mv (.t 11))⟩,
         ⟨(some 62), none, .q (.bin .sub (.t 61) (.c (.int .i64 1)))⟩,
         ⟨(some 11), none, .q (.mv (.t 62))⟩])))))
   (.cut [0, 1, 10, 11, 168]))
  (.seq (.seq (.reg [⟨(some 63), none, .q (.mv (.t 10))⟩,
      ⟨(some 64), none, .q (.mv (.t 11))⟩,
      ⟨(some 65), none, .q (.bin .gtr (.t 63) (.t 64))⟩])
   (.cond (.t 65)
    (.seq (.sch (.take 0 ⟨(some 66), none, .q (.mv (.t 0))⟩ (.take 1 ⟨(some 67), none, .q (.mv (.t 11))⟩ (.take 2 ⟨(some 68), none, .q (.mv (.t 0))⟩ (.take 3 ⟨(some 69), none, .q (.mv (.t 1))⟩ (.take 4 ⟨(some 70), none, .q (.mv (.t 0))⟩ (.take 5 ⟨(some 71), none, .q (.mv (.t 1))⟩ (.take 6 ⟨(some 72), none, .q (.ixs 1 (.t 70) (.t 71))⟩ (.take 7 ⟨(some 73), none, .q (.ld false 1 (.t 72))⟩ (.take 8 ⟨(some 74), none, .q (.mv (.t 0))⟩ (.take 9 ⟨(some 75), none, .q (.mv (.t 11))⟩ (.take 10 ⟨(some 76), none, .q (.ixs 1 (.t 74) (.t 75))⟩ (.take 11 ⟨(some 77), none, .q (.ld false 1 (.t 76))⟩ (.take 12 ⟨(some 78), none, .q (.ixs 1 (.t 66) (.t 67))⟩ (.one ⟨none, none, .m (.st false 1 (.t 78) (.t 73))⟩ [11, 7] (.take 14 ⟨(some 79), none, .q (.ixs 1 (.t 68) (.t 69))⟩ (.one ⟨none, none, .m (.st false 1 (.t 79) (.t 77))⟩ [11, 7] .done)))))))))))))))))
    (.seq (.reg [⟨(some 80), none, .q (.mv (.t 11))⟩,
       ⟨(some 8), none, .q (.mv (.t 80))⟩,
       ⟨(some 9), none, .q (.mv (.c (.bool true)))⟩])
    .ret))
    .skip))
  (.seq (.sch (.take 0 ⟨(some 81), none, .q (.mv (.t 0))⟩ (.take 1 ⟨(some 82), none, .q (.mv (.t 10))⟩ (.take 2 ⟨(some 83), none, .q (.mv (.t 0))⟩ (.take 3 ⟨(some 84), none, .q (.mv (.t 11))⟩ (.take 4 ⟨(some 85), none, .q (.mv (.t 0))⟩ (.take 5 ⟨(some 86), none, .q (.mv (.t 11))⟩ (.take 6 ⟨(some 87), none, .q (.ixs 1 (.t 85) (.t 86))⟩ (.take 7 ⟨(some 88), none, .q (.ld false 1 (.t 87))⟩ (.take 8 ⟨(some 89), none, .q (.mv (.t 0))⟩ (.take 9 ⟨(some 90), none, .q (.mv (.t 10))⟩ (.take 10 ⟨(some 91), none, .q (.ixs 1 (.t 89) (.t 90))⟩ (.take 11 ⟨(some 92), none, .q (.ld false 1 (.t 91))⟩ (.take 12 ⟨(some 93), none, .q (.ixs 1 (.t 81) (.t 82))⟩ (.one ⟨none, none, .m (.st false 1 (.t 93) (.t 88))⟩ [11, 7] (.take 14 ⟨(some 94), none, .q (.ixs 1 (.t 83) (.t 84))⟩ (.one ⟨none, none, .m (.st false 1 (.t 94) (.t 92))⟩ [11, 7] .done)))))))))))))))))
  (.seq (.reg [⟨(some 95), none, .q (.mv (.t 10))⟩,
     ⟨(some 96), none, .q (.bin .add (.t 95) (.c (.int .i64 1)))⟩,
     ⟨(some 10), none, .q (.mv (.t 96))⟩])
  (.seq (.reg [⟨(some 97), none, .q (.mv (.t 11))⟩,
     ⟨(some 98), none, .q (.bin .sub (.t 97) (.c (.int .i64 1)))⟩,
     ⟨(some 11), none, .q (.mv (.t 98))⟩])
  (.seq (.seq (.block 4 (.loop [0, 1, 10, 11, 168] (.block 5 (.seq (.seq (.block 6 (.loop [0, 1, 10, 11, 168] (.seq (.seq (.sch (.take 0 ⟨(some 99), none, .q (.mv (.t 10))⟩ (.take 1 ⟨(some 100), none, .q (.mv (.t 11))⟩ (.take 2 ⟨(some 101), none, .q (.bin .leq (.t 99) (.t 100))⟩ (.take 3 ⟨(some 102), none, .q (.mv (.t 101))⟩ (.take 4 ⟨(some 103), (some (102, true)), .q (.mv (.t 0))⟩ (.take 5 ⟨(some 104), (some (102, true)), .q (.mv (.t 10))⟩ (.take 6 ⟨(some 105), (some (102, true)), .q (.ixs 1 (.t 103) (.t 104))⟩ (.take 7 ⟨(some 106), (some (102, true)), .q (.ld false 1 (.t 105))⟩ (.take 8 ⟨(some 107), (some (102, true)), .q (.mv (.t 0))⟩ (.take 9 ⟨(some 108), (some (102, true)), .q (.mv (.t 1))⟩ (.take 10 ⟨(some 109), (some (102, true)), .q (.ixs 1 (.t 107) (.t 108))⟩ (.take 11 ⟨(some 110), (some (102, true)), .q (.ld false 1 (.t 109))⟩ (.one ⟨(some 111), (some (102, true)), .c (.call 96 [(.t 106), (.t 110)])⟩ [11, 7] (.take 13 ⟨(some 112), none, .q (.pick (.t 102) (.t 111) (.c (.bool false)))⟩ .done)))))))))))))))
            (.cond (.t 112)
             .skip
             (.exit 6)))
           (.block 7 (.reg [⟨(some 113), none, .q (.mv (.t 10))⟩,
              ⟨(some 114), none, .q (.bin .add (.t 113) (.c (.int .i64 1)))⟩,
              ⟨(some 10), none, .q (.mv (.t 114))⟩])))))
        (.cut [0, 1, 10, 11, 168]))
       (.seq (.seq (.block 8 (.loop [0, 1, 10, 11, 168] (.seq (.seq (.sch (.take 0 ⟨(some 115), none, .q (.mv (.t 10))⟩ (.take 1 ⟨(some 116), none, .q (.mv (.t 11))⟩ (.take 2 ⟨(some 117), none, .q (.bin .leq (.t 115) (.t 116))⟩ (.take 3 ⟨(some 118), none, .q (.mv (.t 117))⟩ (.take 4 ⟨(some 119), (some (118, true)), .q (.mv (.t 0))⟩ (.take 5 ⟨(some 120), (some (118, true)), .q (.mv (.t 11))⟩ (.take 6 ⟨(some 121), (some (118, true)), .q (.ixs 1 (.t 119) (.t 120))⟩ (.take 7 ⟨(some 122), (some (118, true)), .q (.ld false 1 (.t 121))⟩ (.take 8 ⟨(some 123), (some (118, true)), .q (.mv (.t 0))⟩ (.take 9 ⟨(some 124), (some (118, true)), .q (.mv (.t 1))⟩ (.take 10 ⟨(some 125), (some (118, true)), .q (.ixs 1 (.t 123) (.t 124))⟩ (.take 11 ⟨(some 126), (some (118, true)), .q (.ld false 1 (.t 125))⟩ (.one ⟨(some 127), (some (118, true)), .c (.call 96 [(.t 122), (.t 126)])⟩ [11, 7] (.take 13 ⟨(some 128), (some (118, true)), .q (.un .not (.t 127))⟩ (.take 14 ⟨(some 129), none, .q (.pick (.t 118) (.t 128) (.c (.bool false)))⟩ .done))))))))))))))))
            (.cond (.t 129)
             .skip
             (.exit 8)))
           (.block 9 (.reg [⟨(some 130), none, .q (.mv (.t 11))⟩,
              ⟨(some 131), none, .q (.bin .sub (.t 130) (.c (.int .i64 1)))⟩,
              ⟨(some 11), none, .q (.mv (.t 131))⟩])))))
        (.cut [0, 1, 10, 11, 168]))
       (.seq (.seq (.reg [⟨(some 132), none, .q (.mv (.t 10))⟩,
           ⟨(some 133), none, .q (.mv (.t 11))⟩,
           ⟨(some 134), none, .q (.bin .gtr (.t 132) (.t 133))⟩])
        (.cond (.t 134)
         (.exit 4)
         .skip))
       (.seq (.sch (.take 0 ⟨(some 135), none, .q (.mv (.t 0))⟩ (.take 1 ⟨(some 136), none, .q (.mv (.t 10))⟩ (.take 2 ⟨(some 137), none, .q (.mv (.t 0))⟩ (.take 3 ⟨(some 138), none, .q (.mv (.t 11))⟩ (.take 4 ⟨(some 139), none, .q (.mv (.t 0))⟩ (.take 5 ⟨(some 140), none, .q (.mv (.t 11))⟩ (.take 6 ⟨(some 141), none, .q (.ixs 1 (.t 139) (.t 140))⟩ (.take 7 ⟨(some 142), none, .q (.ld false 1 (.t 141))⟩ (.take 8 ⟨(some 143), none, .q (.mv (.t 0))⟩ (.take 9 ⟨(some 144), none, .q (.mv (.t 10))⟩ (.take 10 ⟨(some 145), none, .q (.ixs 1 (.t 143) (.t 144))⟩ (.take 11 ⟨(some 146), none, .q (.ld false 1 (.t 145))⟩ (.take 12 ⟨(some 147), none, .q (.ixs 1 (.t 135) (.t 136))⟩ (.one ⟨none, none, .m (.st false 1 (.t 147) (.t 142))⟩ [11, 7] (.take 14 ⟨(some 148), none, .q (.ixs 1 (.t 137) (.t 138))⟩ (.one ⟨none, none, .m (.st false 1 (.t 148) (.t 146))⟩ [11, 7] .done)))))))))))))))))
       (.seq (.reg [⟨(some 149), none, .q (.mv (.t 10))⟩,
          ⟨(some 150), none, .q (.bin .add (.t 149) (.c (.int .i64 1)))⟩,
          ⟨(some 10), none, .q (.mv (.t 150))⟩])
       (.reg [⟨(some 151), none, .q (.mv (.t 11))⟩,
         ⟨(some 152), none, .q (.bin .sub (.t 151) (.c (.int .i64 1)))⟩,
         ⟨(some 11), none, .q (.mv (.t 152))⟩])))))))))
   (.cut [0, 1, 11, 168]))
  (.seq (.sch (.take 0 ⟨(some 153), none, .q (.mv (.t 0))⟩ (.take 1 ⟨(some 154), none, .q (.mv (.t 11))⟩ (.take 2 ⟨(some 155), none, .q (.mv (.t 0))⟩ (.take 3 ⟨(some 156), none, .q (.mv (.t 1))⟩ (.take 4 ⟨(some 157), none, .q (.mv (.t 0))⟩ (.take 5 ⟨(some 158), none, .q (.mv (.t 1))⟩ (.take 6 ⟨(some 159), none, .q (.ixs 1 (.t 157) (.t 158))⟩ (.take 7 ⟨(some 160), none, .q (.ld false 1 (.t 159))⟩ (.take 8 ⟨(some 161), none, .q (.mv (.t 0))⟩ (.take 9 ⟨(some 162), none, .q (.mv (.t 11))⟩ (.take 10 ⟨(some 163), none, .q (.ixs 1 (.t 161) (.t 162))⟩ (.take 11 ⟨(some 164), none, .q (.ld false 1 (.t 163))⟩ (.take 12 ⟨(some 165), none, .q (.ixs 1 (.t 153) (.t 154))⟩ (.one ⟨none, none, .m (.st false 1 (.t 165) (.t 160))⟩ [11, 7] (.take 14 ⟨(some 166), none, .q (.ixs 1 (.t 155) (.t 156))⟩ (.one ⟨none, none, .m (.st false 1 (.t 166) (.t 164))⟩ [11, 7] .done)))))))))))))))))
  (.seq (.reg [⟨(some 167), none, .q (.mv (.t 11))⟩,
     ⟨(some 8), none, .q (.mv (.t 167))⟩,
     ⟨(some 9), none, .q (.mv (.c (.bool false)))⟩])
  .ret))))))))))))⟩
theorem l_slices_partitionOrdered_int64_ : lowF PA f_slices_partitionOrdered_int64_ 4 [.s (.take 0 (.take 1 (.take 2 (.take 3 (.take 4 (.take 5 (.take 6 (.take 7 (.take 8 (.take 9 (.take 10 (.take 11 (.take 12 (.one 13 (.take 14 (.one 15 .done)))))))))))))))), .k [0, 1, 10, 11, 168], .s (.take 0 (.take 1 (.take 2 (.take 3 (.take 4 (.take 5 (.take 6 (.take 7 (.take 8 (.take 9 (.take 10 (.take 11 (.one 12 (.take 13 .done)))))))))))))), .c 0 [0, 1, 10, 11, 168], .k [0, 1, 10, 11, 168], .s (.take 0 (.take 1 (.take 2 (.take 3 (.take 4 (.take 5 (.take 6 (.take 7 (.take 8 (.take 9 (.take 10 (.take 11 (.one 12 (.take 13 (.take 14 .done))))))))))))))), .c 2 [0, 1, 10, 11, 168], .s (.take 0 (.take 1 (.take 2 (.take 3 (.take 4 (.take 5 (.take 6 (.take 7 (.take 8 (.take 9 (.take 10 (.take 11 (.take 12 (.one 13 (.take 14 (.one 15 .done)))))))))))))))), .s (.take 0 (.take 1 (.take 2 (.take 3 (.take 4 (.take 5 (.take 6 (.take 7 (.take 8 (.take 9 (.take 10 (.take 11 (.take 12 (.one 13 (.take 14 (.one 15 .done)))))))))))))))), .k [0, 1, 10, 11, 168], .k [0, 1, 10, 11, 168], .s (.take 0 (.take 1 (.take 2 (.take 3 (.take 4 (.take 5 (.take 6 (.take 7 (.take 8 (.take 9 (.take 10 (.take 11 (.one 12 (.take 13 .done)))))))))))))), .c 6 [0, 1, 10, 11, 168], .k [0, 1, 10, 11, 168], .s (.take 0 (.take 1 (.take 2 (.take 3 (.take 4 (.take 5 (.take 6 (.take 7 (.take 8 (.take 9 (.take 10 (.take 11 (.one 12 (.take 13 (.take 14 .done))))))))))))))), .c 8 [0, 1, 10, 11, 168], .s (.take 0 (.take 1 (.take 2 (.take 3 (.take 4 (.take 5 (.take 6 (.take 7 (.take 8 (.take 9 (.take 10 (.take 11 (.take 12 (.one 13 (.take 14 (.one 15 .done)))))))))))))))), .c 4 [0, 1, 11, 168], .s (.take 0 (.take 1 (.take 2 (.take 3 (.take 4 (.take 5 (.take 6 (.take 7 (.take 8 (.take 9 (.take 10 (.take 11 (.take 12 (.one 13 (.take 14 (.one 15 .done))))))))))))))))] = some c_slices_partitionOrdered_int64_ := by kernel_rfl
abbrev f_math_bits_Len32 : FuncId := 99
def c_math_bits_Len32 : AF := ⟨1, 19, [.t 2],
  (.seq (.reg [⟨(some 2), none, .q (.mv (.c (.int .i64 0)))⟩])
  (.seq (.seq (.reg [⟨(some 3), none, .q (.mv (.t 0))⟩,
      ⟨(some 4), none, .q (.bin .geq (.t 3) (.c (.int .u32 65536)))⟩])
   (.cond (.t 4)
    (.seq (.reg [⟨(some 5), none, .q (.mv (.t 0))⟩,
       ⟨(some 6), none, .q (.bin .shr (.t 5) (.c (.int .u64 16)))⟩,
       ⟨(some 0), none, .q (.mv (.t 6))⟩])
    (.reg [⟨(some 2), none, .q (.mv (.c (.int .i64 16)))⟩]))
    .skip))
  (.seq (.seq (.reg [⟨(some 7), none, .q (.mv (.t 0))⟩,
      ⟨(some 8), none, .q (.bin .geq (.t 7) (.c (.int .u32 256)))⟩])
   (.cond (.t 8)
    (.seq (.reg [⟨(some 9), none, .q (.mv (.t 0))⟩,
       ⟨(some 10), none, .q (.bin .shr (.t 9) (.c (.int .u64 8)))⟩,
       ⟨(some 0), none, .q (.mv (.t 10))⟩])
    (.reg [⟨(some 11), none, .q (.mv (.t 2))⟩,
      ⟨(some 12), none, .q (.bin .add (.t 11) (.c (.int .i64 8)))⟩,
      ⟨(some 2), none, .q (.mv (.t 12))⟩]))
    .skip))
  (.seq (.reg [⟨(some 13), none, .q (.mv (.t 2))⟩,
     ⟨(some 14), none, .q (.mv (.t 0))⟩,
     ⟨(some 15), none, .q (.cvt .u8 (.t 14))⟩,
     ⟨(some 16), none, .q (.ixt (.c (.string ⟨#[0, 1, 2, 2, 3, 3, 3, 3, 4, 4, 4, 4, 4, 4, 4, 4, 5, 5, 5, 5, 5, 5, 5, 5, 5, 5, 5, 5, 5, 5, 5, 5, 6, 6, 6, 6, 6, 6, 6, 6, 6, 6, 6, 6, 6, 6, 6, 6, 6, 6, 6, 6, 6, 6, 6, 6, 6, 6, 6, 6, 6, 6, 6, 6, 7, 7, 7, 7, 7, 7, 7, 7, 7, 7, 7, 7, 7, 7, 7, 7, 7, 7, 7, 7, 7, 7, 7, 7, 7, 7, 7, 7, 7, 7, 7, 7, 7, 7, 7, 7, 7, 7, 7, 7, 7, 7, 7, 7, 7, 7, 7, 7, 7, 7, 7, 7, 7, 7, 7, 7, 7, 7, 7, 7, 7, 7, 7, 7, 8, 8, 8, 8, 8, 8, 8, 8, 8, 8, 8, 8, 8, 8, 8, 8, 8, 8, 8, 8, 8, 8, 8, 8, 8, 8, 8, 8, 8, 8, 8, 8, 8, 8, 8, 8, 8, 8, 8, 8, 8, 8, 8, 8, 8, 8, 8, 8, 8, 8, 8, 8, 8, 8, 8, 8, 8, 8, 8, 8, 8, 8, 8, 8, 8, 8, 8, 8, 8, 8, 8, 8, 8, 8, 8, 8, 8, 8, 8, 8, 8, 8, 8, 8, 8, 8, 8, 8, 8, 8, 8, 8, 8, 8, 8, 8, 8, 8, 8, 8, 8, 8, 8, 8, 8, 8, 8, 8, 8, 8, 8, 8, 8, 8, 8, 8, 8, 8, 8, 8, 8, 8, 8, 8, 8, 8, 8, 8]⟩)) (.t 15))⟩,
     ⟨(some 17), none, .q (.cvt .i64 (.t 16))⟩,
     ⟨(some 18), none, .q (.bin .add (.t 13) (.t 17))⟩,
     ⟨(some 2), none, .q (.mv (.t 18))⟩])
  .ret))))⟩
theorem l_math_bits_Len32 : lowF PA f_math_bits_Len32 1 [] = some c_math_bits_Len32 := by kernel_rfl
abbrev f_math_bits_Len64 : FuncId := 100
def c_math_bits_Len64 : AF := ⟨1, 25, [.t 2],
  (.seq (.reg [⟨(some 2), none, .q (.mv (.c (.int .i64 0)))⟩])
  (.seq (.seq (.reg [⟨(some 3), none, .q (.mv (.t 0))⟩,
      ⟨(some 4), none, .q (.bin .geq (.t 3) (.c (.int .u64 4294967296)))⟩])
   (.cond (.t 4)
    (.seq (.reg [⟨(some 5), none, .q (.mv (.t 0))⟩,
       ⟨(some 6), none, .q (.bin .shr (.t 5) (.c (.int .u64 32)))⟩,
       ⟨(some 0), none, .q (.mv (.t 6))⟩])
    (.reg [⟨(some 2), none, .q (.mv (.c (.int .i64 32)))⟩]))
    .skip))
  (.seq (.seq (.reg [⟨(some 7), none, .q (.mv (.t 0))⟩,
      ⟨(some 8), none, .q (.bin .geq (.t 7) (.c (.int .u64 65536)))⟩])
   (.cond (.t 8)
    (.seq (.reg [⟨(some 9), none, .q (.mv (.t 0))⟩,
       ⟨(some 10), none, .q (.bin .shr (.t 9) (.c (.int .u64 16)))⟩,
       ⟨(some 0), none, .q (.mv (.t 10))⟩])
    (.reg [⟨(some 11), none, .q (.mv (.t 2))⟩,
      ⟨(some 12), none, .q (.bin .add (.t 11) (.c (.int .i64 16)))⟩,
      ⟨(some 2), none, .q (.mv (.t 12))⟩]))
    .skip))
  (.seq (.seq (.reg [⟨(some 13), none, .q (.mv (.t 0))⟩,
      ⟨(some 14), none, .q (.bin .geq (.t 13) (.c (.int .u64 256)))⟩])
   (.cond (.t 14)
    (.seq (.reg [⟨(some 15), none, .q (.mv (.t 0))⟩,
       ⟨(some 16), none, .q (.bin .shr (.t 15) (.c (.int .u64 8)))⟩,
       ⟨(some 0), none, .q (.mv (.t 16))⟩])
    (.reg [⟨(some 17), none, .q (.mv (.t 2))⟩,
      ⟨(some 18), none, .q (.bin .add (.t 17) (.c (.int .i64 8)))⟩,
      ⟨(some 2), none, .q (.mv (.t 18))⟩]))
    .skip))
  (.seq (.reg [⟨(some 19), none, .q (.mv (.t 2))⟩,
     ⟨(some 20), none, .q (.mv (.t 0))⟩,
     ⟨(some 21), none, .q (.cvt .u8 (.t 20))⟩,
     ⟨(some 22), none, .q (.ixt (.c (.string ⟨#[0, 1, 2, 2, 3, 3, 3, 3, 4, 4, 4, 4, 4, 4, 4, 4, 5, 5, 5, 5, 5, 5, 5, 5, 5, 5, 5, 5, 5, 5, 5, 5, 6, 6, 6, 6, 6, 6, 6, 6, 6, 6, 6, 6, 6, 6, 6, 6, 6, 6, 6, 6, 6, 6, 6, 6, 6, 6, 6, 6, 6, 6, 6, 6, 7, 7, 7, 7, 7, 7, 7, 7, 7, 7, 7, 7, 7, 7, 7, 7, 7, 7, 7, 7, 7, 7, 7, 7, 7, 7, 7, 7, 7, 7, 7, 7, 7, 7, 7, 7, 7, 7, 7, 7, 7, 7, 7, 7, 7, 7, 7, 7, 7, 7, 7, 7, 7, 7, 7, 7, 7, 7, 7, 7, 7, 7, 7, 7, 8, 8, 8, 8, 8, 8, 8, 8, 8, 8, 8, 8, 8, 8, 8, 8, 8, 8, 8, 8, 8, 8, 8, 8, 8, 8, 8, 8, 8, 8, 8, 8, 8, 8, 8, 8, 8, 8, 8, 8, 8, 8, 8, 8, 8, 8, 8, 8, 8, 8, 8, 8, 8, 8, 8, 8, 8, 8, 8, 8, 8, 8, 8, 8, 8, 8, 8, 8, 8, 8, 8, 8, 8, 8, 8, 8, 8, 8, 8, 8, 8, 8, 8, 8, 8, 8, 8, 8, 8, 8, 8, 8, 8, 8, 8, 8, 8, 8, 8, 8, 8, 8, 8, 8, 8, 8, 8, 8, 8, 8, 8, 8, 8, 8, 8, 8, 8, 8, 8, 8, 8, 8, 8, 8, 8, 8, 8, 8]⟩)) (.t 21))⟩,
     ⟨(some 23), none, .q (.cvt .i64 (.t 22))⟩,
     ⟨(some 24), none, .q (.bin .add (.t 19) (.t 23))⟩,
     ⟨(some 2), none, .q (.mv (.t 24))⟩])
  .ret)))))⟩
theorem l_math_bits_Len64 : lowF PA f_math_bits_Len64 1 [] = some c_math_bits_Len64 := by kernel_rfl
abbrev f_spec_l01Ball : FuncId := 101
def c_spec_l01Ball : AF := ⟨3, 27, [.t 6],
  (.seq (.reg [⟨(some 3), none, .m (.box (.t 0))⟩,
     ⟨(some 6), none, .q (.mv (.c (.slice none 0 0)))⟩])
  (.seq (.reg [⟨(some 9), none, .m (.bsl 1 [])⟩,
     ⟨(some 7), none, .q (.mv (.t 9))⟩])
  (.seq (.seq (.reg [⟨(some 8), none, .q (.mv (.c (.int .i64 0)))⟩])
   (.block 0 (.loop [1, 2, 3, 7, 8] (.seq (.seq (.reg [⟨(some 10), none, .q (.mv (.t 8))⟩,
         ⟨(some 11), none, .q (.ld true 1 (.t 3))⟩,
         ⟨(some 12), none, .c (.call 55 [(.t 11)])⟩,
         ⟨(some 13), none, .q (.bin .lss (.t 10) (.t 12))⟩])
      (.cond (.t 13)
       .skip
       (.exit 0)))
     (.seq (.block 1 (.seq (.reg [⟨(some 16), none, .q (.ld true 1 (.t 3))⟩,
          ⟨(some 17), none, .q (.mv (.t 8))⟩,
          ⟨(some 18), none, .q (.mv (.t 1))⟩,
          ⟨(some 19), none, .c (.call 42 [(.t 16), (.t 17), (.t 18)])⟩,
          ⟨(some 20), none, .q (.mv (.t 2))⟩,
          ⟨(some 21), none, .q (.bin .leq (.t 19) (.t 20))⟩])
       (.cond (.t 21)
        (.reg [⟨(some 22), none, .q (.mv (.t 7))⟩,
          ⟨(some 23), none, .q (.mv (.t 8))⟩,
          ⟨(some 24), none, .m (.bsl 1 [(.t 23)])⟩,
          ⟨(some 25), none, .m (.app 1 8 (.t 22) (.t 24))⟩,
          ⟨(some 7), none, .q (.mv (.t 25))⟩])
        .skip)))
     (.reg [⟨(some 14), none, .q (.mv (.t 8))⟩,
       ⟨(some 15), none, .q (.bin .add (.t 14) (.c (.int .i64 1)))⟩,
       ⟨(some 8), none, .q (.mv (.t 15))⟩]))))))
  (.seq (.reg [⟨(some 26), none, .q (.mv (.t 7))⟩,
     ⟨(some 6), none, .q (.mv (.t 26))⟩])
  .ret))))⟩
theorem l_spec_l01Ball : lowF PA f_spec_l01Ball 3 [.k [1, 2, 3, 7, 8]] = some c_spec_l01Ball := by kernel_rfl
abbrev f_impl_IsSpace : FuncId := 102
def c_impl_IsSpace : AF := ⟨1, 35, [.t 2],
  (.seq (.reg [⟨(some 1), none, .m (.box (.t 0))⟩,
     ⟨(some 2), none, .q (.mv (.c (.bool false)))⟩])
  (.seq (.seq (.reg [⟨(some 6), none, .q (.fad 0 (.t 1))⟩,
      ⟨(some 7), none, .q (.ld false 1 (.t 6))⟩,
      ⟨(some 8), none, .q (.len (.t 7))⟩,
      ⟨(some 9), none, .q (.bin .lss (.t 8) (.c (.int .i64 1)))⟩,
      ⟨(some 10), none, .q (.mv (.t 9))⟩,
      ⟨(some 11), (some (10, false)), .q (.fad 0 (.t 1))⟩,
      ⟨(some 12), (some (10, false)), .q (.ld false 1 (.t 11))⟩,
      ⟨(some 13), (some (10, false)), .q (.len (.t 12))⟩,
      ⟨(some 14), (some (10, false)), .q (.bin .gtr (.t 13) (.c (.int .i64 8)))⟩,
      ⟨(some 15), none, .q (.pick (.t 10) (.c (.bool true)) (.t 14))⟩])
   (.cond (.t 15)
    (.seq (.reg [⟨(some 2), none, .q (.mv (.c (.bool false)))⟩])
    .ret)
    .skip))
  (.seq (.reg [⟨(some 3), none, .q (.mv (.c (.int .i64 1)))⟩])
  (.seq (.seq (.reg [⟨(some 16), none, .q (.fad 0 (.t 1))⟩,
      ⟨(some 17), none, .q (.ld false 1 (.t 16))⟩,
      ⟨(some 18), none, .q (.len (.t 17))⟩,
      ⟨(some 19), none, .q (.mv (.c (.int .i64 0)))⟩])
   (.block 0 (.loop [3, 17, 18, 19] (.seq (.reg [⟨(some 20), none, .q (.bin .lss (.t 19) (.t 18))⟩])
     (.seq (.cond (.t 20)
       .skip
       (.exit 0))
     (.seq (.block 1 (.seq (.reg [⟨(some 21), none, .q (.ixs 1 (.t 17) (.t 19))⟩,
          ⟨(some 22), none, .q (.ld false 1 (.t 21))⟩,
          ⟨(some 5), none, .q (.mv (.t 22))⟩])
       (.seq (.seq (.reg [⟨(some 23), none, .q (.mv (.t 5))⟩,
           ⟨(some 24), none, .q (.bin .lss (.t 23) (.c (.int .i64 2)))⟩,
           ⟨(some 25), none, .q (.mv (.t 24))⟩,
           ⟨(some 26), (some (25, false)), .q (.mv (.t 5))⟩,
           ⟨(some 27), (some (25, false)), .q (.bin .gtr (.t 26) (.c (.int .i64 4)))⟩,
           ⟨(some 28), none, .q (.pick (.t 25) (.c (.bool true)) (.t 27))⟩])
        (.cond (.t 28)
         (.seq (.reg [⟨(some 2), none, .q (.mv (.c (.bool false)))⟩])
         .ret)
         .skip))
       (.reg [⟨(some 29), none, .q (.mv (.t 3))⟩,
         ⟨(some 30), none, .q (.mv (.t 5))⟩,
         ⟨(some 31), none, .q (.bin .mul (.t 29) (.t 30))⟩,
         ⟨(some 3), none, .q (.mv (.t 31))⟩]))))
     (.reg [⟨(some 32), none, .q (.bin .add (.t 19) (.c (.int .i64 1)))⟩,
       ⟨(some 19), none, .q (.mv (.t 32))⟩])))))))
  (.seq (.reg [⟨(some 33), none, .q (.mv (.t 3))⟩,
     ⟨(some 34), none, .q (.bin .leq (.t 33) (.c (.int .i64 1024)))⟩,
     ⟨(some 2), none, .q (.mv (.t 34))⟩])
  .ret)))))⟩
theorem l_impl_IsSpace : lowF PA f_impl_IsSpace 1 [.k [3, 17, 18, 19]] = some c_impl_IsSpace := by kernel_rfl
abbrev f_impl_areWords : FuncId := 103
def c_impl_areWords : AF := ⟨2, 24, [.t 4],
  (.seq (.reg [⟨(some 2), none, .m (.box (.t 0))⟩,
     ⟨(some 4), none, .q (.mv (.c (.bool false)))⟩])
  (.seq (.reg [⟨(some 8), none, .q (.ld true 1 (.t 2))⟩,
     ⟨(some 9), none, .c (.call 69 [(.t 8)])⟩,
     ⟨(some 5), none, .q (.mv (.t 9))⟩])
  (.seq (.seq (.reg [⟨(some 10), none, .q (.mv (.t 1))⟩,
      ⟨(some 11), none, .q (.len (.t 10))⟩,
      ⟨(some 12), none, .q (.mv (.c (.int .i64 0)))⟩])
   (.block 0 (.loop [5, 10, 11, 12] (.seq (.reg [⟨(some 13), none, .q (.bin .lss (.t 12) (.t 11))⟩])
     (.seq (.cond (.t 13)
       .skip
       (.exit 0))
     (.seq (.block 1 (.seq (.reg [⟨(some 14), none, .q (.ixs 1 (.t 10) (.t 12))⟩,
          ⟨(some 15), none, .q (.ld false 1 (.t 14))⟩,
          ⟨(some 7), none, .q (.mv (.t 15))⟩])
       (.seq (.reg [⟨(some 16), none, .q (.mv (.t 7))⟩,
          ⟨(some 17), none, .q (.bin .lss (.t 16) (.c (.int .i64 0)))⟩,
          ⟨(some 18), none, .q (.mv (.t 17))⟩,
          ⟨(some 19), (some (18, false)), .q (.mv (.t 7))⟩,
          ⟨(some 20), (some (18, false)), .q (.mv (.t 5))⟩,
          ⟨(some 21), (some (18, false)), .q (.bin .geq (.t 19) (.t 20))⟩,
          ⟨(some 22), none, .q (.pick (.t 18) (.c (.bool true)) (.t 21))⟩])
       (.cond (.t 22)
        (.seq (.reg [⟨(some 4), none, .q (.mv (.c (.bool false)))⟩])
        .ret)
        .skip))))
     (.reg [⟨(some 23), none, .q (.bin .add (.t 12) (.c (.int .i64 1)))⟩,
       ⟨(some 12), none, .q (.mv (.t 23))⟩])))))))
  (.seq (.reg [⟨(some 4), none, .q (.mv (.c (.bool true)))⟩])
  .ret))))⟩
theorem l_impl_areWords : lowF PA f_impl_areWords 2 [.k [5, 10, 11, 12]] = some c_impl_areWords := by kernel_rfl
abbrev f_slices_IndexFunc___int64_int64_ : FuncId := 104
def c_slices_IndexFunc___int64_int64_ : AF := ⟨2, 19, [.t 4],
  (.seq (.reg [⟨(some 4), none, .q (.mv (.c (.int .i64 0)))⟩])
  (.seq (.seq (.reg [⟨(some 6), none, .q (.mv (.t 0))⟩,
      ⟨(some 7), none, .q (.len (.t 6))⟩,
      ⟨(some 8), none, .q (.mv (.c (.int .i64 0)))⟩])
   (.block 0 (.loop [0, 1, 7, 8] (.seq (.reg [⟨(some 9), none, .q (.bin .lss (.t 8) (.t 7))⟩])
     (.seq (.cond (.t 9)
       .skip
       (.exit 0))
     (.seq (.block 1 (.seq (.reg [⟨(some 10), none, .q (.mv (.t 8))⟩,
          ⟨(some 5), none, .q (.mv (.t 10))⟩])
       (.seq (.reg [⟨(some 11), none, .q (.mv (.t 1))⟩,
          ⟨(some 12), none, .q (.mv (.t 0))⟩,
          ⟨(some 13), none, .q (.mv (.t 5))⟩,
          ⟨(some 14), none, .q (.ixs 1 (.t 12) (.t 13))⟩,
          ⟨(some 15), none, .q (.ld false 1 (.t 14))⟩,
          ⟨(some 16), none, .c (.cav (.t 11) [(.t 15)])⟩])
       (.cond (.t 16)
        (.seq (.reg [⟨(some 17), none, .q (.mv (.t 5))⟩,
           ⟨(some 4), none, .q (.mv (.t 17))⟩])
        .ret)
        .skip))))
     (.reg [⟨(some 18), none, .q (.bin .add (.t 8) (.c (.int .i64 1)))⟩,
       ⟨(some 8), none, .q (.mv (.t 18))⟩])))))))
  (.seq (.reg [⟨(some 4), none, .q (.mv (.c (.int .i64 (-1))))⟩])
  .ret)))⟩
theorem l_slices_IndexFunc___int64_int64_ : lowF PA f_slices_IndexFunc___int64_int64_ 2 [.k [0, 1, 7, 8]] = some c_slices_IndexFunc___int64_int64_ := by kernel_rfl
abbrev f_slices_siftDownOrdered_int64_ : FuncId := 108
def c_slices_siftDownOrdered_int64_ : AF := ⟨4, 76, [],
  (.seq (.reg [⟨(some 10), none, .q (.mv (.t 1))⟩,
     ⟨(some 8), none, .q (.mv (.t 10))⟩])
  (.block 0 (.loop [0, 2, 3, 8, 76] (.block 1 (.seq (.reg [⟨(some 11), none, .q (.mv (.t 8))⟩,
        ⟨(some 12), none, .q (.bin .mul (.c (.int .i64 2)) (.t 11))⟩,
        ⟨(some 13), none, .q (.bin .add (.t 12) (.c (.int .i64 1)))⟩,
        ⟨(some 9), none, .q (.mv (.t 13))⟩])
     (.seq (.seq (.reg [⟨(some 14), none, .q (.mv (.t 9))⟩,
         ⟨(some 15), none, .q (.mv (.t 2))⟩,
         ⟨(some 16), none, .q (.bin .geq (.t 14) (.t 15))⟩])
      (.cond (.t 16)
       (.exit 0)
       .skip))
     (.seq (.seq (.sch (.take 0 ⟨(some 17), none, .q (.mv (.t 9))⟩ (.take 1 ⟨(some 18), none, .q (.bin .add (.t 17) (.c (.int .i64 1)))⟩ (.take 2 ⟨(some 19), none, .q (.mv (.t 2))⟩ (.take 3 ⟨(some 20), none, .q (.bin .lss (.t 18) (.t 19))⟩ (.take 4 ⟨(some 21), none, .q (.mv (.t 20))⟩ (.take 5 ⟨(some 22), (some (21, true)), .q (.mv (.t 0))⟩ (.take 6 ⟨(some 23), (some (21, true)), .q (.mv (.t 3))⟩ (.take 7 ⟨(some 24), (some (21, true)), .q (.mv (.t 9))⟩ (.take 8 ⟨(some 25), (some (21, true)), .q (.bin .add (.t 23) (.t 24))⟩ (.take 9 ⟨(some 26), (some (21, true)), .q (.ixs 1 (.t 22) (.t 25))⟩ (.take 10 ⟨(some 27), (some (21, true)), .q (.ld false 1 (.t 26))⟩ (.take 11 ⟨(some 28), (some (21, true)), .q (.mv (.t 0))⟩ (.take 12 ⟨(some 29), (some (21, true)), .q (.mv (.t 3))⟩ (.take 13 ⟨(some 30), (some (21, true)), .q (.mv (.t 9))⟩ (.take 14 ⟨(some 31), (some (21, true)), .q (.bin .add (.t 29) (.t 30))⟩ (.take 15 ⟨(some 32), (some (21, true)), .q (.bin .add (.t 31) (.c (.int .i64 1)))⟩ (.take 16 ⟨(some 33), (some (21, true)), .q (.ixs 1 (.t 28) (.t 32))⟩ (.take 17 ⟨(some 34), (some (21, true)), .q (.ld false 1 (.t 33))⟩ (.one ⟨(some 35), (some (21, true)), .c (.call 96 [(.t 27), (.t 34)])⟩ [17, 10] (.take 19 ⟨(some 36), none, .q (.pick (.t 21) (.t 35) (.c (.bool false)))⟩ .done)))))))))))))))))))))
      (.cond (.t 36)
       (.reg [⟨(some 37), none, .q (.mv (.t 9))⟩,
         ⟨(some 38), none, .q (.bin .add (.t 37) (.c (.int .i64 1)))⟩,
         ⟨(some 9), none, .q (.mv (.t 38))⟩])
       .skip))
     (.seq (.seq (.sch (.take 0 ⟨(some 39), none, .q (.mv (.t 0))⟩ (.take 1 ⟨(some 40), none, .q (.mv (.t 3))⟩ (.take 2 ⟨(some 41), none, .q (.mv (.t 8))⟩ (.take 3 ⟨(some 42), none, .q (.bin .add (.t 40) (.t 41))⟩ (.take 4 ⟨(some 43), none, .q (.ixs 1 (.t 39) (.t 42))⟩ (.take 5 ⟨(some 44), none, .q (.ld false 1 (.t 43))⟩ (.take 6 ⟨(some 45), none, .q (.mv (.t 0))⟩ (.take 7 ⟨(some 46), none, .q (.mv (.t 3))⟩ (.take 8 ⟨(some 47), none, .q (.mv (.t 9))⟩ (.take 9 ⟨(some 48), none, .q (.bin .add (.t 46) (.t 47))⟩ (.take 10 ⟨(some 49), none, .q (.ixs 1 (.t 45) (.t 48))⟩ (.take 11 ⟨(some 50), none, .q (.ld false 1 (.t 49))⟩ (.one ⟨(some 51), none, .c (.call 96 [(.t 44), (.t 50)])⟩ [11, 5] (.take 13 ⟨(some 52), none, .q (.un .not (.t 51))⟩ .done)))))))))))))))
      (.cond (.t 52)
       .ret
       .skip))
     (.seq (.sch (.take 0 ⟨(some 53), none, .q (.mv (.t 0))⟩ (.take 1 ⟨(some 54), none, .q (.mv (.t 3))⟩ (.take 2 ⟨(some 55), none, .q (.mv (.t 8))⟩ (.take 3 ⟨(some 56), none, .q (.bin .add (.t 54) (.t 55))⟩ (.take 4 ⟨(some 57), none, .q (.mv (.t 0))⟩ (.take 5 ⟨(some 58), none, .q (.mv (.t 3))⟩ (.take 6 ⟨(some 59), none, .q (.mv (.t 9))⟩ (.take 7 ⟨(some 60), none, .q (.bin .add (.t 58) (.t 59))⟩ (.take 8 ⟨(some 61), none, .q (.mv (.t 0))⟩ (.take 9 ⟨(some 62), none, .q (.mv (.t 3))⟩ (.take 10 ⟨(some 63), none, .q (.mv (.t 9))⟩ (.take 11 ⟨(some 64), none, .q (.bin .add (.t 62) (.t 63))⟩ (.take 12 ⟨(some 65), none, .q (.ixs 1 (.t 61) (.t 64))⟩ (.take 13 ⟨(some 66), none, .q (.ld false 1 (.t 65))⟩ (.take 14 ⟨(some 67), none, .q (.mv (.t 0))⟩ (.take 15 ⟨(some 68), none, .q (.mv (.t 3))⟩ (.take 16 ⟨(some 69), none, .q (.mv (.t 8))⟩ (.take 17 ⟨(some 70), none, .q (.bin .add (.t 68) (.t 69))⟩ (.take 18 ⟨(some 71), none, .q (.ixs 1 (.t 67) (.t 70))⟩ (.take 19 ⟨(some 72), none, .q (.ld false 1 (.t 71))⟩ (.take 20 ⟨(some 73), none, .q (.ixs 1 (.t 53) (.t 56))⟩ (.one ⟨none, none, .m (.st false 1 (.t 73) (.t 66))⟩ [19, 13] (.take 22 ⟨(some 74), none, .q (.ixs 1 (.t 57) (.t 60))⟩ (.one ⟨none, none, .m (.st false 1 (.t 74) (.t 72))⟩ [19, 13] .done)))))))))))))))))))))))))
     (.reg [⟨(some 75), none, .q (.mv (.t 9))⟩,
       ⟨(some 8), none, .q (.mv (.t 75))⟩]))))))))))⟩
theorem l_slices_siftDownOrdered_int64_ : lowF PA f_slices_siftDownOrdered_int64_ 4 [.k [0, 2, 3, 8, 76], .s (.take 0 (.take 1 (.take 2 (.take 3 (.take 4 (.take 5 (.take 6 (.take 7 (.take 8 (.take 9 (.take 10 (.take 11 (.take 12 (.take 13 (.take 14 (.take 15 (.take 16 (.take 17 (.one 18 (.take 19 .done)))))))))))))))))))), .s (.take 0 (.take 1 (.take 2 (.take 3 (.take 4 (.take 5 (.take 6 (.take 7 (.take 8 (.take 9 (.take 10 (.take 11 (.one 12 (.take 13 .done)))))))))))))), .s (.take 0 (.take 1 (.take 2 (.take 3 (.take 4 (.take 5 (.take 6 (.take 7 (.take 8 (.take 9 (.take 10 (.take 11 (.take 12 (.take 13 (.take 14 (.take 15 (.take 16 (.take 17 (.take 18 (.take 19 (.take 20 (.one 21 (.take 22 (.one 23 .done))))))))))))))))))))))))] = some c_slices_siftDownOrdered_int64_ := by kernel_rfl
abbrev f_slices_nextPowerOfTwo : FuncId := 109
def c_slices_nextPowerOfTwo : AF := ⟨1, 7, [.t 2],
  (.seq (.reg [⟨(some 2), none, .q (.mv (.c (.int .u64 0)))⟩])
  (.seq (.reg [⟨(some 3), none, .q (.mv (.t 0))⟩,
     ⟨(some 4), none, .q (.cvt .u64 (.t 3))⟩,
     ⟨(some 5), none, .c (.call 75 [(.t 4)])⟩,
     ⟨(some 6), none, .q (.bin .shl (.c (.int .u64 1)) (.t 5))⟩,
     ⟨(some 2), none, .q (.mv (.t 6))⟩])
  .ret))⟩
theorem l_slices_nextPowerOfTwo : lowF PA f_slices_nextPowerOfTwo 1 [] = some c_slices_nextPowerOfTwo := by kernel_rfl
abbrev f___slices_xorshift__Next : FuncId := 110
def c___slices_xorshift__Next : AF := ⟨1, 33, [.t 2],
  (.seq (.reg [⟨(some 2), none, .q (.mv (.c (.int .u64 0)))⟩])
  (.seq (.sch (.take 0 ⟨(some 3), none, .q (.mv (.t 0))⟩ (.take 1 ⟨(some 4), none, .q (.nlc (.t 3))⟩ (.take 2 ⟨(some 5), none, .q (.ld false 1 (.t 4))⟩ (.take 3 ⟨(some 6), none, .q (.mv (.t 0))⟩ (.take 4 ⟨(some 7), none, .q (.nlc (.t 6))⟩ (.take 5 ⟨(some 8), none, .q (.ld false 1 (.t 7))⟩ (.take 6 ⟨(some 9), none, .q (.bin .shl (.t 8) (.c (.int .u64 13)))⟩ (.take 7 ⟨(some 10), none, .q (.bin .xor (.t 5) (.t 9))⟩ (.take 8 ⟨(some 11), none, .q (.nlc (.t 3))⟩ (.one ⟨none, none, .m (.st false 1 (.t 11) (.t 10))⟩ [5, 2] .done)))))))))))
  (.seq (.sch (.take 0 ⟨(some 12), none, .q (.mv (.t 0))⟩ (.take 1 ⟨(some 13), none, .q (.nlc (.t 12))⟩ (.take 2 ⟨(some 14), none, .q (.ld false 1 (.t 13))⟩ (.take 3 ⟨(some 15), none, .q (.mv (.t 0))⟩ (.take 4 ⟨(some 16), none, .q (.nlc (.t 15))⟩ (.take 5 ⟨(some 17), none, .q (.ld false 1 (.t 16))⟩ (.take 6 ⟨(some 18), none, .q (.bin .shr (.t 17) (.c (.int .u64 7)))⟩ (.take 7 ⟨(some 19), none, .q (.bin .xor (.t 14) (.t 18))⟩ (.take 8 ⟨(some 20), none, .q (.nlc (.t 12))⟩ (.one ⟨none, none, .m (.st false 1 (.t 20) (.t 19))⟩ [5, 2] .done)))))))))))
  (.seq (.sch (.take 0 ⟨(some 21), none, .q (.mv (.t 0))⟩ (.take 1 ⟨(some 22), none, .q (.nlc (.t 21))⟩ (.take 2 ⟨(some 23), none, .q (.ld false 1 (.t 22))⟩ (.take 3 ⟨(some 24), none, .q (.mv (.t 0))⟩ (.take 4 ⟨(some 25), none, .q (.nlc (.t 24))⟩ (.take 5 ⟨(some 26), none, .q (.ld false 1 (.t 25))⟩ (.take 6 ⟨(some 27), none, .q (.bin .shl (.t 26) (.c (.int .u64 17)))⟩ (.take 7 ⟨(some 28), none, .q (.bin .xor (.t 23) (.t 27))⟩ (.take 8 ⟨(some 29), none, .q (.nlc (.t 21))⟩ (.one ⟨none, none, .m (.st false 1 (.t 29) (.t 28))⟩ [5, 2] .done)))))))))))
  (.seq (.reg [⟨(some 30), none, .q (.mv (.t 0))⟩,
     ⟨(some 31), none, .q (.nlc (.t 30))⟩,
     ⟨(some 32), none, .q (.ld false 1 (.t 31))⟩,
     ⟨(some 2), none, .q (.mv (.t 32))⟩])
  .ret)))))⟩
theorem l___slices_xorshift__Next : lowF PA f___slices_xorshift__Next 1 [.s (.take 0 (.take 1 (.take 2 (.take 3 (.take 4 (.take 5 (.take 6 (.take 7 (.take 8 (.one 9 .done)))))))))), .s (.take 0 (.take 1 (.take 2 (.take 3 (.take 4 (.take 5 (.take 6 (.take 7 (.take 8 (.one 9 .done)))))))))), .s (.take 0 (.take 1 (.take 2 (.take 3 (.take 4 (.take 5 (.take 6 (.take 7 (.take 8 (.one 9 .done))))))))))] = some c___slices_xorshift__Next := by kernel_rfl
abbrev f_slices_medianAdjacentOrdered_int64_ : FuncId := 111
def c_slices_medianAdjacentOrdered_int64_ : AF := ⟨3, 15, [.t 6],
  (.seq (.reg [⟨(some 6), none, .q (.mv (.c (.int .i64 0)))⟩])
  (.seq (.reg [⟨(some 7), none, .q (.mv (.t 0))⟩,
     ⟨(some 8), none, .q (.mv (.t 1))⟩,
     ⟨(some 9), none, .q (.bin .sub (.t 8) (.c (.int .i64 1)))⟩,
     ⟨(some 10), none, .q (.mv (.t 1))⟩,
     ⟨(some 11), none, .q (.mv (.t 1))⟩,
     ⟨(some 12), none, .q (.bin .add (.t 11) (.c (.int .i64 1)))⟩,
     ⟨(some 13), none, .q (.mv (.t 2))⟩,
     ⟨(some 14), none, .c (.call 112 [(.t 7), (.t 9), (.t 10), (.t 12), (.t 13)])⟩,
     ⟨(some 6), none, .q (.mv (.t 14))⟩])
  .ret))⟩
theorem l_slices_medianAdjacentOrdered_int64_ : lowF PA f_slices_medianAdjacentOrdered_int64_ 3 [] = some c_slices_medianAdjacentOrdered_int64_ := by kernel_rfl
abbrev f_slices_medianOrdered_int64_ : FuncId := 112
def c_slices_medianOrdered_int64_ : AF := ⟨5, 36, [.t 10],
  (.seq (.reg [⟨(some 10), none, .q (.mv (.c (.int .i64 0)))⟩])
  (.seq (.reg [⟨(some 12), none, .q (.mv (.t 0))⟩,
     ⟨(some 13), none, .q (.mv (.t 1))⟩,
     ⟨(some 14), none, .q (.mv (.t 2))⟩,
     ⟨(some 15), none, .q (.mv (.t 4))⟩,
     ⟨(some 16), none, .c (.call 114 [(.t 12), (.t 13), (.t 14), (.t 15)])⟩,
     ⟨(some 11), none, .q (.mv (.t 16))⟩,
     ⟨(some 17), none, .q (.ext (.t 11) 0)⟩,
     ⟨(some 18), none, .q (.ext (.t 11) 1)⟩,
     ⟨(some 1), none, .q (.mv (.t 17))⟩,
     ⟨(some 2), none, .q (.mv (.t 18))⟩])
  (.seq (.reg [⟨(some 20), none, .q (.mv (.t 0))⟩,
     ⟨(some 21), none, .q (.mv (.t 2))⟩,
     ⟨(some 22), none, .q (.mv (.t 3))⟩,
     ⟨(some 23), none, .q (.mv (.t 4))⟩,
     ⟨(some 24), none, .c (.call 114 [(.t 20), (.t 21), (.t 22), (.t 23)])⟩,
     ⟨(some 19), none, .q (.mv (.t 24))⟩,
     ⟨(some 25), none, .q (.ext (.t 19) 0)⟩,
     ⟨(some 26), none, .q (.ext (.t 19) 1)⟩,
     ⟨(some 2), none, .q (.mv (.t 25))⟩,
     ⟨(some 3), none, .q (.mv (.t 26))⟩])
  (.seq (.reg [⟨(some 28), none, .q (.mv (.t 0))⟩,
     ⟨(some 29), none, .q (.mv (.t 1))⟩,
     ⟨(some 30), none, .q (.mv (.t 2))⟩,
     ⟨(some 31), none, .q (.mv (.t 4))⟩,
     ⟨(some 32), none, .c (.call 114 [(.t 28), (.t 29), (.t 30), (.t 31)])⟩,
     ⟨(some 27), none, .q (.mv (.t 32))⟩,
     ⟨(some 33), none, .q (.ext (.t 27) 0)⟩,
     ⟨(some 34), none, .q (.ext (.t 27) 1)⟩,
     ⟨(some 1), none, .q (.mv (.t 33))⟩,
     ⟨(some 2), none, .q (.mv (.t 34))⟩])
  (.seq (.reg [⟨(some 35), none, .q (.mv (.t 2))⟩,
     ⟨(some 10), none, .q (.mv (.t 35))⟩])
  .ret)))))⟩
theorem l_slices_medianOrdered_int64_ : lowF PA f_slices_medianOrdered_int64_ 5 [] = some c_slices_medianOrdered_int64_ := by kernel_rfl
abbrev f_cmp_isNaN_int64_ : FuncId := 113
def c_cmp_isNaN_int64_ : AF := ⟨1, 6, [.t 2],
  (.seq (.reg [⟨(some 2), none, .q (.mv (.c (.bool false)))⟩])
  (.seq (.reg [⟨(some 3), none, .q (.mv (.t 0))⟩,
     ⟨(some 4), none, .q (.mv (.t 0))⟩,
     ⟨(some 5), none, .q (.bin .neq (.t 3) (.t 4))⟩,
     ⟨(some 2), none, .q (.mv (.t 5))⟩])
  .ret))⟩
theorem l_cmp_isNaN_int64_ : lowF PA f_cmp_isNaN_int64_ 1 [] = some c_cmp_isNaN_int64_ := by kernel_rfl
abbrev f_slices_order2Ordered_int64_ : FuncId := 114
def c_slices_order2Ordered_int64_ : AF := ⟨4, 28, [.t 8, .t 9],
  (.seq (.reg [⟨(some 8), none, .q (.mv (.c (.int .i64 0)))⟩,
     ⟨(some 9), none, .q (.mv (.c (.int .i64 0)))⟩])
  (.seq (.seq (.sch (.take 0 ⟨(some 10), none, .q (.mv (.t 0))⟩ (.take 1 ⟨(some 11), none, .q (.mv (.t 2))⟩ (.take 2 ⟨(some 12), none, .q (.ixs 1 (.t 10) (.t 11))⟩ (.take 3 ⟨(some 13), none, .q (.ld false 1 (.t 12))⟩ (.take 4 ⟨(some 14), none, .q (.mv (.t 0))⟩ (.take 5 ⟨(some 15), none, .q (.mv (.t 1))⟩ (.take 6 ⟨(some 16), none, .q (.ixs 1 (.t 14) (.t 15))⟩ (.take 7 ⟨(some 17), none, .q (.ld false 1 (.t 16))⟩ (.one ⟨(some 18), none, .c (.call 96 [(.t 13), (.t 17)])⟩ [7, 3] .done))))))))))
   (.cond (.t 18)
    (.seq (.reg [⟨(some 19), none, .q (.mv (.t 3))⟩,
       ⟨(some 20), none, .q (.nlc (.t 19))⟩,
       ⟨(some 21), none, .q (.ld false 1 (.t 20))⟩,
       ⟨(some 22), none, .q (.bin .add (.t 21) (.c (.int .i64 1)))⟩,
       ⟨(some 23), none, .q (.nlc (.t 19))⟩,
       ⟨none, none, .m (.st false 1 (.t 23) (.t 22))⟩])
    (.seq (.reg [⟨(some 24), none, .q (.mv (.t 2))⟩,
       ⟨(some 25), none, .q (.mv (.t 1))⟩,
       ⟨(some 8), none, .q (.mv (.t 24))⟩,
       ⟨(some 9), none, .q (.mv (.t 25))⟩])
    .ret))
    .skip))
  (.seq (.reg [⟨(some 26), none, .q (.mv (.t 1))⟩,
     ⟨(some 27), none, .q (.mv (.t 2))⟩,
     ⟨(some 8), none, .q (.mv (.t 26))⟩,
     ⟨(some 9), none, .q (.mv (.t 27))⟩])
  .ret)))⟩
theorem l_slices_order2Ordered_int64_ : lowF PA f_slices_order2Ordered_int64_ 4 [.s (.take 0 (.take 1 (.take 2 (.take 3 (.take 4 (.take 5 (.take 6 (.take 7 (.one 8 .done)))))))))] = some c_slices_order2Ordered_int64_ := by kernel_rfl
def sort_ren : Go.Shelf.Ren := ⟨fun | 5 => 51 | 8 => 75 | 7 => 74 | 19 => 99 | 20 => 100 | 10 => 90 | 11 => 91 | 12 => 92 | 13 => 93 | 14 => 94 | 15 => 95 | 16 => 96 | 17 => 97 | 18 => 98 | 30 => 108 | 31 => 109 | 32 => 110 | 33 => 111 | 34 => 112 | 35 => 113 | 40 => 114 | n => n, fun | 23 => 22 | 25 => 2 | 3 => 3 | 32 => 80 | 22 => 22 | 0 => 0 | 44 => 97 | 46 => 99 | 4 => 4 | 36 => 89 | 35 => 88 | 41 => 94 | 5 => 5 | 9 => 9 | 53 => 107 | 57 => 111 | 63 => 113 | 64 => 114 | n => n, fun | n => n⟩
theorem sort_lay : Go.Proofs.SlLaysM.n5 Try.prog sort_ren := {
  mixed := by kernel_rfl
  f5 := ⟨Try.f51.name, by decide, Try.func51.trans (congrArg some (by kernel_rfl))⟩
  f7 := ⟨Try.f74.name, by decide, Try.func74.trans (congrArg some (by kernel_rfl))⟩
  f8 := Try.func75.trans (congrArg some (by kernel_rfl))
  f10 := ⟨Try.f90.name, by decide, Try.func90.trans (congrArg some (by kernel_rfl))⟩
  f11 := ⟨Try.f91.name, by decide, Try.func91.trans (congrArg some (by kernel_rfl))⟩
  f12 := ⟨Try.f92.name, by decide, Try.func92.trans (congrArg some (by kernel_rfl))⟩
  f13 := ⟨Try.f93.name, by decide, Try.func93.trans (congrArg some (by kernel_rfl))⟩
  f14 := ⟨Try.f94.name, by decide, Try.func94.trans (congrArg some (by kernel_rfl))⟩
  f15 := ⟨Try.f95.name, by decide, Try.func95.trans (congrArg some (by kernel_rfl))⟩
  f16 := ⟨Try.f96.name, by decide, Try.func96.trans (congrArg some (by kernel_rfl))⟩
  f17 := ⟨Try.f97.name, by decide, Try.func97.trans (congrArg some (by kernel_rfl))⟩
  f18 := ⟨Try.f98.name, by decide, Try.func98.trans (congrArg some (by kernel_rfl))⟩
  f19 := Try.func99.trans (congrArg some (by kernel_rfl))
  f20 := Try.func100.trans (congrArg some (by kernel_rfl))
  f30 := ⟨Try.f108.name, by decide, Try.func108.trans (congrArg some (by kernel_rfl))⟩
  f31 := Try.func109.trans (congrArg some (by kernel_rfl))
  f32 := Try.func110.trans (congrArg some (by kernel_rfl))
  f33 := ⟨Try.f111.name, by decide, Try.func111.trans (congrArg some (by kernel_rfl))⟩
  f34 := ⟨Try.f112.name, by decide, Try.func112.trans (congrArg some (by kernel_rfl))⟩
  f35 := ⟨Try.f113.name, by decide, Try.func113.trans (congrArg some (by kernel_rfl))⟩
  f40 := ⟨Try.f114.name, by decide, Try.func114.trans (congrArg some (by kernel_rfl))⟩
  t0 := Try.underlying0
  a0 := Try.isAgg0
  z0 := Try.sizeOf0
  v0 := Try.zeroValue0
  t3 := Try.underlying3
  a3 := Try.isAgg3
  z3 := Try.sizeOf3
  v3 := Try.zeroValue3
  t4 := Try.underlying4
  a4 := Try.isAgg4
  z4 := Try.sizeOf4
  v4 := Try.zeroValue4
  t5 := Try.underlying5
  a5 := Try.isAgg5
  z5 := Try.sizeOf5
  v5 := Try.zeroValue5
  t9 := Try.underlying9
  a9 := Try.isAgg9
  z9 := Try.sizeOf9
  v9 := Try.zeroValue9
  t22 := Try.underlying22
  a22 := Try.isAgg22
  z22 := Try.sizeOf22
  v22 := Try.zeroValue22
  t23 := Try.underlying22
  a23 := Try.isAgg22
  z23 := Try.sizeOf22
  v23 := Try.zeroValue22
  t25 := Try.underlying2
  a25 := Try.isAgg2
  z25 := Try.sizeOf2
  v25 := Try.zeroValue2
  t32 := Try.underlying80
  a32 := Try.isAgg80
  z32 := Try.sizeOf80
  v32 := Try.zeroValue80
  t35 := Try.underlying88
  a35 := Try.isAgg88
  z35 := Try.sizeOf88
  v35 := Try.zeroValue88
  t36 := Try.underlying89
  a36 := Try.isAgg89
  z36 := Try.sizeOf89
  v36 := Try.zeroValue89
  t41 := Try.underlying94
  a41 := Try.isAgg94
  z41 := Try.sizeOf94
  v41 := Try.zeroValue94
  t44 := Try.underlying97
  a44 := Try.isAgg97
  z44 := Try.sizeOf97
  v44 := Try.zeroValue97
  t46 := Try.underlying99
  a46 := Try.isAgg99
  z46 := Try.sizeOf99
  v46 := Try.zeroValue99
  t53 := Try.underlying107
  a53 := Try.isAgg107
  z53 := Try.sizeOf107
  v53 := Try.zeroValue107
  t57 := Try.underlying111
  a57 := Try.isAgg111
  z57 := Try.sizeOf111
  v57 := Try.zeroValue111
  t63 := Try.underlying113
  a63 := Try.isAgg113
  z63 := Try.sizeOf113
  v63 := Try.zeroValue113
  t64 := Try.underlying114
  a64 := Try.isAgg114
  z64 := Try.sizeOf114
  v64 := Try.zeroValue114 }
theorem sort_calls : SortCalls PA f_slices_Sort___int64_int64_ := fun blk off cap zs w h1 h2 h3 => AnyM.slices_Sort_int sort_lay blk off cap zs w h1 h2 h3
end Go.Proofs.Ytmaipkohkfikeaa.Va
