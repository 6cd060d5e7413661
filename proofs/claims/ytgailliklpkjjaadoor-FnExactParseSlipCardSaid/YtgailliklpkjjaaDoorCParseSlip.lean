/- The code of the functions that FnExactParseSlip reaches, laid out for a walk: each is what the lowering makes of the program's own text. Condition: none. -/
import Derived.Test.YtgailliklpkjjaaDoorVa2
import Derived.Test.YtgailliklpkjjaaDoorProg
import Derived.KernelRfl
set_option linter.all false
set_option linter.unusedSimpArgs false
set_option linter.unusedVariables false
namespace Go.Proofs.YtgailliklpkjjaaDoor.Va
open Go
noncomputable abbrev PA : Program := Go.Proofs.Tryd.prog
abbrev f_laws_FnExactParseSlip : FuncId := 3
def c_laws_FnExactParseSlip : AF := ⟨2, 104, [.t 4],
  (.seq (.reg [⟨(some 2), none, .m (.box (.t 0))⟩,
     ⟨(some 4), none, .q (.mv (.c (.bool false)))⟩])
  (.seq (.seq (.reg [⟨(some 16), none, .q (.mv (.t 1))⟩,
      ⟨(some 17), none, .q (.lns (.t 16))⟩,
      ⟨(some 18), none, .q (.bin .gtr (.t 17) (.c (.int .i64 1048576)))⟩])
   (.cond (.t 18)
    (.seq (.reg [⟨(some 4), none, .q (.mv (.c (.bool true)))⟩])
    .ret)
    .skip))
  (.seq (.reg [⟨(some 5), none, .q (.mv (.c (.int .i64 1048576)))⟩])
  (.seq (.reg [⟨(some 19), none, .q (.ld true 1 (.t 2))⟩,
     ⟨(some 20), none, .q (.mv (.t 5))⟩,
     ⟨(some 21), none, .c (.call 4 [(.t 19), (.t 20)])⟩,
     ⟨(some 5), none, .q (.mv (.t 21))⟩])
  (.seq (.seq (.reg [⟨(some 22), none, .q (.mv (.t 5))⟩,
      ⟨(some 23), none, .q (.bin .lss (.t 22) (.c (.int .i64 0)))⟩])
   (.cond (.t 23)
    (.seq (.reg [⟨(some 4), none, .q (.mv (.c (.bool true)))⟩])
    .ret)
    .skip))
  (.seq (.reg [⟨(some 25), none, .q (.ld true 1 (.t 2))⟩,
     ⟨(some 26), none, .c (.call 6 [(.t 25)])⟩,
     ⟨(some 27), none, .q (.mv (.t 1))⟩,
     ⟨(some 28), none, .c (.call 5 [(.t 26), (.t 27)])⟩,
     ⟨(some 24), none, .q (.mv (.t 28))⟩,
     ⟨(some 29), none, .q (.ext (.t 24) 0)⟩,
     ⟨(some 30), none, .q (.ext (.t 24) 1)⟩,
     ⟨(some 6), none, .q (.mv (.t 29))⟩,
     ⟨(some 7), none, .q (.mv (.t 30))⟩])
  (.seq (.reg [⟨(some 31), none, .q (.ld true 1 (.t 2))⟩,
     ⟨(some 32), none, .c (.call 6 [(.t 31)])⟩,
     ⟨(some 8), none, .m (.alloc [(.v (.slice none 0 0))])⟩,
     ⟨none, none, .m (.st true 1 (.t 8) (.t 32))⟩])
  (.seq (.reg [⟨(some 34), none, .q (.ld true 1 (.t 8))⟩,
     ⟨(some 35), none, .q (.mv (.t 1))⟩,
     ⟨(some 36), none, .c (.call 7 [(.t 34), (.t 35)])⟩,
     ⟨(some 33), none, .q (.mv (.t 36))⟩,
     ⟨(some 37), none, .q (.ext (.t 33) 0)⟩,
     ⟨(some 38), none, .q (.ext (.t 33) 1)⟩,
     ⟨(some 9), none, .q (.mv (.t 37))⟩,
     ⟨(some 10), none, .q (.mv (.t 38))⟩])
  (.seq (.seq (.reg [⟨(some 39), none, .q (.mv (.t 9))⟩,
      ⟨(some 40), none, .q (.mv (.t 6))⟩,
      ⟨(some 41), none, .c (.call 8 [(.t 39), (.t 40)])⟩,
      ⟨(some 42), none, .q (.un .not (.t 41))⟩,
      ⟨(some 43), none, .q (.mv (.t 42))⟩,
      ⟨(some 44), (some (43, false)), .q (.mv (.t 10))⟩,
      ⟨(some 45), (some (43, false)), .q (.mv (.t 7))⟩,
      ⟨(some 46), (some (43, false)), .q (.bin .neq (.t 44) (.t 45))⟩,
      ⟨(some 47), none, .q (.pick (.t 43) (.c (.bool true)) (.t 46))⟩])
   (.cond (.t 47)
    (.seq (.reg [⟨(some 4), none, .q (.mv (.c (.bool false)))⟩])
    .ret)
    .skip))
  (.seq (.seq (.sch (.take 0 ⟨(some 48), none, .q (.ld true 1 (.t 8))⟩ (.take 1 ⟨(some 49), none, .q (.ld true 1 (.t 2))⟩ (.one ⟨(some 50), none, .c (.call 6 [(.t 49)])⟩ [1] (.one ⟨(some 51), none, .c (.call 9 [(.t 48), (.t 50)])⟩ [0] (.take 4 ⟨(some 52), none, .q (.un .not (.t 51))⟩ .done))))))
   (.cond (.t 52)
    (.seq (.reg [⟨(some 4), none, .q (.mv (.c (.bool false)))⟩])
    .ret)
    .skip))
  (.seq (.reg [⟨(some 11), none, .q (.mv (.c (.int .i64 1)))⟩])
  (.seq (.reg [⟨(some 53), none, .q (.ld true 1 (.t 8))⟩,
     ⟨(some 54), none, .q (.mv (.t 11))⟩,
     ⟨(some 55), none, .c (.call 10 [(.t 53), (.t 54)])⟩,
     ⟨(some 11), none, .q (.mv (.t 55))⟩])
  (.seq (.seq (.reg [⟨(some 56), none, .q (.mv (.t 11))⟩,
      ⟨(some 57), none, .q (.bin .lss (.t 56) (.c (.int .i64 0)))⟩,
      ⟨(some 58), none, .q (.mv (.t 57))⟩,
      ⟨(some 59), (some (58, false)), .q (.mv (.t 9))⟩,
      ⟨(some 60), (some (58, false)), .q (.mv (.t 6))⟩,
      ⟨(some 61), (some (58, false)), .c (.call 8 [(.t 59), (.t 60)])⟩,
      ⟨(some 62), (some (58, false)), .q (.un .not (.t 61))⟩,
      ⟨(some 63), none, .q (.pick (.t 58) (.c (.bool true)) (.t 62))⟩,
      ⟨(some 64), none, .q (.mv (.t 63))⟩,
      ⟨(some 65), (some (64, false)), .q (.mv (.t 10))⟩,
      ⟨(some 66), (some (64, false)), .q (.mv (.t 7))⟩,
      ⟨(some 67), (some (64, false)), .q (.bin .neq (.t 65) (.t 66))⟩,
      ⟨(some 68), none, .q (.pick (.t 64) (.c (.bool true)) (.t 67))⟩])
   (.cond (.t 68)
    (.seq (.reg [⟨(some 4), none, .q (.mv (.c (.bool false)))⟩])
    .ret)
    .skip))
  (.seq (.reg [⟨(some 12), none, .q (.mv (.c (.int .i64 1)))⟩])
  (.seq (.reg [⟨(some 69), none, .q (.mv (.t 9))⟩,
     ⟨(some 70), none, .q (.mv (.t 12))⟩,
     ⟨(some 71), none, .c (.call 11 [(.t 69), (.t 70)])⟩,
     ⟨(some 12), none, .q (.mv (.t 71))⟩])
  (.seq (.reg [⟨(some 13), none, .q (.mv (.c (.int .i64 1)))⟩])
  (.seq (.reg [⟨(some 72), none, .q (.mv (.t 9))⟩,
     ⟨(some 73), none, .q (.mv (.t 13))⟩,
     ⟨(some 74), none, .c (.call 12 [(.t 72), (.t 73)])⟩,
     ⟨(some 13), none, .q (.mv (.t 74))⟩])
  (.seq (.seq (.reg [⟨(some 75), none, .q (.mv (.t 13))⟩,
      ⟨(some 76), none, .q (.bin .lss (.t 75) (.c (.int .i64 0)))⟩])
   (.cond (.t 76)
    (.seq (.reg [⟨(some 4), none, .q (.mv (.c (.bool false)))⟩])
    .ret)
    .skip))
  (.seq (.seq (.reg [⟨(some 77), none, .q (.mv (.t 13))⟩,
      ⟨(some 78), none, .q (.mv (.t 12))⟩,
      ⟨(some 79), none, .q (.bin .neq (.t 77) (.t 78))⟩])
   (.cond (.t 79)
    (.seq (.reg [⟨(some 4), none, .q (.mv (.c (.bool false)))⟩])
    .ret)
    .skip))
  (.seq (.reg [⟨(some 81), none, .q (.ld true 1 (.t 2))⟩,
     ⟨(some 82), none, .c (.call 6 [(.t 81)])⟩,
     ⟨(some 83), none, .q (.mv (.t 1))⟩,
     ⟨(some 84), none, .c (.call 7 [(.t 82), (.t 83)])⟩,
     ⟨(some 80), none, .q (.mv (.t 84))⟩,
     ⟨(some 85), none, .q (.ext (.t 80) 0)⟩,
     ⟨(some 86), none, .q (.ext (.t 80) 1)⟩,
     ⟨(some 14), none, .q (.mv (.t 85))⟩,
     ⟨(some 15), none, .q (.mv (.t 86))⟩])
  (.seq (.seq (.reg [⟨(some 87), none, .q (.mv (.t 14))⟩,
      ⟨(some 88), none, .q (.mv (.t 6))⟩,
      ⟨(some 89), none, .c (.call 8 [(.t 87), (.t 88)])⟩,
      ⟨(some 90), none, .q (.un .not (.t 89))⟩,
      ⟨(some 91), none, .q (.mv (.t 90))⟩,
      ⟨(some 92), (some (91, false)), .q (.mv (.t 15))⟩,
      ⟨(some 93), (some (91, false)), .q (.mv (.t 7))⟩,
      ⟨(some 94), (some (91, false)), .q (.bin .neq (.t 92) (.t 93))⟩,
      ⟨(some 95), none, .q (.pick (.t 91) (.c (.bool true)) (.t 94))⟩])
   (.cond (.t 95)
    (.seq (.reg [⟨(some 4), none, .q (.mv (.c (.bool false)))⟩])
    .ret)
    .skip))
  (.seq (.reg [⟨(some 13), none, .q (.mv (.c (.int .i64 1)))⟩])
  (.seq (.reg [⟨(some 96), none, .q (.mv (.t 9))⟩,
     ⟨(some 97), none, .q (.mv (.t 13))⟩,
     ⟨(some 98), none, .c (.call 12 [(.t 96), (.t 97)])⟩,
     ⟨(some 13), none, .q (.mv (.t 98))⟩])
  (.seq (.seq (.reg [⟨(some 99), none, .q (.mv (.t 13))⟩,
      ⟨(some 100), none, .q (.bin .lss (.t 99) (.c (.int .i64 0)))⟩])
   (.cond (.t 100)
    (.seq (.reg [⟨(some 4), none, .q (.mv (.c (.bool false)))⟩])
    .ret)
    .skip))
  (.seq (.seq (.reg [⟨(some 101), none, .q (.mv (.t 13))⟩,
      ⟨(some 102), none, .q (.mv (.t 12))⟩,
      ⟨(some 103), none, .q (.bin .neq (.t 101) (.t 102))⟩])
   (.cond (.t 103)
    (.seq (.reg [⟨(some 4), none, .q (.mv (.c (.bool false)))⟩])
    .ret)
    .skip))
  (.seq (.reg [⟨(some 4), none, .q (.mv (.c (.bool true)))⟩])
  .ret))))))))))))))))))))))))))⟩
theorem l_laws_FnExactParseSlip : lowF PA f_laws_FnExactParseSlip 2 [.s (.take 0 (.take 1 (.one 2 (.one 3 (.take 4 .done)))))] = some c_laws_FnExactParseSlip := by kernel_rfl
abbrev f_laws_szSpace : FuncId := 4
def c_laws_szSpace : AF := ⟨2, 12, [.t 4],
  (.seq (.reg [⟨(some 2), none, .m (.box (.t 0))⟩,
     ⟨(some 4), none, .q (.mv (.c (.int .i64 0)))⟩])
  (.seq (.reg [⟨(some 5), none, .q (.fad 0 (.t 2))⟩,
     ⟨(some 6), none, .q (.ld false 1 (.t 5))⟩,
     ⟨(some 7), none, .q (.mv (.t 1))⟩,
     ⟨(some 8), none, .c (.call 13 [(.t 6), (.t 7)])⟩,
     ⟨(some 1), none, .q (.mv (.t 8))⟩])
  (.seq (.seq (.reg [⟨(some 9), none, .q (.mv (.t 1))⟩,
      ⟨(some 10), none, .q (.bin .lss (.t 9) (.c (.int .i64 0)))⟩])
   (.cond (.t 10)
    (.seq (.reg [⟨(some 4), none, .q (.mv (.c (.int .i64 (-1))))⟩])
    .ret)
    .skip))
  (.seq (.reg [⟨(some 11), none, .q (.mv (.t 1))⟩,
     ⟨(some 4), none, .q (.mv (.t 11))⟩])
  .ret))))⟩
theorem l_laws_szSpace : lowF PA f_laws_szSpace 2 [] = some c_laws_szSpace := by kernel_rfl
abbrev f_spec_ParseSlip : FuncId := 5
def c_spec_ParseSlip : AF := ⟨2, 20, [.t 4, .t 5],
  (.seq (.reg [⟨(some 2), none, .m (.box (.t 0))⟩,
     ⟨(some 4), none, .q (.mv (.c (.slice none 0 0)))⟩,
     ⟨(some 5), none, .q (.mv (.c (.int .i64 0)))⟩])
  (.seq (.seq (.reg [⟨(some 8), none, .q (.ld true 1 (.t 2))⟩,
      ⟨(some 9), none, .c (.call 14 [(.t 8)])⟩,
      ⟨(some 10), none, .q (.un .not (.t 9))⟩])
   (.cond (.t 10)
    (.seq (.reg [⟨(some 4), none, .q (.mv (.c (.slice none 0 0)))⟩,
       ⟨(some 5), none, .q (.mv (.c (.int .i64 1)))⟩])
    .ret)
    .skip))
  (.seq (.reg [⟨(some 12), none, .q (.ld true 1 (.t 2))⟩,
     ⟨(some 13), none, .q (.mv (.t 1))⟩,
     ⟨(some 14), none, .c (.call 15 [(.t 12), (.t 13)])⟩,
     ⟨(some 11), none, .q (.mv (.t 14))⟩,
     ⟨(some 15), none, .q (.ext (.t 11) 0)⟩,
     ⟨(some 16), none, .q (.ext (.t 11) 1)⟩,
     ⟨(some 6), none, .q (.mv (.t 15))⟩,
     ⟨(some 7), none, .q (.mv (.t 16))⟩])
  (.seq (.seq (.reg [⟨(some 17), none, .q (.mv (.t 7))⟩,
      ⟨(some 18), none, .q (.un .not (.t 17))⟩])
   (.cond (.t 18)
    (.seq (.reg [⟨(some 4), none, .q (.mv (.c (.slice none 0 0)))⟩,
       ⟨(some 5), none, .q (.mv (.c (.int .i64 6)))⟩])
    .ret)
    .skip))
  (.seq (.reg [⟨(some 19), none, .q (.mv (.t 6))⟩,
     ⟨(some 4), none, .q (.mv (.t 19))⟩,
     ⟨(some 5), none, .q (.mv (.c (.int .i64 0)))⟩])
  .ret)))))⟩
theorem l_spec_ParseSlip : lowF PA f_spec_ParseSlip 2 [] = some c_spec_ParseSlip := by kernel_rfl
abbrev f_laws_toSpace : FuncId := 6
def c_laws_toSpace : AF := ⟨1, 9, [.c 2 true 1],
  (.seq (.reg [⟨(some 1), none, .m (.box (.t 0))⟩,
     ⟨(some 2), none, .m (.alloc [(.v (.slice none 0 0))])⟩])
  (.seq (.reg [⟨(some 3), none, .m (.alloc [(.v (.slice none 0 0))])⟩])
  (.seq (.reg [⟨(some 4), none, .q (.fad 0 (.t 1))⟩,
     ⟨(some 5), none, .q (.ld false 1 (.t 4))⟩,
     ⟨(some 6), none, .c (.call 16 [(.t 5)])⟩,
     ⟨(some 7), none, .q (.fad 0 (.t 3))⟩,
     ⟨none, none, .m (.st false 1 (.t 7) (.t 6))⟩])
  (.seq (.reg [⟨(some 8), none, .q (.ld true 1 (.t 3))⟩,
     ⟨none, none, .m (.st true 1 (.t 2) (.t 8))⟩])
  .ret))))⟩
theorem l_laws_toSpace : lowF PA f_laws_toSpace 1 [] = some c_laws_toSpace := by kernel_rfl
abbrev f_impl_ParseSlip : FuncId := 7
def c_impl_ParseSlip : AF := ⟨2, 67, [.t 4, .t 5],
  (.seq (.reg [⟨(some 2), none, .m (.box (.t 0))⟩,
     ⟨(some 4), none, .q (.mv (.c (.slice none 0 0)))⟩,
     ⟨(some 5), none, .q (.mv (.c (.int .i64 0)))⟩])
  (.seq (.seq (.reg [⟨(some 11), none, .q (.ld true 1 (.t 2))⟩,
      ⟨(some 12), none, .c (.call 17 [(.t 11)])⟩,
      ⟨(some 13), none, .q (.un .not (.t 12))⟩])
   (.cond (.t 13)
    (.seq (.reg [⟨(some 4), none, .q (.mv (.c (.slice none 0 0)))⟩,
       ⟨(some 5), none, .q (.mv (.c (.int .i64 1)))⟩])
    .ret)
    .skip))
  (.seq (.seq (.reg [⟨(some 14), none, .q (.mv (.t 1))⟩,
      ⟨(some 15), none, .q (.lns (.t 14))⟩,
      ⟨(some 16), none, .q (.bin .gtr (.t 15) (.c (.int .i64 40)))⟩])
   (.cond (.t 16)
    (.seq (.reg [⟨(some 4), none, .q (.mv (.c (.slice none 0 0)))⟩,
       ⟨(some 5), none, .q (.mv (.c (.int .i64 6)))⟩])
    .ret)
    .skip))
  (.seq (.reg [⟨(some 17), none, .m (.bsl 1 [])⟩,
     ⟨(some 6), none, .q (.mv (.t 17))⟩])
  (.seq (.seq (.reg [⟨(some 18), none, .q (.mv (.t 1))⟩,
      ⟨(some 19), none, .c (.call 18 [(.t 18), (.c (.string ⟨#[46]⟩))])⟩,
      ⟨(some 20), none, .q (.len (.t 19))⟩,
      ⟨(some 21), none, .q (.mv (.c (.int .i64 0)))⟩])
   (.block 0 (.loop [2, 6, 19, 20, 21] (.seq (.reg [⟨(some 22), none, .q (.bin .lss (.t 21) (.t 20))⟩])
     (.seq (.cond (.t 22)
       .skip
       (.exit 0))
     (.seq (.block 1 (.seq (.reg [⟨(some 23), none, .q (.ixs 1 (.t 19) (.t 21))⟩,
          ⟨(some 24), none, .q (.ld false 1 (.t 23))⟩,
          ⟨(some 8), none, .q (.mv (.t 24))⟩])
       (.seq (.reg [⟨(some 9), none, .q (.mv (.c (.int .i64 0)))⟩])
       (.seq (.seq (.reg [⟨(some 25), none, .q (.mv (.t 8))⟩,
           ⟨(some 26), none, .q (.lns (.t 25))⟩,
           ⟨(some 27), none, .q (.mv (.c (.int .i64 0)))⟩])
        (.block 2 (.loop [2, 6, 8, 9, 19, 20, 21, 26, 27] (.seq (.reg [⟨(some 28), none, .q (.bin .lss (.t 27) (.t 26))⟩])
          (.seq (.cond (.t 28)
            .skip
            (.exit 2))
          (.seq (.block 3 (.seq (.reg [⟨(some 29), none, .q (.mv (.t 27))⟩,
               ⟨(some 10), none, .q (.mv (.t 29))⟩])
            (.seq (.seq (.reg [⟨(some 30), none, .q (.mv (.t 8))⟩,
                ⟨(some 31), none, .q (.mv (.t 10))⟩,
                ⟨(some 32), none, .q (.ixt (.t 30) (.t 31))⟩,
                ⟨(some 33), none, .q (.bin .lss (.t 32) (.c (.int .u8 48)))⟩,
                ⟨(some 34), none, .q (.mv (.t 33))⟩,
                ⟨(some 35), (some (34, false)), .q (.mv (.t 8))⟩,
                ⟨(some 36), (some (34, false)), .q (.mv (.t 10))⟩,
                ⟨(some 37), (some (34, false)), .q (.ixt (.t 35) (.t 36))⟩,
                ⟨(some 38), (some (34, false)), .q (.bin .gtr (.t 37) (.c (.int .u8 51)))⟩,
                ⟨(some 39), none, .q (.pick (.t 34) (.c (.bool true)) (.t 38))⟩,
                ⟨(some 40), none, .q (.mv (.t 39))⟩,
                ⟨(some 41), (some (40, false)), .q (.mv (.t 9))⟩,
                ⟨(some 42), (some (40, false)), .q (.mv (.t 8))⟩,
                ⟨(some 43), (some (40, false)), .q (.mv (.t 10))⟩,
                ⟨(some 44), (some (40, false)), .q (.ixt (.t 42) (.t 43))⟩,
                ⟨(some 45), (some (40, false)), .q (.bin .sub (.t 44) (.c (.int .u8 48)))⟩,
                ⟨(some 46), (some (40, false)), .q (.bin .shr (.t 41) (.t 45))⟩,
                ⟨(some 47), (some (40, false)), .q (.bin .neq (.t 46) (.c (.int .i64 0)))⟩,
                ⟨(some 48), none, .q (.pick (.t 40) (.c (.bool true)) (.t 47))⟩])
             (.cond (.t 48)
              (.seq (.reg [⟨(some 4), none, .q (.mv (.c (.slice none 0 0)))⟩,
                 ⟨(some 5), none, .q (.mv (.c (.int .i64 6)))⟩])
              .ret)
              .skip))
            (.reg [⟨(some 49), none, .q (.mv (.t 9))⟩,
              ⟨(some 50), none, .q (.mv (.t 8))⟩,
              ⟨(some 51), none, .q (.mv (.t 10))⟩,
              ⟨(some 52), none, .q (.ixt (.t 50) (.t 51))⟩,
              ⟨(some 53), none, .q (.bin .sub (.t 52) (.c (.int .u8 48)))⟩,
              ⟨(some 54), none, .q (.bin .shl (.c (.int .i64 1)) (.t 53))⟩,
              ⟨(some 55), none, .q (.bin .or (.t 49) (.t 54))⟩,
              ⟨(some 9), none, .q (.mv (.t 55))⟩]))))
          (.reg [⟨(some 56), none, .q (.bin .add (.t 27) (.c (.int .i64 1)))⟩,
            ⟨(some 27), none, .q (.mv (.t 56))⟩])))))))
       (.reg [⟨(some 57), none, .q (.mv (.t 6))⟩,
         ⟨(some 58), none, .q (.mv (.t 9))⟩,
         ⟨(some 59), none, .m (.bsl 1 [(.t 58)])⟩,
         ⟨(some 60), none, .m (.app 1 8 (.t 57) (.t 59))⟩,
         ⟨(some 6), none, .q (.mv (.t 60))⟩])))))
     (.reg [⟨(some 61), none, .q (.bin .add (.t 21) (.c (.int .i64 1)))⟩,
       ⟨(some 21), none, .q (.mv (.t 61))⟩])))))))
  (.seq (.seq (.reg [⟨(some 62), none, .q (.ld true 1 (.t 2))⟩,
      ⟨(some 63), none, .q (.mv (.t 6))⟩,
      ⟨(some 64), none, .c (.call 19 [(.t 62), (.t 63)])⟩,
      ⟨(some 65), none, .q (.un .not (.t 64))⟩])
   (.cond (.t 65)
    (.seq (.reg [⟨(some 4), none, .q (.mv (.c (.slice none 0 0)))⟩,
       ⟨(some 5), none, .q (.mv (.c (.int .i64 6)))⟩])
    .ret)
    .skip))
  (.seq (.reg [⟨(some 66), none, .q (.mv (.t 6))⟩,
     ⟨(some 4), none, .q (.mv (.t 66))⟩,
     ⟨(some 5), none, .q (.mv (.c (.int .i64 0)))⟩])
  .ret)))))))⟩
theorem l_impl_ParseSlip : lowF PA f_impl_ParseSlip 2 [.k [2, 6, 19, 20, 21], .k [2, 6, 8, 9, 19, 20, 21, 26, 27]] = some c_impl_ParseSlip := by kernel_rfl
abbrev f_laws_eqSlip : FuncId := 8
def c_laws_eqSlip : AF := ⟨2, 26, [.t 4],
  (.seq (.reg [⟨(some 4), none, .q (.mv (.c (.bool false)))⟩])
  (.seq (.seq (.reg [⟨(some 6), none, .q (.mv (.t 0))⟩,
      ⟨(some 7), none, .q (.len (.t 6))⟩,
      ⟨(some 8), none, .q (.mv (.t 1))⟩,
      ⟨(some 9), none, .q (.len (.t 8))⟩,
      ⟨(some 10), none, .q (.bin .neq (.t 7) (.t 9))⟩])
   (.cond (.t 10)
    (.seq (.reg [⟨(some 4), none, .q (.mv (.c (.bool false)))⟩])
    .ret)
    .skip))
  (.seq (.seq (.reg [⟨(some 5), none, .q (.mv (.c (.int .i64 0)))⟩])
   (.block 0 (.loop [0, 1, 5] (.seq (.seq (.reg [⟨(some 11), none, .q (.mv (.t 5))⟩,
         ⟨(some 12), none, .q (.mv (.t 0))⟩,
         ⟨(some 13), none, .q (.len (.t 12))⟩,
         ⟨(some 14), none, .q (.bin .lss (.t 11) (.t 13))⟩])
      (.cond (.t 14)
       .skip
       (.exit 0)))
     (.seq (.block 1 (.seq (.sch (.take 0 ⟨(some 17), none, .q (.mv (.t 0))⟩ (.take 1 ⟨(some 18), none, .q (.mv (.t 5))⟩ (.take 2 ⟨(some 19), none, .q (.ixs 1 (.t 17) (.t 18))⟩ (.take 3 ⟨(some 20), none, .q (.ld false 1 (.t 19))⟩ (.take 4 ⟨(some 21), none, .q (.mv (.t 1))⟩ (.take 5 ⟨(some 22), none, .q (.mv (.t 5))⟩ (.take 6 ⟨(some 23), none, .q (.ixs 1 (.t 21) (.t 22))⟩ (.take 7 ⟨(some 24), none, .q (.ld false 1 (.t 23))⟩ (.take 8 ⟨(some 25), none, .q (.bin .neq (.t 20) (.t 24))⟩ .done))))))))))
       (.cond (.t 25)
        (.seq (.reg [⟨(some 4), none, .q (.mv (.c (.bool false)))⟩])
        .ret)
        .skip)))
     (.reg [⟨(some 15), none, .q (.mv (.t 5))⟩,
       ⟨(some 16), none, .q (.bin .add (.t 15) (.c (.int .i64 1)))⟩,
       ⟨(some 5), none, .q (.mv (.t 16))⟩]))))))
  (.seq (.reg [⟨(some 4), none, .q (.mv (.c (.bool true)))⟩])
  .ret))))⟩
theorem l_laws_eqSlip : lowF PA f_laws_eqSlip 2 [.k [0, 1, 5], .s (.take 0 (.take 1 (.take 2 (.take 3 (.take 4 (.take 5 (.take 6 (.take 7 (.take 8 .done)))))))))] = some c_laws_eqSlip := by kernel_rfl
abbrev f_laws_eqSpace : FuncId := 9
def c_laws_eqSpace : AF := ⟨2, 11, [.t 4],
  (.seq (.reg [⟨(some 2), none, .m (.box (.t 0))⟩,
     ⟨(some 3), none, .m (.box (.t 1))⟩,
     ⟨(some 4), none, .q (.mv (.c (.bool false)))⟩])
  (.seq (.seq (.reg [⟨(some 5), none, .q (.fad 0 (.t 2))⟩,
      ⟨(some 6), none, .q (.ld false 1 (.t 5))⟩,
      ⟨(some 7), none, .q (.fad 0 (.t 3))⟩,
      ⟨(some 8), none, .q (.ld false 1 (.t 7))⟩,
      ⟨(some 9), none, .c (.call 20 [(.t 6), (.t 8)])⟩,
      ⟨(some 10), none, .q (.un .not (.t 9))⟩])
   (.cond (.t 10)
    (.seq (.reg [⟨(some 4), none, .q (.mv (.c (.bool false)))⟩])
    .ret)
    .skip))
  (.seq (.reg [⟨(some 4), none, .q (.mv (.c (.bool true)))⟩])
  .ret)))⟩
theorem l_laws_eqSpace : lowF PA f_laws_eqSpace 2 [] = some c_laws_eqSpace := by kernel_rfl
abbrev f_laws_markSpace : FuncId := 10
def c_laws_markSpace : AF := ⟨2, 10, [.t 4],
  (.seq (.reg [⟨(some 2), none, .m (.box (.t 0))⟩,
     ⟨(some 4), none, .q (.mv (.c (.int .i64 0)))⟩])
  (.seq (.reg [⟨(some 5), none, .q (.fad 0 (.t 2))⟩,
     ⟨(some 6), none, .q (.ld false 1 (.t 5))⟩,
     ⟨(some 7), none, .q (.mv (.t 1))⟩,
     ⟨(some 8), none, .c (.call 21 [(.t 6), (.t 7)])⟩,
     ⟨(some 1), none, .q (.mv (.t 8))⟩])
  (.seq (.reg [⟨(some 9), none, .q (.mv (.t 1))⟩,
     ⟨(some 4), none, .q (.mv (.t 9))⟩])
  .ret)))⟩
theorem l_laws_markSpace : lowF PA f_laws_markSpace 2 [] = some c_laws_markSpace := by kernel_rfl
abbrev f_laws_markSlip : FuncId := 11
def c_laws_markSlip : AF := ⟨2, 19, [.t 4],
  (.seq (.reg [⟨(some 4), none, .q (.mv (.c (.int .i64 0)))⟩])
  (.seq (.seq (.reg [⟨(some 5), none, .q (.mv (.c (.int .i64 0)))⟩])
   (.block 0 (.loop [0, 1, 5, 19] (.seq (.seq (.reg [⟨(some 6), none, .q (.mv (.t 5))⟩,
         ⟨(some 7), none, .q (.mv (.t 0))⟩,
         ⟨(some 8), none, .q (.len (.t 7))⟩,
         ⟨(some 9), none, .q (.bin .lss (.t 6) (.t 8))⟩])
      (.cond (.t 9)
       .skip
       (.exit 0)))
     (.seq (.block 1 (.seq (.reg [⟨(some 12), none, .q (.mv (.t 0))⟩,
          ⟨(some 13), none, .q (.mv (.t 5))⟩,
          ⟨(some 14), none, .q (.mv (.t 1))⟩,
          ⟨(some 15), none, .q (.ixs 1 (.t 12) (.t 13))⟩,
          ⟨none, none, .m (.st false 1 (.t 15) (.t 14))⟩])
       (.reg [⟨(some 16), none, .q (.mv (.t 1))⟩,
         ⟨(some 17), none, .q (.bin .add (.t 16) (.c (.int .i64 1)))⟩,
         ⟨(some 1), none, .q (.mv (.t 17))⟩])))
     (.reg [⟨(some 10), none, .q (.mv (.t 5))⟩,
       ⟨(some 11), none, .q (.bin .add (.t 10) (.c (.int .i64 1)))⟩,
       ⟨(some 5), none, .q (.mv (.t 11))⟩]))))))
  (.seq (.reg [⟨(some 18), none, .q (.mv (.t 1))⟩,
     ⟨(some 4), none, .q (.mv (.t 18))⟩])
  .ret)))⟩
theorem l_laws_markSlip : lowF PA f_laws_markSlip 2 [.k [0, 1, 5, 19]] = some c_laws_markSlip := by kernel_rfl
abbrev f_laws_heldSlip : FuncId := 12
def c_laws_heldSlip : AF := ⟨2, 21, [.t 4],
  (.seq (.reg [⟨(some 4), none, .q (.mv (.c (.int .i64 0)))⟩])
  (.seq (.seq (.reg [⟨(some 5), none, .q (.mv (.c (.int .i64 0)))⟩])
   (.block 0 (.loop [0, 1, 5] (.seq (.seq (.reg [⟨(some 6), none, .q (.mv (.t 5))⟩,
         ⟨(some 7), none, .q (.mv (.t 0))⟩,
         ⟨(some 8), none, .q (.len (.t 7))⟩,
         ⟨(some 9), none, .q (.bin .lss (.t 6) (.t 8))⟩])
      (.cond (.t 9)
       .skip
       (.exit 0)))
     (.seq (.block 1 (.seq (.seq (.reg [⟨(some 12), none, .q (.mv (.t 0))⟩,
           ⟨(some 13), none, .q (.mv (.t 5))⟩,
           ⟨(some 14), none, .q (.ixs 1 (.t 12) (.t 13))⟩,
           ⟨(some 15), none, .q (.ld false 1 (.t 14))⟩,
           ⟨(some 16), none, .q (.mv (.t 1))⟩,
           ⟨(some 17), none, .q (.bin .neq (.t 15) (.t 16))⟩])
        (.cond (.t 17)
         (.seq (.reg [⟨(some 4), none, .q (.mv (.c (.int .i64 (-1))))⟩])
         .ret)
         .skip))
       (.reg [⟨(some 18), none, .q (.mv (.t 1))⟩,
         ⟨(some 19), none, .q (.bin .add (.t 18) (.c (.int .i64 1)))⟩,
         ⟨(some 1), none, .q (.mv (.t 19))⟩])))
     (.reg [⟨(some 10), none, .q (.mv (.t 5))⟩,
       ⟨(some 11), none, .q (.bin .add (.t 10) (.c (.int .i64 1)))⟩,
       ⟨(some 5), none, .q (.mv (.t 11))⟩]))))))
  (.seq (.reg [⟨(some 20), none, .q (.mv (.t 1))⟩,
     ⟨(some 4), none, .q (.mv (.t 20))⟩])
  .ret)))⟩
theorem l_laws_heldSlip : lowF PA f_laws_heldSlip 2 [.k [0, 1, 5]] = some c_laws_heldSlip := by kernel_rfl
abbrev f_laws_szInt64S : FuncId := 13
def c_laws_szInt64S : AF := ⟨2, 12, [.t 4],
  (.seq (.reg [⟨(some 4), none, .q (.mv (.c (.int .i64 0)))⟩])
  (.seq (.reg [⟨(some 5), none, .q (.mv (.t 1))⟩,
     ⟨(some 6), none, .q (.mv (.t 0))⟩,
     ⟨(some 7), none, .q (.len (.t 6))⟩,
     ⟨(some 8), none, .q (.bin .sub (.t 5) (.t 7))⟩,
     ⟨(some 1), none, .q (.mv (.t 8))⟩])
  (.seq (.seq (.reg [⟨(some 9), none, .q (.mv (.t 1))⟩,
      ⟨(some 10), none, .q (.bin .lss (.t 9) (.c (.int .i64 0)))⟩])
   (.cond (.t 10)
    (.seq (.reg [⟨(some 4), none, .q (.mv (.c (.int .i64 (-1))))⟩])
    .ret)
    .skip))
  (.seq (.reg [⟨(some 11), none, .q (.mv (.t 1))⟩,
     ⟨(some 4), none, .q (.mv (.t 11))⟩])
  .ret))))⟩
theorem l_laws_szInt64S : lowF PA f_laws_szInt64S 2 [] = some c_laws_szInt64S := by kernel_rfl
abbrev f_spec_l01Is : FuncId := 14
def c_spec_l01Is : AF := ⟨1, 26, [.t 2],
  (.seq (.reg [⟨(some 1), none, .m (.box (.t 0))⟩,
     ⟨(some 2), none, .q (.mv (.c (.bool false)))⟩])
  (.seq (.seq (.reg [⟨(some 4), none, .q (.fad 0 (.t 1))⟩,
      ⟨(some 5), none, .q (.ld false 1 (.t 4))⟩,
      ⟨(some 6), none, .q (.len (.t 5))⟩,
      ⟨(some 7), none, .c (.call 22 [(.t 6), (.c (.int .i64 1)), (.c (.int .i64 8))])⟩,
      ⟨(some 8), none, .q (.un .not (.t 7))⟩])
   (.cond (.t 8)
    (.seq (.reg [⟨(some 2), none, .q (.mv (.c (.bool false)))⟩])
    .ret)
    .skip))
  (.seq (.seq (.reg [⟨(some 3), none, .q (.mv (.c (.int .i64 0)))⟩])
   (.block 0 (.loop [1, 3] (.seq (.seq (.reg [⟨(some 9), none, .q (.mv (.t 3))⟩,
         ⟨(some 10), none, .q (.fad 0 (.t 1))⟩,
         ⟨(some 11), none, .q (.ld false 1 (.t 10))⟩,
         ⟨(some 12), none, .q (.len (.t 11))⟩,
         ⟨(some 13), none, .q (.bin .lss (.t 9) (.t 12))⟩])
      (.cond (.t 13)
       .skip
       (.exit 0)))
     (.seq (.block 1 (.seq (.reg [⟨(some 16), none, .q (.fad 0 (.t 1))⟩,
          ⟨(some 17), none, .q (.ld false 1 (.t 16))⟩,
          ⟨(some 18), none, .q (.mv (.t 3))⟩,
          ⟨(some 19), none, .q (.ixs 1 (.t 17) (.t 18))⟩,
          ⟨(some 20), none, .q (.ld false 1 (.t 19))⟩,
          ⟨(some 21), none, .c (.call 22 [(.t 20), (.c (.int .i64 2)), (.c (.int .i64 4))])⟩,
          ⟨(some 22), none, .q (.un .not (.t 21))⟩])
       (.cond (.t 22)
        (.seq (.reg [⟨(some 2), none, .q (.mv (.c (.bool false)))⟩])
        .ret)
        .skip)))
     (.reg [⟨(some 14), none, .q (.mv (.t 3))⟩,
       ⟨(some 15), none, .q (.bin .add (.t 14) (.c (.int .i64 1)))⟩,
       ⟨(some 3), none, .q (.mv (.t 15))⟩]))))))
  (.seq (.reg [⟨(some 23), none, .q (.ld true 1 (.t 1))⟩,
     ⟨(some 24), none, .c (.call 23 [(.t 23)])⟩,
     ⟨(some 25), none, .q (.bin .leq (.t 24) (.c (.int .i64 1024)))⟩,
     ⟨(some 2), none, .q (.mv (.t 25))⟩])
  .ret))))⟩
theorem l_spec_l01Is : lowF PA f_spec_l01Is 1 [.k [1, 3]] = some c_spec_l01Is := by kernel_rfl
abbrev f_spec_l07Read : FuncId := 15
def c_spec_l07Read : AF := ⟨2, 70, [.t 4, .t 5],
  (.seq (.reg [⟨(some 2), none, .m (.box (.t 0))⟩,
     ⟨(some 4), none, .q (.mv (.c (.slice none 0 0)))⟩,
     ⟨(some 5), none, .q (.mv (.c (.bool false)))⟩])
  (.seq (.reg [⟨(some 11), none, .q (.mv (.t 1))⟩,
     ⟨(some 12), none, .c (.call 24 [(.t 11), (.c (.int .u8 46))])⟩,
     ⟨(some 13), none, .m (.bsl 1 [])⟩,
     ⟨(some 6), none, .q (.mv (.t 12))⟩,
     ⟨(some 7), none, .q (.mv (.t 13))⟩])
  (.seq (.seq (.reg [⟨(some 14), none, .q (.mv (.t 6))⟩,
      ⟨(some 15), none, .q (.len (.t 14))⟩,
      ⟨(some 16), none, .q (.mv (.c (.int .i64 0)))⟩])
   (.block 0 (.loop [1, 2, 6, 7, 15, 16] (.seq (.reg [⟨(some 17), none, .q (.bin .lss (.t 16) (.t 15))⟩])
     (.seq (.cond (.t 17)
       .skip
       (.exit 0))
     (.seq (.block 1 (.seq (.reg [⟨(some 18), none, .q (.mv (.t 16))⟩,
          ⟨(some 8), none, .q (.mv (.t 18))⟩])
       (.seq (.reg [⟨(some 9), none, .q (.mv (.c (.int .i64 0)))⟩])
       (.seq (.seq (.reg [⟨(some 10), none, .q (.mv (.c (.int .i64 0)))⟩])
        (.block 2 (.loop [1, 2, 6, 7, 8, 9, 10, 15, 16] (.seq (.seq (.reg [⟨(some 19), none, .q (.mv (.t 10))⟩,
              ⟨(some 20), none, .q (.mv (.t 6))⟩,
              ⟨(some 21), none, .q (.mv (.t 8))⟩,
              ⟨(some 22), none, .q (.ixs 1 (.t 20) (.t 21))⟩,
              ⟨(some 23), none, .q (.ld false 1 (.t 22))⟩,
              ⟨(some 24), none, .q (.lns (.t 23))⟩,
              ⟨(some 25), none, .q (.bin .lss (.t 19) (.t 24))⟩])
           (.cond (.t 25)
            .skip
            (.exit 2)))
          (.seq (.block 3 (.seq (.reg [⟨(some 28), none, .q (.mv (.t 6))⟩,
               ⟨(some 29), none, .q (.mv (.t 8))⟩,
               ⟨(some 30), none, .q (.ixs 1 (.t 28) (.t 29))⟩,
               ⟨(some 31), none, .q (.ld false 1 (.t 30))⟩,
               ⟨(some 32), none, .q (.mv (.t 10))⟩,
               ⟨(some 33), none, .q (.ixt (.t 31) (.t 32))⟩,
               ⟨(some 34), none, .q (.bin .geq (.t 33) (.c (.int .u8 48)))⟩,
               ⟨(some 35), none, .q (.mv (.t 34))⟩,
               ⟨(some 36), (some (35, true)), .q (.mv (.t 6))⟩,
               ⟨(some 37), (some (35, true)), .q (.mv (.t 8))⟩,
               ⟨(some 38), (some (35, true)), .q (.ixs 1 (.t 36) (.t 37))⟩,
               ⟨(some 39), (some (35, true)), .q (.ld false 1 (.t 38))⟩,
               ⟨(some 40), (some (35, true)), .q (.mv (.t 10))⟩,
               ⟨(some 41), (some (35, true)), .q (.ixt (.t 39) (.t 40))⟩,
               ⟨(some 42), (some (35, true)), .q (.bin .leq (.t 41) (.c (.int .u8 51)))⟩,
               ⟨(some 43), none, .q (.pick (.t 35) (.t 42) (.c (.bool false)))⟩])
            (.cond (.t 43)
             (.reg [⟨(some 44), none, .q (.mv (.t 9))⟩,
               ⟨(some 45), none, .q (.mv (.t 6))⟩,
               ⟨(some 46), none, .q (.mv (.t 8))⟩,
               ⟨(some 47), none, .q (.ixs 1 (.t 45) (.t 46))⟩,
               ⟨(some 48), none, .q (.ld false 1 (.t 47))⟩,
               ⟨(some 49), none, .q (.mv (.t 10))⟩,
               ⟨(some 50), none, .q (.ixt (.t 48) (.t 49))⟩,
               ⟨(some 51), none, .q (.bin .sub (.t 50) (.c (.int .u8 48)))⟩,
               ⟨(some 52), none, .q (.cvt .u64 (.t 51))⟩,
               ⟨(some 53), none, .q (.bin .shl (.c (.int .i64 1)) (.t 52))⟩,
               ⟨(some 54), none, .q (.bin .or (.t 44) (.t 53))⟩,
               ⟨(some 9), none, .q (.mv (.t 54))⟩])
             .skip)))
          (.reg [⟨(some 26), none, .q (.mv (.t 10))⟩,
            ⟨(some 27), none, .q (.bin .add (.t 26) (.c (.int .i64 1)))⟩,
            ⟨(some 10), none, .q (.mv (.t 27))⟩]))))))
       (.reg [⟨(some 55), none, .q (.mv (.t 7))⟩,
         ⟨(some 56), none, .q (.mv (.t 9))⟩,
         ⟨(some 57), none, .m (.bsl 1 [(.t 56)])⟩,
         ⟨(some 58), none, .m (.app 1 8 (.t 55) (.t 57))⟩,
         ⟨(some 7), none, .q (.mv (.t 58))⟩])))))
     (.reg [⟨(some 59), none, .q (.bin .add (.t 16) (.c (.int .i64 1)))⟩,
       ⟨(some 16), none, .q (.mv (.t 59))⟩])))))))
  (.seq (.reg [⟨(some 60), none, .q (.mv (.t 7))⟩,
     ⟨(some 61), none, .q (.ld true 1 (.t 2))⟩,
     ⟨(some 62), none, .q (.mv (.t 7))⟩,
     ⟨(some 63), none, .c (.call 25 [(.t 61), (.t 62)])⟩,
     ⟨(some 64), none, .q (.mv (.t 63))⟩,
     ⟨(some 65), (some (64, true)), .q (.mv (.t 7))⟩,
     ⟨(some 66), (some (64, true)), .c (.call 26 [(.t 65)])⟩,
     ⟨(some 67), (some (64, true)), .q (.mv (.t 1))⟩,
     ⟨(some 68), (some (64, true)), .q (.eqs .eql (.t 66) (.t 67))⟩,
     ⟨(some 69), none, .q (.pick (.t 64) (.t 68) (.c (.bool false)))⟩,
     ⟨(some 4), none, .q (.mv (.t 60))⟩,
     ⟨(some 5), none, .q (.mv (.t 69))⟩])
  .ret))))⟩
theorem l_spec_l07Read : lowF PA f_spec_l07Read 2 [.k [1, 2, 6, 7, 15, 16], .k [1, 2, 6, 7, 8, 9, 10, 15, 16]] = some c_spec_l07Read := by kernel_rfl
abbrev f_laws_toInt64S : FuncId := 16
def c_laws_toInt64S : AF := ⟨1, 22, [.t 2],
  (.seq (.reg [⟨(some 2), none, .q (.mv (.c (.slice none 0 0)))⟩])
  (.seq (.reg [⟨(some 5), none, .q (.mv (.t 0))⟩,
     ⟨(some 6), none, .q (.len (.t 5))⟩,
     ⟨(some 7), none, .m (.mks 1 (.v (.int .i64 0)) 8 (.t 6) (.t 6))⟩,
     ⟨(some 3), none, .q (.mv (.t 7))⟩])
  (.seq (.seq (.reg [⟨(some 4), none, .q (.mv (.c (.int .i64 0)))⟩])
   (.block 0 (.loop [0, 3, 4] (.seq (.seq (.reg [⟨(some 8), none, .q (.mv (.t 4))⟩,
         ⟨(some 9), none, .q (.mv (.t 0))⟩,
         ⟨(some 10), none, .q (.len (.t 9))⟩,
         ⟨(some 11), none, .q (.bin .lss (.t 8) (.t 10))⟩])
      (.cond (.t 11)
       .skip
       (.exit 0)))
     (.seq (.block 1 (.reg [⟨(some 14), none, .q (.mv (.t 3))⟩,
         ⟨(some 15), none, .q (.mv (.t 4))⟩,
         ⟨(some 16), none, .q (.mv (.t 0))⟩,
         ⟨(some 17), none, .q (.mv (.t 4))⟩,
         ⟨(some 18), none, .q (.ixs 1 (.t 16) (.t 17))⟩,
         ⟨(some 19), none, .q (.ld false 1 (.t 18))⟩,
         ⟨(some 20), none, .q (.ixs 1 (.t 14) (.t 15))⟩,
         ⟨none, none, .m (.st false 1 (.t 20) (.t 19))⟩]))
     (.reg [⟨(some 12), none, .q (.mv (.t 4))⟩,
       ⟨(some 13), none, .q (.bin .add (.t 12) (.c (.int .i64 1)))⟩,
       ⟨(some 4), none, .q (.mv (.t 13))⟩]))))))
  (.seq (.reg [⟨(some 21), none, .q (.mv (.t 3))⟩,
     ⟨(some 2), none, .q (.mv (.t 21))⟩])
  .ret))))⟩
theorem l_laws_toInt64S : lowF PA f_laws_toInt64S 1 [.k [0, 3, 4]] = some c_laws_toInt64S := by kernel_rfl
abbrev f_impl_IsSpace : FuncId := 17
def c_impl_IsSpace : AF := ⟨1, 35, [.t 2],
  (.seq (.reg [⟨(some 1), none, .m (.box (.t 0))⟩,
     ⟨(some 2), none, .q (.mv (.c (.bool false)))⟩])
  (.seq (.seq (.reg [⟨(some 6), none, .q (.fad 0 (.t 1))⟩,
      ⟨(some 7), none, .q (.ld false 1 (.t 6))⟩,
      ⟨(some 8), none, .q (.len (.t 7))⟩,
      ⟨(some 9), none, .q (.bin .lss (.t 8) (.c (.int .i64 1)))⟩,
      ⟨(some 10), none, .q (.mv (.t 9))⟩,
      ⟨(some 11), (some (10, false)), .q (.fad 0 (.t 1))⟩,
      ⟨(some 12), (some (10, false)), .q (.ld false 1 (.t 11))⟩,
      ⟨(some 13), (some (10, false)), .q (.len (.t 12))⟩,
      ⟨(some 14), (some (10, false)), .q (.bin .gtr (.t 13) (.c (.int .i64 8)))⟩,
      ⟨(some 15), none, .q (.pick (.t 10) (.c (.bool true)) (.t 14))⟩])
   (.cond (.t 15)
    (.seq (.reg [⟨(some 2), none, .q (.mv (.c (.bool false)))⟩])
    .ret)
    .skip))
  (.seq (.reg [⟨(some 3), none, .q (.mv (.c (.int .i64 1)))⟩])
  (.seq (.seq (.reg [⟨(some 16), none, .q (.fad 0 (.t 1))⟩,
      ⟨(some 17), none, .q (.ld false 1 (.t 16))⟩,
      ⟨(some 18), none, .q (.len (.t 17))⟩,
      ⟨(some 19), none, .q (.mv (.c (.int .i64 0)))⟩])
   (.block 0 (.loop [3, 17, 18, 19] (.seq (.reg [⟨(some 20), none, .q (.bin .lss (.t 19) (.t 18))⟩])
     (.seq (.cond (.t 20)
       .skip
       (.exit 0))
     (.seq (.block 1 (.seq (.reg [⟨(some 21), none, .q (.ixs 1 (.t 17) (.t 19))⟩,
          ⟨(some 22), none, .q (.ld false 1 (.t 21))⟩,
          ⟨(some 5), none, .q (.mv (.t 22))⟩])
       (.seq (.seq (.reg [⟨(some 23), none, .q (.mv (.t 5))⟩,
           ⟨(some 24), none, .q (.bin .lss (.t 23) (.c (.int .i64 2)))⟩,
           ⟨(some 25), none, .q (.mv (.t 24))⟩,
           ⟨(some 26), (some (25, false)), .q (.mv (.t 5))⟩,
           ⟨(some 27), (some (25, false)), .q (.bin .gtr (.t 26) (.c (.int .i64 4)))⟩,
           ⟨(some 28), none, .q (.pick (.t 25) (.c (.bool true)) (.t 27))⟩])
        (.cond (.t 28)
         (.seq (.reg [⟨(some 2), none, .q (.mv (.c (.bool false)))⟩])
         .ret)
         .skip))
       (.reg [⟨(some 29), none, .q (.mv (.t 3))⟩,
         ⟨(some 30), none, .q (.mv (.t 5))⟩,
         ⟨(some 31), none, .q (.bin .mul (.t 29) (.t 30))⟩,
         ⟨(some 3), none, .q (.mv (.t 31))⟩]))))
     (.reg [⟨(some 32), none, .q (.bin .add (.t 19) (.c (.int .i64 1)))⟩,
       ⟨(some 19), none, .q (.mv (.t 32))⟩])))))))
  (.seq (.reg [⟨(some 33), none, .q (.mv (.t 3))⟩,
     ⟨(some 34), none, .q (.bin .leq (.t 33) (.c (.int .i64 1024)))⟩,
     ⟨(some 2), none, .q (.mv (.t 34))⟩])
  .ret)))))⟩
theorem l_impl_IsSpace : lowF PA f_impl_IsSpace 1 [.k [3, 17, 18, 19]] = some c_impl_IsSpace := by kernel_rfl
abbrev f_strings_Split : FuncId := 18
def c_strings_Split : AF := ⟨2, 8, [.t 4],
  (.seq (.reg [⟨(some 4), none, .q (.mv (.c (.slice none 0 0)))⟩])
  (.seq (.reg [⟨(some 5), none, .q (.mv (.t 0))⟩,
     ⟨(some 6), none, .q (.mv (.t 1))⟩,
     ⟨(some 7), none, .c (.call 27 [(.t 5), (.t 6), (.c (.int .i64 0)), (.c (.int .i64 (-1)))])⟩,
     ⟨(some 4), none, .q (.mv (.t 7))⟩])
  .ret))⟩
theorem l_strings_Split : lowF PA f_strings_Split 2 [] = some c_strings_Split := by kernel_rfl
abbrev f_impl_isSlip : FuncId := 19
def c_impl_isSlip : AF := ⟨2, 33, [.t 4],
  (.seq (.reg [⟨(some 2), none, .m (.box (.t 0))⟩,
     ⟨(some 4), none, .q (.mv (.c (.bool false)))⟩])
  (.seq (.seq (.reg [⟨(some 7), none, .q (.mv (.t 1))⟩,
      ⟨(some 8), none, .q (.len (.t 7))⟩,
      ⟨(some 9), none, .q (.fad 0 (.t 2))⟩,
      ⟨(some 10), none, .q (.ld false 1 (.t 9))⟩,
      ⟨(some 11), none, .q (.len (.t 10))⟩,
      ⟨(some 12), none, .q (.bin .neq (.t 8) (.t 11))⟩])
   (.cond (.t 12)
    (.seq (.reg [⟨(some 4), none, .q (.mv (.c (.bool false)))⟩])
    .ret)
    .skip))
  (.seq (.seq (.reg [⟨(some 13), none, .q (.mv (.t 1))⟩,
      ⟨(some 14), none, .q (.len (.t 13))⟩,
      ⟨(some 15), none, .q (.mv (.c (.int .i64 0)))⟩])
   (.block 0 (.loop [2, 13, 14, 15] (.seq (.reg [⟨(some 16), none, .q (.bin .lss (.t 15) (.t 14))⟩])
     (.seq (.cond (.t 16)
       .skip
       (.exit 0))
     (.seq (.block 1 (.seq (.reg [⟨(some 17), none, .q (.mv (.t 15))⟩,
          ⟨(some 18), none, .q (.ixs 1 (.t 13) (.t 15))⟩,
          ⟨(some 19), none, .q (.ld false 1 (.t 18))⟩,
          ⟨(some 5), none, .q (.mv (.t 17))⟩,
          ⟨(some 6), none, .q (.mv (.t 19))⟩])
       (.seq (.reg [⟨(some 20), none, .q (.mv (.t 6))⟩,
          ⟨(some 21), none, .q (.bin .lss (.t 20) (.c (.int .i64 1)))⟩,
          ⟨(some 22), none, .q (.mv (.t 21))⟩,
          ⟨(some 23), (some (22, false)), .q (.mv (.t 6))⟩,
          ⟨(some 24), (some (22, false)), .q (.fad 0 (.t 2))⟩,
          ⟨(some 25), (some (22, false)), .q (.ld false 1 (.t 24))⟩,
          ⟨(some 26), (some (22, false)), .q (.mv (.t 5))⟩,
          ⟨(some 27), (some (22, false)), .q (.ixs 1 (.t 25) (.t 26))⟩,
          ⟨(some 28), (some (22, false)), .q (.ld false 1 (.t 27))⟩,
          ⟨(some 29), (some (22, false)), .q (.bin .shl (.c (.int .i64 1)) (.t 28))⟩,
          ⟨(some 30), (some (22, false)), .q (.bin .geq (.t 23) (.t 29))⟩,
          ⟨(some 31), none, .q (.pick (.t 22) (.c (.bool true)) (.t 30))⟩])
       (.cond (.t 31)
        (.seq (.reg [⟨(some 4), none, .q (.mv (.c (.bool false)))⟩])
        .ret)
        .skip))))
     (.reg [⟨(some 32), none, .q (.bin .add (.t 15) (.c (.int .i64 1)))⟩,
       ⟨(some 15), none, .q (.mv (.t 32))⟩])))))))
  (.seq (.reg [⟨(some 4), none, .q (.mv (.c (.bool true)))⟩])
  .ret))))⟩
theorem l_impl_isSlip : lowF PA f_impl_isSlip 2 [.k [2, 13, 14, 15]] = some c_impl_isSlip := by kernel_rfl
abbrev f_laws_eqInt64S : FuncId := 20
def c_laws_eqInt64S : AF := ⟨2, 26, [.t 4],
  (.seq (.reg [⟨(some 4), none, .q (.mv (.c (.bool false)))⟩])
  (.seq (.seq (.reg [⟨(some 6), none, .q (.mv (.t 0))⟩,
      ⟨(some 7), none, .q (.len (.t 6))⟩,
      ⟨(some 8), none, .q (.mv (.t 1))⟩,
      ⟨(some 9), none, .q (.len (.t 8))⟩,
      ⟨(some 10), none, .q (.bin .neq (.t 7) (.t 9))⟩])
   (.cond (.t 10)
    (.seq (.reg [⟨(some 4), none, .q (.mv (.c (.bool false)))⟩])
    .ret)
    .skip))
  (.seq (.seq (.reg [⟨(some 5), none, .q (.mv (.c (.int .i64 0)))⟩])
   (.block 0 (.loop [0, 1, 5] (.seq (.seq (.reg [⟨(some 11), none, .q (.mv (.t 5))⟩,
         ⟨(some 12), none, .q (.mv (.t 0))⟩,
         ⟨(some 13), none, .q (.len (.t 12))⟩,
         ⟨(some 14), none, .q (.bin .lss (.t 11) (.t 13))⟩])
      (.cond (.t 14)
       .skip
       (.exit 0)))
     (.seq (.block 1 (.seq (.sch (.take 0 ⟨(some 17), none, .q (.mv (.t 0))⟩ (.take 1 ⟨(some 18), none, .q (.mv (.t 5))⟩ (.take 2 ⟨(some 19), none, .q (.ixs 1 (.t 17) (.t 18))⟩ (.take 3 ⟨(some 20), none, .q (.ld false 1 (.t 19))⟩ (.take 4 ⟨(some 21), none, .q (.mv (.t 1))⟩ (.take 5 ⟨(some 22), none, .q (.mv (.t 5))⟩ (.take 6 ⟨(some 23), none, .q (.ixs 1 (.t 21) (.t 22))⟩ (.take 7 ⟨(some 24), none, .q (.ld false 1 (.t 23))⟩ (.take 8 ⟨(some 25), none, .q (.bin .neq (.t 20) (.t 24))⟩ .done))))))))))
       (.cond (.t 25)
        (.seq (.reg [⟨(some 4), none, .q (.mv (.c (.bool false)))⟩])
        .ret)
        .skip)))
     (.reg [⟨(some 15), none, .q (.mv (.t 5))⟩,
       ⟨(some 16), none, .q (.bin .add (.t 15) (.c (.int .i64 1)))⟩,
       ⟨(some 5), none, .q (.mv (.t 16))⟩]))))))
  (.seq (.reg [⟨(some 4), none, .q (.mv (.c (.bool true)))⟩])
  .ret))))⟩
theorem l_laws_eqInt64S : lowF PA f_laws_eqInt64S 2 [.k [0, 1, 5], .s (.take 0 (.take 1 (.take 2 (.take 3 (.take 4 (.take 5 (.take 6 (.take 7 (.take 8 .done)))))))))] = some c_laws_eqInt64S := by kernel_rfl
abbrev f_laws_markInt64S : FuncId := 21
def c_laws_markInt64S : AF := ⟨2, 19, [.t 4],
  (.seq (.reg [⟨(some 4), none, .q (.mv (.c (.int .i64 0)))⟩])
  (.seq (.seq (.reg [⟨(some 5), none, .q (.mv (.c (.int .i64 0)))⟩])
   (.block 0 (.loop [0, 1, 5, 19] (.seq (.seq (.reg [⟨(some 6), none, .q (.mv (.t 5))⟩,
         ⟨(some 7), none, .q (.mv (.t 0))⟩,
         ⟨(some 8), none, .q (.len (.t 7))⟩,
         ⟨(some 9), none, .q (.bin .lss (.t 6) (.t 8))⟩])
      (.cond (.t 9)
       .skip
       (.exit 0)))
     (.seq (.block 1 (.seq (.reg [⟨(some 12), none, .q (.mv (.t 0))⟩,
          ⟨(some 13), none, .q (.mv (.t 5))⟩,
          ⟨(some 14), none, .q (.mv (.t 1))⟩,
          ⟨(some 15), none, .q (.ixs 1 (.t 12) (.t 13))⟩,
          ⟨none, none, .m (.st false 1 (.t 15) (.t 14))⟩])
       (.reg [⟨(some 16), none, .q (.mv (.t 1))⟩,
         ⟨(some 17), none, .q (.bin .add (.t 16) (.c (.int .i64 1)))⟩,
         ⟨(some 1), none, .q (.mv (.t 17))⟩])))
     (.reg [⟨(some 10), none, .q (.mv (.t 5))⟩,
       ⟨(some 11), none, .q (.bin .add (.t 10) (.c (.int .i64 1)))⟩,
       ⟨(some 5), none, .q (.mv (.t 11))⟩]))))))
  (.seq (.reg [⟨(some 18), none, .q (.mv (.t 1))⟩,
     ⟨(some 4), none, .q (.mv (.t 18))⟩])
  .ret)))⟩
theorem l_laws_markInt64S : lowF PA f_laws_markInt64S 2 [.k [0, 1, 5, 19]] = some c_laws_markInt64S := by kernel_rfl
abbrev f_spec_l01In : FuncId := 22
def c_spec_l01In : AF := ⟨3, 15, [.t 6],
  (.seq (.reg [⟨(some 6), none, .q (.mv (.c (.bool false)))⟩])
  (.seq (.reg [⟨(some 7), none, .q (.mv (.t 0))⟩,
     ⟨(some 8), none, .q (.mv (.t 1))⟩,
     ⟨(some 9), none, .q (.bin .geq (.t 7) (.t 8))⟩,
     ⟨(some 10), none, .q (.mv (.t 9))⟩,
     ⟨(some 11), (some (10, true)), .q (.mv (.t 0))⟩,
     ⟨(some 12), (some (10, true)), .q (.mv (.t 2))⟩,
     ⟨(some 13), (some (10, true)), .q (.bin .leq (.t 11) (.t 12))⟩,
     ⟨(some 14), none, .q (.pick (.t 10) (.t 13) (.c (.bool false)))⟩,
     ⟨(some 6), none, .q (.mv (.t 14))⟩])
  .ret))⟩
theorem l_spec_l01In : lowF PA f_spec_l01In 3 [] = some c_spec_l01In := by kernel_rfl
abbrev f_spec_l01N : FuncId := 23
def c_spec_l01N : AF := ⟨1, 20, [.t 2],
  (.seq (.reg [⟨(some 1), none, .m (.box (.t 0))⟩,
     ⟨(some 2), none, .q (.mv (.c (.int .i64 0)))⟩])
  (.seq (.reg [⟨(some 3), none, .q (.mv (.c (.int .i64 1)))⟩])
  (.seq (.seq (.reg [⟨(some 4), none, .q (.mv (.c (.int .i64 0)))⟩])
   (.block 0 (.loop [1, 3, 4] (.seq (.seq (.reg [⟨(some 5), none, .q (.mv (.t 4))⟩,
         ⟨(some 6), none, .q (.fad 0 (.t 1))⟩,
         ⟨(some 7), none, .q (.ld false 1 (.t 6))⟩,
         ⟨(some 8), none, .q (.len (.t 7))⟩,
         ⟨(some 9), none, .q (.bin .lss (.t 5) (.t 8))⟩])
      (.cond (.t 9)
       .skip
       (.exit 0)))
     (.seq (.block 1 (.reg [⟨(some 12), none, .q (.mv (.t 3))⟩,
         ⟨(some 13), none, .q (.fad 0 (.t 1))⟩,
         ⟨(some 14), none, .q (.ld false 1 (.t 13))⟩,
         ⟨(some 15), none, .q (.mv (.t 4))⟩,
         ⟨(some 16), none, .q (.ixs 1 (.t 14) (.t 15))⟩,
         ⟨(some 17), none, .q (.ld false 1 (.t 16))⟩,
         ⟨(some 18), none, .q (.bin .mul (.t 12) (.t 17))⟩,
         ⟨(some 3), none, .q (.mv (.t 18))⟩]))
     (.reg [⟨(some 10), none, .q (.mv (.t 4))⟩,
       ⟨(some 11), none, .q (.bin .add (.t 10) (.c (.int .i64 1)))⟩,
       ⟨(some 4), none, .q (.mv (.t 11))⟩]))))))
  (.seq (.reg [⟨(some 19), none, .q (.mv (.t 3))⟩,
     ⟨(some 2), none, .q (.mv (.t 19))⟩])
  .ret))))⟩
theorem l_spec_l01N : lowF PA f_spec_l01N 1 [.k [1, 3, 4]] = some c_spec_l01N := by kernel_rfl
abbrev f_spec_l01Split : FuncId := 24
def c_spec_l01Split : AF := ⟨2, 35, [.t 4],
  (.seq (.reg [⟨(some 4), none, .q (.mv (.c (.slice none 0 0)))⟩])
  (.seq (.reg [⟨(some 8), none, .m (.bsl 1 [])⟩,
     ⟨(some 5), none, .q (.mv (.t 8))⟩])
  (.seq (.reg [⟨(some 6), none, .q (.mv (.c (.int .i64 0)))⟩])
  (.seq (.seq (.reg [⟨(some 7), none, .q (.mv (.c (.int .i64 0)))⟩])
   (.block 0 (.loop [0, 1, 5, 6, 7] (.seq (.seq (.reg [⟨(some 9), none, .q (.mv (.t 7))⟩,
         ⟨(some 10), none, .q (.mv (.t 0))⟩,
         ⟨(some 11), none, .q (.lns (.t 10))⟩,
         ⟨(some 12), none, .q (.bin .lss (.t 9) (.t 11))⟩])
      (.cond (.t 12)
       .skip
       (.exit 0)))
     (.seq (.block 1 (.seq (.reg [⟨(some 15), none, .q (.mv (.t 0))⟩,
          ⟨(some 16), none, .q (.mv (.t 7))⟩,
          ⟨(some 17), none, .q (.ixt (.t 15) (.t 16))⟩,
          ⟨(some 18), none, .q (.mv (.t 1))⟩,
          ⟨(some 19), none, .q (.bin .eql (.t 17) (.t 18))⟩])
       (.cond (.t 19)
        (.seq (.reg [⟨(some 20), none, .q (.mv (.t 5))⟩,
           ⟨(some 21), none, .q (.mv (.t 0))⟩,
           ⟨(some 22), none, .q (.mv (.t 6))⟩,
           ⟨(some 23), none, .q (.mv (.t 7))⟩,
           ⟨(some 24), none, .q (.slt (.t 21) (some (.t 22)) (some (.t 23)))⟩,
           ⟨(some 25), none, .m (.bsl 1 [(.t 24)])⟩,
           ⟨(some 26), none, .m (.app 1 16 (.t 20) (.t 25))⟩,
           ⟨(some 5), none, .q (.mv (.t 26))⟩])
        (.reg [⟨(some 27), none, .q (.mv (.t 7))⟩,
          ⟨(some 28), none, .q (.bin .add (.t 27) (.c (.int .i64 1)))⟩,
          ⟨(some 6), none, .q (.mv (.t 28))⟩]))
        .skip)))
     (.reg [⟨(some 13), none, .q (.mv (.t 7))⟩,
       ⟨(some 14), none, .q (.bin .add (.t 13) (.c (.int .i64 1)))⟩,
       ⟨(some 7), none, .q (.mv (.t 14))⟩]))))))
  (.seq (.reg [⟨(some 29), none, .q (.mv (.t 5))⟩,
     ⟨(some 30), none, .q (.mv (.t 0))⟩,
     ⟨(some 31), none, .q (.mv (.t 6))⟩,
     ⟨(some 32), none, .q (.slt (.t 30) (some (.t 31)) none)⟩,
     ⟨(some 33), none, .m (.bsl 1 [(.t 32)])⟩,
     ⟨(some 34), none, .m (.app 1 16 (.t 29) (.t 33))⟩,
     ⟨(some 4), none, .q (.mv (.t 34))⟩])
  .ret)))))⟩
theorem l_spec_l01Split : lowF PA f_spec_l01Split 2 [.k [0, 1, 5, 6, 7]] = some c_spec_l01Split := by kernel_rfl
abbrev f_spec_l07Is : FuncId := 25
def c_spec_l07Is : AF := ⟨2, 32, [.t 4],
  (.seq (.reg [⟨(some 2), none, .m (.box (.t 0))⟩,
     ⟨(some 4), none, .q (.mv (.c (.bool false)))⟩])
  (.seq (.seq (.reg [⟨(some 6), none, .q (.mv (.t 1))⟩,
      ⟨(some 7), none, .q (.len (.t 6))⟩,
      ⟨(some 8), none, .q (.fad 0 (.t 2))⟩,
      ⟨(some 9), none, .q (.ld false 1 (.t 8))⟩,
      ⟨(some 10), none, .q (.len (.t 9))⟩,
      ⟨(some 11), none, .q (.bin .neq (.t 7) (.t 10))⟩])
   (.cond (.t 11)
    (.seq (.reg [⟨(some 4), none, .q (.mv (.c (.bool false)))⟩])
    .ret)
    .skip))
  (.seq (.seq (.reg [⟨(some 12), none, .q (.mv (.t 1))⟩,
      ⟨(some 13), none, .q (.len (.t 12))⟩,
      ⟨(some 14), none, .q (.mv (.c (.int .i64 0)))⟩])
   (.block 0 (.loop [1, 2, 13, 14] (.seq (.reg [⟨(some 15), none, .q (.bin .lss (.t 14) (.t 13))⟩])
     (.seq (.cond (.t 15)
       .skip
       (.exit 0))
     (.seq (.block 1 (.seq (.reg [⟨(some 16), none, .q (.mv (.t 14))⟩,
          ⟨(some 5), none, .q (.mv (.t 16))⟩])
       (.seq (.sch (.take 0 ⟨(some 17), none, .q (.mv (.t 1))⟩ (.take 1 ⟨(some 18), none, .q (.mv (.t 5))⟩ (.take 2 ⟨(some 19), none, .q (.ixs 1 (.t 17) (.t 18))⟩ (.take 3 ⟨(some 20), none, .q (.ld false 1 (.t 19))⟩ (.take 4 ⟨(some 21), none, .q (.fad 0 (.t 2))⟩ (.take 5 ⟨(some 22), none, .q (.ld false 1 (.t 21))⟩ (.take 6 ⟨(some 23), none, .q (.mv (.t 5))⟩ (.take 7 ⟨(some 24), none, .q (.ixs 1 (.t 22) (.t 23))⟩ (.take 8 ⟨(some 25), none, .q (.ld false 1 (.t 24))⟩ (.take 9 ⟨(some 26), none, .q (.cvt .u64 (.t 25))⟩ (.take 10 ⟨(some 27), none, .q (.bin .shl (.c (.int .i64 1)) (.t 26))⟩ (.take 11 ⟨(some 28), none, .q (.bin .sub (.t 27) (.c (.int .i64 1)))⟩ (.one ⟨(some 29), none, .c (.call 22 [(.t 20), (.c (.int .i64 1)), (.t 28)])⟩ [3] (.take 13 ⟨(some 30), none, .q (.un .not (.t 29))⟩ .done)))))))))))))))
       (.cond (.t 30)
        (.seq (.reg [⟨(some 4), none, .q (.mv (.c (.bool false)))⟩])
        .ret)
        .skip))))
     (.reg [⟨(some 31), none, .q (.bin .add (.t 14) (.c (.int .i64 1)))⟩,
       ⟨(some 14), none, .q (.mv (.t 31))⟩])))))))
  (.seq (.reg [⟨(some 4), none, .q (.mv (.c (.bool true)))⟩])
  .ret))))⟩
theorem l_spec_l07Is : lowF PA f_spec_l07Is 2 [.k [1, 2, 13, 14], .s (.take 0 (.take 1 (.take 2 (.take 3 (.take 4 (.take 5 (.take 6 (.take 7 (.take 8 (.take 9 (.take 10 (.take 11 (.one 12 (.take 13 .done))))))))))))))] = some c_spec_l07Is := by kernel_rfl
abbrev f_spec_l07Text : FuncId := 26
def c_spec_l07Text : AF := ⟨1, 36, [.t 2],
  (.seq (.reg [⟨(some 2), none, .q (.mv (.c (.string ⟨#[]⟩)))⟩])
  (.seq (.reg [⟨(some 3), none, .q (.mv (.c (.string ⟨#[]⟩)))⟩])
  (.seq (.seq (.reg [⟨(some 7), none, .q (.mv (.t 0))⟩,
      ⟨(some 8), none, .q (.len (.t 7))⟩,
      ⟨(some 9), none, .q (.mv (.c (.int .i64 0)))⟩])
   (.block 0 (.loop [0, 3, 8, 9] (.seq (.reg [⟨(some 10), none, .q (.bin .lss (.t 9) (.t 8))⟩])
     (.seq (.cond (.t 10)
       .skip
       (.exit 0))
     (.seq (.block 1 (.seq (.reg [⟨(some 11), none, .q (.mv (.t 9))⟩,
          ⟨(some 4), none, .q (.mv (.t 11))⟩])
       (.seq (.seq (.reg [⟨(some 12), none, .q (.mv (.t 4))⟩,
           ⟨(some 13), none, .q (.bin .gtr (.t 12) (.c (.int .i64 0)))⟩])
        (.cond (.t 13)
         (.reg [⟨(some 14), none, .q (.mv (.t 3))⟩,
           ⟨(some 15), none, .q (.eqs .add (.t 14) (.c (.string ⟨#[46]⟩)))⟩,
           ⟨(some 3), none, .q (.mv (.t 15))⟩])
         .skip))
       (.seq (.reg [⟨(some 16), none, .q (.mv (.t 0))⟩,
          ⟨(some 17), none, .q (.mv (.t 4))⟩,
          ⟨(some 18), none, .q (.ixs 1 (.t 16) (.t 17))⟩,
          ⟨(some 19), none, .q (.ld false 1 (.t 18))⟩,
          ⟨(some 20), none, .c (.call 28 [(.t 19)])⟩,
          ⟨(some 5), none, .q (.mv (.t 20))⟩])
       (.seq (.reg [⟨(some 21), none, .q (.mv (.t 5))⟩,
          ⟨(some 22), none, .q (.len (.t 21))⟩,
          ⟨(some 23), none, .q (.mv (.c (.int .i64 0)))⟩])
       (.block 2 (.loop [0, 3, 5, 8, 9, 22, 23] (.seq (.reg [⟨(some 24), none, .q (.bin .lss (.t 23) (.t 22))⟩])
         (.seq (.cond (.t 24)
           .skip
           (.exit 2))
         (.seq (.block 3 (.seq (.reg [⟨(some 25), none, .q (.mv (.t 23))⟩,
              ⟨(some 6), none, .q (.mv (.t 25))⟩])
           (.reg [⟨(some 26), none, .q (.mv (.t 3))⟩,
             ⟨(some 27), none, .q (.mv (.t 5))⟩,
             ⟨(some 28), none, .q (.mv (.t 6))⟩,
             ⟨(some 29), none, .q (.ixs 1 (.t 27) (.t 28))⟩,
             ⟨(some 30), none, .q (.ld false 1 (.t 29))⟩,
             ⟨(some 31), none, .c (.call 29 [(.t 30)])⟩,
             ⟨(some 32), none, .q (.eqs .add (.t 26) (.t 31))⟩,
             ⟨(some 3), none, .q (.mv (.t 32))⟩])))
         (.reg [⟨(some 33), none, .q (.bin .add (.t 23) (.c (.int .i64 1)))⟩,
           ⟨(some 23), none, .q (.mv (.t 33))⟩])))))))))))
     (.reg [⟨(some 34), none, .q (.bin .add (.t 9) (.c (.int .i64 1)))⟩,
       ⟨(some 9), none, .q (.mv (.t 34))⟩])))))))
  (.seq (.reg [⟨(some 35), none, .q (.mv (.t 3))⟩,
     ⟨(some 2), none, .q (.mv (.t 35))⟩])
  .ret))))⟩
theorem l_spec_l07Text : lowF PA f_spec_l07Text 1 [.k [0, 3, 8, 9], .k [0, 3, 5, 8, 9, 22, 23]] = some c_spec_l07Text := by kernel_rfl
abbrev f_strings_genSplit : FuncId := 27
def c_strings_genSplit : AF := ⟨4, 66, [.t 8],
  (.seq (.reg [⟨(some 8), none, .q (.mv (.c (.slice none 0 0)))⟩])
  (.seq (.seq (.reg [⟨(some 12), none, .q (.mv (.t 3))⟩,
      ⟨(some 13), none, .q (.bin .eql (.t 12) (.c (.int .i64 0)))⟩])
   (.cond (.t 13)
    (.seq (.reg [⟨(some 8), none, .q (.mv (.c (.slice none 0 0)))⟩])
    .ret)
    .skip))
  (.seq (.seq (.reg [⟨(some 14), none, .q (.mv (.t 1))⟩,
      ⟨(some 15), none, .q (.eqs .eql (.t 14) (.c (.string ⟨#[]⟩)))⟩])
   (.cond (.t 15)
    (.seq (.reg [⟨(some 16), none, .q (.mv (.t 0))⟩,
       ⟨(some 17), none, .q (.mv (.t 3))⟩,
       ⟨(some 18), none, .c (.call 30 [(.t 16), (.t 17)])⟩,
       ⟨(some 8), none, .q (.mv (.t 18))⟩])
    .ret)
    .skip))
  (.seq (.seq (.reg [⟨(some 19), none, .q (.mv (.t 3))⟩,
      ⟨(some 20), none, .q (.bin .lss (.t 19) (.c (.int .i64 0)))⟩])
   (.cond (.t 20)
    (.reg [⟨(some 21), none, .q (.mv (.t 0))⟩,
      ⟨(some 22), none, .q (.mv (.t 1))⟩,
      ⟨(some 23), none, .c (.call 31 [(.t 21), (.t 22)])⟩,
      ⟨(some 24), none, .q (.bin .add (.t 23) (.c (.int .i64 1)))⟩,
      ⟨(some 3), none, .q (.mv (.t 24))⟩])
    .skip))
  (.seq (.reg [⟨(some 25), none, .q (.mv (.t 3))⟩,
     ⟨(some 26), none, .q (.mv (.t 0))⟩,
     ⟨(some 27), none, .q (.lns (.t 26))⟩,
     ⟨(some 28), none, .q (.bin .add (.t 27) (.c (.int .i64 1)))⟩,
     ⟨(some 29), none, .q (.mn (.t 25) (.t 28))⟩,
     ⟨(some 3), none, .q (.mv (.t 29))⟩])
  (.seq (.reg [⟨(some 30), none, .q (.mv (.t 3))⟩,
     ⟨(some 31), none, .m (.mks 1 (.v (.string ⟨#[]⟩)) 16 (.t 30) (.t 30))⟩,
     ⟨(some 9), none, .q (.mv (.t 31))⟩])
  (.seq (.reg [⟨(some 32), none, .q (.mv (.t 3))⟩,
     ⟨(some 33), none, .q (.bin .sub (.t 32) (.c (.int .i64 1)))⟩,
     ⟨(some 3), none, .q (.mv (.t 33))⟩])
  (.seq (.reg [⟨(some 10), none, .q (.mv (.c (.int .i64 0)))⟩])
  (.seq (.block 0 (.loop [0, 1, 2, 3, 9, 10] (.seq (.seq (.reg [⟨(some 34), none, .q (.mv (.t 10))⟩,
         ⟨(some 35), none, .q (.mv (.t 3))⟩,
         ⟨(some 36), none, .q (.bin .lss (.t 34) (.t 35))⟩])
      (.cond (.t 36)
       .skip
       (.exit 0)))
     (.block 1 (.seq (.reg [⟨(some 37), none, .q (.mv (.t 0))⟩,
         ⟨(some 38), none, .q (.mv (.t 1))⟩,
         ⟨(some 39), none, .c (.call 32 [(.t 37), (.t 38)])⟩,
         ⟨(some 11), none, .q (.mv (.t 39))⟩])
      (.seq (.seq (.reg [⟨(some 40), none, .q (.mv (.t 11))⟩,
          ⟨(some 41), none, .q (.bin .lss (.t 40) (.c (.int .i64 0)))⟩])
       (.cond (.t 41)
        (.exit 0)
        .skip))
      (.seq (.reg [⟨(some 42), none, .q (.mv (.t 9))⟩,
         ⟨(some 43), none, .q (.mv (.t 10))⟩,
         ⟨(some 44), none, .q (.mv (.t 0))⟩,
         ⟨(some 45), none, .q (.mv (.t 11))⟩,
         ⟨(some 46), none, .q (.mv (.t 2))⟩,
         ⟨(some 47), none, .q (.bin .add (.t 45) (.t 46))⟩,
         ⟨(some 48), none, .q (.slt (.t 44) none (some (.t 47)))⟩,
         ⟨(some 49), none, .q (.ixs 1 (.t 42) (.t 43))⟩,
         ⟨none, none, .m (.st false 1 (.t 49) (.t 48))⟩])
      (.seq (.reg [⟨(some 50), none, .q (.mv (.t 0))⟩,
         ⟨(some 51), none, .q (.mv (.t 11))⟩,
         ⟨(some 52), none, .q (.mv (.t 1))⟩,
         ⟨(some 53), none, .q (.lns (.t 52))⟩,
         ⟨(some 54), none, .q (.bin .add (.t 51) (.t 53))⟩,
         ⟨(some 55), none, .q (.slt (.t 50) (some (.t 54)) none)⟩,
         ⟨(some 0), none, .q (.mv (.t 55))⟩])
      (.reg [⟨(some 56), none, .q (.mv (.t 10))⟩,
        ⟨(some 57), none, .q (.bin .add (.t 56) (.c (.int .i64 1)))⟩,
        ⟨(some 10), none, .q (.mv (.t 57))⟩])))))))))
  (.seq (.reg [⟨(some 58), none, .q (.mv (.t 9))⟩,
     ⟨(some 59), none, .q (.mv (.t 10))⟩,
     ⟨(some 60), none, .q (.mv (.t 0))⟩,
     ⟨(some 61), none, .q (.ixs 1 (.t 58) (.t 59))⟩,
     ⟨none, none, .m (.st false 1 (.t 61) (.t 60))⟩])
  (.seq (.reg [⟨(some 62), none, .q (.mv (.t 9))⟩,
     ⟨(some 63), none, .q (.mv (.t 10))⟩,
     ⟨(some 64), none, .q (.bin .add (.t 63) (.c (.int .i64 1)))⟩,
     ⟨(some 65), none, .q (.slc 1 (.t 62) none (some (.t 64)))⟩,
     ⟨(some 8), none, .q (.mv (.t 65))⟩])
  .ret)))))))))))⟩
theorem l_strings_genSplit : lowF PA f_strings_genSplit 4 [.k [0, 1, 2, 3, 9, 10]] = some c_strings_genSplit := by kernel_rfl
abbrev f_spec_l07Signs : FuncId := 28
def c_spec_l07Signs : AF := ⟨1, 21, [.t 2],
  (.seq (.reg [⟨(some 2), none, .q (.mv (.c (.slice none 0 0)))⟩])
  (.seq (.reg [⟨(some 5), none, .m (.bsl 1 [])⟩,
     ⟨(some 3), none, .q (.mv (.t 5))⟩])
  (.seq (.seq (.reg [⟨(some 4), none, .q (.mv (.c (.int .i64 0)))⟩])
   (.block 0 (.loop [0, 3, 4] (.seq (.seq (.reg [⟨(some 6), none, .q (.mv (.t 4))⟩,
         ⟨(some 7), none, .q (.bin .lss (.t 6) (.c (.int .i64 4)))⟩])
      (.cond (.t 7)
       .skip
       (.exit 0)))
     (.seq (.block 1 (.seq (.reg [⟨(some 10), none, .q (.mv (.t 0))⟩,
          ⟨(some 11), none, .q (.mv (.t 4))⟩,
          ⟨(some 12), none, .q (.cvt .u64 (.t 11))⟩,
          ⟨(some 13), none, .q (.bin .shr (.t 10) (.t 12))⟩,
          ⟨(some 14), none, .q (.bin .and (.t 13) (.c (.int .i64 1)))⟩,
          ⟨(some 15), none, .q (.bin .eql (.t 14) (.c (.int .i64 1)))⟩])
       (.cond (.t 15)
        (.reg [⟨(some 16), none, .q (.mv (.t 3))⟩,
          ⟨(some 17), none, .q (.mv (.t 4))⟩,
          ⟨(some 18), none, .m (.bsl 1 [(.t 17)])⟩,
          ⟨(some 19), none, .m (.app 1 8 (.t 16) (.t 18))⟩,
          ⟨(some 3), none, .q (.mv (.t 19))⟩])
        .skip)))
     (.reg [⟨(some 8), none, .q (.mv (.t 4))⟩,
       ⟨(some 9), none, .q (.bin .add (.t 8) (.c (.int .i64 1)))⟩,
       ⟨(some 4), none, .q (.mv (.t 9))⟩]))))))
  (.seq (.reg [⟨(some 20), none, .q (.mv (.t 3))⟩,
     ⟨(some 2), none, .q (.mv (.t 20))⟩])
  .ret))))⟩
theorem l_spec_l07Signs : lowF PA f_spec_l07Signs 1 [.k [0, 3, 4]] = some c_spec_l07Signs := by kernel_rfl
abbrev f_spec_l01Dec : FuncId := 29
def c_spec_l01Dec : AF := ⟨1, 26, [.t 2],
  (.seq (.reg [⟨(some 2), none, .q (.mv (.c (.string ⟨#[]⟩)))⟩])
  (.seq (.seq (.reg [⟨(some 3), none, .q (.mv (.t 0))⟩,
      ⟨(some 4), none, .q (.bin .lss (.t 3) (.c (.int .i64 0)))⟩])
   (.cond (.t 4)
    (.seq (.reg [⟨(some 5), none, .q (.mv (.t 0))⟩,
       ⟨(some 6), none, .q (.un .neg (.t 5))⟩,
       ⟨(some 7), none, .c (.call 29 [(.t 6)])⟩,
       ⟨(some 8), none, .q (.eqs .add (.c (.string ⟨#[45]⟩)) (.t 7))⟩,
       ⟨(some 2), none, .q (.mv (.t 8))⟩])
    .ret)
    .skip))
  (.seq (.seq (.reg [⟨(some 9), none, .q (.mv (.t 0))⟩,
      ⟨(some 10), none, .q (.bin .lss (.t 9) (.c (.int .i64 10)))⟩])
   (.cond (.t 10)
    (.seq (.reg [⟨(some 11), none, .q (.mv (.t 0))⟩,
       ⟨(some 12), none, .q (.bin .add (.c (.int .i64 48)) (.t 11))⟩,
       ⟨(some 13), none, .q (.cvt .u8 (.t 12))⟩,
       ⟨(some 14), none, .m (.bsl 1 [(.t 13)])⟩,
       ⟨(some 15), none, .q (.b2s (.t 14))⟩,
       ⟨(some 2), none, .q (.mv (.t 15))⟩])
    .ret)
    .skip))
  (.seq (.sch (.take 0 ⟨(some 16), none, .q (.mv (.t 0))⟩ (.take 1 ⟨(some 17), none, .q (.bin .quo (.t 16) (.c (.int .i64 10)))⟩ (.take 3 ⟨(some 19), none, .q (.mv (.t 0))⟩ (.take 4 ⟨(some 20), none, .q (.bin .rem (.t 19) (.c (.int .i64 10)))⟩ (.take 5 ⟨(some 21), none, .q (.bin .add (.c (.int .i64 48)) (.t 20))⟩ (.take 6 ⟨(some 22), none, .q (.cvt .u8 (.t 21))⟩ (.two ⟨(some 18), none, .c (.call 29 [(.t 17)])⟩ [] (.one ⟨(some 23), none, .m (.bsl 1 [(.t 22)])⟩ [] (.take 8 ⟨(some 24), none, .q (.b2s (.t 23))⟩ (.take 9 ⟨(some 25), none, .q (.eqs .add (.t 18) (.t 24))⟩ (.take 10 ⟨(some 2), none, .q (.mv (.t 25))⟩ .done)))) ⟨(some 23), none, .m (.bsl 1 [(.t 22)])⟩ [] (.take 8 ⟨(some 24), none, .q (.b2s (.t 23))⟩ (.one ⟨(some 18), none, .c (.call 29 [(.t 17)])⟩ [] (.take 9 ⟨(some 25), none, .q (.eqs .add (.t 18) (.t 24))⟩ (.take 10 ⟨(some 2), none, .q (.mv (.t 25))⟩ .done))))))))))))
  .ret))))⟩
theorem l_spec_l01Dec : lowF PA f_spec_l01Dec 1 [.s (.take 0 (.take 1 (.take 3 (.take 4 (.take 5 (.take 6 (.two 2 (.one 7 (.take 8 (.take 9 (.take 10 .done)))) 7 (.take 8 (.one 2 (.take 9 (.take 10 .done)))))))))))] = some c_spec_l01Dec := by kernel_rfl
abbrev f_strings_explode : FuncId := 30
def c_strings_explode : AF := ⟨2, 50, [.t 4],
  (.seq (.reg [⟨(some 4), none, .q (.mv (.c (.slice none 0 0)))⟩])
  (.seq (.reg [⟨(some 10), none, .q (.mv (.t 0))⟩,
     ⟨(some 11), none, .c (.call 33 [(.t 10)])⟩,
     ⟨(some 5), none, .q (.mv (.t 11))⟩])
  (.seq (.seq (.reg [⟨(some 12), none, .q (.mv (.t 1))⟩,
      ⟨(some 13), none, .q (.bin .lss (.t 12) (.c (.int .i64 0)))⟩,
      ⟨(some 14), none, .q (.mv (.t 13))⟩,
      ⟨(some 15), (some (14, false)), .q (.mv (.t 1))⟩,
      ⟨(some 16), (some (14, false)), .q (.mv (.t 5))⟩,
      ⟨(some 17), (some (14, false)), .q (.bin .gtr (.t 15) (.t 16))⟩,
      ⟨(some 18), none, .q (.pick (.t 14) (.c (.bool true)) (.t 17))⟩])
   (.cond (.t 18)
    (.reg [⟨(some 19), none, .q (.mv (.t 5))⟩,
      ⟨(some 1), none, .q (.mv (.t 19))⟩])
    .skip))
  (.seq (.reg [⟨(some 20), none, .q (.mv (.t 1))⟩,
     ⟨(some 21), none, .m (.mks 1 (.v (.string ⟨#[]⟩)) 16 (.t 20) (.t 20))⟩,
     ⟨(some 6), none, .q (.mv (.t 21))⟩])
  (.seq (.seq (.reg [⟨(some 7), none, .q (.mv (.c (.int .i64 0)))⟩])
   (.block 0 (.loop [0, 1, 6, 7] (.seq (.seq (.reg [⟨(some 22), none, .q (.mv (.t 7))⟩,
         ⟨(some 23), none, .q (.mv (.t 1))⟩,
         ⟨(some 24), none, .q (.bin .sub (.t 23) (.c (.int .i64 1)))⟩,
         ⟨(some 25), none, .q (.bin .lss (.t 22) (.t 24))⟩])
      (.cond (.t 25)
       .skip
       (.exit 0)))
     (.seq (.block 1 (.seq (.reg [⟨(some 29), none, .q (.mv (.t 0))⟩,
          ⟨(some 30), none, .c (.call 34 [(.t 29)])⟩,
          ⟨(some 28), none, .q (.mv (.t 30))⟩,
          ⟨(some 31), none, .q (.ext (.t 28) 0)⟩,
          ⟨(some 32), none, .q (.ext (.t 28) 1)⟩,
          ⟨(some 8), none, .q (.mv (.t 31))⟩,
          ⟨(some 9), none, .q (.mv (.t 32))⟩])
       (.seq (.reg [⟨(some 33), none, .q (.mv (.t 6))⟩,
          ⟨(some 34), none, .q (.mv (.t 7))⟩,
          ⟨(some 35), none, .q (.mv (.t 0))⟩,
          ⟨(some 36), none, .q (.mv (.t 9))⟩,
          ⟨(some 37), none, .q (.slt (.t 35) none (some (.t 36)))⟩,
          ⟨(some 38), none, .q (.ixs 1 (.t 33) (.t 34))⟩,
          ⟨none, none, .m (.st false 1 (.t 38) (.t 37))⟩])
       (.reg [⟨(some 39), none, .q (.mv (.t 0))⟩,
         ⟨(some 40), none, .q (.mv (.t 9))⟩,
         ⟨(some 41), none, .q (.slt (.t 39) (some (.t 40)) none)⟩,
         ⟨(some 0), none, .q (.mv (.t 41))⟩]))))
     (.reg [⟨(some 26), none, .q (.mv (.t 7))⟩,
       ⟨(some 27), none, .q (.bin .add (.t 26) (.c (.int .i64 1)))⟩,
       ⟨(some 7), none, .q (.mv (.t 27))⟩]))))))
  (.seq (.seq (.reg [⟨(some 42), none, .q (.mv (.t 1))⟩,
      ⟨(some 43), none, .q (.bin .gtr (.t 42) (.c (.int .i64 0)))⟩])
   (.cond (.t 43)
    (.reg [⟨(some 44), none, .q (.mv (.t 6))⟩,
      ⟨(some 45), none, .q (.mv (.t 1))⟩,
      ⟨(some 46), none, .q (.bin .sub (.t 45) (.c (.int .i64 1)))⟩,
      ⟨(some 47), none, .q (.mv (.t 0))⟩,
      ⟨(some 48), none, .q (.ixs 1 (.t 44) (.t 46))⟩,
      ⟨none, none, .m (.st false 1 (.t 48) (.t 47))⟩])
    .skip))
  (.seq (.reg [⟨(some 49), none, .q (.mv (.t 6))⟩,
     ⟨(some 4), none, .q (.mv (.t 49))⟩])
  .ret)))))))⟩
theorem l_strings_explode : lowF PA f_strings_explode 2 [.k [0, 1, 6, 7]] = some c_strings_explode := by kernel_rfl
abbrev f_strings_Count : FuncId := 31
def c_strings_Count : AF := ⟨2, 34, [.t 4],
  (.seq (.reg [⟨(some 4), none, .q (.mv (.c (.int .i64 0)))⟩])
  (.seq (.seq (.reg [⟨(some 7), none, .q (.mv (.t 1))⟩,
      ⟨(some 8), none, .q (.lns (.t 7))⟩,
      ⟨(some 9), none, .q (.bin .eql (.t 8) (.c (.int .i64 0)))⟩])
   (.cond (.t 9)
    (.seq (.reg [⟨(some 10), none, .q (.mv (.t 0))⟩,
       ⟨(some 11), none, .c (.call 33 [(.t 10)])⟩,
       ⟨(some 12), none, .q (.bin .add (.t 11) (.c (.int .i64 1)))⟩,
       ⟨(some 4), none, .q (.mv (.t 12))⟩])
    .ret)
    .skip))
  (.seq (.seq (.reg [⟨(some 13), none, .q (.mv (.t 1))⟩,
      ⟨(some 14), none, .q (.lns (.t 13))⟩,
      ⟨(some 15), none, .q (.bin .eql (.t 14) (.c (.int .i64 1)))⟩])
   (.cond (.t 15)
    (.seq (.reg [⟨(some 16), none, .q (.mv (.t 0))⟩,
       ⟨(some 17), none, .q (.mv (.t 1))⟩,
       ⟨(some 18), none, .q (.ixt (.t 17) (.c (.int .i64 0)))⟩,
       ⟨(some 19), none, .q (.xts false (.t 16) (.t 18))⟩,
       ⟨(some 4), none, .q (.mv (.t 19))⟩])
    .ret)
    .skip))
  (.seq (.reg [⟨(some 5), none, .q (.mv (.c (.int .i64 0)))⟩])
  (.block 0 (.loop [0, 1, 5] (.block 1 (.seq (.reg [⟨(some 20), none, .q (.mv (.t 0))⟩,
        ⟨(some 21), none, .q (.mv (.t 1))⟩,
        ⟨(some 22), none, .c (.call 32 [(.t 20), (.t 21)])⟩,
        ⟨(some 6), none, .q (.mv (.t 22))⟩])
     (.seq (.seq (.reg [⟨(some 23), none, .q (.mv (.t 6))⟩,
         ⟨(some 24), none, .q (.bin .eql (.t 23) (.c (.int .i64 (-1))))⟩])
      (.cond (.t 24)
       (.seq (.reg [⟨(some 25), none, .q (.mv (.t 5))⟩,
          ⟨(some 4), none, .q (.mv (.t 25))⟩])
       .ret)
       .skip))
     (.seq (.reg [⟨(some 26), none, .q (.mv (.t 5))⟩,
        ⟨(some 27), none, .q (.bin .add (.t 26) (.c (.int .i64 1)))⟩,
        ⟨(some 5), none, .q (.mv (.t 27))⟩])
     (.reg [⟨(some 28), none, .q (.mv (.t 0))⟩,
       ⟨(some 29), none, .q (.mv (.t 6))⟩,
       ⟨(some 30), none, .q (.mv (.t 1))⟩,
       ⟨(some 31), none, .q (.lns (.t 30))⟩,
       ⟨(some 32), none, .q (.bin .add (.t 29) (.t 31))⟩,
       ⟨(some 33), none, .q (.slt (.t 28) (some (.t 32)) none)⟩,
       ⟨(some 0), none, .q (.mv (.t 33))⟩])))))))))))⟩
theorem l_strings_Count : lowF PA f_strings_Count 2 [.k [0, 1, 5]] = some c_strings_Count := by kernel_rfl
abbrev f_strings_Index : FuncId := 32
def c_strings_Index : AF := ⟨2, 8, [.t 4],
  (.seq (.reg [⟨(some 4), none, .q (.mv (.c (.int .i64 0)))⟩])
  (.seq (.reg [⟨(some 5), none, .q (.mv (.t 0))⟩,
     ⟨(some 6), none, .q (.mv (.t 1))⟩,
     ⟨(some 7), none, .c (.call 36 [(.t 5), (.t 6)])⟩,
     ⟨(some 4), none, .q (.mv (.t 7))⟩])
  .ret))⟩
theorem l_strings_Index : lowF PA f_strings_Index 2 [] = some c_strings_Index := by kernel_rfl
abbrev f_unicode_utf8_RuneCountInString : FuncId := 33
def c_unicode_utf8_RuneCountInString : AF := ⟨1, 10, [.t 2],
  (.seq (.reg [⟨(some 2), none, .q (.mv (.c (.int .i64 0)))⟩])
  (.seq (.seq .bad
   (.block 0 (.loop [] (.seq .bad
     (.seq (.cond (.t 6)
       .skip
       (.exit 0))
     (.block 1 (.reg [⟨(some 7), none, .q (.mv (.t 2))⟩,
        ⟨(some 8), none, .q (.bin .add (.t 7) (.c (.int .i64 1)))⟩,
        ⟨(some 2), none, .q (.mv (.t 8))⟩])))))))
  (.seq (.reg [⟨(some 9), none, .q (.mv (.t 2))⟩,
     ⟨(some 2), none, .q (.mv (.t 9))⟩])
  .ret)))⟩
theorem l_unicode_utf8_RuneCountInString : lowF PA f_unicode_utf8_RuneCountInString 1 [.x 1, .k [], .x 2] = some c_unicode_utf8_RuneCountInString := by kernel_rfl
abbrev f_unicode_utf8_DecodeRuneInString : FuncId := 34
def c_unicode_utf8_DecodeRuneInString : AF := ⟨1, 19, [.t 2, .t 3],
  (.seq (.reg [⟨(some 2), none, .q (.mv (.c (.int .i32 0)))⟩,
     ⟨(some 3), none, .q (.mv (.c (.int .i64 0)))⟩])
  (.seq (.seq (.reg [⟨(some 4), none, .q (.mv (.t 0))⟩,
      ⟨(some 5), none, .q (.eqs .neq (.t 4) (.c (.string ⟨#[]⟩)))⟩,
      ⟨(some 6), none, .q (.mv (.t 5))⟩,
      ⟨(some 7), (some (6, true)), .q (.mv (.t 0))⟩,
      ⟨(some 8), (some (6, true)), .q (.ixt (.t 7) (.c (.int .i64 0)))⟩,
      ⟨(some 9), (some (6, true)), .q (.bin .lss (.t 8) (.c (.int .u8 128)))⟩,
      ⟨(some 10), none, .q (.pick (.t 6) (.t 9) (.c (.bool false)))⟩])
   (.cond (.t 10)
    (.seq (.reg [⟨(some 11), none, .q (.mv (.t 0))⟩,
       ⟨(some 12), none, .q (.ixt (.t 11) (.c (.int .i64 0)))⟩,
       ⟨(some 13), none, .q (.cvt .i32 (.t 12))⟩,
       ⟨(some 2), none, .q (.mv (.t 13))⟩,
       ⟨(some 3), none, .q (.mv (.c (.int .i64 1)))⟩])
    .ret)
    (.reg [⟨(some 15), none, .q (.mv (.t 0))⟩,
      ⟨(some 16), none, .c (.call 37 [(.t 15)])⟩,
      ⟨(some 14), none, .q (.mv (.t 16))⟩,
      ⟨(some 17), none, .q (.ext (.t 14) 0)⟩,
      ⟨(some 18), none, .q (.ext (.t 14) 1)⟩,
      ⟨(some 2), none, .q (.mv (.t 17))⟩,
      ⟨(some 3), none, .q (.mv (.t 18))⟩])))
  .ret))⟩
theorem l_unicode_utf8_DecodeRuneInString : lowF PA f_unicode_utf8_DecodeRuneInString 1 [] = some c_unicode_utf8_DecodeRuneInString := by kernel_rfl
abbrev f_internal_stringslite_Index : FuncId := 36
def c_internal_stringslite_Index : AF := ⟨2, 143, [.t 4],
  (.seq (.reg [⟨(some 4), none, .q (.mv (.c (.int .i64 0)))⟩])
  (.seq (.reg [⟨(some 14), none, .q (.mv (.t 1))⟩,
     ⟨(some 15), none, .q (.lns (.t 14))⟩,
     ⟨(some 5), none, .q (.mv (.t 15))⟩])
  (.seq (.block 0 (.seq (.reg [⟨(some 17), none, .q (.mv (.t 5))⟩,
       ⟨(some 18), none, .q (.bin .eql (.t 17) (.c (.int .i64 0)))⟩,
       ⟨(some 19), none, .q (.mv (.t 18))⟩,
       ⟨(some 20), (some (19, false)), .q (.mv (.t 1))⟩,
       ⟨(some 21), (some (19, false)), .q (.mv (.t 0))⟩,
       ⟨(some 22), (some (19, false)), .q (.eqs .eql (.t 20) (.t 21))⟩,
       ⟨(some 23), none, .q (.pick (.t 19) (.c (.bool true)) (.t 22))⟩,
       ⟨(some 16), none, .q (.mv (.t 23))⟩])
    (.cond (.t 16)
     (.seq (.reg [⟨(some 4), none, .q (.mv (.c (.int .i64 0)))⟩])
     .ret)
     (.seq (.reg [⟨(some 25), none, .q (.mv (.t 5))⟩,
        ⟨(some 26), none, .q (.bin .eql (.t 25) (.c (.int .i64 1)))⟩,
        ⟨(some 24), none, .q (.mv (.t 26))⟩])
     (.cond (.t 24)
      (.seq (.reg [⟨(some 27), none, .q (.mv (.t 0))⟩,
         ⟨(some 28), none, .q (.mv (.t 1))⟩,
         ⟨(some 29), none, .q (.ixt (.t 28) (.c (.int .i64 0)))⟩,
         ⟨(some 30), none, .c (.call 38 [(.t 27), (.t 29)])⟩,
         ⟨(some 4), none, .q (.mv (.t 30))⟩])
      .ret)
      (.seq (.reg [⟨(some 32), none, .q (.mv (.t 5))⟩,
         ⟨(some 33), none, .q (.mv (.t 0))⟩,
         ⟨(some 34), none, .q (.lns (.t 33))⟩,
         ⟨(some 35), none, .q (.bin .geq (.t 32) (.t 34))⟩,
         ⟨(some 31), none, .q (.mv (.t 35))⟩])
      (.cond (.t 31)
       (.seq (.reg [⟨(some 4), none, .q (.mv (.c (.int .i64 (-1))))⟩])
       .ret)
       (.seq .bad
       (.cond (.t 36)
        (.seq (.reg [⟨(some 45), none, .q (.mv (.t 0))⟩,
           ⟨(some 46), none, .q (.mv (.t 1))⟩,
           ⟨(some 47), none, .c (.call 39 [(.t 45), (.t 46)])⟩,
           ⟨(some 4), none, .q (.mv (.t 47))⟩])
        .ret)
        .skip)))))))))
  (.seq (.reg [⟨(some 48), none, .q (.mv (.t 1))⟩,
     ⟨(some 49), none, .q (.ixt (.t 48) (.c (.int .i64 0)))⟩,
     ⟨(some 6), none, .q (.mv (.t 49))⟩])
  (.seq (.reg [⟨(some 50), none, .q (.mv (.t 1))⟩,
     ⟨(some 51), none, .q (.ixt (.t 50) (.c (.int .i64 1)))⟩,
     ⟨(some 7), none, .q (.mv (.t 51))⟩])
  (.seq (.reg [⟨(some 8), none, .q (.mv (.c (.int .i64 0)))⟩])
  (.seq (.reg [⟨(some 52), none, .q (.mv (.t 0))⟩,
     ⟨(some 53), none, .q (.lns (.t 52))⟩,
     ⟨(some 54), none, .q (.mv (.t 5))⟩,
     ⟨(some 55), none, .q (.bin .sub (.t 53) (.t 54))⟩,
     ⟨(some 56), none, .q (.bin .add (.t 55) (.c (.int .i64 1)))⟩,
     ⟨(some 9), none, .q (.mv (.t 56))⟩])
  (.seq (.reg [⟨(some 10), none, .q (.mv (.c (.int .i64 0)))⟩])
  (.seq (.block 1 (.loop [0, 1, 5, 6, 7, 8, 9, 10] (.seq (.seq (.reg [⟨(some 57), none, .q (.mv (.t 8))⟩,
         ⟨(some 58), none, .q (.mv (.t 9))⟩,
         ⟨(some 59), none, .q (.bin .lss (.t 57) (.t 58))⟩])
      (.cond (.t 59)
       .skip
       (.exit 1)))
     (.block 2 (.seq (.seq (.reg [⟨(some 60), none, .q (.mv (.t 0))⟩,
          ⟨(some 61), none, .q (.mv (.t 8))⟩,
          ⟨(some 62), none, .q (.ixt (.t 60) (.t 61))⟩,
          ⟨(some 63), none, .q (.mv (.t 6))⟩,
          ⟨(some 64), none, .q (.bin .neq (.t 62) (.t 63))⟩])
       (.cond (.t 64)
        (.seq (.reg [⟨(some 65), none, .q (.mv (.t 0))⟩,
           ⟨(some 66), none, .q (.mv (.t 8))⟩,
           ⟨(some 67), none, .q (.bin .add (.t 66) (.c (.int .i64 1)))⟩,
           ⟨(some 68), none, .q (.mv (.t 9))⟩,
           ⟨(some 69), none, .q (.slt (.t 65) (some (.t 67)) (some (.t 68)))⟩,
           ⟨(some 70), none, .q (.mv (.t 6))⟩,
           ⟨(some 71), none, .c (.call 38 [(.t 69), (.t 70)])⟩,
           ⟨(some 11), none, .q (.mv (.t 71))⟩])
        (.seq (.seq (.reg [⟨(some 72), none, .q (.mv (.t 11))⟩,
            ⟨(some 73), none, .q (.bin .lss (.t 72) (.c (.int .i64 0)))⟩])
         (.cond (.t 73)
          (.seq (.reg [⟨(some 4), none, .q (.mv (.c (.int .i64 (-1))))⟩])
          .ret)
          .skip))
        (.reg [⟨(some 74), none, .q (.mv (.t 8))⟩,
          ⟨(some 75), none, .q (.mv (.t 11))⟩,
          ⟨(some 76), none, .q (.bin .add (.t 75) (.c (.int .i64 1)))⟩,
          ⟨(some 77), none, .q (.bin .add (.t 74) (.t 76))⟩,
          ⟨(some 8), none, .q (.mv (.t 77))⟩])))
        .skip))
      (.seq (.seq (.reg [⟨(some 78), none, .q (.mv (.t 0))⟩,
          ⟨(some 79), none, .q (.mv (.t 8))⟩,
          ⟨(some 80), none, .q (.bin .add (.t 79) (.c (.int .i64 1)))⟩,
          ⟨(some 81), none, .q (.ixt (.t 78) (.t 80))⟩,
          ⟨(some 82), none, .q (.mv (.t 7))⟩,
          ⟨(some 83), none, .q (.bin .eql (.t 81) (.t 82))⟩,
          ⟨(some 84), none, .q (.mv (.t 83))⟩,
          ⟨(some 85), (some (84, true)), .q (.mv (.t 0))⟩,
          ⟨(some 86), (some (84, true)), .q (.mv (.t 8))⟩,
          ⟨(some 87), (some (84, true)), .q (.mv (.t 8))⟩,
          ⟨(some 88), (some (84, true)), .q (.mv (.t 5))⟩,
          ⟨(some 89), (some (84, true)), .q (.bin .add (.t 87) (.t 88))⟩,
          ⟨(some 90), (some (84, true)), .q (.slt (.t 85) (some (.t 86)) (some (.t 89)))⟩,
          ⟨(some 91), (some (84, true)), .q (.mv (.t 1))⟩,
          ⟨(some 92), (some (84, true)), .q (.eqs .eql (.t 90) (.t 91))⟩,
          ⟨(some 93), none, .q (.pick (.t 84) (.t 92) (.c (.bool false)))⟩])
       (.cond (.t 93)
        (.seq (.reg [⟨(some 94), none, .q (.mv (.t 8))⟩,
           ⟨(some 4), none, .q (.mv (.t 94))⟩])
        .ret)
        .skip))
      (.seq (.reg [⟨(some 95), none, .q (.mv (.t 8))⟩,
         ⟨(some 96), none, .q (.bin .add (.t 95) (.c (.int .i64 1)))⟩,
         ⟨(some 8), none, .q (.mv (.t 96))⟩])
      (.seq (.reg [⟨(some 97), none, .q (.mv (.t 10))⟩,
         ⟨(some 98), none, .q (.bin .add (.t 97) (.c (.int .i64 1)))⟩,
         ⟨(some 10), none, .q (.mv (.t 98))⟩])
      (.seq .bad
      (.cond (.t 107)
       (.seq (.reg [⟨(some 108), none, .q (.mv (.t 0))⟩,
          ⟨(some 109), none, .q (.mv (.t 8))⟩,
          ⟨(some 110), none, .q (.slt (.t 108) (some (.t 109)) none)⟩,
          ⟨(some 111), none, .q (.mv (.t 1))⟩,
          ⟨(some 112), none, .c (.call 39 [(.t 110), (.t 111)])⟩,
          ⟨(some 12), none, .q (.mv (.t 112))⟩])
       (.seq (.seq (.reg [⟨(some 113), none, .q (.mv (.t 12))⟩,
           ⟨(some 114), none, .q (.bin .geq (.t 113) (.c (.int .i64 0)))⟩])
        (.cond (.t 114)
         (.seq (.reg [⟨(some 115), none, .q (.mv (.t 12))⟩,
            ⟨(some 116), none, .q (.mv (.t 8))⟩,
            ⟨(some 117), none, .q (.bin .add (.t 115) (.t 116))⟩,
            ⟨(some 4), none, .q (.mv (.t 117))⟩])
         .ret)
         .skip))
       (.seq (.reg [⟨(some 4), none, .q (.mv (.c (.int .i64 (-1))))⟩])
       .ret)))
       (.seq .bad
       (.cond (.t 132)
        (.seq (.reg [⟨(some 133), none, .q (.mv (.t 0))⟩,
           ⟨(some 134), none, .q (.mv (.t 8))⟩,
           ⟨(some 135), none, .q (.slt (.t 133) (some (.t 134)) none)⟩,
           ⟨(some 136), none, .q (.mv (.t 1))⟩,
           ⟨(some 137), none, .c (.call 41 [(.t 135), (.t 136)])⟩,
           ⟨(some 13), none, .q (.mv (.t 137))⟩])
        (.seq (.seq (.reg [⟨(some 138), none, .q (.mv (.t 13))⟩,
            ⟨(some 139), none, .q (.bin .lss (.t 138) (.c (.int .i64 0)))⟩])
         (.cond (.t 139)
          (.seq (.reg [⟨(some 4), none, .q (.mv (.c (.int .i64 (-1))))⟩])
          .ret)
          .skip))
        (.seq (.reg [⟨(some 140), none, .q (.mv (.t 8))⟩,
           ⟨(some 141), none, .q (.mv (.t 13))⟩,
           ⟨(some 142), none, .q (.bin .add (.t 140) (.t 141))⟩,
           ⟨(some 4), none, .q (.mv (.t 142))⟩])
        .ret)))
        .skip))))))))))))
  (.seq (.reg [⟨(some 4), none, .q (.mv (.c (.int .i64 (-1))))⟩])
  .ret))))))))))⟩
theorem l_internal_stringslite_Index : lowF PA f_internal_stringslite_Index 2 [.x 8, .k [0, 1, 5, 6, 7, 8, 9, 10], .x 25, .x 30] = some c_internal_stringslite_Index := by kernel_rfl
abbrev f_unicode_utf8_decodeRuneInStringSlow : FuncId := 37
def c_unicode_utf8_decodeRuneInStringSlow : AF := ⟨1, 117, [.t 2, .t 3],
  (.seq (.reg [⟨(some 2), none, .q (.mv (.c (.int .i32 0)))⟩,
     ⟨(some 3), none, .q (.mv (.c (.int .i64 0)))⟩])
  (.seq (.reg [⟨(some 13), none, .q (.mv (.t 0))⟩,
     ⟨(some 14), none, .q (.lns (.t 13))⟩,
     ⟨(some 4), none, .q (.mv (.t 14))⟩])
  (.seq (.seq (.reg [⟨(some 15), none, .q (.mv (.t 4))⟩,
      ⟨(some 16), none, .q (.bin .lss (.t 15) (.c (.int .i64 1)))⟩])
   (.cond (.t 16)
    (.seq (.reg [⟨(some 2), none, .q (.mv (.c (.int .i32 65533)))⟩,
       ⟨(some 3), none, .q (.mv (.c (.int .i64 0)))⟩])
    .ret)
    .skip))
  (.seq (.reg [⟨(some 17), none, .q (.mv (.t 0))⟩,
     ⟨(some 18), none, .q (.ixt (.t 17) (.c (.int .i64 0)))⟩,
     ⟨(some 5), none, .q (.mv (.t 18))⟩])
  (.seq .bad
  (.seq (.seq (.reg [⟨(some 22), none, .q (.mv (.t 6))⟩,
      ⟨(some 23), none, .q (.bin .geq (.t 22) (.c (.int .u8 240)))⟩])
   (.cond (.t 23)
    (.seq (.reg [⟨(some 24), none, .q (.mv (.t 6))⟩,
       ⟨(some 25), none, .q (.cvt .i32 (.t 24))⟩,
       ⟨(some 26), none, .q (.bin .shl (.t 25) (.c (.int .u64 31)))⟩,
       ⟨(some 27), none, .q (.bin .shr (.t 26) (.c (.int .u64 31)))⟩,
       ⟨(some 7), none, .q (.mv (.t 27))⟩])
    (.seq (.reg [⟨(some 28), none, .q (.mv (.t 0))⟩,
       ⟨(some 29), none, .q (.ixt (.t 28) (.c (.int .i64 0)))⟩,
       ⟨(some 30), none, .q (.cvt .i32 (.t 29))⟩,
       ⟨(some 31), none, .q (.mv (.t 7))⟩,
       ⟨(some 32), none, .q (.bin .andNot (.t 30) (.t 31))⟩,
       ⟨(some 33), none, .q (.mv (.t 7))⟩,
       ⟨(some 34), none, .q (.bin .and (.c (.int .i32 65533)) (.t 33))⟩,
       ⟨(some 35), none, .q (.bin .or (.t 32) (.t 34))⟩,
       ⟨(some 2), none, .q (.mv (.t 35))⟩,
       ⟨(some 3), none, .q (.mv (.c (.int .i64 1)))⟩])
    .ret))
    .skip))
  (.seq (.reg [⟨(some 36), none, .q (.mv (.t 6))⟩,
     ⟨(some 37), none, .q (.bin .and (.t 36) (.c (.int .u8 7)))⟩,
     ⟨(some 38), none, .q (.cvt .i64 (.t 37))⟩,
     ⟨(some 8), none, .q (.mv (.t 38))⟩])
  (.seq .bad
  (.seq (.seq (.reg [⟨(some 43), none, .q (.mv (.t 4))⟩,
      ⟨(some 44), none, .q (.mv (.t 8))⟩,
      ⟨(some 45), none, .q (.bin .lss (.t 43) (.t 44))⟩])
   (.cond (.t 45)
    (.seq (.reg [⟨(some 2), none, .q (.mv (.c (.int .i32 65533)))⟩,
       ⟨(some 3), none, .q (.mv (.c (.int .i64 1)))⟩])
    .ret)
    .skip))
  (.seq (.reg [⟨(some 46), none, .q (.mv (.t 0))⟩,
     ⟨(some 47), none, .q (.ixt (.t 46) (.c (.int .i64 1)))⟩,
     ⟨(some 10), none, .q (.mv (.t 47))⟩])
  (.seq (.seq (.reg [⟨(some 48), none, .q (.mv (.t 10))⟩,
      ⟨(some 49), none, .q (.fad 0 (.t 9))⟩,
      ⟨(some 50), none, .q (.ld false 1 (.t 49))⟩,
      ⟨(some 51), none, .q (.bin .lss (.t 48) (.t 50))⟩,
      ⟨(some 52), none, .q (.mv (.t 51))⟩,
      ⟨(some 53), (some (52, false)), .q (.fad 1 (.t 9))⟩,
      ⟨(some 54), (some (52, false)), .q (.ld false 1 (.t 53))⟩,
      ⟨(some 55), (some (52, false)), .q (.mv (.t 10))⟩,
      ⟨(some 56), (some (52, false)), .q (.bin .lss (.t 54) (.t 55))⟩,
      ⟨(some 57), none, .q (.pick (.t 52) (.c (.bool true)) (.t 56))⟩])
   (.cond (.t 57)
    (.seq (.reg [⟨(some 2), none, .q (.mv (.c (.int .i32 65533)))⟩,
       ⟨(some 3), none, .q (.mv (.c (.int .i64 1)))⟩])
    .ret)
    .skip))
  (.seq (.seq (.reg [⟨(some 58), none, .q (.mv (.t 8))⟩,
      ⟨(some 59), none, .q (.bin .leq (.t 58) (.c (.int .i64 2)))⟩])
   (.cond (.t 59)
    (.seq (.reg [⟨(some 60), none, .q (.mv (.t 5))⟩,
       ⟨(some 61), none, .q (.bin .and (.t 60) (.c (.int .u8 31)))⟩,
       ⟨(some 62), none, .q (.cvt .i32 (.t 61))⟩,
       ⟨(some 63), none, .q (.bin .shl (.t 62) (.c (.int .u64 6)))⟩,
       ⟨(some 64), none, .q (.mv (.t 10))⟩,
       ⟨(some 65), none, .q (.bin .and (.t 64) (.c (.int .u8 63)))⟩,
       ⟨(some 66), none, .q (.cvt .i32 (.t 65))⟩,
       ⟨(some 67), none, .q (.bin .or (.t 63) (.t 66))⟩,
       ⟨(some 2), none, .q (.mv (.t 67))⟩,
       ⟨(some 3), none, .q (.mv (.c (.int .i64 2)))⟩])
    .ret)
    .skip))
  (.seq (.reg [⟨(some 68), none, .q (.mv (.t 0))⟩,
     ⟨(some 69), none, .q (.ixt (.t 68) (.c (.int .i64 2)))⟩,
     ⟨(some 11), none, .q (.mv (.t 69))⟩])
  (.seq (.seq (.reg [⟨(some 70), none, .q (.mv (.t 11))⟩,
      ⟨(some 71), none, .q (.bin .lss (.t 70) (.c (.int .u8 128)))⟩,
      ⟨(some 72), none, .q (.mv (.t 71))⟩,
      ⟨(some 73), (some (72, false)), .q (.mv (.t 11))⟩,
      ⟨(some 74), (some (72, false)), .q (.bin .lss (.c (.int .u8 191)) (.t 73))⟩,
      ⟨(some 75), none, .q (.pick (.t 72) (.c (.bool true)) (.t 74))⟩])
   (.cond (.t 75)
    (.seq (.reg [⟨(some 2), none, .q (.mv (.c (.int .i32 65533)))⟩,
       ⟨(some 3), none, .q (.mv (.c (.int .i64 1)))⟩])
    .ret)
    .skip))
  (.seq (.seq (.reg [⟨(some 76), none, .q (.mv (.t 8))⟩,
      ⟨(some 77), none, .q (.bin .leq (.t 76) (.c (.int .i64 3)))⟩])
   (.cond (.t 77)
    (.seq (.reg [⟨(some 78), none, .q (.mv (.t 5))⟩,
       ⟨(some 79), none, .q (.bin .and (.t 78) (.c (.int .u8 15)))⟩,
       ⟨(some 80), none, .q (.cvt .i32 (.t 79))⟩,
       ⟨(some 81), none, .q (.bin .shl (.t 80) (.c (.int .u64 12)))⟩,
       ⟨(some 82), none, .q (.mv (.t 10))⟩,
       ⟨(some 83), none, .q (.bin .and (.t 82) (.c (.int .u8 63)))⟩,
       ⟨(some 84), none, .q (.cvt .i32 (.t 83))⟩,
       ⟨(some 85), none, .q (.bin .shl (.t 84) (.c (.int .u64 6)))⟩,
       ⟨(some 86), none, .q (.bin .or (.t 81) (.t 85))⟩,
       ⟨(some 87), none, .q (.mv (.t 11))⟩,
       ⟨(some 88), none, .q (.bin .and (.t 87) (.c (.int .u8 63)))⟩,
       ⟨(some 89), none, .q (.cvt .i32 (.t 88))⟩,
       ⟨(some 90), none, .q (.bin .or (.t 86) (.t 89))⟩,
       ⟨(some 2), none, .q (.mv (.t 90))⟩,
       ⟨(some 3), none, .q (.mv (.c (.int .i64 3)))⟩])
    .ret)
    .skip))
  (.seq (.reg [⟨(some 91), none, .q (.mv (.t 0))⟩,
     ⟨(some 92), none, .q (.ixt (.t 91) (.c (.int .i64 3)))⟩,
     ⟨(some 12), none, .q (.mv (.t 92))⟩])
  (.seq (.seq (.reg [⟨(some 93), none, .q (.mv (.t 12))⟩,
      ⟨(some 94), none, .q (.bin .lss (.t 93) (.c (.int .u8 128)))⟩,
      ⟨(some 95), none, .q (.mv (.t 94))⟩,
      ⟨(some 96), (some (95, false)), .q (.mv (.t 12))⟩,
      ⟨(some 97), (some (95, false)), .q (.bin .lss (.c (.int .u8 191)) (.t 96))⟩,
      ⟨(some 98), none, .q (.pick (.t 95) (.c (.bool true)) (.t 97))⟩])
   (.cond (.t 98)
    (.seq (.reg [⟨(some 2), none, .q (.mv (.c (.int .i32 65533)))⟩,
       ⟨(some 3), none, .q (.mv (.c (.int .i64 1)))⟩])
    .ret)
    .skip))
  (.seq (.reg [⟨(some 99), none, .q (.mv (.t 5))⟩,
     ⟨(some 100), none, .q (.bin .and (.t 99) (.c (.int .u8 7)))⟩,
     ⟨(some 101), none, .q (.cvt .i32 (.t 100))⟩,
     ⟨(some 102), none, .q (.bin .shl (.t 101) (.c (.int .u64 18)))⟩,
     ⟨(some 103), none, .q (.mv (.t 10))⟩,
     ⟨(some 104), none, .q (.bin .and (.t 103) (.c (.int .u8 63)))⟩,
     ⟨(some 105), none, .q (.cvt .i32 (.t 104))⟩,
     ⟨(some 106), none, .q (.bin .shl (.t 105) (.c (.int .u64 12)))⟩,
     ⟨(some 107), none, .q (.bin .or (.t 102) (.t 106))⟩,
     ⟨(some 108), none, .q (.mv (.t 11))⟩,
     ⟨(some 109), none, .q (.bin .and (.t 108) (.c (.int .u8 63)))⟩,
     ⟨(some 110), none, .q (.cvt .i32 (.t 109))⟩,
     ⟨(some 111), none, .q (.bin .shl (.t 110) (.c (.int .u64 6)))⟩,
     ⟨(some 112), none, .q (.bin .or (.t 107) (.t 111))⟩,
     ⟨(some 113), none, .q (.mv (.t 12))⟩,
     ⟨(some 114), none, .q (.bin .and (.t 113) (.c (.int .u8 63)))⟩,
     ⟨(some 115), none, .q (.cvt .i32 (.t 114))⟩,
     ⟨(some 116), none, .q (.bin .or (.t 112) (.t 115))⟩,
     ⟨(some 2), none, .q (.mv (.t 116))⟩,
     ⟨(some 3), none, .q (.mv (.c (.int .i64 4)))⟩])
  .ret))))))))))))))))))⟩
theorem l_unicode_utf8_decodeRuneInStringSlow : lowF PA f_unicode_utf8_decodeRuneInStringSlow 1 [.x 5, .x 10] = some c_unicode_utf8_decodeRuneInStringSlow := by kernel_rfl
abbrev f_internal_stringslite_IndexByte : FuncId := 38
def c_internal_stringslite_IndexByte : AF := ⟨2, 8, [.t 4],
  (.seq (.reg [⟨(some 4), none, .q (.mv (.c (.int .i64 0)))⟩])
  (.seq (.reg [⟨(some 5), none, .q (.mv (.t 0))⟩,
     ⟨(some 6), none, .q (.mv (.t 1))⟩,
     ⟨(some 7), none, .q (.xts true (.t 5) (.t 6))⟩,
     ⟨(some 4), none, .q (.mv (.t 7))⟩])
  .ret))⟩
theorem l_internal_stringslite_IndexByte : lowF PA f_internal_stringslite_IndexByte 2 [] = some c_internal_stringslite_IndexByte := by kernel_rfl
abbrev f_internal_bytealg_IndexRabinKarp_string_ : FuncId := 41
def c_internal_bytealg_IndexRabinKarp_string_ : AF := ⟨2, 81, [.t 4],
  (.seq (.reg [⟨(some 4), none, .q (.mv (.c (.int .i64 0)))⟩])
  (.seq (.reg [⟨(some 12), none, .q (.mv (.t 1))⟩,
     ⟨(some 13), none, .c (.call 43 [(.t 12)])⟩,
     ⟨(some 11), none, .q (.mv (.t 13))⟩,
     ⟨(some 14), none, .q (.ext (.t 11) 0)⟩,
     ⟨(some 15), none, .q (.ext (.t 11) 1)⟩,
     ⟨(some 5), none, .q (.mv (.t 14))⟩,
     ⟨(some 6), none, .q (.mv (.t 15))⟩])
  (.seq (.reg [⟨(some 16), none, .q (.mv (.t 1))⟩,
     ⟨(some 17), none, .q (.lns (.t 16))⟩,
     ⟨(some 7), none, .q (.mv (.t 17))⟩])
  (.seq (.reg [⟨(some 8), none, .q (.mv (.c (.int .u32 0)))⟩])
  (.seq (.seq (.reg [⟨(some 9), none, .q (.mv (.c (.int .i64 0)))⟩])
   (.block 0 (.loop [0, 1, 5, 6, 7, 8, 9] (.seq (.seq (.reg [⟨(some 18), none, .q (.mv (.t 9))⟩,
         ⟨(some 19), none, .q (.mv (.t 7))⟩,
         ⟨(some 20), none, .q (.bin .lss (.t 18) (.t 19))⟩])
      (.cond (.t 20)
       .skip
       (.exit 0)))
     (.seq (.block 1 (.reg [⟨(some 23), none, .q (.mv (.t 8))⟩,
         ⟨(some 24), none, .q (.bin .mul (.t 23) (.c (.int .u32 16777619)))⟩,
         ⟨(some 25), none, .q (.mv (.t 0))⟩,
         ⟨(some 26), none, .q (.mv (.t 9))⟩,
         ⟨(some 27), none, .q (.ixt (.t 25) (.t 26))⟩,
         ⟨(some 28), none, .q (.cvt .u32 (.t 27))⟩,
         ⟨(some 29), none, .q (.bin .add (.t 24) (.t 28))⟩,
         ⟨(some 8), none, .q (.mv (.t 29))⟩]))
     (.reg [⟨(some 21), none, .q (.mv (.t 9))⟩,
       ⟨(some 22), none, .q (.bin .add (.t 21) (.c (.int .i64 1)))⟩,
       ⟨(some 9), none, .q (.mv (.t 22))⟩]))))))
  (.seq (.seq (.reg [⟨(some 30), none, .q (.mv (.t 8))⟩,
      ⟨(some 31), none, .q (.mv (.t 5))⟩,
      ⟨(some 32), none, .q (.bin .eql (.t 30) (.t 31))⟩,
      ⟨(some 33), none, .q (.mv (.t 32))⟩,
      ⟨(some 34), (some (33, true)), .q (.mv (.t 0))⟩,
      ⟨(some 35), (some (33, true)), .q (.mv (.t 7))⟩,
      ⟨(some 36), (some (33, true)), .q (.slt (.t 34) none (some (.t 35)))⟩,
      ⟨(some 37), (some (33, true)), .q (.mv (.t 1))⟩,
      ⟨(some 38), (some (33, true)), .q (.eqs .eql (.t 36) (.t 37))⟩,
      ⟨(some 39), none, .q (.pick (.t 33) (.t 38) (.c (.bool false)))⟩])
   (.cond (.t 39)
    (.seq (.reg [⟨(some 4), none, .q (.mv (.c (.int .i64 0)))⟩])
    .ret)
    .skip))
  (.seq (.seq (.reg [⟨(some 40), none, .q (.mv (.t 7))⟩,
      ⟨(some 10), none, .q (.mv (.t 40))⟩])
   (.block 2 (.loop [0, 1, 5, 6, 7, 8, 10] (.seq (.seq (.reg [⟨(some 41), none, .q (.mv (.t 10))⟩,
         ⟨(some 42), none, .q (.mv (.t 0))⟩,
         ⟨(some 43), none, .q (.lns (.t 42))⟩,
         ⟨(some 44), none, .q (.bin .lss (.t 41) (.t 43))⟩])
      (.cond (.t 44)
       .skip
       (.exit 2)))
     (.block 3 (.seq (.reg [⟨(some 45), none, .q (.mv (.t 8))⟩,
         ⟨(some 46), none, .q (.bin .mul (.t 45) (.c (.int .u32 16777619)))⟩,
         ⟨(some 8), none, .q (.mv (.t 46))⟩])
      (.seq (.reg [⟨(some 47), none, .q (.mv (.t 8))⟩,
         ⟨(some 48), none, .q (.mv (.t 0))⟩,
         ⟨(some 49), none, .q (.mv (.t 10))⟩,
         ⟨(some 50), none, .q (.ixt (.t 48) (.t 49))⟩,
         ⟨(some 51), none, .q (.cvt .u32 (.t 50))⟩,
         ⟨(some 52), none, .q (.bin .add (.t 47) (.t 51))⟩,
         ⟨(some 8), none, .q (.mv (.t 52))⟩])
      (.seq (.reg [⟨(some 53), none, .q (.mv (.t 8))⟩,
         ⟨(some 54), none, .q (.mv (.t 6))⟩,
         ⟨(some 55), none, .q (.mv (.t 0))⟩,
         ⟨(some 56), none, .q (.mv (.t 10))⟩,
         ⟨(some 57), none, .q (.mv (.t 7))⟩,
         ⟨(some 58), none, .q (.bin .sub (.t 56) (.t 57))⟩,
         ⟨(some 59), none, .q (.ixt (.t 55) (.t 58))⟩,
         ⟨(some 60), none, .q (.cvt .u32 (.t 59))⟩,
         ⟨(some 61), none, .q (.bin .mul (.t 54) (.t 60))⟩,
         ⟨(some 62), none, .q (.bin .sub (.t 53) (.t 61))⟩,
         ⟨(some 8), none, .q (.mv (.t 62))⟩])
      (.seq (.reg [⟨(some 63), none, .q (.mv (.t 10))⟩,
         ⟨(some 64), none, .q (.bin .add (.t 63) (.c (.int .i64 1)))⟩,
         ⟨(some 10), none, .q (.mv (.t 64))⟩])
      (.seq (.reg [⟨(some 65), none, .q (.mv (.t 8))⟩,
         ⟨(some 66), none, .q (.mv (.t 5))⟩,
         ⟨(some 67), none, .q (.bin .eql (.t 65) (.t 66))⟩,
         ⟨(some 68), none, .q (.mv (.t 67))⟩,
         ⟨(some 69), (some (68, true)), .q (.mv (.t 0))⟩,
         ⟨(some 70), (some (68, true)), .q (.mv (.t 10))⟩,
         ⟨(some 71), (some (68, true)), .q (.mv (.t 7))⟩,
         ⟨(some 72), (some (68, true)), .q (.bin .sub (.t 70) (.t 71))⟩,
         ⟨(some 73), (some (68, true)), .q (.mv (.t 10))⟩,
         ⟨(some 74), (some (68, true)), .q (.slt (.t 69) (some (.t 72)) (some (.t 73)))⟩,
         ⟨(some 75), (some (68, true)), .q (.mv (.t 1))⟩,
         ⟨(some 76), (some (68, true)), .q (.eqs .eql (.t 74) (.t 75))⟩,
         ⟨(some 77), none, .q (.pick (.t 68) (.t 76) (.c (.bool false)))⟩])
      (.cond (.t 77)
       (.seq (.reg [⟨(some 78), none, .q (.mv (.t 10))⟩,
          ⟨(some 79), none, .q (.mv (.t 7))⟩,
          ⟨(some 80), none, .q (.bin .sub (.t 78) (.t 79))⟩,
          ⟨(some 4), none, .q (.mv (.t 80))⟩])
       .ret)
       .skip)))))))))))
  (.seq (.reg [⟨(some 4), none, .q (.mv (.c (.int .i64 (-1))))⟩])
  .ret))))))))⟩
theorem l_internal_bytealg_IndexRabinKarp_string_ : lowF PA f_internal_bytealg_IndexRabinKarp_string_ 2 [.k [0, 1, 5, 6, 7, 8, 9], .k [0, 1, 5, 6, 7, 8, 10]] = some c_internal_bytealg_IndexRabinKarp_string_ := by kernel_rfl
abbrev f_internal_bytealg_hashStr_string_ : FuncId := 43
def c_internal_bytealg_hashStr_string_ : AF := ⟨1, 39, [.t 2, .t 3],
  (.seq (.reg [⟨(some 2), none, .q (.mv (.c (.int .u32 0)))⟩,
     ⟨(some 3), none, .q (.mv (.c (.int .u32 0)))⟩])
  (.seq (.reg [⟨(some 4), none, .q (.mv (.c (.int .u32 0)))⟩])
  (.seq (.seq (.reg [⟨(some 5), none, .q (.mv (.c (.int .i64 0)))⟩])
   (.block 0 (.loop [0, 4, 5] (.seq (.seq (.reg [⟨(some 9), none, .q (.mv (.t 5))⟩,
         ⟨(some 10), none, .q (.mv (.t 0))⟩,
         ⟨(some 11), none, .q (.lns (.t 10))⟩,
         ⟨(some 12), none, .q (.bin .lss (.t 9) (.t 11))⟩])
      (.cond (.t 12)
       .skip
       (.exit 0)))
     (.seq (.block 1 (.reg [⟨(some 15), none, .q (.mv (.t 4))⟩,
         ⟨(some 16), none, .q (.bin .mul (.t 15) (.c (.int .u32 16777619)))⟩,
         ⟨(some 17), none, .q (.mv (.t 0))⟩,
         ⟨(some 18), none, .q (.mv (.t 5))⟩,
         ⟨(some 19), none, .q (.ixt (.t 17) (.t 18))⟩,
         ⟨(some 20), none, .q (.cvt .u32 (.t 19))⟩,
         ⟨(some 21), none, .q (.bin .add (.t 16) (.t 20))⟩,
         ⟨(some 4), none, .q (.mv (.t 21))⟩]))
     (.reg [⟨(some 13), none, .q (.mv (.t 5))⟩,
       ⟨(some 14), none, .q (.bin .add (.t 13) (.c (.int .i64 1)))⟩,
       ⟨(some 5), none, .q (.mv (.t 14))⟩]))))))
  (.seq (.reg [⟨(some 6), none, .q (.mv (.c (.int .u32 1)))⟩,
     ⟨(some 7), none, .q (.mv (.c (.int .u32 16777619)))⟩])
  (.seq (.seq (.reg [⟨(some 22), none, .q (.mv (.t 0))⟩,
      ⟨(some 23), none, .q (.lns (.t 22))⟩,
      ⟨(some 8), none, .q (.mv (.t 23))⟩])
   (.block 2 (.loop [4, 6, 7, 8] (.seq (.seq (.reg [⟨(some 24), none, .q (.mv (.t 8))⟩,
         ⟨(some 25), none, .q (.bin .gtr (.t 24) (.c (.int .i64 0)))⟩])
      (.cond (.t 25)
       .skip
       (.exit 2)))
     (.seq (.block 3 (.seq (.seq (.reg [⟨(some 28), none, .q (.mv (.t 8))⟩,
           ⟨(some 29), none, .q (.bin .and (.t 28) (.c (.int .i64 1)))⟩,
           ⟨(some 30), none, .q (.bin .neq (.t 29) (.c (.int .i64 0)))⟩])
        (.cond (.t 30)
         (.reg [⟨(some 31), none, .q (.mv (.t 6))⟩,
           ⟨(some 32), none, .q (.mv (.t 7))⟩,
           ⟨(some 33), none, .q (.bin .mul (.t 31) (.t 32))⟩,
           ⟨(some 6), none, .q (.mv (.t 33))⟩])
         .skip))
       (.reg [⟨(some 34), none, .q (.mv (.t 7))⟩,
         ⟨(some 35), none, .q (.mv (.t 7))⟩,
         ⟨(some 36), none, .q (.bin .mul (.t 34) (.t 35))⟩,
         ⟨(some 7), none, .q (.mv (.t 36))⟩])))
     (.reg [⟨(some 26), none, .q (.mv (.t 8))⟩,
       ⟨(some 27), none, .q (.bin .shr (.t 26) (.c (.int .u64 1)))⟩,
       ⟨(some 8), none, .q (.mv (.t 27))⟩]))))))
  (.seq (.reg [⟨(some 37), none, .q (.mv (.t 4))⟩,
     ⟨(some 38), none, .q (.mv (.t 6))⟩,
     ⟨(some 2), none, .q (.mv (.t 37))⟩,
     ⟨(some 3), none, .q (.mv (.t 38))⟩])
  .ret))))))⟩
theorem l_internal_bytealg_hashStr_string_ : lowF PA f_internal_bytealg_hashStr_string_ 1 [.k [0, 4, 5], .k [4, 6, 7, 8]] = some c_internal_bytealg_hashStr_string_ := by kernel_rfl
end Go.Proofs.YtgailliklpkjjaaDoor.Va
