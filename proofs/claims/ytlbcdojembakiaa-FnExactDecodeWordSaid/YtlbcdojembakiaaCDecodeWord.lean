/- The code of the functions that FnExactDecodeWord reaches, laid out for a walk: each is what the lowering makes of the program's own text. Condition: none. -/
import Derived.Test.YtlbcdojembakiaaVa1
import Derived.Test.YtlbcdojembakiaaProg
import Derived.KernelRfl
set_option linter.all false
set_option linter.unusedSimpArgs false
set_option linter.unusedVariables false
namespace Go.Proofs.Ytlbcdojembakiaa.Va
open Go
noncomputable abbrev PA : Program := Go.Proofs.Try.prog
abbrev f_laws_FnExactDecodeWord : FuncId := 5
def c_laws_FnExactDecodeWord : AF := ⟨4, 64, [.t 8],
  (.seq (.reg [⟨(some 4), none, .m (.box (.t 0))⟩,
     ⟨(some 8), none, .q (.mv (.c (.bool false)))⟩])
  (.seq (.seq (.reg [⟨(some 16), none, .q (.mv (.t 1))⟩,
      ⟨(some 17), none, .q (.len (.t 16))⟩,
      ⟨(some 18), none, .q (.bin .gtr (.t 17) (.c (.int .i64 1048576)))⟩])
   (.cond (.t 18)
    (.seq (.reg [⟨(some 8), none, .q (.mv (.c (.bool true)))⟩])
    .ret)
    .skip))
  (.seq (.reg [⟨(some 9), none, .q (.mv (.c (.int .i64 1048576)))⟩])
  (.seq (.reg [⟨(some 19), none, .q (.ld true 1 (.t 4))⟩,
     ⟨(some 20), none, .q (.mv (.t 9))⟩,
     ⟨(some 21), none, .c (.call 9 [(.t 19), (.t 20)])⟩,
     ⟨(some 9), none, .q (.mv (.t 21))⟩])
  (.seq (.seq (.reg [⟨(some 22), none, .q (.mv (.t 9))⟩,
      ⟨(some 23), none, .q (.bin .lss (.t 22) (.c (.int .i64 0)))⟩])
   (.cond (.t 23)
    (.seq (.reg [⟨(some 8), none, .q (.mv (.c (.bool true)))⟩])
    .ret)
    .skip))
  (.seq (.reg [⟨(some 25), none, .q (.ld true 1 (.t 4))⟩,
     ⟨(some 26), none, .c (.call 11 [(.t 25)])⟩,
     ⟨(some 27), none, .q (.mv (.t 1))⟩,
     ⟨(some 28), none, .c (.call 24 [(.t 27)])⟩,
     ⟨(some 29), none, .q (.mv (.t 2))⟩,
     ⟨(some 30), none, .q (.mv (.t 3))⟩,
     ⟨(some 31), none, .c (.call 23 [(.t 26), (.t 28), (.t 29), (.t 30)])⟩,
     ⟨(some 24), none, .q (.mv (.t 31))⟩,
     ⟨(some 32), none, .q (.ext (.t 24) 0)⟩,
     ⟨(some 33), none, .q (.ext (.t 24) 1)⟩,
     ⟨(some 10), none, .q (.mv (.t 32))⟩,
     ⟨(some 11), none, .q (.mv (.t 33))⟩])
  (.seq (.reg [⟨(some 34), none, .q (.ld true 1 (.t 4))⟩,
     ⟨(some 35), none, .c (.call 11 [(.t 34)])⟩,
     ⟨(some 12), none, .m (.alloc [(.v (.slice none 0 0))])⟩,
     ⟨none, none, .m (.st true 1 (.t 12) (.t 35))⟩])
  (.seq (.reg [⟨(some 36), none, .q (.mv (.t 1))⟩,
     ⟨(some 37), none, .c (.call 24 [(.t 36)])⟩,
     ⟨(some 13), none, .q (.mv (.t 37))⟩])
  (.seq (.reg [⟨(some 39), none, .q (.ld true 1 (.t 12))⟩,
     ⟨(some 40), none, .q (.mv (.t 13))⟩,
     ⟨(some 41), none, .q (.mv (.t 2))⟩,
     ⟨(some 42), none, .q (.mv (.t 3))⟩,
     ⟨(some 43), none, .c (.call 25 [(.t 39), (.t 40), (.t 41), (.t 42)])⟩,
     ⟨(some 38), none, .q (.mv (.t 43))⟩,
     ⟨(some 44), none, .q (.ext (.t 38) 0)⟩,
     ⟨(some 45), none, .q (.ext (.t 38) 1)⟩,
     ⟨(some 14), none, .q (.mv (.t 44))⟩,
     ⟨(some 15), none, .q (.mv (.t 45))⟩])
  (.seq (.seq (.reg [⟨(some 46), none, .q (.mv (.t 14))⟩,
      ⟨(some 47), none, .q (.mv (.t 10))⟩,
      ⟨(some 48), none, .q (.bin .neq (.t 46) (.t 47))⟩,
      ⟨(some 49), none, .q (.mv (.t 48))⟩,
      ⟨(some 50), (some (49, false)), .q (.mv (.t 15))⟩,
      ⟨(some 51), (some (49, false)), .q (.mv (.t 11))⟩,
      ⟨(some 52), (some (49, false)), .q (.bin .neq (.t 50) (.t 51))⟩,
      ⟨(some 53), none, .q (.pick (.t 49) (.c (.bool true)) (.t 52))⟩])
   (.cond (.t 53)
    (.seq (.reg [⟨(some 8), none, .q (.mv (.c (.bool false)))⟩])
    .ret)
    .skip))
  (.seq (.seq (.sch (.take 0 ⟨(some 54), none, .q (.ld true 1 (.t 12))⟩ (.take 1 ⟨(some 55), none, .q (.ld true 1 (.t 4))⟩ (.one ⟨(some 56), none, .c (.call 11 [(.t 55)])⟩ [1] (.one ⟨(some 57), none, .c (.call 14 [(.t 54), (.t 56)])⟩ [0] (.take 4 ⟨(some 58), none, .q (.un .not (.t 57))⟩ .done))))))
   (.cond (.t 58)
    (.seq (.reg [⟨(some 8), none, .q (.mv (.c (.bool false)))⟩])
    .ret)
    .skip))
  (.seq (.seq (.reg [⟨(some 59), none, .q (.mv (.t 13))⟩,
      ⟨(some 60), none, .q (.mv (.t 1))⟩,
      ⟨(some 61), none, .c (.call 24 [(.t 60)])⟩,
      ⟨(some 62), none, .c (.call 18 [(.t 59), (.t 61)])⟩,
      ⟨(some 63), none, .q (.un .not (.t 62))⟩])
   (.cond (.t 63)
    (.seq (.reg [⟨(some 8), none, .q (.mv (.c (.bool false)))⟩])
    .ret)
    .skip))
  (.seq (.reg [⟨(some 8), none, .q (.mv (.c (.bool true)))⟩])
  .ret)))))))))))))⟩
theorem l_laws_FnExactDecodeWord : lowF PA f_laws_FnExactDecodeWord 4 [.s (.take 0 (.take 1 (.one 2 (.one 3 (.take 4 .done)))))] = some c_laws_FnExactDecodeWord := by kernel_rfl
abbrev f_laws_szSpace : FuncId := 9
def c_laws_szSpace : AF := ⟨2, 12, [.t 4],
  (.seq (.reg [⟨(some 2), none, .m (.box (.t 0))⟩,
     ⟨(some 4), none, .q (.mv (.c (.int .i64 0)))⟩])
  (.seq (.reg [⟨(some 5), none, .q (.fad 0 (.t 2))⟩,
     ⟨(some 6), none, .q (.ld false 1 (.t 5))⟩,
     ⟨(some 7), none, .q (.mv (.t 1))⟩,
     ⟨(some 8), none, .c (.call 32 [(.t 6), (.t 7)])⟩,
     ⟨(some 1), none, .q (.mv (.t 8))⟩])
  (.seq (.seq (.reg [⟨(some 9), none, .q (.mv (.t 1))⟩,
      ⟨(some 10), none, .q (.bin .lss (.t 9) (.c (.int .i64 0)))⟩])
   (.cond (.t 10)
    (.seq (.reg [⟨(some 4), none, .q (.mv (.c (.int .i64 (-1))))⟩])
    .ret)
    .skip))
  (.seq (.reg [⟨(some 11), none, .q (.mv (.t 1))⟩,
     ⟨(some 4), none, .q (.mv (.t 11))⟩])
  .ret))))⟩
theorem l_laws_szSpace : lowF PA f_laws_szSpace 2 [] = some c_laws_szSpace := by kernel_rfl
abbrev f_laws_toSpace : FuncId := 11
def c_laws_toSpace : AF := ⟨1, 9, [.c 2 true 1],
  (.seq (.reg [⟨(some 1), none, .m (.box (.t 0))⟩,
     ⟨(some 2), none, .m (.alloc [(.v (.slice none 0 0))])⟩])
  (.seq (.reg [⟨(some 3), none, .m (.alloc [(.v (.slice none 0 0))])⟩])
  (.seq (.reg [⟨(some 4), none, .q (.fad 0 (.t 1))⟩,
     ⟨(some 5), none, .q (.ld false 1 (.t 4))⟩,
     ⟨(some 6), none, .c (.call 24 [(.t 5)])⟩,
     ⟨(some 7), none, .q (.fad 0 (.t 3))⟩,
     ⟨none, none, .m (.st false 1 (.t 7) (.t 6))⟩])
  (.seq (.reg [⟨(some 8), none, .q (.ld true 1 (.t 3))⟩,
     ⟨none, none, .m (.st true 1 (.t 2) (.t 8))⟩])
  .ret))))⟩
theorem l_laws_toSpace : lowF PA f_laws_toSpace 1 [] = some c_laws_toSpace := by kernel_rfl
abbrev f_laws_eqSpace : FuncId := 14
def c_laws_eqSpace : AF := ⟨2, 11, [.t 4],
  (.seq (.reg [⟨(some 2), none, .m (.box (.t 0))⟩,
     ⟨(some 3), none, .m (.box (.t 1))⟩,
     ⟨(some 4), none, .q (.mv (.c (.bool false)))⟩])
  (.seq (.seq (.reg [⟨(some 5), none, .q (.fad 0 (.t 2))⟩,
      ⟨(some 6), none, .q (.ld false 1 (.t 5))⟩,
      ⟨(some 7), none, .q (.fad 0 (.t 3))⟩,
      ⟨(some 8), none, .q (.ld false 1 (.t 7))⟩,
      ⟨(some 9), none, .c (.call 18 [(.t 6), (.t 8)])⟩,
      ⟨(some 10), none, .q (.un .not (.t 9))⟩])
   (.cond (.t 10)
    (.seq (.reg [⟨(some 4), none, .q (.mv (.c (.bool false)))⟩])
    .ret)
    .skip))
  (.seq (.reg [⟨(some 4), none, .q (.mv (.c (.bool true)))⟩])
  .ret)))⟩
theorem l_laws_eqSpace : lowF PA f_laws_eqSpace 2 [] = some c_laws_eqSpace := by kernel_rfl
abbrev f_laws_eqInt64S : FuncId := 18
def c_laws_eqInt64S : AF := ⟨2, 26, [.t 4],
  (.seq (.reg [⟨(some 4), none, .q (.mv (.c (.bool false)))⟩])
  (.seq (.seq (.reg [⟨(some 6), none, .q (.mv (.t 0))⟩,
      ⟨(some 7), none, .q (.len (.t 6))⟩,
      ⟨(some 8), none, .q (.mv (.t 1))⟩,
      ⟨(some 9), none, .q (.len (.t 8))⟩,
      ⟨(some 10), none, .q (.bin .neq (.t 7) (.t 9))⟩])
   (.cond (.t 10)
    (.seq (.reg [⟨(some 4), none, .q (.mv (.c (.bool false)))⟩])
    .ret)
    .skip))
  (.seq (.seq (.reg [⟨(some 5), none, .q (.mv (.c (.int .i64 0)))⟩])
   (.block 0 (.loop [0, 1, 5] (.seq (.seq (.reg [⟨(some 11), none, .q (.mv (.t 5))⟩,
         ⟨(some 12), none, .q (.mv (.t 0))⟩,
         ⟨(some 13), none, .q (.len (.t 12))⟩,
         ⟨(some 14), none, .q (.bin .lss (.t 11) (.t 13))⟩])
      (.cond (.t 14)
       .skip
       (.exit 0)))
     (.seq (.block 1 (.seq (.sch (.take 0 ⟨(some 17), none, .q (.mv (.t 0))⟩ (.take 1 ⟨(some 18), none, .q (.mv (.t 5))⟩ (.take 2 ⟨(some 19), none, .q (.ixs 1 (.t 17) (.t 18))⟩ (.take 3 ⟨(some 20), none, .q (.ld false 1 (.t 19))⟩ (.take 4 ⟨(some 21), none, .q (.mv (.t 1))⟩ (.take 5 ⟨(some 22), none, .q (.mv (.t 5))⟩ (.take 6 ⟨(some 23), none, .q (.ixs 1 (.t 21) (.t 22))⟩ (.take 7 ⟨(some 24), none, .q (.ld false 1 (.t 23))⟩ (.take 8 ⟨(some 25), none, .q (.bin .neq (.t 20) (.t 24))⟩ .done))))))))))
       (.cond (.t 25)
        (.seq (.reg [⟨(some 4), none, .q (.mv (.c (.bool false)))⟩])
        .ret)
        .skip)))
     (.reg [⟨(some 15), none, .q (.mv (.t 5))⟩,
       ⟨(some 16), none, .q (.bin .add (.t 15) (.c (.int .i64 1)))⟩,
       ⟨(some 5), none, .q (.mv (.t 16))⟩]))))))
  (.seq (.reg [⟨(some 4), none, .q (.mv (.c (.bool true)))⟩])
  .ret))))⟩
theorem l_laws_eqInt64S : lowF PA f_laws_eqInt64S 2 [.k [0, 1, 5], .s (.take 0 (.take 1 (.take 2 (.take 3 (.take 4 (.take 5 (.take 6 (.take 7 (.take 8 .done)))))))))] = some c_laws_eqInt64S := by kernel_rfl
abbrev f_spec_DecodeWord : FuncId := 23
def c_spec_DecodeWord : AF := ⟨4, 53, [.t 8, .t 9],
  (.seq (.reg [⟨(some 4), none, .m (.box (.t 0))⟩,
     ⟨(some 8), none, .q (.mv (.c (.int .i64 0)))⟩,
     ⟨(some 9), none, .q (.mv (.c (.int .i64 0)))⟩])
  (.seq (.reg [⟨(some 12), none, .q (.ld true 1 (.t 4))⟩,
     ⟨(some 13), none, .q (.mv (.t 1))⟩,
     ⟨(some 14), none, .q (.mv (.t 2))⟩,
     ⟨(some 15), none, .c (.call 45 [(.t 12), (.t 13), (.t 14)])⟩,
     ⟨(some 10), none, .q (.mv (.t 15))⟩])
  (.seq (.seq (.reg [⟨(some 16), none, .q (.mv (.t 10))⟩,
      ⟨(some 17), none, .q (.bin .eql (.t 16) (.c (.int .i64 0)))⟩,
      ⟨(some 18), none, .q (.mv (.t 17))⟩,
      ⟨(some 19), (some (18, true)), .q (.mv (.t 3))⟩,
      ⟨(some 20), (some (18, true)), .q (.ld true 1 (.t 4))⟩,
      ⟨(some 21), (some (18, true)), .c (.call 46 [(.t 20)])⟩,
      ⟨(some 22), (some (18, true)), .q (.bin .sub (.t 21) (.c (.int .i64 1)))⟩,
      ⟨(some 23), (some (18, true)), .c (.call 37 [(.t 19), (.c (.int .i64 0)), (.t 22)])⟩,
      ⟨(some 24), (some (18, true)), .q (.un .not (.t 23))⟩,
      ⟨(some 25), none, .q (.pick (.t 18) (.t 24) (.c (.bool false)))⟩])
   (.cond (.t 25)
    (.reg [⟨(some 10), none, .q (.mv (.c (.int .i64 2)))⟩])
    .skip))
  (.seq (.seq (.reg [⟨(some 26), none, .q (.mv (.t 10))⟩,
      ⟨(some 27), none, .q (.bin .eql (.t 26) (.c (.int .i64 0)))⟩,
      ⟨(some 28), none, .q (.mv (.t 27))⟩,
      ⟨(some 29), (some (28, true)), .q (.ld true 1 (.t 4))⟩,
      ⟨(some 30), (some (28, true)), .q (.mv (.t 1))⟩,
      ⟨(some 31), (some (28, true)), .q (.mv (.t 2))⟩,
      ⟨(some 32), (some (28, true)), .c (.call 47 [(.t 29), (.t 30), (.t 31)])⟩,
      ⟨(some 33), (some (28, true)), .q (.un .not (.t 32))⟩,
      ⟨(some 34), none, .q (.pick (.t 28) (.t 33) (.c (.bool false)))⟩])
   (.cond (.t 34)
    (.reg [⟨(some 10), none, .q (.mv (.c (.int .i64 5)))⟩])
    .skip))
  (.seq (.seq (.reg [⟨(some 35), none, .q (.mv (.t 10))⟩,
      ⟨(some 36), none, .q (.bin .neq (.t 35) (.c (.int .i64 0)))⟩])
   (.cond (.t 36)
    (.seq (.reg [⟨(some 37), none, .q (.mv (.t 10))⟩,
       ⟨(some 8), none, .q (.mv (.c (.int .i64 0)))⟩,
       ⟨(some 9), none, .q (.mv (.t 37))⟩])
    .ret)
    .skip))
  (.seq (.reg [⟨(some 11), none, .q (.mv (.c (.int .i64 0)))⟩])
  (.seq (.block 0 (.loop [1, 2, 3, 4, 11] (.seq (.seq (.sch (.take 0 ⟨(some 38), none, .q (.ld true 1 (.t 4))⟩ (.take 1 ⟨(some 39), none, .q (.mv (.t 1))⟩ (.take 2 ⟨(some 40), none, .q (.mv (.t 11))⟩ (.take 3 ⟨(some 41), none, .q (.ixs 1 (.t 39) (.t 40))⟩ (.take 4 ⟨(some 42), none, .q (.ld false 1 (.t 41))⟩ (.take 5 ⟨(some 43), none, .q (.mv (.t 3))⟩ (.take 7 ⟨(some 45), none, .q (.mv (.t 2))⟩ (.one ⟨(some 44), none, .c (.call 48 [(.t 38), (.t 42), (.t 43)])⟩ [4, 0] (.take 8 ⟨(some 46), none, .q (.bin .gtr (.t 44) (.t 45))⟩ .done))))))))))
      (.cond (.t 46)
       .skip
       (.exit 0)))
     (.block 1 (.reg [⟨(some 47), none, .q (.mv (.t 11))⟩,
        ⟨(some 48), none, .q (.bin .add (.t 47) (.c (.int .i64 1)))⟩,
        ⟨(some 11), none, .q (.mv (.t 48))⟩])))))
  (.seq (.reg [⟨(some 49), none, .q (.mv (.t 1))⟩,
     ⟨(some 50), none, .q (.mv (.t 11))⟩,
     ⟨(some 51), none, .q (.ixs 1 (.t 49) (.t 50))⟩,
     ⟨(some 52), none, .q (.ld false 1 (.t 51))⟩,
     ⟨(some 8), none, .q (.mv (.t 52))⟩,
     ⟨(some 9), none, .q (.mv (.c (.int .i64 0)))⟩])
  .ret))))))))⟩
theorem l_spec_DecodeWord : lowF PA f_spec_DecodeWord 4 [.k [1, 2, 3, 4, 11], .s (.take 0 (.take 1 (.take 2 (.take 3 (.take 4 (.take 5 (.take 7 (.one 6 (.take 8 .done)))))))))] = some c_spec_DecodeWord := by kernel_rfl
abbrev f_laws_toInt64S : FuncId := 24
def c_laws_toInt64S : AF := ⟨1, 22, [.t 2],
  (.seq (.reg [⟨(some 2), none, .q (.mv (.c (.slice none 0 0)))⟩])
  (.seq (.reg [⟨(some 5), none, .q (.mv (.t 0))⟩,
     ⟨(some 6), none, .q (.len (.t 5))⟩,
     ⟨(some 7), none, .m (.mks 1 (.v (.int .i64 0)) 8 (.t 6) (.t 6))⟩,
     ⟨(some 3), none, .q (.mv (.t 7))⟩])
  (.seq (.seq (.reg [⟨(some 4), none, .q (.mv (.c (.int .i64 0)))⟩])
   (.block 0 (.loop [0, 3, 4] (.seq (.seq (.reg [⟨(some 8), none, .q (.mv (.t 4))⟩,
         ⟨(some 9), none, .q (.mv (.t 0))⟩,
         ⟨(some 10), none, .q (.len (.t 9))⟩,
         ⟨(some 11), none, .q (.bin .lss (.t 8) (.t 10))⟩])
      (.cond (.t 11)
       .skip
       (.exit 0)))
     (.seq (.block 1 (.reg [⟨(some 14), none, .q (.mv (.t 3))⟩,
         ⟨(some 15), none, .q (.mv (.t 4))⟩,
         ⟨(some 16), none, .q (.mv (.t 0))⟩,
         ⟨(some 17), none, .q (.mv (.t 4))⟩,
         ⟨(some 18), none, .q (.ixs 1 (.t 16) (.t 17))⟩,
         ⟨(some 19), none, .q (.ld false 1 (.t 18))⟩,
         ⟨(some 20), none, .q (.ixs 1 (.t 14) (.t 15))⟩,
         ⟨none, none, .m (.st false 1 (.t 20) (.t 19))⟩]))
     (.reg [⟨(some 12), none, .q (.mv (.t 4))⟩,
       ⟨(some 13), none, .q (.bin .add (.t 12) (.c (.int .i64 1)))⟩,
       ⟨(some 4), none, .q (.mv (.t 13))⟩]))))))
  (.seq (.reg [⟨(some 21), none, .q (.mv (.t 3))⟩,
     ⟨(some 2), none, .q (.mv (.t 21))⟩])
  .ret))))⟩
theorem l_laws_toInt64S : lowF PA f_laws_toInt64S 1 [.k [0, 3, 4]] = some c_laws_toInt64S := by kernel_rfl
abbrev f_impl_DecodeWord : FuncId := 25
def c_impl_DecodeWord : AF := ⟨4, 37, [.t 8, .t 9],
  (.seq (.reg [⟨(some 4), none, .m (.box (.t 0))⟩,
     ⟨(some 6), none, .m (.box (.t 2))⟩,
     ⟨(some 7), none, .m (.box (.t 3))⟩,
     ⟨(some 8), none, .q (.mv (.c (.int .i64 0)))⟩,
     ⟨(some 9), none, .q (.mv (.c (.int .i64 0)))⟩])
  (.seq (.seq (.reg [⟨(some 12), none, .q (.ld true 1 (.t 4))⟩,
      ⟨(some 13), none, .q (.mv (.t 1))⟩,
      ⟨(some 14), none, .q (.ld false 1 (.t 7))⟩,
      ⟨(some 15), none, .m (.bsl 1 [(.t 14)])⟩,
      ⟨(some 16), none, .c (.call 49 [(.t 12), (.t 13), (.t 15)])⟩,
      ⟨(some 10), none, .q (.mv (.t 16))⟩])
   (.seq (.reg [⟨(some 17), none, .q (.mv (.t 10))⟩,
      ⟨(some 18), none, .q (.bin .neq (.t 17) (.c (.int .i64 0)))⟩])
   (.cond (.t 18)
    (.seq (.reg [⟨(some 19), none, .q (.mv (.t 10))⟩,
       ⟨(some 8), none, .q (.mv (.c (.int .i64 0)))⟩,
       ⟨(some 9), none, .q (.mv (.t 19))⟩])
    .ret)
    .skip)))
  (.seq (.block 0 (.seq (.reg [⟨(some 21), none, .q (.ld false 1 (.t 6))⟩,
       ⟨(some 22), none, .c (.call 50 [(.t 21)])⟩,
       ⟨(some 23), none, .q (.un .not (.t 22))⟩,
       ⟨(some 20), none, .q (.mv (.t 23))⟩])
    (.cond (.t 20)
     (.seq (.reg [⟨(some 8), none, .q (.mv (.c (.int .i64 0)))⟩,
        ⟨(some 9), none, .q (.mv (.c (.int .i64 2)))⟩])
     .ret)
     (.seq (.reg [⟨(some 25), none, .q (.ld true 1 (.t 4))⟩,
        ⟨(some 26), none, .q (.mv (.t 1))⟩,
        ⟨(some 27), none, .q (.ld false 1 (.t 6))⟩,
        ⟨(some 28), none, .c (.call 51 [(.t 25), (.t 26), (.t 27)])⟩,
        ⟨(some 29), none, .q (.un .not (.t 28))⟩,
        ⟨(some 24), none, .q (.mv (.t 29))⟩])
     (.cond (.t 24)
      (.seq (.reg [⟨(some 8), none, .q (.mv (.c (.int .i64 0)))⟩,
         ⟨(some 9), none, .q (.mv (.c (.int .i64 5)))⟩])
      .ret)
      .skip)))))
  (.seq (.reg [⟨(some 30), none, .q (.mv (.t 1))⟩,
     ⟨(some 31), none, .q (.mkf 53 [(.t 4), (.t 7), (.t 6)])⟩,
     ⟨(some 32), none, .c (.call 52 [(.t 30), (.t 31)])⟩,
     ⟨(some 11), none, .q (.mv (.t 32))⟩])
  (.seq (.reg [⟨(some 33), none, .q (.mv (.t 1))⟩,
     ⟨(some 34), none, .q (.mv (.t 11))⟩,
     ⟨(some 35), none, .q (.ixs 1 (.t 33) (.t 34))⟩,
     ⟨(some 36), none, .q (.ld false 1 (.t 35))⟩,
     ⟨(some 8), none, .q (.mv (.t 36))⟩,
     ⟨(some 9), none, .q (.mv (.c (.int .i64 0)))⟩])
  .ret)))))⟩
theorem l_impl_DecodeWord : lowF PA f_impl_DecodeWord 4 [] = some c_impl_DecodeWord := by kernel_rfl
abbrev f_laws_szInt64S : FuncId := 32
def c_laws_szInt64S : AF := ⟨2, 12, [.t 4],
  (.seq (.reg [⟨(some 4), none, .q (.mv (.c (.int .i64 0)))⟩])
  (.seq (.reg [⟨(some 5), none, .q (.mv (.t 1))⟩,
     ⟨(some 6), none, .q (.mv (.t 0))⟩,
     ⟨(some 7), none, .q (.len (.t 6))⟩,
     ⟨(some 8), none, .q (.bin .sub (.t 5) (.t 7))⟩,
     ⟨(some 1), none, .q (.mv (.t 8))⟩])
  (.seq (.seq (.reg [⟨(some 9), none, .q (.mv (.t 1))⟩,
      ⟨(some 10), none, .q (.bin .lss (.t 9) (.c (.int .i64 0)))⟩])
   (.cond (.t 10)
    (.seq (.reg [⟨(some 4), none, .q (.mv (.c (.int .i64 (-1))))⟩])
    .ret)
    .skip))
  (.seq (.reg [⟨(some 11), none, .q (.mv (.t 1))⟩,
     ⟨(some 4), none, .q (.mv (.t 11))⟩])
  .ret))))⟩
theorem l_laws_szInt64S : lowF PA f_laws_szInt64S 2 [] = some c_laws_szInt64S := by kernel_rfl
abbrev f_spec_l01In : FuncId := 37
def c_spec_l01In : AF := ⟨3, 15, [.t 6],
  (.seq (.reg [⟨(some 6), none, .q (.mv (.c (.bool false)))⟩])
  (.seq (.reg [⟨(some 7), none, .q (.mv (.t 0))⟩,
     ⟨(some 8), none, .q (.mv (.t 1))⟩,
     ⟨(some 9), none, .q (.bin .geq (.t 7) (.t 8))⟩,
     ⟨(some 10), none, .q (.mv (.t 9))⟩,
     ⟨(some 11), (some (10, true)), .q (.mv (.t 0))⟩,
     ⟨(some 12), (some (10, true)), .q (.mv (.t 2))⟩,
     ⟨(some 13), (some (10, true)), .q (.bin .leq (.t 11) (.t 12))⟩,
     ⟨(some 14), none, .q (.pick (.t 10) (.t 13) (.c (.bool false)))⟩,
     ⟨(some 6), none, .q (.mv (.t 14))⟩])
  .ret))⟩
theorem l_spec_l01In : lowF PA f_spec_l01In 3 [] = some c_spec_l01In := by kernel_rfl
abbrev f_spec_l02Code : FuncId := 45
def c_spec_l02Code : AF := ⟨3, 19, [.t 6],
  (.seq (.reg [⟨(some 3), none, .m (.box (.t 0))⟩,
     ⟨(some 6), none, .q (.mv (.c (.int .i64 0)))⟩])
  (.seq (.reg [⟨(some 8), none, .q (.ld true 1 (.t 3))⟩,
     ⟨(some 9), none, .q (.mv (.t 1))⟩,
     ⟨(some 10), none, .c (.call 55 [(.t 8), (.t 9)])⟩,
     ⟨(some 7), none, .q (.mv (.t 10))⟩])
  (.seq (.seq (.reg [⟨(some 11), none, .q (.mv (.t 7))⟩,
      ⟨(some 12), none, .q (.bin .eql (.t 11) (.c (.int .i64 0)))⟩,
      ⟨(some 13), none, .q (.mv (.t 12))⟩,
      ⟨(some 14), (some (13, true)), .q (.mv (.t 2))⟩,
      ⟨(some 15), (some (13, true)), .c (.call 37 [(.t 14), (.c (.int .i64 0)), (.c (.int .i64 8))])⟩,
      ⟨(some 16), (some (13, true)), .q (.un .not (.t 15))⟩,
      ⟨(some 17), none, .q (.pick (.t 13) (.t 16) (.c (.bool false)))⟩])
   (.cond (.t 17)
    (.reg [⟨(some 7), none, .q (.mv (.c (.int .i64 2)))⟩])
    .skip))
  (.seq (.reg [⟨(some 18), none, .q (.mv (.t 7))⟩,
     ⟨(some 6), none, .q (.mv (.t 18))⟩])
  .ret))))⟩
theorem l_spec_l02Code : lowF PA f_spec_l02Code 3 [] = some c_spec_l02Code := by kernel_rfl
abbrev f_spec_l01N : FuncId := 46
def c_spec_l01N : AF := ⟨1, 20, [.t 2],
  (.seq (.reg [⟨(some 1), none, .m (.box (.t 0))⟩,
     ⟨(some 2), none, .q (.mv (.c (.int .i64 0)))⟩])
  (.seq (.reg [⟨(some 3), none, .q (.mv (.c (.int .i64 1)))⟩])
  (.seq (.seq (.reg [⟨(some 4), none, .q (.mv (.c (.int .i64 0)))⟩])
   (.block 0 (.loop [1, 3, 4] (.seq (.seq (.reg [⟨(some 5), none, .q (.mv (.t 4))⟩,
         ⟨(some 6), none, .q (.fad 0 (.t 1))⟩,
         ⟨(some 7), none, .q (.ld false 1 (.t 6))⟩,
         ⟨(some 8), none, .q (.len (.t 7))⟩,
         ⟨(some 9), none, .q (.bin .lss (.t 5) (.t 8))⟩])
      (.cond (.t 9)
       .skip
       (.exit 0)))
     (.seq (.block 1 (.reg [⟨(some 12), none, .q (.mv (.t 3))⟩,
         ⟨(some 13), none, .q (.fad 0 (.t 1))⟩,
         ⟨(some 14), none, .q (.ld false 1 (.t 13))⟩,
         ⟨(some 15), none, .q (.mv (.t 4))⟩,
         ⟨(some 16), none, .q (.ixs 1 (.t 14) (.t 15))⟩,
         ⟨(some 17), none, .q (.ld false 1 (.t 16))⟩,
         ⟨(some 18), none, .q (.bin .mul (.t 12) (.t 17))⟩,
         ⟨(some 3), none, .q (.mv (.t 18))⟩]))
     (.reg [⟨(some 10), none, .q (.mv (.t 4))⟩,
       ⟨(some 11), none, .q (.bin .add (.t 10) (.c (.int .i64 1)))⟩,
       ⟨(some 4), none, .q (.mv (.t 11))⟩]))))))
  (.seq (.reg [⟨(some 19), none, .q (.mv (.t 3))⟩,
     ⟨(some 2), none, .q (.mv (.t 19))⟩])
  .ret))))⟩
theorem l_spec_l01N : lowF PA f_spec_l01N 1 [.k [1, 3, 4]] = some c_spec_l01N := by kernel_rfl
abbrev f_spec_l06Is : FuncId := 47
def c_spec_l06Is : AF := ⟨3, 24, [.t 6],
  (.seq (.reg [⟨(some 3), none, .m (.box (.t 0))⟩,
     ⟨(some 6), none, .q (.mv (.c (.bool false)))⟩])
  (.seq (.reg [⟨(some 9), none, .q (.ld true 1 (.t 3))⟩,
     ⟨(some 10), none, .q (.mv (.t 1))⟩,
     ⟨(some 11), none, .q (.mv (.t 2))⟩,
     ⟨(some 12), none, .c (.call 84 [(.t 9), (.t 10), (.t 11)])⟩,
     ⟨(some 7), none, .q (.mv (.t 12))⟩])
  (.seq (.seq (.reg [⟨(some 13), none, .q (.mv (.t 7))⟩,
      ⟨(some 14), none, .q (.len (.t 13))⟩,
      ⟨(some 15), none, .q (.mv (.c (.int .i64 0)))⟩])
   (.block 0 (.loop [7, 14, 15] (.seq (.reg [⟨(some 16), none, .q (.bin .lss (.t 15) (.t 14))⟩])
     (.seq (.cond (.t 16)
       .skip
       (.exit 0))
     (.seq (.block 1 (.seq (.reg [⟨(some 17), none, .q (.mv (.t 15))⟩,
          ⟨(some 8), none, .q (.mv (.t 17))⟩])
       (.seq (.reg [⟨(some 18), none, .q (.mv (.t 7))⟩,
          ⟨(some 19), none, .q (.mv (.t 8))⟩,
          ⟨(some 20), none, .q (.ixs 1 (.t 18) (.t 19))⟩,
          ⟨(some 21), none, .q (.ld false 1 (.t 20))⟩,
          ⟨(some 22), none, .q (.bin .neq (.t 21) (.c (.int .i64 1)))⟩])
       (.cond (.t 22)
        (.seq (.reg [⟨(some 6), none, .q (.mv (.c (.bool false)))⟩])
        .ret)
        .skip))))
     (.reg [⟨(some 23), none, .q (.bin .add (.t 15) (.c (.int .i64 1)))⟩,
       ⟨(some 15), none, .q (.mv (.t 23))⟩])))))))
  (.seq (.reg [⟨(some 6), none, .q (.mv (.c (.bool true)))⟩])
  .ret))))⟩
theorem l_spec_l06Is : lowF PA f_spec_l06Is 3 [.k [7, 14, 15]] = some c_spec_l06Is := by kernel_rfl
abbrev f_spec_l01Distance : FuncId := 48
def c_spec_l01Distance : AF := ⟨3, 49, [.t 6],
  (.seq (.reg [⟨(some 3), none, .m (.box (.t 0))⟩,
     ⟨(some 6), none, .q (.mv (.c (.int .i64 0)))⟩])
  (.seq (.reg [⟨(some 7), none, .q (.mv (.c (.int .i64 0)))⟩])
  (.seq (.seq (.reg [⟨(some 9), none, .q (.fad 0 (.t 3))⟩,
      ⟨(some 10), none, .q (.ld false 1 (.t 9))⟩,
      ⟨(some 11), none, .q (.len (.t 10))⟩,
      ⟨(some 12), none, .q (.bin .sub (.t 11) (.c (.int .i64 1)))⟩,
      ⟨(some 8), none, .q (.mv (.t 12))⟩])
   (.block 0 (.loop [1, 2, 3, 7, 8] (.seq (.seq (.reg [⟨(some 13), none, .q (.mv (.t 8))⟩,
         ⟨(some 14), none, .q (.bin .geq (.t 13) (.c (.int .i64 0)))⟩])
      (.cond (.t 14)
       .skip
       (.exit 0)))
     (.seq (.block 1 (.seq (.seq (.sch (.take 0 ⟨(some 17), none, .q (.mv (.t 1))⟩ (.take 1 ⟨(some 18), none, .q (.fad 0 (.t 3))⟩ (.take 2 ⟨(some 19), none, .q (.ld false 1 (.t 18))⟩ (.take 3 ⟨(some 20), none, .q (.mv (.t 8))⟩ (.take 4 ⟨(some 21), none, .q (.ixs 1 (.t 19) (.t 20))⟩ (.take 5 ⟨(some 22), none, .q (.ld false 1 (.t 21))⟩ (.take 6 ⟨(some 23), none, .q (.bin .rem (.t 17) (.t 22))⟩ (.take 7 ⟨(some 24), none, .q (.mv (.t 2))⟩ (.take 8 ⟨(some 25), none, .q (.fad 0 (.t 3))⟩ (.take 9 ⟨(some 26), none, .q (.ld false 1 (.t 25))⟩ (.take 10 ⟨(some 27), none, .q (.mv (.t 8))⟩ (.take 11 ⟨(some 28), none, .q (.ixs 1 (.t 26) (.t 27))⟩ (.take 12 ⟨(some 29), none, .q (.ld false 1 (.t 28))⟩ (.take 13 ⟨(some 30), none, .q (.bin .rem (.t 24) (.t 29))⟩ (.take 14 ⟨(some 31), none, .q (.bin .neq (.t 23) (.t 30))⟩ .done))))))))))))))))
        (.cond (.t 31)
         (.reg [⟨(some 32), none, .q (.mv (.t 7))⟩,
           ⟨(some 33), none, .q (.bin .add (.t 32) (.c (.int .i64 1)))⟩,
           ⟨(some 7), none, .q (.mv (.t 33))⟩])
         .skip))
       (.seq (.reg [⟨(some 34), none, .q (.mv (.t 1))⟩,
          ⟨(some 35), none, .q (.fad 0 (.t 3))⟩,
          ⟨(some 36), none, .q (.ld false 1 (.t 35))⟩,
          ⟨(some 37), none, .q (.mv (.t 8))⟩,
          ⟨(some 38), none, .q (.ixs 1 (.t 36) (.t 37))⟩,
          ⟨(some 39), none, .q (.ld false 1 (.t 38))⟩,
          ⟨(some 40), none, .q (.bin .quo (.t 34) (.t 39))⟩,
          ⟨(some 1), none, .q (.mv (.t 40))⟩])
       (.reg [⟨(some 41), none, .q (.mv (.t 2))⟩,
         ⟨(some 42), none, .q (.fad 0 (.t 3))⟩,
         ⟨(some 43), none, .q (.ld false 1 (.t 42))⟩,
         ⟨(some 44), none, .q (.mv (.t 8))⟩,
         ⟨(some 45), none, .q (.ixs 1 (.t 43) (.t 44))⟩,
         ⟨(some 46), none, .q (.ld false 1 (.t 45))⟩,
         ⟨(some 47), none, .q (.bin .quo (.t 41) (.t 46))⟩,
         ⟨(some 2), none, .q (.mv (.t 47))⟩]))))
     (.reg [⟨(some 15), none, .q (.mv (.t 8))⟩,
       ⟨(some 16), none, .q (.bin .sub (.t 15) (.c (.int .i64 1)))⟩,
       ⟨(some 8), none, .q (.mv (.t 16))⟩]))))))
  (.seq (.reg [⟨(some 48), none, .q (.mv (.t 7))⟩,
     ⟨(some 6), none, .q (.mv (.t 48))⟩])
  .ret))))⟩
theorem l_spec_l01Distance : lowF PA f_spec_l01Distance 3 [.k [1, 2, 3, 7, 8], .s (.take 0 (.take 1 (.take 2 (.take 3 (.take 4 (.take 5 (.take 6 (.take 7 (.take 8 (.take 9 (.take 10 (.take 11 (.take 12 (.take 13 (.take 14 .done)))))))))))))))] = some c_spec_l01Distance := by kernel_rfl
abbrev f_impl_codeCode : FuncId := 49
def c_impl_codeCode : AF := ⟨3, 18, [.t 6],
  (.seq (.reg [⟨(some 3), none, .m (.box (.t 0))⟩,
     ⟨(some 6), none, .q (.mv (.c (.int .i64 0)))⟩])
  (.seq (.seq (.reg [⟨(some 8), none, .q (.ld true 1 (.t 3))⟩,
      ⟨(some 9), none, .q (.mv (.t 2))⟩,
      ⟨(some 10), none, .c (.call 85 [(.t 8), (.t 9)])⟩,
      ⟨(some 7), none, .q (.mv (.t 10))⟩])
   (.seq (.reg [⟨(some 11), none, .q (.mv (.t 7))⟩,
      ⟨(some 12), none, .q (.bin .neq (.t 11) (.c (.int .i64 0)))⟩])
   (.cond (.t 12)
    (.seq (.reg [⟨(some 13), none, .q (.mv (.t 7))⟩,
       ⟨(some 6), none, .q (.mv (.t 13))⟩])
    .ret)
    .skip)))
  (.seq (.seq (.reg [⟨(some 14), none, .q (.ld true 1 (.t 3))⟩,
      ⟨(some 15), none, .q (.mv (.t 1))⟩,
      ⟨(some 16), none, .c (.call 86 [(.t 14), (.t 15)])⟩,
      ⟨(some 17), none, .q (.un .not (.t 16))⟩])
   (.cond (.t 17)
    (.seq (.reg [⟨(some 6), none, .q (.mv (.c (.int .i64 2)))⟩])
    .ret)
    .skip))
  (.seq (.reg [⟨(some 6), none, .q (.mv (.c (.int .i64 0)))⟩])
  .ret))))⟩
theorem l_impl_codeCode : lowF PA f_impl_codeCode 3 [] = some c_impl_codeCode := by kernel_rfl
abbrev f_impl_isRadius : FuncId := 50
def c_impl_isRadius : AF := ⟨1, 9, [.t 2],
  (.seq (.reg [⟨(some 2), none, .q (.mv (.c (.bool false)))⟩])
  (.seq (.reg [⟨(some 3), none, .q (.mv (.t 0))⟩,
     ⟨(some 4), none, .q (.bin .geq (.t 3) (.c (.int .i64 0)))⟩,
     ⟨(some 5), none, .q (.mv (.t 4))⟩,
     ⟨(some 6), (some (5, true)), .q (.mv (.t 0))⟩,
     ⟨(some 7), (some (5, true)), .q (.bin .leq (.t 6) (.c (.int .i64 8)))⟩,
     ⟨(some 8), none, .q (.pick (.t 5) (.t 7) (.c (.bool false)))⟩,
     ⟨(some 2), none, .q (.mv (.t 8))⟩])
  .ret))⟩
theorem l_impl_isRadius : lowF PA f_impl_isRadius 1 [] = some c_impl_isRadius := by kernel_rfl
abbrev f_impl_isPerfect : FuncId := 51
def c_impl_isPerfect : AF := ⟨3, 13, [.t 6],
  (.seq (.reg [⟨(some 3), none, .m (.box (.t 0))⟩,
     ⟨(some 6), none, .q (.mv (.c (.bool false)))⟩])
  (.seq (.reg [⟨(some 7), none, .q (.ld true 1 (.t 3))⟩,
     ⟨(some 8), none, .q (.mv (.t 1))⟩,
     ⟨(some 9), none, .q (.mv (.t 2))⟩,
     ⟨(some 10), none, .c (.call 88 [(.t 7), (.t 8), (.t 9)])⟩,
     ⟨(some 11), none, .c (.call 87 [(.t 10), (.f 89)])⟩,
     ⟨(some 12), none, .q (.un .not (.t 11))⟩,
     ⟨(some 6), none, .q (.mv (.t 12))⟩])
  .ret))⟩
theorem l_impl_isPerfect : lowF PA f_impl_isPerfect 3 [] = some c_impl_isPerfect := by kernel_rfl
abbrev f_slices_IndexFunc___int64_int64_ : FuncId := 52
def c_slices_IndexFunc___int64_int64_ : AF := ⟨2, 19, [.t 4],
  (.seq (.reg [⟨(some 4), none, .q (.mv (.c (.int .i64 0)))⟩])
  (.seq (.seq (.reg [⟨(some 6), none, .q (.mv (.t 0))⟩,
      ⟨(some 7), none, .q (.len (.t 6))⟩,
      ⟨(some 8), none, .q (.mv (.c (.int .i64 0)))⟩])
   (.block 0 (.loop [0, 1, 7, 8] (.seq (.reg [⟨(some 9), none, .q (.bin .lss (.t 8) (.t 7))⟩])
     (.seq (.cond (.t 9)
       .skip
       (.exit 0))
     (.seq (.block 1 (.seq (.reg [⟨(some 10), none, .q (.mv (.t 8))⟩,
          ⟨(some 5), none, .q (.mv (.t 10))⟩])
       (.seq (.reg [⟨(some 11), none, .q (.mv (.t 1))⟩,
          ⟨(some 12), none, .q (.mv (.t 0))⟩,
          ⟨(some 13), none, .q (.mv (.t 5))⟩,
          ⟨(some 14), none, .q (.ixs 1 (.t 12) (.t 13))⟩,
          ⟨(some 15), none, .q (.ld false 1 (.t 14))⟩,
          ⟨(some 16), none, .c (.cav (.t 11) [(.t 15)])⟩])
       (.cond (.t 16)
        (.seq (.reg [⟨(some 17), none, .q (.mv (.t 5))⟩,
           ⟨(some 4), none, .q (.mv (.t 17))⟩])
        .ret)
        .skip))))
     (.reg [⟨(some 18), none, .q (.bin .add (.t 8) (.c (.int .i64 1)))⟩,
       ⟨(some 8), none, .q (.mv (.t 18))⟩])))))))
  (.seq (.reg [⟨(some 4), none, .q (.mv (.c (.int .i64 (-1))))⟩])
  .ret)))⟩
theorem l_slices_IndexFunc___int64_int64_ : lowF PA f_slices_IndexFunc___int64_int64_ 2 [.k [0, 1, 7, 8]] = some c_slices_IndexFunc___int64_int64_ := by kernel_rfl
abbrev f_impl_DecodeWord_1 : FuncId := 53
def c_impl_DecodeWord_1 : AF := ⟨4, 12, [.t 5],
  (.seq (.reg [⟨(some 5), none, .q (.mv (.c (.bool false)))⟩])
  (.seq (.sch (.take 0 ⟨(some 6), none, .q (.ld true 1 (.t 1))⟩ (.take 1 ⟨(some 7), none, .q (.mv (.t 0))⟩ (.take 2 ⟨(some 8), none, .q (.ld false 1 (.t 2))⟩ (.take 4 ⟨(some 10), none, .q (.ld false 1 (.t 3))⟩ (.one ⟨(some 9), none, .c (.call 54 [(.t 6), (.t 7), (.t 8)])⟩ [2, 0] (.take 5 ⟨(some 11), none, .q (.bin .leq (.t 9) (.t 10))⟩ (.take 6 ⟨(some 5), none, .q (.mv (.t 11))⟩ .done))))))))
  .ret))⟩
theorem l_impl_DecodeWord_1 : lowF PA f_impl_DecodeWord_1 4 [.s (.take 0 (.take 1 (.take 2 (.take 4 (.one 3 (.take 5 (.take 6 .done)))))))] = some c_impl_DecodeWord_1 := by kernel_rfl
abbrev f_impl_distance : FuncId := 54
def c_impl_distance : AF := ⟨3, 14, [.t 6],
  (.seq (.reg [⟨(some 3), none, .m (.box (.t 0))⟩,
     ⟨(some 6), none, .q (.mv (.c (.int .i64 0)))⟩])
  (.seq (.sch (.take 0 ⟨(some 7), none, .q (.ld true 1 (.t 3))⟩ (.take 1 ⟨(some 8), none, .q (.mv (.t 1))⟩ (.take 3 ⟨(some 10), none, .q (.ld true 1 (.t 3))⟩ (.take 4 ⟨(some 11), none, .q (.mv (.t 2))⟩ (.one ⟨(some 9), none, .c (.call 91 [(.t 7), (.t 8)])⟩ [0] (.one ⟨(some 12), none, .c (.call 91 [(.t 10), (.t 11)])⟩ [3] (.one ⟨(some 13), none, .c (.call 90 [(.t 9), (.t 12)])⟩ [] (.take 7 ⟨(some 6), none, .q (.mv (.t 13))⟩ .done)))))))))
  .ret))⟩
theorem l_impl_distance : lowF PA f_impl_distance 3 [.s (.take 0 (.take 1 (.take 3 (.take 4 (.one 2 (.one 5 (.one 6 (.take 7 .done))))))))] = some c_impl_distance := by kernel_rfl
abbrev f_spec_l01Given : FuncId := 55
def c_spec_l01Given : AF := ⟨2, 14, [.t 4],
  (.seq (.reg [⟨(some 2), none, .m (.box (.t 0))⟩,
     ⟨(some 4), none, .q (.mv (.c (.int .i64 0)))⟩])
  (.seq (.block 0 (.seq (.reg [⟨(some 6), none, .q (.ld true 1 (.t 2))⟩,
       ⟨(some 7), none, .c (.call 68 [(.t 6)])⟩,
       ⟨(some 8), none, .q (.un .not (.t 7))⟩,
       ⟨(some 5), none, .q (.mv (.t 8))⟩])
    (.cond (.t 5)
     (.seq (.reg [⟨(some 4), none, .q (.mv (.c (.int .i64 1)))⟩])
     .ret)
     (.seq (.reg [⟨(some 10), none, .q (.ld true 1 (.t 2))⟩,
        ⟨(some 11), none, .q (.mv (.t 1))⟩,
        ⟨(some 12), none, .c (.call 92 [(.t 10), (.t 11)])⟩,
        ⟨(some 13), none, .q (.un .not (.t 12))⟩,
        ⟨(some 9), none, .q (.mv (.t 13))⟩])
     (.cond (.t 9)
      (.seq (.reg [⟨(some 4), none, .q (.mv (.c (.int .i64 2)))⟩])
      .ret)
      .skip)))))
  (.seq (.reg [⟨(some 4), none, .q (.mv (.c (.int .i64 0)))⟩])
  .ret)))⟩
theorem l_spec_l01Given : lowF PA f_spec_l01Given 2 [] = some c_spec_l01Given := by kernel_rfl
abbrev f_spec_l01Is : FuncId := 68
def c_spec_l01Is : AF := ⟨1, 26, [.t 2],
  (.seq (.reg [⟨(some 1), none, .m (.box (.t 0))⟩,
     ⟨(some 2), none, .q (.mv (.c (.bool false)))⟩])
  (.seq (.seq (.reg [⟨(some 4), none, .q (.fad 0 (.t 1))⟩,
      ⟨(some 5), none, .q (.ld false 1 (.t 4))⟩,
      ⟨(some 6), none, .q (.len (.t 5))⟩,
      ⟨(some 7), none, .c (.call 37 [(.t 6), (.c (.int .i64 1)), (.c (.int .i64 8))])⟩,
      ⟨(some 8), none, .q (.un .not (.t 7))⟩])
   (.cond (.t 8)
    (.seq (.reg [⟨(some 2), none, .q (.mv (.c (.bool false)))⟩])
    .ret)
    .skip))
  (.seq (.seq (.reg [⟨(some 3), none, .q (.mv (.c (.int .i64 0)))⟩])
   (.block 0 (.loop [1, 3] (.seq (.seq (.reg [⟨(some 9), none, .q (.mv (.t 3))⟩,
         ⟨(some 10), none, .q (.fad 0 (.t 1))⟩,
         ⟨(some 11), none, .q (.ld false 1 (.t 10))⟩,
         ⟨(some 12), none, .q (.len (.t 11))⟩,
         ⟨(some 13), none, .q (.bin .lss (.t 9) (.t 12))⟩])
      (.cond (.t 13)
       .skip
       (.exit 0)))
     (.seq (.block 1 (.seq (.reg [⟨(some 16), none, .q (.fad 0 (.t 1))⟩,
          ⟨(some 17), none, .q (.ld false 1 (.t 16))⟩,
          ⟨(some 18), none, .q (.mv (.t 3))⟩,
          ⟨(some 19), none, .q (.ixs 1 (.t 17) (.t 18))⟩,
          ⟨(some 20), none, .q (.ld false 1 (.t 19))⟩,
          ⟨(some 21), none, .c (.call 37 [(.t 20), (.c (.int .i64 2)), (.c (.int .i64 4))])⟩,
          ⟨(some 22), none, .q (.un .not (.t 21))⟩])
       (.cond (.t 22)
        (.seq (.reg [⟨(some 2), none, .q (.mv (.c (.bool false)))⟩])
        .ret)
        .skip)))
     (.reg [⟨(some 14), none, .q (.mv (.t 3))⟩,
       ⟨(some 15), none, .q (.bin .add (.t 14) (.c (.int .i64 1)))⟩,
       ⟨(some 3), none, .q (.mv (.t 15))⟩]))))))
  (.seq (.reg [⟨(some 23), none, .q (.ld true 1 (.t 1))⟩,
     ⟨(some 24), none, .c (.call 46 [(.t 23)])⟩,
     ⟨(some 25), none, .q (.bin .leq (.t 24) (.c (.int .i64 1024)))⟩,
     ⟨(some 2), none, .q (.mv (.t 25))⟩])
  .ret))))⟩
theorem l_spec_l01Is : lowF PA f_spec_l01Is 1 [.k [1, 3]] = some c_spec_l01Is := by kernel_rfl
abbrev f_impl_IsSpace : FuncId := 72
def c_impl_IsSpace : AF := ⟨1, 35, [.t 2],
  (.seq (.reg [⟨(some 1), none, .m (.box (.t 0))⟩,
     ⟨(some 2), none, .q (.mv (.c (.bool false)))⟩])
  (.seq (.seq (.reg [⟨(some 6), none, .q (.fad 0 (.t 1))⟩,
      ⟨(some 7), none, .q (.ld false 1 (.t 6))⟩,
      ⟨(some 8), none, .q (.len (.t 7))⟩,
      ⟨(some 9), none, .q (.bin .lss (.t 8) (.c (.int .i64 1)))⟩,
      ⟨(some 10), none, .q (.mv (.t 9))⟩,
      ⟨(some 11), (some (10, false)), .q (.fad 0 (.t 1))⟩,
      ⟨(some 12), (some (10, false)), .q (.ld false 1 (.t 11))⟩,
      ⟨(some 13), (some (10, false)), .q (.len (.t 12))⟩,
      ⟨(some 14), (some (10, false)), .q (.bin .gtr (.t 13) (.c (.int .i64 8)))⟩,
      ⟨(some 15), none, .q (.pick (.t 10) (.c (.bool true)) (.t 14))⟩])
   (.cond (.t 15)
    (.seq (.reg [⟨(some 2), none, .q (.mv (.c (.bool false)))⟩])
    .ret)
    .skip))
  (.seq (.reg [⟨(some 3), none, .q (.mv (.c (.int .i64 1)))⟩])
  (.seq (.seq (.reg [⟨(some 16), none, .q (.fad 0 (.t 1))⟩,
      ⟨(some 17), none, .q (.ld false 1 (.t 16))⟩,
      ⟨(some 18), none, .q (.len (.t 17))⟩,
      ⟨(some 19), none, .q (.mv (.c (.int .i64 0)))⟩])
   (.block 0 (.loop [3, 17, 18, 19] (.seq (.reg [⟨(some 20), none, .q (.bin .lss (.t 19) (.t 18))⟩])
     (.seq (.cond (.t 20)
       .skip
       (.exit 0))
     (.seq (.block 1 (.seq (.reg [⟨(some 21), none, .q (.ixs 1 (.t 17) (.t 19))⟩,
          ⟨(some 22), none, .q (.ld false 1 (.t 21))⟩,
          ⟨(some 5), none, .q (.mv (.t 22))⟩])
       (.seq (.seq (.reg [⟨(some 23), none, .q (.mv (.t 5))⟩,
           ⟨(some 24), none, .q (.bin .lss (.t 23) (.c (.int .i64 2)))⟩,
           ⟨(some 25), none, .q (.mv (.t 24))⟩,
           ⟨(some 26), (some (25, false)), .q (.mv (.t 5))⟩,
           ⟨(some 27), (some (25, false)), .q (.bin .gtr (.t 26) (.c (.int .i64 4)))⟩,
           ⟨(some 28), none, .q (.pick (.t 25) (.c (.bool true)) (.t 27))⟩])
        (.cond (.t 28)
         (.seq (.reg [⟨(some 2), none, .q (.mv (.c (.bool false)))⟩])
         .ret)
         .skip))
       (.reg [⟨(some 29), none, .q (.mv (.t 3))⟩,
         ⟨(some 30), none, .q (.mv (.t 5))⟩,
         ⟨(some 31), none, .q (.bin .mul (.t 29) (.t 30))⟩,
         ⟨(some 3), none, .q (.mv (.t 31))⟩]))))
     (.reg [⟨(some 32), none, .q (.bin .add (.t 19) (.c (.int .i64 1)))⟩,
       ⟨(some 19), none, .q (.mv (.t 32))⟩])))))))
  (.seq (.reg [⟨(some 33), none, .q (.mv (.t 3))⟩,
     ⟨(some 34), none, .q (.bin .leq (.t 33) (.c (.int .i64 1024)))⟩,
     ⟨(some 2), none, .q (.mv (.t 34))⟩])
  .ret)))))⟩
theorem l_impl_IsSpace : lowF PA f_impl_IsSpace 1 [.k [3, 17, 18, 19]] = some c_impl_IsSpace := by kernel_rfl
abbrev f_impl_allDigits : FuncId := 83
def c_impl_allDigits : AF := ⟨1, 19, [.t 2],
  (.seq (.reg [⟨(some 1), none, .m (.box (.t 0))⟩,
     ⟨(some 2), none, .q (.mv (.c (.slice none 0 0)))⟩])
  (.seq (.reg [⟨(some 5), none, .m (.bsl 8 [])⟩,
     ⟨(some 3), none, .q (.mv (.t 5))⟩])
  (.seq (.seq (.reg [⟨(some 6), none, .q (.ld true 1 (.t 1))⟩,
      ⟨(some 7), none, .c (.call 102 [(.t 6)])⟩,
      ⟨(some 8), none, .q (.mv (.c (.int .i64 0)))⟩])
   (.block 0 (.loop [1, 3, 7, 8] (.seq (.reg [⟨(some 9), none, .q (.bin .lss (.t 8) (.t 7))⟩])
     (.seq (.cond (.t 9)
       .skip
       (.exit 0))
     (.seq (.block 1 (.seq (.reg [⟨(some 10), none, .q (.mv (.t 8))⟩,
          ⟨(some 4), none, .q (.mv (.t 10))⟩])
       (.reg [⟨(some 11), none, .q (.mv (.t 3))⟩,
         ⟨(some 12), none, .q (.ld true 1 (.t 1))⟩,
         ⟨(some 13), none, .q (.mv (.t 4))⟩,
         ⟨(some 14), none, .c (.call 91 [(.t 12), (.t 13)])⟩,
         ⟨(some 15), none, .m (.bsl 8 [(.t 14)])⟩,
         ⟨(some 16), none, .m (.app 8 8 (.t 11) (.t 15))⟩,
         ⟨(some 3), none, .q (.mv (.t 16))⟩])))
     (.reg [⟨(some 17), none, .q (.bin .add (.t 8) (.c (.int .i64 1)))⟩,
       ⟨(some 8), none, .q (.mv (.t 17))⟩])))))))
  (.seq (.reg [⟨(some 18), none, .q (.mv (.t 3))⟩,
     ⟨(some 2), none, .q (.mv (.t 18))⟩])
  .ret))))⟩
theorem l_impl_allDigits : lowF PA f_impl_allDigits 1 [.k [1, 3, 7, 8]] = some c_impl_allDigits := by kernel_rfl
abbrev f_spec_l02Times : FuncId := 84
def c_spec_l02Times : AF := ⟨3, 43, [.t 6],
  (.seq (.reg [⟨(some 3), none, .m (.box (.t 0))⟩,
     ⟨(some 6), none, .q (.mv (.c (.slice none 0 0)))⟩])
  (.seq (.reg [⟨(some 11), none, .q (.ld true 1 (.t 3))⟩,
     ⟨(some 12), none, .c (.call 46 [(.t 11)])⟩,
     ⟨(some 13), none, .m (.mks 1 (.v (.int .i64 0)) 8 (.t 12) (.t 12))⟩,
     ⟨(some 7), none, .q (.mv (.t 13))⟩])
  (.seq (.seq (.reg [⟨(some 8), none, .q (.mv (.c (.int .i64 0)))⟩])
   (.block 0 (.loop [1, 2, 3, 7, 8] (.seq (.seq (.reg [⟨(some 14), none, .q (.mv (.t 8))⟩,
         ⟨(some 15), none, .q (.mv (.t 1))⟩,
         ⟨(some 16), none, .q (.len (.t 15))⟩,
         ⟨(some 17), none, .q (.bin .lss (.t 14) (.t 16))⟩])
      (.cond (.t 17)
       .skip
       (.exit 0)))
     (.seq (.block 1 (.seq (.sch (.take 0 ⟨(some 20), none, .q (.ld true 1 (.t 3))⟩ (.take 1 ⟨(some 21), none, .q (.mv (.t 1))⟩ (.take 2 ⟨(some 22), none, .q (.mv (.t 8))⟩ (.take 3 ⟨(some 23), none, .q (.ixs 1 (.t 21) (.t 22))⟩ (.take 4 ⟨(some 24), none, .q (.ld false 1 (.t 23))⟩ (.take 5 ⟨(some 25), none, .q (.mv (.t 2))⟩ (.one ⟨(some 26), none, .c (.call 113 [(.t 20), (.t 24), (.t 25)])⟩ [4, 0] (.take 7 ⟨(some 9), none, .q (.mv (.t 26))⟩ .done)))))))))
       (.seq (.reg [⟨(some 10), none, .q (.mv (.c (.int .i64 0)))⟩])
       (.block 2 (.loop [1, 2, 3, 7, 8, 9, 10] (.seq (.seq (.reg [⟨(some 27), none, .q (.mv (.t 10))⟩,
             ⟨(some 28), none, .q (.mv (.t 9))⟩,
             ⟨(some 29), none, .q (.len (.t 28))⟩,
             ⟨(some 30), none, .q (.bin .lss (.t 27) (.t 29))⟩])
          (.cond (.t 30)
           .skip
           (.exit 2)))
         (.seq (.block 3 (.reg [⟨(some 33), none, .q (.mv (.t 7))⟩,
             ⟨(some 34), none, .q (.mv (.t 9))⟩,
             ⟨(some 35), none, .q (.mv (.t 10))⟩,
             ⟨(some 36), none, .q (.ixs 1 (.t 34) (.t 35))⟩,
             ⟨(some 37), none, .q (.ld false 1 (.t 36))⟩,
             ⟨(some 38), none, .q (.ixs 1 (.t 33) (.t 37))⟩,
             ⟨(some 39), none, .q (.ld false 1 (.t 38))⟩,
             ⟨(some 40), none, .q (.bin .add (.t 39) (.c (.int .i64 1)))⟩,
             ⟨(some 41), none, .q (.ixs 1 (.t 33) (.t 37))⟩,
             ⟨none, none, .m (.st false 1 (.t 41) (.t 40))⟩]))
         (.reg [⟨(some 31), none, .q (.mv (.t 10))⟩,
           ⟨(some 32), none, .q (.bin .add (.t 31) (.c (.int .i64 1)))⟩,
           ⟨(some 10), none, .q (.mv (.t 32))⟩]))))))))
     (.reg [⟨(some 18), none, .q (.mv (.t 8))⟩,
       ⟨(some 19), none, .q (.bin .add (.t 18) (.c (.int .i64 1)))⟩,
       ⟨(some 8), none, .q (.mv (.t 19))⟩]))))))
  (.seq (.reg [⟨(some 42), none, .q (.mv (.t 7))⟩,
     ⟨(some 6), none, .q (.mv (.t 42))⟩])
  .ret))))⟩
theorem l_spec_l02Times : lowF PA f_spec_l02Times 3 [.k [1, 2, 3, 7, 8], .s (.take 0 (.take 1 (.take 2 (.take 3 (.take 4 (.take 5 (.one 6 (.take 7 .done)))))))), .k [1, 2, 3, 7, 8, 9, 10]] = some c_spec_l02Times := by kernel_rfl
abbrev f_impl_wordCode : FuncId := 85
def c_impl_wordCode : AF := ⟨2, 14, [.t 4],
  (.seq (.reg [⟨(some 2), none, .m (.box (.t 0))⟩,
     ⟨(some 4), none, .q (.mv (.c (.int .i64 0)))⟩])
  (.seq (.block 0 (.seq (.reg [⟨(some 6), none, .q (.ld true 1 (.t 2))⟩,
       ⟨(some 7), none, .c (.call 72 [(.t 6)])⟩,
       ⟨(some 8), none, .q (.un .not (.t 7))⟩,
       ⟨(some 5), none, .q (.mv (.t 8))⟩])
    (.cond (.t 5)
     (.seq (.reg [⟨(some 4), none, .q (.mv (.c (.int .i64 1)))⟩])
     .ret)
     (.seq (.reg [⟨(some 10), none, .q (.ld true 1 (.t 2))⟩,
        ⟨(some 11), none, .q (.mv (.t 1))⟩,
        ⟨(some 12), none, .c (.call 114 [(.t 10), (.t 11)])⟩,
        ⟨(some 13), none, .q (.un .not (.t 12))⟩,
        ⟨(some 9), none, .q (.mv (.t 13))⟩])
     (.cond (.t 9)
      (.seq (.reg [⟨(some 4), none, .q (.mv (.c (.int .i64 2)))⟩])
      .ret)
      .skip)))))
  (.seq (.reg [⟨(some 4), none, .q (.mv (.c (.int .i64 0)))⟩])
  .ret)))⟩
theorem l_impl_wordCode : lowF PA f_impl_wordCode 2 [] = some c_impl_wordCode := by kernel_rfl
abbrev f_impl_isCode : FuncId := 86
def c_impl_isCode : AF := ⟨2, 33, [.t 4],
  (.seq (.reg [⟨(some 2), none, .m (.box (.t 0))⟩,
     ⟨(some 4), none, .q (.mv (.c (.bool false)))⟩])
  (.seq (.seq (.reg [⟨(some 6), none, .q (.mv (.t 1))⟩,
      ⟨(some 7), none, .q (.len (.t 6))⟩,
      ⟨(some 8), none, .q (.ld true 1 (.t 2))⟩,
      ⟨(some 9), none, .c (.call 102 [(.t 8)])⟩,
      ⟨(some 10), none, .q (.bin .gtr (.t 7) (.t 9))⟩,
      ⟨(some 11), none, .q (.mv (.t 10))⟩,
      ⟨(some 12), (some (11, false)), .q (.ld true 1 (.t 2))⟩,
      ⟨(some 13), (some (11, false)), .q (.mv (.t 1))⟩,
      ⟨(some 14), (some (11, false)), .c (.call 114 [(.t 12), (.t 13)])⟩,
      ⟨(some 15), (some (11, false)), .q (.un .not (.t 14))⟩,
      ⟨(some 16), none, .q (.pick (.t 11) (.c (.bool true)) (.t 15))⟩])
   (.cond (.t 16)
    (.seq (.reg [⟨(some 4), none, .q (.mv (.c (.bool false)))⟩])
    .ret)
    .skip))
  (.seq (.seq (.reg [⟨(some 5), none, .q (.mv (.c (.int .i64 1)))⟩])
   (.block 0 (.loop [1, 5] (.seq (.seq (.reg [⟨(some 17), none, .q (.mv (.t 5))⟩,
         ⟨(some 18), none, .q (.mv (.t 1))⟩,
         ⟨(some 19), none, .q (.len (.t 18))⟩,
         ⟨(some 20), none, .q (.bin .lss (.t 17) (.t 19))⟩])
      (.cond (.t 20)
       .skip
       (.exit 0)))
     (.seq (.block 1 (.seq (.sch (.take 0 ⟨(some 23), none, .q (.mv (.t 1))⟩ (.take 1 ⟨(some 24), none, .q (.mv (.t 5))⟩ (.take 2 ⟨(some 25), none, .q (.ixs 1 (.t 23) (.t 24))⟩ (.take 3 ⟨(some 26), none, .q (.ld false 1 (.t 25))⟩ (.take 4 ⟨(some 27), none, .q (.mv (.t 1))⟩ (.take 5 ⟨(some 28), none, .q (.mv (.t 5))⟩ (.take 6 ⟨(some 29), none, .q (.bin .sub (.t 28) (.c (.int .i64 1)))⟩ (.take 7 ⟨(some 30), none, .q (.ixs 1 (.t 27) (.t 29))⟩ (.take 8 ⟨(some 31), none, .q (.ld false 1 (.t 30))⟩ (.take 9 ⟨(some 32), none, .q (.bin .leq (.t 26) (.t 31))⟩ .done)))))))))))
       (.cond (.t 32)
        (.seq (.reg [⟨(some 4), none, .q (.mv (.c (.bool false)))⟩])
        .ret)
        .skip)))
     (.reg [⟨(some 21), none, .q (.mv (.t 5))⟩,
       ⟨(some 22), none, .q (.bin .add (.t 21) (.c (.int .i64 1)))⟩,
       ⟨(some 5), none, .q (.mv (.t 22))⟩]))))))
  (.seq (.reg [⟨(some 4), none, .q (.mv (.c (.bool true)))⟩])
  .ret))))⟩
theorem l_impl_isCode : lowF PA f_impl_isCode 2 [.k [1, 5], .s (.take 0 (.take 1 (.take 2 (.take 3 (.take 4 (.take 5 (.take 6 (.take 7 (.take 8 (.take 9 .done))))))))))] = some c_impl_isCode := by kernel_rfl
abbrev f_slices_ContainsFunc___int64_int64_ : FuncId := 87
def c_slices_ContainsFunc___int64_int64_ : AF := ⟨2, 9, [.t 4],
  (.seq (.reg [⟨(some 4), none, .q (.mv (.c (.bool false)))⟩])
  (.seq (.reg [⟨(some 5), none, .q (.mv (.t 0))⟩,
     ⟨(some 6), none, .q (.mv (.t 1))⟩,
     ⟨(some 7), none, .c (.call 52 [(.t 5), (.t 6)])⟩,
     ⟨(some 8), none, .q (.bin .geq (.t 7) (.c (.int .i64 0)))⟩,
     ⟨(some 4), none, .q (.mv (.t 8))⟩])
  .ret))⟩
theorem l_slices_ContainsFunc___int64_int64_ : lowF PA f_slices_ContainsFunc___int64_int64_ 2 [] = some c_slices_ContainsFunc___int64_int64_ := by kernel_rfl
abbrev f_impl_times : FuncId := 88
def c_impl_times : AF := ⟨3, 48, [.t 6],
  (.seq (.reg [⟨(some 3), none, .m (.box (.t 0))⟩,
     ⟨(some 6), none, .q (.mv (.c (.slice none 0 0)))⟩])
  (.seq (.sch (.take 0 ⟨(some 13), none, .q (.ld true 1 (.t 3))⟩ (.take 2 ⟨(some 15), none, .q (.ld true 1 (.t 3))⟩ (.one ⟨(some 14), none, .c (.call 83 [(.t 13)])⟩ [0] (.one ⟨(some 16), none, .c (.call 102 [(.t 15)])⟩ [2] (.take 5 ⟨(some 7), none, .q (.mv (.t 14))⟩ (.one ⟨(some 17), none, .m (.mks 1 (.v (.int .i64 0)) 8 (.t 16) (.t 16))⟩ [] (.take 6 ⟨(some 8), none, .q (.mv (.t 17))⟩ .done))))))))
  (.seq (.seq (.reg [⟨(some 18), none, .q (.mv (.t 1))⟩,
      ⟨(some 19), none, .q (.len (.t 18))⟩,
      ⟨(some 20), none, .q (.mv (.c (.int .i64 0)))⟩])
   (.block 0 (.loop [2, 7, 8, 18, 19, 20] (.seq (.reg [⟨(some 21), none, .q (.bin .lss (.t 20) (.t 19))⟩])
     (.seq (.cond (.t 21)
       .skip
       (.exit 0))
     (.seq (.block 1 (.seq (.reg [⟨(some 22), none, .q (.ixs 1 (.t 18) (.t 20))⟩,
          ⟨(some 23), none, .q (.ld false 1 (.t 22))⟩,
          ⟨(some 10), none, .q (.mv (.t 23))⟩])
       (.seq (.reg [⟨(some 24), none, .q (.mv (.t 7))⟩,
          ⟨(some 25), none, .q (.len (.t 24))⟩,
          ⟨(some 26), none, .q (.mv (.c (.int .i64 0)))⟩])
       (.block 2 (.loop [2, 7, 8, 10, 18, 19, 20, 24, 25, 26] (.seq (.reg [⟨(some 27), none, .q (.bin .lss (.t 26) (.t 25))⟩])
         (.seq (.cond (.t 27)
           .skip
           (.exit 2))
         (.seq (.block 3 (.seq (.reg [⟨(some 28), none, .q (.mv (.t 26))⟩,
              ⟨(some 29), none, .q (.ixs 8 (.t 24) (.t 26))⟩,
              ⟨(some 30), none, .q (.ld true 8 (.t 29))⟩,
              ⟨(some 12), none, .m (.alloc [(.v (.int .u8 0)), (.v (.int .u8 0)), (.v (.int .u8 0)), (.v (.int .u8 0)), (.v (.int .u8 0)), (.v (.int .u8 0)), (.v (.int .u8 0)), (.v (.int .u8 0))])⟩,
              ⟨(some 11), none, .q (.mv (.t 28))⟩,
              ⟨none, none, .m (.st true 8 (.t 12) (.t 30))⟩])
           (.seq (.sch (.take 0 ⟨(some 31), none, .q (.mv (.t 7))⟩ (.take 1 ⟨(some 32), none, .q (.mv (.t 10))⟩ (.take 2 ⟨(some 33), none, .q (.ixs 8 (.t 31) (.t 32))⟩ (.take 3 ⟨(some 34), none, .q (.ld true 8 (.t 33))⟩ (.take 4 ⟨(some 35), none, .q (.ld true 8 (.t 12))⟩ (.take 6 ⟨(some 37), none, .q (.mv (.t 2))⟩ (.one ⟨(some 36), none, .c (.call 90 [(.t 34), (.t 35)])⟩ [4, 3] (.take 7 ⟨(some 38), none, .q (.bin .leq (.t 36) (.t 37))⟩ .done)))))))))
           (.cond (.t 38)
            (.reg [⟨(some 39), none, .q (.mv (.t 8))⟩,
              ⟨(some 40), none, .q (.mv (.t 11))⟩,
              ⟨(some 41), none, .q (.ixs 1 (.t 39) (.t 40))⟩,
              ⟨(some 42), none, .q (.ld false 1 (.t 41))⟩,
              ⟨(some 43), none, .q (.bin .add (.t 42) (.c (.int .i64 1)))⟩,
              ⟨(some 44), none, .q (.ixs 1 (.t 39) (.t 40))⟩,
              ⟨none, none, .m (.st false 1 (.t 44) (.t 43))⟩])
            .skip))))
         (.reg [⟨(some 45), none, .q (.bin .add (.t 26) (.c (.int .i64 1)))⟩,
           ⟨(some 26), none, .q (.mv (.t 45))⟩])))))))))
     (.reg [⟨(some 46), none, .q (.bin .add (.t 20) (.c (.int .i64 1)))⟩,
       ⟨(some 20), none, .q (.mv (.t 46))⟩])))))))
  (.seq (.reg [⟨(some 47), none, .q (.mv (.t 8))⟩,
     ⟨(some 6), none, .q (.mv (.t 47))⟩])
  .ret))))⟩
theorem l_impl_times : lowF PA f_impl_times 3 [.s (.take 0 (.take 2 (.one 1 (.one 3 (.take 5 (.one 4 (.take 6 .done))))))), .k [2, 7, 8, 18, 19, 20], .k [2, 7, 8, 10, 18, 19, 20, 24, 25, 26], .s (.take 0 (.take 1 (.take 2 (.take 3 (.take 4 (.take 6 (.one 5 (.take 7 .done))))))))] = some c_impl_times := by kernel_rfl
abbrev f_impl_isPerfect_1 : FuncId := 89
def c_impl_isPerfect_1 : AF := ⟨1, 5, [.t 2],
  (.seq (.reg [⟨(some 2), none, .q (.mv (.c (.bool false)))⟩])
  (.seq (.reg [⟨(some 3), none, .q (.mv (.t 0))⟩,
     ⟨(some 4), none, .q (.bin .neq (.t 3) (.c (.int .i64 1)))⟩,
     ⟨(some 2), none, .q (.mv (.t 4))⟩])
  .ret))⟩
theorem l_impl_isPerfect_1 : lowF PA f_impl_isPerfect_1 1 [] = some c_impl_isPerfect_1 := by kernel_rfl
abbrev f_impl_far : FuncId := 90
def c_impl_far : AF := ⟨2, 22, [.t 4],
  (.seq (.reg [⟨(some 2), none, .m (.box (.t 0))⟩,
     ⟨(some 3), none, .m (.box (.t 1))⟩,
     ⟨(some 4), none, .q (.mv (.c (.int .i64 0)))⟩])
  (.seq (.reg [⟨(some 5), none, .q (.mv (.c (.int .i64 0)))⟩])
  (.seq (.seq (.reg [⟨(some 8), none, .q (.ld true 8 (.t 2))⟩,
      ⟨(some 9), none, .q (.mv (.c (.int .i64 0)))⟩])
   (.block 0 (.loop [3, 5, 8, 9] (.seq (.reg [⟨(some 10), none, .q (.bin .lss (.t 9) (.c (.int .i64 8)))⟩])
     (.seq (.cond (.t 10)
       .skip
       (.exit 0))
     (.seq (.block 1 (.seq (.reg [⟨(some 11), none, .q (.mv (.t 9))⟩,
          ⟨(some 12), none, .q (.ixv 8 (.t 8) (.t 9))⟩,
          ⟨(some 6), none, .q (.mv (.t 11))⟩,
          ⟨(some 7), none, .q (.mv (.t 12))⟩])
       (.seq (.reg [⟨(some 13), none, .q (.mv (.t 7))⟩,
          ⟨(some 14), none, .q (.mv (.t 6))⟩,
          ⟨(some 15), none, .q (.ixa 8 1 (.t 3) (.t 14))⟩,
          ⟨(some 16), none, .q (.ld false 1 (.t 15))⟩,
          ⟨(some 17), none, .q (.bin .neq (.t 13) (.t 16))⟩])
       (.cond (.t 17)
        (.reg [⟨(some 18), none, .q (.mv (.t 5))⟩,
          ⟨(some 19), none, .q (.bin .add (.t 18) (.c (.int .i64 1)))⟩,
          ⟨(some 5), none, .q (.mv (.t 19))⟩])
        .skip))))
     (.reg [⟨(some 20), none, .q (.bin .add (.t 9) (.c (.int .i64 1)))⟩,
       ⟨(some 9), none, .q (.mv (.t 20))⟩])))))))
  (.seq (.reg [⟨(some 21), none, .q (.mv (.t 5))⟩,
     ⟨(some 4), none, .q (.mv (.t 21))⟩])
  .ret))))⟩
theorem l_impl_far : lowF PA f_impl_far 2 [.k [3, 5, 8, 9]] = some c_impl_far := by kernel_rfl
abbrev f_impl_digitsOf : FuncId := 91
def c_impl_digitsOf : AF := ⟨2, 34, [.c 4 true 8],
  (.seq (.reg [⟨(some 2), none, .m (.box (.t 0))⟩,
     ⟨(some 4), none, .m (.alloc [(.v (.int .u8 0)), (.v (.int .u8 0)), (.v (.int .u8 0)), (.v (.int .u8 0)), (.v (.int .u8 0)), (.v (.int .u8 0)), (.v (.int .u8 0)), (.v (.int .u8 0))])⟩])
  (.seq (.reg [⟨(some 7), none, .q (.bld [(.v (.int .u8 0)), (.v (.int .u8 0)), (.v (.int .u8 0)), (.v (.int .u8 0)), (.v (.int .u8 0)), (.v (.int .u8 0)), (.v (.int .u8 0)), (.v (.int .u8 0))] [])⟩,
     ⟨(some 5), none, .m (.alloc [(.v (.int .u8 0)), (.v (.int .u8 0)), (.v (.int .u8 0)), (.v (.int .u8 0)), (.v (.int .u8 0)), (.v (.int .u8 0)), (.v (.int .u8 0)), (.v (.int .u8 0))])⟩,
     ⟨none, none, .m (.st true 8 (.t 5) (.t 7))⟩])
  (.seq (.seq (.reg [⟨(some 8), none, .q (.fad 0 (.t 2))⟩,
      ⟨(some 9), none, .q (.ld false 1 (.t 8))⟩,
      ⟨(some 10), none, .q (.len (.t 9))⟩,
      ⟨(some 11), none, .q (.bin .sub (.t 10) (.c (.int .i64 1)))⟩,
      ⟨(some 6), none, .q (.mv (.t 11))⟩])
   (.block 0 (.loop [1, 2, 4, 5, 6] (.seq (.seq (.reg [⟨(some 12), none, .q (.mv (.t 6))⟩,
         ⟨(some 13), none, .q (.bin .geq (.t 12) (.c (.int .i64 0)))⟩])
      (.cond (.t 13)
       .skip
       (.exit 0)))
     (.seq (.block 1 (.seq (.reg [⟨(some 16), none, .q (.mv (.t 6))⟩,
          ⟨(some 17), none, .q (.mv (.t 1))⟩,
          ⟨(some 18), none, .q (.fad 0 (.t 2))⟩,
          ⟨(some 19), none, .q (.ld false 1 (.t 18))⟩,
          ⟨(some 20), none, .q (.mv (.t 6))⟩,
          ⟨(some 21), none, .q (.ixs 1 (.t 19) (.t 20))⟩,
          ⟨(some 22), none, .q (.ld false 1 (.t 21))⟩,
          ⟨(some 23), none, .q (.bin .rem (.t 17) (.t 22))⟩,
          ⟨(some 24), none, .q (.cvt .u8 (.t 23))⟩,
          ⟨(some 25), none, .q (.ixa 8 1 (.t 5) (.t 16))⟩,
          ⟨none, none, .m (.st false 1 (.t 25) (.t 24))⟩])
       (.reg [⟨(some 26), none, .q (.mv (.t 1))⟩,
         ⟨(some 27), none, .q (.fad 0 (.t 2))⟩,
         ⟨(some 28), none, .q (.ld false 1 (.t 27))⟩,
         ⟨(some 29), none, .q (.mv (.t 6))⟩,
         ⟨(some 30), none, .q (.ixs 1 (.t 28) (.t 29))⟩,
         ⟨(some 31), none, .q (.ld false 1 (.t 30))⟩,
         ⟨(some 32), none, .q (.bin .quo (.t 26) (.t 31))⟩,
         ⟨(some 1), none, .q (.mv (.t 32))⟩])))
     (.reg [⟨(some 14), none, .q (.mv (.t 6))⟩,
       ⟨(some 15), none, .q (.bin .sub (.t 14) (.c (.int .i64 1)))⟩,
       ⟨(some 6), none, .q (.mv (.t 15))⟩]))))))
  (.seq (.reg [⟨(some 33), none, .q (.ld true 8 (.t 5))⟩,
     ⟨none, none, .m (.st true 8 (.t 4) (.t 33))⟩])
  .ret))))⟩
theorem l_impl_digitsOf : lowF PA f_impl_digitsOf 2 [.k [1, 2, 4, 5, 6]] = some c_impl_digitsOf := by kernel_rfl
abbrev f_spec_l01Code : FuncId := 92
def c_spec_l01Code : AF := ⟨2, 37, [.t 4],
  (.seq (.reg [⟨(some 2), none, .m (.box (.t 0))⟩,
     ⟨(some 4), none, .q (.mv (.c (.bool false)))⟩])
  (.seq (.seq (.reg [⟨(some 5), none, .q (.mv (.c (.int .i64 0)))⟩])
   (.block 0 (.loop [1, 2, 5] (.seq (.seq (.reg [⟨(some 6), none, .q (.mv (.t 5))⟩,
         ⟨(some 7), none, .q (.mv (.t 1))⟩,
         ⟨(some 8), none, .q (.len (.t 7))⟩,
         ⟨(some 9), none, .q (.bin .lss (.t 6) (.t 8))⟩])
      (.cond (.t 9)
       .skip
       (.exit 0)))
     (.seq (.block 1 (.seq (.sch (.take 0 ⟨(some 12), none, .q (.mv (.t 1))⟩ (.take 1 ⟨(some 13), none, .q (.mv (.t 5))⟩ (.take 2 ⟨(some 14), none, .q (.ixs 1 (.t 12) (.t 13))⟩ (.take 3 ⟨(some 15), none, .q (.ld false 1 (.t 14))⟩ (.take 4 ⟨(some 16), none, .q (.ld true 1 (.t 2))⟩ (.one ⟨(some 17), none, .c (.call 46 [(.t 16)])⟩ [4] (.take 6 ⟨(some 18), none, .q (.bin .sub (.t 17) (.c (.int .i64 1)))⟩ (.one ⟨(some 19), none, .c (.call 37 [(.t 15), (.c (.int .i64 0)), (.t 18)])⟩ [3] (.take 8 ⟨(some 20), none, .q (.un .not (.t 19))⟩ (.take 9 ⟨(some 21), none, .q (.mv (.t 20))⟩ (.take 10 ⟨(some 22), (some (21, false)), .q (.mv (.t 5))⟩ (.take 11 ⟨(some 23), (some (21, false)), .q (.bin .gtr (.t 22) (.c (.int .i64 0)))⟩ (.take 12 ⟨(some 24), (some (21, false)), .q (.mv (.t 23))⟩ (.take 13 ⟨(some 25), (some (24, true)), .q (.mv (.t 1))⟩ (.take 14 ⟨(some 26), (some (24, true)), .q (.mv (.t 5))⟩ (.take 15 ⟨(some 27), (some (24, true)), .q (.ixs 1 (.t 25) (.t 26))⟩ (.take 16 ⟨(some 28), (some (24, true)), .q (.ld false 1 (.t 27))⟩ (.take 17 ⟨(some 29), (some (24, true)), .q (.mv (.t 1))⟩ (.take 18 ⟨(some 30), (some (24, true)), .q (.mv (.t 5))⟩ (.take 19 ⟨(some 31), (some (24, true)), .q (.bin .sub (.t 30) (.c (.int .i64 1)))⟩ (.take 20 ⟨(some 32), (some (24, true)), .q (.ixs 1 (.t 29) (.t 31))⟩ (.take 21 ⟨(some 33), (some (24, true)), .q (.ld false 1 (.t 32))⟩ (.take 22 ⟨(some 34), (some (24, true)), .q (.bin .leq (.t 28) (.t 33))⟩ (.take 23 ⟨(some 35), (some (21, false)), .q (.pick (.t 24) (.t 34) (.c (.bool false)))⟩ (.take 24 ⟨(some 36), none, .q (.pick (.t 21) (.c (.bool true)) (.t 35))⟩ .done))))))))))))))))))))))))))
       (.cond (.t 36)
        (.seq (.reg [⟨(some 4), none, .q (.mv (.c (.bool false)))⟩])
        .ret)
        .skip)))
     (.reg [⟨(some 10), none, .q (.mv (.t 5))⟩,
       ⟨(some 11), none, .q (.bin .add (.t 10) (.c (.int .i64 1)))⟩,
       ⟨(some 5), none, .q (.mv (.t 11))⟩]))))))
  (.seq (.reg [⟨(some 4), none, .q (.mv (.c (.bool true)))⟩])
  .ret)))⟩
theorem l_spec_l01Code : lowF PA f_spec_l01Code 2 [.k [1, 2, 5], .s (.take 0 (.take 1 (.take 2 (.take 3 (.take 4 (.one 5 (.take 6 (.one 7 (.take 8 (.take 9 (.take 10 (.take 11 (.take 12 (.take 13 (.take 14 (.take 15 (.take 16 (.take 17 (.take 18 (.take 19 (.take 20 (.take 21 (.take 22 (.take 23 (.take 24 .done)))))))))))))))))))))))))] = some c_spec_l01Code := by kernel_rfl
abbrev f_impl_count : FuncId := 102
def c_impl_count : AF := ⟨1, 18, [.t 2],
  (.seq (.reg [⟨(some 1), none, .m (.box (.t 0))⟩,
     ⟨(some 2), none, .q (.mv (.c (.int .i64 0)))⟩])
  (.seq (.reg [⟨(some 3), none, .q (.mv (.c (.int .i64 1)))⟩])
  (.seq (.seq (.reg [⟨(some 6), none, .q (.fad 0 (.t 1))⟩,
      ⟨(some 7), none, .q (.ld false 1 (.t 6))⟩,
      ⟨(some 8), none, .q (.len (.t 7))⟩,
      ⟨(some 9), none, .q (.mv (.c (.int .i64 0)))⟩])
   (.block 0 (.loop [3, 7, 8, 9] (.seq (.reg [⟨(some 10), none, .q (.bin .lss (.t 9) (.t 8))⟩])
     (.seq (.cond (.t 10)
       .skip
       (.exit 0))
     (.seq (.block 1 (.seq (.reg [⟨(some 11), none, .q (.ixs 1 (.t 7) (.t 9))⟩,
          ⟨(some 12), none, .q (.ld false 1 (.t 11))⟩,
          ⟨(some 5), none, .q (.mv (.t 12))⟩])
       (.reg [⟨(some 13), none, .q (.mv (.t 3))⟩,
         ⟨(some 14), none, .q (.mv (.t 5))⟩,
         ⟨(some 15), none, .q (.bin .mul (.t 13) (.t 14))⟩,
         ⟨(some 3), none, .q (.mv (.t 15))⟩])))
     (.reg [⟨(some 16), none, .q (.bin .add (.t 9) (.c (.int .i64 1)))⟩,
       ⟨(some 9), none, .q (.mv (.t 16))⟩])))))))
  (.seq (.reg [⟨(some 17), none, .q (.mv (.t 3))⟩,
     ⟨(some 2), none, .q (.mv (.t 17))⟩])
  .ret))))⟩
theorem l_impl_count : lowF PA f_impl_count 1 [.k [3, 7, 8, 9]] = some c_impl_count := by kernel_rfl
abbrev f_spec_l01Ball : FuncId := 113
def c_spec_l01Ball : AF := ⟨3, 27, [.t 6],
  (.seq (.reg [⟨(some 3), none, .m (.box (.t 0))⟩,
     ⟨(some 6), none, .q (.mv (.c (.slice none 0 0)))⟩])
  (.seq (.reg [⟨(some 9), none, .m (.bsl 1 [])⟩,
     ⟨(some 7), none, .q (.mv (.t 9))⟩])
  (.seq (.seq (.reg [⟨(some 8), none, .q (.mv (.c (.int .i64 0)))⟩])
   (.block 0 (.loop [1, 2, 3, 7, 8] (.seq (.seq (.reg [⟨(some 10), none, .q (.mv (.t 8))⟩,
         ⟨(some 11), none, .q (.ld true 1 (.t 3))⟩,
         ⟨(some 12), none, .c (.call 46 [(.t 11)])⟩,
         ⟨(some 13), none, .q (.bin .lss (.t 10) (.t 12))⟩])
      (.cond (.t 13)
       .skip
       (.exit 0)))
     (.seq (.block 1 (.seq (.reg [⟨(some 16), none, .q (.ld true 1 (.t 3))⟩,
          ⟨(some 17), none, .q (.mv (.t 8))⟩,
          ⟨(some 18), none, .q (.mv (.t 1))⟩,
          ⟨(some 19), none, .c (.call 48 [(.t 16), (.t 17), (.t 18)])⟩,
          ⟨(some 20), none, .q (.mv (.t 2))⟩,
          ⟨(some 21), none, .q (.bin .leq (.t 19) (.t 20))⟩])
       (.cond (.t 21)
        (.reg [⟨(some 22), none, .q (.mv (.t 7))⟩,
          ⟨(some 23), none, .q (.mv (.t 8))⟩,
          ⟨(some 24), none, .m (.bsl 1 [(.t 23)])⟩,
          ⟨(some 25), none, .m (.app 1 8 (.t 22) (.t 24))⟩,
          ⟨(some 7), none, .q (.mv (.t 25))⟩])
        .skip)))
     (.reg [⟨(some 14), none, .q (.mv (.t 8))⟩,
       ⟨(some 15), none, .q (.bin .add (.t 14) (.c (.int .i64 1)))⟩,
       ⟨(some 8), none, .q (.mv (.t 15))⟩]))))))
  (.seq (.reg [⟨(some 26), none, .q (.mv (.t 7))⟩,
     ⟨(some 6), none, .q (.mv (.t 26))⟩])
  .ret))))⟩
theorem l_spec_l01Ball : lowF PA f_spec_l01Ball 3 [.k [1, 2, 3, 7, 8]] = some c_spec_l01Ball := by kernel_rfl
abbrev f_impl_areWords : FuncId := 114
def c_impl_areWords : AF := ⟨2, 24, [.t 4],
  (.seq (.reg [⟨(some 2), none, .m (.box (.t 0))⟩,
     ⟨(some 4), none, .q (.mv (.c (.bool false)))⟩])
  (.seq (.reg [⟨(some 8), none, .q (.ld true 1 (.t 2))⟩,
     ⟨(some 9), none, .c (.call 102 [(.t 8)])⟩,
     ⟨(some 5), none, .q (.mv (.t 9))⟩])
  (.seq (.seq (.reg [⟨(some 10), none, .q (.mv (.t 1))⟩,
      ⟨(some 11), none, .q (.len (.t 10))⟩,
      ⟨(some 12), none, .q (.mv (.c (.int .i64 0)))⟩])
   (.block 0 (.loop [5, 10, 11, 12] (.seq (.reg [⟨(some 13), none, .q (.bin .lss (.t 12) (.t 11))⟩])
     (.seq (.cond (.t 13)
       .skip
       (.exit 0))
     (.seq (.block 1 (.seq (.reg [⟨(some 14), none, .q (.ixs 1 (.t 10) (.t 12))⟩,
          ⟨(some 15), none, .q (.ld false 1 (.t 14))⟩,
          ⟨(some 7), none, .q (.mv (.t 15))⟩])
       (.seq (.reg [⟨(some 16), none, .q (.mv (.t 7))⟩,
          ⟨(some 17), none, .q (.bin .lss (.t 16) (.c (.int .i64 0)))⟩,
          ⟨(some 18), none, .q (.mv (.t 17))⟩,
          ⟨(some 19), (some (18, false)), .q (.mv (.t 7))⟩,
          ⟨(some 20), (some (18, false)), .q (.mv (.t 5))⟩,
          ⟨(some 21), (some (18, false)), .q (.bin .geq (.t 19) (.t 20))⟩,
          ⟨(some 22), none, .q (.pick (.t 18) (.c (.bool true)) (.t 21))⟩])
       (.cond (.t 22)
        (.seq (.reg [⟨(some 4), none, .q (.mv (.c (.bool false)))⟩])
        .ret)
        .skip))))
     (.reg [⟨(some 23), none, .q (.bin .add (.t 12) (.c (.int .i64 1)))⟩,
       ⟨(some 12), none, .q (.mv (.t 23))⟩])))))))
  (.seq (.reg [⟨(some 4), none, .q (.mv (.c (.bool true)))⟩])
  .ret))))⟩
theorem l_impl_areWords : lowF PA f_impl_areWords 2 [.k [5, 10, 11, 12]] = some c_impl_areWords := by kernel_rfl
end Go.Proofs.Ytlbcdojembakiaa.Va
