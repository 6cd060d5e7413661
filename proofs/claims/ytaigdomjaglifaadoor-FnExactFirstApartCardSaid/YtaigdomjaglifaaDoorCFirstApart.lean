/- The code of the functions that FnExactFirstApart reaches, laid out for a walk: each is what the lowering makes of the program's own text. Condition: none. -/
import Derived.Test.YtaigdomjaglifaaDoorVa2
import Derived.Test.YtaigdomjaglifaaDoorProg
import Derived.KernelRfl
set_option linter.all false
set_option linter.unusedSimpArgs false
set_option linter.unusedVariables false
namespace Go.Proofs.YtaigdomjaglifaaDoor.Va
open Go
noncomputable abbrev PA : Program := Go.Proofs.Tryd.prog
abbrev g_math_bits_deBruijn64tab : Nat := 0
abbrev f_laws_FnExactFirstApart : FuncId := 4
def c_laws_FnExactFirstApart : AF := ⟨2, 101, [.t 4],
  (.seq (.reg [⟨(some 2), none, .m (.box (.t 0))⟩,
     ⟨(some 4), none, .q (.mv (.c (.bool false)))⟩])
  (.seq (.reg [⟨(some 5), none, .q (.mv (.c (.int .i64 1048576)))⟩])
  (.seq (.reg [⟨(some 16), none, .q (.ld true 1 (.t 2))⟩,
     ⟨(some 17), none, .q (.mv (.t 5))⟩,
     ⟨(some 18), none, .c (.call 5 [(.t 16), (.t 17)])⟩,
     ⟨(some 5), none, .q (.mv (.t 18))⟩])
  (.seq (.seq (.reg [⟨(some 19), none, .q (.mv (.t 5))⟩,
      ⟨(some 20), none, .q (.bin .lss (.t 19) (.c (.int .i64 0)))⟩])
   (.cond (.t 20)
    (.seq (.reg [⟨(some 4), none, .q (.mv (.c (.bool true)))⟩])
    .ret)
    .skip))
  (.seq (.reg [⟨(some 22), none, .q (.ld true 1 (.t 2))⟩,
     ⟨(some 23), none, .c (.call 7 [(.t 22)])⟩,
     ⟨(some 24), none, .q (.mv (.t 1))⟩,
     ⟨(some 25), none, .c (.call 10 [(.t 23), (.t 24)])⟩,
     ⟨(some 21), none, .q (.mv (.t 25))⟩,
     ⟨(some 26), none, .q (.ext (.t 21) 0)⟩,
     ⟨(some 27), none, .q (.ext (.t 21) 1)⟩,
     ⟨(some 6), none, .q (.mv (.t 26))⟩,
     ⟨(some 7), none, .q (.mv (.t 27))⟩])
  (.seq (.reg [⟨(some 28), none, .q (.ld true 1 (.t 2))⟩,
     ⟨(some 29), none, .c (.call 7 [(.t 28)])⟩,
     ⟨(some 8), none, .m (.alloc [(.v (.slice none 0 0))])⟩,
     ⟨none, none, .m (.st true 1 (.t 8) (.t 29))⟩])
  (.seq (.reg [⟨(some 31), none, .q (.ld true 1 (.t 8))⟩,
     ⟨(some 32), none, .q (.mv (.t 1))⟩,
     ⟨(some 33), none, .c (.call 11 [(.t 31), (.t 32)])⟩,
     ⟨(some 30), none, .q (.mv (.t 33))⟩,
     ⟨(some 34), none, .q (.ext (.t 30) 0)⟩,
     ⟨(some 35), none, .q (.ext (.t 30) 1)⟩,
     ⟨(some 9), none, .q (.mv (.t 34))⟩,
     ⟨(some 10), none, .q (.mv (.t 35))⟩])
  (.seq (.seq (.reg [⟨(some 36), none, .q (.mv (.t 9))⟩,
      ⟨(some 37), none, .q (.mv (.t 6))⟩,
      ⟨(some 38), none, .c (.call 12 [(.t 36), (.t 37)])⟩,
      ⟨(some 39), none, .q (.un .not (.t 38))⟩,
      ⟨(some 40), none, .q (.mv (.t 39))⟩,
      ⟨(some 41), (some (40, false)), .q (.mv (.t 10))⟩,
      ⟨(some 42), (some (40, false)), .q (.mv (.t 7))⟩,
      ⟨(some 43), (some (40, false)), .q (.bin .neq (.t 41) (.t 42))⟩,
      ⟨(some 44), none, .q (.pick (.t 40) (.c (.bool true)) (.t 43))⟩])
   (.cond (.t 44)
    (.seq (.reg [⟨(some 4), none, .q (.mv (.c (.bool false)))⟩])
    .ret)
    .skip))
  (.seq (.seq (.sch (.take 0 ⟨(some 45), none, .q (.ld true 1 (.t 8))⟩ (.take 1 ⟨(some 46), none, .q (.ld true 1 (.t 2))⟩ (.one ⟨(some 47), none, .c (.call 7 [(.t 46)])⟩ [1] (.one ⟨(some 48), none, .c (.call 9 [(.t 45), (.t 47)])⟩ [0] (.take 4 ⟨(some 49), none, .q (.un .not (.t 48))⟩ .done))))))
   (.cond (.t 49)
    (.seq (.reg [⟨(some 4), none, .q (.mv (.c (.bool false)))⟩])
    .ret)
    .skip))
  (.seq (.reg [⟨(some 11), none, .q (.mv (.c (.int .i64 1)))⟩])
  (.seq (.reg [⟨(some 50), none, .q (.ld true 1 (.t 8))⟩,
     ⟨(some 51), none, .q (.mv (.t 11))⟩,
     ⟨(some 52), none, .c (.call 13 [(.t 50), (.t 51)])⟩,
     ⟨(some 11), none, .q (.mv (.t 52))⟩])
  (.seq (.seq (.reg [⟨(some 53), none, .q (.mv (.t 11))⟩,
      ⟨(some 54), none, .q (.bin .lss (.t 53) (.c (.int .i64 0)))⟩,
      ⟨(some 55), none, .q (.mv (.t 54))⟩,
      ⟨(some 56), (some (55, false)), .q (.mv (.t 9))⟩,
      ⟨(some 57), (some (55, false)), .q (.mv (.t 6))⟩,
      ⟨(some 58), (some (55, false)), .c (.call 12 [(.t 56), (.t 57)])⟩,
      ⟨(some 59), (some (55, false)), .q (.un .not (.t 58))⟩,
      ⟨(some 60), none, .q (.pick (.t 55) (.c (.bool true)) (.t 59))⟩,
      ⟨(some 61), none, .q (.mv (.t 60))⟩,
      ⟨(some 62), (some (61, false)), .q (.mv (.t 10))⟩,
      ⟨(some 63), (some (61, false)), .q (.mv (.t 7))⟩,
      ⟨(some 64), (some (61, false)), .q (.bin .neq (.t 62) (.t 63))⟩,
      ⟨(some 65), none, .q (.pick (.t 61) (.c (.bool true)) (.t 64))⟩])
   (.cond (.t 65)
    (.seq (.reg [⟨(some 4), none, .q (.mv (.c (.bool false)))⟩])
    .ret)
    .skip))
  (.seq (.reg [⟨(some 12), none, .q (.mv (.c (.int .i64 1)))⟩])
  (.seq (.reg [⟨(some 66), none, .q (.mv (.t 9))⟩,
     ⟨(some 67), none, .q (.mv (.t 12))⟩,
     ⟨(some 68), none, .c (.call 14 [(.t 66), (.t 67)])⟩,
     ⟨(some 12), none, .q (.mv (.t 68))⟩])
  (.seq (.reg [⟨(some 13), none, .q (.mv (.c (.int .i64 1)))⟩])
  (.seq (.reg [⟨(some 69), none, .q (.mv (.t 9))⟩,
     ⟨(some 70), none, .q (.mv (.t 13))⟩,
     ⟨(some 71), none, .c (.call 15 [(.t 69), (.t 70)])⟩,
     ⟨(some 13), none, .q (.mv (.t 71))⟩])
  (.seq (.seq (.reg [⟨(some 72), none, .q (.mv (.t 13))⟩,
      ⟨(some 73), none, .q (.bin .lss (.t 72) (.c (.int .i64 0)))⟩])
   (.cond (.t 73)
    (.seq (.reg [⟨(some 4), none, .q (.mv (.c (.bool false)))⟩])
    .ret)
    .skip))
  (.seq (.seq (.reg [⟨(some 74), none, .q (.mv (.t 13))⟩,
      ⟨(some 75), none, .q (.mv (.t 12))⟩,
      ⟨(some 76), none, .q (.bin .neq (.t 74) (.t 75))⟩])
   (.cond (.t 76)
    (.seq (.reg [⟨(some 4), none, .q (.mv (.c (.bool false)))⟩])
    .ret)
    .skip))
  (.seq (.reg [⟨(some 78), none, .q (.ld true 1 (.t 2))⟩,
     ⟨(some 79), none, .c (.call 7 [(.t 78)])⟩,
     ⟨(some 80), none, .q (.mv (.t 1))⟩,
     ⟨(some 81), none, .c (.call 11 [(.t 79), (.t 80)])⟩,
     ⟨(some 77), none, .q (.mv (.t 81))⟩,
     ⟨(some 82), none, .q (.ext (.t 77) 0)⟩,
     ⟨(some 83), none, .q (.ext (.t 77) 1)⟩,
     ⟨(some 14), none, .q (.mv (.t 82))⟩,
     ⟨(some 15), none, .q (.mv (.t 83))⟩])
  (.seq (.seq (.reg [⟨(some 84), none, .q (.mv (.t 14))⟩,
      ⟨(some 85), none, .q (.mv (.t 6))⟩,
      ⟨(some 86), none, .c (.call 12 [(.t 84), (.t 85)])⟩,
      ⟨(some 87), none, .q (.un .not (.t 86))⟩,
      ⟨(some 88), none, .q (.mv (.t 87))⟩,
      ⟨(some 89), (some (88, false)), .q (.mv (.t 15))⟩,
      ⟨(some 90), (some (88, false)), .q (.mv (.t 7))⟩,
      ⟨(some 91), (some (88, false)), .q (.bin .neq (.t 89) (.t 90))⟩,
      ⟨(some 92), none, .q (.pick (.t 88) (.c (.bool true)) (.t 91))⟩])
   (.cond (.t 92)
    (.seq (.reg [⟨(some 4), none, .q (.mv (.c (.bool false)))⟩])
    .ret)
    .skip))
  (.seq (.reg [⟨(some 13), none, .q (.mv (.c (.int .i64 1)))⟩])
  (.seq (.reg [⟨(some 93), none, .q (.mv (.t 9))⟩,
     ⟨(some 94), none, .q (.mv (.t 13))⟩,
     ⟨(some 95), none, .c (.call 15 [(.t 93), (.t 94)])⟩,
     ⟨(some 13), none, .q (.mv (.t 95))⟩])
  (.seq (.seq (.reg [⟨(some 96), none, .q (.mv (.t 13))⟩,
      ⟨(some 97), none, .q (.bin .lss (.t 96) (.c (.int .i64 0)))⟩])
   (.cond (.t 97)
    (.seq (.reg [⟨(some 4), none, .q (.mv (.c (.bool false)))⟩])
    .ret)
    .skip))
  (.seq (.seq (.reg [⟨(some 98), none, .q (.mv (.t 13))⟩,
      ⟨(some 99), none, .q (.mv (.t 12))⟩,
      ⟨(some 100), none, .q (.bin .neq (.t 98) (.t 99))⟩])
   (.cond (.t 100)
    (.seq (.reg [⟨(some 4), none, .q (.mv (.c (.bool false)))⟩])
    .ret)
    .skip))
  (.seq (.reg [⟨(some 4), none, .q (.mv (.c (.bool true)))⟩])
  .ret)))))))))))))))))))))))))⟩
theorem l_laws_FnExactFirstApart : lowF PA f_laws_FnExactFirstApart 2 [.s (.take 0 (.take 1 (.one 2 (.one 3 (.take 4 .done)))))] = some c_laws_FnExactFirstApart := by kernel_rfl
abbrev f_laws_szSpace : FuncId := 5
def c_laws_szSpace : AF := ⟨2, 12, [.t 4],
  (.seq (.reg [⟨(some 2), none, .m (.box (.t 0))⟩,
     ⟨(some 4), none, .q (.mv (.c (.int .i64 0)))⟩])
  (.seq (.reg [⟨(some 5), none, .q (.fad 0 (.t 2))⟩,
     ⟨(some 6), none, .q (.ld false 1 (.t 5))⟩,
     ⟨(some 7), none, .q (.mv (.t 1))⟩,
     ⟨(some 8), none, .c (.call 16 [(.t 6), (.t 7)])⟩,
     ⟨(some 1), none, .q (.mv (.t 8))⟩])
  (.seq (.seq (.reg [⟨(some 9), none, .q (.mv (.t 1))⟩,
      ⟨(some 10), none, .q (.bin .lss (.t 9) (.c (.int .i64 0)))⟩])
   (.cond (.t 10)
    (.seq (.reg [⟨(some 4), none, .q (.mv (.c (.int .i64 (-1))))⟩])
    .ret)
    .skip))
  (.seq (.reg [⟨(some 11), none, .q (.mv (.t 1))⟩,
     ⟨(some 4), none, .q (.mv (.t 11))⟩])
  .ret))))⟩
theorem l_laws_szSpace : lowF PA f_laws_szSpace 2 [] = some c_laws_szSpace := by kernel_rfl
abbrev f_laws_toSpace : FuncId := 7
def c_laws_toSpace : AF := ⟨1, 9, [.c 2 true 1],
  (.seq (.reg [⟨(some 1), none, .m (.box (.t 0))⟩,
     ⟨(some 2), none, .m (.alloc [(.v (.slice none 0 0))])⟩])
  (.seq (.reg [⟨(some 3), none, .m (.alloc [(.v (.slice none 0 0))])⟩])
  (.seq (.reg [⟨(some 4), none, .q (.fad 0 (.t 1))⟩,
     ⟨(some 5), none, .q (.ld false 1 (.t 4))⟩,
     ⟨(some 6), none, .c (.call 19 [(.t 5)])⟩,
     ⟨(some 7), none, .q (.fad 0 (.t 3))⟩,
     ⟨none, none, .m (.st false 1 (.t 7) (.t 6))⟩])
  (.seq (.reg [⟨(some 8), none, .q (.ld true 1 (.t 3))⟩,
     ⟨none, none, .m (.st true 1 (.t 2) (.t 8))⟩])
  .ret))))⟩
theorem l_laws_toSpace : lowF PA f_laws_toSpace 1 [] = some c_laws_toSpace := by kernel_rfl
abbrev f_laws_eqSpace : FuncId := 9
def c_laws_eqSpace : AF := ⟨2, 11, [.t 4],
  (.seq (.reg [⟨(some 2), none, .m (.box (.t 0))⟩,
     ⟨(some 3), none, .m (.box (.t 1))⟩,
     ⟨(some 4), none, .q (.mv (.c (.bool false)))⟩])
  (.seq (.seq (.reg [⟨(some 5), none, .q (.fad 0 (.t 2))⟩,
      ⟨(some 6), none, .q (.ld false 1 (.t 5))⟩,
      ⟨(some 7), none, .q (.fad 0 (.t 3))⟩,
      ⟨(some 8), none, .q (.ld false 1 (.t 7))⟩,
      ⟨(some 9), none, .c (.call 12 [(.t 6), (.t 8)])⟩,
      ⟨(some 10), none, .q (.un .not (.t 9))⟩])
   (.cond (.t 10)
    (.seq (.reg [⟨(some 4), none, .q (.mv (.c (.bool false)))⟩])
    .ret)
    .skip))
  (.seq (.reg [⟨(some 4), none, .q (.mv (.c (.bool true)))⟩])
  .ret)))⟩
theorem l_laws_eqSpace : lowF PA f_laws_eqSpace 2 [] = some c_laws_eqSpace := by kernel_rfl
abbrev f_spec_FirstApart : FuncId := 10
def c_spec_FirstApart : AF := ⟨2, 16, [.t 4, .t 5],
  (.seq (.reg [⟨(some 2), none, .m (.box (.t 0))⟩,
     ⟨(some 4), none, .q (.mv (.c (.slice none 0 0)))⟩,
     ⟨(some 5), none, .q (.mv (.c (.int .i64 0)))⟩])
  (.seq (.seq (.reg [⟨(some 7), none, .q (.ld true 1 (.t 2))⟩,
      ⟨(some 8), none, .q (.mv (.t 1))⟩,
      ⟨(some 9), none, .c (.call 17 [(.t 7), (.t 8), (.c (.int .i64 2)), (.c (.int .i64 9))])⟩,
      ⟨(some 6), none, .q (.mv (.t 9))⟩])
   (.seq (.reg [⟨(some 10), none, .q (.mv (.t 6))⟩,
      ⟨(some 11), none, .q (.bin .neq (.t 10) (.c (.int .i64 0)))⟩])
   (.cond (.t 11)
    (.seq (.reg [⟨(some 12), none, .q (.mv (.t 6))⟩,
       ⟨(some 4), none, .q (.mv (.c (.slice none 0 0)))⟩,
       ⟨(some 5), none, .q (.mv (.t 12))⟩])
    .ret)
    .skip)))
  (.seq (.reg [⟨(some 13), none, .q (.ld true 1 (.t 2))⟩,
     ⟨(some 14), none, .q (.mv (.t 1))⟩,
     ⟨(some 15), none, .c (.call 18 [(.t 13), (.t 14)])⟩,
     ⟨(some 4), none, .q (.mv (.t 15))⟩,
     ⟨(some 5), none, .q (.mv (.c (.int .i64 0)))⟩])
  .ret)))⟩
theorem l_spec_FirstApart : lowF PA f_spec_FirstApart 2 [] = some c_spec_FirstApart := by kernel_rfl
abbrev f_impl_FirstApart : FuncId := 11
def c_impl_FirstApart : AF := ⟨2, 16, [.t 4, .t 5],
  (.seq (.reg [⟨(some 2), none, .m (.box (.t 0))⟩,
     ⟨(some 4), none, .q (.mv (.c (.slice none 0 0)))⟩,
     ⟨(some 5), none, .q (.mv (.c (.int .i64 0)))⟩])
  (.seq (.seq (.reg [⟨(some 7), none, .q (.ld true 1 (.t 2))⟩,
      ⟨(some 8), none, .q (.mv (.t 1))⟩,
      ⟨(some 9), none, .c (.call 20 [(.t 7), (.t 8), (.c (.int .i64 2)), (.c (.int .i64 9))])⟩,
      ⟨(some 6), none, .q (.mv (.t 9))⟩])
   (.seq (.reg [⟨(some 10), none, .q (.mv (.t 6))⟩,
      ⟨(some 11), none, .q (.bin .neq (.t 10) (.c (.int .i64 0)))⟩])
   (.cond (.t 11)
    (.seq (.reg [⟨(some 12), none, .q (.mv (.t 6))⟩,
       ⟨(some 4), none, .q (.mv (.c (.slice none 0 0)))⟩,
       ⟨(some 5), none, .q (.mv (.t 12))⟩])
    .ret)
    .skip)))
  (.seq (.reg [⟨(some 13), none, .q (.ld true 1 (.t 2))⟩,
     ⟨(some 14), none, .q (.mv (.t 1))⟩,
     ⟨(some 15), none, .c (.call 21 [(.t 13), (.t 14)])⟩,
     ⟨(some 4), none, .q (.mv (.t 15))⟩,
     ⟨(some 5), none, .q (.mv (.c (.int .i64 0)))⟩])
  .ret)))⟩
theorem l_impl_FirstApart : lowF PA f_impl_FirstApart 2 [] = some c_impl_FirstApart := by kernel_rfl
abbrev f_laws_eqInt64S : FuncId := 12
def c_laws_eqInt64S : AF := ⟨2, 26, [.t 4],
  (.seq (.reg [⟨(some 4), none, .q (.mv (.c (.bool false)))⟩])
  (.seq (.seq (.reg [⟨(some 6), none, .q (.mv (.t 0))⟩,
      ⟨(some 7), none, .q (.len (.t 6))⟩,
      ⟨(some 8), none, .q (.mv (.t 1))⟩,
      ⟨(some 9), none, .q (.len (.t 8))⟩,
      ⟨(some 10), none, .q (.bin .neq (.t 7) (.t 9))⟩])
   (.cond (.t 10)
    (.seq (.reg [⟨(some 4), none, .q (.mv (.c (.bool false)))⟩])
    .ret)
    .skip))
  (.seq (.seq (.reg [⟨(some 5), none, .q (.mv (.c (.int .i64 0)))⟩])
   (.block 0 (.loop [0, 1, 5] (.seq (.seq (.reg [⟨(some 11), none, .q (.mv (.t 5))⟩,
         ⟨(some 12), none, .q (.mv (.t 0))⟩,
         ⟨(some 13), none, .q (.len (.t 12))⟩,
         ⟨(some 14), none, .q (.bin .lss (.t 11) (.t 13))⟩])
      (.cond (.t 14)
       .skip
       (.exit 0)))
     (.seq (.block 1 (.seq (.sch (.take 0 ⟨(some 17), none, .q (.mv (.t 0))⟩ (.take 1 ⟨(some 18), none, .q (.mv (.t 5))⟩ (.take 2 ⟨(some 19), none, .q (.ixs 1 (.t 17) (.t 18))⟩ (.take 3 ⟨(some 20), none, .q (.ld false 1 (.t 19))⟩ (.take 4 ⟨(some 21), none, .q (.mv (.t 1))⟩ (.take 5 ⟨(some 22), none, .q (.mv (.t 5))⟩ (.take 6 ⟨(some 23), none, .q (.ixs 1 (.t 21) (.t 22))⟩ (.take 7 ⟨(some 24), none, .q (.ld false 1 (.t 23))⟩ (.take 8 ⟨(some 25), none, .q (.bin .neq (.t 20) (.t 24))⟩ .done))))))))))
       (.cond (.t 25)
        (.seq (.reg [⟨(some 4), none, .q (.mv (.c (.bool false)))⟩])
        .ret)
        .skip)))
     (.reg [⟨(some 15), none, .q (.mv (.t 5))⟩,
       ⟨(some 16), none, .q (.bin .add (.t 15) (.c (.int .i64 1)))⟩,
       ⟨(some 5), none, .q (.mv (.t 16))⟩]))))))
  (.seq (.reg [⟨(some 4), none, .q (.mv (.c (.bool true)))⟩])
  .ret))))⟩
theorem l_laws_eqInt64S : lowF PA f_laws_eqInt64S 2 [.k [0, 1, 5], .s (.take 0 (.take 1 (.take 2 (.take 3 (.take 4 (.take 5 (.take 6 (.take 7 (.take 8 .done)))))))))] = some c_laws_eqInt64S := by kernel_rfl
abbrev f_laws_markSpace : FuncId := 13
def c_laws_markSpace : AF := ⟨2, 10, [.t 4],
  (.seq (.reg [⟨(some 2), none, .m (.box (.t 0))⟩,
     ⟨(some 4), none, .q (.mv (.c (.int .i64 0)))⟩])
  (.seq (.reg [⟨(some 5), none, .q (.fad 0 (.t 2))⟩,
     ⟨(some 6), none, .q (.ld false 1 (.t 5))⟩,
     ⟨(some 7), none, .q (.mv (.t 1))⟩,
     ⟨(some 8), none, .c (.call 14 [(.t 6), (.t 7)])⟩,
     ⟨(some 1), none, .q (.mv (.t 8))⟩])
  (.seq (.reg [⟨(some 9), none, .q (.mv (.t 1))⟩,
     ⟨(some 4), none, .q (.mv (.t 9))⟩])
  .ret)))⟩
theorem l_laws_markSpace : lowF PA f_laws_markSpace 2 [] = some c_laws_markSpace := by kernel_rfl
abbrev f_laws_markInt64S : FuncId := 14
def c_laws_markInt64S : AF := ⟨2, 19, [.t 4],
  (.seq (.reg [⟨(some 4), none, .q (.mv (.c (.int .i64 0)))⟩])
  (.seq (.seq (.reg [⟨(some 5), none, .q (.mv (.c (.int .i64 0)))⟩])
   (.block 0 (.loop [0, 1, 5, 19] (.seq (.seq (.reg [⟨(some 6), none, .q (.mv (.t 5))⟩,
         ⟨(some 7), none, .q (.mv (.t 0))⟩,
         ⟨(some 8), none, .q (.len (.t 7))⟩,
         ⟨(some 9), none, .q (.bin .lss (.t 6) (.t 8))⟩])
      (.cond (.t 9)
       .skip
       (.exit 0)))
     (.seq (.block 1 (.seq (.reg [⟨(some 12), none, .q (.mv (.t 0))⟩,
          ⟨(some 13), none, .q (.mv (.t 5))⟩,
          ⟨(some 14), none, .q (.mv (.t 1))⟩,
          ⟨(some 15), none, .q (.ixs 1 (.t 12) (.t 13))⟩,
          ⟨none, none, .m (.st false 1 (.t 15) (.t 14))⟩])
       (.reg [⟨(some 16), none, .q (.mv (.t 1))⟩,
         ⟨(some 17), none, .q (.bin .add (.t 16) (.c (.int .i64 1)))⟩,
         ⟨(some 1), none, .q (.mv (.t 17))⟩])))
     (.reg [⟨(some 10), none, .q (.mv (.t 5))⟩,
       ⟨(some 11), none, .q (.bin .add (.t 10) (.c (.int .i64 1)))⟩,
       ⟨(some 5), none, .q (.mv (.t 11))⟩]))))))
  (.seq (.reg [⟨(some 18), none, .q (.mv (.t 1))⟩,
     ⟨(some 4), none, .q (.mv (.t 18))⟩])
  .ret)))⟩
theorem l_laws_markInt64S : lowF PA f_laws_markInt64S 2 [.k [0, 1, 5, 19]] = some c_laws_markInt64S := by kernel_rfl
abbrev f_laws_heldInt64S : FuncId := 15
def c_laws_heldInt64S : AF := ⟨2, 21, [.t 4],
  (.seq (.reg [⟨(some 4), none, .q (.mv (.c (.int .i64 0)))⟩])
  (.seq (.seq (.reg [⟨(some 5), none, .q (.mv (.c (.int .i64 0)))⟩])
   (.block 0 (.loop [0, 1, 5] (.seq (.seq (.reg [⟨(some 6), none, .q (.mv (.t 5))⟩,
         ⟨(some 7), none, .q (.mv (.t 0))⟩,
         ⟨(some 8), none, .q (.len (.t 7))⟩,
         ⟨(some 9), none, .q (.bin .lss (.t 6) (.t 8))⟩])
      (.cond (.t 9)
       .skip
       (.exit 0)))
     (.seq (.block 1 (.seq (.seq (.reg [⟨(some 12), none, .q (.mv (.t 0))⟩,
           ⟨(some 13), none, .q (.mv (.t 5))⟩,
           ⟨(some 14), none, .q (.ixs 1 (.t 12) (.t 13))⟩,
           ⟨(some 15), none, .q (.ld false 1 (.t 14))⟩,
           ⟨(some 16), none, .q (.mv (.t 1))⟩,
           ⟨(some 17), none, .q (.bin .neq (.t 15) (.t 16))⟩])
        (.cond (.t 17)
         (.seq (.reg [⟨(some 4), none, .q (.mv (.c (.int .i64 (-1))))⟩])
         .ret)
         .skip))
       (.reg [⟨(some 18), none, .q (.mv (.t 1))⟩,
         ⟨(some 19), none, .q (.bin .add (.t 18) (.c (.int .i64 1)))⟩,
         ⟨(some 1), none, .q (.mv (.t 19))⟩])))
     (.reg [⟨(some 10), none, .q (.mv (.t 5))⟩,
       ⟨(some 11), none, .q (.bin .add (.t 10) (.c (.int .i64 1)))⟩,
       ⟨(some 5), none, .q (.mv (.t 11))⟩]))))))
  (.seq (.reg [⟨(some 20), none, .q (.mv (.t 1))⟩,
     ⟨(some 4), none, .q (.mv (.t 20))⟩])
  .ret)))⟩
theorem l_laws_heldInt64S : lowF PA f_laws_heldInt64S 2 [.k [0, 1, 5]] = some c_laws_heldInt64S := by kernel_rfl
abbrev f_laws_szInt64S : FuncId := 16
def c_laws_szInt64S : AF := ⟨2, 12, [.t 4],
  (.seq (.reg [⟨(some 4), none, .q (.mv (.c (.int .i64 0)))⟩])
  (.seq (.reg [⟨(some 5), none, .q (.mv (.t 1))⟩,
     ⟨(some 6), none, .q (.mv (.t 0))⟩,
     ⟨(some 7), none, .q (.len (.t 6))⟩,
     ⟨(some 8), none, .q (.bin .sub (.t 5) (.t 7))⟩,
     ⟨(some 1), none, .q (.mv (.t 8))⟩])
  (.seq (.seq (.reg [⟨(some 9), none, .q (.mv (.t 1))⟩,
      ⟨(some 10), none, .q (.bin .lss (.t 9) (.c (.int .i64 0)))⟩])
   (.cond (.t 10)
    (.seq (.reg [⟨(some 4), none, .q (.mv (.c (.int .i64 (-1))))⟩])
    .ret)
    .skip))
  (.seq (.reg [⟨(some 11), none, .q (.mv (.t 1))⟩,
     ⟨(some 4), none, .q (.mv (.t 11))⟩])
  .ret))))⟩
theorem l_laws_szInt64S : lowF PA f_laws_szInt64S 2 [] = some c_laws_szInt64S := by kernel_rfl
abbrev f_spec_l04Sought : FuncId := 17
def c_spec_l04Sought : AF := ⟨4, 23, [.t 8],
  (.seq (.reg [⟨(some 4), none, .m (.box (.t 0))⟩,
     ⟨(some 8), none, .q (.mv (.c (.int .i64 0)))⟩])
  (.seq (.reg [⟨(some 10), none, .q (.ld true 1 (.t 4))⟩,
     ⟨(some 11), none, .q (.mv (.t 1))⟩,
     ⟨(some 12), none, .q (.mv (.t 2))⟩,
     ⟨(some 13), none, .q (.mv (.t 3))⟩,
     ⟨(some 14), none, .c (.call 22 [(.t 10), (.t 11), (.t 12), (.t 13)])⟩,
     ⟨(some 9), none, .q (.mv (.t 14))⟩])
  (.seq (.seq (.reg [⟨(some 15), none, .q (.mv (.t 9))⟩,
      ⟨(some 16), none, .q (.bin .eql (.t 15) (.c (.int .i64 0)))⟩,
      ⟨(some 17), none, .q (.mv (.t 16))⟩,
      ⟨(some 18), (some (17, true)), .q (.ld true 1 (.t 4))⟩,
      ⟨(some 19), (some (17, true)), .c (.call 23 [(.t 18)])⟩,
      ⟨(some 20), (some (17, true)), .q (.bin .gtr (.t 19) (.c (.int .i64 27)))⟩,
      ⟨(some 21), none, .q (.pick (.t 17) (.t 20) (.c (.bool false)))⟩])
   (.cond (.t 21)
    (.reg [⟨(some 9), none, .q (.mv (.c (.int .i64 3)))⟩])
    .skip))
  (.seq (.reg [⟨(some 22), none, .q (.mv (.t 9))⟩,
     ⟨(some 8), none, .q (.mv (.t 22))⟩])
  .ret))))⟩
theorem l_spec_l04Sought : lowF PA f_spec_l04Sought 4 [] = some c_spec_l04Sought := by kernel_rfl
abbrev f_spec_l04Most : FuncId := 18
def c_spec_l04Most : AF := ⟨2, 29, [.t 4],
  (.seq (.reg [⟨(some 2), none, .m (.box (.t 0))⟩,
     ⟨(some 4), none, .q (.mv (.c (.slice none 0 0)))⟩])
  (.seq (.reg [⟨(some 9), none, .m (.bsl 1 [])⟩,
     ⟨(some 5), none, .q (.mv (.t 9))⟩])
  (.seq (.seq (.reg [⟨(some 6), none, .q (.mv (.c (.int .i64 0)))⟩])
   (.block 0 (.loop [1, 2, 5, 6] (.seq (.seq (.reg [⟨(some 10), none, .q (.mv (.t 6))⟩,
         ⟨(some 11), none, .q (.ld true 1 (.t 2))⟩,
         ⟨(some 12), none, .c (.call 23 [(.t 11)])⟩,
         ⟨(some 13), none, .q (.bin .lss (.t 10) (.t 12))⟩])
      (.cond (.t 13)
       .skip
       (.exit 0)))
     (.seq (.block 1 (.reg [⟨(some 16), none, .q (.mv (.t 5))⟩,
         ⟨(some 17), none, .q (.mv (.t 6))⟩,
         ⟨(some 18), none, .m (.bsl 1 [(.t 17)])⟩,
         ⟨(some 19), none, .m (.app 1 8 (.t 16) (.t 18))⟩,
         ⟨(some 5), none, .q (.mv (.t 19))⟩]))
     (.reg [⟨(some 14), none, .q (.mv (.t 6))⟩,
       ⟨(some 15), none, .q (.bin .add (.t 14) (.c (.int .i64 1)))⟩,
       ⟨(some 6), none, .q (.mv (.t 15))⟩]))))))
  (.seq (.reg [⟨(some 21), none, .q (.ld true 1 (.t 2))⟩,
     ⟨(some 22), none, .m (.bsl 1 [])⟩,
     ⟨(some 23), none, .q (.mv (.t 5))⟩,
     ⟨(some 24), none, .q (.mv (.t 1))⟩,
     ⟨(some 25), none, .c (.call 24 [(.t 21), (.t 22), (.t 23), (.t 24), (.c (.int .i64 0))])⟩,
     ⟨(some 20), none, .q (.mv (.t 25))⟩,
     ⟨(some 26), none, .q (.ext (.t 20) 0)⟩,
     ⟨(some 27), none, .q (.ext (.t 20) 1)⟩,
     ⟨(some 7), none, .q (.mv (.t 26))⟩,
     ⟨(some 8), none, .q (.mv (.t 27))⟩])
  (.seq (.reg [⟨(some 28), none, .q (.mv (.t 7))⟩,
     ⟨(some 4), none, .q (.mv (.t 28))⟩])
  .ret)))))⟩
theorem l_spec_l04Most : lowF PA f_spec_l04Most 2 [.k [1, 2, 5, 6]] = some c_spec_l04Most := by kernel_rfl
abbrev f_laws_toInt64S : FuncId := 19
def c_laws_toInt64S : AF := ⟨1, 22, [.t 2],
  (.seq (.reg [⟨(some 2), none, .q (.mv (.c (.slice none 0 0)))⟩])
  (.seq (.reg [⟨(some 5), none, .q (.mv (.t 0))⟩,
     ⟨(some 6), none, .q (.len (.t 5))⟩,
     ⟨(some 7), none, .m (.mks 1 (.v (.int .i64 0)) 8 (.t 6) (.t 6))⟩,
     ⟨(some 3), none, .q (.mv (.t 7))⟩])
  (.seq (.seq (.reg [⟨(some 4), none, .q (.mv (.c (.int .i64 0)))⟩])
   (.block 0 (.loop [0, 3, 4] (.seq (.seq (.reg [⟨(some 8), none, .q (.mv (.t 4))⟩,
         ⟨(some 9), none, .q (.mv (.t 0))⟩,
         ⟨(some 10), none, .q (.len (.t 9))⟩,
         ⟨(some 11), none, .q (.bin .lss (.t 8) (.t 10))⟩])
      (.cond (.t 11)
       .skip
       (.exit 0)))
     (.seq (.block 1 (.reg [⟨(some 14), none, .q (.mv (.t 3))⟩,
         ⟨(some 15), none, .q (.mv (.t 4))⟩,
         ⟨(some 16), none, .q (.mv (.t 0))⟩,
         ⟨(some 17), none, .q (.mv (.t 4))⟩,
         ⟨(some 18), none, .q (.ixs 1 (.t 16) (.t 17))⟩,
         ⟨(some 19), none, .q (.ld false 1 (.t 18))⟩,
         ⟨(some 20), none, .q (.ixs 1 (.t 14) (.t 15))⟩,
         ⟨none, none, .m (.st false 1 (.t 20) (.t 19))⟩]))
     (.reg [⟨(some 12), none, .q (.mv (.t 4))⟩,
       ⟨(some 13), none, .q (.bin .add (.t 12) (.c (.int .i64 1)))⟩,
       ⟨(some 4), none, .q (.mv (.t 13))⟩]))))))
  (.seq (.reg [⟨(some 21), none, .q (.mv (.t 3))⟩,
     ⟨(some 2), none, .q (.mv (.t 21))⟩])
  .ret))))⟩
theorem l_laws_toInt64S : lowF PA f_laws_toInt64S 1 [.k [0, 3, 4]] = some c_laws_toInt64S := by kernel_rfl
abbrev f_impl_soughtCode : FuncId := 20
def c_impl_soughtCode : AF := ⟨4, 26, [.t 8],
  (.seq (.reg [⟨(some 4), none, .m (.box (.t 0))⟩,
     ⟨(some 8), none, .q (.mv (.c (.int .i64 0)))⟩])
  (.seq (.block 0 (.seq (.reg [⟨(some 10), none, .q (.ld true 1 (.t 4))⟩,
       ⟨(some 11), none, .c (.call 25 [(.t 10)])⟩,
       ⟨(some 12), none, .q (.un .not (.t 11))⟩,
       ⟨(some 9), none, .q (.mv (.t 12))⟩])
    (.cond (.t 9)
     (.seq (.reg [⟨(some 8), none, .q (.mv (.c (.int .i64 1)))⟩])
     .ret)
     (.seq (.reg [⟨(some 14), none, .q (.mv (.t 1))⟩,
        ⟨(some 15), none, .q (.mv (.t 2))⟩,
        ⟨(some 16), none, .q (.bin .lss (.t 14) (.t 15))⟩,
        ⟨(some 17), none, .q (.mv (.t 16))⟩,
        ⟨(some 18), (some (17, false)), .q (.mv (.t 1))⟩,
        ⟨(some 19), (some (17, false)), .q (.mv (.t 3))⟩,
        ⟨(some 20), (some (17, false)), .q (.bin .gtr (.t 18) (.t 19))⟩,
        ⟨(some 21), none, .q (.pick (.t 17) (.c (.bool true)) (.t 20))⟩,
        ⟨(some 13), none, .q (.mv (.t 21))⟩])
     (.cond (.t 13)
      (.seq (.reg [⟨(some 8), none, .q (.mv (.c (.int .i64 2)))⟩])
      .ret)
      (.seq (.reg [⟨(some 23), none, .q (.ld true 1 (.t 4))⟩,
         ⟨(some 24), none, .c (.call 26 [(.t 23)])⟩,
         ⟨(some 25), none, .q (.bin .gtr (.t 24) (.c (.int .i64 27)))⟩,
         ⟨(some 22), none, .q (.mv (.t 25))⟩])
      (.cond (.t 22)
       (.seq (.reg [⟨(some 8), none, .q (.mv (.c (.int .i64 3)))⟩])
       .ret)
       .skip)))))))
  (.seq (.reg [⟨(some 8), none, .q (.mv (.c (.int .i64 0)))⟩])
  .ret)))⟩
theorem l_impl_soughtCode : lowF PA f_impl_soughtCode 4 [] = some c_impl_soughtCode := by kernel_rfl
abbrev f_impl_firstApart : FuncId := 21
def c_impl_firstApart : AF := ⟨2, 30, [.t 4],
  (.seq (.reg [⟨(some 2), none, .m (.box (.t 0))⟩,
     ⟨(some 4), none, .q (.mv (.c (.slice none 0 0)))⟩])
  (.seq (.reg [⟨(some 9), none, .q (.ld true 1 (.t 2))⟩,
     ⟨(some 10), none, .q (.mv (.t 1))⟩,
     ⟨(some 11), none, .q (.bin .sub (.t 10) (.c (.int .i64 1)))⟩,
     ⟨(some 12), none, .q (.mn (.t 11) (.c (.int .i64 8)))⟩,
     ⟨(some 13), none, .c (.call 27 [(.t 9), (.t 12)])⟩,
     ⟨(some 5), none, .m (.alloc [(.v (.slice none 0 0))])⟩,
     ⟨none, none, .m (.st false 1 (.t 5) (.t 13))⟩])
  (.seq (.reg [⟨(some 14), none, .q (.ld true 1 (.t 2))⟩,
     ⟨(some 15), none, .q (.mv (.t 1))⟩,
     ⟨(some 16), none, .q (.bin .sub (.t 15) (.c (.int .i64 1)))⟩,
     ⟨(some 17), none, .c (.call 28 [(.t 14), (.t 16)])⟩,
     ⟨(some 6), none, .m (.alloc [(.v (.int .i64 0))])⟩,
     ⟨none, none, .m (.st false 1 (.t 6) (.t 17))⟩])
  (.block 0 (.loop [5, 6, 32] (.seq (.block 1 (.seq (.reg [⟨(some 20), none, .m (.bsl 1 [])⟩,
         ⟨(some 7), none, .m (.alloc [(.v (.slice none 0 0))])⟩,
         ⟨none, none, .m (.st false 1 (.t 7) (.t 20))⟩])
      (.seq (.reg [⟨(some 8), none, .m (.alloc [(.v .nilFunc)])⟩])
      (.seq (.reg [⟨(some 21), none, .q (.mkf 29 [(.t 6), (.t 7), (.t 8), (.t 5)])⟩,
         ⟨none, none, .m (.st false 1 (.t 8) (.t 21))⟩])
      (.seq (.sch (.take 0 ⟨(some 22), none, .q (.ld false 1 (.t 8))⟩ (.take 1 ⟨(some 23), none, .q (.ld false 1 (.t 5))⟩ (.take 2 ⟨(some 24), none, .q (.len (.t 23))⟩ (.take 3 ⟨(some 25), none, .q (.bin .shl (.c (.int .u64 1)) (.t 24))⟩ (.take 4 ⟨(some 26), none, .q (.bin .sub (.t 25) (.c (.int .u64 1)))⟩ (.one ⟨(some 27), none, .c (.cav (.t 22) [(.t 26)])⟩ [0] .done)))))))
      (.cond (.t 27)
       (.seq (.reg [⟨(some 28), none, .q (.ld false 1 (.t 7))⟩,
          ⟨(some 4), none, .q (.mv (.t 28))⟩])
       .ret)
       .skip))))))
    (.seq (.seq (.reg [⟨(some 29), none, .q (.ld false 1 (.t 6))⟩])
     (.reg [⟨(some 6), none, .m (.alloc [(.v (.int .i64 0))])⟩,
       ⟨none, none, .m (.st false 1 (.t 6) (.t 29))⟩]))
    (.reg [⟨(some 18), none, .q (.ld false 1 (.t 6))⟩,
      ⟨(some 19), none, .q (.bin .sub (.t 18) (.c (.int .i64 1)))⟩,
      ⟨none, none, .m (.st false 1 (.t 6) (.t 19))⟩]))))))))⟩
theorem l_impl_firstApart : lowF PA f_impl_firstApart 2 [.k [5, 6, 32], .s (.take 0 (.take 1 (.take 2 (.take 3 (.take 4 (.one 5 .done))))))] = some c_impl_firstApart := by kernel_rfl
abbrev f_spec_l04Code : FuncId := 22
def c_spec_l04Code : AF := ⟨4, 19, [.t 8],
  (.seq (.reg [⟨(some 4), none, .m (.box (.t 0))⟩,
     ⟨(some 8), none, .q (.mv (.c (.int .i64 0)))⟩])
  (.seq (.block 0 (.seq (.reg [⟨(some 10), none, .q (.ld true 1 (.t 4))⟩,
       ⟨(some 11), none, .c (.call 32 [(.t 10)])⟩,
       ⟨(some 12), none, .q (.un .not (.t 11))⟩,
       ⟨(some 9), none, .q (.mv (.t 12))⟩])
    (.cond (.t 9)
     (.seq (.reg [⟨(some 8), none, .q (.mv (.c (.int .i64 1)))⟩])
     .ret)
     (.seq (.reg [⟨(some 14), none, .q (.mv (.t 1))⟩,
        ⟨(some 15), none, .q (.mv (.t 2))⟩,
        ⟨(some 16), none, .q (.mv (.t 3))⟩,
        ⟨(some 17), none, .c (.call 33 [(.t 14), (.t 15), (.t 16)])⟩,
        ⟨(some 18), none, .q (.un .not (.t 17))⟩,
        ⟨(some 13), none, .q (.mv (.t 18))⟩])
     (.cond (.t 13)
      (.seq (.reg [⟨(some 8), none, .q (.mv (.c (.int .i64 2)))⟩])
      .ret)
      .skip)))))
  (.seq (.reg [⟨(some 8), none, .q (.mv (.c (.int .i64 0)))⟩])
  .ret)))⟩
theorem l_spec_l04Code : lowF PA f_spec_l04Code 4 [] = some c_spec_l04Code := by kernel_rfl
abbrev f_spec_l01N : FuncId := 23
def c_spec_l01N : AF := ⟨1, 20, [.t 2],
  (.seq (.reg [⟨(some 1), none, .m (.box (.t 0))⟩,
     ⟨(some 2), none, .q (.mv (.c (.int .i64 0)))⟩])
  (.seq (.reg [⟨(some 3), none, .q (.mv (.c (.int .i64 1)))⟩])
  (.seq (.seq (.reg [⟨(some 4), none, .q (.mv (.c (.int .i64 0)))⟩])
   (.block 0 (.loop [1, 3, 4] (.seq (.seq (.reg [⟨(some 5), none, .q (.mv (.t 4))⟩,
         ⟨(some 6), none, .q (.fad 0 (.t 1))⟩,
         ⟨(some 7), none, .q (.ld false 1 (.t 6))⟩,
         ⟨(some 8), none, .q (.len (.t 7))⟩,
         ⟨(some 9), none, .q (.bin .lss (.t 5) (.t 8))⟩])
      (.cond (.t 9)
       .skip
       (.exit 0)))
     (.seq (.block 1 (.reg [⟨(some 12), none, .q (.mv (.t 3))⟩,
         ⟨(some 13), none, .q (.fad 0 (.t 1))⟩,
         ⟨(some 14), none, .q (.ld false 1 (.t 13))⟩,
         ⟨(some 15), none, .q (.mv (.t 4))⟩,
         ⟨(some 16), none, .q (.ixs 1 (.t 14) (.t 15))⟩,
         ⟨(some 17), none, .q (.ld false 1 (.t 16))⟩,
         ⟨(some 18), none, .q (.bin .mul (.t 12) (.t 17))⟩,
         ⟨(some 3), none, .q (.mv (.t 18))⟩]))
     (.reg [⟨(some 10), none, .q (.mv (.t 4))⟩,
       ⟨(some 11), none, .q (.bin .add (.t 10) (.c (.int .i64 1)))⟩,
       ⟨(some 4), none, .q (.mv (.t 11))⟩]))))))
  (.seq (.reg [⟨(some 19), none, .q (.mv (.t 3))⟩,
     ⟨(some 2), none, .q (.mv (.t 19))⟩])
  .ret))))⟩
theorem l_spec_l01N : lowF PA f_spec_l01N 1 [.k [1, 3, 4]] = some c_spec_l01N := by kernel_rfl
abbrev f_spec_l04Grow : FuncId := 24
def c_spec_l04Grow : AF := ⟨5, 94, [.t 10, .t 11],
  (.seq (.reg [⟨(some 5), none, .m (.box (.t 0))⟩,
     ⟨(some 10), none, .q (.mv (.c (.slice none 0 0)))⟩,
     ⟨(some 11), none, .q (.mv (.c (.bool false)))⟩])
  (.seq (.reg [⟨(some 19), none, .m (.bsl 1 [])⟩,
     ⟨(some 12), none, .q (.mv (.t 19))⟩,
     ⟨(some 13), none, .q (.mv (.c (.bool false)))⟩])
  (.seq (.seq (.reg [⟨(some 20), none, .q (.mv (.t 1))⟩,
      ⟨(some 21), none, .q (.len (.t 20))⟩,
      ⟨(some 22), none, .q (.mv (.t 4))⟩,
      ⟨(some 23), none, .q (.bin .gtr (.t 21) (.t 22))⟩])
   (.cond (.t 23)
    (.seq (.reg [⟨(some 24), none, .q (.mv (.t 1))⟩,
       ⟨(some 12), none, .q (.mv (.t 24))⟩])
    (.seq (.reg [⟨(some 13), none, .q (.mv (.c (.bool true)))⟩])
    (.reg [⟨(some 25), none, .q (.mv (.t 1))⟩,
      ⟨(some 26), none, .q (.len (.t 25))⟩,
      ⟨(some 4), none, .q (.mv (.t 26))⟩])))
    .skip))
  (.seq (.seq (.reg [⟨(some 14), none, .q (.mv (.c (.int .i64 0)))⟩])
   (.block 0 (.loop [1, 2, 3, 4, 5, 12, 13, 14] (.seq (.seq (.reg [⟨(some 27), none, .q (.mv (.t 14))⟩,
         ⟨(some 28), none, .q (.mv (.t 2))⟩,
         ⟨(some 29), none, .q (.len (.t 28))⟩,
         ⟨(some 30), none, .q (.bin .lss (.t 27) (.t 29))⟩,
         ⟨(some 31), none, .q (.mv (.t 30))⟩,
         ⟨(some 32), (some (31, true)), .q (.mv (.t 1))⟩,
         ⟨(some 33), (some (31, true)), .q (.len (.t 32))⟩,
         ⟨(some 34), (some (31, true)), .q (.mv (.t 2))⟩,
         ⟨(some 35), (some (31, true)), .q (.len (.t 34))⟩,
         ⟨(some 36), (some (31, true)), .q (.bin .add (.t 33) (.t 35))⟩,
         ⟨(some 37), (some (31, true)), .q (.mv (.t 14))⟩,
         ⟨(some 38), (some (31, true)), .q (.bin .sub (.t 36) (.t 37))⟩,
         ⟨(some 39), (some (31, true)), .q (.mv (.t 4))⟩,
         ⟨(some 40), (some (31, true)), .q (.bin .gtr (.t 38) (.t 39))⟩,
         ⟨(some 41), none, .q (.pick (.t 31) (.t 40) (.c (.bool false)))⟩])
      (.cond (.t 41)
       .skip
       (.exit 0)))
     (.seq (.block 1 (.seq (.reg [⟨(some 44), none, .m (.bsl 1 [])⟩,
          ⟨(some 15), none, .q (.mv (.t 44))⟩])
       (.seq (.seq (.reg [⟨(some 45), none, .q (.mv (.t 14))⟩,
           ⟨(some 46), none, .q (.bin .add (.t 45) (.c (.int .i64 1)))⟩,
           ⟨(some 16), none, .q (.mv (.t 46))⟩])
        (.block 2 (.loop [1, 2, 3, 4, 5, 12, 13, 14, 15, 16] (.seq (.seq (.reg [⟨(some 47), none, .q (.mv (.t 16))⟩,
              ⟨(some 48), none, .q (.mv (.t 2))⟩,
              ⟨(some 49), none, .q (.len (.t 48))⟩,
              ⟨(some 50), none, .q (.bin .lss (.t 47) (.t 49))⟩])
           (.cond (.t 50)
            .skip
            (.exit 2)))
          (.seq (.block 3 (.seq (.sch (.take 0 ⟨(some 53), none, .q (.ld true 1 (.t 5))⟩ (.take 1 ⟨(some 54), none, .q (.mv (.t 2))⟩ (.take 2 ⟨(some 55), none, .q (.mv (.t 14))⟩ (.take 3 ⟨(some 56), none, .q (.ixs 1 (.t 54) (.t 55))⟩ (.take 4 ⟨(some 57), none, .q (.ld false 1 (.t 56))⟩ (.take 5 ⟨(some 58), none, .q (.mv (.t 2))⟩ (.take 6 ⟨(some 59), none, .q (.mv (.t 16))⟩ (.take 7 ⟨(some 60), none, .q (.ixs 1 (.t 58) (.t 59))⟩ (.take 8 ⟨(some 61), none, .q (.ld false 1 (.t 60))⟩ (.take 10 ⟨(some 63), none, .q (.mv (.t 3))⟩ (.one ⟨(some 62), none, .c (.call 34 [(.t 53), (.t 57), (.t 61)])⟩ [8, 4, 0] (.take 11 ⟨(some 64), none, .q (.bin .geq (.t 62) (.t 63))⟩ .done)))))))))))))
            (.cond (.t 64)
             (.reg [⟨(some 65), none, .q (.mv (.t 15))⟩,
               ⟨(some 66), none, .q (.mv (.t 2))⟩,
               ⟨(some 67), none, .q (.mv (.t 16))⟩,
               ⟨(some 68), none, .q (.ixs 1 (.t 66) (.t 67))⟩,
               ⟨(some 69), none, .q (.ld false 1 (.t 68))⟩,
               ⟨(some 70), none, .m (.bsl 1 [(.t 69)])⟩,
               ⟨(some 71), none, .m (.app 1 8 (.t 65) (.t 70))⟩,
               ⟨(some 15), none, .q (.mv (.t 71))⟩])
             .skip)))
          (.reg [⟨(some 51), none, .q (.mv (.t 16))⟩,
            ⟨(some 52), none, .q (.bin .add (.t 51) (.c (.int .i64 1)))⟩,
            ⟨(some 16), none, .q (.mv (.t 52))⟩]))))))
       (.seq (.sch (.take 0 ⟨(some 73), none, .q (.ld true 1 (.t 5))⟩ (.take 1 ⟨(some 74), none, .q (.mv (.t 1))⟩ (.take 3 ⟨(some 76), none, .q (.mv (.t 2))⟩ (.take 4 ⟨(some 77), none, .q (.mv (.t 14))⟩ (.take 5 ⟨(some 78), none, .q (.ixs 1 (.t 76) (.t 77))⟩ (.take 6 ⟨(some 79), none, .q (.ld false 1 (.t 78))⟩ (.take 9 ⟨(some 82), none, .q (.mv (.t 15))⟩ (.take 10 ⟨(some 83), none, .q (.mv (.t 3))⟩ (.take 11 ⟨(some 84), none, .q (.mv (.t 4))⟩ (.two ⟨(some 75), none, .c (.call 35 [(.t 74)])⟩ [] (.one ⟨(some 80), none, .m (.bsl 1 [(.t 79)])⟩ [6] (.one ⟨(some 81), none, .m (.app 1 8 (.t 75) (.t 80))⟩ [] (.one ⟨(some 85), none, .c (.call 24 [(.t 73), (.t 81), (.t 82), (.t 83), (.t 84)])⟩ [0] (.take 13 ⟨(some 72), none, .q (.mv (.t 85))⟩ (.take 14 ⟨(some 86), none, .q (.ext (.t 72) 0)⟩ (.take 15 ⟨(some 87), none, .q (.ext (.t 72) 1)⟩ (.take 16 ⟨(some 17), none, .q (.mv (.t 86))⟩ (.take 17 ⟨(some 18), none, .q (.mv (.t 87))⟩ .done)))))))) ⟨(some 80), none, .m (.bsl 1 [(.t 79)])⟩ [6] (.one ⟨(some 75), none, .c (.call 35 [(.t 74)])⟩ [] (.one ⟨(some 81), none, .m (.app 1 8 (.t 75) (.t 80))⟩ [] (.one ⟨(some 85), none, .c (.call 24 [(.t 73), (.t 81), (.t 82), (.t 83), (.t 84)])⟩ [0] (.take 13 ⟨(some 72), none, .q (.mv (.t 85))⟩ (.take 14 ⟨(some 86), none, .q (.ext (.t 72) 0)⟩ (.take 15 ⟨(some 87), none, .q (.ext (.t 72) 1)⟩ (.take 16 ⟨(some 17), none, .q (.mv (.t 86))⟩ (.take 17 ⟨(some 18), none, .q (.mv (.t 87))⟩ .done)))))))))))))))))))
       (.seq (.reg [⟨(some 88), none, .q (.mv (.t 18))⟩])
       (.cond (.t 88)
        (.seq (.reg [⟨(some 89), none, .q (.mv (.t 17))⟩,
           ⟨(some 12), none, .q (.mv (.t 89))⟩])
        (.seq (.reg [⟨(some 13), none, .q (.mv (.c (.bool true)))⟩])
        (.reg [⟨(some 90), none, .q (.mv (.t 17))⟩,
          ⟨(some 91), none, .q (.len (.t 90))⟩,
          ⟨(some 4), none, .q (.mv (.t 91))⟩])))
        .skip))))))
     (.reg [⟨(some 42), none, .q (.mv (.t 14))⟩,
       ⟨(some 43), none, .q (.bin .add (.t 42) (.c (.int .i64 1)))⟩,
       ⟨(some 14), none, .q (.mv (.t 43))⟩]))))))
  (.seq (.reg [⟨(some 92), none, .q (.mv (.t 12))⟩,
     ⟨(some 93), none, .q (.mv (.t 13))⟩,
     ⟨(some 10), none, .q (.mv (.t 92))⟩,
     ⟨(some 11), none, .q (.mv (.t 93))⟩])
  .ret)))))⟩
theorem l_spec_l04Grow : lowF PA f_spec_l04Grow 5 [.k [1, 2, 3, 4, 5, 12, 13, 14], .k [1, 2, 3, 4, 5, 12, 13, 14, 15, 16], .s (.take 0 (.take 1 (.take 2 (.take 3 (.take 4 (.take 5 (.take 6 (.take 7 (.take 8 (.take 10 (.one 9 (.take 11 .done)))))))))))), .s (.take 0 (.take 1 (.take 3 (.take 4 (.take 5 (.take 6 (.take 9 (.take 10 (.take 11 (.two 2 (.one 7 (.one 8 (.one 12 (.take 13 (.take 14 (.take 15 (.take 16 (.take 17 .done)))))))) 7 (.one 2 (.one 8 (.one 12 (.take 13 (.take 14 (.take 15 (.take 16 (.take 17 .done))))))))))))))))))] = some c_spec_l04Grow := by kernel_rfl
abbrev f_impl_IsSpace : FuncId := 25
def c_impl_IsSpace : AF := ⟨1, 35, [.t 2],
  (.seq (.reg [⟨(some 1), none, .m (.box (.t 0))⟩,
     ⟨(some 2), none, .q (.mv (.c (.bool false)))⟩])
  (.seq (.seq (.reg [⟨(some 6), none, .q (.fad 0 (.t 1))⟩,
      ⟨(some 7), none, .q (.ld false 1 (.t 6))⟩,
      ⟨(some 8), none, .q (.len (.t 7))⟩,
      ⟨(some 9), none, .q (.bin .lss (.t 8) (.c (.int .i64 1)))⟩,
      ⟨(some 10), none, .q (.mv (.t 9))⟩,
      ⟨(some 11), (some (10, false)), .q (.fad 0 (.t 1))⟩,
      ⟨(some 12), (some (10, false)), .q (.ld false 1 (.t 11))⟩,
      ⟨(some 13), (some (10, false)), .q (.len (.t 12))⟩,
      ⟨(some 14), (some (10, false)), .q (.bin .gtr (.t 13) (.c (.int .i64 8)))⟩,
      ⟨(some 15), none, .q (.pick (.t 10) (.c (.bool true)) (.t 14))⟩])
   (.cond (.t 15)
    (.seq (.reg [⟨(some 2), none, .q (.mv (.c (.bool false)))⟩])
    .ret)
    .skip))
  (.seq (.reg [⟨(some 3), none, .q (.mv (.c (.int .i64 1)))⟩])
  (.seq (.seq (.reg [⟨(some 16), none, .q (.fad 0 (.t 1))⟩,
      ⟨(some 17), none, .q (.ld false 1 (.t 16))⟩,
      ⟨(some 18), none, .q (.len (.t 17))⟩,
      ⟨(some 19), none, .q (.mv (.c (.int .i64 0)))⟩])
   (.block 0 (.loop [3, 17, 18, 19] (.seq (.reg [⟨(some 20), none, .q (.bin .lss (.t 19) (.t 18))⟩])
     (.seq (.cond (.t 20)
       .skip
       (.exit 0))
     (.seq (.block 1 (.seq (.reg [⟨(some 21), none, .q (.ixs 1 (.t 17) (.t 19))⟩,
          ⟨(some 22), none, .q (.ld false 1 (.t 21))⟩,
          ⟨(some 5), none, .q (.mv (.t 22))⟩])
       (.seq (.seq (.reg [⟨(some 23), none, .q (.mv (.t 5))⟩,
           ⟨(some 24), none, .q (.bin .lss (.t 23) (.c (.int .i64 2)))⟩,
           ⟨(some 25), none, .q (.mv (.t 24))⟩,
           ⟨(some 26), (some (25, false)), .q (.mv (.t 5))⟩,
           ⟨(some 27), (some (25, false)), .q (.bin .gtr (.t 26) (.c (.int .i64 4)))⟩,
           ⟨(some 28), none, .q (.pick (.t 25) (.c (.bool true)) (.t 27))⟩])
        (.cond (.t 28)
         (.seq (.reg [⟨(some 2), none, .q (.mv (.c (.bool false)))⟩])
         .ret)
         .skip))
       (.reg [⟨(some 29), none, .q (.mv (.t 3))⟩,
         ⟨(some 30), none, .q (.mv (.t 5))⟩,
         ⟨(some 31), none, .q (.bin .mul (.t 29) (.t 30))⟩,
         ⟨(some 3), none, .q (.mv (.t 31))⟩]))))
     (.reg [⟨(some 32), none, .q (.bin .add (.t 19) (.c (.int .i64 1)))⟩,
       ⟨(some 19), none, .q (.mv (.t 32))⟩])))))))
  (.seq (.reg [⟨(some 33), none, .q (.mv (.t 3))⟩,
     ⟨(some 34), none, .q (.bin .leq (.t 33) (.c (.int .i64 1024)))⟩,
     ⟨(some 2), none, .q (.mv (.t 34))⟩])
  .ret)))))⟩
theorem l_impl_IsSpace : lowF PA f_impl_IsSpace 1 [.k [3, 17, 18, 19]] = some c_impl_IsSpace := by kernel_rfl
abbrev f_impl_count : FuncId := 26
def c_impl_count : AF := ⟨1, 18, [.t 2],
  (.seq (.reg [⟨(some 1), none, .m (.box (.t 0))⟩,
     ⟨(some 2), none, .q (.mv (.c (.int .i64 0)))⟩])
  (.seq (.reg [⟨(some 3), none, .q (.mv (.c (.int .i64 1)))⟩])
  (.seq (.seq (.reg [⟨(some 6), none, .q (.fad 0 (.t 1))⟩,
      ⟨(some 7), none, .q (.ld false 1 (.t 6))⟩,
      ⟨(some 8), none, .q (.len (.t 7))⟩,
      ⟨(some 9), none, .q (.mv (.c (.int .i64 0)))⟩])
   (.block 0 (.loop [3, 7, 8, 9] (.seq (.reg [⟨(some 10), none, .q (.bin .lss (.t 9) (.t 8))⟩])
     (.seq (.cond (.t 10)
       .skip
       (.exit 0))
     (.seq (.block 1 (.seq (.reg [⟨(some 11), none, .q (.ixs 1 (.t 7) (.t 9))⟩,
          ⟨(some 12), none, .q (.ld false 1 (.t 11))⟩,
          ⟨(some 5), none, .q (.mv (.t 12))⟩])
       (.reg [⟨(some 13), none, .q (.mv (.t 3))⟩,
         ⟨(some 14), none, .q (.mv (.t 5))⟩,
         ⟨(some 15), none, .q (.bin .mul (.t 13) (.t 14))⟩,
         ⟨(some 3), none, .q (.mv (.t 15))⟩])))
     (.reg [⟨(some 16), none, .q (.bin .add (.t 9) (.c (.int .i64 1)))⟩,
       ⟨(some 9), none, .q (.mv (.t 16))⟩])))))))
  (.seq (.reg [⟨(some 17), none, .q (.mv (.t 3))⟩,
     ⟨(some 2), none, .q (.mv (.t 17))⟩])
  .ret))))⟩
theorem l_impl_count : lowF PA f_impl_count 1 [.k [3, 7, 8, 9]] = some c_impl_count := by kernel_rfl
abbrev f_impl_nearSets : FuncId := 27
def c_impl_nearSets : AF := ⟨2, 36, [.t 4],
  (.seq (.reg [⟨(some 2), none, .m (.box (.t 0))⟩,
     ⟨(some 4), none, .q (.mv (.c (.slice none 0 0)))⟩])
  (.seq (.reg [⟨(some 10), none, .m (.bsl 1 [])⟩,
     ⟨(some 5), none, .q (.mv (.t 10))⟩])
  (.seq (.seq (.reg [⟨(some 11), none, .q (.ld true 1 (.t 2))⟩,
      ⟨(some 12), none, .c (.call 26 [(.t 11)])⟩,
      ⟨(some 13), none, .q (.mv (.c (.int .i64 0)))⟩])
   (.block 0 (.loop [1, 2, 5, 12, 13] (.seq (.reg [⟨(some 14), none, .q (.bin .lss (.t 13) (.t 12))⟩])
     (.seq (.cond (.t 14)
       .skip
       (.exit 0))
     (.seq (.block 1 (.seq (.reg [⟨(some 15), none, .q (.mv (.t 13))⟩,
          ⟨(some 6), none, .q (.mv (.t 15))⟩])
       (.seq (.reg [⟨(some 7), none, .q (.mv (.c (.int .u64 0)))⟩])
       (.seq (.seq (.reg [⟨(some 16), none, .q (.ld true 1 (.t 2))⟩,
           ⟨(some 17), none, .q (.mv (.t 6))⟩,
           ⟨(some 18), none, .q (.mv (.t 1))⟩,
           ⟨(some 19), none, .c (.call 36 [(.t 16), (.t 17), (.t 18)])⟩,
           ⟨(some 20), none, .q (.len (.t 19))⟩,
           ⟨(some 21), none, .q (.mv (.c (.int .i64 0)))⟩])
        (.block 2 (.loop [1, 2, 5, 7, 12, 13, 19, 20, 21] (.seq (.reg [⟨(some 22), none, .q (.bin .lss (.t 21) (.t 20))⟩])
          (.seq (.cond (.t 22)
            .skip
            (.exit 2))
          (.seq (.block 3 (.seq (.reg [⟨(some 23), none, .q (.ixs 1 (.t 19) (.t 21))⟩,
               ⟨(some 24), none, .q (.ld false 1 (.t 23))⟩,
               ⟨(some 9), none, .q (.mv (.t 24))⟩])
            (.reg [⟨(some 25), none, .q (.mv (.t 7))⟩,
              ⟨(some 26), none, .q (.mv (.t 9))⟩,
              ⟨(some 27), none, .q (.bin .shl (.c (.int .u64 1)) (.t 26))⟩,
              ⟨(some 28), none, .q (.bin .or (.t 25) (.t 27))⟩,
              ⟨(some 7), none, .q (.mv (.t 28))⟩])))
          (.reg [⟨(some 29), none, .q (.bin .add (.t 21) (.c (.int .i64 1)))⟩,
            ⟨(some 21), none, .q (.mv (.t 29))⟩])))))))
       (.reg [⟨(some 30), none, .q (.mv (.t 5))⟩,
         ⟨(some 31), none, .q (.mv (.t 7))⟩,
         ⟨(some 32), none, .m (.bsl 1 [(.t 31)])⟩,
         ⟨(some 33), none, .m (.app 1 8 (.t 30) (.t 32))⟩,
         ⟨(some 5), none, .q (.mv (.t 33))⟩])))))
     (.reg [⟨(some 34), none, .q (.bin .add (.t 13) (.c (.int .i64 1)))⟩,
       ⟨(some 13), none, .q (.mv (.t 34))⟩])))))))
  (.seq (.reg [⟨(some 35), none, .q (.mv (.t 5))⟩,
     ⟨(some 4), none, .q (.mv (.t 35))⟩])
  .ret))))⟩
theorem l_impl_nearSets : lowF PA f_impl_nearSets 2 [.k [1, 2, 5, 12, 13], .k [1, 2, 5, 7, 12, 13, 19, 20, 21]] = some c_impl_nearSets := by kernel_rfl
abbrev f_impl_dividedBy : FuncId := 28
def c_impl_dividedBy : AF := ⟨2, 31, [.t 4],
  (.seq (.reg [⟨(some 2), none, .m (.box (.t 0))⟩,
     ⟨(some 4), none, .q (.mv (.c (.int .i64 0)))⟩])
  (.seq (.reg [⟨(some 9), none, .q (.fad 0 (.t 2))⟩,
     ⟨(some 10), none, .q (.ld false 1 (.t 9))⟩,
     ⟨(some 11), none, .c (.call 37 [(.t 10)])⟩,
     ⟨(some 5), none, .q (.mv (.t 11))⟩])
  (.seq (.reg [⟨(some 12), none, .q (.mv (.t 5))⟩,
     ⟨(some 13), none, .c (.call 38 [(.t 12)])⟩])
  (.seq (.reg [⟨(some 6), none, .q (.mv (.c (.int .i64 1)))⟩])
  (.seq (.seq (.reg [⟨(some 14), none, .q (.mv (.t 5))⟩,
      ⟨(some 15), none, .q (.ld true 1 (.t 2))⟩,
      ⟨(some 16), none, .c (.call 39 [(.t 15)])⟩,
      ⟨(some 17), none, .q (.mv (.t 1))⟩,
      ⟨(some 18), none, .q (.bin .sub (.t 16) (.t 17))⟩,
      ⟨(some 19), none, .q (.mx (.t 18) (.c (.int .i64 0)))⟩,
      ⟨(some 20), none, .q (.slc 1 (.t 14) none (some (.t 19)))⟩,
      ⟨(some 21), none, .q (.len (.t 20))⟩,
      ⟨(some 22), none, .q (.mv (.c (.int .i64 0)))⟩])
   (.block 0 (.loop [6, 20, 21, 22] (.seq (.reg [⟨(some 23), none, .q (.bin .lss (.t 22) (.t 21))⟩])
     (.seq (.cond (.t 23)
       .skip
       (.exit 0))
     (.seq (.block 1 (.seq (.reg [⟨(some 24), none, .q (.ixs 1 (.t 20) (.t 22))⟩,
          ⟨(some 25), none, .q (.ld false 1 (.t 24))⟩,
          ⟨(some 8), none, .q (.mv (.t 25))⟩])
       (.reg [⟨(some 26), none, .q (.mv (.t 6))⟩,
         ⟨(some 27), none, .q (.mv (.t 8))⟩,
         ⟨(some 28), none, .q (.bin .mul (.t 26) (.t 27))⟩,
         ⟨(some 6), none, .q (.mv (.t 28))⟩])))
     (.reg [⟨(some 29), none, .q (.bin .add (.t 22) (.c (.int .i64 1)))⟩,
       ⟨(some 22), none, .q (.mv (.t 29))⟩])))))))
  (.seq (.reg [⟨(some 30), none, .q (.mv (.t 6))⟩,
     ⟨(some 4), none, .q (.mv (.t 30))⟩])
  .ret))))))⟩
theorem l_impl_dividedBy : lowF PA f_impl_dividedBy 2 [.k [6, 20, 21, 22]] = some c_impl_dividedBy := by kernel_rfl
abbrev f_impl_firstApart_1 : FuncId := 29
def c_impl_firstApart_1 : AF := ⟨5, 42, [.t 6],
  (.seq (.reg [⟨(some 6), none, .q (.mv (.c (.bool false)))⟩])
  (.seq (.reg [⟨(some 9), none, .q (.ld false 1 (.t 1))⟩,
     ⟨(some 10), none, .q (.ld false 1 (.t 2))⟩,
     ⟨(some 11), none, .q (.len (.t 10))⟩,
     ⟨(some 12), none, .q (.bin .sub (.t 9) (.t 11))⟩,
     ⟨(some 7), none, .q (.mv (.t 12))⟩])
  (.seq (.seq (.reg [⟨(some 13), none, .q (.mv (.t 7))⟩,
      ⟨(some 14), none, .q (.bin .eql (.t 13) (.c (.int .i64 0)))⟩])
   (.cond (.t 14)
    (.seq (.reg [⟨(some 6), none, .q (.mv (.c (.bool true)))⟩])
    .ret)
    .skip))
  (.seq (.block 0 (.loop [0, 2, 3, 4, 7, 43, 44, 45, 46, 47] (.seq (.seq (.reg [⟨(some 15), none, .q (.mv (.t 0))⟩,
         ⟨(some 16), none, .c (.call 30 [(.t 15)])⟩,
         ⟨(some 17), none, .q (.mv (.t 7))⟩,
         ⟨(some 18), none, .q (.bin .geq (.t 16) (.t 17))⟩])
      (.cond (.t 18)
       .skip
       (.exit 0)))
     (.block 1 (.seq (.reg [⟨(some 19), none, .q (.mv (.t 0))⟩,
         ⟨(some 20), none, .c (.call 31 [(.t 19)])⟩,
         ⟨(some 8), none, .q (.mv (.t 20))⟩])
      (.seq (.reg [⟨(some 21), none, .q (.ld false 1 (.t 2))⟩,
         ⟨(some 22), none, .q (.mv (.t 8))⟩,
         ⟨(some 23), none, .m (.bsl 1 [(.t 22)])⟩,
         ⟨(some 24), none, .m (.app 1 8 (.t 21) (.t 23))⟩,
         ⟨none, none, .m (.st false 1 (.t 2) (.t 24))⟩])
      (.seq (.seq (.sch (.take 0 ⟨(some 25), none, .q (.ld false 1 (.t 3))⟩ (.take 1 ⟨(some 26), none, .q (.mv (.t 0))⟩ (.take 2 ⟨(some 27), none, .q (.ld false 1 (.t 4))⟩ (.take 3 ⟨(some 28), none, .q (.mv (.t 8))⟩ (.take 4 ⟨(some 29), none, .q (.ixs 1 (.t 27) (.t 28))⟩ (.take 5 ⟨(some 30), none, .q (.ld false 1 (.t 29))⟩ (.take 6 ⟨(some 31), none, .q (.bin .andNot (.t 26) (.t 30))⟩ (.one ⟨(some 32), none, .c (.cav (.t 25) [(.t 31)])⟩ [0] .done)))))))))
       (.cond (.t 32)
        (.seq (.reg [⟨(some 6), none, .q (.mv (.c (.bool true)))⟩])
        .ret)
        .skip))
      (.seq (.reg [⟨(some 33), none, .q (.ld false 1 (.t 2))⟩,
         ⟨(some 34), none, .q (.ld false 1 (.t 2))⟩,
         ⟨(some 35), none, .q (.len (.t 34))⟩,
         ⟨(some 36), none, .q (.bin .sub (.t 35) (.c (.int .i64 1)))⟩,
         ⟨(some 37), none, .q (.slc 1 (.t 33) none (some (.t 36)))⟩,
         ⟨none, none, .m (.st false 1 (.t 2) (.t 37))⟩])
      (.reg [⟨(some 38), none, .q (.mv (.t 0))⟩,
        ⟨(some 39), none, .q (.mv (.t 8))⟩,
        ⟨(some 40), none, .q (.bin .shl (.c (.int .u64 1)) (.t 39))⟩,
        ⟨(some 41), none, .q (.bin .andNot (.t 38) (.t 40))⟩,
        ⟨(some 0), none, .q (.mv (.t 41))⟩])))))))))
  (.seq (.reg [⟨(some 6), none, .q (.mv (.c (.bool false)))⟩])
  .ret)))))⟩
theorem l_impl_firstApart_1 : lowF PA f_impl_firstApart_1 5 [.k [0, 2, 3, 4, 7, 43, 44, 45, 46, 47], .s (.take 0 (.take 1 (.take 2 (.take 3 (.take 4 (.take 5 (.take 6 (.one 7 .done))))))))] = some c_impl_firstApart_1 := by kernel_rfl
abbrev f_math_bits_OnesCount64 : FuncId := 30
def c_math_bits_OnesCount64 : AF := ⟨1, 35, [.t 2],
  (.seq (.reg [⟨(some 2), none, .q (.mv (.c (.int .i64 0)))⟩])
  (.seq (.reg [⟨(some 3), none, .q (.mv (.t 0))⟩,
     ⟨(some 4), none, .q (.bin .shr (.t 3) (.c (.int .u64 1)))⟩,
     ⟨(some 5), none, .q (.bin .and (.t 4) (.c (.int .u64 6148914691236517205)))⟩,
     ⟨(some 6), none, .q (.mv (.t 0))⟩,
     ⟨(some 7), none, .q (.bin .and (.t 6) (.c (.int .u64 6148914691236517205)))⟩,
     ⟨(some 8), none, .q (.bin .add (.t 5) (.t 7))⟩,
     ⟨(some 0), none, .q (.mv (.t 8))⟩])
  (.seq (.reg [⟨(some 9), none, .q (.mv (.t 0))⟩,
     ⟨(some 10), none, .q (.bin .shr (.t 9) (.c (.int .u64 2)))⟩,
     ⟨(some 11), none, .q (.bin .and (.t 10) (.c (.int .u64 3689348814741910323)))⟩,
     ⟨(some 12), none, .q (.mv (.t 0))⟩,
     ⟨(some 13), none, .q (.bin .and (.t 12) (.c (.int .u64 3689348814741910323)))⟩,
     ⟨(some 14), none, .q (.bin .add (.t 11) (.t 13))⟩,
     ⟨(some 0), none, .q (.mv (.t 14))⟩])
  (.seq (.reg [⟨(some 15), none, .q (.mv (.t 0))⟩,
     ⟨(some 16), none, .q (.bin .shr (.t 15) (.c (.int .u64 4)))⟩,
     ⟨(some 17), none, .q (.mv (.t 0))⟩,
     ⟨(some 18), none, .q (.bin .add (.t 16) (.t 17))⟩,
     ⟨(some 19), none, .q (.bin .and (.t 18) (.c (.int .u64 1085102592571150095)))⟩,
     ⟨(some 0), none, .q (.mv (.t 19))⟩])
  (.seq (.reg [⟨(some 20), none, .q (.mv (.t 0))⟩,
     ⟨(some 21), none, .q (.mv (.t 0))⟩,
     ⟨(some 22), none, .q (.bin .shr (.t 21) (.c (.int .u64 8)))⟩,
     ⟨(some 23), none, .q (.bin .add (.t 20) (.t 22))⟩,
     ⟨(some 0), none, .q (.mv (.t 23))⟩])
  (.seq (.reg [⟨(some 24), none, .q (.mv (.t 0))⟩,
     ⟨(some 25), none, .q (.mv (.t 0))⟩,
     ⟨(some 26), none, .q (.bin .shr (.t 25) (.c (.int .u64 16)))⟩,
     ⟨(some 27), none, .q (.bin .add (.t 24) (.t 26))⟩,
     ⟨(some 0), none, .q (.mv (.t 27))⟩])
  (.seq (.reg [⟨(some 28), none, .q (.mv (.t 0))⟩,
     ⟨(some 29), none, .q (.mv (.t 0))⟩,
     ⟨(some 30), none, .q (.bin .shr (.t 29) (.c (.int .u64 32)))⟩,
     ⟨(some 31), none, .q (.bin .add (.t 28) (.t 30))⟩,
     ⟨(some 0), none, .q (.mv (.t 31))⟩])
  (.seq (.reg [⟨(some 32), none, .q (.mv (.t 0))⟩,
     ⟨(some 33), none, .q (.cvt .i64 (.t 32))⟩,
     ⟨(some 34), none, .q (.bin .and (.t 33) (.c (.int .i64 127)))⟩,
     ⟨(some 2), none, .q (.mv (.t 34))⟩])
  .ret))))))))⟩
theorem l_math_bits_OnesCount64 : lowF PA f_math_bits_OnesCount64 1 [] = some c_math_bits_OnesCount64 := by kernel_rfl
abbrev f_math_bits_TrailingZeros64 : FuncId := 31
def c_math_bits_TrailingZeros64 : AF := ⟨1, 14, [.t 2],
  (.seq (.reg [⟨(some 2), none, .q (.mv (.c (.int .i64 0)))⟩])
  (.seq (.seq (.reg [⟨(some 3), none, .q (.mv (.t 0))⟩,
      ⟨(some 4), none, .q (.bin .eql (.t 3) (.c (.int .u64 0)))⟩])
   (.cond (.t 4)
    (.seq (.reg [⟨(some 2), none, .q (.mv (.c (.int .i64 64)))⟩])
    .ret)
    .skip))
  (.seq (.reg [⟨(some 5), none, .q (.mv (.t 0))⟩,
     ⟨(some 6), none, .q (.mv (.t 0))⟩,
     ⟨(some 7), none, .q (.un .neg (.t 6))⟩,
     ⟨(some 8), none, .q (.bin .and (.t 5) (.t 7))⟩,
     ⟨(some 9), none, .q (.bin .mul (.t 8) (.c (.int .u64 285870213051353865)))⟩,
     ⟨(some 10), none, .q (.bin .shr (.t 9) (.c (.int .u64 58)))⟩,
     ⟨(some 11), none, .q (.ixa 64 1 (.t 1014) (.t 10))⟩,
     ⟨(some 12), none, .q (.ld false 1 (.t 11))⟩,
     ⟨(some 13), none, .q (.cvt .i64 (.t 12))⟩,
     ⟨(some 2), none, .q (.mv (.t 13))⟩])
  .ret)))⟩
theorem l_math_bits_TrailingZeros64 : lowF PA f_math_bits_TrailingZeros64 1 [] = some c_math_bits_TrailingZeros64 := by kernel_rfl
abbrev f_spec_l01Is : FuncId := 32
def c_spec_l01Is : AF := ⟨1, 26, [.t 2],
  (.seq (.reg [⟨(some 1), none, .m (.box (.t 0))⟩,
     ⟨(some 2), none, .q (.mv (.c (.bool false)))⟩])
  (.seq (.seq (.reg [⟨(some 4), none, .q (.fad 0 (.t 1))⟩,
      ⟨(some 5), none, .q (.ld false 1 (.t 4))⟩,
      ⟨(some 6), none, .q (.len (.t 5))⟩,
      ⟨(some 7), none, .c (.call 33 [(.t 6), (.c (.int .i64 1)), (.c (.int .i64 8))])⟩,
      ⟨(some 8), none, .q (.un .not (.t 7))⟩])
   (.cond (.t 8)
    (.seq (.reg [⟨(some 2), none, .q (.mv (.c (.bool false)))⟩])
    .ret)
    .skip))
  (.seq (.seq (.reg [⟨(some 3), none, .q (.mv (.c (.int .i64 0)))⟩])
   (.block 0 (.loop [1, 3] (.seq (.seq (.reg [⟨(some 9), none, .q (.mv (.t 3))⟩,
         ⟨(some 10), none, .q (.fad 0 (.t 1))⟩,
         ⟨(some 11), none, .q (.ld false 1 (.t 10))⟩,
         ⟨(some 12), none, .q (.len (.t 11))⟩,
         ⟨(some 13), none, .q (.bin .lss (.t 9) (.t 12))⟩])
      (.cond (.t 13)
       .skip
       (.exit 0)))
     (.seq (.block 1 (.seq (.reg [⟨(some 16), none, .q (.fad 0 (.t 1))⟩,
          ⟨(some 17), none, .q (.ld false 1 (.t 16))⟩,
          ⟨(some 18), none, .q (.mv (.t 3))⟩,
          ⟨(some 19), none, .q (.ixs 1 (.t 17) (.t 18))⟩,
          ⟨(some 20), none, .q (.ld false 1 (.t 19))⟩,
          ⟨(some 21), none, .c (.call 33 [(.t 20), (.c (.int .i64 2)), (.c (.int .i64 4))])⟩,
          ⟨(some 22), none, .q (.un .not (.t 21))⟩])
       (.cond (.t 22)
        (.seq (.reg [⟨(some 2), none, .q (.mv (.c (.bool false)))⟩])
        .ret)
        .skip)))
     (.reg [⟨(some 14), none, .q (.mv (.t 3))⟩,
       ⟨(some 15), none, .q (.bin .add (.t 14) (.c (.int .i64 1)))⟩,
       ⟨(some 3), none, .q (.mv (.t 15))⟩]))))))
  (.seq (.reg [⟨(some 23), none, .q (.ld true 1 (.t 1))⟩,
     ⟨(some 24), none, .c (.call 23 [(.t 23)])⟩,
     ⟨(some 25), none, .q (.bin .leq (.t 24) (.c (.int .i64 1024)))⟩,
     ⟨(some 2), none, .q (.mv (.t 25))⟩])
  .ret))))⟩
theorem l_spec_l01Is : lowF PA f_spec_l01Is 1 [.k [1, 3]] = some c_spec_l01Is := by kernel_rfl
abbrev f_spec_l01In : FuncId := 33
def c_spec_l01In : AF := ⟨3, 15, [.t 6],
  (.seq (.reg [⟨(some 6), none, .q (.mv (.c (.bool false)))⟩])
  (.seq (.reg [⟨(some 7), none, .q (.mv (.t 0))⟩,
     ⟨(some 8), none, .q (.mv (.t 1))⟩,
     ⟨(some 9), none, .q (.bin .geq (.t 7) (.t 8))⟩,
     ⟨(some 10), none, .q (.mv (.t 9))⟩,
     ⟨(some 11), (some (10, true)), .q (.mv (.t 0))⟩,
     ⟨(some 12), (some (10, true)), .q (.mv (.t 2))⟩,
     ⟨(some 13), (some (10, true)), .q (.bin .leq (.t 11) (.t 12))⟩,
     ⟨(some 14), none, .q (.pick (.t 10) (.t 13) (.c (.bool false)))⟩,
     ⟨(some 6), none, .q (.mv (.t 14))⟩])
  .ret))⟩
theorem l_spec_l01In : lowF PA f_spec_l01In 3 [] = some c_spec_l01In := by kernel_rfl
abbrev f_spec_l01Distance : FuncId := 34
def c_spec_l01Distance : AF := ⟨3, 49, [.t 6],
  (.seq (.reg [⟨(some 3), none, .m (.box (.t 0))⟩,
     ⟨(some 6), none, .q (.mv (.c (.int .i64 0)))⟩])
  (.seq (.reg [⟨(some 7), none, .q (.mv (.c (.int .i64 0)))⟩])
  (.seq (.seq (.reg [⟨(some 9), none, .q (.fad 0 (.t 3))⟩,
      ⟨(some 10), none, .q (.ld false 1 (.t 9))⟩,
      ⟨(some 11), none, .q (.len (.t 10))⟩,
      ⟨(some 12), none, .q (.bin .sub (.t 11) (.c (.int .i64 1)))⟩,
      ⟨(some 8), none, .q (.mv (.t 12))⟩])
   (.block 0 (.loop [1, 2, 3, 7, 8] (.seq (.seq (.reg [⟨(some 13), none, .q (.mv (.t 8))⟩,
         ⟨(some 14), none, .q (.bin .geq (.t 13) (.c (.int .i64 0)))⟩])
      (.cond (.t 14)
       .skip
       (.exit 0)))
     (.seq (.block 1 (.seq (.seq (.sch (.take 0 ⟨(some 17), none, .q (.mv (.t 1))⟩ (.take 1 ⟨(some 18), none, .q (.fad 0 (.t 3))⟩ (.take 2 ⟨(some 19), none, .q (.ld false 1 (.t 18))⟩ (.take 3 ⟨(some 20), none, .q (.mv (.t 8))⟩ (.take 4 ⟨(some 21), none, .q (.ixs 1 (.t 19) (.t 20))⟩ (.take 5 ⟨(some 22), none, .q (.ld false 1 (.t 21))⟩ (.take 6 ⟨(some 23), none, .q (.bin .rem (.t 17) (.t 22))⟩ (.take 7 ⟨(some 24), none, .q (.mv (.t 2))⟩ (.take 8 ⟨(some 25), none, .q (.fad 0 (.t 3))⟩ (.take 9 ⟨(some 26), none, .q (.ld false 1 (.t 25))⟩ (.take 10 ⟨(some 27), none, .q (.mv (.t 8))⟩ (.take 11 ⟨(some 28), none, .q (.ixs 1 (.t 26) (.t 27))⟩ (.take 12 ⟨(some 29), none, .q (.ld false 1 (.t 28))⟩ (.take 13 ⟨(some 30), none, .q (.bin .rem (.t 24) (.t 29))⟩ (.take 14 ⟨(some 31), none, .q (.bin .neq (.t 23) (.t 30))⟩ .done))))))))))))))))
        (.cond (.t 31)
         (.reg [⟨(some 32), none, .q (.mv (.t 7))⟩,
           ⟨(some 33), none, .q (.bin .add (.t 32) (.c (.int .i64 1)))⟩,
           ⟨(some 7), none, .q (.mv (.t 33))⟩])
         .skip))
       (.seq (.reg [⟨(some 34), none, .q (.mv (.t 1))⟩,
          ⟨(some 35), none, .q (.fad 0 (.t 3))⟩,
          ⟨(some 36), none, .q (.ld false 1 (.t 35))⟩,
          ⟨(some 37), none, .q (.mv (.t 8))⟩,
          ⟨(some 38), none, .q (.ixs 1 (.t 36) (.t 37))⟩,
          ⟨(some 39), none, .q (.ld false 1 (.t 38))⟩,
          ⟨(some 40), none, .q (.bin .quo (.t 34) (.t 39))⟩,
          ⟨(some 1), none, .q (.mv (.t 40))⟩])
       (.reg [⟨(some 41), none, .q (.mv (.t 2))⟩,
         ⟨(some 42), none, .q (.fad 0 (.t 3))⟩,
         ⟨(some 43), none, .q (.ld false 1 (.t 42))⟩,
         ⟨(some 44), none, .q (.mv (.t 8))⟩,
         ⟨(some 45), none, .q (.ixs 1 (.t 43) (.t 44))⟩,
         ⟨(some 46), none, .q (.ld false 1 (.t 45))⟩,
         ⟨(some 47), none, .q (.bin .quo (.t 41) (.t 46))⟩,
         ⟨(some 2), none, .q (.mv (.t 47))⟩]))))
     (.reg [⟨(some 15), none, .q (.mv (.t 8))⟩,
       ⟨(some 16), none, .q (.bin .sub (.t 15) (.c (.int .i64 1)))⟩,
       ⟨(some 8), none, .q (.mv (.t 16))⟩]))))))
  (.seq (.reg [⟨(some 48), none, .q (.mv (.t 7))⟩,
     ⟨(some 6), none, .q (.mv (.t 48))⟩])
  .ret))))⟩
theorem l_spec_l01Distance : lowF PA f_spec_l01Distance 3 [.k [1, 2, 3, 7, 8], .s (.take 0 (.take 1 (.take 2 (.take 3 (.take 4 (.take 5 (.take 6 (.take 7 (.take 8 (.take 9 (.take 10 (.take 11 (.take 12 (.take 13 (.take 14 .done)))))))))))))))] = some c_spec_l01Distance := by kernel_rfl
abbrev f_spec_l01Own : FuncId := 35
def c_spec_l01Own : AF := ⟨1, 6, [.t 2],
  (.seq (.reg [⟨(some 2), none, .q (.mv (.c (.slice none 0 0)))⟩])
  (.seq (.reg [⟨(some 3), none, .m (.bsl 1 [])⟩,
     ⟨(some 4), none, .q (.mv (.t 0))⟩,
     ⟨(some 5), none, .m (.app 1 8 (.t 3) (.t 4))⟩,
     ⟨(some 2), none, .q (.mv (.t 5))⟩])
  .ret))⟩
theorem l_spec_l01Own : lowF PA f_spec_l01Own 1 [] = some c_spec_l01Own := by kernel_rfl
abbrev f_impl_ball : FuncId := 36
def c_impl_ball : AF := ⟨3, 14, [.t 6],
  (.seq (.reg [⟨(some 3), none, .m (.box (.t 0))⟩,
     ⟨(some 5), none, .m (.box (.t 2))⟩,
     ⟨(some 6), none, .q (.mv (.c (.slice none 0 0)))⟩])
  (.seq (.reg [⟨(some 8), none, .q (.ld true 1 (.t 3))⟩,
     ⟨(some 9), none, .q (.mv (.t 1))⟩,
     ⟨(some 10), none, .c (.call 40 [(.t 8), (.t 9)])⟩,
     ⟨(some 7), none, .m (.alloc [(.v (.int .u8 0)), (.v (.int .u8 0)), (.v (.int .u8 0)), (.v (.int .u8 0)), (.v (.int .u8 0)), (.v (.int .u8 0)), (.v (.int .u8 0)), (.v (.int .u8 0))])⟩,
     ⟨none, none, .m (.st true 8 (.t 7) (.t 10))⟩])
  (.seq (.reg [⟨(some 11), none, .q (.ld true 1 (.t 3))⟩,
     ⟨(some 12), none, .q (.mkf 42 [(.t 7), (.t 5)])⟩,
     ⟨(some 13), none, .c (.call 41 [(.t 11), (.t 12)])⟩,
     ⟨(some 6), none, .q (.mv (.t 13))⟩])
  .ret)))⟩
theorem l_impl_ball : lowF PA f_impl_ball 3 [] = some c_impl_ball := by kernel_rfl
abbrev f_slices_Clone___int64_int64_ : FuncId := 37
def c_slices_Clone___int64_int64_ : AF := ⟨1, 8, [.t 2],
  (.seq (.reg [⟨(some 2), none, .q (.mv (.c (.slice none 0 0)))⟩])
  (.seq (.seq (.reg [⟨(some 3), none, .q (.mv (.t 0))⟩,
      ⟨(some 4), none, .q (.isn false (.t 3))⟩])
   (.cond (.t 4)
    (.seq (.reg [⟨(some 2), none, .q (.mv (.c (.slice none 0 0)))⟩])
    .ret)
    .skip))
  (.seq (.reg [⟨(some 5), none, .m (.bsl 1 [])⟩,
     ⟨(some 6), none, .q (.mv (.t 0))⟩,
     ⟨(some 7), none, .m (.app 1 8 (.t 5) (.t 6))⟩,
     ⟨(some 2), none, .q (.mv (.t 7))⟩])
  .ret)))⟩
theorem l_slices_Clone___int64_int64_ : lowF PA f_slices_Clone___int64_int64_ 1 [] = some c_slices_Clone___int64_int64_ := by kernel_rfl
abbrev f_slices_Sort___int64_int64_ : FuncId := 38
def c_slices_Sort___int64_int64_ : AF := ⟨1, 11, [],
  (.seq (.reg [⟨(some 3), none, .q (.mv (.t 0))⟩,
     ⟨(some 4), none, .q (.len (.t 3))⟩,
     ⟨(some 2), none, .q (.mv (.t 4))⟩])
  (.reg [⟨(some 5), none, .q (.mv (.t 0))⟩,
    ⟨(some 6), none, .q (.mv (.t 2))⟩,
    ⟨(some 7), none, .q (.mv (.t 2))⟩,
    ⟨(some 8), none, .q (.cvt .u64 (.t 7))⟩,
    ⟨(some 9), none, .c (.call 45 [(.t 8)])⟩,
    ⟨(some 10), none, .c (.call 44 [(.t 5), (.c (.int .i64 0)), (.t 6), (.t 9)])⟩]))⟩
theorem l_slices_Sort___int64_int64_ : lowF PA f_slices_Sort___int64_int64_ 1 [] = some c_slices_Sort___int64_int64_ := by kernel_rfl
abbrev f_impl_places : FuncId := 39
def c_impl_places : AF := ⟨1, 6, [.t 2],
  (.seq (.reg [⟨(some 1), none, .m (.box (.t 0))⟩,
     ⟨(some 2), none, .q (.mv (.c (.int .i64 0)))⟩])
  (.seq (.reg [⟨(some 3), none, .q (.fad 0 (.t 1))⟩,
     ⟨(some 4), none, .q (.ld false 1 (.t 3))⟩,
     ⟨(some 5), none, .q (.len (.t 4))⟩,
     ⟨(some 2), none, .q (.mv (.t 5))⟩])
  .ret))⟩
theorem l_impl_places : lowF PA f_impl_places 1 [] = some c_impl_places := by kernel_rfl
abbrev f_impl_digitsOf : FuncId := 40
def c_impl_digitsOf : AF := ⟨2, 34, [.c 4 true 8],
  (.seq (.reg [⟨(some 2), none, .m (.box (.t 0))⟩,
     ⟨(some 4), none, .m (.alloc [(.v (.int .u8 0)), (.v (.int .u8 0)), (.v (.int .u8 0)), (.v (.int .u8 0)), (.v (.int .u8 0)), (.v (.int .u8 0)), (.v (.int .u8 0)), (.v (.int .u8 0))])⟩])
  (.seq (.reg [⟨(some 7), none, .q (.bld [(.v (.int .u8 0)), (.v (.int .u8 0)), (.v (.int .u8 0)), (.v (.int .u8 0)), (.v (.int .u8 0)), (.v (.int .u8 0)), (.v (.int .u8 0)), (.v (.int .u8 0))] [])⟩,
     ⟨(some 5), none, .m (.alloc [(.v (.int .u8 0)), (.v (.int .u8 0)), (.v (.int .u8 0)), (.v (.int .u8 0)), (.v (.int .u8 0)), (.v (.int .u8 0)), (.v (.int .u8 0)), (.v (.int .u8 0))])⟩,
     ⟨none, none, .m (.st true 8 (.t 5) (.t 7))⟩])
  (.seq (.seq (.reg [⟨(some 8), none, .q (.fad 0 (.t 2))⟩,
      ⟨(some 9), none, .q (.ld false 1 (.t 8))⟩,
      ⟨(some 10), none, .q (.len (.t 9))⟩,
      ⟨(some 11), none, .q (.bin .sub (.t 10) (.c (.int .i64 1)))⟩,
      ⟨(some 6), none, .q (.mv (.t 11))⟩])
   (.block 0 (.loop [1, 2, 4, 5, 6] (.seq (.seq (.reg [⟨(some 12), none, .q (.mv (.t 6))⟩,
         ⟨(some 13), none, .q (.bin .geq (.t 12) (.c (.int .i64 0)))⟩])
      (.cond (.t 13)
       .skip
       (.exit 0)))
     (.seq (.block 1 (.seq (.reg [⟨(some 16), none, .q (.mv (.t 6))⟩,
          ⟨(some 17), none, .q (.mv (.t 1))⟩,
          ⟨(some 18), none, .q (.fad 0 (.t 2))⟩,
          ⟨(some 19), none, .q (.ld false 1 (.t 18))⟩,
          ⟨(some 20), none, .q (.mv (.t 6))⟩,
          ⟨(some 21), none, .q (.ixs 1 (.t 19) (.t 20))⟩,
          ⟨(some 22), none, .q (.ld false 1 (.t 21))⟩,
          ⟨(some 23), none, .q (.bin .rem (.t 17) (.t 22))⟩,
          ⟨(some 24), none, .q (.cvt .u8 (.t 23))⟩,
          ⟨(some 25), none, .q (.ixa 8 1 (.t 5) (.t 16))⟩,
          ⟨none, none, .m (.st false 1 (.t 25) (.t 24))⟩])
       (.reg [⟨(some 26), none, .q (.mv (.t 1))⟩,
         ⟨(some 27), none, .q (.fad 0 (.t 2))⟩,
         ⟨(some 28), none, .q (.ld false 1 (.t 27))⟩,
         ⟨(some 29), none, .q (.mv (.t 6))⟩,
         ⟨(some 30), none, .q (.ixs 1 (.t 28) (.t 29))⟩,
         ⟨(some 31), none, .q (.ld false 1 (.t 30))⟩,
         ⟨(some 32), none, .q (.bin .quo (.t 26) (.t 31))⟩,
         ⟨(some 1), none, .q (.mv (.t 32))⟩])))
     (.reg [⟨(some 14), none, .q (.mv (.t 6))⟩,
       ⟨(some 15), none, .q (.bin .sub (.t 14) (.c (.int .i64 1)))⟩,
       ⟨(some 6), none, .q (.mv (.t 15))⟩]))))))
  (.seq (.reg [⟨(some 33), none, .q (.ld true 8 (.t 5))⟩,
     ⟨none, none, .m (.st true 8 (.t 4) (.t 33))⟩])
  .ret))))⟩
theorem l_impl_digitsOf : lowF PA f_impl_digitsOf 2 [.k [1, 2, 4, 5, 6]] = some c_impl_digitsOf := by kernel_rfl
abbrev f_impl_those : FuncId := 41
def c_impl_those : AF := ⟨2, 26, [.t 4],
  (.seq (.reg [⟨(some 2), none, .m (.box (.t 0))⟩,
     ⟨(some 4), none, .q (.mv (.c (.slice none 0 0)))⟩])
  (.seq (.reg [⟨(some 8), none, .m (.bsl 1 [])⟩,
     ⟨(some 5), none, .q (.mv (.t 8))⟩])
  (.seq (.seq (.reg [⟨(some 9), none, .q (.ld true 1 (.t 2))⟩,
      ⟨(some 10), none, .c (.call 46 [(.t 9)])⟩,
      ⟨(some 11), none, .q (.len (.t 10))⟩,
      ⟨(some 12), none, .q (.mv (.c (.int .i64 0)))⟩])
   (.block 0 (.loop [1, 5, 10, 11, 12] (.seq (.reg [⟨(some 13), none, .q (.bin .lss (.t 12) (.t 11))⟩])
     (.seq (.cond (.t 13)
       .skip
       (.exit 0))
     (.seq (.block 1 (.seq (.reg [⟨(some 14), none, .q (.mv (.t 12))⟩,
          ⟨(some 15), none, .q (.ixs 8 (.t 10) (.t 12))⟩,
          ⟨(some 16), none, .q (.ld true 8 (.t 15))⟩,
          ⟨(some 7), none, .m (.alloc [(.v (.int .u8 0)), (.v (.int .u8 0)), (.v (.int .u8 0)), (.v (.int .u8 0)), (.v (.int .u8 0)), (.v (.int .u8 0)), (.v (.int .u8 0)), (.v (.int .u8 0))])⟩,
          ⟨(some 6), none, .q (.mv (.t 14))⟩,
          ⟨none, none, .m (.st true 8 (.t 7) (.t 16))⟩])
       (.seq (.reg [⟨(some 17), none, .q (.mv (.t 1))⟩,
          ⟨(some 18), none, .q (.ld true 8 (.t 7))⟩,
          ⟨(some 19), none, .c (.cav (.t 17) [(.t 18)])⟩])
       (.cond (.t 19)
        (.reg [⟨(some 20), none, .q (.mv (.t 5))⟩,
          ⟨(some 21), none, .q (.mv (.t 6))⟩,
          ⟨(some 22), none, .m (.bsl 1 [(.t 21)])⟩,
          ⟨(some 23), none, .m (.app 1 8 (.t 20) (.t 22))⟩,
          ⟨(some 5), none, .q (.mv (.t 23))⟩])
        .skip))))
     (.reg [⟨(some 24), none, .q (.bin .add (.t 12) (.c (.int .i64 1)))⟩,
       ⟨(some 12), none, .q (.mv (.t 24))⟩])))))))
  (.seq (.reg [⟨(some 25), none, .q (.mv (.t 5))⟩,
     ⟨(some 4), none, .q (.mv (.t 25))⟩])
  .ret))))⟩
theorem l_impl_those : lowF PA f_impl_those 2 [.k [1, 5, 10, 11, 12]] = some c_impl_those := by kernel_rfl
abbrev f_impl_ball_1 : FuncId := 42
def c_impl_ball_1 : AF := ⟨3, 10, [.t 4],
  (.seq (.reg [⟨(some 3), none, .m (.box (.t 0))⟩,
     ⟨(some 4), none, .q (.mv (.c (.bool false)))⟩])
  (.seq (.sch (.take 0 ⟨(some 5), none, .q (.ld true 8 (.t 1))⟩ (.take 1 ⟨(some 6), none, .q (.ld true 8 (.t 3))⟩ (.take 3 ⟨(some 8), none, .q (.ld false 1 (.t 2))⟩ (.one ⟨(some 7), none, .c (.call 43 [(.t 5), (.t 6)])⟩ [1, 0] (.take 4 ⟨(some 9), none, .q (.bin .leq (.t 7) (.t 8))⟩ (.take 5 ⟨(some 4), none, .q (.mv (.t 9))⟩ .done)))))))
  .ret))⟩
theorem l_impl_ball_1 : lowF PA f_impl_ball_1 3 [.s (.take 0 (.take 1 (.take 3 (.one 2 (.take 4 (.take 5 .done))))))] = some c_impl_ball_1 := by kernel_rfl
abbrev f_impl_far : FuncId := 43
def c_impl_far : AF := ⟨2, 22, [.t 4],
  (.seq (.reg [⟨(some 2), none, .m (.box (.t 0))⟩,
     ⟨(some 3), none, .m (.box (.t 1))⟩,
     ⟨(some 4), none, .q (.mv (.c (.int .i64 0)))⟩])
  (.seq (.reg [⟨(some 5), none, .q (.mv (.c (.int .i64 0)))⟩])
  (.seq (.seq (.reg [⟨(some 8), none, .q (.ld true 8 (.t 2))⟩,
      ⟨(some 9), none, .q (.mv (.c (.int .i64 0)))⟩])
   (.block 0 (.loop [3, 5, 8, 9] (.seq (.reg [⟨(some 10), none, .q (.bin .lss (.t 9) (.c (.int .i64 8)))⟩])
     (.seq (.cond (.t 10)
       .skip
       (.exit 0))
     (.seq (.block 1 (.seq (.reg [⟨(some 11), none, .q (.mv (.t 9))⟩,
          ⟨(some 12), none, .q (.ixv 8 (.t 8) (.t 9))⟩,
          ⟨(some 6), none, .q (.mv (.t 11))⟩,
          ⟨(some 7), none, .q (.mv (.t 12))⟩])
       (.seq (.reg [⟨(some 13), none, .q (.mv (.t 7))⟩,
          ⟨(some 14), none, .q (.mv (.t 6))⟩,
          ⟨(some 15), none, .q (.ixa 8 1 (.t 3) (.t 14))⟩,
          ⟨(some 16), none, .q (.ld false 1 (.t 15))⟩,
          ⟨(some 17), none, .q (.bin .neq (.t 13) (.t 16))⟩])
       (.cond (.t 17)
        (.reg [⟨(some 18), none, .q (.mv (.t 5))⟩,
          ⟨(some 19), none, .q (.bin .add (.t 18) (.c (.int .i64 1)))⟩,
          ⟨(some 5), none, .q (.mv (.t 19))⟩])
        .skip))))
     (.reg [⟨(some 20), none, .q (.bin .add (.t 9) (.c (.int .i64 1)))⟩,
       ⟨(some 9), none, .q (.mv (.t 20))⟩])))))))
  (.seq (.reg [⟨(some 21), none, .q (.mv (.t 5))⟩,
     ⟨(some 4), none, .q (.mv (.t 21))⟩])
  .ret))))⟩
theorem l_impl_far : lowF PA f_impl_far 2 [.k [3, 5, 8, 9]] = some c_impl_far := by kernel_rfl
abbrev f_slices_pdqsortOrdered_int64_ : FuncId := 44
def c_slices_pdqsortOrdered_int64_ : AF := ⟨4, 134, [],
  (.seq (.reg [⟨(some 8), none, .q (.mv (.c (.bool true)))⟩])
  (.seq (.reg [⟨(some 9), none, .q (.mv (.c (.bool true)))⟩])
  (.block 0 (.loop [0, 1, 2, 3, 8, 9, 134] (.block 1 (.seq (.reg [⟨(some 19), none, .q (.mv (.t 2))⟩,
        ⟨(some 20), none, .q (.mv (.t 1))⟩,
        ⟨(some 21), none, .q (.bin .sub (.t 19) (.t 20))⟩,
        ⟨(some 10), none, .q (.mv (.t 21))⟩])
     (.seq (.seq (.reg [⟨(some 22), none, .q (.mv (.t 10))⟩,
         ⟨(some 23), none, .q (.bin .leq (.t 22) (.c (.int .i64 12)))⟩])
      (.cond (.t 23)
       (.seq (.reg [⟨(some 24), none, .q (.mv (.t 0))⟩,
          ⟨(some 25), none, .q (.mv (.t 1))⟩,
          ⟨(some 26), none, .q (.mv (.t 2))⟩,
          ⟨(some 27), none, .c (.call 47 [(.t 24), (.t 25), (.t 26)])⟩])
       .ret)
       .skip))
     (.seq (.seq (.reg [⟨(some 28), none, .q (.mv (.t 3))⟩,
         ⟨(some 29), none, .q (.bin .eql (.t 28) (.c (.int .i64 0)))⟩])
      (.cond (.t 29)
       (.seq (.reg [⟨(some 30), none, .q (.mv (.t 0))⟩,
          ⟨(some 31), none, .q (.mv (.t 1))⟩,
          ⟨(some 32), none, .q (.mv (.t 2))⟩,
          ⟨(some 33), none, .c (.call 48 [(.t 30), (.t 31), (.t 32)])⟩])
       .ret)
       .skip))
     (.seq (.seq (.reg [⟨(some 34), none, .q (.mv (.t 8))⟩,
         ⟨(some 35), none, .q (.un .not (.t 34))⟩])
      (.cond (.t 35)
       (.seq (.reg [⟨(some 36), none, .q (.mv (.t 0))⟩,
          ⟨(some 37), none, .q (.mv (.t 1))⟩,
          ⟨(some 38), none, .q (.mv (.t 2))⟩,
          ⟨(some 39), none, .c (.call 49 [(.t 36), (.t 37), (.t 38)])⟩])
       (.reg [⟨(some 40), none, .q (.mv (.t 3))⟩,
         ⟨(some 41), none, .q (.bin .sub (.t 40) (.c (.int .i64 1)))⟩,
         ⟨(some 3), none, .q (.mv (.t 41))⟩]))
       .skip))
     (.seq (.reg [⟨(some 43), none, .q (.mv (.t 0))⟩,
        ⟨(some 44), none, .q (.mv (.t 1))⟩,
        ⟨(some 45), none, .q (.mv (.t 2))⟩,
        ⟨(some 46), none, .c (.call 50 [(.t 43), (.t 44), (.t 45)])⟩,
        ⟨(some 42), none, .q (.mv (.t 46))⟩,
        ⟨(some 47), none, .q (.ext (.t 42) 0)⟩,
        ⟨(some 48), none, .q (.ext (.t 42) 1)⟩,
        ⟨(some 11), none, .q (.mv (.t 47))⟩,
        ⟨(some 12), none, .q (.mv (.t 48))⟩])
     (.seq (.seq (.reg [⟨(some 49), none, .q (.mv (.t 12))⟩,
         ⟨(some 50), none, .q (.bin .eql (.t 49) (.c (.int .i64 2)))⟩])
      (.cond (.t 50)
       (.seq (.reg [⟨(some 51), none, .q (.mv (.t 0))⟩,
          ⟨(some 52), none, .q (.mv (.t 1))⟩,
          ⟨(some 53), none, .q (.mv (.t 2))⟩,
          ⟨(some 54), none, .c (.call 51 [(.t 51), (.t 52), (.t 53)])⟩])
       (.seq (.reg [⟨(some 55), none, .q (.mv (.t 2))⟩,
          ⟨(some 56), none, .q (.bin .sub (.t 55) (.c (.int .i64 1)))⟩,
          ⟨(some 57), none, .q (.mv (.t 11))⟩,
          ⟨(some 58), none, .q (.mv (.t 1))⟩,
          ⟨(some 59), none, .q (.bin .sub (.t 57) (.t 58))⟩,
          ⟨(some 60), none, .q (.bin .sub (.t 56) (.t 59))⟩,
          ⟨(some 11), none, .q (.mv (.t 60))⟩])
       (.reg [⟨(some 12), none, .q (.mv (.c (.int .i64 1)))⟩])))
       .skip))
     (.seq (.seq (.reg [⟨(some 61), none, .q (.mv (.t 8))⟩,
         ⟨(some 62), none, .q (.mv (.t 61))⟩,
         ⟨(some 63), (some (62, true)), .q (.mv (.t 9))⟩,
         ⟨(some 64), none, .q (.pick (.t 62) (.t 63) (.c (.bool false)))⟩,
         ⟨(some 65), none, .q (.mv (.t 64))⟩,
         ⟨(some 66), (some (65, true)), .q (.mv (.t 12))⟩,
         ⟨(some 67), (some (65, true)), .q (.bin .eql (.t 66) (.c (.int .i64 1)))⟩,
         ⟨(some 68), none, .q (.pick (.t 65) (.t 67) (.c (.bool false)))⟩])
      (.cond (.t 68)
       (.seq (.reg [⟨(some 69), none, .q (.mv (.t 0))⟩,
          ⟨(some 70), none, .q (.mv (.t 1))⟩,
          ⟨(some 71), none, .q (.mv (.t 2))⟩,
          ⟨(some 72), none, .c (.call 52 [(.t 69), (.t 70), (.t 71)])⟩])
       (.cond (.t 72)
        .ret
        .skip))
       .skip))
     (.seq (.seq (.sch (.take 0 ⟨(some 73), none, .q (.mv (.t 1))⟩ (.take 1 ⟨(some 74), none, .q (.bin .gtr (.t 73) (.c (.int .i64 0)))⟩ (.take 2 ⟨(some 75), none, .q (.mv (.t 74))⟩ (.take 3 ⟨(some 76), (some (75, true)), .q (.mv (.t 0))⟩ (.take 4 ⟨(some 77), (some (75, true)), .q (.mv (.t 1))⟩ (.take 5 ⟨(some 78), (some (75, true)), .q (.bin .sub (.t 77) (.c (.int .i64 1)))⟩ (.take 6 ⟨(some 79), (some (75, true)), .q (.ixs 1 (.t 76) (.t 78))⟩ (.take 7 ⟨(some 80), (some (75, true)), .q (.ld false 1 (.t 79))⟩ (.take 8 ⟨(some 81), (some (75, true)), .q (.mv (.t 0))⟩ (.take 9 ⟨(some 82), (some (75, true)), .q (.mv (.t 11))⟩ (.take 10 ⟨(some 83), (some (75, true)), .q (.ixs 1 (.t 81) (.t 82))⟩ (.take 11 ⟨(some 84), (some (75, true)), .q (.ld false 1 (.t 83))⟩ (.one ⟨(some 85), (some (75, true)), .c (.call 53 [(.t 80), (.t 84)])⟩ [11, 7] (.take 13 ⟨(some 86), (some (75, true)), .q (.un .not (.t 85))⟩ (.take 14 ⟨(some 87), none, .q (.pick (.t 75) (.t 86) (.c (.bool false)))⟩ .done))))))))))))))))
      (.cond (.t 87)
       (.seq (.reg [⟨(some 88), none, .q (.mv (.t 0))⟩,
          ⟨(some 89), none, .q (.mv (.t 1))⟩,
          ⟨(some 90), none, .q (.mv (.t 2))⟩,
          ⟨(some 91), none, .q (.mv (.t 11))⟩,
          ⟨(some 92), none, .c (.call 54 [(.t 88), (.t 89), (.t 90), (.t 91)])⟩,
          ⟨(some 13), none, .q (.mv (.t 92))⟩])
       (.seq (.reg [⟨(some 93), none, .q (.mv (.t 13))⟩,
          ⟨(some 1), none, .q (.mv (.t 93))⟩])
       (.exit 1)))
       .skip))
     (.seq (.reg [⟨(some 95), none, .q (.mv (.t 0))⟩,
        ⟨(some 96), none, .q (.mv (.t 1))⟩,
        ⟨(some 97), none, .q (.mv (.t 2))⟩,
        ⟨(some 98), none, .q (.mv (.t 11))⟩,
        ⟨(some 99), none, .c (.call 55 [(.t 95), (.t 96), (.t 97), (.t 98)])⟩,
        ⟨(some 94), none, .q (.mv (.t 99))⟩,
        ⟨(some 100), none, .q (.ext (.t 94) 0)⟩,
        ⟨(some 101), none, .q (.ext (.t 94) 1)⟩,
        ⟨(some 14), none, .q (.mv (.t 100))⟩,
        ⟨(some 15), none, .q (.mv (.t 101))⟩])
     (.seq (.reg [⟨(some 102), none, .q (.mv (.t 15))⟩,
        ⟨(some 9), none, .q (.mv (.t 102))⟩])
     (.seq (.reg [⟨(some 103), none, .q (.mv (.t 14))⟩,
        ⟨(some 104), none, .q (.mv (.t 1))⟩,
        ⟨(some 105), none, .q (.bin .sub (.t 103) (.t 104))⟩,
        ⟨(some 106), none, .q (.mv (.t 2))⟩,
        ⟨(some 107), none, .q (.mv (.t 14))⟩,
        ⟨(some 108), none, .q (.bin .sub (.t 106) (.t 107))⟩,
        ⟨(some 16), none, .q (.mv (.t 105))⟩,
        ⟨(some 17), none, .q (.mv (.t 108))⟩])
     (.seq (.reg [⟨(some 109), none, .q (.mv (.t 10))⟩,
        ⟨(some 110), none, .q (.bin .quo (.t 109) (.c (.int .i64 8)))⟩,
        ⟨(some 18), none, .q (.mv (.t 110))⟩])
     (.seq (.reg [⟨(some 111), none, .q (.mv (.t 16))⟩,
        ⟨(some 112), none, .q (.mv (.t 17))⟩,
        ⟨(some 113), none, .q (.bin .lss (.t 111) (.t 112))⟩])
     (.cond (.t 113)
      (.seq (.reg [⟨(some 114), none, .q (.mv (.t 16))⟩,
         ⟨(some 115), none, .q (.mv (.t 18))⟩,
         ⟨(some 116), none, .q (.bin .geq (.t 114) (.t 115))⟩,
         ⟨(some 8), none, .q (.mv (.t 116))⟩])
      (.seq (.reg [⟨(some 117), none, .q (.mv (.t 0))⟩,
         ⟨(some 118), none, .q (.mv (.t 1))⟩,
         ⟨(some 119), none, .q (.mv (.t 14))⟩,
         ⟨(some 120), none, .q (.mv (.t 3))⟩,
         ⟨(some 121), none, .c (.call 44 [(.t 117), (.t 118), (.t 119), (.t 120)])⟩])
      (.reg [⟨(some 122), none, .q (.mv (.t 14))⟩,
        ⟨(some 123), none, .q (.bin .add (.t 122) (.c (.int .i64 1)))⟩,
        ⟨(some 1), none, .q (.mv (.t 123))⟩])))
      (.seq (.reg [⟨(some 124), none, .q (.mv (.t 17))⟩,
         ⟨(some 125), none, .q (.mv (.t 18))⟩,
         ⟨(some 126), none, .q (.bin .geq (.t 124) (.t 125))⟩,
         ⟨(some 8), none, .q (.mv (.t 126))⟩])
      (.seq (.reg [⟨(some 127), none, .q (.mv (.t 0))⟩,
         ⟨(some 128), none, .q (.mv (.t 14))⟩,
         ⟨(some 129), none, .q (.bin .add (.t 128) (.c (.int .i64 1)))⟩,
         ⟨(some 130), none, .q (.mv (.t 2))⟩,
         ⟨(some 131), none, .q (.mv (.t 3))⟩,
         ⟨(some 132), none, .c (.call 44 [(.t 127), (.t 129), (.t 130), (.t 131)])⟩])
      (.reg [⟨(some 133), none, .q (.mv (.t 14))⟩,
        ⟨(some 2), none, .q (.mv (.t 133))⟩]))))))))))))))))))))))⟩
theorem l_slices_pdqsortOrdered_int64_ : lowF PA f_slices_pdqsortOrdered_int64_ 4 [.k [0, 1, 2, 3, 8, 9, 134], .s (.take 0 (.take 1 (.take 2 (.take 3 (.take 4 (.take 5 (.take 6 (.take 7 (.take 8 (.take 9 (.take 10 (.take 11 (.one 12 (.take 13 (.take 14 .done)))))))))))))))] = some c_slices_pdqsortOrdered_int64_ := by kernel_rfl
abbrev f_math_bits_Len : FuncId := 45
def c_math_bits_Len : AF := ⟨1, 8, [.t 2],
  (.seq (.reg [⟨(some 2), none, .q (.mv (.c (.int .i64 0)))⟩])
  (.seq (.cond (.c (.bool false))
    (.seq (.reg [⟨(some 3), none, .q (.mv (.t 0))⟩,
       ⟨(some 4), none, .q (.cvt .u32 (.t 3))⟩,
       ⟨(some 5), none, .c (.call 56 [(.t 4)])⟩,
       ⟨(some 2), none, .q (.mv (.t 5))⟩])
    .ret)
    .skip)
  (.seq (.reg [⟨(some 6), none, .q (.mv (.t 0))⟩,
     ⟨(some 7), none, .c (.call 57 [(.t 6)])⟩,
     ⟨(some 2), none, .q (.mv (.t 7))⟩])
  .ret)))⟩
theorem l_math_bits_Len : lowF PA f_math_bits_Len 1 [] = some c_math_bits_Len := by kernel_rfl
abbrev f_impl_allDigits : FuncId := 46
def c_impl_allDigits : AF := ⟨1, 19, [.t 2],
  (.seq (.reg [⟨(some 1), none, .m (.box (.t 0))⟩,
     ⟨(some 2), none, .q (.mv (.c (.slice none 0 0)))⟩])
  (.seq (.reg [⟨(some 5), none, .m (.bsl 8 [])⟩,
     ⟨(some 3), none, .q (.mv (.t 5))⟩])
  (.seq (.seq (.reg [⟨(some 6), none, .q (.ld true 1 (.t 1))⟩,
      ⟨(some 7), none, .c (.call 26 [(.t 6)])⟩,
      ⟨(some 8), none, .q (.mv (.c (.int .i64 0)))⟩])
   (.block 0 (.loop [1, 3, 7, 8] (.seq (.reg [⟨(some 9), none, .q (.bin .lss (.t 8) (.t 7))⟩])
     (.seq (.cond (.t 9)
       .skip
       (.exit 0))
     (.seq (.block 1 (.seq (.reg [⟨(some 10), none, .q (.mv (.t 8))⟩,
          ⟨(some 4), none, .q (.mv (.t 10))⟩])
       (.reg [⟨(some 11), none, .q (.mv (.t 3))⟩,
         ⟨(some 12), none, .q (.ld true 1 (.t 1))⟩,
         ⟨(some 13), none, .q (.mv (.t 4))⟩,
         ⟨(some 14), none, .c (.call 40 [(.t 12), (.t 13)])⟩,
         ⟨(some 15), none, .m (.bsl 8 [(.t 14)])⟩,
         ⟨(some 16), none, .m (.app 8 8 (.t 11) (.t 15))⟩,
         ⟨(some 3), none, .q (.mv (.t 16))⟩])))
     (.reg [⟨(some 17), none, .q (.bin .add (.t 8) (.c (.int .i64 1)))⟩,
       ⟨(some 8), none, .q (.mv (.t 17))⟩])))))))
  (.seq (.reg [⟨(some 18), none, .q (.mv (.t 3))⟩,
     ⟨(some 2), none, .q (.mv (.t 18))⟩])
  .ret))))⟩
theorem l_impl_allDigits : lowF PA f_impl_allDigits 1 [.k [1, 3, 7, 8]] = some c_impl_allDigits := by kernel_rfl
abbrev f_slices_insertionSortOrdered_int64_ : FuncId := 47
def c_slices_insertionSortOrdered_int64_ : AF := ⟨3, 49, [],
  (.seq (.reg [⟨(some 8), none, .q (.mv (.t 1))⟩,
     ⟨(some 9), none, .q (.bin .add (.t 8) (.c (.int .i64 1)))⟩,
     ⟨(some 6), none, .q (.mv (.t 9))⟩])
  (.block 0 (.loop [0, 1, 2, 6, 49] (.seq (.seq (.reg [⟨(some 10), none, .q (.mv (.t 6))⟩,
        ⟨(some 11), none, .q (.mv (.t 2))⟩,
        ⟨(some 12), none, .q (.bin .lss (.t 10) (.t 11))⟩])
     (.cond (.t 12)
      .skip
      (.exit 0)))
    (.seq (.block 1 (.seq (.reg [⟨(some 15), none, .q (.mv (.t 6))⟩,
         ⟨(some 7), none, .q (.mv (.t 15))⟩])
      (.block 2 (.loop [0, 1, 2, 6, 7, 49] (.seq (.seq (.sch (.take 0 ⟨(some 16), none, .q (.mv (.t 7))⟩ (.take 1 ⟨(some 17), none, .q (.mv (.t 1))⟩ (.take 2 ⟨(some 18), none, .q (.bin .gtr (.t 16) (.t 17))⟩ (.take 3 ⟨(some 19), none, .q (.mv (.t 18))⟩ (.take 4 ⟨(some 20), (some (19, true)), .q (.mv (.t 0))⟩ (.take 5 ⟨(some 21), (some (19, true)), .q (.mv (.t 7))⟩ (.take 6 ⟨(some 22), (some (19, true)), .q (.ixs 1 (.t 20) (.t 21))⟩ (.take 7 ⟨(some 23), (some (19, true)), .q (.ld false 1 (.t 22))⟩ (.take 8 ⟨(some 24), (some (19, true)), .q (.mv (.t 0))⟩ (.take 9 ⟨(some 25), (some (19, true)), .q (.mv (.t 7))⟩ (.take 10 ⟨(some 26), (some (19, true)), .q (.bin .sub (.t 25) (.c (.int .i64 1)))⟩ (.take 11 ⟨(some 27), (some (19, true)), .q (.ixs 1 (.t 24) (.t 26))⟩ (.take 12 ⟨(some 28), (some (19, true)), .q (.ld false 1 (.t 27))⟩ (.one ⟨(some 29), (some (19, true)), .c (.call 53 [(.t 23), (.t 28)])⟩ [12, 7] (.take 14 ⟨(some 30), none, .q (.pick (.t 19) (.t 29) (.c (.bool false)))⟩ .done))))))))))))))))
         (.cond (.t 30)
          .skip
          (.exit 2)))
        (.seq (.block 3 (.sch (.take 0 ⟨(some 33), none, .q (.mv (.t 0))⟩ (.take 1 ⟨(some 34), none, .q (.mv (.t 7))⟩ (.take 2 ⟨(some 35), none, .q (.mv (.t 0))⟩ (.take 3 ⟨(some 36), none, .q (.mv (.t 7))⟩ (.take 4 ⟨(some 37), none, .q (.bin .sub (.t 36) (.c (.int .i64 1)))⟩ (.take 5 ⟨(some 38), none, .q (.mv (.t 0))⟩ (.take 6 ⟨(some 39), none, .q (.mv (.t 7))⟩ (.take 7 ⟨(some 40), none, .q (.bin .sub (.t 39) (.c (.int .i64 1)))⟩ (.take 8 ⟨(some 41), none, .q (.ixs 1 (.t 38) (.t 40))⟩ (.take 9 ⟨(some 42), none, .q (.ld false 1 (.t 41))⟩ (.take 10 ⟨(some 43), none, .q (.mv (.t 0))⟩ (.take 11 ⟨(some 44), none, .q (.mv (.t 7))⟩ (.take 12 ⟨(some 45), none, .q (.ixs 1 (.t 43) (.t 44))⟩ (.take 13 ⟨(some 46), none, .q (.ld false 1 (.t 45))⟩ (.take 14 ⟨(some 47), none, .q (.ixs 1 (.t 33) (.t 34))⟩ (.one ⟨none, none, .m (.st false 1 (.t 47) (.t 42))⟩ [13, 9] (.take 16 ⟨(some 48), none, .q (.ixs 1 (.t 35) (.t 37))⟩ (.one ⟨none, none, .m (.st false 1 (.t 48) (.t 46))⟩ [13, 9] .done))))))))))))))))))))
        (.reg [⟨(some 31), none, .q (.mv (.t 7))⟩,
          ⟨(some 32), none, .q (.bin .sub (.t 31) (.c (.int .i64 1)))⟩,
          ⟨(some 7), none, .q (.mv (.t 32))⟩])))))))
    (.reg [⟨(some 13), none, .q (.mv (.t 6))⟩,
      ⟨(some 14), none, .q (.bin .add (.t 13) (.c (.int .i64 1)))⟩,
      ⟨(some 6), none, .q (.mv (.t 14))⟩]))))))⟩
theorem l_slices_insertionSortOrdered_int64_ : lowF PA f_slices_insertionSortOrdered_int64_ 3 [.k [0, 1, 2, 6, 49], .k [0, 1, 2, 6, 7, 49], .s (.take 0 (.take 1 (.take 2 (.take 3 (.take 4 (.take 5 (.take 6 (.take 7 (.take 8 (.take 9 (.take 10 (.take 11 (.take 12 (.one 13 (.take 14 .done))))))))))))))), .s (.take 0 (.take 1 (.take 2 (.take 3 (.take 4 (.take 5 (.take 6 (.take 7 (.take 8 (.take 9 (.take 10 (.take 11 (.take 12 (.take 13 (.take 14 (.one 15 (.take 16 (.one 17 .done))))))))))))))))))] = some c_slices_insertionSortOrdered_int64_ := by kernel_rfl
abbrev f_slices_heapSortOrdered_int64_ : FuncId := 48
abbrev f_slices_breakPatternsOrdered_int64_ : FuncId := 49
abbrev f_slices_choosePivotOrdered_int64_ : FuncId := 50
abbrev f_slices_reverseRangeOrdered_int64_ : FuncId := 51
abbrev f_slices_partialInsertionSortOrdered_int64_ : FuncId := 52
abbrev f_cmp_Less_int64_ : FuncId := 53
def c_cmp_Less_int64_ : AF := ⟨2, 17, [.t 4],
  (.seq (.reg [⟨(some 4), none, .q (.mv (.c (.bool false)))⟩])
  (.seq (.reg [⟨(some 5), none, .q (.mv (.t 0))⟩,
     ⟨(some 6), none, .c (.call 63 [(.t 5)])⟩,
     ⟨(some 7), none, .q (.mv (.t 6))⟩,
     ⟨(some 8), (some (7, true)), .q (.mv (.t 1))⟩,
     ⟨(some 9), (some (7, true)), .c (.call 63 [(.t 8)])⟩,
     ⟨(some 10), (some (7, true)), .q (.un .not (.t 9))⟩,
     ⟨(some 11), none, .q (.pick (.t 7) (.t 10) (.c (.bool false)))⟩,
     ⟨(some 12), none, .q (.mv (.t 11))⟩,
     ⟨(some 13), (some (12, false)), .q (.mv (.t 0))⟩,
     ⟨(some 14), (some (12, false)), .q (.mv (.t 1))⟩,
     ⟨(some 15), (some (12, false)), .q (.bin .lss (.t 13) (.t 14))⟩,
     ⟨(some 16), none, .q (.pick (.t 12) (.c (.bool true)) (.t 15))⟩,
     ⟨(some 4), none, .q (.mv (.t 16))⟩])
  .ret))⟩
theorem l_cmp_Less_int64_ : lowF PA f_cmp_Less_int64_ 2 [] = some c_cmp_Less_int64_ := by kernel_rfl
abbrev f_slices_partitionEqualOrdered_int64_ : FuncId := 54
abbrev f_slices_partitionOrdered_int64_ : FuncId := 55
abbrev f_math_bits_Len32 : FuncId := 56
abbrev f_math_bits_Len64 : FuncId := 57
def c_math_bits_Len64 : AF := ⟨1, 25, [.t 2],
  (.seq (.reg [⟨(some 2), none, .q (.mv (.c (.int .i64 0)))⟩])
  (.seq (.seq (.reg [⟨(some 3), none, .q (.mv (.t 0))⟩,
      ⟨(some 4), none, .q (.bin .geq (.t 3) (.c (.int .u64 4294967296)))⟩])
   (.cond (.t 4)
    (.seq (.reg [⟨(some 5), none, .q (.mv (.t 0))⟩,
       ⟨(some 6), none, .q (.bin .shr (.t 5) (.c (.int .u64 32)))⟩,
       ⟨(some 0), none, .q (.mv (.t 6))⟩])
    (.reg [⟨(some 2), none, .q (.mv (.c (.int .i64 32)))⟩]))
    .skip))
  (.seq (.seq (.reg [⟨(some 7), none, .q (.mv (.t 0))⟩,
      ⟨(some 8), none, .q (.bin .geq (.t 7) (.c (.int .u64 65536)))⟩])
   (.cond (.t 8)
    (.seq (.reg [⟨(some 9), none, .q (.mv (.t 0))⟩,
       ⟨(some 10), none, .q (.bin .shr (.t 9) (.c (.int .u64 16)))⟩,
       ⟨(some 0), none, .q (.mv (.t 10))⟩])
    (.reg [⟨(some 11), none, .q (.mv (.t 2))⟩,
      ⟨(some 12), none, .q (.bin .add (.t 11) (.c (.int .i64 16)))⟩,
      ⟨(some 2), none, .q (.mv (.t 12))⟩]))
    .skip))
  (.seq (.seq (.reg [⟨(some 13), none, .q (.mv (.t 0))⟩,
      ⟨(some 14), none, .q (.bin .geq (.t 13) (.c (.int .u64 256)))⟩])
   (.cond (.t 14)
    (.seq (.reg [⟨(some 15), none, .q (.mv (.t 0))⟩,
       ⟨(some 16), none, .q (.bin .shr (.t 15) (.c (.int .u64 8)))⟩,
       ⟨(some 0), none, .q (.mv (.t 16))⟩])
    (.reg [⟨(some 17), none, .q (.mv (.t 2))⟩,
      ⟨(some 18), none, .q (.bin .add (.t 17) (.c (.int .i64 8)))⟩,
      ⟨(some 2), none, .q (.mv (.t 18))⟩]))
    .skip))
  (.seq (.reg [⟨(some 19), none, .q (.mv (.t 2))⟩,
     ⟨(some 20), none, .q (.mv (.t 0))⟩,
     ⟨(some 21), none, .q (.cvt .u8 (.t 20))⟩,
     ⟨(some 22), none, .q (.ixt (.c (.string ⟨#[0, 1, 2, 2, 3, 3, 3, 3, 4, 4, 4, 4, 4, 4, 4, 4, 5, 5, 5, 5, 5, 5, 5, 5, 5, 5, 5, 5, 5, 5, 5, 5, 6, 6, 6, 6, 6, 6, 6, 6, 6, 6, 6, 6, 6, 6, 6, 6, 6, 6, 6, 6, 6, 6, 6, 6, 6, 6, 6, 6, 6, 6, 6, 6, 7, 7, 7, 7, 7, 7, 7, 7, 7, 7, 7, 7, 7, 7, 7, 7, 7, 7, 7, 7, 7, 7, 7, 7, 7, 7, 7, 7, 7, 7, 7, 7, 7, 7, 7, 7, 7, 7, 7, 7, 7, 7, 7, 7, 7, 7, 7, 7, 7, 7, 7, 7, 7, 7, 7, 7, 7, 7, 7, 7, 7, 7, 7, 7, 8, 8, 8, 8, 8, 8, 8, 8, 8, 8, 8, 8, 8, 8, 8, 8, 8, 8, 8, 8, 8, 8, 8, 8, 8, 8, 8, 8, 8, 8, 8, 8, 8, 8, 8, 8, 8, 8, 8, 8, 8, 8, 8, 8, 8, 8, 8, 8, 8, 8, 8, 8, 8, 8, 8, 8, 8, 8, 8, 8, 8, 8, 8, 8, 8, 8, 8, 8, 8, 8, 8, 8, 8, 8, 8, 8, 8, 8, 8, 8, 8, 8, 8, 8, 8, 8, 8, 8, 8, 8, 8, 8, 8, 8, 8, 8, 8, 8, 8, 8, 8, 8, 8, 8, 8, 8, 8, 8, 8, 8, 8, 8, 8, 8, 8, 8, 8, 8, 8, 8, 8, 8, 8, 8, 8, 8, 8, 8]⟩)) (.t 21))⟩,
     ⟨(some 23), none, .q (.cvt .i64 (.t 22))⟩,
     ⟨(some 24), none, .q (.bin .add (.t 19) (.t 23))⟩,
     ⟨(some 2), none, .q (.mv (.t 24))⟩])
  .ret)))))⟩
theorem l_math_bits_Len64 : lowF PA f_math_bits_Len64 1 [] = some c_math_bits_Len64 := by kernel_rfl
abbrev f_slices_siftDownOrdered_int64_ : FuncId := 58
abbrev f_slices_nextPowerOfTwo : FuncId := 59
abbrev f___slices_xorshift__Next : FuncId := 60
abbrev f_slices_medianAdjacentOrdered_int64_ : FuncId := 61
abbrev f_slices_medianOrdered_int64_ : FuncId := 62
abbrev f_cmp_isNaN_int64_ : FuncId := 63
def c_cmp_isNaN_int64_ : AF := ⟨1, 6, [.t 2],
  (.seq (.reg [⟨(some 2), none, .q (.mv (.c (.bool false)))⟩])
  (.seq (.reg [⟨(some 3), none, .q (.mv (.t 0))⟩,
     ⟨(some 4), none, .q (.mv (.t 0))⟩,
     ⟨(some 5), none, .q (.bin .neq (.t 3) (.t 4))⟩,
     ⟨(some 2), none, .q (.mv (.t 5))⟩])
  .ret))⟩
theorem l_cmp_isNaN_int64_ : lowF PA f_cmp_isNaN_int64_ 1 [] = some c_cmp_isNaN_int64_ := by kernel_rfl
abbrev f_slices_order2Ordered_int64_ : FuncId := 64
end Go.Proofs.YtaigdomjaglifaaDoor.Va
