/- The code of the functions that FnExactHammingCode reaches, laid out for a walk: each is what the lowering makes of the program's own text. Condition: none. -/
import Derived.Test.YtccfejnckmokkaaVa2
import Derived.Test.YtccfejnckmokkaaProg
import Derived.KernelRfl
set_option linter.all false
set_option linter.unusedSimpArgs false
set_option linter.unusedVariables false
namespace Go.Proofs.Ytccfejnckmokkaa.Va
open Go
noncomputable abbrev PA : Program := Go.Proofs.Try.prog
abbrev f_laws_FnExactHammingCode : FuncId := 5
def c_laws_FnExactHammingCode : AF := ⟨2, 99, [.t 4],
  (.seq (.reg [⟨(some 4), none, .q (.mv (.c (.bool false)))⟩])
  (.seq (.reg [⟨(some 17), none, .q (.mv (.t 0))⟩,
     ⟨(some 18), none, .q (.mv (.t 1))⟩,
     ⟨(some 19), none, .c (.call 23 [(.t 17), (.t 18)])⟩,
     ⟨(some 16), none, .q (.mv (.t 19))⟩,
     ⟨(some 20), none, .q (.ext (.t 16) 0)⟩,
     ⟨(some 21), none, .q (.ext (.t 16) 1)⟩,
     ⟨(some 22), none, .q (.ext (.t 16) 2)⟩,
     ⟨(some 5), none, .m (.alloc [(.v (.slice none 0 0))])⟩,
     ⟨none, none, .m (.st true 1 (.t 5) (.t 20))⟩,
     ⟨(some 6), none, .q (.mv (.t 21))⟩,
     ⟨(some 7), none, .q (.mv (.t 22))⟩])
  (.seq (.reg [⟨(some 24), none, .q (.mv (.t 0))⟩,
     ⟨(some 25), none, .q (.mv (.t 1))⟩,
     ⟨(some 26), none, .c (.call 24 [(.t 24), (.t 25)])⟩,
     ⟨(some 23), none, .q (.mv (.t 26))⟩,
     ⟨(some 27), none, .q (.ext (.t 23) 0)⟩,
     ⟨(some 28), none, .q (.ext (.t 23) 1)⟩,
     ⟨(some 29), none, .q (.ext (.t 23) 2)⟩,
     ⟨(some 8), none, .m (.alloc [(.v (.slice none 0 0))])⟩,
     ⟨none, none, .m (.st true 1 (.t 8) (.t 27))⟩,
     ⟨(some 9), none, .q (.mv (.t 28))⟩,
     ⟨(some 10), none, .q (.mv (.t 29))⟩])
  (.seq (.seq (.reg [⟨(some 30), none, .q (.ld true 1 (.t 8))⟩,
      ⟨(some 31), none, .q (.ld true 1 (.t 5))⟩,
      ⟨(some 32), none, .c (.call 17 [(.t 30), (.t 31)])⟩,
      ⟨(some 33), none, .q (.un .not (.t 32))⟩,
      ⟨(some 34), none, .q (.mv (.t 33))⟩,
      ⟨(some 35), (some (34, false)), .q (.mv (.t 9))⟩,
      ⟨(some 36), (some (34, false)), .q (.mv (.t 6))⟩,
      ⟨(some 37), (some (34, false)), .c (.call 25 [(.t 35), (.t 36)])⟩,
      ⟨(some 38), (some (34, false)), .q (.un .not (.t 37))⟩,
      ⟨(some 39), none, .q (.pick (.t 34) (.c (.bool true)) (.t 38))⟩,
      ⟨(some 40), none, .q (.mv (.t 39))⟩,
      ⟨(some 41), (some (40, false)), .q (.mv (.t 10))⟩,
      ⟨(some 42), (some (40, false)), .q (.mv (.t 7))⟩,
      ⟨(some 43), (some (40, false)), .q (.bin .neq (.t 41) (.t 42))⟩,
      ⟨(some 44), none, .q (.pick (.t 40) (.c (.bool true)) (.t 43))⟩])
   (.cond (.t 44)
    (.seq (.reg [⟨(some 4), none, .q (.mv (.c (.bool false)))⟩])
    .ret)
    .skip))
  (.seq (.reg [⟨(some 11), none, .q (.mv (.c (.int .i64 1)))⟩])
  (.seq (.reg [⟨(some 45), none, .q (.ld true 1 (.t 8))⟩,
     ⟨(some 46), none, .q (.mv (.t 11))⟩,
     ⟨(some 47), none, .c (.call 19 [(.t 45), (.t 46)])⟩,
     ⟨(some 11), none, .q (.mv (.t 47))⟩])
  (.seq (.reg [⟨(some 48), none, .q (.mv (.t 9))⟩,
     ⟨(some 49), none, .q (.mv (.t 11))⟩,
     ⟨(some 50), none, .c (.call 26 [(.t 48), (.t 49)])⟩,
     ⟨(some 11), none, .q (.mv (.t 50))⟩])
  (.seq (.reg [⟨(some 12), none, .q (.mv (.c (.int .i64 1)))⟩])
  (.seq (.reg [⟨(some 51), none, .q (.ld true 1 (.t 8))⟩,
     ⟨(some 52), none, .q (.mv (.t 12))⟩,
     ⟨(some 53), none, .c (.call 27 [(.t 51), (.t 52)])⟩,
     ⟨(some 12), none, .q (.mv (.t 53))⟩])
  (.seq (.seq (.reg [⟨(some 54), none, .q (.mv (.t 12))⟩,
      ⟨(some 55), none, .q (.bin .lss (.t 54) (.c (.int .i64 0)))⟩])
   (.cond (.t 55)
    (.seq (.reg [⟨(some 4), none, .q (.mv (.c (.bool false)))⟩])
    .ret)
    .skip))
  (.seq (.reg [⟨(some 56), none, .q (.mv (.t 9))⟩,
     ⟨(some 57), none, .q (.mv (.t 12))⟩,
     ⟨(some 58), none, .c (.call 28 [(.t 56), (.t 57)])⟩,
     ⟨(some 12), none, .q (.mv (.t 58))⟩])
  (.seq (.seq (.reg [⟨(some 59), none, .q (.mv (.t 12))⟩,
      ⟨(some 60), none, .q (.bin .lss (.t 59) (.c (.int .i64 0)))⟩])
   (.cond (.t 60)
    (.seq (.reg [⟨(some 4), none, .q (.mv (.c (.bool false)))⟩])
    .ret)
    .skip))
  (.seq (.seq (.reg [⟨(some 61), none, .q (.mv (.t 12))⟩,
      ⟨(some 62), none, .q (.mv (.t 11))⟩,
      ⟨(some 63), none, .q (.bin .neq (.t 61) (.t 62))⟩])
   (.cond (.t 63)
    (.seq (.reg [⟨(some 4), none, .q (.mv (.c (.bool false)))⟩])
    .ret)
    .skip))
  (.seq (.reg [⟨(some 65), none, .q (.mv (.t 0))⟩,
     ⟨(some 66), none, .q (.mv (.t 1))⟩,
     ⟨(some 67), none, .c (.call 24 [(.t 65), (.t 66)])⟩,
     ⟨(some 64), none, .q (.mv (.t 67))⟩,
     ⟨(some 68), none, .q (.ext (.t 64) 0)⟩,
     ⟨(some 69), none, .q (.ext (.t 64) 1)⟩,
     ⟨(some 70), none, .q (.ext (.t 64) 2)⟩,
     ⟨(some 13), none, .m (.alloc [(.v (.slice none 0 0))])⟩,
     ⟨none, none, .m (.st true 1 (.t 13) (.t 68))⟩,
     ⟨(some 14), none, .q (.mv (.t 69))⟩,
     ⟨(some 15), none, .q (.mv (.t 70))⟩])
  (.seq (.seq (.reg [⟨(some 71), none, .q (.ld true 1 (.t 13))⟩,
      ⟨(some 72), none, .q (.ld true 1 (.t 5))⟩,
      ⟨(some 73), none, .c (.call 17 [(.t 71), (.t 72)])⟩,
      ⟨(some 74), none, .q (.un .not (.t 73))⟩,
      ⟨(some 75), none, .q (.mv (.t 74))⟩,
      ⟨(some 76), (some (75, false)), .q (.mv (.t 14))⟩,
      ⟨(some 77), (some (75, false)), .q (.mv (.t 6))⟩,
      ⟨(some 78), (some (75, false)), .c (.call 25 [(.t 76), (.t 77)])⟩,
      ⟨(some 79), (some (75, false)), .q (.un .not (.t 78))⟩,
      ⟨(some 80), none, .q (.pick (.t 75) (.c (.bool true)) (.t 79))⟩,
      ⟨(some 81), none, .q (.mv (.t 80))⟩,
      ⟨(some 82), (some (81, false)), .q (.mv (.t 15))⟩,
      ⟨(some 83), (some (81, false)), .q (.mv (.t 7))⟩,
      ⟨(some 84), (some (81, false)), .q (.bin .neq (.t 82) (.t 83))⟩,
      ⟨(some 85), none, .q (.pick (.t 81) (.c (.bool true)) (.t 84))⟩])
   (.cond (.t 85)
    (.seq (.reg [⟨(some 4), none, .q (.mv (.c (.bool false)))⟩])
    .ret)
    .skip))
  (.seq (.reg [⟨(some 12), none, .q (.mv (.c (.int .i64 1)))⟩])
  (.seq (.reg [⟨(some 86), none, .q (.ld true 1 (.t 8))⟩,
     ⟨(some 87), none, .q (.mv (.t 12))⟩,
     ⟨(some 88), none, .c (.call 27 [(.t 86), (.t 87)])⟩,
     ⟨(some 12), none, .q (.mv (.t 88))⟩])
  (.seq (.seq (.reg [⟨(some 89), none, .q (.mv (.t 12))⟩,
      ⟨(some 90), none, .q (.bin .lss (.t 89) (.c (.int .i64 0)))⟩])
   (.cond (.t 90)
    (.seq (.reg [⟨(some 4), none, .q (.mv (.c (.bool false)))⟩])
    .ret)
    .skip))
  (.seq (.reg [⟨(some 91), none, .q (.mv (.t 9))⟩,
     ⟨(some 92), none, .q (.mv (.t 12))⟩,
     ⟨(some 93), none, .c (.call 28 [(.t 91), (.t 92)])⟩,
     ⟨(some 12), none, .q (.mv (.t 93))⟩])
  (.seq (.seq (.reg [⟨(some 94), none, .q (.mv (.t 12))⟩,
      ⟨(some 95), none, .q (.bin .lss (.t 94) (.c (.int .i64 0)))⟩])
   (.cond (.t 95)
    (.seq (.reg [⟨(some 4), none, .q (.mv (.c (.bool false)))⟩])
    .ret)
    .skip))
  (.seq (.seq (.reg [⟨(some 96), none, .q (.mv (.t 12))⟩,
      ⟨(some 97), none, .q (.mv (.t 11))⟩,
      ⟨(some 98), none, .q (.bin .neq (.t 96) (.t 97))⟩])
   (.cond (.t 98)
    (.seq (.reg [⟨(some 4), none, .q (.mv (.c (.bool false)))⟩])
    .ret)
    .skip))
  (.seq (.reg [⟨(some 4), none, .q (.mv (.c (.bool true)))⟩])
  .ret))))))))))))))))))))))⟩
theorem l_laws_FnExactHammingCode : lowF PA f_laws_FnExactHammingCode 2 [] = some c_laws_FnExactHammingCode := by kernel_rfl
abbrev f_laws_eqSpace : FuncId := 17
def c_laws_eqSpace : AF := ⟨2, 11, [.t 4],
  (.seq (.reg [⟨(some 2), none, .m (.box (.t 0))⟩,
     ⟨(some 3), none, .m (.box (.t 1))⟩,
     ⟨(some 4), none, .q (.mv (.c (.bool false)))⟩])
  (.seq (.seq (.reg [⟨(some 5), none, .q (.fad 0 (.t 2))⟩,
      ⟨(some 6), none, .q (.ld false 1 (.t 5))⟩,
      ⟨(some 7), none, .q (.fad 0 (.t 3))⟩,
      ⟨(some 8), none, .q (.ld false 1 (.t 7))⟩,
      ⟨(some 9), none, .c (.call 25 [(.t 6), (.t 8)])⟩,
      ⟨(some 10), none, .q (.un .not (.t 9))⟩])
   (.cond (.t 10)
    (.seq (.reg [⟨(some 4), none, .q (.mv (.c (.bool false)))⟩])
    .ret)
    .skip))
  (.seq (.reg [⟨(some 4), none, .q (.mv (.c (.bool true)))⟩])
  .ret)))⟩
theorem l_laws_eqSpace : lowF PA f_laws_eqSpace 2 [] = some c_laws_eqSpace := by kernel_rfl
abbrev f_laws_markSpace : FuncId := 19
def c_laws_markSpace : AF := ⟨2, 10, [.t 4],
  (.seq (.reg [⟨(some 2), none, .m (.box (.t 0))⟩,
     ⟨(some 4), none, .q (.mv (.c (.int .i64 0)))⟩])
  (.seq (.reg [⟨(some 5), none, .q (.fad 0 (.t 2))⟩,
     ⟨(some 6), none, .q (.ld false 1 (.t 5))⟩,
     ⟨(some 7), none, .q (.mv (.t 1))⟩,
     ⟨(some 8), none, .c (.call 26 [(.t 6), (.t 7)])⟩,
     ⟨(some 1), none, .q (.mv (.t 8))⟩])
  (.seq (.reg [⟨(some 9), none, .q (.mv (.t 1))⟩,
     ⟨(some 4), none, .q (.mv (.t 9))⟩])
  .ret)))⟩
theorem l_laws_markSpace : lowF PA f_laws_markSpace 2 [] = some c_laws_markSpace := by kernel_rfl
abbrev f_spec_HammingCode : FuncId := 23
def c_spec_HammingCode : AF := ⟨2, 34, [.c 4 true 1, .t 5, .t 6],
  (.seq (.reg [⟨(some 4), none, .m (.alloc [(.v (.slice none 0 0))])⟩,
     ⟨(some 5), none, .q (.mv (.c (.slice none 0 0)))⟩,
     ⟨(some 6), none, .q (.mv (.c (.int .i64 0)))⟩])
  (.seq (.block 0 (.seq (.reg [⟨(some 10), none, .q (.mv (.t 0))⟩,
       ⟨(some 11), none, .c (.call 29 [(.t 10), (.c (.int .i64 2)), (.c (.int .i64 3))])⟩,
       ⟨(some 12), none, .q (.un .not (.t 11))⟩,
       ⟨(some 13), none, .q (.mv (.t 12))⟩,
       ⟨(some 14), (some (13, false)), .q (.mv (.t 1))⟩,
       ⟨(some 15), (some (13, false)), .c (.call 29 [(.t 14), (.c (.int .i64 2)), (.c (.int .i64 3))])⟩,
       ⟨(some 16), (some (13, false)), .q (.un .not (.t 15))⟩,
       ⟨(some 17), none, .q (.pick (.t 13) (.c (.bool true)) (.t 16))⟩,
       ⟨(some 9), none, .q (.mv (.t 17))⟩])
    (.cond (.t 9)
     (.seq (.reg [⟨(some 18), none, .q (.bld [(.v (.slice none 0 0))] [])⟩,
        ⟨none, none, .m (.st true 1 (.t 4) (.t 18))⟩,
        ⟨(some 5), none, .q (.mv (.c (.slice none 0 0)))⟩,
        ⟨(some 6), none, .q (.mv (.c (.int .i64 2)))⟩])
     .ret)
     (.seq (.reg [⟨(some 20), none, .q (.mv (.t 0))⟩,
        ⟨(some 21), none, .q (.mv (.t 1))⟩,
        ⟨(some 22), none, .c (.call 30 [(.t 20), (.t 21)])⟩,
        ⟨(some 23), none, .q (.len (.t 22))⟩,
        ⟨(some 24), none, .q (.bin .gtr (.t 23) (.c (.int .i64 8)))⟩,
        ⟨(some 19), none, .q (.mv (.t 24))⟩])
     (.cond (.t 19)
      (.seq (.reg [⟨(some 25), none, .q (.bld [(.v (.slice none 0 0))] [])⟩,
         ⟨none, none, .m (.st true 1 (.t 4) (.t 25))⟩,
         ⟨(some 5), none, .q (.mv (.c (.slice none 0 0)))⟩,
         ⟨(some 6), none, .q (.mv (.c (.int .i64 3)))⟩])
      .ret)
      .skip)))))
  (.seq (.reg [⟨(some 27), none, .q (.mv (.t 0))⟩,
     ⟨(some 28), none, .q (.mv (.t 1))⟩,
     ⟨(some 29), none, .c (.call 41 [(.t 27), (.t 28)])⟩,
     ⟨(some 26), none, .q (.mv (.t 29))⟩,
     ⟨(some 30), none, .q (.ext (.t 26) 0)⟩,
     ⟨(some 31), none, .q (.ext (.t 26) 1)⟩,
     ⟨(some 7), none, .m (.alloc [(.v (.slice none 0 0))])⟩,
     ⟨none, none, .m (.st true 1 (.t 7) (.t 30))⟩,
     ⟨(some 8), none, .q (.mv (.t 31))⟩])
  (.seq (.reg [⟨(some 32), none, .q (.ld true 1 (.t 7))⟩,
     ⟨(some 33), none, .q (.mv (.t 8))⟩,
     ⟨none, none, .m (.st true 1 (.t 4) (.t 32))⟩,
     ⟨(some 5), none, .q (.mv (.t 33))⟩,
     ⟨(some 6), none, .q (.mv (.c (.int .i64 0)))⟩])
  .ret))))⟩
theorem l_spec_HammingCode : lowF PA f_spec_HammingCode 2 [] = some c_spec_HammingCode := by kernel_rfl
abbrev f_impl_HammingCode : FuncId := 24
def c_impl_HammingCode : AF := ⟨2, 30, [.c 4 true 1, .t 5, .t 6],
  (.seq (.reg [⟨(some 2), none, .m (.box (.t 0))⟩,
     ⟨(some 3), none, .m (.box (.t 1))⟩,
     ⟨(some 4), none, .m (.alloc [(.v (.slice none 0 0))])⟩,
     ⟨(some 5), none, .q (.mv (.c (.slice none 0 0)))⟩,
     ⟨(some 6), none, .q (.mv (.c (.int .i64 0)))⟩])
  (.seq (.seq (.reg [⟨(some 10), none, .q (.ld false 1 (.t 2))⟩,
      ⟨(some 11), none, .q (.ld false 1 (.t 3))⟩,
      ⟨(some 12), none, .c (.call 31 [(.t 10), (.t 11), (.c (.int .i64 2))])⟩,
      ⟨(some 7), none, .q (.mv (.t 12))⟩])
   (.seq (.reg [⟨(some 13), none, .q (.mv (.t 7))⟩,
      ⟨(some 14), none, .q (.bin .neq (.t 13) (.c (.int .i64 0)))⟩])
   (.cond (.t 14)
    (.seq (.reg [⟨(some 15), none, .q (.bld [(.v (.slice none 0 0))] [])⟩,
       ⟨(some 16), none, .q (.mv (.t 7))⟩,
       ⟨none, none, .m (.st true 1 (.t 4) (.t 15))⟩,
       ⟨(some 5), none, .q (.mv (.c (.slice none 0 0)))⟩,
       ⟨(some 6), none, .q (.mv (.t 16))⟩])
    .ret)
    .skip)))
  (.seq (.reg [⟨(some 17), none, .q (.ld false 1 (.t 2))⟩,
     ⟨(some 18), none, .q (.ld false 1 (.t 3))⟩,
     ⟨(some 19), none, .c (.call 32 [(.t 17), (.t 18)])⟩,
     ⟨(some 8), none, .m (.alloc [(.v (.slice none 0 0))])⟩,
     ⟨none, none, .m (.st false 1 (.t 8) (.t 19))⟩])
  (.seq (.reg [⟨(some 20), none, .q (.ld false 1 (.t 2))⟩,
     ⟨(some 21), none, .m (.bsl 1 [(.t 20)])⟩,
     ⟨(some 22), none, .q (.ld false 1 (.t 8))⟩,
     ⟨(some 23), none, .q (.len (.t 22))⟩,
     ⟨(some 24), none, .c (.call 42 [(.t 21), (.t 23)])⟩,
     ⟨(some 25), none, .q (.bld [(.v (.slice none 0 0))] [(0, (.t 24))])⟩,
     ⟨(some 9), none, .m (.alloc [(.v (.slice none 0 0))])⟩,
     ⟨none, none, .m (.st true 1 (.t 9) (.t 25))⟩])
  (.seq (.sch (.take 0 ⟨(some 26), none, .q (.ld true 1 (.t 9))⟩ (.take 1 ⟨(some 27), none, .q (.ld true 1 (.t 9))⟩ (.take 2 ⟨(some 28), none, .q (.mkf 44 [(.t 3), (.t 8), (.t 2)])⟩ (.one ⟨(some 29), none, .c (.call 43 [(.t 27), (.t 28)])⟩ [1] (.one ⟨none, none, .m (.st true 1 (.t 4) (.t 26))⟩ [0] (.take 5 ⟨(some 5), none, .q (.mv (.t 29))⟩ (.take 6 ⟨(some 6), none, .q (.mv (.c (.int .i64 0)))⟩ .done))))))))
  .ret)))))⟩
theorem l_impl_HammingCode : lowF PA f_impl_HammingCode 2 [.s (.take 0 (.take 1 (.take 2 (.one 3 (.one 4 (.take 5 (.take 6 .done)))))))] = some c_impl_HammingCode := by kernel_rfl
abbrev f_laws_eqInt64S : FuncId := 25
def c_laws_eqInt64S : AF := ⟨2, 26, [.t 4],
  (.seq (.reg [⟨(some 4), none, .q (.mv (.c (.bool false)))⟩])
  (.seq (.seq (.reg [⟨(some 6), none, .q (.mv (.t 0))⟩,
      ⟨(some 7), none, .q (.len (.t 6))⟩,
      ⟨(some 8), none, .q (.mv (.t 1))⟩,
      ⟨(some 9), none, .q (.len (.t 8))⟩,
      ⟨(some 10), none, .q (.bin .neq (.t 7) (.t 9))⟩])
   (.cond (.t 10)
    (.seq (.reg [⟨(some 4), none, .q (.mv (.c (.bool false)))⟩])
    .ret)
    .skip))
  (.seq (.seq (.reg [⟨(some 5), none, .q (.mv (.c (.int .i64 0)))⟩])
   (.block 0 (.loop [0, 1, 5] (.seq (.seq (.reg [⟨(some 11), none, .q (.mv (.t 5))⟩,
         ⟨(some 12), none, .q (.mv (.t 0))⟩,
         ⟨(some 13), none, .q (.len (.t 12))⟩,
         ⟨(some 14), none, .q (.bin .lss (.t 11) (.t 13))⟩])
      (.cond (.t 14)
       .skip
       (.exit 0)))
     (.seq (.block 1 (.seq (.sch (.take 0 ⟨(some 17), none, .q (.mv (.t 0))⟩ (.take 1 ⟨(some 18), none, .q (.mv (.t 5))⟩ (.take 2 ⟨(some 19), none, .q (.ixs 1 (.t 17) (.t 18))⟩ (.take 3 ⟨(some 20), none, .q (.ld false 1 (.t 19))⟩ (.take 4 ⟨(some 21), none, .q (.mv (.t 1))⟩ (.take 5 ⟨(some 22), none, .q (.mv (.t 5))⟩ (.take 6 ⟨(some 23), none, .q (.ixs 1 (.t 21) (.t 22))⟩ (.take 7 ⟨(some 24), none, .q (.ld false 1 (.t 23))⟩ (.take 8 ⟨(some 25), none, .q (.bin .neq (.t 20) (.t 24))⟩ .done))))))))))
       (.cond (.t 25)
        (.seq (.reg [⟨(some 4), none, .q (.mv (.c (.bool false)))⟩])
        .ret)
        .skip)))
     (.reg [⟨(some 15), none, .q (.mv (.t 5))⟩,
       ⟨(some 16), none, .q (.bin .add (.t 15) (.c (.int .i64 1)))⟩,
       ⟨(some 5), none, .q (.mv (.t 16))⟩]))))))
  (.seq (.reg [⟨(some 4), none, .q (.mv (.c (.bool true)))⟩])
  .ret))))⟩
theorem l_laws_eqInt64S : lowF PA f_laws_eqInt64S 2 [.k [0, 1, 5], .s (.take 0 (.take 1 (.take 2 (.take 3 (.take 4 (.take 5 (.take 6 (.take 7 (.take 8 .done)))))))))] = some c_laws_eqInt64S := by kernel_rfl
abbrev f_laws_markInt64S : FuncId := 26
def c_laws_markInt64S : AF := ⟨2, 19, [.t 4],
  (.seq (.reg [⟨(some 4), none, .q (.mv (.c (.int .i64 0)))⟩])
  (.seq (.seq (.reg [⟨(some 5), none, .q (.mv (.c (.int .i64 0)))⟩])
   (.block 0 (.loop [0, 1, 5, 19] (.seq (.seq (.reg [⟨(some 6), none, .q (.mv (.t 5))⟩,
         ⟨(some 7), none, .q (.mv (.t 0))⟩,
         ⟨(some 8), none, .q (.len (.t 7))⟩,
         ⟨(some 9), none, .q (.bin .lss (.t 6) (.t 8))⟩])
      (.cond (.t 9)
       .skip
       (.exit 0)))
     (.seq (.block 1 (.seq (.reg [⟨(some 12), none, .q (.mv (.t 0))⟩,
          ⟨(some 13), none, .q (.mv (.t 5))⟩,
          ⟨(some 14), none, .q (.mv (.t 1))⟩,
          ⟨(some 15), none, .q (.ixs 1 (.t 12) (.t 13))⟩,
          ⟨none, none, .m (.st false 1 (.t 15) (.t 14))⟩])
       (.reg [⟨(some 16), none, .q (.mv (.t 1))⟩,
         ⟨(some 17), none, .q (.bin .add (.t 16) (.c (.int .i64 1)))⟩,
         ⟨(some 1), none, .q (.mv (.t 17))⟩])))
     (.reg [⟨(some 10), none, .q (.mv (.t 5))⟩,
       ⟨(some 11), none, .q (.bin .add (.t 10) (.c (.int .i64 1)))⟩,
       ⟨(some 5), none, .q (.mv (.t 11))⟩]))))))
  (.seq (.reg [⟨(some 18), none, .q (.mv (.t 1))⟩,
     ⟨(some 4), none, .q (.mv (.t 18))⟩])
  .ret)))⟩
theorem l_laws_markInt64S : lowF PA f_laws_markInt64S 2 [.k [0, 1, 5, 19]] = some c_laws_markInt64S := by kernel_rfl
abbrev f_laws_heldSpace : FuncId := 27
def c_laws_heldSpace : AF := ⟨2, 12, [.t 4],
  (.seq (.reg [⟨(some 2), none, .m (.box (.t 0))⟩,
     ⟨(some 4), none, .q (.mv (.c (.int .i64 0)))⟩])
  (.seq (.reg [⟨(some 5), none, .q (.fad 0 (.t 2))⟩,
     ⟨(some 6), none, .q (.ld false 1 (.t 5))⟩,
     ⟨(some 7), none, .q (.mv (.t 1))⟩,
     ⟨(some 8), none, .c (.call 28 [(.t 6), (.t 7)])⟩,
     ⟨(some 1), none, .q (.mv (.t 8))⟩])
  (.seq (.seq (.reg [⟨(some 9), none, .q (.mv (.t 1))⟩,
      ⟨(some 10), none, .q (.bin .lss (.t 9) (.c (.int .i64 0)))⟩])
   (.cond (.t 10)
    (.seq (.reg [⟨(some 4), none, .q (.mv (.c (.int .i64 (-1))))⟩])
    .ret)
    .skip))
  (.seq (.reg [⟨(some 11), none, .q (.mv (.t 1))⟩,
     ⟨(some 4), none, .q (.mv (.t 11))⟩])
  .ret))))⟩
theorem l_laws_heldSpace : lowF PA f_laws_heldSpace 2 [] = some c_laws_heldSpace := by kernel_rfl
abbrev f_laws_heldInt64S : FuncId := 28
def c_laws_heldInt64S : AF := ⟨2, 21, [.t 4],
  (.seq (.reg [⟨(some 4), none, .q (.mv (.c (.int .i64 0)))⟩])
  (.seq (.seq (.reg [⟨(some 5), none, .q (.mv (.c (.int .i64 0)))⟩])
   (.block 0 (.loop [0, 1, 5] (.seq (.seq (.reg [⟨(some 6), none, .q (.mv (.t 5))⟩,
         ⟨(some 7), none, .q (.mv (.t 0))⟩,
         ⟨(some 8), none, .q (.len (.t 7))⟩,
         ⟨(some 9), none, .q (.bin .lss (.t 6) (.t 8))⟩])
      (.cond (.t 9)
       .skip
       (.exit 0)))
     (.seq (.block 1 (.seq (.seq (.reg [⟨(some 12), none, .q (.mv (.t 0))⟩,
           ⟨(some 13), none, .q (.mv (.t 5))⟩,
           ⟨(some 14), none, .q (.ixs 1 (.t 12) (.t 13))⟩,
           ⟨(some 15), none, .q (.ld false 1 (.t 14))⟩,
           ⟨(some 16), none, .q (.mv (.t 1))⟩,
           ⟨(some 17), none, .q (.bin .neq (.t 15) (.t 16))⟩])
        (.cond (.t 17)
         (.seq (.reg [⟨(some 4), none, .q (.mv (.c (.int .i64 (-1))))⟩])
         .ret)
         .skip))
       (.reg [⟨(some 18), none, .q (.mv (.t 1))⟩,
         ⟨(some 19), none, .q (.bin .add (.t 18) (.c (.int .i64 1)))⟩,
         ⟨(some 1), none, .q (.mv (.t 19))⟩])))
     (.reg [⟨(some 10), none, .q (.mv (.t 5))⟩,
       ⟨(some 11), none, .q (.bin .add (.t 10) (.c (.int .i64 1)))⟩,
       ⟨(some 5), none, .q (.mv (.t 11))⟩]))))))
  (.seq (.reg [⟨(some 20), none, .q (.mv (.t 1))⟩,
     ⟨(some 4), none, .q (.mv (.t 20))⟩])
  .ret)))⟩
theorem l_laws_heldInt64S : lowF PA f_laws_heldInt64S 2 [.k [0, 1, 5]] = some c_laws_heldInt64S := by kernel_rfl
abbrev f_spec_l01In : FuncId := 29
def c_spec_l01In : AF := ⟨3, 15, [.t 6],
  (.seq (.reg [⟨(some 6), none, .q (.mv (.c (.bool false)))⟩])
  (.seq (.reg [⟨(some 7), none, .q (.mv (.t 0))⟩,
     ⟨(some 8), none, .q (.mv (.t 1))⟩,
     ⟨(some 9), none, .q (.bin .geq (.t 7) (.t 8))⟩,
     ⟨(some 10), none, .q (.mv (.t 9))⟩,
     ⟨(some 11), (some (10, true)), .q (.mv (.t 0))⟩,
     ⟨(some 12), (some (10, true)), .q (.mv (.t 2))⟩,
     ⟨(some 13), (some (10, true)), .q (.bin .leq (.t 11) (.t 12))⟩,
     ⟨(some 14), none, .q (.pick (.t 10) (.t 13) (.c (.bool false)))⟩,
     ⟨(some 6), none, .q (.mv (.t 14))⟩])
  .ret))⟩
theorem l_spec_l01In : lowF PA f_spec_l01In 3 [] = some c_spec_l01In := by kernel_rfl
abbrev f_spec_l06Columns : FuncId := 30
def c_spec_l06Columns : AF := ⟨2, 61, [.t 4],
  (.seq (.reg [⟨(some 4), none, .q (.mv (.c (.slice none 0 0)))⟩])
  (.seq (.reg [⟨(some 13), none, .m (.bsl 1 [])⟩,
     ⟨(some 5), none, .q (.mv (.t 13))⟩,
     ⟨(some 6), none, .q (.mv (.c (.int .i64 1)))⟩])
  (.seq (.seq (.reg [⟨(some 7), none, .q (.mv (.c (.int .i64 0)))⟩])
   (.block 0 (.loop [0, 1, 5, 6, 7] (.seq (.seq (.reg [⟨(some 14), none, .q (.mv (.t 7))⟩,
         ⟨(some 15), none, .q (.mv (.t 1))⟩,
         ⟨(some 16), none, .q (.bin .lss (.t 14) (.t 15))⟩])
      (.cond (.t 16)
       .skip
       (.exit 0)))
     (.seq (.block 1 (.reg [⟨(some 19), none, .q (.mv (.t 6))⟩,
         ⟨(some 20), none, .q (.mv (.t 0))⟩,
         ⟨(some 21), none, .q (.bin .mul (.t 19) (.t 20))⟩,
         ⟨(some 6), none, .q (.mv (.t 21))⟩]))
     (.reg [⟨(some 17), none, .q (.mv (.t 7))⟩,
       ⟨(some 18), none, .q (.bin .add (.t 17) (.c (.int .i64 1)))⟩,
       ⟨(some 7), none, .q (.mv (.t 18))⟩]))))))
  (.seq (.seq (.reg [⟨(some 8), none, .q (.mv (.c (.int .i64 1)))⟩])
   (.block 2 (.loop [0, 1, 5, 6, 8] (.seq (.seq (.reg [⟨(some 22), none, .q (.mv (.t 8))⟩,
         ⟨(some 23), none, .q (.mv (.t 6))⟩,
         ⟨(some 24), none, .q (.bin .lss (.t 22) (.t 23))⟩])
      (.cond (.t 24)
       .skip
       (.exit 2)))
     (.seq (.block 3 (.seq (.reg [⟨(some 27), none, .q (.mv (.t 1))⟩,
          ⟨(some 28), none, .m (.mks 1 (.v (.int .i64 0)) 8 (.t 27) (.t 27))⟩,
          ⟨(some 29), none, .q (.mv (.t 8))⟩,
          ⟨(some 9), none, .q (.mv (.t 28))⟩,
          ⟨(some 10), none, .q (.mv (.t 29))⟩,
          ⟨(some 11), none, .q (.mv (.c (.int .i64 0)))⟩])
       (.seq (.seq (.reg [⟨(some 30), none, .q (.mv (.t 1))⟩,
           ⟨(some 31), none, .q (.bin .sub (.t 30) (.c (.int .i64 1)))⟩,
           ⟨(some 12), none, .q (.mv (.t 31))⟩])
        (.block 4 (.loop [0, 1, 5, 6, 8, 9, 10, 11, 12] (.seq (.seq (.reg [⟨(some 32), none, .q (.mv (.t 12))⟩,
              ⟨(some 33), none, .q (.bin .geq (.t 32) (.c (.int .i64 0)))⟩])
           (.cond (.t 33)
            .skip
            (.exit 4)))
          (.seq (.block 5 (.seq (.reg [⟨(some 36), none, .q (.mv (.t 9))⟩,
               ⟨(some 37), none, .q (.mv (.t 12))⟩,
               ⟨(some 38), none, .q (.mv (.t 10))⟩,
               ⟨(some 39), none, .q (.mv (.t 0))⟩,
               ⟨(some 40), none, .q (.bin .rem (.t 38) (.t 39))⟩,
               ⟨(some 41), none, .q (.ixs 1 (.t 36) (.t 37))⟩,
               ⟨none, none, .m (.st false 1 (.t 41) (.t 40))⟩])
            (.seq (.reg [⟨(some 42), none, .q (.mv (.t 10))⟩,
               ⟨(some 43), none, .q (.mv (.t 0))⟩,
               ⟨(some 44), none, .q (.bin .quo (.t 42) (.t 43))⟩,
               ⟨(some 10), none, .q (.mv (.t 44))⟩])
            (.seq (.reg [⟨(some 45), none, .q (.mv (.t 9))⟩,
               ⟨(some 46), none, .q (.mv (.t 12))⟩,
               ⟨(some 47), none, .q (.ixs 1 (.t 45) (.t 46))⟩,
               ⟨(some 48), none, .q (.ld false 1 (.t 47))⟩,
               ⟨(some 49), none, .q (.bin .neq (.t 48) (.c (.int .i64 0)))⟩])
            (.cond (.t 49)
             (.reg [⟨(some 50), none, .q (.mv (.t 9))⟩,
               ⟨(some 51), none, .q (.mv (.t 12))⟩,
               ⟨(some 52), none, .q (.ixs 1 (.t 50) (.t 51))⟩,
               ⟨(some 53), none, .q (.ld false 1 (.t 52))⟩,
               ⟨(some 11), none, .q (.mv (.t 53))⟩])
             .skip)))))
          (.reg [⟨(some 34), none, .q (.mv (.t 12))⟩,
            ⟨(some 35), none, .q (.bin .sub (.t 34) (.c (.int .i64 1)))⟩,
            ⟨(some 12), none, .q (.mv (.t 35))⟩]))))))
       (.seq (.reg [⟨(some 54), none, .q (.mv (.t 11))⟩,
          ⟨(some 55), none, .q (.bin .eql (.t 54) (.c (.int .i64 1)))⟩])
       (.cond (.t 55)
        (.reg [⟨(some 56), none, .q (.mv (.t 5))⟩,
          ⟨(some 57), none, .q (.mv (.t 9))⟩,
          ⟨(some 58), none, .m (.bsl 1 [(.t 57)])⟩,
          ⟨(some 59), none, .m (.app 1 24 (.t 56) (.t 58))⟩,
          ⟨(some 5), none, .q (.mv (.t 59))⟩])
        .skip)))))
     (.reg [⟨(some 25), none, .q (.mv (.t 8))⟩,
       ⟨(some 26), none, .q (.bin .add (.t 25) (.c (.int .i64 1)))⟩,
       ⟨(some 8), none, .q (.mv (.t 26))⟩]))))))
  (.seq (.reg [⟨(some 60), none, .q (.mv (.t 5))⟩,
     ⟨(some 4), none, .q (.mv (.t 60))⟩])
  .ret)))))⟩
theorem l_spec_l06Columns : lowF PA f_spec_l06Columns 2 [.k [0, 1, 5, 6, 7], .k [0, 1, 5, 6, 8], .k [0, 1, 5, 6, 8, 9, 10, 11, 12]] = some c_spec_l06Columns := by kernel_rfl
abbrev f_impl_hammingCode : FuncId := 31
def c_impl_hammingCode : AF := ⟨3, 29, [.t 6],
  (.seq (.reg [⟨(some 6), none, .q (.mv (.c (.int .i64 0)))⟩])
  (.seq (.block 0 (.seq (.reg [⟨(some 8), none, .q (.mv (.t 0))⟩,
       ⟨(some 9), none, .q (.bin .lss (.t 8) (.c (.int .i64 2)))⟩,
       ⟨(some 10), none, .q (.mv (.t 9))⟩,
       ⟨(some 11), (some (10, false)), .q (.mv (.t 0))⟩,
       ⟨(some 12), (some (10, false)), .q (.bin .gtr (.t 11) (.c (.int .i64 3)))⟩,
       ⟨(some 13), none, .q (.pick (.t 10) (.c (.bool true)) (.t 12))⟩,
       ⟨(some 14), none, .q (.mv (.t 13))⟩,
       ⟨(some 15), (some (14, false)), .q (.mv (.t 1))⟩,
       ⟨(some 16), (some (14, false)), .q (.mv (.t 2))⟩,
       ⟨(some 17), (some (14, false)), .q (.bin .lss (.t 15) (.t 16))⟩,
       ⟨(some 18), none, .q (.pick (.t 14) (.c (.bool true)) (.t 17))⟩,
       ⟨(some 19), none, .q (.mv (.t 18))⟩,
       ⟨(some 20), (some (19, false)), .q (.mv (.t 1))⟩,
       ⟨(some 21), (some (19, false)), .q (.bin .gtr (.t 20) (.c (.int .i64 3)))⟩,
       ⟨(some 22), none, .q (.pick (.t 19) (.c (.bool true)) (.t 21))⟩,
       ⟨(some 7), none, .q (.mv (.t 22))⟩])
    (.cond (.t 7)
     (.seq (.reg [⟨(some 6), none, .q (.mv (.c (.int .i64 2)))⟩])
     .ret)
     (.seq (.reg [⟨(some 24), none, .q (.mv (.t 0))⟩,
        ⟨(some 25), none, .q (.mv (.t 1))⟩,
        ⟨(some 26), none, .c (.call 32 [(.t 24), (.t 25)])⟩,
        ⟨(some 27), none, .q (.len (.t 26))⟩,
        ⟨(some 28), none, .q (.bin .gtr (.t 27) (.c (.int .i64 8)))⟩,
        ⟨(some 23), none, .q (.mv (.t 28))⟩])
     (.cond (.t 23)
      (.seq (.reg [⟨(some 6), none, .q (.mv (.c (.int .i64 3)))⟩])
      .ret)
      .skip)))))
  (.seq (.reg [⟨(some 6), none, .q (.mv (.c (.int .i64 0)))⟩])
  .ret)))⟩
theorem l_impl_hammingCode : lowF PA f_impl_hammingCode 3 [] = some c_impl_hammingCode := by kernel_rfl
abbrev f_impl_columnsFor : FuncId := 32
def c_impl_columnsFor : AF := ⟨2, 40, [.t 4],
  (.seq (.reg [⟨(some 4), none, .q (.mv (.c (.slice none 0 0)))⟩])
  (.seq (.reg [⟨(some 10), none, .m (.bsl 1 [])⟩,
     ⟨(some 11), none, .m (.bsl 1 [(.t 10)])⟩,
     ⟨(some 5), none, .q (.mv (.t 11))⟩])
  (.seq (.seq (.reg [⟨(some 12), none, .q (.mv (.t 1))⟩,
      ⟨(some 13), none, .q (.mv (.c (.int .i64 0)))⟩])
   (.block 0 (.loop [0, 5, 12, 13] (.seq (.reg [⟨(some 14), none, .q (.bin .lss (.t 13) (.t 12))⟩])
     (.seq (.cond (.t 14)
       .skip
       (.exit 0))
     (.seq (.block 1 (.seq (.reg [⟨(some 15), none, .m (.bsl 1 [])⟩,
          ⟨(some 6), none, .q (.mv (.t 15))⟩])
       (.seq (.seq (.reg [⟨(some 16), none, .q (.mv (.t 5))⟩,
           ⟨(some 17), none, .q (.len (.t 16))⟩,
           ⟨(some 18), none, .q (.mv (.c (.int .i64 0)))⟩])
        (.block 2 (.loop [0, 6, 12, 13, 16, 17, 18] (.seq (.reg [⟨(some 19), none, .q (.bin .lss (.t 18) (.t 17))⟩])
          (.seq (.cond (.t 19)
            .skip
            (.exit 2))
          (.seq (.block 3 (.seq (.reg [⟨(some 20), none, .q (.ixs 1 (.t 16) (.t 18))⟩,
               ⟨(some 21), none, .q (.ld false 1 (.t 20))⟩,
               ⟨(some 8), none, .q (.mv (.t 21))⟩])
            (.seq (.reg [⟨(some 22), none, .q (.mv (.t 0))⟩,
               ⟨(some 23), none, .q (.mv (.c (.int .i64 0)))⟩])
            (.block 4 (.loop [0, 6, 8, 12, 13, 16, 17, 18, 22, 23] (.seq (.reg [⟨(some 24), none, .q (.bin .lss (.t 23) (.t 22))⟩])
              (.seq (.cond (.t 24)
                .skip
                (.exit 4))
              (.seq (.block 5 (.seq (.reg [⟨(some 25), none, .q (.mv (.t 23))⟩,
                   ⟨(some 9), none, .q (.mv (.t 25))⟩])
                (.reg [⟨(some 26), none, .q (.mv (.t 6))⟩,
                  ⟨(some 27), none, .q (.mv (.t 8))⟩,
                  ⟨(some 28), none, .c (.call 45 [(.t 27)])⟩,
                  ⟨(some 29), none, .q (.mv (.t 9))⟩,
                  ⟨(some 30), none, .m (.bsl 1 [(.t 29)])⟩,
                  ⟨(some 31), none, .m (.app 1 8 (.t 28) (.t 30))⟩,
                  ⟨(some 32), none, .m (.bsl 1 [(.t 31)])⟩,
                  ⟨(some 33), none, .m (.app 1 24 (.t 26) (.t 32))⟩,
                  ⟨(some 6), none, .q (.mv (.t 33))⟩])))
              (.reg [⟨(some 34), none, .q (.bin .add (.t 23) (.c (.int .i64 1)))⟩,
                ⟨(some 23), none, .q (.mv (.t 34))⟩])))))))))
          (.reg [⟨(some 35), none, .q (.bin .add (.t 18) (.c (.int .i64 1)))⟩,
            ⟨(some 18), none, .q (.mv (.t 35))⟩])))))))
       (.reg [⟨(some 36), none, .q (.mv (.t 6))⟩,
         ⟨(some 5), none, .q (.mv (.t 36))⟩]))))
     (.reg [⟨(some 37), none, .q (.bin .add (.t 13) (.c (.int .i64 1)))⟩,
       ⟨(some 13), none, .q (.mv (.t 37))⟩])))))))
  (.seq (.reg [⟨(some 38), none, .q (.mv (.t 5))⟩,
     ⟨(some 39), none, .c (.call 46 [(.t 38), (.f 47)])⟩,
     ⟨(some 4), none, .q (.mv (.t 39))⟩])
  .ret))))⟩
theorem l_impl_columnsFor : lowF PA f_impl_columnsFor 2 [.k [0, 5, 12, 13], .k [0, 6, 12, 13, 16, 17, 18], .k [0, 6, 8, 12, 13, 16, 17, 18, 22, 23]] = some c_impl_columnsFor := by kernel_rfl
abbrev f_spec_l06Hamming : FuncId := 41
def c_spec_l06Hamming : AF := ⟨2, 82, [.c 4 true 1, .t 5],
  (.seq (.reg [⟨(some 4), none, .m (.alloc [(.v (.slice none 0 0))])⟩,
     ⟨(some 5), none, .q (.mv (.c (.slice none 0 0)))⟩])
  (.seq (.reg [⟨(some 16), none, .q (.mv (.t 0))⟩,
     ⟨(some 17), none, .q (.mv (.t 1))⟩,
     ⟨(some 18), none, .c (.call 30 [(.t 16), (.t 17)])⟩,
     ⟨(some 19), none, .m (.bsl 1 [])⟩,
     ⟨(some 20), none, .q (.bld [(.v (.slice none 0 0))] [(0, (.t 19))])⟩,
     ⟨(some 21), none, .m (.bsl 1 [])⟩,
     ⟨(some 7), none, .m (.alloc [(.v (.slice none 0 0))])⟩,
     ⟨(some 6), none, .q (.mv (.t 18))⟩,
     ⟨none, none, .m (.st true 1 (.t 7) (.t 20))⟩,
     ⟨(some 8), none, .q (.mv (.t 21))⟩])
  (.seq (.seq (.reg [⟨(some 9), none, .q (.mv (.c (.int .i64 0)))⟩])
   (.block 0 (.loop [0, 1, 4, 6, 7, 8, 9] (.seq (.seq (.reg [⟨(some 22), none, .q (.mv (.t 9))⟩,
         ⟨(some 23), none, .q (.mv (.t 6))⟩,
         ⟨(some 24), none, .q (.len (.t 23))⟩,
         ⟨(some 25), none, .q (.bin .lss (.t 22) (.t 24))⟩])
      (.cond (.t 25)
       .skip
       (.exit 0)))
     (.seq (.block 1 (.reg [⟨(some 28), none, .q (.fad 0 (.t 7))⟩,
         ⟨(some 29), none, .q (.ld false 1 (.t 28))⟩,
         ⟨(some 30), none, .q (.mv (.t 0))⟩,
         ⟨(some 31), none, .m (.bsl 1 [(.t 30)])⟩,
         ⟨(some 32), none, .m (.app 1 8 (.t 29) (.t 31))⟩,
         ⟨(some 33), none, .q (.fad 0 (.t 7))⟩,
         ⟨none, none, .m (.st false 1 (.t 33) (.t 32))⟩]))
     (.reg [⟨(some 26), none, .q (.mv (.t 9))⟩,
       ⟨(some 27), none, .q (.bin .add (.t 26) (.c (.int .i64 1)))⟩,
       ⟨(some 9), none, .q (.mv (.t 27))⟩]))))))
  (.seq (.seq (.reg [⟨(some 10), none, .q (.mv (.c (.int .i64 0)))⟩])
   (.block 2 (.loop [0, 1, 4, 6, 7, 8, 10] (.seq (.seq (.reg [⟨(some 34), none, .q (.mv (.t 10))⟩,
         ⟨(some 35), none, .q (.ld true 1 (.t 7))⟩,
         ⟨(some 36), none, .c (.call 55 [(.t 35)])⟩,
         ⟨(some 37), none, .q (.bin .lss (.t 34) (.t 36))⟩])
      (.cond (.t 37)
       .skip
       (.exit 2)))
     (.seq (.block 3 (.seq (.reg [⟨(some 40), none, .q (.ld true 1 (.t 7))⟩,
          ⟨(some 41), none, .q (.mv (.t 10))⟩,
          ⟨(some 42), none, .c (.call 56 [(.t 40), (.t 41)])⟩,
          ⟨(some 11), none, .q (.mv (.t 42))⟩,
          ⟨(some 12), none, .q (.mv (.c (.bool true)))⟩])
       (.seq (.seq (.reg [⟨(some 13), none, .q (.mv (.c (.int .i64 0)))⟩])
        (.block 4 (.loop [0, 1, 4, 6, 7, 8, 10, 11, 12, 13] (.seq (.seq (.reg [⟨(some 43), none, .q (.mv (.t 13))⟩,
              ⟨(some 44), none, .q (.mv (.t 1))⟩,
              ⟨(some 45), none, .q (.bin .lss (.t 43) (.t 44))⟩])
           (.cond (.t 45)
            .skip
            (.exit 4)))
          (.seq (.block 5 (.seq (.reg [⟨(some 14), none, .q (.mv (.c (.int .i64 0)))⟩])
            (.seq (.seq (.reg [⟨(some 15), none, .q (.mv (.c (.int .i64 0)))⟩])
             (.block 6 (.loop [0, 1, 4, 6, 7, 8, 10, 11, 12, 13, 14, 15] (.seq (.seq (.reg [⟨(some 48), none, .q (.mv (.t 15))⟩,
                   ⟨(some 49), none, .q (.mv (.t 6))⟩,
                   ⟨(some 50), none, .q (.len (.t 49))⟩,
                   ⟨(some 51), none, .q (.bin .lss (.t 48) (.t 50))⟩])
                (.cond (.t 51)
                 .skip
                 (.exit 6)))
               (.seq (.block 7 (.sch (.take 0 ⟨(some 54), none, .q (.mv (.t 14))⟩ (.take 1 ⟨(some 55), none, .q (.mv (.t 11))⟩ (.take 2 ⟨(some 56), none, .q (.mv (.t 15))⟩ (.take 3 ⟨(some 57), none, .q (.ixs 1 (.t 55) (.t 56))⟩ (.take 4 ⟨(some 58), none, .q (.ld false 1 (.t 57))⟩ (.take 5 ⟨(some 59), none, .q (.mv (.t 6))⟩ (.take 6 ⟨(some 60), none, .q (.mv (.t 15))⟩ (.take 7 ⟨(some 61), none, .q (.ixs 1 (.t 59) (.t 60))⟩ (.take 8 ⟨(some 62), none, .q (.ld false 1 (.t 61))⟩ (.take 9 ⟨(some 63), none, .q (.mv (.t 13))⟩ (.take 10 ⟨(some 64), none, .q (.ixs 1 (.t 62) (.t 63))⟩ (.take 11 ⟨(some 65), none, .q (.ld false 1 (.t 64))⟩ (.take 12 ⟨(some 66), none, .q (.bin .mul (.t 58) (.t 65))⟩ (.take 13 ⟨(some 67), none, .q (.bin .add (.t 54) (.t 66))⟩ (.take 14 ⟨(some 14), none, .q (.mv (.t 67))⟩ .done)))))))))))))))))
               (.reg [⟨(some 52), none, .q (.mv (.t 15))⟩,
                 ⟨(some 53), none, .q (.bin .add (.t 52) (.c (.int .i64 1)))⟩,
                 ⟨(some 15), none, .q (.mv (.t 53))⟩]))))))
            (.reg [⟨(some 68), none, .q (.mv (.t 12))⟩,
              ⟨(some 69), none, .q (.mv (.t 68))⟩,
              ⟨(some 70), (some (69, true)), .q (.mv (.t 14))⟩,
              ⟨(some 71), (some (69, true)), .q (.mv (.t 0))⟩,
              ⟨(some 72), (some (69, true)), .q (.bin .rem (.t 70) (.t 71))⟩,
              ⟨(some 73), (some (69, true)), .q (.bin .eql (.t 72) (.c (.int .i64 0)))⟩,
              ⟨(some 74), none, .q (.pick (.t 69) (.t 73) (.c (.bool false)))⟩,
              ⟨(some 12), none, .q (.mv (.t 74))⟩]))))
          (.reg [⟨(some 46), none, .q (.mv (.t 13))⟩,
            ⟨(some 47), none, .q (.bin .add (.t 46) (.c (.int .i64 1)))⟩,
            ⟨(some 13), none, .q (.mv (.t 47))⟩]))))))
       (.seq (.reg [⟨(some 75), none, .q (.mv (.t 12))⟩])
       (.cond (.t 75)
        (.reg [⟨(some 76), none, .q (.mv (.t 8))⟩,
          ⟨(some 77), none, .q (.mv (.t 10))⟩,
          ⟨(some 78), none, .m (.bsl 1 [(.t 77)])⟩,
          ⟨(some 79), none, .m (.app 1 8 (.t 76) (.t 78))⟩,
          ⟨(some 8), none, .q (.mv (.t 79))⟩])
        .skip)))))
     (.reg [⟨(some 38), none, .q (.mv (.t 10))⟩,
       ⟨(some 39), none, .q (.bin .add (.t 38) (.c (.int .i64 1)))⟩,
       ⟨(some 10), none, .q (.mv (.t 39))⟩]))))))
  (.seq (.reg [⟨(some 80), none, .q (.ld true 1 (.t 7))⟩,
     ⟨(some 81), none, .q (.mv (.t 8))⟩,
     ⟨none, none, .m (.st true 1 (.t 4) (.t 80))⟩,
     ⟨(some 5), none, .q (.mv (.t 81))⟩])
  .ret)))))⟩
theorem l_spec_l06Hamming : lowF PA f_spec_l06Hamming 2 [.k [0, 1, 4, 6, 7, 8, 9], .k [0, 1, 4, 6, 7, 8, 10], .k [0, 1, 4, 6, 7, 8, 10, 11, 12, 13], .k [0, 1, 4, 6, 7, 8, 10, 11, 12, 13, 14, 15], .s (.take 0 (.take 1 (.take 2 (.take 3 (.take 4 (.take 5 (.take 6 (.take 7 (.take 8 (.take 9 (.take 10 (.take 11 (.take 12 (.take 13 (.take 14 .done)))))))))))))))] = some c_spec_l06Hamming := by kernel_rfl
abbrev f_slices_Repeat___int64_int64_ : FuncId := 42
def c_slices_Repeat___int64_int64_ : AF := ⟨2, 48, [.t 4],
  (.seq (.reg [⟨(some 4), none, .q (.mv (.c (.slice none 0 0)))⟩])
  (.seq (.seq (.reg [⟨(some 9), none, .q (.mv (.t 1))⟩,
      ⟨(some 10), none, .q (.bin .lss (.t 9) (.c (.int .i64 0)))⟩])
   (.cond (.t 10)
    .bad
    .skip))
  (.seq (.reg [⟨(some 13), none, .q (.mv (.t 0))⟩,
     ⟨(some 14), none, .q (.len (.t 13))⟩,
     ⟨(some 15), none, .q (.cvt .u64 (.t 14))⟩,
     ⟨(some 16), none, .q (.mv (.t 1))⟩,
     ⟨(some 17), none, .q (.cvt .u64 (.t 16))⟩,
     ⟨(some 18), none, .c (.call 57 [(.t 15), (.t 17)])⟩,
     ⟨(some 12), none, .q (.mv (.t 18))⟩,
     ⟨(some 19), none, .q (.ext (.t 12) 0)⟩,
     ⟨(some 20), none, .q (.ext (.t 12) 1)⟩,
     ⟨(some 5), none, .q (.mv (.t 19))⟩,
     ⟨(some 6), none, .q (.mv (.t 20))⟩])
  (.seq (.seq (.reg [⟨(some 21), none, .q (.mv (.t 5))⟩,
      ⟨(some 22), none, .q (.bin .gtr (.t 21) (.c (.int .u64 0)))⟩,
      ⟨(some 23), none, .q (.mv (.t 22))⟩,
      ⟨(some 24), (some (23, false)), .q (.mv (.t 6))⟩,
      ⟨(some 25), (some (23, false)), .q (.bin .gtr (.t 24) (.c (.int .u64 9223372036854775807)))⟩,
      ⟨(some 26), none, .q (.pick (.t 23) (.c (.bool true)) (.t 25))⟩])
   (.cond (.t 26)
    .bad
    .skip))
  (.seq (.reg [⟨(some 28), none, .q (.mv (.t 6))⟩,
     ⟨(some 29), none, .q (.cvt .i64 (.t 28))⟩,
     ⟨(some 30), none, .m (.mks 1 (.v (.int .i64 0)) 8 (.t 29) (.t 29))⟩,
     ⟨(some 7), none, .q (.mv (.t 30))⟩])
  (.seq (.reg [⟨(some 31), none, .q (.mv (.t 7))⟩,
     ⟨(some 32), none, .q (.mv (.t 0))⟩,
     ⟨(some 33), none, .m (.cpy 1 (.t 31) (.t 32))⟩,
     ⟨(some 8), none, .q (.mv (.t 33))⟩])
  (.seq (.block 0 (.loop [7, 8] (.seq (.seq (.reg [⟨(some 34), none, .q (.mv (.t 8))⟩,
         ⟨(some 35), none, .q (.mv (.t 7))⟩,
         ⟨(some 36), none, .q (.len (.t 35))⟩,
         ⟨(some 37), none, .q (.bin .lss (.t 34) (.t 36))⟩])
      (.cond (.t 37)
       .skip
       (.exit 0)))
     (.block 1 (.sch (.take 0 ⟨(some 38), none, .q (.mv (.t 8))⟩ (.take 1 ⟨(some 39), none, .q (.mv (.t 7))⟩ (.take 2 ⟨(some 40), none, .q (.mv (.t 8))⟩ (.take 3 ⟨(some 41), none, .q (.slc 1 (.t 39) (some (.t 40)) none)⟩ (.take 4 ⟨(some 42), none, .q (.mv (.t 7))⟩ (.take 5 ⟨(some 43), none, .q (.mv (.t 8))⟩ (.take 6 ⟨(some 44), none, .q (.slc 1 (.t 42) none (some (.t 43)))⟩ (.one ⟨(some 45), none, .m (.cpy 1 (.t 41) (.t 44))⟩ [] (.take 8 ⟨(some 46), none, .q (.bin .add (.t 38) (.t 45))⟩ (.take 9 ⟨(some 8), none, .q (.mv (.t 46))⟩ .done)))))))))))))))
  (.seq (.reg [⟨(some 47), none, .q (.mv (.t 7))⟩,
     ⟨(some 4), none, .q (.mv (.t 47))⟩])
  .ret))))))))⟩
theorem l_slices_Repeat___int64_int64_ : lowF PA f_slices_Repeat___int64_int64_ 2 [.x 2, .x 5, .k [7, 8], .s (.take 0 (.take 1 (.take 2 (.take 3 (.take 4 (.take 5 (.take 6 (.one 7 (.take 8 (.take 9 .done))))))))))] = some c_slices_Repeat___int64_int64_ := by kernel_rfl
abbrev f_impl_those : FuncId := 43
def c_impl_those : AF := ⟨2, 26, [.t 4],
  (.seq (.reg [⟨(some 2), none, .m (.box (.t 0))⟩,
     ⟨(some 4), none, .q (.mv (.c (.slice none 0 0)))⟩])
  (.seq (.reg [⟨(some 8), none, .m (.bsl 1 [])⟩,
     ⟨(some 5), none, .q (.mv (.t 8))⟩])
  (.seq (.seq (.reg [⟨(some 9), none, .q (.ld true 1 (.t 2))⟩,
      ⟨(some 10), none, .c (.call 58 [(.t 9)])⟩,
      ⟨(some 11), none, .q (.len (.t 10))⟩,
      ⟨(some 12), none, .q (.mv (.c (.int .i64 0)))⟩])
   (.block 0 (.loop [1, 5, 10, 11, 12] (.seq (.reg [⟨(some 13), none, .q (.bin .lss (.t 12) (.t 11))⟩])
     (.seq (.cond (.t 13)
       .skip
       (.exit 0))
     (.seq (.block 1 (.seq (.reg [⟨(some 14), none, .q (.mv (.t 12))⟩,
          ⟨(some 15), none, .q (.ixs 8 (.t 10) (.t 12))⟩,
          ⟨(some 16), none, .q (.ld true 8 (.t 15))⟩,
          ⟨(some 7), none, .m (.alloc [(.v (.int .u8 0)), (.v (.int .u8 0)), (.v (.int .u8 0)), (.v (.int .u8 0)), (.v (.int .u8 0)), (.v (.int .u8 0)), (.v (.int .u8 0)), (.v (.int .u8 0))])⟩,
          ⟨(some 6), none, .q (.mv (.t 14))⟩,
          ⟨none, none, .m (.st true 8 (.t 7) (.t 16))⟩])
       (.seq (.reg [⟨(some 17), none, .q (.mv (.t 1))⟩,
          ⟨(some 18), none, .q (.ld true 8 (.t 7))⟩,
          ⟨(some 19), none, .c (.cav (.t 17) [(.t 18)])⟩])
       (.cond (.t 19)
        (.reg [⟨(some 20), none, .q (.mv (.t 5))⟩,
          ⟨(some 21), none, .q (.mv (.t 6))⟩,
          ⟨(some 22), none, .m (.bsl 1 [(.t 21)])⟩,
          ⟨(some 23), none, .m (.app 1 8 (.t 20) (.t 22))⟩,
          ⟨(some 5), none, .q (.mv (.t 23))⟩])
        .skip))))
     (.reg [⟨(some 24), none, .q (.bin .add (.t 12) (.c (.int .i64 1)))⟩,
       ⟨(some 12), none, .q (.mv (.t 24))⟩])))))))
  (.seq (.reg [⟨(some 25), none, .q (.mv (.t 5))⟩,
     ⟨(some 4), none, .q (.mv (.t 25))⟩])
  .ret))))⟩
theorem l_impl_those : lowF PA f_impl_those 2 [.k [1, 5, 10, 11, 12]] = some c_impl_those := by kernel_rfl
abbrev f_impl_HammingCode_1 : FuncId := 44
def c_impl_HammingCode_1 : AF := ⟨4, 38, [.t 5],
  (.seq (.reg [⟨(some 4), none, .m (.box (.t 0))⟩,
     ⟨(some 5), none, .q (.mv (.c (.bool false)))⟩])
  (.seq (.seq (.reg [⟨(some 10), none, .q (.ld false 1 (.t 1))⟩,
      ⟨(some 11), none, .q (.mv (.c (.int .i64 0)))⟩])
   (.block 0 (.loop [2, 3, 4, 10, 11] (.seq (.reg [⟨(some 12), none, .q (.bin .lss (.t 11) (.t 10))⟩])
     (.seq (.cond (.t 12)
       .skip
       (.exit 0))
     (.seq (.block 1 (.seq (.reg [⟨(some 13), none, .q (.mv (.t 11))⟩,
          ⟨(some 6), none, .q (.mv (.t 13))⟩])
       (.seq (.reg [⟨(some 7), none, .q (.mv (.c (.int .i64 0)))⟩])
       (.seq (.seq (.reg [⟨(some 14), none, .q (.ld false 1 (.t 2))⟩,
           ⟨(some 15), none, .q (.len (.t 14))⟩,
           ⟨(some 16), none, .q (.mv (.c (.int .i64 0)))⟩])
        (.block 2 (.loop [2, 3, 4, 6, 7, 10, 11, 14, 15, 16] (.seq (.reg [⟨(some 17), none, .q (.bin .lss (.t 16) (.t 15))⟩])
          (.seq (.cond (.t 17)
            .skip
            (.exit 2))
          (.seq (.block 3 (.seq (.reg [⟨(some 18), none, .q (.mv (.t 16))⟩,
               ⟨(some 19), none, .q (.ixs 1 (.t 14) (.t 16))⟩,
               ⟨(some 20), none, .q (.ld false 1 (.t 19))⟩,
               ⟨(some 8), none, .q (.mv (.t 18))⟩,
               ⟨(some 9), none, .q (.mv (.t 20))⟩])
            (.sch (.take 0 ⟨(some 21), none, .q (.mv (.t 7))⟩ (.take 1 ⟨(some 22), none, .q (.mv (.t 8))⟩ (.take 2 ⟨(some 23), none, .q (.ixa 8 1 (.t 4) (.t 22))⟩ (.take 3 ⟨(some 24), none, .q (.ld false 1 (.t 23))⟩ (.take 4 ⟨(some 25), none, .q (.cvt .i64 (.t 24))⟩ (.take 5 ⟨(some 26), none, .q (.mv (.t 9))⟩ (.take 6 ⟨(some 27), none, .q (.mv (.t 6))⟩ (.take 7 ⟨(some 28), none, .q (.ixs 1 (.t 26) (.t 27))⟩ (.take 8 ⟨(some 29), none, .q (.ld false 1 (.t 28))⟩ (.take 9 ⟨(some 30), none, .q (.bin .mul (.t 25) (.t 29))⟩ (.take 10 ⟨(some 31), none, .q (.bin .add (.t 21) (.t 30))⟩ (.take 11 ⟨(some 7), none, .q (.mv (.t 31))⟩ .done)))))))))))))))
          (.reg [⟨(some 32), none, .q (.bin .add (.t 16) (.c (.int .i64 1)))⟩,
            ⟨(some 16), none, .q (.mv (.t 32))⟩])))))))
       (.seq (.reg [⟨(some 33), none, .q (.mv (.t 7))⟩,
          ⟨(some 34), none, .q (.ld false 1 (.t 3))⟩,
          ⟨(some 35), none, .q (.bin .rem (.t 33) (.t 34))⟩,
          ⟨(some 36), none, .q (.bin .neq (.t 35) (.c (.int .i64 0)))⟩])
       (.cond (.t 36)
        (.seq (.reg [⟨(some 5), none, .q (.mv (.c (.bool false)))⟩])
        .ret)
        .skip))))))
     (.reg [⟨(some 37), none, .q (.bin .add (.t 11) (.c (.int .i64 1)))⟩,
       ⟨(some 11), none, .q (.mv (.t 37))⟩])))))))
  (.seq (.reg [⟨(some 5), none, .q (.mv (.c (.bool true)))⟩])
  .ret)))⟩
theorem l_impl_HammingCode_1 : lowF PA f_impl_HammingCode_1 4 [.k [2, 3, 4, 10, 11], .k [2, 3, 4, 6, 7, 10, 11, 14, 15, 16], .s (.take 0 (.take 1 (.take 2 (.take 3 (.take 4 (.take 5 (.take 6 (.take 7 (.take 8 (.take 9 (.take 10 (.take 11 .done))))))))))))] = some c_impl_HammingCode_1 := by kernel_rfl
abbrev f_slices_Clone___int64_int64_ : FuncId := 45
def c_slices_Clone___int64_int64_ : AF := ⟨1, 8, [.t 2],
  (.seq (.reg [⟨(some 2), none, .q (.mv (.c (.slice none 0 0)))⟩])
  (.seq (.seq (.reg [⟨(some 3), none, .q (.mv (.t 0))⟩,
      ⟨(some 4), none, .q (.isn false (.t 3))⟩])
   (.cond (.t 4)
    (.seq (.reg [⟨(some 2), none, .q (.mv (.c (.slice none 0 0)))⟩])
    .ret)
    .skip))
  (.seq (.reg [⟨(some 5), none, .m (.bsl 1 [])⟩,
     ⟨(some 6), none, .q (.mv (.t 0))⟩,
     ⟨(some 7), none, .m (.app 1 8 (.t 5) (.t 6))⟩,
     ⟨(some 2), none, .q (.mv (.t 7))⟩])
  .ret)))⟩
theorem l_slices_Clone___int64_int64_ : lowF PA f_slices_Clone___int64_int64_ 1 [] = some c_slices_Clone___int64_int64_ := by kernel_rfl
abbrev f_slices_DeleteFunc_____int64___int64_ : FuncId := 46
def c_slices_DeleteFunc_____int64___int64_ : AF := ⟨2, 42, [.t 4],
  (.seq (.reg [⟨(some 4), none, .q (.mv (.c (.slice none 0 0)))⟩])
  (.seq (.reg [⟨(some 8), none, .q (.mv (.t 0))⟩,
     ⟨(some 9), none, .q (.mv (.t 1))⟩,
     ⟨(some 10), none, .c (.call 59 [(.t 8), (.t 9)])⟩,
     ⟨(some 5), none, .q (.mv (.t 10))⟩])
  (.seq (.seq (.reg [⟨(some 11), none, .q (.mv (.t 5))⟩,
      ⟨(some 12), none, .q (.bin .eql (.t 11) (.c (.int .i64 (-1))))⟩])
   (.cond (.t 12)
    (.seq (.reg [⟨(some 13), none, .q (.mv (.t 0))⟩,
       ⟨(some 4), none, .q (.mv (.t 13))⟩])
    .ret)
    .skip))
  (.seq (.seq (.reg [⟨(some 14), none, .q (.mv (.t 5))⟩,
      ⟨(some 15), none, .q (.bin .add (.t 14) (.c (.int .i64 1)))⟩,
      ⟨(some 6), none, .q (.mv (.t 15))⟩])
   (.block 0 (.loop [0, 1, 5, 6, 42] (.seq (.seq (.reg [⟨(some 16), none, .q (.mv (.t 6))⟩,
         ⟨(some 17), none, .q (.mv (.t 0))⟩,
         ⟨(some 18), none, .q (.len (.t 17))⟩,
         ⟨(some 19), none, .q (.bin .lss (.t 16) (.t 18))⟩])
      (.cond (.t 19)
       .skip
       (.exit 0)))
     (.seq (.block 1 (.seq (.reg [⟨(some 22), none, .q (.mv (.t 0))⟩,
          ⟨(some 23), none, .q (.mv (.t 6))⟩,
          ⟨(some 24), none, .q (.ixs 1 (.t 22) (.t 23))⟩,
          ⟨(some 25), none, .q (.ld false 1 (.t 24))⟩,
          ⟨(some 7), none, .q (.mv (.t 25))⟩])
       (.seq (.reg [⟨(some 26), none, .q (.mv (.t 1))⟩,
          ⟨(some 27), none, .q (.mv (.t 7))⟩,
          ⟨(some 28), none, .c (.cav (.t 26) [(.t 27)])⟩,
          ⟨(some 29), none, .q (.un .not (.t 28))⟩])
       (.cond (.t 29)
        (.seq (.reg [⟨(some 30), none, .q (.mv (.t 0))⟩,
           ⟨(some 31), none, .q (.mv (.t 5))⟩,
           ⟨(some 32), none, .q (.mv (.t 7))⟩,
           ⟨(some 33), none, .q (.ixs 1 (.t 30) (.t 31))⟩,
           ⟨none, none, .m (.st false 1 (.t 33) (.t 32))⟩])
        (.reg [⟨(some 34), none, .q (.mv (.t 5))⟩,
          ⟨(some 35), none, .q (.bin .add (.t 34) (.c (.int .i64 1)))⟩,
          ⟨(some 5), none, .q (.mv (.t 35))⟩]))
        .skip))))
     (.reg [⟨(some 20), none, .q (.mv (.t 6))⟩,
       ⟨(some 21), none, .q (.bin .add (.t 20) (.c (.int .i64 1)))⟩,
       ⟨(some 6), none, .q (.mv (.t 21))⟩]))))))
  (.seq (.reg [⟨(some 36), none, .q (.mv (.t 0))⟩,
     ⟨(some 37), none, .q (.mv (.t 5))⟩,
     ⟨(some 38), none, .q (.slc 1 (.t 36) (some (.t 37)) none)⟩,
     ⟨none, none, .m (.clr 1 (.v (.slice none 0 0)) (.t 38))⟩])
  (.seq (.reg [⟨(some 39), none, .q (.mv (.t 0))⟩,
     ⟨(some 40), none, .q (.mv (.t 5))⟩,
     ⟨(some 41), none, .q (.slc 1 (.t 39) none (some (.t 40)))⟩,
     ⟨(some 4), none, .q (.mv (.t 41))⟩])
  .ret))))))⟩
theorem l_slices_DeleteFunc_____int64___int64_ : lowF PA f_slices_DeleteFunc_____int64___int64_ 2 [.k [0, 1, 5, 6, 42]] = some c_slices_DeleteFunc_____int64___int64_ := by kernel_rfl
abbrev f_impl_columnsFor_1 : FuncId := 47
def c_impl_columnsFor_1 : AF := ⟨1, 15, [.t 2],
  (.seq (.reg [⟨(some 2), none, .q (.mv (.c (.bool false)))⟩])
  (.seq (.reg [⟨(some 4), none, .q (.mv (.t 0))⟩,
     ⟨(some 5), none, .c (.call 48 [(.t 4), (.f 49)])⟩,
     ⟨(some 3), none, .q (.mv (.t 5))⟩])
  (.seq (.reg [⟨(some 6), none, .q (.mv (.t 3))⟩,
     ⟨(some 7), none, .q (.bin .lss (.t 6) (.c (.int .i64 0)))⟩,
     ⟨(some 8), none, .q (.mv (.t 7))⟩,
     ⟨(some 9), (some (8, false)), .q (.mv (.t 0))⟩,
     ⟨(some 10), (some (8, false)), .q (.mv (.t 3))⟩,
     ⟨(some 11), (some (8, false)), .q (.ixs 1 (.t 9) (.t 10))⟩,
     ⟨(some 12), (some (8, false)), .q (.ld false 1 (.t 11))⟩,
     ⟨(some 13), (some (8, false)), .q (.bin .neq (.t 12) (.c (.int .i64 1)))⟩,
     ⟨(some 14), none, .q (.pick (.t 8) (.c (.bool true)) (.t 13))⟩,
     ⟨(some 2), none, .q (.mv (.t 14))⟩])
  .ret)))⟩
theorem l_impl_columnsFor_1 : lowF PA f_impl_columnsFor_1 1 [] = some c_impl_columnsFor_1 := by kernel_rfl
abbrev f_slices_IndexFunc___int64_int64_ : FuncId := 48
def c_slices_IndexFunc___int64_int64_ : AF := ⟨2, 19, [.t 4],
  (.seq (.reg [⟨(some 4), none, .q (.mv (.c (.int .i64 0)))⟩])
  (.seq (.seq (.reg [⟨(some 6), none, .q (.mv (.t 0))⟩,
      ⟨(some 7), none, .q (.len (.t 6))⟩,
      ⟨(some 8), none, .q (.mv (.c (.int .i64 0)))⟩])
   (.block 0 (.loop [0, 1, 7, 8] (.seq (.reg [⟨(some 9), none, .q (.bin .lss (.t 8) (.t 7))⟩])
     (.seq (.cond (.t 9)
       .skip
       (.exit 0))
     (.seq (.block 1 (.seq (.reg [⟨(some 10), none, .q (.mv (.t 8))⟩,
          ⟨(some 5), none, .q (.mv (.t 10))⟩])
       (.seq (.reg [⟨(some 11), none, .q (.mv (.t 1))⟩,
          ⟨(some 12), none, .q (.mv (.t 0))⟩,
          ⟨(some 13), none, .q (.mv (.t 5))⟩,
          ⟨(some 14), none, .q (.ixs 1 (.t 12) (.t 13))⟩,
          ⟨(some 15), none, .q (.ld false 1 (.t 14))⟩,
          ⟨(some 16), none, .c (.cav (.t 11) [(.t 15)])⟩])
       (.cond (.t 16)
        (.seq (.reg [⟨(some 17), none, .q (.mv (.t 5))⟩,
           ⟨(some 4), none, .q (.mv (.t 17))⟩])
        .ret)
        .skip))))
     (.reg [⟨(some 18), none, .q (.bin .add (.t 8) (.c (.int .i64 1)))⟩,
       ⟨(some 8), none, .q (.mv (.t 18))⟩])))))))
  (.seq (.reg [⟨(some 4), none, .q (.mv (.c (.int .i64 (-1))))⟩])
  .ret)))⟩
theorem l_slices_IndexFunc___int64_int64_ : lowF PA f_slices_IndexFunc___int64_int64_ 2 [.k [0, 1, 7, 8]] = some c_slices_IndexFunc___int64_int64_ := by kernel_rfl
abbrev f_impl_columnsFor_1_1 : FuncId := 49
def c_impl_columnsFor_1_1 : AF := ⟨1, 5, [.t 2],
  (.seq (.reg [⟨(some 2), none, .q (.mv (.c (.bool false)))⟩])
  (.seq (.reg [⟨(some 3), none, .q (.mv (.t 0))⟩,
     ⟨(some 4), none, .q (.bin .neq (.t 3) (.c (.int .i64 0)))⟩,
     ⟨(some 2), none, .q (.mv (.t 4))⟩])
  .ret))⟩
theorem l_impl_columnsFor_1_1 : lowF PA f_impl_columnsFor_1_1 1 [] = some c_impl_columnsFor_1_1 := by kernel_rfl
abbrev f_spec_l01N : FuncId := 55
def c_spec_l01N : AF := ⟨1, 20, [.t 2],
  (.seq (.reg [⟨(some 1), none, .m (.box (.t 0))⟩,
     ⟨(some 2), none, .q (.mv (.c (.int .i64 0)))⟩])
  (.seq (.reg [⟨(some 3), none, .q (.mv (.c (.int .i64 1)))⟩])
  (.seq (.seq (.reg [⟨(some 4), none, .q (.mv (.c (.int .i64 0)))⟩])
   (.block 0 (.loop [1, 3, 4] (.seq (.seq (.reg [⟨(some 5), none, .q (.mv (.t 4))⟩,
         ⟨(some 6), none, .q (.fad 0 (.t 1))⟩,
         ⟨(some 7), none, .q (.ld false 1 (.t 6))⟩,
         ⟨(some 8), none, .q (.len (.t 7))⟩,
         ⟨(some 9), none, .q (.bin .lss (.t 5) (.t 8))⟩])
      (.cond (.t 9)
       .skip
       (.exit 0)))
     (.seq (.block 1 (.reg [⟨(some 12), none, .q (.mv (.t 3))⟩,
         ⟨(some 13), none, .q (.fad 0 (.t 1))⟩,
         ⟨(some 14), none, .q (.ld false 1 (.t 13))⟩,
         ⟨(some 15), none, .q (.mv (.t 4))⟩,
         ⟨(some 16), none, .q (.ixs 1 (.t 14) (.t 15))⟩,
         ⟨(some 17), none, .q (.ld false 1 (.t 16))⟩,
         ⟨(some 18), none, .q (.bin .mul (.t 12) (.t 17))⟩,
         ⟨(some 3), none, .q (.mv (.t 18))⟩]))
     (.reg [⟨(some 10), none, .q (.mv (.t 4))⟩,
       ⟨(some 11), none, .q (.bin .add (.t 10) (.c (.int .i64 1)))⟩,
       ⟨(some 4), none, .q (.mv (.t 11))⟩]))))))
  (.seq (.reg [⟨(some 19), none, .q (.mv (.t 3))⟩,
     ⟨(some 2), none, .q (.mv (.t 19))⟩])
  .ret))))⟩
theorem l_spec_l01N : lowF PA f_spec_l01N 1 [.k [1, 3, 4]] = some c_spec_l01N := by kernel_rfl
abbrev f_spec_l01Digits : FuncId := 56
def c_spec_l01Digits : AF := ⟨2, 37, [.t 4],
  (.seq (.reg [⟨(some 2), none, .m (.box (.t 0))⟩,
     ⟨(some 4), none, .q (.mv (.c (.slice none 0 0)))⟩])
  (.seq (.reg [⟨(some 7), none, .q (.fad 0 (.t 2))⟩,
     ⟨(some 8), none, .q (.ld false 1 (.t 7))⟩,
     ⟨(some 9), none, .q (.len (.t 8))⟩,
     ⟨(some 10), none, .m (.mks 1 (.v (.int .i64 0)) 8 (.t 9) (.t 9))⟩,
     ⟨(some 5), none, .q (.mv (.t 10))⟩])
  (.seq (.seq (.reg [⟨(some 11), none, .q (.fad 0 (.t 2))⟩,
      ⟨(some 12), none, .q (.ld false 1 (.t 11))⟩,
      ⟨(some 13), none, .q (.len (.t 12))⟩,
      ⟨(some 14), none, .q (.bin .sub (.t 13) (.c (.int .i64 1)))⟩,
      ⟨(some 6), none, .q (.mv (.t 14))⟩])
   (.block 0 (.loop [1, 2, 5, 6] (.seq (.seq (.reg [⟨(some 15), none, .q (.mv (.t 6))⟩,
         ⟨(some 16), none, .q (.bin .geq (.t 15) (.c (.int .i64 0)))⟩])
      (.cond (.t 16)
       .skip
       (.exit 0)))
     (.seq (.block 1 (.seq (.reg [⟨(some 19), none, .q (.mv (.t 5))⟩,
          ⟨(some 20), none, .q (.mv (.t 6))⟩,
          ⟨(some 21), none, .q (.mv (.t 1))⟩,
          ⟨(some 22), none, .q (.fad 0 (.t 2))⟩,
          ⟨(some 23), none, .q (.ld false 1 (.t 22))⟩,
          ⟨(some 24), none, .q (.mv (.t 6))⟩,
          ⟨(some 25), none, .q (.ixs 1 (.t 23) (.t 24))⟩,
          ⟨(some 26), none, .q (.ld false 1 (.t 25))⟩,
          ⟨(some 27), none, .q (.bin .rem (.t 21) (.t 26))⟩,
          ⟨(some 28), none, .q (.ixs 1 (.t 19) (.t 20))⟩,
          ⟨none, none, .m (.st false 1 (.t 28) (.t 27))⟩])
       (.reg [⟨(some 29), none, .q (.mv (.t 1))⟩,
         ⟨(some 30), none, .q (.fad 0 (.t 2))⟩,
         ⟨(some 31), none, .q (.ld false 1 (.t 30))⟩,
         ⟨(some 32), none, .q (.mv (.t 6))⟩,
         ⟨(some 33), none, .q (.ixs 1 (.t 31) (.t 32))⟩,
         ⟨(some 34), none, .q (.ld false 1 (.t 33))⟩,
         ⟨(some 35), none, .q (.bin .quo (.t 29) (.t 34))⟩,
         ⟨(some 1), none, .q (.mv (.t 35))⟩])))
     (.reg [⟨(some 17), none, .q (.mv (.t 6))⟩,
       ⟨(some 18), none, .q (.bin .sub (.t 17) (.c (.int .i64 1)))⟩,
       ⟨(some 6), none, .q (.mv (.t 18))⟩]))))))
  (.seq (.reg [⟨(some 36), none, .q (.mv (.t 5))⟩,
     ⟨(some 4), none, .q (.mv (.t 36))⟩])
  .ret))))⟩
theorem l_spec_l01Digits : lowF PA f_spec_l01Digits 2 [.k [1, 2, 5, 6]] = some c_spec_l01Digits := by kernel_rfl
abbrev f_math_bits_Mul : FuncId := 57
def c_math_bits_Mul : AF := ⟨2, 30, [.t 4, .t 5],
  (.seq (.reg [⟨(some 4), none, .q (.mv (.c (.int .u64 0)))⟩,
     ⟨(some 5), none, .q (.mv (.c (.int .u64 0)))⟩])
  (.seq (.cond (.c (.bool false))
    (.seq (.reg [⟨(some 11), none, .q (.mv (.t 0))⟩,
       ⟨(some 12), none, .q (.cvt .u32 (.t 11))⟩,
       ⟨(some 13), none, .q (.mv (.t 1))⟩,
       ⟨(some 14), none, .q (.cvt .u32 (.t 13))⟩,
       ⟨(some 15), none, .c (.call 60 [(.t 12), (.t 14)])⟩,
       ⟨(some 10), none, .q (.mv (.t 15))⟩,
       ⟨(some 16), none, .q (.ext (.t 10) 0)⟩,
       ⟨(some 17), none, .q (.ext (.t 10) 1)⟩,
       ⟨(some 6), none, .q (.mv (.t 16))⟩,
       ⟨(some 7), none, .q (.mv (.t 17))⟩])
    (.seq (.reg [⟨(some 18), none, .q (.mv (.t 6))⟩,
       ⟨(some 19), none, .q (.cvt .u64 (.t 18))⟩,
       ⟨(some 20), none, .q (.mv (.t 7))⟩,
       ⟨(some 21), none, .q (.cvt .u64 (.t 20))⟩,
       ⟨(some 4), none, .q (.mv (.t 19))⟩,
       ⟨(some 5), none, .q (.mv (.t 21))⟩])
    .ret))
    .skip)
  (.seq (.reg [⟨(some 23), none, .q (.mv (.t 0))⟩,
     ⟨(some 24), none, .q (.mv (.t 1))⟩,
     ⟨(some 25), none, .c (.call 61 [(.t 23), (.t 24)])⟩,
     ⟨(some 22), none, .q (.mv (.t 25))⟩,
     ⟨(some 26), none, .q (.ext (.t 22) 0)⟩,
     ⟨(some 27), none, .q (.ext (.t 22) 1)⟩,
     ⟨(some 8), none, .q (.mv (.t 26))⟩,
     ⟨(some 9), none, .q (.mv (.t 27))⟩])
  (.seq (.reg [⟨(some 28), none, .q (.mv (.t 8))⟩,
     ⟨(some 29), none, .q (.mv (.t 9))⟩,
     ⟨(some 4), none, .q (.mv (.t 28))⟩,
     ⟨(some 5), none, .q (.mv (.t 29))⟩])
  .ret))))⟩
theorem l_math_bits_Mul : lowF PA f_math_bits_Mul 2 [] = some c_math_bits_Mul := by kernel_rfl
abbrev f_impl_allDigits : FuncId := 58
def c_impl_allDigits : AF := ⟨1, 19, [.t 2],
  (.seq (.reg [⟨(some 1), none, .m (.box (.t 0))⟩,
     ⟨(some 2), none, .q (.mv (.c (.slice none 0 0)))⟩])
  (.seq (.reg [⟨(some 5), none, .m (.bsl 8 [])⟩,
     ⟨(some 3), none, .q (.mv (.t 5))⟩])
  (.seq (.seq (.reg [⟨(some 6), none, .q (.ld true 1 (.t 1))⟩,
      ⟨(some 7), none, .c (.call 62 [(.t 6)])⟩,
      ⟨(some 8), none, .q (.mv (.c (.int .i64 0)))⟩])
   (.block 0 (.loop [1, 3, 7, 8] (.seq (.reg [⟨(some 9), none, .q (.bin .lss (.t 8) (.t 7))⟩])
     (.seq (.cond (.t 9)
       .skip
       (.exit 0))
     (.seq (.block 1 (.seq (.reg [⟨(some 10), none, .q (.mv (.t 8))⟩,
          ⟨(some 4), none, .q (.mv (.t 10))⟩])
       (.reg [⟨(some 11), none, .q (.mv (.t 3))⟩,
         ⟨(some 12), none, .q (.ld true 1 (.t 1))⟩,
         ⟨(some 13), none, .q (.mv (.t 4))⟩,
         ⟨(some 14), none, .c (.call 63 [(.t 12), (.t 13)])⟩,
         ⟨(some 15), none, .m (.bsl 8 [(.t 14)])⟩,
         ⟨(some 16), none, .m (.app 8 8 (.t 11) (.t 15))⟩,
         ⟨(some 3), none, .q (.mv (.t 16))⟩])))
     (.reg [⟨(some 17), none, .q (.bin .add (.t 8) (.c (.int .i64 1)))⟩,
       ⟨(some 8), none, .q (.mv (.t 17))⟩])))))))
  (.seq (.reg [⟨(some 18), none, .q (.mv (.t 3))⟩,
     ⟨(some 2), none, .q (.mv (.t 18))⟩])
  .ret))))⟩
theorem l_impl_allDigits : lowF PA f_impl_allDigits 1 [.k [1, 3, 7, 8]] = some c_impl_allDigits := by kernel_rfl
abbrev f_slices_IndexFunc_____int64___int64_ : FuncId := 59
def c_slices_IndexFunc_____int64___int64_ : AF := ⟨2, 19, [.t 4],
  (.seq (.reg [⟨(some 4), none, .q (.mv (.c (.int .i64 0)))⟩])
  (.seq (.seq (.reg [⟨(some 6), none, .q (.mv (.t 0))⟩,
      ⟨(some 7), none, .q (.len (.t 6))⟩,
      ⟨(some 8), none, .q (.mv (.c (.int .i64 0)))⟩])
   (.block 0 (.loop [0, 1, 7, 8] (.seq (.reg [⟨(some 9), none, .q (.bin .lss (.t 8) (.t 7))⟩])
     (.seq (.cond (.t 9)
       .skip
       (.exit 0))
     (.seq (.block 1 (.seq (.reg [⟨(some 10), none, .q (.mv (.t 8))⟩,
          ⟨(some 5), none, .q (.mv (.t 10))⟩])
       (.seq (.reg [⟨(some 11), none, .q (.mv (.t 1))⟩,
          ⟨(some 12), none, .q (.mv (.t 0))⟩,
          ⟨(some 13), none, .q (.mv (.t 5))⟩,
          ⟨(some 14), none, .q (.ixs 1 (.t 12) (.t 13))⟩,
          ⟨(some 15), none, .q (.ld false 1 (.t 14))⟩,
          ⟨(some 16), none, .c (.cav (.t 11) [(.t 15)])⟩])
       (.cond (.t 16)
        (.seq (.reg [⟨(some 17), none, .q (.mv (.t 5))⟩,
           ⟨(some 4), none, .q (.mv (.t 17))⟩])
        .ret)
        .skip))))
     (.reg [⟨(some 18), none, .q (.bin .add (.t 8) (.c (.int .i64 1)))⟩,
       ⟨(some 8), none, .q (.mv (.t 18))⟩])))))))
  (.seq (.reg [⟨(some 4), none, .q (.mv (.c (.int .i64 (-1))))⟩])
  .ret)))⟩
theorem l_slices_IndexFunc_____int64___int64_ : lowF PA f_slices_IndexFunc_____int64___int64_ 2 [.k [0, 1, 7, 8]] = some c_slices_IndexFunc_____int64___int64_ := by kernel_rfl
abbrev f_math_bits_Mul32 : FuncId := 60
def c_math_bits_Mul32 : AF := ⟨2, 17, [.t 4, .t 5],
  (.seq (.reg [⟨(some 4), none, .q (.mv (.c (.int .u32 0)))⟩,
     ⟨(some 5), none, .q (.mv (.c (.int .u32 0)))⟩])
  (.seq (.reg [⟨(some 7), none, .q (.mv (.t 0))⟩,
     ⟨(some 8), none, .q (.cvt .u64 (.t 7))⟩,
     ⟨(some 9), none, .q (.mv (.t 1))⟩,
     ⟨(some 10), none, .q (.cvt .u64 (.t 9))⟩,
     ⟨(some 11), none, .q (.bin .mul (.t 8) (.t 10))⟩,
     ⟨(some 6), none, .q (.mv (.t 11))⟩])
  (.seq (.reg [⟨(some 12), none, .q (.mv (.t 6))⟩,
     ⟨(some 13), none, .q (.bin .shr (.t 12) (.c (.int .u64 32)))⟩,
     ⟨(some 14), none, .q (.cvt .u32 (.t 13))⟩,
     ⟨(some 15), none, .q (.mv (.t 6))⟩,
     ⟨(some 16), none, .q (.cvt .u32 (.t 15))⟩,
     ⟨(some 4), none, .q (.mv (.t 14))⟩,
     ⟨(some 5), none, .q (.mv (.t 16))⟩])
  .ret)))⟩
theorem l_math_bits_Mul32 : lowF PA f_math_bits_Mul32 2 [] = some c_math_bits_Mul32 := by kernel_rfl
abbrev f_math_bits_Mul64 : FuncId := 61
def c_math_bits_Mul64 : AF := ⟨2, 51, [.t 4, .t 5],
  (.seq (.reg [⟨(some 4), none, .q (.mv (.c (.int .u64 0)))⟩,
     ⟨(some 5), none, .q (.mv (.c (.int .u64 0)))⟩])
  (.seq (.reg [⟨(some 14), none, .q (.mv (.t 0))⟩,
     ⟨(some 15), none, .q (.bin .and (.t 14) (.c (.int .u64 4294967295)))⟩,
     ⟨(some 6), none, .q (.mv (.t 15))⟩])
  (.seq (.reg [⟨(some 16), none, .q (.mv (.t 0))⟩,
     ⟨(some 17), none, .q (.bin .shr (.t 16) (.c (.int .u64 32)))⟩,
     ⟨(some 7), none, .q (.mv (.t 17))⟩])
  (.seq (.reg [⟨(some 18), none, .q (.mv (.t 1))⟩,
     ⟨(some 19), none, .q (.bin .and (.t 18) (.c (.int .u64 4294967295)))⟩,
     ⟨(some 8), none, .q (.mv (.t 19))⟩])
  (.seq (.reg [⟨(some 20), none, .q (.mv (.t 1))⟩,
     ⟨(some 21), none, .q (.bin .shr (.t 20) (.c (.int .u64 32)))⟩,
     ⟨(some 9), none, .q (.mv (.t 21))⟩])
  (.seq (.reg [⟨(some 22), none, .q (.mv (.t 6))⟩,
     ⟨(some 23), none, .q (.mv (.t 8))⟩,
     ⟨(some 24), none, .q (.bin .mul (.t 22) (.t 23))⟩,
     ⟨(some 10), none, .q (.mv (.t 24))⟩])
  (.seq (.reg [⟨(some 25), none, .q (.mv (.t 7))⟩,
     ⟨(some 26), none, .q (.mv (.t 8))⟩,
     ⟨(some 27), none, .q (.bin .mul (.t 25) (.t 26))⟩,
     ⟨(some 28), none, .q (.mv (.t 10))⟩,
     ⟨(some 29), none, .q (.bin .shr (.t 28) (.c (.int .u64 32)))⟩,
     ⟨(some 30), none, .q (.bin .add (.t 27) (.t 29))⟩,
     ⟨(some 11), none, .q (.mv (.t 30))⟩])
  (.seq (.reg [⟨(some 31), none, .q (.mv (.t 11))⟩,
     ⟨(some 32), none, .q (.bin .and (.t 31) (.c (.int .u64 4294967295)))⟩,
     ⟨(some 12), none, .q (.mv (.t 32))⟩])
  (.seq (.reg [⟨(some 33), none, .q (.mv (.t 11))⟩,
     ⟨(some 34), none, .q (.bin .shr (.t 33) (.c (.int .u64 32)))⟩,
     ⟨(some 13), none, .q (.mv (.t 34))⟩])
  (.seq (.reg [⟨(some 35), none, .q (.mv (.t 12))⟩,
     ⟨(some 36), none, .q (.mv (.t 6))⟩,
     ⟨(some 37), none, .q (.mv (.t 9))⟩,
     ⟨(some 38), none, .q (.bin .mul (.t 36) (.t 37))⟩,
     ⟨(some 39), none, .q (.bin .add (.t 35) (.t 38))⟩,
     ⟨(some 12), none, .q (.mv (.t 39))⟩])
  (.seq (.reg [⟨(some 40), none, .q (.mv (.t 7))⟩,
     ⟨(some 41), none, .q (.mv (.t 9))⟩,
     ⟨(some 42), none, .q (.bin .mul (.t 40) (.t 41))⟩,
     ⟨(some 43), none, .q (.mv (.t 13))⟩,
     ⟨(some 44), none, .q (.bin .add (.t 42) (.t 43))⟩,
     ⟨(some 45), none, .q (.mv (.t 12))⟩,
     ⟨(some 46), none, .q (.bin .shr (.t 45) (.c (.int .u64 32)))⟩,
     ⟨(some 47), none, .q (.bin .add (.t 44) (.t 46))⟩,
     ⟨(some 4), none, .q (.mv (.t 47))⟩])
  (.seq (.reg [⟨(some 48), none, .q (.mv (.t 0))⟩,
     ⟨(some 49), none, .q (.mv (.t 1))⟩,
     ⟨(some 50), none, .q (.bin .mul (.t 48) (.t 49))⟩,
     ⟨(some 5), none, .q (.mv (.t 50))⟩])
  .ret))))))))))))⟩
theorem l_math_bits_Mul64 : lowF PA f_math_bits_Mul64 2 [] = some c_math_bits_Mul64 := by kernel_rfl
abbrev f_impl_count : FuncId := 62
def c_impl_count : AF := ⟨1, 18, [.t 2],
  (.seq (.reg [⟨(some 1), none, .m (.box (.t 0))⟩,
     ⟨(some 2), none, .q (.mv (.c (.int .i64 0)))⟩])
  (.seq (.reg [⟨(some 3), none, .q (.mv (.c (.int .i64 1)))⟩])
  (.seq (.seq (.reg [⟨(some 6), none, .q (.fad 0 (.t 1))⟩,
      ⟨(some 7), none, .q (.ld false 1 (.t 6))⟩,
      ⟨(some 8), none, .q (.len (.t 7))⟩,
      ⟨(some 9), none, .q (.mv (.c (.int .i64 0)))⟩])
   (.block 0 (.loop [3, 7, 8, 9] (.seq (.reg [⟨(some 10), none, .q (.bin .lss (.t 9) (.t 8))⟩])
     (.seq (.cond (.t 10)
       .skip
       (.exit 0))
     (.seq (.block 1 (.seq (.reg [⟨(some 11), none, .q (.ixs 1 (.t 7) (.t 9))⟩,
          ⟨(some 12), none, .q (.ld false 1 (.t 11))⟩,
          ⟨(some 5), none, .q (.mv (.t 12))⟩])
       (.reg [⟨(some 13), none, .q (.mv (.t 3))⟩,
         ⟨(some 14), none, .q (.mv (.t 5))⟩,
         ⟨(some 15), none, .q (.bin .mul (.t 13) (.t 14))⟩,
         ⟨(some 3), none, .q (.mv (.t 15))⟩])))
     (.reg [⟨(some 16), none, .q (.bin .add (.t 9) (.c (.int .i64 1)))⟩,
       ⟨(some 9), none, .q (.mv (.t 16))⟩])))))))
  (.seq (.reg [⟨(some 17), none, .q (.mv (.t 3))⟩,
     ⟨(some 2), none, .q (.mv (.t 17))⟩])
  .ret))))⟩
theorem l_impl_count : lowF PA f_impl_count 1 [.k [3, 7, 8, 9]] = some c_impl_count := by kernel_rfl
abbrev f_impl_digitsOf : FuncId := 63
def c_impl_digitsOf : AF := ⟨2, 34, [.c 4 true 8],
  (.seq (.reg [⟨(some 2), none, .m (.box (.t 0))⟩,
     ⟨(some 4), none, .m (.alloc [(.v (.int .u8 0)), (.v (.int .u8 0)), (.v (.int .u8 0)), (.v (.int .u8 0)), (.v (.int .u8 0)), (.v (.int .u8 0)), (.v (.int .u8 0)), (.v (.int .u8 0))])⟩])
  (.seq (.reg [⟨(some 7), none, .q (.bld [(.v (.int .u8 0)), (.v (.int .u8 0)), (.v (.int .u8 0)), (.v (.int .u8 0)), (.v (.int .u8 0)), (.v (.int .u8 0)), (.v (.int .u8 0)), (.v (.int .u8 0))] [])⟩,
     ⟨(some 5), none, .m (.alloc [(.v (.int .u8 0)), (.v (.int .u8 0)), (.v (.int .u8 0)), (.v (.int .u8 0)), (.v (.int .u8 0)), (.v (.int .u8 0)), (.v (.int .u8 0)), (.v (.int .u8 0))])⟩,
     ⟨none, none, .m (.st true 8 (.t 5) (.t 7))⟩])
  (.seq (.seq (.reg [⟨(some 8), none, .q (.fad 0 (.t 2))⟩,
      ⟨(some 9), none, .q (.ld false 1 (.t 8))⟩,
      ⟨(some 10), none, .q (.len (.t 9))⟩,
      ⟨(some 11), none, .q (.bin .sub (.t 10) (.c (.int .i64 1)))⟩,
      ⟨(some 6), none, .q (.mv (.t 11))⟩])
   (.block 0 (.loop [1, 2, 4, 5, 6] (.seq (.seq (.reg [⟨(some 12), none, .q (.mv (.t 6))⟩,
         ⟨(some 13), none, .q (.bin .geq (.t 12) (.c (.int .i64 0)))⟩])
      (.cond (.t 13)
       .skip
       (.exit 0)))
     (.seq (.block 1 (.seq (.reg [⟨(some 16), none, .q (.mv (.t 6))⟩,
          ⟨(some 17), none, .q (.mv (.t 1))⟩,
          ⟨(some 18), none, .q (.fad 0 (.t 2))⟩,
          ⟨(some 19), none, .q (.ld false 1 (.t 18))⟩,
          ⟨(some 20), none, .q (.mv (.t 6))⟩,
          ⟨(some 21), none, .q (.ixs 1 (.t 19) (.t 20))⟩,
          ⟨(some 22), none, .q (.ld false 1 (.t 21))⟩,
          ⟨(some 23), none, .q (.bin .rem (.t 17) (.t 22))⟩,
          ⟨(some 24), none, .q (.cvt .u8 (.t 23))⟩,
          ⟨(some 25), none, .q (.ixa 8 1 (.t 5) (.t 16))⟩,
          ⟨none, none, .m (.st false 1 (.t 25) (.t 24))⟩])
       (.reg [⟨(some 26), none, .q (.mv (.t 1))⟩,
         ⟨(some 27), none, .q (.fad 0 (.t 2))⟩,
         ⟨(some 28), none, .q (.ld false 1 (.t 27))⟩,
         ⟨(some 29), none, .q (.mv (.t 6))⟩,
         ⟨(some 30), none, .q (.ixs 1 (.t 28) (.t 29))⟩,
         ⟨(some 31), none, .q (.ld false 1 (.t 30))⟩,
         ⟨(some 32), none, .q (.bin .quo (.t 26) (.t 31))⟩,
         ⟨(some 1), none, .q (.mv (.t 32))⟩])))
     (.reg [⟨(some 14), none, .q (.mv (.t 6))⟩,
       ⟨(some 15), none, .q (.bin .sub (.t 14) (.c (.int .i64 1)))⟩,
       ⟨(some 6), none, .q (.mv (.t 15))⟩]))))))
  (.seq (.reg [⟨(some 33), none, .q (.ld true 8 (.t 5))⟩,
     ⟨none, none, .m (.st true 8 (.t 4) (.t 33))⟩])
  .ret))))⟩
theorem l_impl_digitsOf : lowF PA f_impl_digitsOf 2 [.k [1, 2, 4, 5, 6]] = some c_impl_digitsOf := by kernel_rfl
end Go.Proofs.Ytccfejnckmokkaa.Va
