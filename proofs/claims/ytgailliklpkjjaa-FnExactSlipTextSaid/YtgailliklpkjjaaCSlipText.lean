/- The code of the functions that FnExactSlipText reaches, laid out for a walk: each is what the lowering makes of the program's own text. Condition: none. -/
import Derived.Shelf.Strings.OnBuilder
import Derived.Test.YtgailliklpkjjaaVa2
import Derived.Test.YtgailliklpkjjaaProg
import Derived.KernelRfl
set_option linter.all false
set_option linter.unusedSimpArgs false
set_option linter.unusedVariables false
namespace Go.Proofs.Ytgailliklpkjjaa.Va
open Go
noncomputable abbrev PA : Program := Go.Proofs.Try.prog
abbrev f_laws_FnExactSlipText : FuncId := 3
def c_laws_FnExactSlipText : AF := ⟨2, 56, [.t 4],
  (.seq (.reg [⟨(some 2), none, .m (.box (.t 0))⟩,
     ⟨(some 4), none, .q (.mv (.c (.bool false)))⟩])
  (.seq (.seq (.reg [⟨(some 12), none, .q (.mv (.t 1))⟩,
      ⟨(some 13), none, .q (.len (.t 12))⟩,
      ⟨(some 14), none, .q (.bin .gtr (.t 13) (.c (.int .i64 1048576)))⟩])
   (.cond (.t 14)
    (.seq (.reg [⟨(some 4), none, .q (.mv (.c (.bool true)))⟩])
    .ret)
    .skip))
  (.seq (.reg [⟨(some 5), none, .q (.mv (.c (.int .i64 1048576)))⟩])
  (.seq (.reg [⟨(some 15), none, .q (.ld true 1 (.t 2))⟩,
     ⟨(some 16), none, .q (.mv (.t 5))⟩,
     ⟨(some 17), none, .c (.call 4 [(.t 15), (.t 16)])⟩,
     ⟨(some 5), none, .q (.mv (.t 17))⟩])
  (.seq (.seq (.reg [⟨(some 18), none, .q (.mv (.t 5))⟩,
      ⟨(some 19), none, .q (.bin .lss (.t 18) (.c (.int .i64 0)))⟩])
   (.cond (.t 19)
    (.seq (.reg [⟨(some 4), none, .q (.mv (.c (.bool true)))⟩])
    .ret)
    .skip))
  (.seq (.reg [⟨(some 21), none, .q (.ld true 1 (.t 2))⟩,
     ⟨(some 22), none, .c (.call 6 [(.t 21)])⟩,
     ⟨(some 23), none, .q (.mv (.t 1))⟩,
     ⟨(some 24), none, .c (.call 7 [(.t 23)])⟩,
     ⟨(some 25), none, .c (.call 5 [(.t 22), (.t 24)])⟩,
     ⟨(some 20), none, .q (.mv (.t 25))⟩,
     ⟨(some 26), none, .q (.ext (.t 20) 0)⟩,
     ⟨(some 27), none, .q (.ext (.t 20) 1)⟩,
     ⟨(some 6), none, .q (.mv (.t 26))⟩,
     ⟨(some 7), none, .q (.mv (.t 27))⟩])
  (.seq (.reg [⟨(some 28), none, .q (.ld true 1 (.t 2))⟩,
     ⟨(some 29), none, .c (.call 6 [(.t 28)])⟩,
     ⟨(some 8), none, .m (.alloc [(.v (.slice none 0 0))])⟩,
     ⟨none, none, .m (.st true 1 (.t 8) (.t 29))⟩])
  (.seq (.reg [⟨(some 30), none, .q (.mv (.t 1))⟩,
     ⟨(some 31), none, .c (.call 7 [(.t 30)])⟩,
     ⟨(some 9), none, .q (.mv (.t 31))⟩])
  (.seq (.reg [⟨(some 33), none, .q (.ld true 1 (.t 8))⟩,
     ⟨(some 34), none, .q (.mv (.t 9))⟩,
     ⟨(some 35), none, .c (.call 8 [(.t 33), (.t 34)])⟩,
     ⟨(some 32), none, .q (.mv (.t 35))⟩,
     ⟨(some 36), none, .q (.ext (.t 32) 0)⟩,
     ⟨(some 37), none, .q (.ext (.t 32) 1)⟩,
     ⟨(some 10), none, .q (.mv (.t 36))⟩,
     ⟨(some 11), none, .q (.mv (.t 37))⟩])
  (.seq (.seq (.reg [⟨(some 38), none, .q (.mv (.t 10))⟩,
      ⟨(some 39), none, .q (.mv (.t 6))⟩,
      ⟨(some 40), none, .q (.eqs .neq (.t 38) (.t 39))⟩,
      ⟨(some 41), none, .q (.mv (.t 40))⟩,
      ⟨(some 42), (some (41, false)), .q (.mv (.t 11))⟩,
      ⟨(some 43), (some (41, false)), .q (.mv (.t 7))⟩,
      ⟨(some 44), (some (41, false)), .q (.bin .neq (.t 42) (.t 43))⟩,
      ⟨(some 45), none, .q (.pick (.t 41) (.c (.bool true)) (.t 44))⟩])
   (.cond (.t 45)
    (.seq (.reg [⟨(some 4), none, .q (.mv (.c (.bool false)))⟩])
    .ret)
    .skip))
  (.seq (.seq (.sch (.take 0 ⟨(some 46), none, .q (.ld true 1 (.t 8))⟩ (.take 1 ⟨(some 47), none, .q (.ld true 1 (.t 2))⟩ (.one ⟨(some 48), none, .c (.call 6 [(.t 47)])⟩ [1] (.one ⟨(some 49), none, .c (.call 9 [(.t 46), (.t 48)])⟩ [0] (.take 4 ⟨(some 50), none, .q (.un .not (.t 49))⟩ .done))))))
   (.cond (.t 50)
    (.seq (.reg [⟨(some 4), none, .q (.mv (.c (.bool false)))⟩])
    .ret)
    .skip))
  (.seq (.seq (.reg [⟨(some 51), none, .q (.mv (.t 9))⟩,
      ⟨(some 52), none, .q (.mv (.t 1))⟩,
      ⟨(some 53), none, .c (.call 7 [(.t 52)])⟩,
      ⟨(some 54), none, .c (.call 10 [(.t 51), (.t 53)])⟩,
      ⟨(some 55), none, .q (.un .not (.t 54))⟩])
   (.cond (.t 55)
    (.seq (.reg [⟨(some 4), none, .q (.mv (.c (.bool false)))⟩])
    .ret)
    .skip))
  (.seq (.reg [⟨(some 4), none, .q (.mv (.c (.bool true)))⟩])
  .ret)))))))))))))⟩
theorem l_laws_FnExactSlipText : lowF PA f_laws_FnExactSlipText 2 [.s (.take 0 (.take 1 (.one 2 (.one 3 (.take 4 .done)))))] = some c_laws_FnExactSlipText := by kernel_rfl
abbrev f_laws_szSpace : FuncId := 4
def c_laws_szSpace : AF := ⟨2, 12, [.t 4],
  (.seq (.reg [⟨(some 2), none, .m (.box (.t 0))⟩,
     ⟨(some 4), none, .q (.mv (.c (.int .i64 0)))⟩])
  (.seq (.reg [⟨(some 5), none, .q (.fad 0 (.t 2))⟩,
     ⟨(some 6), none, .q (.ld false 1 (.t 5))⟩,
     ⟨(some 7), none, .q (.mv (.t 1))⟩,
     ⟨(some 8), none, .c (.call 11 [(.t 6), (.t 7)])⟩,
     ⟨(some 1), none, .q (.mv (.t 8))⟩])
  (.seq (.seq (.reg [⟨(some 9), none, .q (.mv (.t 1))⟩,
      ⟨(some 10), none, .q (.bin .lss (.t 9) (.c (.int .i64 0)))⟩])
   (.cond (.t 10)
    (.seq (.reg [⟨(some 4), none, .q (.mv (.c (.int .i64 (-1))))⟩])
    .ret)
    .skip))
  (.seq (.reg [⟨(some 11), none, .q (.mv (.t 1))⟩,
     ⟨(some 4), none, .q (.mv (.t 11))⟩])
  .ret))))⟩
theorem l_laws_szSpace : lowF PA f_laws_szSpace 2 [] = some c_laws_szSpace := by kernel_rfl
abbrev f_spec_SlipText : FuncId := 5
def c_spec_SlipText : AF := ⟨2, 16, [.t 4, .t 5],
  (.seq (.reg [⟨(some 2), none, .m (.box (.t 0))⟩,
     ⟨(some 4), none, .q (.mv (.c (.string ⟨#[]⟩)))⟩,
     ⟨(some 5), none, .q (.mv (.c (.int .i64 0)))⟩])
  (.seq (.seq (.reg [⟨(some 7), none, .q (.ld true 1 (.t 2))⟩,
      ⟨(some 8), none, .q (.mv (.t 1))⟩,
      ⟨(some 9), none, .m (.bsl 1 [(.t 8)])⟩,
      ⟨(some 10), none, .c (.call 12 [(.t 7), (.t 9)])⟩,
      ⟨(some 6), none, .q (.mv (.t 10))⟩])
   (.seq (.reg [⟨(some 11), none, .q (.mv (.t 6))⟩,
      ⟨(some 12), none, .q (.bin .neq (.t 11) (.c (.int .i64 0)))⟩])
   (.cond (.t 12)
    (.seq (.reg [⟨(some 13), none, .q (.mv (.t 6))⟩,
       ⟨(some 4), none, .q (.mv (.c (.string ⟨#[]⟩)))⟩,
       ⟨(some 5), none, .q (.mv (.t 13))⟩])
    .ret)
    .skip)))
  (.seq (.reg [⟨(some 14), none, .q (.mv (.t 1))⟩,
     ⟨(some 15), none, .c (.call 13 [(.t 14)])⟩,
     ⟨(some 4), none, .q (.mv (.t 15))⟩,
     ⟨(some 5), none, .q (.mv (.c (.int .i64 0)))⟩])
  .ret)))⟩
theorem l_spec_SlipText : lowF PA f_spec_SlipText 2 [] = some c_spec_SlipText := by kernel_rfl
abbrev f_laws_toSpace : FuncId := 6
def c_laws_toSpace : AF := ⟨1, 9, [.c 2 true 1],
  (.seq (.reg [⟨(some 1), none, .m (.box (.t 0))⟩,
     ⟨(some 2), none, .m (.alloc [(.v (.slice none 0 0))])⟩])
  (.seq (.reg [⟨(some 3), none, .m (.alloc [(.v (.slice none 0 0))])⟩])
  (.seq (.reg [⟨(some 4), none, .q (.fad 0 (.t 1))⟩,
     ⟨(some 5), none, .q (.ld false 1 (.t 4))⟩,
     ⟨(some 6), none, .c (.call 14 [(.t 5)])⟩,
     ⟨(some 7), none, .q (.fad 0 (.t 3))⟩,
     ⟨none, none, .m (.st false 1 (.t 7) (.t 6))⟩])
  (.seq (.reg [⟨(some 8), none, .q (.ld true 1 (.t 3))⟩,
     ⟨none, none, .m (.st true 1 (.t 2) (.t 8))⟩])
  .ret))))⟩
theorem l_laws_toSpace : lowF PA f_laws_toSpace 1 [] = some c_laws_toSpace := by kernel_rfl
abbrev f_laws_toSlip : FuncId := 7
def c_laws_toSlip : AF := ⟨1, 22, [.t 2],
  (.seq (.reg [⟨(some 2), none, .q (.mv (.c (.slice none 0 0)))⟩])
  (.seq (.reg [⟨(some 5), none, .q (.mv (.t 0))⟩,
     ⟨(some 6), none, .q (.len (.t 5))⟩,
     ⟨(some 7), none, .m (.mks 1 (.v (.int .i64 0)) 8 (.t 6) (.t 6))⟩,
     ⟨(some 3), none, .q (.mv (.t 7))⟩])
  (.seq (.seq (.reg [⟨(some 4), none, .q (.mv (.c (.int .i64 0)))⟩])
   (.block 0 (.loop [0, 3, 4] (.seq (.seq (.reg [⟨(some 8), none, .q (.mv (.t 4))⟩,
         ⟨(some 9), none, .q (.mv (.t 0))⟩,
         ⟨(some 10), none, .q (.len (.t 9))⟩,
         ⟨(some 11), none, .q (.bin .lss (.t 8) (.t 10))⟩])
      (.cond (.t 11)
       .skip
       (.exit 0)))
     (.seq (.block 1 (.reg [⟨(some 14), none, .q (.mv (.t 3))⟩,
         ⟨(some 15), none, .q (.mv (.t 4))⟩,
         ⟨(some 16), none, .q (.mv (.t 0))⟩,
         ⟨(some 17), none, .q (.mv (.t 4))⟩,
         ⟨(some 18), none, .q (.ixs 1 (.t 16) (.t 17))⟩,
         ⟨(some 19), none, .q (.ld false 1 (.t 18))⟩,
         ⟨(some 20), none, .q (.ixs 1 (.t 14) (.t 15))⟩,
         ⟨none, none, .m (.st false 1 (.t 20) (.t 19))⟩]))
     (.reg [⟨(some 12), none, .q (.mv (.t 4))⟩,
       ⟨(some 13), none, .q (.bin .add (.t 12) (.c (.int .i64 1)))⟩,
       ⟨(some 4), none, .q (.mv (.t 13))⟩]))))))
  (.seq (.reg [⟨(some 21), none, .q (.mv (.t 3))⟩,
     ⟨(some 2), none, .q (.mv (.t 21))⟩])
  .ret))))⟩
theorem l_laws_toSlip : lowF PA f_laws_toSlip 1 [.k [0, 3, 4]] = some c_laws_toSlip := by kernel_rfl
abbrev f_impl_SlipText : FuncId := 8
def c_impl_SlipText : AF := ⟨2, 49, [.t 4, .t 5],
  (.seq (.reg [⟨(some 2), none, .m (.box (.t 0))⟩,
     ⟨(some 4), none, .q (.mv (.c (.string ⟨#[]⟩)))⟩,
     ⟨(some 5), none, .q (.mv (.c (.int .i64 0)))⟩])
  (.seq (.seq (.reg [⟨(some 12), none, .q (.ld true 1 (.t 2))⟩,
      ⟨(some 13), none, .q (.mv (.t 1))⟩,
      ⟨(some 14), none, .m (.bsl 1 [(.t 13)])⟩,
      ⟨(some 15), none, .c (.call 15 [(.t 12), (.t 14)])⟩,
      ⟨(some 6), none, .q (.mv (.t 15))⟩])
   (.seq (.reg [⟨(some 16), none, .q (.mv (.t 6))⟩,
      ⟨(some 17), none, .q (.bin .neq (.t 16) (.c (.int .i64 0)))⟩])
   (.cond (.t 17)
    (.seq (.reg [⟨(some 18), none, .q (.mv (.t 6))⟩,
       ⟨(some 4), none, .q (.mv (.c (.string ⟨#[]⟩)))⟩,
       ⟨(some 5), none, .q (.mv (.t 18))⟩])
    .ret)
    .skip)))
  (.seq (.reg [⟨(some 19), none, .m (.bsl 1 [])⟩,
     ⟨(some 7), none, .q (.mv (.t 19))⟩])
  (.seq (.seq (.reg [⟨(some 20), none, .q (.mv (.t 1))⟩,
      ⟨(some 21), none, .q (.len (.t 20))⟩,
      ⟨(some 22), none, .q (.mv (.c (.int .i64 0)))⟩])
   (.block 0 (.loop [7, 20, 21, 22] (.seq (.reg [⟨(some 23), none, .q (.bin .lss (.t 22) (.t 21))⟩])
     (.seq (.cond (.t 23)
       .skip
       (.exit 0))
     (.seq (.block 1 (.seq (.reg [⟨(some 24), none, .q (.ixs 1 (.t 20) (.t 22))⟩,
          ⟨(some 25), none, .q (.ld false 1 (.t 24))⟩,
          ⟨(some 9), none, .q (.mv (.t 25))⟩])
       (.seq (.reg [⟨(some 26), none, .m (.bsl 1 [])⟩,
          ⟨(some 10), none, .q (.mv (.t 26))⟩])
       (.seq (.seq (.reg [⟨(some 27), none, .q (.mv (.c (.int .u8 0)))⟩])
        (.block 2 (.loop [7, 9, 10, 20, 21, 22, 27] (.seq (.reg [⟨(some 28), none, .q (.bin .lss (.t 27) (.c (.int .u8 4)))⟩])
          (.seq (.cond (.t 28)
            .skip
            (.exit 2))
          (.seq (.block 3 (.seq (.reg [⟨(some 29), none, .q (.mv (.t 27))⟩,
               ⟨(some 11), none, .q (.mv (.t 29))⟩])
            (.seq (.reg [⟨(some 30), none, .q (.mv (.t 9))⟩,
               ⟨(some 31), none, .q (.mv (.t 11))⟩,
               ⟨(some 32), none, .q (.bin .shr (.t 30) (.t 31))⟩,
               ⟨(some 33), none, .q (.bin .and (.t 32) (.c (.int .i64 1)))⟩,
               ⟨(some 34), none, .q (.bin .eql (.t 33) (.c (.int .i64 1)))⟩])
            (.cond (.t 34)
             (.reg [⟨(some 35), none, .q (.mv (.t 10))⟩,
               ⟨(some 36), none, .q (.mv (.t 11))⟩,
               ⟨(some 37), none, .q (.bin .add (.c (.int .u8 48)) (.t 36))⟩,
               ⟨(some 38), none, .m (.bsl 1 [(.t 37)])⟩,
               ⟨(some 39), none, .m (.app 1 1 (.t 35) (.t 38))⟩,
               ⟨(some 10), none, .q (.mv (.t 39))⟩])
             .skip))))
          (.reg [⟨(some 40), none, .q (.bin .add (.t 27) (.c (.int .u8 1)))⟩,
            ⟨(some 27), none, .q (.mv (.t 40))⟩])))))))
       (.reg [⟨(some 41), none, .q (.mv (.t 7))⟩,
         ⟨(some 42), none, .q (.mv (.t 10))⟩,
         ⟨(some 43), none, .q (.b2s (.t 42))⟩,
         ⟨(some 44), none, .m (.bsl 1 [(.t 43)])⟩,
         ⟨(some 45), none, .m (.app 1 16 (.t 41) (.t 44))⟩,
         ⟨(some 7), none, .q (.mv (.t 45))⟩])))))
     (.reg [⟨(some 46), none, .q (.bin .add (.t 22) (.c (.int .i64 1)))⟩,
       ⟨(some 22), none, .q (.mv (.t 46))⟩])))))))
  (.seq (.reg [⟨(some 47), none, .q (.mv (.t 7))⟩,
     ⟨(some 48), none, .c (.call 16 [(.t 47), (.c (.string ⟨#[46]⟩))])⟩,
     ⟨(some 4), none, .q (.mv (.t 48))⟩,
     ⟨(some 5), none, .q (.mv (.c (.int .i64 0)))⟩])
  .ret)))))⟩
theorem l_impl_SlipText : lowF PA f_impl_SlipText 2 [.k [7, 20, 21, 22], .k [7, 9, 10, 20, 21, 22, 27]] = some c_impl_SlipText := by kernel_rfl
abbrev f_laws_eqSpace : FuncId := 9
def c_laws_eqSpace : AF := ⟨2, 11, [.t 4],
  (.seq (.reg [⟨(some 2), none, .m (.box (.t 0))⟩,
     ⟨(some 3), none, .m (.box (.t 1))⟩,
     ⟨(some 4), none, .q (.mv (.c (.bool false)))⟩])
  (.seq (.seq (.reg [⟨(some 5), none, .q (.fad 0 (.t 2))⟩,
      ⟨(some 6), none, .q (.ld false 1 (.t 5))⟩,
      ⟨(some 7), none, .q (.fad 0 (.t 3))⟩,
      ⟨(some 8), none, .q (.ld false 1 (.t 7))⟩,
      ⟨(some 9), none, .c (.call 17 [(.t 6), (.t 8)])⟩,
      ⟨(some 10), none, .q (.un .not (.t 9))⟩])
   (.cond (.t 10)
    (.seq (.reg [⟨(some 4), none, .q (.mv (.c (.bool false)))⟩])
    .ret)
    .skip))
  (.seq (.reg [⟨(some 4), none, .q (.mv (.c (.bool true)))⟩])
  .ret)))⟩
theorem l_laws_eqSpace : lowF PA f_laws_eqSpace 2 [] = some c_laws_eqSpace := by kernel_rfl
abbrev f_laws_eqSlip : FuncId := 10
def c_laws_eqSlip : AF := ⟨2, 26, [.t 4],
  (.seq (.reg [⟨(some 4), none, .q (.mv (.c (.bool false)))⟩])
  (.seq (.seq (.reg [⟨(some 6), none, .q (.mv (.t 0))⟩,
      ⟨(some 7), none, .q (.len (.t 6))⟩,
      ⟨(some 8), none, .q (.mv (.t 1))⟩,
      ⟨(some 9), none, .q (.len (.t 8))⟩,
      ⟨(some 10), none, .q (.bin .neq (.t 7) (.t 9))⟩])
   (.cond (.t 10)
    (.seq (.reg [⟨(some 4), none, .q (.mv (.c (.bool false)))⟩])
    .ret)
    .skip))
  (.seq (.seq (.reg [⟨(some 5), none, .q (.mv (.c (.int .i64 0)))⟩])
   (.block 0 (.loop [0, 1, 5] (.seq (.seq (.reg [⟨(some 11), none, .q (.mv (.t 5))⟩,
         ⟨(some 12), none, .q (.mv (.t 0))⟩,
         ⟨(some 13), none, .q (.len (.t 12))⟩,
         ⟨(some 14), none, .q (.bin .lss (.t 11) (.t 13))⟩])
      (.cond (.t 14)
       .skip
       (.exit 0)))
     (.seq (.block 1 (.seq (.sch (.take 0 ⟨(some 17), none, .q (.mv (.t 0))⟩ (.take 1 ⟨(some 18), none, .q (.mv (.t 5))⟩ (.take 2 ⟨(some 19), none, .q (.ixs 1 (.t 17) (.t 18))⟩ (.take 3 ⟨(some 20), none, .q (.ld false 1 (.t 19))⟩ (.take 4 ⟨(some 21), none, .q (.mv (.t 1))⟩ (.take 5 ⟨(some 22), none, .q (.mv (.t 5))⟩ (.take 6 ⟨(some 23), none, .q (.ixs 1 (.t 21) (.t 22))⟩ (.take 7 ⟨(some 24), none, .q (.ld false 1 (.t 23))⟩ (.take 8 ⟨(some 25), none, .q (.bin .neq (.t 20) (.t 24))⟩ .done))))))))))
       (.cond (.t 25)
        (.seq (.reg [⟨(some 4), none, .q (.mv (.c (.bool false)))⟩])
        .ret)
        .skip)))
     (.reg [⟨(some 15), none, .q (.mv (.t 5))⟩,
       ⟨(some 16), none, .q (.bin .add (.t 15) (.c (.int .i64 1)))⟩,
       ⟨(some 5), none, .q (.mv (.t 16))⟩]))))))
  (.seq (.reg [⟨(some 4), none, .q (.mv (.c (.bool true)))⟩])
  .ret))))⟩
theorem l_laws_eqSlip : lowF PA f_laws_eqSlip 2 [.k [0, 1, 5], .s (.take 0 (.take 1 (.take 2 (.take 3 (.take 4 (.take 5 (.take 6 (.take 7 (.take 8 .done)))))))))] = some c_laws_eqSlip := by kernel_rfl
abbrev f_laws_szInt64S : FuncId := 11
def c_laws_szInt64S : AF := ⟨2, 12, [.t 4],
  (.seq (.reg [⟨(some 4), none, .q (.mv (.c (.int .i64 0)))⟩])
  (.seq (.reg [⟨(some 5), none, .q (.mv (.t 1))⟩,
     ⟨(some 6), none, .q (.mv (.t 0))⟩,
     ⟨(some 7), none, .q (.len (.t 6))⟩,
     ⟨(some 8), none, .q (.bin .sub (.t 5) (.t 7))⟩,
     ⟨(some 1), none, .q (.mv (.t 8))⟩])
  (.seq (.seq (.reg [⟨(some 9), none, .q (.mv (.t 1))⟩,
      ⟨(some 10), none, .q (.bin .lss (.t 9) (.c (.int .i64 0)))⟩])
   (.cond (.t 10)
    (.seq (.reg [⟨(some 4), none, .q (.mv (.c (.int .i64 (-1))))⟩])
    .ret)
    .skip))
  (.seq (.reg [⟨(some 11), none, .q (.mv (.t 1))⟩,
     ⟨(some 4), none, .q (.mv (.t 11))⟩])
  .ret))))⟩
theorem l_laws_szInt64S : lowF PA f_laws_szInt64S 2 [] = some c_laws_szInt64S := by kernel_rfl
abbrev f_spec_l07Code : FuncId := 12
def c_spec_l07Code : AF := ⟨2, 22, [.t 4],
  (.seq (.reg [⟨(some 2), none, .m (.box (.t 0))⟩,
     ⟨(some 4), none, .q (.mv (.c (.int .i64 0)))⟩])
  (.seq (.seq (.reg [⟨(some 6), none, .q (.ld true 1 (.t 2))⟩,
      ⟨(some 7), none, .c (.call 18 [(.t 6)])⟩,
      ⟨(some 8), none, .q (.un .not (.t 7))⟩])
   (.cond (.t 8)
    (.seq (.reg [⟨(some 4), none, .q (.mv (.c (.int .i64 1)))⟩])
    .ret)
    .skip))
  (.seq (.seq (.reg [⟨(some 9), none, .q (.mv (.t 1))⟩,
      ⟨(some 10), none, .q (.len (.t 9))⟩,
      ⟨(some 11), none, .q (.mv (.c (.int .i64 0)))⟩])
   (.block 0 (.loop [1, 2, 10, 11] (.seq (.reg [⟨(some 12), none, .q (.bin .lss (.t 11) (.t 10))⟩])
     (.seq (.cond (.t 12)
       .skip
       (.exit 0))
     (.seq (.block 1 (.seq (.reg [⟨(some 13), none, .q (.mv (.t 11))⟩,
          ⟨(some 5), none, .q (.mv (.t 13))⟩])
       (.seq (.sch (.take 0 ⟨(some 14), none, .q (.ld true 1 (.t 2))⟩ (.take 1 ⟨(some 15), none, .q (.mv (.t 1))⟩ (.take 2 ⟨(some 16), none, .q (.mv (.t 5))⟩ (.take 3 ⟨(some 17), none, .q (.ixs 1 (.t 15) (.t 16))⟩ (.take 4 ⟨(some 18), none, .q (.ld false 1 (.t 17))⟩ (.one ⟨(some 19), none, .c (.call 19 [(.t 14), (.t 18)])⟩ [4, 0] (.take 6 ⟨(some 20), none, .q (.un .not (.t 19))⟩ .done))))))))
       (.cond (.t 20)
        (.seq (.reg [⟨(some 4), none, .q (.mv (.c (.int .i64 2)))⟩])
        .ret)
        .skip))))
     (.reg [⟨(some 21), none, .q (.bin .add (.t 11) (.c (.int .i64 1)))⟩,
       ⟨(some 11), none, .q (.mv (.t 21))⟩])))))))
  (.seq (.reg [⟨(some 4), none, .q (.mv (.c (.int .i64 0)))⟩])
  .ret))))⟩
theorem l_spec_l07Code : lowF PA f_spec_l07Code 2 [.k [1, 2, 10, 11], .s (.take 0 (.take 1 (.take 2 (.take 3 (.take 4 (.one 5 (.take 6 .done)))))))] = some c_spec_l07Code := by kernel_rfl
abbrev f_spec_l07Text : FuncId := 13
def c_spec_l07Text : AF := ⟨1, 36, [.t 2],
  (.seq (.reg [⟨(some 2), none, .q (.mv (.c (.string ⟨#[]⟩)))⟩])
  (.seq (.reg [⟨(some 3), none, .q (.mv (.c (.string ⟨#[]⟩)))⟩])
  (.seq (.seq (.reg [⟨(some 7), none, .q (.mv (.t 0))⟩,
      ⟨(some 8), none, .q (.len (.t 7))⟩,
      ⟨(some 9), none, .q (.mv (.c (.int .i64 0)))⟩])
   (.block 0 (.loop [0, 3, 8, 9] (.seq (.reg [⟨(some 10), none, .q (.bin .lss (.t 9) (.t 8))⟩])
     (.seq (.cond (.t 10)
       .skip
       (.exit 0))
     (.seq (.block 1 (.seq (.reg [⟨(some 11), none, .q (.mv (.t 9))⟩,
          ⟨(some 4), none, .q (.mv (.t 11))⟩])
       (.seq (.seq (.reg [⟨(some 12), none, .q (.mv (.t 4))⟩,
           ⟨(some 13), none, .q (.bin .gtr (.t 12) (.c (.int .i64 0)))⟩])
        (.cond (.t 13)
         (.reg [⟨(some 14), none, .q (.mv (.t 3))⟩,
           ⟨(some 15), none, .q (.eqs .add (.t 14) (.c (.string ⟨#[46]⟩)))⟩,
           ⟨(some 3), none, .q (.mv (.t 15))⟩])
         .skip))
       (.seq (.reg [⟨(some 16), none, .q (.mv (.t 0))⟩,
          ⟨(some 17), none, .q (.mv (.t 4))⟩,
          ⟨(some 18), none, .q (.ixs 1 (.t 16) (.t 17))⟩,
          ⟨(some 19), none, .q (.ld false 1 (.t 18))⟩,
          ⟨(some 20), none, .c (.call 20 [(.t 19)])⟩,
          ⟨(some 5), none, .q (.mv (.t 20))⟩])
       (.seq (.reg [⟨(some 21), none, .q (.mv (.t 5))⟩,
          ⟨(some 22), none, .q (.len (.t 21))⟩,
          ⟨(some 23), none, .q (.mv (.c (.int .i64 0)))⟩])
       (.block 2 (.loop [0, 3, 5, 8, 9, 22, 23] (.seq (.reg [⟨(some 24), none, .q (.bin .lss (.t 23) (.t 22))⟩])
         (.seq (.cond (.t 24)
           .skip
           (.exit 2))
         (.seq (.block 3 (.seq (.reg [⟨(some 25), none, .q (.mv (.t 23))⟩,
              ⟨(some 6), none, .q (.mv (.t 25))⟩])
           (.reg [⟨(some 26), none, .q (.mv (.t 3))⟩,
             ⟨(some 27), none, .q (.mv (.t 5))⟩,
             ⟨(some 28), none, .q (.mv (.t 6))⟩,
             ⟨(some 29), none, .q (.ixs 1 (.t 27) (.t 28))⟩,
             ⟨(some 30), none, .q (.ld false 1 (.t 29))⟩,
             ⟨(some 31), none, .c (.call 21 [(.t 30)])⟩,
             ⟨(some 32), none, .q (.eqs .add (.t 26) (.t 31))⟩,
             ⟨(some 3), none, .q (.mv (.t 32))⟩])))
         (.reg [⟨(some 33), none, .q (.bin .add (.t 23) (.c (.int .i64 1)))⟩,
           ⟨(some 23), none, .q (.mv (.t 33))⟩])))))))))))
     (.reg [⟨(some 34), none, .q (.bin .add (.t 9) (.c (.int .i64 1)))⟩,
       ⟨(some 9), none, .q (.mv (.t 34))⟩])))))))
  (.seq (.reg [⟨(some 35), none, .q (.mv (.t 3))⟩,
     ⟨(some 2), none, .q (.mv (.t 35))⟩])
  .ret))))⟩
theorem l_spec_l07Text : lowF PA f_spec_l07Text 1 [.k [0, 3, 8, 9], .k [0, 3, 5, 8, 9, 22, 23]] = some c_spec_l07Text := by kernel_rfl
abbrev f_laws_toInt64S : FuncId := 14
def c_laws_toInt64S : AF := ⟨1, 22, [.t 2],
  (.seq (.reg [⟨(some 2), none, .q (.mv (.c (.slice none 0 0)))⟩])
  (.seq (.reg [⟨(some 5), none, .q (.mv (.t 0))⟩,
     ⟨(some 6), none, .q (.len (.t 5))⟩,
     ⟨(some 7), none, .m (.mks 1 (.v (.int .i64 0)) 8 (.t 6) (.t 6))⟩,
     ⟨(some 3), none, .q (.mv (.t 7))⟩])
  (.seq (.seq (.reg [⟨(some 4), none, .q (.mv (.c (.int .i64 0)))⟩])
   (.block 0 (.loop [0, 3, 4] (.seq (.seq (.reg [⟨(some 8), none, .q (.mv (.t 4))⟩,
         ⟨(some 9), none, .q (.mv (.t 0))⟩,
         ⟨(some 10), none, .q (.len (.t 9))⟩,
         ⟨(some 11), none, .q (.bin .lss (.t 8) (.t 10))⟩])
      (.cond (.t 11)
       .skip
       (.exit 0)))
     (.seq (.block 1 (.reg [⟨(some 14), none, .q (.mv (.t 3))⟩,
         ⟨(some 15), none, .q (.mv (.t 4))⟩,
         ⟨(some 16), none, .q (.mv (.t 0))⟩,
         ⟨(some 17), none, .q (.mv (.t 4))⟩,
         ⟨(some 18), none, .q (.ixs 1 (.t 16) (.t 17))⟩,
         ⟨(some 19), none, .q (.ld false 1 (.t 18))⟩,
         ⟨(some 20), none, .q (.ixs 1 (.t 14) (.t 15))⟩,
         ⟨none, none, .m (.st false 1 (.t 20) (.t 19))⟩]))
     (.reg [⟨(some 12), none, .q (.mv (.t 4))⟩,
       ⟨(some 13), none, .q (.bin .add (.t 12) (.c (.int .i64 1)))⟩,
       ⟨(some 4), none, .q (.mv (.t 13))⟩]))))))
  (.seq (.reg [⟨(some 21), none, .q (.mv (.t 3))⟩,
     ⟨(some 2), none, .q (.mv (.t 21))⟩])
  .ret))))⟩
theorem l_laws_toInt64S : lowF PA f_laws_toInt64S 1 [.k [0, 3, 4]] = some c_laws_toInt64S := by kernel_rfl
abbrev f_impl_slipCode : FuncId := 15
def c_impl_slipCode : AF := ⟨2, 21, [.t 4],
  (.seq (.reg [⟨(some 2), none, .m (.box (.t 0))⟩,
     ⟨(some 4), none, .q (.mv (.c (.int .i64 0)))⟩])
  (.seq (.seq (.reg [⟨(some 7), none, .q (.ld true 1 (.t 2))⟩,
      ⟨(some 8), none, .c (.call 22 [(.t 7)])⟩,
      ⟨(some 9), none, .q (.un .not (.t 8))⟩])
   (.cond (.t 9)
    (.seq (.reg [⟨(some 4), none, .q (.mv (.c (.int .i64 1)))⟩])
    .ret)
    .skip))
  (.seq (.seq (.reg [⟨(some 10), none, .q (.mv (.t 1))⟩,
      ⟨(some 11), none, .q (.len (.t 10))⟩,
      ⟨(some 12), none, .q (.mv (.c (.int .i64 0)))⟩])
   (.block 0 (.loop [2, 10, 11, 12] (.seq (.reg [⟨(some 13), none, .q (.bin .lss (.t 12) (.t 11))⟩])
     (.seq (.cond (.t 13)
       .skip
       (.exit 0))
     (.seq (.block 1 (.seq (.reg [⟨(some 14), none, .q (.ixs 1 (.t 10) (.t 12))⟩,
          ⟨(some 15), none, .q (.ld false 1 (.t 14))⟩,
          ⟨(some 6), none, .q (.mv (.t 15))⟩])
       (.seq (.reg [⟨(some 16), none, .q (.ld true 1 (.t 2))⟩,
          ⟨(some 17), none, .q (.mv (.t 6))⟩,
          ⟨(some 18), none, .c (.call 23 [(.t 16), (.t 17)])⟩,
          ⟨(some 19), none, .q (.un .not (.t 18))⟩])
       (.cond (.t 19)
        (.seq (.reg [⟨(some 4), none, .q (.mv (.c (.int .i64 2)))⟩])
        .ret)
        .skip))))
     (.reg [⟨(some 20), none, .q (.bin .add (.t 12) (.c (.int .i64 1)))⟩,
       ⟨(some 12), none, .q (.mv (.t 20))⟩])))))))
  (.seq (.reg [⟨(some 4), none, .q (.mv (.c (.int .i64 0)))⟩])
  .ret))))⟩
theorem l_impl_slipCode : lowF PA f_impl_slipCode 2 [.k [2, 10, 11, 12]] = some c_impl_slipCode := by kernel_rfl
abbrev f_strings_Join : FuncId := 16
def c_strings_Join : AF := ⟨2, 75, [.t 4],
  (.seq (.reg [⟨(some 4), none, .q (.mv (.c (.string ⟨#[]⟩)))⟩])
  (.seq (.seq (.reg [⟨(some 11), none, .q (.mv (.t 0))⟩,
      ⟨(some 12), none, .q (.len (.t 11))⟩])
   (.block 0 (.seq (.reg [⟨(some 14), none, .q (.bin .eql (.t 12) (.c (.int .i64 0)))⟩,
       ⟨(some 13), none, .q (.mv (.t 14))⟩])
    (.cond (.t 13)
     (.seq (.reg [⟨(some 4), none, .q (.mv (.c (.string ⟨#[]⟩)))⟩])
     .ret)
     (.seq (.reg [⟨(some 16), none, .q (.bin .eql (.t 12) (.c (.int .i64 1)))⟩,
        ⟨(some 15), none, .q (.mv (.t 16))⟩])
     (.cond (.t 15)
      (.seq (.reg [⟨(some 17), none, .q (.mv (.t 0))⟩,
         ⟨(some 18), none, .q (.ixs 1 (.t 17) (.c (.int .i64 0)))⟩,
         ⟨(some 19), none, .q (.ld false 1 (.t 18))⟩,
         ⟨(some 4), none, .q (.mv (.t 19))⟩])
      .ret)
      .skip))))))
  (.seq (.reg [⟨(some 5), none, .q (.mv (.c (.int .i64 0)))⟩])
  (.seq (.seq (.reg [⟨(some 20), none, .q (.mv (.t 1))⟩,
      ⟨(some 21), none, .q (.lns (.t 20))⟩,
      ⟨(some 22), none, .q (.bin .gtr (.t 21) (.c (.int .i64 0)))⟩])
   (.cond (.t 22)
    (.seq (.seq (.reg [⟨(some 23), none, .q (.mv (.t 1))⟩,
        ⟨(some 24), none, .q (.lns (.t 23))⟩,
        ⟨(some 25), none, .q (.mv (.t 0))⟩,
        ⟨(some 26), none, .q (.len (.t 25))⟩,
        ⟨(some 27), none, .q (.bin .sub (.t 26) (.c (.int .i64 1)))⟩,
        ⟨(some 28), none, .q (.bin .quo (.c (.int .i64 9223372036854775807)) (.t 27))⟩,
        ⟨(some 29), none, .q (.bin .geq (.t 24) (.t 28))⟩])
     (.cond (.t 29)
      .bad
      .skip))
    (.reg [⟨(some 31), none, .q (.mv (.t 5))⟩,
      ⟨(some 32), none, .q (.mv (.t 1))⟩,
      ⟨(some 33), none, .q (.lns (.t 32))⟩,
      ⟨(some 34), none, .q (.mv (.t 0))⟩,
      ⟨(some 35), none, .q (.len (.t 34))⟩,
      ⟨(some 36), none, .q (.bin .sub (.t 35) (.c (.int .i64 1)))⟩,
      ⟨(some 37), none, .q (.bin .mul (.t 33) (.t 36))⟩,
      ⟨(some 38), none, .q (.bin .add (.t 31) (.t 37))⟩,
      ⟨(some 5), none, .q (.mv (.t 38))⟩]))
    .skip))
  (.seq (.seq (.reg [⟨(some 39), none, .q (.mv (.t 0))⟩,
      ⟨(some 40), none, .q (.len (.t 39))⟩,
      ⟨(some 41), none, .q (.mv (.c (.int .i64 0)))⟩])
   (.block 1 (.loop [0, 1, 5, 39, 40, 41] (.seq (.reg [⟨(some 42), none, .q (.bin .lss (.t 41) (.t 40))⟩])
     (.seq (.cond (.t 42)
       .skip
       (.exit 1))
     (.seq (.block 2 (.seq (.reg [⟨(some 43), none, .q (.ixs 1 (.t 39) (.t 41))⟩,
          ⟨(some 44), none, .q (.ld false 1 (.t 43))⟩,
          ⟨(some 7), none, .q (.mv (.t 44))⟩])
       (.seq (.seq (.reg [⟨(some 45), none, .q (.mv (.t 7))⟩,
           ⟨(some 46), none, .q (.lns (.t 45))⟩,
           ⟨(some 47), none, .q (.mv (.t 5))⟩,
           ⟨(some 48), none, .q (.bin .sub (.c (.int .i64 9223372036854775807)) (.t 47))⟩,
           ⟨(some 49), none, .q (.bin .gtr (.t 46) (.t 48))⟩])
        (.cond (.t 49)
         .bad
         .skip))
       (.reg [⟨(some 51), none, .q (.mv (.t 5))⟩,
         ⟨(some 52), none, .q (.mv (.t 7))⟩,
         ⟨(some 53), none, .q (.lns (.t 52))⟩,
         ⟨(some 54), none, .q (.bin .add (.t 51) (.t 53))⟩,
         ⟨(some 5), none, .q (.mv (.t 54))⟩]))))
     (.reg [⟨(some 55), none, .q (.bin .add (.t 41) (.c (.int .i64 1)))⟩,
       ⟨(some 41), none, .q (.mv (.t 55))⟩])))))))
  (.seq (.reg [⟨(some 8), none, .m (.alloc [(.v (.pointer none)), (.v (.slice none 0 0))])⟩])
  (.seq (.reg [⟨(some 56), none, .q (.mv (.t 5))⟩,
     ⟨(some 57), none, .c (.call 24 [(.t 8), (.t 56)])⟩])
  (.seq (.reg [⟨(some 58), none, .q (.mv (.t 0))⟩,
     ⟨(some 59), none, .q (.ixs 1 (.t 58) (.c (.int .i64 0)))⟩,
     ⟨(some 60), none, .q (.ld false 1 (.t 59))⟩,
     ⟨(some 61), none, .c (.call 25 [(.t 8), (.t 60)])⟩])
  (.seq (.seq (.reg [⟨(some 62), none, .q (.mv (.t 0))⟩,
      ⟨(some 63), none, .q (.slc 1 (.t 62) (some (.c (.int .i64 1))) none)⟩,
      ⟨(some 64), none, .q (.len (.t 63))⟩,
      ⟨(some 65), none, .q (.mv (.c (.int .i64 0)))⟩])
   (.block 3 (.loop [1, 8, 63, 64, 65] (.seq (.reg [⟨(some 66), none, .q (.bin .lss (.t 65) (.t 64))⟩])
     (.seq (.cond (.t 66)
       .skip
       (.exit 3))
     (.seq (.block 4 (.seq (.reg [⟨(some 67), none, .q (.ixs 1 (.t 63) (.t 65))⟩,
          ⟨(some 68), none, .q (.ld false 1 (.t 67))⟩,
          ⟨(some 10), none, .q (.mv (.t 68))⟩])
       (.seq (.reg [⟨(some 69), none, .q (.mv (.t 1))⟩,
          ⟨(some 70), none, .c (.call 25 [(.t 8), (.t 69)])⟩])
       (.reg [⟨(some 71), none, .q (.mv (.t 10))⟩,
         ⟨(some 72), none, .c (.call 25 [(.t 8), (.t 71)])⟩]))))
     (.reg [⟨(some 73), none, .q (.bin .add (.t 65) (.c (.int .i64 1)))⟩,
       ⟨(some 65), none, .q (.mv (.t 73))⟩])))))))
  (.seq (.reg [⟨(some 74), none, .c (.call 26 [(.t 8)])⟩,
     ⟨(some 4), none, .q (.mv (.t 74))⟩])
  .ret))))))))))⟩
theorem l_strings_Join : lowF PA f_strings_Join 2 [.x 9, .k [0, 1, 5, 39, 40, 41], .x 15, .k [1, 8, 63, 64, 65]] = some c_strings_Join := by kernel_rfl
abbrev f_laws_eqInt64S : FuncId := 17
def c_laws_eqInt64S : AF := ⟨2, 26, [.t 4],
  (.seq (.reg [⟨(some 4), none, .q (.mv (.c (.bool false)))⟩])
  (.seq (.seq (.reg [⟨(some 6), none, .q (.mv (.t 0))⟩,
      ⟨(some 7), none, .q (.len (.t 6))⟩,
      ⟨(some 8), none, .q (.mv (.t 1))⟩,
      ⟨(some 9), none, .q (.len (.t 8))⟩,
      ⟨(some 10), none, .q (.bin .neq (.t 7) (.t 9))⟩])
   (.cond (.t 10)
    (.seq (.reg [⟨(some 4), none, .q (.mv (.c (.bool false)))⟩])
    .ret)
    .skip))
  (.seq (.seq (.reg [⟨(some 5), none, .q (.mv (.c (.int .i64 0)))⟩])
   (.block 0 (.loop [0, 1, 5] (.seq (.seq (.reg [⟨(some 11), none, .q (.mv (.t 5))⟩,
         ⟨(some 12), none, .q (.mv (.t 0))⟩,
         ⟨(some 13), none, .q (.len (.t 12))⟩,
         ⟨(some 14), none, .q (.bin .lss (.t 11) (.t 13))⟩])
      (.cond (.t 14)
       .skip
       (.exit 0)))
     (.seq (.block 1 (.seq (.sch (.take 0 ⟨(some 17), none, .q (.mv (.t 0))⟩ (.take 1 ⟨(some 18), none, .q (.mv (.t 5))⟩ (.take 2 ⟨(some 19), none, .q (.ixs 1 (.t 17) (.t 18))⟩ (.take 3 ⟨(some 20), none, .q (.ld false 1 (.t 19))⟩ (.take 4 ⟨(some 21), none, .q (.mv (.t 1))⟩ (.take 5 ⟨(some 22), none, .q (.mv (.t 5))⟩ (.take 6 ⟨(some 23), none, .q (.ixs 1 (.t 21) (.t 22))⟩ (.take 7 ⟨(some 24), none, .q (.ld false 1 (.t 23))⟩ (.take 8 ⟨(some 25), none, .q (.bin .neq (.t 20) (.t 24))⟩ .done))))))))))
       (.cond (.t 25)
        (.seq (.reg [⟨(some 4), none, .q (.mv (.c (.bool false)))⟩])
        .ret)
        .skip)))
     (.reg [⟨(some 15), none, .q (.mv (.t 5))⟩,
       ⟨(some 16), none, .q (.bin .add (.t 15) (.c (.int .i64 1)))⟩,
       ⟨(some 5), none, .q (.mv (.t 16))⟩]))))))
  (.seq (.reg [⟨(some 4), none, .q (.mv (.c (.bool true)))⟩])
  .ret))))⟩
theorem l_laws_eqInt64S : lowF PA f_laws_eqInt64S 2 [.k [0, 1, 5], .s (.take 0 (.take 1 (.take 2 (.take 3 (.take 4 (.take 5 (.take 6 (.take 7 (.take 8 .done)))))))))] = some c_laws_eqInt64S := by kernel_rfl
abbrev f_spec_l01Is : FuncId := 18
def c_spec_l01Is : AF := ⟨1, 26, [.t 2],
  (.seq (.reg [⟨(some 1), none, .m (.box (.t 0))⟩,
     ⟨(some 2), none, .q (.mv (.c (.bool false)))⟩])
  (.seq (.seq (.reg [⟨(some 4), none, .q (.fad 0 (.t 1))⟩,
      ⟨(some 5), none, .q (.ld false 1 (.t 4))⟩,
      ⟨(some 6), none, .q (.len (.t 5))⟩,
      ⟨(some 7), none, .c (.call 27 [(.t 6), (.c (.int .i64 1)), (.c (.int .i64 8))])⟩,
      ⟨(some 8), none, .q (.un .not (.t 7))⟩])
   (.cond (.t 8)
    (.seq (.reg [⟨(some 2), none, .q (.mv (.c (.bool false)))⟩])
    .ret)
    .skip))
  (.seq (.seq (.reg [⟨(some 3), none, .q (.mv (.c (.int .i64 0)))⟩])
   (.block 0 (.loop [1, 3] (.seq (.seq (.reg [⟨(some 9), none, .q (.mv (.t 3))⟩,
         ⟨(some 10), none, .q (.fad 0 (.t 1))⟩,
         ⟨(some 11), none, .q (.ld false 1 (.t 10))⟩,
         ⟨(some 12), none, .q (.len (.t 11))⟩,
         ⟨(some 13), none, .q (.bin .lss (.t 9) (.t 12))⟩])
      (.cond (.t 13)
       .skip
       (.exit 0)))
     (.seq (.block 1 (.seq (.reg [⟨(some 16), none, .q (.fad 0 (.t 1))⟩,
          ⟨(some 17), none, .q (.ld false 1 (.t 16))⟩,
          ⟨(some 18), none, .q (.mv (.t 3))⟩,
          ⟨(some 19), none, .q (.ixs 1 (.t 17) (.t 18))⟩,
          ⟨(some 20), none, .q (.ld false 1 (.t 19))⟩,
          ⟨(some 21), none, .c (.call 27 [(.t 20), (.c (.int .i64 2)), (.c (.int .i64 4))])⟩,
          ⟨(some 22), none, .q (.un .not (.t 21))⟩])
       (.cond (.t 22)
        (.seq (.reg [⟨(some 2), none, .q (.mv (.c (.bool false)))⟩])
        .ret)
        .skip)))
     (.reg [⟨(some 14), none, .q (.mv (.t 3))⟩,
       ⟨(some 15), none, .q (.bin .add (.t 14) (.c (.int .i64 1)))⟩,
       ⟨(some 3), none, .q (.mv (.t 15))⟩]))))))
  (.seq (.reg [⟨(some 23), none, .q (.ld true 1 (.t 1))⟩,
     ⟨(some 24), none, .c (.call 28 [(.t 23)])⟩,
     ⟨(some 25), none, .q (.bin .leq (.t 24) (.c (.int .i64 1024)))⟩,
     ⟨(some 2), none, .q (.mv (.t 25))⟩])
  .ret))))⟩
theorem l_spec_l01Is : lowF PA f_spec_l01Is 1 [.k [1, 3]] = some c_spec_l01Is := by kernel_rfl
abbrev f_spec_l07Is : FuncId := 19
def c_spec_l07Is : AF := ⟨2, 32, [.t 4],
  (.seq (.reg [⟨(some 2), none, .m (.box (.t 0))⟩,
     ⟨(some 4), none, .q (.mv (.c (.bool false)))⟩])
  (.seq (.seq (.reg [⟨(some 6), none, .q (.mv (.t 1))⟩,
      ⟨(some 7), none, .q (.len (.t 6))⟩,
      ⟨(some 8), none, .q (.fad 0 (.t 2))⟩,
      ⟨(some 9), none, .q (.ld false 1 (.t 8))⟩,
      ⟨(some 10), none, .q (.len (.t 9))⟩,
      ⟨(some 11), none, .q (.bin .neq (.t 7) (.t 10))⟩])
   (.cond (.t 11)
    (.seq (.reg [⟨(some 4), none, .q (.mv (.c (.bool false)))⟩])
    .ret)
    .skip))
  (.seq (.seq (.reg [⟨(some 12), none, .q (.mv (.t 1))⟩,
      ⟨(some 13), none, .q (.len (.t 12))⟩,
      ⟨(some 14), none, .q (.mv (.c (.int .i64 0)))⟩])
   (.block 0 (.loop [1, 2, 13, 14] (.seq (.reg [⟨(some 15), none, .q (.bin .lss (.t 14) (.t 13))⟩])
     (.seq (.cond (.t 15)
       .skip
       (.exit 0))
     (.seq (.block 1 (.seq (.reg [⟨(some 16), none, .q (.mv (.t 14))⟩,
          ⟨(some 5), none, .q (.mv (.t 16))⟩])
       (.seq (.sch (.take 0 ⟨(some 17), none, .q (.mv (.t 1))⟩ (.take 1 ⟨(some 18), none, .q (.mv (.t 5))⟩ (.take 2 ⟨(some 19), none, .q (.ixs 1 (.t 17) (.t 18))⟩ (.take 3 ⟨(some 20), none, .q (.ld false 1 (.t 19))⟩ (.take 4 ⟨(some 21), none, .q (.fad 0 (.t 2))⟩ (.take 5 ⟨(some 22), none, .q (.ld false 1 (.t 21))⟩ (.take 6 ⟨(some 23), none, .q (.mv (.t 5))⟩ (.take 7 ⟨(some 24), none, .q (.ixs 1 (.t 22) (.t 23))⟩ (.take 8 ⟨(some 25), none, .q (.ld false 1 (.t 24))⟩ (.take 9 ⟨(some 26), none, .q (.cvt .u64 (.t 25))⟩ (.take 10 ⟨(some 27), none, .q (.bin .shl (.c (.int .i64 1)) (.t 26))⟩ (.take 11 ⟨(some 28), none, .q (.bin .sub (.t 27) (.c (.int .i64 1)))⟩ (.one ⟨(some 29), none, .c (.call 27 [(.t 20), (.c (.int .i64 1)), (.t 28)])⟩ [3] (.take 13 ⟨(some 30), none, .q (.un .not (.t 29))⟩ .done)))))))))))))))
       (.cond (.t 30)
        (.seq (.reg [⟨(some 4), none, .q (.mv (.c (.bool false)))⟩])
        .ret)
        .skip))))
     (.reg [⟨(some 31), none, .q (.bin .add (.t 14) (.c (.int .i64 1)))⟩,
       ⟨(some 14), none, .q (.mv (.t 31))⟩])))))))
  (.seq (.reg [⟨(some 4), none, .q (.mv (.c (.bool true)))⟩])
  .ret))))⟩
theorem l_spec_l07Is : lowF PA f_spec_l07Is 2 [.k [1, 2, 13, 14], .s (.take 0 (.take 1 (.take 2 (.take 3 (.take 4 (.take 5 (.take 6 (.take 7 (.take 8 (.take 9 (.take 10 (.take 11 (.one 12 (.take 13 .done))))))))))))))] = some c_spec_l07Is := by kernel_rfl
abbrev f_spec_l07Signs : FuncId := 20
def c_spec_l07Signs : AF := ⟨1, 21, [.t 2],
  (.seq (.reg [⟨(some 2), none, .q (.mv (.c (.slice none 0 0)))⟩])
  (.seq (.reg [⟨(some 5), none, .m (.bsl 1 [])⟩,
     ⟨(some 3), none, .q (.mv (.t 5))⟩])
  (.seq (.seq (.reg [⟨(some 4), none, .q (.mv (.c (.int .i64 0)))⟩])
   (.block 0 (.loop [0, 3, 4] (.seq (.seq (.reg [⟨(some 6), none, .q (.mv (.t 4))⟩,
         ⟨(some 7), none, .q (.bin .lss (.t 6) (.c (.int .i64 4)))⟩])
      (.cond (.t 7)
       .skip
       (.exit 0)))
     (.seq (.block 1 (.seq (.reg [⟨(some 10), none, .q (.mv (.t 0))⟩,
          ⟨(some 11), none, .q (.mv (.t 4))⟩,
          ⟨(some 12), none, .q (.cvt .u64 (.t 11))⟩,
          ⟨(some 13), none, .q (.bin .shr (.t 10) (.t 12))⟩,
          ⟨(some 14), none, .q (.bin .and (.t 13) (.c (.int .i64 1)))⟩,
          ⟨(some 15), none, .q (.bin .eql (.t 14) (.c (.int .i64 1)))⟩])
       (.cond (.t 15)
        (.reg [⟨(some 16), none, .q (.mv (.t 3))⟩,
          ⟨(some 17), none, .q (.mv (.t 4))⟩,
          ⟨(some 18), none, .m (.bsl 1 [(.t 17)])⟩,
          ⟨(some 19), none, .m (.app 1 8 (.t 16) (.t 18))⟩,
          ⟨(some 3), none, .q (.mv (.t 19))⟩])
        .skip)))
     (.reg [⟨(some 8), none, .q (.mv (.t 4))⟩,
       ⟨(some 9), none, .q (.bin .add (.t 8) (.c (.int .i64 1)))⟩,
       ⟨(some 4), none, .q (.mv (.t 9))⟩]))))))
  (.seq (.reg [⟨(some 20), none, .q (.mv (.t 3))⟩,
     ⟨(some 2), none, .q (.mv (.t 20))⟩])
  .ret))))⟩
theorem l_spec_l07Signs : lowF PA f_spec_l07Signs 1 [.k [0, 3, 4]] = some c_spec_l07Signs := by kernel_rfl
abbrev f_spec_l01Dec : FuncId := 21
def c_spec_l01Dec : AF := ⟨1, 26, [.t 2],
  (.seq (.reg [⟨(some 2), none, .q (.mv (.c (.string ⟨#[]⟩)))⟩])
  (.seq (.seq (.reg [⟨(some 3), none, .q (.mv (.t 0))⟩,
      ⟨(some 4), none, .q (.bin .lss (.t 3) (.c (.int .i64 0)))⟩])
   (.cond (.t 4)
    (.seq (.reg [⟨(some 5), none, .q (.mv (.t 0))⟩,
       ⟨(some 6), none, .q (.un .neg (.t 5))⟩,
       ⟨(some 7), none, .c (.call 21 [(.t 6)])⟩,
       ⟨(some 8), none, .q (.eqs .add (.c (.string ⟨#[45]⟩)) (.t 7))⟩,
       ⟨(some 2), none, .q (.mv (.t 8))⟩])
    .ret)
    .skip))
  (.seq (.seq (.reg [⟨(some 9), none, .q (.mv (.t 0))⟩,
      ⟨(some 10), none, .q (.bin .lss (.t 9) (.c (.int .i64 10)))⟩])
   (.cond (.t 10)
    (.seq (.reg [⟨(some 11), none, .q (.mv (.t 0))⟩,
       ⟨(some 12), none, .q (.bin .add (.c (.int .i64 48)) (.t 11))⟩,
       ⟨(some 13), none, .q (.cvt .u8 (.t 12))⟩,
       ⟨(some 14), none, .m (.bsl 1 [(.t 13)])⟩,
       ⟨(some 15), none, .q (.b2s (.t 14))⟩,
       ⟨(some 2), none, .q (.mv (.t 15))⟩])
    .ret)
    .skip))
  (.seq (.sch (.take 0 ⟨(some 16), none, .q (.mv (.t 0))⟩ (.take 1 ⟨(some 17), none, .q (.bin .quo (.t 16) (.c (.int .i64 10)))⟩ (.take 3 ⟨(some 19), none, .q (.mv (.t 0))⟩ (.take 4 ⟨(some 20), none, .q (.bin .rem (.t 19) (.c (.int .i64 10)))⟩ (.take 5 ⟨(some 21), none, .q (.bin .add (.c (.int .i64 48)) (.t 20))⟩ (.take 6 ⟨(some 22), none, .q (.cvt .u8 (.t 21))⟩ (.two ⟨(some 18), none, .c (.call 21 [(.t 17)])⟩ [] (.one ⟨(some 23), none, .m (.bsl 1 [(.t 22)])⟩ [] (.take 8 ⟨(some 24), none, .q (.b2s (.t 23))⟩ (.take 9 ⟨(some 25), none, .q (.eqs .add (.t 18) (.t 24))⟩ (.take 10 ⟨(some 2), none, .q (.mv (.t 25))⟩ .done)))) ⟨(some 23), none, .m (.bsl 1 [(.t 22)])⟩ [] (.take 8 ⟨(some 24), none, .q (.b2s (.t 23))⟩ (.one ⟨(some 18), none, .c (.call 21 [(.t 17)])⟩ [] (.take 9 ⟨(some 25), none, .q (.eqs .add (.t 18) (.t 24))⟩ (.take 10 ⟨(some 2), none, .q (.mv (.t 25))⟩ .done))))))))))))
  .ret))))⟩
theorem l_spec_l01Dec : lowF PA f_spec_l01Dec 1 [.s (.take 0 (.take 1 (.take 3 (.take 4 (.take 5 (.take 6 (.two 2 (.one 7 (.take 8 (.take 9 (.take 10 .done)))) 7 (.take 8 (.one 2 (.take 9 (.take 10 .done)))))))))))] = some c_spec_l01Dec := by kernel_rfl
abbrev f_impl_IsSpace : FuncId := 22
def c_impl_IsSpace : AF := ⟨1, 35, [.t 2],
  (.seq (.reg [⟨(some 1), none, .m (.box (.t 0))⟩,
     ⟨(some 2), none, .q (.mv (.c (.bool false)))⟩])
  (.seq (.seq (.reg [⟨(some 6), none, .q (.fad 0 (.t 1))⟩,
      ⟨(some 7), none, .q (.ld false 1 (.t 6))⟩,
      ⟨(some 8), none, .q (.len (.t 7))⟩,
      ⟨(some 9), none, .q (.bin .lss (.t 8) (.c (.int .i64 1)))⟩,
      ⟨(some 10), none, .q (.mv (.t 9))⟩,
      ⟨(some 11), (some (10, false)), .q (.fad 0 (.t 1))⟩,
      ⟨(some 12), (some (10, false)), .q (.ld false 1 (.t 11))⟩,
      ⟨(some 13), (some (10, false)), .q (.len (.t 12))⟩,
      ⟨(some 14), (some (10, false)), .q (.bin .gtr (.t 13) (.c (.int .i64 8)))⟩,
      ⟨(some 15), none, .q (.pick (.t 10) (.c (.bool true)) (.t 14))⟩])
   (.cond (.t 15)
    (.seq (.reg [⟨(some 2), none, .q (.mv (.c (.bool false)))⟩])
    .ret)
    .skip))
  (.seq (.reg [⟨(some 3), none, .q (.mv (.c (.int .i64 1)))⟩])
  (.seq (.seq (.reg [⟨(some 16), none, .q (.fad 0 (.t 1))⟩,
      ⟨(some 17), none, .q (.ld false 1 (.t 16))⟩,
      ⟨(some 18), none, .q (.len (.t 17))⟩,
      ⟨(some 19), none, .q (.mv (.c (.int .i64 0)))⟩])
   (.block 0 (.loop [3, 17, 18, 19] (.seq (.reg [⟨(some 20), none, .q (.bin .lss (.t 19) (.t 18))⟩])
     (.seq (.cond (.t 20)
       .skip
       (.exit 0))
     (.seq (.block 1 (.seq (.reg [⟨(some 21), none, .q (.ixs 1 (.t 17) (.t 19))⟩,
          ⟨(some 22), none, .q (.ld false 1 (.t 21))⟩,
          ⟨(some 5), none, .q (.mv (.t 22))⟩])
       (.seq (.seq (.reg [⟨(some 23), none, .q (.mv (.t 5))⟩,
           ⟨(some 24), none, .q (.bin .lss (.t 23) (.c (.int .i64 2)))⟩,
           ⟨(some 25), none, .q (.mv (.t 24))⟩,
           ⟨(some 26), (some (25, false)), .q (.mv (.t 5))⟩,
           ⟨(some 27), (some (25, false)), .q (.bin .gtr (.t 26) (.c (.int .i64 4)))⟩,
           ⟨(some 28), none, .q (.pick (.t 25) (.c (.bool true)) (.t 27))⟩])
        (.cond (.t 28)
         (.seq (.reg [⟨(some 2), none, .q (.mv (.c (.bool false)))⟩])
         .ret)
         .skip))
       (.reg [⟨(some 29), none, .q (.mv (.t 3))⟩,
         ⟨(some 30), none, .q (.mv (.t 5))⟩,
         ⟨(some 31), none, .q (.bin .mul (.t 29) (.t 30))⟩,
         ⟨(some 3), none, .q (.mv (.t 31))⟩]))))
     (.reg [⟨(some 32), none, .q (.bin .add (.t 19) (.c (.int .i64 1)))⟩,
       ⟨(some 19), none, .q (.mv (.t 32))⟩])))))))
  (.seq (.reg [⟨(some 33), none, .q (.mv (.t 3))⟩,
     ⟨(some 34), none, .q (.bin .leq (.t 33) (.c (.int .i64 1024)))⟩,
     ⟨(some 2), none, .q (.mv (.t 34))⟩])
  .ret)))))⟩
theorem l_impl_IsSpace : lowF PA f_impl_IsSpace 1 [.k [3, 17, 18, 19]] = some c_impl_IsSpace := by kernel_rfl
abbrev f_impl_isSlip : FuncId := 23
def c_impl_isSlip : AF := ⟨2, 33, [.t 4],
  (.seq (.reg [⟨(some 2), none, .m (.box (.t 0))⟩,
     ⟨(some 4), none, .q (.mv (.c (.bool false)))⟩])
  (.seq (.seq (.reg [⟨(some 7), none, .q (.mv (.t 1))⟩,
      ⟨(some 8), none, .q (.len (.t 7))⟩,
      ⟨(some 9), none, .q (.fad 0 (.t 2))⟩,
      ⟨(some 10), none, .q (.ld false 1 (.t 9))⟩,
      ⟨(some 11), none, .q (.len (.t 10))⟩,
      ⟨(some 12), none, .q (.bin .neq (.t 8) (.t 11))⟩])
   (.cond (.t 12)
    (.seq (.reg [⟨(some 4), none, .q (.mv (.c (.bool false)))⟩])
    .ret)
    .skip))
  (.seq (.seq (.reg [⟨(some 13), none, .q (.mv (.t 1))⟩,
      ⟨(some 14), none, .q (.len (.t 13))⟩,
      ⟨(some 15), none, .q (.mv (.c (.int .i64 0)))⟩])
   (.block 0 (.loop [2, 13, 14, 15] (.seq (.reg [⟨(some 16), none, .q (.bin .lss (.t 15) (.t 14))⟩])
     (.seq (.cond (.t 16)
       .skip
       (.exit 0))
     (.seq (.block 1 (.seq (.reg [⟨(some 17), none, .q (.mv (.t 15))⟩,
          ⟨(some 18), none, .q (.ixs 1 (.t 13) (.t 15))⟩,
          ⟨(some 19), none, .q (.ld false 1 (.t 18))⟩,
          ⟨(some 5), none, .q (.mv (.t 17))⟩,
          ⟨(some 6), none, .q (.mv (.t 19))⟩])
       (.seq (.reg [⟨(some 20), none, .q (.mv (.t 6))⟩,
          ⟨(some 21), none, .q (.bin .lss (.t 20) (.c (.int .i64 1)))⟩,
          ⟨(some 22), none, .q (.mv (.t 21))⟩,
          ⟨(some 23), (some (22, false)), .q (.mv (.t 6))⟩,
          ⟨(some 24), (some (22, false)), .q (.fad 0 (.t 2))⟩,
          ⟨(some 25), (some (22, false)), .q (.ld false 1 (.t 24))⟩,
          ⟨(some 26), (some (22, false)), .q (.mv (.t 5))⟩,
          ⟨(some 27), (some (22, false)), .q (.ixs 1 (.t 25) (.t 26))⟩,
          ⟨(some 28), (some (22, false)), .q (.ld false 1 (.t 27))⟩,
          ⟨(some 29), (some (22, false)), .q (.bin .shl (.c (.int .i64 1)) (.t 28))⟩,
          ⟨(some 30), (some (22, false)), .q (.bin .geq (.t 23) (.t 29))⟩,
          ⟨(some 31), none, .q (.pick (.t 22) (.c (.bool true)) (.t 30))⟩])
       (.cond (.t 31)
        (.seq (.reg [⟨(some 4), none, .q (.mv (.c (.bool false)))⟩])
        .ret)
        .skip))))
     (.reg [⟨(some 32), none, .q (.bin .add (.t 15) (.c (.int .i64 1)))⟩,
       ⟨(some 15), none, .q (.mv (.t 32))⟩])))))))
  (.seq (.reg [⟨(some 4), none, .q (.mv (.c (.bool true)))⟩])
  .ret))))⟩
theorem l_impl_isSlip : lowF PA f_impl_isSlip 2 [.k [2, 13, 14, 15]] = some c_impl_isSlip := by kernel_rfl
abbrev f___strings_Builder__Grow : FuncId := 24
def c___strings_Builder__Grow : AF := ⟨2, 25, [],
  (.seq (.reg [⟨(some 4), none, .q (.mv (.t 0))⟩,
     ⟨(some 5), none, .c (.call 29 [(.t 4)])⟩])
  (.seq (.seq (.reg [⟨(some 6), none, .q (.mv (.t 1))⟩,
      ⟨(some 7), none, .q (.bin .lss (.t 6) (.c (.int .i64 0)))⟩])
   (.cond (.t 7)
    .bad
    .skip))
  (.seq (.sch (.take 0 ⟨(some 9), none, .q (.mv (.t 0))⟩ (.take 1 ⟨(some 10), none, .q (.nlc (.t 9))⟩ (.take 2 ⟨(some 11), none, .q (.fad 1 (.t 10))⟩ (.take 3 ⟨(some 12), none, .q (.ld false 1 (.t 11))⟩ (.take 4 ⟨(some 13), none, .q (.cap (.t 12))⟩ (.take 5 ⟨(some 14), none, .q (.mv (.t 0))⟩ (.take 6 ⟨(some 15), none, .q (.nlc (.t 14))⟩ (.take 7 ⟨(some 16), none, .q (.fad 1 (.t 15))⟩ (.take 8 ⟨(some 17), none, .q (.ld false 1 (.t 16))⟩ (.take 9 ⟨(some 18), none, .q (.len (.t 17))⟩ (.take 10 ⟨(some 19), none, .q (.bin .sub (.t 13) (.t 18))⟩ (.take 11 ⟨(some 20), none, .q (.mv (.t 1))⟩ (.take 12 ⟨(some 21), none, .q (.bin .lss (.t 19) (.t 20))⟩ .done))))))))))))))
  (.cond (.t 21)
   (.reg [⟨(some 22), none, .q (.mv (.t 0))⟩,
     ⟨(some 23), none, .q (.mv (.t 1))⟩,
     ⟨(some 24), none, .c (.call 30 [(.t 22), (.t 23)])⟩])
   .skip))))⟩
theorem l___strings_Builder__Grow : lowF PA f___strings_Builder__Grow 2 [.x 2, .s (.take 0 (.take 1 (.take 2 (.take 3 (.take 4 (.take 5 (.take 6 (.take 7 (.take 8 (.take 9 (.take 10 (.take 11 (.take 12 .done)))))))))))))] = some c___strings_Builder__Grow := by kernel_rfl
abbrev f___strings_Builder__String : FuncId := 26
def c___strings_Builder__String : AF := ⟨1, 14, [.t 2],
  (.seq (.reg [⟨(some 2), none, .q (.mv (.c (.string ⟨#[]⟩)))⟩])
  (.seq .bad
  .ret))⟩
theorem l___strings_Builder__String : lowF PA f___strings_Builder__String 1 [.x 1] = some c___strings_Builder__String := by kernel_rfl
abbrev f_spec_l01In : FuncId := 27
def c_spec_l01In : AF := ⟨3, 15, [.t 6],
  (.seq (.reg [⟨(some 6), none, .q (.mv (.c (.bool false)))⟩])
  (.seq (.reg [⟨(some 7), none, .q (.mv (.t 0))⟩,
     ⟨(some 8), none, .q (.mv (.t 1))⟩,
     ⟨(some 9), none, .q (.bin .geq (.t 7) (.t 8))⟩,
     ⟨(some 10), none, .q (.mv (.t 9))⟩,
     ⟨(some 11), (some (10, true)), .q (.mv (.t 0))⟩,
     ⟨(some 12), (some (10, true)), .q (.mv (.t 2))⟩,
     ⟨(some 13), (some (10, true)), .q (.bin .leq (.t 11) (.t 12))⟩,
     ⟨(some 14), none, .q (.pick (.t 10) (.t 13) (.c (.bool false)))⟩,
     ⟨(some 6), none, .q (.mv (.t 14))⟩])
  .ret))⟩
theorem l_spec_l01In : lowF PA f_spec_l01In 3 [] = some c_spec_l01In := by kernel_rfl
abbrev f_spec_l01N : FuncId := 28
def c_spec_l01N : AF := ⟨1, 20, [.t 2],
  (.seq (.reg [⟨(some 1), none, .m (.box (.t 0))⟩,
     ⟨(some 2), none, .q (.mv (.c (.int .i64 0)))⟩])
  (.seq (.reg [⟨(some 3), none, .q (.mv (.c (.int .i64 1)))⟩])
  (.seq (.seq (.reg [⟨(some 4), none, .q (.mv (.c (.int .i64 0)))⟩])
   (.block 0 (.loop [1, 3, 4] (.seq (.seq (.reg [⟨(some 5), none, .q (.mv (.t 4))⟩,
         ⟨(some 6), none, .q (.fad 0 (.t 1))⟩,
         ⟨(some 7), none, .q (.ld false 1 (.t 6))⟩,
         ⟨(some 8), none, .q (.len (.t 7))⟩,
         ⟨(some 9), none, .q (.bin .lss (.t 5) (.t 8))⟩])
      (.cond (.t 9)
       .skip
       (.exit 0)))
     (.seq (.block 1 (.reg [⟨(some 12), none, .q (.mv (.t 3))⟩,
         ⟨(some 13), none, .q (.fad 0 (.t 1))⟩,
         ⟨(some 14), none, .q (.ld false 1 (.t 13))⟩,
         ⟨(some 15), none, .q (.mv (.t 4))⟩,
         ⟨(some 16), none, .q (.ixs 1 (.t 14) (.t 15))⟩,
         ⟨(some 17), none, .q (.ld false 1 (.t 16))⟩,
         ⟨(some 18), none, .q (.bin .mul (.t 12) (.t 17))⟩,
         ⟨(some 3), none, .q (.mv (.t 18))⟩]))
     (.reg [⟨(some 10), none, .q (.mv (.t 4))⟩,
       ⟨(some 11), none, .q (.bin .add (.t 10) (.c (.int .i64 1)))⟩,
       ⟨(some 4), none, .q (.mv (.t 11))⟩]))))))
  (.seq (.reg [⟨(some 19), none, .q (.mv (.t 3))⟩,
     ⟨(some 2), none, .q (.mv (.t 19))⟩])
  .ret))))⟩
theorem l_spec_l01N : lowF PA f_spec_l01N 1 [.k [1, 3, 4]] = some c_spec_l01N := by kernel_rfl
abbrev f___strings_Builder__grow : FuncId := 30
def c___strings_Builder__grow : AF := ⟨2, 30, [],
  (.seq (.sch (.take 0 ⟨(some 5), none, .q (.mv (.t 0))⟩ (.take 1 ⟨(some 6), none, .q (.nlc (.t 5))⟩ (.take 2 ⟨(some 7), none, .q (.fad 1 (.t 6))⟩ (.take 3 ⟨(some 8), none, .q (.ld false 1 (.t 7))⟩ (.take 4 ⟨(some 9), none, .q (.cap (.t 8))⟩ (.take 5 ⟨(some 10), none, .q (.bin .mul (.c (.int .i64 2)) (.t 9))⟩ (.take 6 ⟨(some 11), none, .q (.mv (.t 1))⟩ (.take 7 ⟨(some 12), none, .q (.bin .add (.t 10) (.t 11))⟩ (.take 9 ⟨(some 14), none, .q (.mv (.t 0))⟩ (.take 10 ⟨(some 15), none, .q (.nlc (.t 14))⟩ (.take 11 ⟨(some 16), none, .q (.fad 1 (.t 15))⟩ (.take 12 ⟨(some 17), none, .q (.ld false 1 (.t 16))⟩ (.take 13 ⟨(some 18), none, .q (.len (.t 17))⟩ (.one ⟨(some 13), none, .c (.call 32 [(.t 12)])⟩ [] (.take 14 ⟨(some 19), none, .q (.slc 1 (.t 13) none (some (.t 18)))⟩ (.take 15 ⟨(some 4), none, .q (.mv (.t 19))⟩ .done)))))))))))))))))
  (.seq (.reg [⟨(some 20), none, .q (.mv (.t 4))⟩,
     ⟨(some 21), none, .q (.mv (.t 0))⟩,
     ⟨(some 22), none, .q (.nlc (.t 21))⟩,
     ⟨(some 23), none, .q (.fad 1 (.t 22))⟩,
     ⟨(some 24), none, .q (.ld false 1 (.t 23))⟩,
     ⟨(some 25), none, .m (.cpy 1 (.t 20) (.t 24))⟩])
  (.reg [⟨(some 26), none, .q (.mv (.t 0))⟩,
    ⟨(some 27), none, .q (.mv (.t 4))⟩,
    ⟨(some 28), none, .q (.nlc (.t 26))⟩,
    ⟨(some 29), none, .q (.fad 1 (.t 28))⟩,
    ⟨none, none, .m (.st false 1 (.t 29) (.t 27))⟩])))⟩
theorem l___strings_Builder__grow : lowF PA f___strings_Builder__grow 2 [.s (.take 0 (.take 1 (.take 2 (.take 3 (.take 4 (.take 5 (.take 6 (.take 7 (.take 9 (.take 10 (.take 11 (.take 12 (.take 13 (.one 8 (.take 14 (.take 15 .done))))))))))))))))] = some c___strings_Builder__grow := by kernel_rfl
def join_ren : Go.Shelf.Ren := ⟨fun | 156 => 16 | 165 => 24 | 166 => 25 | 169 => 26 | 240 => 29 | 241 => 30 | 276 => 31 | 277 => 32 | n => n, fun | 31 => 39 | 9 => 9 | 3 => 3 | 4 => 4 | 0 => 0 | 20 => 20 | 72 => 50 | 76 => 54 | 70 => 48 | 37 => 40 | 75 => 53 | 127 => 60 | 164 => 61 | 5 => 5 | 80 => 56 | n => n, fun | n => n⟩
theorem join_lay : Go.Proofs.Lays.n156 Try.prog join_ren := {
  mixed := by kernel_rfl
  f156 := Try.func16.trans (congrArg some (by kernel_rfl))
  f165 := Try.func24.trans (congrArg some (by kernel_rfl))
  f166 := Try.func25.trans (congrArg some (by kernel_rfl))
  f169 := Try.func26.trans (congrArg some (by kernel_rfl))
  f240 := Try.func29.trans (congrArg some (by kernel_rfl))
  f241 := Try.func30.trans (congrArg some (by kernel_rfl))
  f276 := Try.func31.trans (congrArg some (by kernel_rfl))
  f277 := Try.func32.trans (congrArg some (by kernel_rfl))
  t0 := Try.underlying0
  a0 := Try.isAgg0
  z0 := Try.sizeOf0
  v0 := Try.zeroValue0
  t3 := Try.underlying3
  a3 := Try.isAgg3
  z3 := Try.sizeOf3
  v3 := Try.zeroValue3
  t4 := Try.underlying4
  a4 := Try.isAgg4
  z4 := Try.sizeOf4
  v4 := Try.zeroValue4
  t9 := Try.underlying9
  a9 := Try.isAgg9
  z9 := Try.sizeOf9
  v9 := Try.zeroValue9
  t20 := Try.underlying20
  a20 := Try.isAgg20
  z20 := Try.sizeOf20
  v20 := Try.zeroValue20
  t31 := Try.underlying39
  a31 := Try.isAgg39
  z31 := Try.sizeOf39
  v31 := Try.zeroValue39
  t37 := Try.underlying40
  a37 := Try.isAgg40
  z37 := Try.sizeOf40
  v37 := Try.zeroValue40
  t70 := Try.underlying48
  a70 := Try.isAgg48
  z70 := Try.sizeOf48
  v70 := Try.zeroValue48
  t72 := Try.underlying50
  a72 := Try.isAgg50
  z72 := Try.sizeOf50
  v72 := Try.zeroValue50
  t75 := Try.underlying53
  a75 := Try.isAgg53
  z75 := Try.sizeOf53
  v75 := Try.zeroValue53
  t76 := Try.underlying54
  a76 := Try.isAgg54
  z76 := Try.sizeOf54
  v76 := Try.zeroValue54
  t127 := Try.underlying60
  a127 := Try.isAgg60
  z127 := Try.sizeOf60
  v127 := Try.zeroValue60
  t164 := Try.underlying61
  a164 := Try.isAgg61
  z164 := Try.sizeOf61
  v164 := Try.zeroValue61 }
theorem join_extra : Go.Proofs.Builder.Extra Try.prog join_ren := {
  sizeBuilder := by kernel_rfl
  liesBuilder := by kernel_rfl
  t5 := Try.underlying5
  a5 := Try.isAgg5
  z5 := Try.sizeOf5
  v5 := Try.zeroValue5
  infoByte := by kernel_rfl
  cellsByte := by kernel_rfl
  sizeByte := by kernel_rfl
  neB5 := by decide }
theorem join_calls : JoinCalls PA f_strings_Join := fun bk o c xs sep w h1 h2 h3 h4 h5 => Go.Proofs.Any.strings_Join join_lay join_extra bk o c xs sep w h1 h2 h3 h4 h5
end Go.Proofs.Ytgailliklpkjjaa.Va
