/- The code of the functions that FnLeaders reaches, laid out for a walk: each is what the lowering makes of the program's own text. Condition: none. -/
import Derived.Shelf.SortM.Plain
import Derived.Test.YtfgjfjgkoabfjadGreatVa2
import Derived.Test.YtfgjfjgkoabfjadGreatProg
import Derived.KernelRfl
set_option linter.all false
set_option linter.unusedSimpArgs false
set_option linter.unusedVariables false
namespace Go.Proofs.YtfgjfjgkoabfjadGreat.Va
open Go
noncomputable abbrev PA : Program := Go.Proofs.Tryz.prog
abbrev f_laws_FnLeaders : FuncId := 3
def c_laws_FnLeaders : AF := ⟨1, 245, [.t 2],
  (.seq (.reg [⟨(some 2), none, .q (.mv (.c (.bool false)))⟩])
  (.seq (.seq (.reg [⟨(some 37), none, .q (.mv (.t 0))⟩,
      ⟨(some 38), none, .c (.call 4 [(.t 37)])⟩])
   (.cond (.t 38)
    (.seq (.reg [⟨(some 2), none, .q (.mv (.c (.bool true)))⟩])
    .ret)
    .skip))
  (.seq (.reg [⟨(some 40), none, .q (.mv (.t 0))⟩,
     ⟨(some 41), none, .c (.call 5 [(.t 40)])⟩,
     ⟨(some 39), none, .q (.mv (.t 41))⟩,
     ⟨(some 42), none, .q (.ext (.t 39) 0)⟩,
     ⟨(some 43), none, .q (.ext (.t 39) 1)⟩,
     ⟨(some 44), none, .q (.ext (.t 39) 2)⟩,
     ⟨(some 3), none, .m (.alloc [(.v (.slice none 0 0))])⟩,
     ⟨none, none, .m (.st true 1 (.t 3) (.t 42))⟩,
     ⟨(some 4), none, .q (.mv (.t 43))⟩,
     ⟨(some 5), none, .q (.mv (.t 44))⟩])
  (.seq (.reg [⟨(some 46), none, .q (.ld true 1 (.t 3))⟩,
     ⟨(some 47), none, .q (.mv (.t 4))⟩,
     ⟨(some 48), none, .q (.mv (.t 5))⟩,
     ⟨(some 49), none, .c (.call 6 [(.t 46), (.t 47), (.t 48)])⟩,
     ⟨(some 45), none, .q (.mv (.t 49))⟩,
     ⟨(some 50), none, .q (.ext (.t 45) 0)⟩,
     ⟨(some 51), none, .q (.ext (.t 45) 1)⟩,
     ⟨(some 6), none, .q (.mv (.t 50))⟩,
     ⟨(some 7), none, .q (.mv (.t 51))⟩])
  (.seq (.reg [⟨(some 53), none, .q (.ld true 1 (.t 3))⟩,
     ⟨(some 54), none, .q (.mv (.t 4))⟩,
     ⟨(some 55), none, .q (.mv (.t 5))⟩,
     ⟨(some 56), none, .c (.call 7 [(.t 53), (.t 54), (.t 55)])⟩,
     ⟨(some 52), none, .q (.mv (.t 56))⟩,
     ⟨(some 57), none, .q (.ext (.t 52) 0)⟩,
     ⟨(some 58), none, .q (.ext (.t 52) 1)⟩,
     ⟨(some 8), none, .q (.mv (.t 57))⟩,
     ⟨(some 9), none, .q (.mv (.t 58))⟩])
  (.seq (.reg [⟨(some 60), none, .q (.ld true 1 (.t 3))⟩,
     ⟨(some 61), none, .q (.mv (.t 4))⟩,
     ⟨(some 62), none, .c (.call 8 [(.t 60), (.t 61)])⟩,
     ⟨(some 59), none, .q (.mv (.t 62))⟩,
     ⟨(some 63), none, .q (.ext (.t 59) 0)⟩,
     ⟨(some 64), none, .q (.ext (.t 59) 1)⟩,
     ⟨(some 10), none, .q (.mv (.t 63))⟩,
     ⟨(some 11), none, .q (.mv (.t 64))⟩])
  (.seq (.reg [⟨(some 66), none, .q (.ld true 1 (.t 3))⟩,
     ⟨(some 67), none, .q (.mv (.t 4))⟩,
     ⟨(some 68), none, .c (.call 9 [(.t 66), (.t 67)])⟩,
     ⟨(some 65), none, .q (.mv (.t 68))⟩,
     ⟨(some 69), none, .q (.ext (.t 65) 0)⟩,
     ⟨(some 70), none, .q (.ext (.t 65) 1)⟩,
     ⟨(some 12), none, .q (.mv (.t 69))⟩,
     ⟨(some 13), none, .q (.mv (.t 70))⟩])
  (.seq (.reg [⟨(some 72), none, .q (.ld true 1 (.t 3))⟩,
     ⟨(some 73), none, .q (.mv (.t 4))⟩,
     ⟨(some 74), none, .c (.call 10 [(.t 72), (.t 73)])⟩,
     ⟨(some 71), none, .q (.mv (.t 74))⟩,
     ⟨(some 75), none, .q (.ext (.t 71) 0)⟩,
     ⟨(some 76), none, .q (.ext (.t 71) 1)⟩,
     ⟨(some 14), none, .q (.mv (.t 75))⟩,
     ⟨(some 15), none, .q (.mv (.t 76))⟩])
  (.seq (.reg [⟨(some 78), none, .q (.ld true 1 (.t 3))⟩,
     ⟨(some 79), none, .q (.mv (.t 4))⟩,
     ⟨(some 80), none, .c (.call 11 [(.t 78), (.t 79)])⟩,
     ⟨(some 77), none, .q (.mv (.t 80))⟩,
     ⟨(some 81), none, .q (.ext (.t 77) 0)⟩,
     ⟨(some 82), none, .q (.ext (.t 77) 1)⟩,
     ⟨(some 16), none, .q (.mv (.t 81))⟩,
     ⟨(some 17), none, .q (.mv (.t 82))⟩])
  (.seq (.reg [⟨(some 84), none, .q (.ld true 1 (.t 3))⟩,
     ⟨(some 85), none, .q (.mv (.t 4))⟩,
     ⟨(some 86), none, .c (.call 12 [(.t 84), (.t 85)])⟩,
     ⟨(some 83), none, .q (.mv (.t 86))⟩,
     ⟨(some 87), none, .q (.ext (.t 83) 0)⟩,
     ⟨(some 88), none, .q (.ext (.t 83) 1)⟩,
     ⟨(some 18), none, .q (.mv (.t 87))⟩,
     ⟨(some 19), none, .q (.mv (.t 88))⟩])
  (.seq (.reg [⟨(some 90), none, .q (.ld true 1 (.t 3))⟩,
     ⟨(some 91), none, .q (.mv (.t 4))⟩,
     ⟨(some 92), none, .c (.call 13 [(.t 90), (.t 91)])⟩,
     ⟨(some 89), none, .q (.mv (.t 92))⟩,
     ⟨(some 93), none, .q (.ext (.t 89) 0)⟩,
     ⟨(some 94), none, .q (.ext (.t 89) 1)⟩,
     ⟨(some 20), none, .q (.mv (.t 93))⟩,
     ⟨(some 21), none, .q (.mv (.t 94))⟩])
  (.seq (.seq (.reg [⟨(some 95), none, .q (.mv (.t 7))⟩,
      ⟨(some 96), none, .q (.mv (.t 9))⟩,
      ⟨(some 97), none, .q (.bin .neq (.t 95) (.t 96))⟩,
      ⟨(some 98), none, .q (.mv (.t 97))⟩,
      ⟨(some 99), (some (98, false)), .q (.mv (.t 6))⟩,
      ⟨(some 100), (some (98, false)), .q (.mv (.t 8))⟩,
      ⟨(some 101), (some (98, false)), .q (.bin .neq (.t 99) (.t 100))⟩,
      ⟨(some 102), none, .q (.pick (.t 98) (.c (.bool true)) (.t 101))⟩,
      ⟨(some 103), none, .q (.mv (.t 102))⟩,
      ⟨(some 104), (some (103, false)), .q (.mv (.t 11))⟩,
      ⟨(some 105), (some (103, false)), .q (.mv (.t 13))⟩,
      ⟨(some 106), (some (103, false)), .q (.bin .neq (.t 104) (.t 105))⟩,
      ⟨(some 107), none, .q (.pick (.t 103) (.c (.bool true)) (.t 106))⟩,
      ⟨(some 108), none, .q (.mv (.t 107))⟩,
      ⟨(some 109), (some (108, false)), .q (.mv (.t 10))⟩,
      ⟨(some 110), (some (108, false)), .q (.mv (.t 12))⟩,
      ⟨(some 111), (some (108, false)), .c (.call 14 [(.t 109), (.t 110)])⟩,
      ⟨(some 112), (some (108, false)), .q (.un .not (.t 111))⟩,
      ⟨(some 113), none, .q (.pick (.t 108) (.c (.bool true)) (.t 112))⟩,
      ⟨(some 114), none, .q (.mv (.t 113))⟩,
      ⟨(some 115), (some (114, false)), .q (.mv (.t 15))⟩,
      ⟨(some 116), (some (114, false)), .q (.mv (.t 17))⟩,
      ⟨(some 117), (some (114, false)), .q (.bin .neq (.t 115) (.t 116))⟩,
      ⟨(some 118), none, .q (.pick (.t 114) (.c (.bool true)) (.t 117))⟩,
      ⟨(some 119), none, .q (.mv (.t 118))⟩,
      ⟨(some 120), (some (119, false)), .q (.mv (.t 14))⟩,
      ⟨(some 121), (some (119, false)), .q (.mv (.t 16))⟩,
      ⟨(some 122), (some (119, false)), .q (.bin .neq (.t 120) (.t 121))⟩,
      ⟨(some 123), none, .q (.pick (.t 119) (.c (.bool true)) (.t 122))⟩,
      ⟨(some 124), none, .q (.mv (.t 123))⟩,
      ⟨(some 125), (some (124, false)), .q (.mv (.t 19))⟩,
      ⟨(some 126), (some (124, false)), .q (.mv (.t 21))⟩,
      ⟨(some 127), (some (124, false)), .q (.bin .neq (.t 125) (.t 126))⟩,
      ⟨(some 128), none, .q (.pick (.t 124) (.c (.bool true)) (.t 127))⟩,
      ⟨(some 129), none, .q (.mv (.t 128))⟩,
      ⟨(some 130), (some (129, false)), .q (.mv (.t 18))⟩,
      ⟨(some 131), (some (129, false)), .q (.mv (.t 20))⟩,
      ⟨(some 132), (some (129, false)), .c (.call 14 [(.t 130), (.t 131)])⟩,
      ⟨(some 133), (some (129, false)), .q (.un .not (.t 132))⟩,
      ⟨(some 134), none, .q (.pick (.t 129) (.c (.bool true)) (.t 133))⟩])
   (.cond (.t 134)
    (.seq (.reg [⟨(some 2), none, .q (.mv (.c (.bool false)))⟩])
    .ret)
    .skip))
  (.seq (.seq (.reg [⟨(some 135), none, .q (.mv (.t 11))⟩,
      ⟨(some 136), none, .q (.bin .eql (.t 135) (.c (.int .i64 0)))⟩])
   (.cond (.t 136)
    (.seq (.reg [⟨(some 138), none, .q (.ld true 1 (.t 3))⟩,
       ⟨(some 139), none, .c (.call 15 [(.t 138)])⟩,
       ⟨(some 137), none, .q (.mv (.t 139))⟩,
       ⟨(some 140), none, .q (.ext (.t 137) 0)⟩,
       ⟨(some 141), none, .q (.ext (.t 137) 1)⟩,
       ⟨(some 22), none, .q (.mv (.t 140))⟩,
       ⟨(some 23), none, .q (.mv (.t 141))⟩])
    (.seq (.reg [⟨(some 143), none, .q (.ld true 1 (.t 3))⟩,
       ⟨(some 144), none, .q (.mv (.t 4))⟩,
       ⟨(some 145), none, .c (.call 16 [(.t 143), (.t 144)])⟩,
       ⟨(some 142), none, .q (.mv (.t 145))⟩,
       ⟨(some 146), none, .q (.ext (.t 142) 0)⟩,
       ⟨(some 147), none, .q (.ext (.t 142) 1)⟩,
       ⟨(some 24), none, .q (.mv (.t 146))⟩,
       ⟨(some 25), none, .q (.mv (.t 147))⟩])
    (.seq (.reg [⟨(some 148), none, .q (.mv (.t 23))⟩,
       ⟨(some 149), none, .q (.bin .neq (.t 148) (.c (.int .i64 0)))⟩,
       ⟨(some 150), none, .q (.mv (.t 149))⟩,
       ⟨(some 151), (some (150, false)), .q (.mv (.t 25))⟩,
       ⟨(some 152), (some (150, false)), .q (.bin .neq (.t 151) (.c (.int .i64 0)))⟩,
       ⟨(some 153), none, .q (.pick (.t 150) (.c (.bool true)) (.t 152))⟩,
       ⟨(some 154), none, .q (.mv (.t 153))⟩,
       ⟨(some 155), (some (154, false)), .q (.mv (.t 10))⟩,
       ⟨(some 156), (some (154, false)), .q (.len (.t 155))⟩,
       ⟨(some 157), (some (154, false)), .q (.mv (.t 4))⟩,
       ⟨(some 158), (some (154, false)), .q (.len (.t 157))⟩,
       ⟨(some 159), (some (154, false)), .q (.bin .mul (.t 156) (.t 158))⟩,
       ⟨(some 160), (some (154, false)), .q (.mv (.t 22))⟩,
       ⟨(some 161), (some (154, false)), .q (.bin .neq (.t 159) (.t 160))⟩,
       ⟨(some 162), none, .q (.pick (.t 154) (.c (.bool true)) (.t 161))⟩,
       ⟨(some 163), none, .q (.mv (.t 162))⟩,
       ⟨(some 164), (some (163, false)), .q (.mv (.t 24))⟩,
       ⟨(some 165), (some (163, false)), .q (.mv (.t 14))⟩,
       ⟨(some 166), (some (163, false)), .q (.bin .neq (.t 164) (.t 165))⟩,
       ⟨(some 167), none, .q (.pick (.t 163) (.c (.bool true)) (.t 166))⟩,
       ⟨(some 168), none, .q (.mv (.t 167))⟩,
       ⟨(some 169), (some (168, false)), .q (.mv (.t 18))⟩,
       ⟨(some 170), (some (168, false)), .c (.call 17 [(.t 169)])⟩,
       ⟨(some 171), (some (168, false)), .q (.mv (.t 4))⟩,
       ⟨(some 172), (some (168, false)), .q (.len (.t 171))⟩,
       ⟨(some 173), (some (168, false)), .q (.bin .neq (.t 170) (.t 172))⟩,
       ⟨(some 174), none, .q (.pick (.t 168) (.c (.bool true)) (.t 173))⟩])
    (.cond (.t 174)
     (.seq (.reg [⟨(some 2), none, .q (.mv (.c (.bool false)))⟩])
     .ret)
     .skip))))
    .skip))
  (.seq (.seq (.reg [⟨(some 175), none, .q (.mv (.t 7))⟩,
      ⟨(some 176), none, .q (.bin .eql (.t 175) (.c (.int .i64 0)))⟩])
   (.cond (.t 176)
    (.seq (.reg [⟨(some 178), none, .q (.ld true 1 (.t 3))⟩,
       ⟨(some 179), none, .q (.mv (.t 6))⟩,
       ⟨(some 180), none, .q (.mv (.t 5))⟩,
       ⟨(some 181), none, .c (.call 18 [(.t 178), (.t 179), (.t 180)])⟩,
       ⟨(some 177), none, .q (.mv (.t 181))⟩,
       ⟨(some 182), none, .q (.ext (.t 177) 0)⟩,
       ⟨(some 183), none, .q (.ext (.t 177) 1)⟩,
       ⟨(some 26), none, .q (.mv (.t 182))⟩,
       ⟨(some 27), none, .q (.mv (.t 183))⟩])
    (.seq (.seq (.reg [⟨(some 184), none, .q (.mv (.t 27))⟩,
        ⟨(some 185), none, .q (.bin .neq (.t 184) (.c (.int .i64 0)))⟩,
        ⟨(some 186), none, .q (.mv (.t 185))⟩,
        ⟨(some 187), (some (186, false)), .q (.mv (.t 4))⟩,
        ⟨(some 188), (some (186, false)), .q (.mv (.t 6))⟩,
        ⟨(some 189), (some (186, false)), .c (.call 19 [(.t 187), (.t 188)])⟩,
        ⟨(some 190), (some (186, false)), .q (.un .not (.t 189))⟩,
        ⟨(some 191), none, .q (.pick (.t 186) (.c (.bool true)) (.t 190))⟩,
        ⟨(some 192), none, .q (.mv (.t 191))⟩,
        ⟨(some 193), (some (192, false)), .q (.mv (.t 26))⟩,
        ⟨(some 194), (some (192, false)), .q (.mv (.t 14))⟩,
        ⟨(some 195), (some (192, false)), .q (.bin .gtr (.t 193) (.t 194))⟩,
        ⟨(some 196), none, .q (.pick (.t 192) (.c (.bool true)) (.t 195))⟩])
     (.cond (.t 196)
      (.seq (.reg [⟨(some 2), none, .q (.mv (.c (.bool false)))⟩])
      .ret)
      .skip))
    (.seq (.reg [⟨(some 197), none, .q (.mv (.t 4))⟩,
       ⟨(some 198), none, .q (.len (.t 197))⟩,
       ⟨(some 199), none, .q (.mv (.c (.int .i64 0)))⟩])
    (.block 0 (.loop [0, 3, 4, 5, 26, 198, 199] (.seq (.reg [⟨(some 200), none, .q (.bin .lss (.t 199) (.t 198))⟩])
      (.seq (.cond (.t 200)
        .skip
        (.exit 0))
      (.seq (.block 1 (.seq (.reg [⟨(some 201), none, .q (.mv (.t 199))⟩,
           ⟨(some 28), none, .q (.mv (.t 201))⟩])
        (.seq (.sch (.take 0 ⟨(some 203), none, .q (.ld true 1 (.t 3))⟩ (.take 1 ⟨(some 204), none, .q (.mv (.t 4))⟩ (.take 2 ⟨(some 205), none, .q (.mv (.t 28))⟩ (.take 3 ⟨(some 206), none, .q (.ixs 1 (.t 204) (.t 205))⟩ (.take 4 ⟨(some 207), none, .q (.ld false 1 (.t 206))⟩ (.take 5 ⟨(some 208), none, .q (.mv (.t 5))⟩ (.one ⟨(some 209), none, .c (.call 18 [(.t 203), (.t 207), (.t 208)])⟩ [4, 0] (.take 7 ⟨(some 202), none, .q (.mv (.t 209))⟩ (.take 8 ⟨(some 210), none, .q (.ext (.t 202) 0)⟩ (.take 9 ⟨(some 211), none, .q (.ext (.t 202) 1)⟩ (.take 10 ⟨(some 29), none, .q (.mv (.t 210))⟩ (.take 11 ⟨(some 30), none, .q (.mv (.t 211))⟩ .done)))))))))))))
        (.seq (.reg [⟨(some 212), none, .q (.mv (.t 30))⟩,
           ⟨(some 213), none, .q (.bin .neq (.t 212) (.c (.int .i64 0)))⟩,
           ⟨(some 214), none, .q (.mv (.t 213))⟩,
           ⟨(some 215), (some (214, false)), .q (.mv (.t 29))⟩,
           ⟨(some 216), (some (214, false)), .q (.mv (.t 26))⟩,
           ⟨(some 217), (some (214, false)), .q (.bin .lss (.t 215) (.t 216))⟩,
           ⟨(some 218), none, .q (.pick (.t 214) (.c (.bool true)) (.t 217))⟩])
        (.cond (.t 218)
         (.seq (.reg [⟨(some 2), none, .q (.mv (.c (.bool false)))⟩])
         .ret)
         .skip)))))
      (.reg [⟨(some 219), none, .q (.bin .add (.t 199) (.c (.int .i64 1)))⟩,
        ⟨(some 199), none, .q (.mv (.t 219))⟩])))))))))
    .skip))
  (.seq (.reg [⟨(some 221), none, .q (.mv (.t 0))⟩,
     ⟨(some 222), none, .c (.call 20 [(.t 221)])⟩,
     ⟨(some 220), none, .q (.mv (.t 222))⟩,
     ⟨(some 223), none, .q (.ext (.t 220) 0)⟩,
     ⟨(some 224), none, .q (.ext (.t 220) 1)⟩,
     ⟨(some 31), none, .m (.alloc [(.v (.slice none 0 0))])⟩,
     ⟨none, none, .m (.st true 1 (.t 31) (.t 223))⟩,
     ⟨(some 32), none, .q (.mv (.t 224))⟩])
  (.seq (.reg [⟨(some 226), none, .q (.ld true 1 (.t 31))⟩,
     ⟨(some 227), none, .q (.mv (.t 32))⟩,
     ⟨(some 228), none, .c (.call 12 [(.t 226), (.t 227)])⟩,
     ⟨(some 225), none, .q (.mv (.t 228))⟩,
     ⟨(some 229), none, .q (.ext (.t 225) 0)⟩,
     ⟨(some 230), none, .q (.ext (.t 225) 1)⟩,
     ⟨(some 33), none, .q (.mv (.t 229))⟩,
     ⟨(some 34), none, .q (.mv (.t 230))⟩])
  (.seq (.reg [⟨(some 232), none, .q (.ld true 1 (.t 31))⟩,
     ⟨(some 233), none, .q (.mv (.t 32))⟩,
     ⟨(some 234), none, .c (.call 13 [(.t 232), (.t 233)])⟩,
     ⟨(some 231), none, .q (.mv (.t 234))⟩,
     ⟨(some 235), none, .q (.ext (.t 231) 0)⟩,
     ⟨(some 236), none, .q (.ext (.t 231) 1)⟩,
     ⟨(some 35), none, .q (.mv (.t 235))⟩,
     ⟨(some 36), none, .q (.mv (.t 236))⟩])
  (.seq (.reg [⟨(some 237), none, .q (.mv (.t 34))⟩,
     ⟨(some 238), none, .q (.mv (.t 36))⟩,
     ⟨(some 239), none, .q (.bin .eql (.t 237) (.t 238))⟩,
     ⟨(some 240), none, .q (.mv (.t 239))⟩,
     ⟨(some 241), (some (240, true)), .q (.mv (.t 33))⟩,
     ⟨(some 242), (some (240, true)), .q (.mv (.t 35))⟩,
     ⟨(some 243), (some (240, true)), .c (.call 14 [(.t 241), (.t 242)])⟩,
     ⟨(some 244), none, .q (.pick (.t 240) (.t 243) (.c (.bool false)))⟩,
     ⟨(some 2), none, .q (.mv (.t 244))⟩])
  .ret))))))))))))))))))⟩
theorem l_laws_FnLeaders : lowF PA f_laws_FnLeaders 1 [.k [0, 3, 4, 5, 26, 198, 199], .s (.take 0 (.take 1 (.take 2 (.take 3 (.take 4 (.take 5 (.one 6 (.take 7 (.take 8 (.take 9 (.take 10 (.take 11 .done))))))))))))] = some c_laws_FnLeaders := by kernel_rfl
abbrev f_laws_big : FuncId := 4
def c_laws_big : AF := ⟨1, 6, [.t 2],
  (.seq (.reg [⟨(some 2), none, .q (.mv (.c (.bool false)))⟩])
  (.seq (.reg [⟨(some 3), none, .q (.mv (.t 0))⟩,
     ⟨(some 4), none, .q (.len (.t 3))⟩,
     ⟨(some 5), none, .q (.bin .gtr (.t 4) (.c (.int .i64 4096)))⟩,
     ⟨(some 2), none, .q (.mv (.t 5))⟩])
  .ret))⟩
theorem l_laws_big : lowF PA f_laws_big 1 [] = some c_laws_big := by kernel_rfl
abbrev f_spec_DrawNearestWord : FuncId := 5
def c_spec_DrawNearestWord : AF := ⟨1, 29, [.c 2 true 1, .t 3, .t 4],
  (.seq (.reg [⟨(some 2), none, .m (.alloc [(.v (.slice none 0 0))])⟩,
     ⟨(some 3), none, .q (.mv (.c (.slice none 0 0)))⟩,
     ⟨(some 4), none, .q (.mv (.c (.int .i64 0)))⟩])
  (.seq (.reg [⟨(some 9), none, .q (.mv (.t 0))⟩,
     ⟨(some 10), none, .c (.call 21 [(.t 9)])⟩,
     ⟨(some 5), none, .q (.mv (.t 10))⟩])
  (.seq (.reg [⟨(some 12), none, .q (.mv (.t 5))⟩,
     ⟨(some 13), none, .c (.call 22 [(.t 12)])⟩,
     ⟨(some 11), none, .q (.mv (.t 13))⟩,
     ⟨(some 14), none, .q (.ext (.t 11) 0)⟩,
     ⟨(some 15), none, .q (.ext (.t 11) 1)⟩,
     ⟨(some 6), none, .m (.alloc [(.v (.slice none 0 0))])⟩,
     ⟨none, none, .m (.st true 1 (.t 6) (.t 14))⟩,
     ⟨(some 7), none, .q (.mv (.t 15))⟩])
  (.seq (.reg [⟨(some 16), none, .q (.mv (.t 5))⟩,
     ⟨(some 17), none, .q (.ld true 1 (.t 6))⟩,
     ⟨(some 18), none, .c (.call 24 [(.t 17)])⟩,
     ⟨(some 19), none, .q (.bin .sub (.t 18) (.c (.int .i64 1)))⟩,
     ⟨(some 20), none, .c (.call 23 [(.t 16), (.t 19)])⟩,
     ⟨(some 8), none, .q (.mv (.t 20))⟩])
  (.seq (.sch (.take 0 ⟨(some 21), none, .q (.mv (.t 5))⟩ (.take 1 ⟨(some 22), none, .q (.ld true 1 (.t 6))⟩ (.take 3 ⟨(some 24), none, .q (.mv (.t 5))⟩ (.take 4 ⟨(some 25), none, .q (.ld true 1 (.t 6))⟩ (.take 5 ⟨(some 26), none, .q (.mv (.t 7))⟩ (.take 7 ⟨(some 28), none, .q (.mv (.t 8))⟩ (.one ⟨(some 23), none, .c (.call 25 [(.t 21), (.t 22)])⟩ [1] (.one ⟨(some 27), none, .c (.call 26 [(.t 24), (.t 25), (.t 26)])⟩ [4] (.one ⟨none, none, .m (.st true 1 (.t 2) (.t 23))⟩ [1] (.take 9 ⟨(some 3), none, .q (.mv (.t 27))⟩ (.take 10 ⟨(some 4), none, .q (.mv (.t 28))⟩ .done))))))))))))
  .ret)))))⟩
theorem l_spec_DrawNearestWord : lowF PA f_spec_DrawNearestWord 1 [.s (.take 0 (.take 1 (.take 3 (.take 4 (.take 5 (.take 7 (.one 2 (.one 6 (.one 8 (.take 9 (.take 10 .done)))))))))))] = some c_spec_DrawNearestWord := by kernel_rfl
abbrev f_impl_NearestWord : FuncId := 6
def c_impl_NearestWord : AF := ⟨3, 36, [.t 6, .t 7],
  (.seq (.reg [⟨(some 3), none, .m (.box (.t 0))⟩,
     ⟨(some 6), none, .q (.mv (.c (.int .i64 0)))⟩,
     ⟨(some 7), none, .q (.mv (.c (.int .i64 0)))⟩])
  (.seq (.seq (.reg [⟨(some 10), none, .q (.ld true 1 (.t 3))⟩,
      ⟨(some 11), none, .q (.mv (.t 1))⟩,
      ⟨(some 12), none, .q (.mv (.t 2))⟩,
      ⟨(some 13), none, .m (.bsl 1 [(.t 12)])⟩,
      ⟨(some 14), none, .c (.call 27 [(.t 10), (.t 11), (.t 13)])⟩,
      ⟨(some 8), none, .q (.mv (.t 14))⟩])
   (.seq (.reg [⟨(some 15), none, .q (.mv (.t 8))⟩,
      ⟨(some 16), none, .q (.bin .neq (.t 15) (.c (.int .i64 0)))⟩])
   (.cond (.t 16)
    (.seq (.reg [⟨(some 17), none, .q (.mv (.t 8))⟩,
       ⟨(some 6), none, .q (.mv (.c (.int .i64 0)))⟩,
       ⟨(some 7), none, .q (.mv (.t 17))⟩])
    .ret)
    .skip)))
  (.seq (.sch (.take 0 ⟨(some 18), none, .q (.ld true 1 (.t 3))⟩ (.take 1 ⟨(some 19), none, .q (.ld true 1 (.t 3))⟩ (.take 2 ⟨(some 20), none, .q (.ld true 1 (.t 3))⟩ (.take 3 ⟨(some 21), none, .q (.mv (.t 1))⟩ (.take 5 ⟨(some 23), none, .q (.mv (.t 2))⟩ (.two ⟨(some 22), none, .c (.call 30 [(.t 20), (.t 21)])⟩ [2] (.take 6 ⟨(some 24), none, .q (.ixs 1 (.t 22) (.t 23))⟩ (.take 7 ⟨(some 25), none, .q (.ld false 1 (.t 24))⟩ (.two ⟨(some 26), none, .c (.call 29 [(.t 19), (.t 25)])⟩ [7, 1] (.two ⟨(some 27), none, .c (.call 28 [(.t 18), (.t 26)])⟩ [0] (.one ⟨(some 9), none, .m (.alloc [(.v (.int .u8 0)), (.v (.int .u8 0)), (.v (.int .u8 0)), (.v (.int .u8 0)), (.v (.int .u8 0)), (.v (.int .u8 0)), (.v (.int .u8 0)), (.v (.int .u8 0))])⟩ [] (.one ⟨none, none, .m (.st true 8 (.t 9) (.t 27))⟩ [7, 2, 1, 0] .done)) ⟨(some 9), none, .m (.alloc [(.v (.int .u8 0)), (.v (.int .u8 0)), (.v (.int .u8 0)), (.v (.int .u8 0)), (.v (.int .u8 0)), (.v (.int .u8 0)), (.v (.int .u8 0)), (.v (.int .u8 0))])⟩ [] (.one ⟨(some 27), none, .c (.call 28 [(.t 18), (.t 26)])⟩ [0] (.one ⟨none, none, .m (.st true 8 (.t 9) (.t 27))⟩ [7, 2, 1, 0] .done))) ⟨(some 9), none, .m (.alloc [(.v (.int .u8 0)), (.v (.int .u8 0)), (.v (.int .u8 0)), (.v (.int .u8 0)), (.v (.int .u8 0)), (.v (.int .u8 0)), (.v (.int .u8 0)), (.v (.int .u8 0))])⟩ [] (.one ⟨(some 26), none, .c (.call 29 [(.t 19), (.t 25)])⟩ [7, 1] (.one ⟨(some 27), none, .c (.call 28 [(.t 18), (.t 26)])⟩ [0] (.one ⟨none, none, .m (.st true 8 (.t 9) (.t 27))⟩ [7, 2, 1, 0] .done)))))) ⟨(some 9), none, .m (.alloc [(.v (.int .u8 0)), (.v (.int .u8 0)), (.v (.int .u8 0)), (.v (.int .u8 0)), (.v (.int .u8 0)), (.v (.int .u8 0)), (.v (.int .u8 0)), (.v (.int .u8 0))])⟩ [] (.one ⟨(some 22), none, .c (.call 30 [(.t 20), (.t 21)])⟩ [2] (.take 6 ⟨(some 24), none, .q (.ixs 1 (.t 22) (.t 23))⟩ (.take 7 ⟨(some 25), none, .q (.ld false 1 (.t 24))⟩ (.one ⟨(some 26), none, .c (.call 29 [(.t 19), (.t 25)])⟩ [7, 1] (.one ⟨(some 27), none, .c (.call 28 [(.t 18), (.t 26)])⟩ [0] (.one ⟨none, none, .m (.st true 8 (.t 9) (.t 27))⟩ [7, 2, 1, 0] .done)))))))))))))
  (.seq (.sch (.take 0 ⟨(some 28), none, .q (.ld true 1 (.t 3))⟩ (.take 1 ⟨(some 29), none, .q (.ld true 1 (.t 3))⟩ (.take 2 ⟨(some 30), none, .q (.ld true 1 (.t 3))⟩ (.take 3 ⟨(some 31), none, .q (.mv (.t 2))⟩ (.take 5 ⟨(some 33), none, .q (.ld true 8 (.t 9))⟩ (.one ⟨(some 32), none, .c (.call 29 [(.t 30), (.t 31)])⟩ [2] (.one ⟨(some 34), none, .c (.call 32 [(.t 29), (.t 32), (.t 33)])⟩ [5, 1] (.one ⟨(some 35), none, .c (.call 31 [(.t 28), (.t 34)])⟩ [0] (.take 8 ⟨(some 6), none, .q (.mv (.t 35))⟩ (.take 9 ⟨(some 7), none, .q (.mv (.c (.int .i64 0)))⟩ .done)))))))))))
  .ret))))⟩
theorem l_impl_NearestWord : lowF PA f_impl_NearestWord 3 [.s (.take 0 (.take 1 (.take 2 (.take 3 (.take 5 (.two 4 (.take 6 (.take 7 (.two 8 (.two 9 (.one 10 (.one 11 .done)) 10 (.one 9 (.one 11 .done))) 10 (.one 8 (.one 9 (.one 11 .done)))))) 10 (.one 4 (.take 6 (.take 7 (.one 8 (.one 9 (.one 11 .done)))))))))))), .s (.take 0 (.take 1 (.take 2 (.take 3 (.take 5 (.one 4 (.one 6 (.one 7 (.take 8 (.take 9 .done))))))))))] = some c_impl_NearestWord := by kernel_rfl
abbrev f_spec_NearestWord : FuncId := 7
def c_spec_NearestWord : AF := ⟨3, 46, [.t 6, .t 7],
  (.seq (.reg [⟨(some 3), none, .m (.box (.t 0))⟩,
     ⟨(some 6), none, .q (.mv (.c (.int .i64 0)))⟩,
     ⟨(some 7), none, .q (.mv (.c (.int .i64 0)))⟩])
  (.seq (.reg [⟨(some 11), none, .q (.ld true 1 (.t 3))⟩,
     ⟨(some 12), none, .q (.mv (.t 2))⟩,
     ⟨(some 13), none, .m (.bsl 1 [(.t 12)])⟩,
     ⟨(some 14), none, .c (.call 33 [(.t 11), (.t 13)])⟩,
     ⟨(some 8), none, .q (.mv (.t 14))⟩])
  (.seq (.seq (.reg [⟨(some 15), none, .q (.mv (.t 8))⟩,
      ⟨(some 16), none, .q (.bin .eql (.t 15) (.c (.int .i64 0)))⟩])
   (.cond (.t 16)
    (.reg [⟨(some 17), none, .q (.ld true 1 (.t 3))⟩,
      ⟨(some 18), none, .q (.mv (.t 1))⟩,
      ⟨(some 19), none, .c (.call 34 [(.t 17), (.t 18)])⟩,
      ⟨(some 8), none, .q (.mv (.t 19))⟩])
    .skip))
  (.seq (.seq (.reg [⟨(some 20), none, .q (.mv (.t 8))⟩,
      ⟨(some 21), none, .q (.bin .neq (.t 20) (.c (.int .i64 0)))⟩])
   (.cond (.t 21)
    (.seq (.reg [⟨(some 22), none, .q (.mv (.t 8))⟩,
       ⟨(some 6), none, .q (.mv (.c (.int .i64 0)))⟩,
       ⟨(some 7), none, .q (.mv (.t 22))⟩])
    .ret)
    .skip))
  (.seq (.reg [⟨(some 23), none, .q (.ld true 1 (.t 3))⟩,
     ⟨(some 24), none, .q (.mv (.t 1))⟩,
     ⟨(some 25), none, .q (.mv (.t 2))⟩,
     ⟨(some 26), none, .c (.call 35 [(.t 23), (.t 24), (.t 25)])⟩,
     ⟨(some 9), none, .q (.mv (.t 26))⟩])
  (.seq (.seq (.reg [⟨(some 27), none, .q (.mv (.t 1))⟩,
      ⟨(some 28), none, .q (.len (.t 27))⟩,
      ⟨(some 29), none, .q (.mv (.c (.int .i64 0)))⟩])
   (.block 0 (.loop [1, 2, 3, 9, 28, 29] (.seq (.reg [⟨(some 30), none, .q (.bin .lss (.t 29) (.t 28))⟩])
     (.seq (.cond (.t 30)
       .skip
       (.exit 0))
     (.seq (.block 1 (.seq (.reg [⟨(some 31), none, .q (.mv (.t 29))⟩,
          ⟨(some 10), none, .q (.mv (.t 31))⟩])
       (.seq (.sch (.take 0 ⟨(some 32), none, .q (.ld true 1 (.t 3))⟩ (.take 1 ⟨(some 33), none, .q (.mv (.t 1))⟩ (.take 2 ⟨(some 34), none, .q (.mv (.t 10))⟩ (.take 3 ⟨(some 35), none, .q (.ixs 1 (.t 33) (.t 34))⟩ (.take 4 ⟨(some 36), none, .q (.ld false 1 (.t 35))⟩ (.take 5 ⟨(some 37), none, .q (.mv (.t 9))⟩ (.take 7 ⟨(some 39), none, .q (.mv (.t 2))⟩ (.one ⟨(some 38), none, .c (.call 36 [(.t 32), (.t 36), (.t 37)])⟩ [4, 0] (.take 8 ⟨(some 40), none, .q (.bin .eql (.t 38) (.t 39))⟩ .done))))))))))
       (.cond (.t 40)
        (.seq (.reg [⟨(some 41), none, .q (.mv (.t 1))⟩,
           ⟨(some 42), none, .q (.mv (.t 10))⟩,
           ⟨(some 43), none, .q (.ixs 1 (.t 41) (.t 42))⟩,
           ⟨(some 44), none, .q (.ld false 1 (.t 43))⟩,
           ⟨(some 6), none, .q (.mv (.t 44))⟩,
           ⟨(some 7), none, .q (.mv (.c (.int .i64 0)))⟩])
        .ret)
        .skip))))
     (.reg [⟨(some 45), none, .q (.bin .add (.t 29) (.c (.int .i64 1)))⟩,
       ⟨(some 29), none, .q (.mv (.t 45))⟩])))))))
  (.seq (.reg [⟨(some 6), none, .q (.mv (.c (.int .i64 0)))⟩,
     ⟨(some 7), none, .q (.mv (.c (.int .i64 0)))⟩])
  .ret)))))))⟩
theorem l_spec_NearestWord : lowF PA f_spec_NearestWord 3 [.k [1, 2, 3, 9, 28, 29], .s (.take 0 (.take 1 (.take 2 (.take 3 (.take 4 (.take 5 (.take 7 (.one 6 (.take 8 .done)))))))))] = some c_spec_NearestWord := by kernel_rfl
abbrev f_impl_LeadersOf : FuncId := 8
def c_impl_LeadersOf : AF := ⟨2, 21, [.t 4, .t 5],
  (.seq (.reg [⟨(some 2), none, .m (.box (.t 0))⟩,
     ⟨(some 4), none, .q (.mv (.c (.slice none 0 0)))⟩,
     ⟨(some 5), none, .q (.mv (.c (.int .i64 0)))⟩])
  (.seq (.seq (.reg [⟨(some 8), none, .q (.ld true 1 (.t 2))⟩,
      ⟨(some 9), none, .q (.mv (.t 1))⟩,
      ⟨(some 10), none, .c (.call 27 [(.t 8), (.t 9), (.c (.slice none 0 0))])⟩,
      ⟨(some 6), none, .q (.mv (.t 10))⟩])
   (.seq (.reg [⟨(some 11), none, .q (.mv (.t 6))⟩,
      ⟨(some 12), none, .q (.bin .neq (.t 11) (.c (.int .i64 0)))⟩])
   (.cond (.t 12)
    (.seq (.reg [⟨(some 13), none, .q (.mv (.t 6))⟩,
       ⟨(some 4), none, .q (.mv (.c (.slice none 0 0)))⟩,
       ⟨(some 5), none, .q (.mv (.t 13))⟩])
    .ret)
    .skip)))
  (.seq (.reg [⟨(some 14), none, .q (.ld true 1 (.t 2))⟩,
     ⟨(some 15), none, .q (.mv (.t 1))⟩,
     ⟨(some 16), none, .c (.call 30 [(.t 14), (.t 15)])⟩,
     ⟨(some 7), none, .q (.mv (.t 16))⟩])
  (.seq (.reg [⟨(some 17), none, .q (.mv (.t 7))⟩,
     ⟨(some 18), none, .c (.call 37 [(.t 17)])⟩])
  (.seq (.reg [⟨(some 19), none, .q (.mv (.t 7))⟩,
     ⟨(some 20), none, .c (.call 38 [(.t 19)])⟩,
     ⟨(some 4), none, .q (.mv (.t 20))⟩,
     ⟨(some 5), none, .q (.mv (.c (.int .i64 0)))⟩])
  .ret)))))⟩
theorem l_impl_LeadersOf : lowF PA f_impl_LeadersOf 2 [] = some c_impl_LeadersOf := by kernel_rfl
abbrev f_spec_LeadersOf : FuncId := 9
def c_spec_LeadersOf : AF := ⟨2, 16, [.t 4, .t 5],
  (.seq (.reg [⟨(some 2), none, .m (.box (.t 0))⟩,
     ⟨(some 4), none, .q (.mv (.c (.slice none 0 0)))⟩,
     ⟨(some 5), none, .q (.mv (.c (.int .i64 0)))⟩])
  (.seq (.seq (.reg [⟨(some 7), none, .q (.ld true 1 (.t 2))⟩,
      ⟨(some 8), none, .q (.mv (.t 1))⟩,
      ⟨(some 9), none, .c (.call 34 [(.t 7), (.t 8)])⟩,
      ⟨(some 6), none, .q (.mv (.t 9))⟩])
   (.seq (.reg [⟨(some 10), none, .q (.mv (.t 6))⟩,
      ⟨(some 11), none, .q (.bin .neq (.t 10) (.c (.int .i64 0)))⟩])
   (.cond (.t 11)
    (.seq (.reg [⟨(some 12), none, .q (.mv (.t 6))⟩,
       ⟨(some 4), none, .q (.mv (.c (.slice none 0 0)))⟩,
       ⟨(some 5), none, .q (.mv (.t 12))⟩])
    .ret)
    .skip)))
  (.seq (.reg [⟨(some 13), none, .q (.ld true 1 (.t 2))⟩,
     ⟨(some 14), none, .q (.mv (.t 1))⟩,
     ⟨(some 15), none, .c (.call 39 [(.t 13), (.t 14)])⟩,
     ⟨(some 4), none, .q (.mv (.t 15))⟩,
     ⟨(some 5), none, .q (.mv (.c (.int .i64 0)))⟩])
  .ret)))⟩
theorem l_spec_LeadersOf : lowF PA f_spec_LeadersOf 2 [] = some c_spec_LeadersOf := by kernel_rfl
abbrev f_impl_RadiusByLeaders : FuncId := 10
def c_impl_RadiusByLeaders : AF := ⟨2, 33, [.t 4, .t 5],
  (.seq (.reg [⟨(some 2), none, .m (.box (.t 0))⟩,
     ⟨(some 4), none, .q (.mv (.c (.int .i64 0)))⟩,
     ⟨(some 5), none, .q (.mv (.c (.int .i64 0)))⟩])
  (.seq (.seq (.reg [⟨(some 10), none, .q (.ld true 1 (.t 2))⟩,
      ⟨(some 11), none, .q (.mv (.t 1))⟩,
      ⟨(some 12), none, .c (.call 27 [(.t 10), (.t 11), (.c (.slice none 0 0))])⟩,
      ⟨(some 6), none, .q (.mv (.t 12))⟩])
   (.seq (.reg [⟨(some 13), none, .q (.mv (.t 6))⟩,
      ⟨(some 14), none, .q (.bin .neq (.t 13) (.c (.int .i64 0)))⟩])
   (.cond (.t 14)
    (.seq (.reg [⟨(some 15), none, .q (.mv (.t 6))⟩,
       ⟨(some 4), none, .q (.mv (.c (.int .i64 0)))⟩,
       ⟨(some 5), none, .q (.mv (.t 15))⟩])
    .ret)
    .skip)))
  (.seq (.reg [⟨(some 7), none, .q (.mv (.c (.int .i64 0)))⟩])
  (.seq (.seq (.reg [⟨(some 16), none, .q (.ld true 1 (.t 2))⟩,
      ⟨(some 17), none, .q (.mv (.t 1))⟩,
      ⟨(some 18), none, .c (.call 30 [(.t 16), (.t 17)])⟩,
      ⟨(some 19), none, .q (.len (.t 18))⟩,
      ⟨(some 20), none, .q (.mv (.c (.int .i64 0)))⟩])
   (.block 0 (.loop [2, 7, 18, 19, 20] (.seq (.reg [⟨(some 21), none, .q (.bin .lss (.t 20) (.t 19))⟩])
     (.seq (.cond (.t 21)
       .skip
       (.exit 0))
     (.seq (.block 1 (.seq (.reg [⟨(some 22), none, .q (.ixs 1 (.t 18) (.t 20))⟩,
          ⟨(some 23), none, .q (.ld false 1 (.t 22))⟩,
          ⟨(some 9), none, .q (.mv (.t 23))⟩])
       (.reg [⟨(some 24), none, .q (.mv (.t 7))⟩,
         ⟨(some 25), none, .q (.ld true 1 (.t 2))⟩,
         ⟨(some 26), none, .q (.mv (.t 9))⟩,
         ⟨(some 27), none, .c (.call 29 [(.t 25), (.t 26)])⟩,
         ⟨(some 28), none, .q (.bld [(.v (.int .u8 0)), (.v (.int .u8 0)), (.v (.int .u8 0)), (.v (.int .u8 0)), (.v (.int .u8 0)), (.v (.int .u8 0)), (.v (.int .u8 0)), (.v (.int .u8 0))] [])⟩,
         ⟨(some 29), none, .c (.call 40 [(.t 27), (.t 28)])⟩,
         ⟨(some 30), none, .q (.mx (.t 24) (.t 29))⟩,
         ⟨(some 7), none, .q (.mv (.t 30))⟩])))
     (.reg [⟨(some 31), none, .q (.bin .add (.t 20) (.c (.int .i64 1)))⟩,
       ⟨(some 20), none, .q (.mv (.t 31))⟩])))))))
  (.seq (.reg [⟨(some 32), none, .q (.mv (.t 7))⟩,
     ⟨(some 4), none, .q (.mv (.t 32))⟩,
     ⟨(some 5), none, .q (.mv (.c (.int .i64 0)))⟩])
  .ret)))))⟩
theorem l_impl_RadiusByLeaders : lowF PA f_impl_RadiusByLeaders 2 [.k [2, 7, 18, 19, 20]] = some c_impl_RadiusByLeaders := by kernel_rfl
abbrev f_spec_RadiusByLeaders : FuncId := 11
def c_spec_RadiusByLeaders : AF := ⟨2, 34, [.t 4, .t 5],
  (.seq (.reg [⟨(some 2), none, .m (.box (.t 0))⟩,
     ⟨(some 4), none, .q (.mv (.c (.int .i64 0)))⟩,
     ⟨(some 5), none, .q (.mv (.c (.int .i64 0)))⟩])
  (.seq (.seq (.reg [⟨(some 10), none, .q (.ld true 1 (.t 2))⟩,
      ⟨(some 11), none, .q (.mv (.t 1))⟩,
      ⟨(some 12), none, .c (.call 34 [(.t 10), (.t 11)])⟩,
      ⟨(some 6), none, .q (.mv (.t 12))⟩])
   (.seq (.reg [⟨(some 13), none, .q (.mv (.t 6))⟩,
      ⟨(some 14), none, .q (.bin .neq (.t 13) (.c (.int .i64 0)))⟩])
   (.cond (.t 14)
    (.seq (.reg [⟨(some 15), none, .q (.mv (.t 6))⟩,
       ⟨(some 4), none, .q (.mv (.c (.int .i64 0)))⟩,
       ⟨(some 5), none, .q (.mv (.t 15))⟩])
    .ret)
    .skip)))
  (.seq (.reg [⟨(some 16), none, .q (.ld true 1 (.t 2))⟩,
     ⟨(some 17), none, .q (.mv (.t 1))⟩,
     ⟨(some 18), none, .c (.call 39 [(.t 16), (.t 17)])⟩,
     ⟨(some 7), none, .q (.mv (.t 18))⟩,
     ⟨(some 8), none, .q (.mv (.c (.int .i64 0)))⟩])
  (.seq (.seq (.reg [⟨(some 19), none, .q (.mv (.t 7))⟩,
      ⟨(some 20), none, .q (.len (.t 19))⟩,
      ⟨(some 21), none, .q (.mv (.c (.int .i64 0)))⟩])
   (.block 0 (.loop [2, 7, 8, 20, 21] (.seq (.reg [⟨(some 22), none, .q (.bin .lss (.t 21) (.t 20))⟩])
     (.seq (.cond (.t 22)
       .skip
       (.exit 0))
     (.seq (.block 1 (.seq (.reg [⟨(some 23), none, .q (.mv (.t 21))⟩,
          ⟨(some 9), none, .q (.mv (.t 23))⟩])
       (.sch (.take 0 ⟨(some 24), none, .q (.mv (.t 8))⟩ (.take 1 ⟨(some 25), none, .q (.ld true 1 (.t 2))⟩ (.take 2 ⟨(some 26), none, .q (.mv (.t 7))⟩ (.take 3 ⟨(some 27), none, .q (.mv (.t 9))⟩ (.take 4 ⟨(some 28), none, .q (.ixs 1 (.t 26) (.t 27))⟩ (.take 5 ⟨(some 29), none, .q (.ld false 1 (.t 28))⟩ (.one ⟨(some 30), none, .c (.call 41 [(.t 25), (.c (.int .i64 0)), (.t 29)])⟩ [5, 1] (.take 7 ⟨(some 31), none, .q (.mx (.t 24) (.t 30))⟩ (.take 8 ⟨(some 8), none, .q (.mv (.t 31))⟩ .done))))))))))))
     (.reg [⟨(some 32), none, .q (.bin .add (.t 21) (.c (.int .i64 1)))⟩,
       ⟨(some 21), none, .q (.mv (.t 32))⟩])))))))
  (.seq (.reg [⟨(some 33), none, .q (.mv (.t 8))⟩,
     ⟨(some 4), none, .q (.mv (.t 33))⟩,
     ⟨(some 5), none, .q (.mv (.c (.int .i64 0)))⟩])
  .ret)))))⟩
theorem l_spec_RadiusByLeaders : lowF PA f_spec_RadiusByLeaders 2 [.k [2, 7, 8, 20, 21], .s (.take 0 (.take 1 (.take 2 (.take 3 (.take 4 (.take 5 (.one 6 (.take 7 (.take 8 .done)))))))))] = some c_spec_RadiusByLeaders := by kernel_rfl
abbrev f_impl_WeightCounts : FuncId := 12
def c_impl_WeightCounts : AF := ⟨2, 16, [.t 4, .t 5],
  (.seq (.reg [⟨(some 2), none, .m (.box (.t 0))⟩,
     ⟨(some 4), none, .q (.mv (.c (.slice none 0 0)))⟩,
     ⟨(some 5), none, .q (.mv (.c (.int .i64 0)))⟩])
  (.seq (.seq (.reg [⟨(some 7), none, .q (.ld true 1 (.t 2))⟩,
      ⟨(some 8), none, .q (.mv (.t 1))⟩,
      ⟨(some 9), none, .c (.call 42 [(.t 7), (.t 8), (.c (.slice none 0 0))])⟩,
      ⟨(some 6), none, .q (.mv (.t 9))⟩])
   (.seq (.reg [⟨(some 10), none, .q (.mv (.t 6))⟩,
      ⟨(some 11), none, .q (.bin .neq (.t 10) (.c (.int .i64 0)))⟩])
   (.cond (.t 11)
    (.seq (.reg [⟨(some 12), none, .q (.mv (.t 6))⟩,
       ⟨(some 4), none, .q (.mv (.c (.slice none 0 0)))⟩,
       ⟨(some 5), none, .q (.mv (.t 12))⟩])
    .ret)
    .skip)))
  (.seq (.reg [⟨(some 13), none, .q (.ld true 1 (.t 2))⟩,
     ⟨(some 14), none, .q (.mv (.t 1))⟩,
     ⟨(some 15), none, .c (.call 43 [(.t 13), (.t 14)])⟩,
     ⟨(some 4), none, .q (.mv (.t 15))⟩,
     ⟨(some 5), none, .q (.mv (.c (.int .i64 0)))⟩])
  .ret)))⟩
theorem l_impl_WeightCounts : lowF PA f_impl_WeightCounts 2 [] = some c_impl_WeightCounts := by kernel_rfl
abbrev f_spec_WeightCounts : FuncId := 13
def c_spec_WeightCounts : AF := ⟨2, 16, [.t 4, .t 5],
  (.seq (.reg [⟨(some 2), none, .m (.box (.t 0))⟩,
     ⟨(some 4), none, .q (.mv (.c (.slice none 0 0)))⟩,
     ⟨(some 5), none, .q (.mv (.c (.int .i64 0)))⟩])
  (.seq (.seq (.reg [⟨(some 7), none, .q (.ld true 1 (.t 2))⟩,
      ⟨(some 8), none, .q (.mv (.t 1))⟩,
      ⟨(some 9), none, .c (.call 44 [(.t 7), (.t 8)])⟩,
      ⟨(some 6), none, .q (.mv (.t 9))⟩])
   (.seq (.reg [⟨(some 10), none, .q (.mv (.t 6))⟩,
      ⟨(some 11), none, .q (.bin .neq (.t 10) (.c (.int .i64 0)))⟩])
   (.cond (.t 11)
    (.seq (.reg [⟨(some 12), none, .q (.mv (.t 6))⟩,
       ⟨(some 4), none, .q (.mv (.c (.slice none 0 0)))⟩,
       ⟨(some 5), none, .q (.mv (.t 12))⟩])
    .ret)
    .skip)))
  (.seq (.reg [⟨(some 13), none, .q (.ld true 1 (.t 2))⟩,
     ⟨(some 14), none, .q (.mv (.t 1))⟩,
     ⟨(some 15), none, .c (.call 45 [(.t 13), (.t 14)])⟩,
     ⟨(some 4), none, .q (.mv (.t 15))⟩,
     ⟨(some 5), none, .q (.mv (.c (.int .i64 0)))⟩])
  .ret)))⟩
theorem l_spec_WeightCounts : lowF PA f_spec_WeightCounts 2 [] = some c_spec_WeightCounts := by kernel_rfl
abbrev f_laws_likeInts : FuncId := 14
def c_laws_likeInts : AF := ⟨2, 26, [.t 4],
  (.seq (.reg [⟨(some 4), none, .q (.mv (.c (.bool false)))⟩])
  (.seq (.seq (.reg [⟨(some 6), none, .q (.mv (.t 0))⟩,
      ⟨(some 7), none, .q (.len (.t 6))⟩,
      ⟨(some 8), none, .q (.mv (.t 1))⟩,
      ⟨(some 9), none, .q (.len (.t 8))⟩,
      ⟨(some 10), none, .q (.bin .neq (.t 7) (.t 9))⟩])
   (.cond (.t 10)
    (.seq (.reg [⟨(some 4), none, .q (.mv (.c (.bool false)))⟩])
    .ret)
    .skip))
  (.seq (.seq (.reg [⟨(some 5), none, .q (.mv (.c (.int .i64 0)))⟩])
   (.block 0 (.loop [0, 1, 5] (.seq (.seq (.reg [⟨(some 11), none, .q (.mv (.t 5))⟩,
         ⟨(some 12), none, .q (.mv (.t 0))⟩,
         ⟨(some 13), none, .q (.len (.t 12))⟩,
         ⟨(some 14), none, .q (.bin .lss (.t 11) (.t 13))⟩])
      (.cond (.t 14)
       .skip
       (.exit 0)))
     (.seq (.block 1 (.seq (.sch (.take 0 ⟨(some 17), none, .q (.mv (.t 0))⟩ (.take 1 ⟨(some 18), none, .q (.mv (.t 5))⟩ (.take 2 ⟨(some 19), none, .q (.ixs 1 (.t 17) (.t 18))⟩ (.take 3 ⟨(some 20), none, .q (.ld false 1 (.t 19))⟩ (.take 4 ⟨(some 21), none, .q (.mv (.t 1))⟩ (.take 5 ⟨(some 22), none, .q (.mv (.t 5))⟩ (.take 6 ⟨(some 23), none, .q (.ixs 1 (.t 21) (.t 22))⟩ (.take 7 ⟨(some 24), none, .q (.ld false 1 (.t 23))⟩ (.take 8 ⟨(some 25), none, .q (.bin .neq (.t 20) (.t 24))⟩ .done))))))))))
       (.cond (.t 25)
        (.seq (.reg [⟨(some 4), none, .q (.mv (.c (.bool false)))⟩])
        .ret)
        .skip)))
     (.reg [⟨(some 15), none, .q (.mv (.t 5))⟩,
       ⟨(some 16), none, .q (.bin .add (.t 15) (.c (.int .i64 1)))⟩,
       ⟨(some 5), none, .q (.mv (.t 16))⟩]))))))
  (.seq (.reg [⟨(some 4), none, .q (.mv (.c (.bool true)))⟩])
  .ret))))⟩
theorem l_laws_likeInts : lowF PA f_laws_likeInts 2 [.k [0, 1, 5], .s (.take 0 (.take 1 (.take 2 (.take 3 (.take 4 (.take 5 (.take 6 (.take 7 (.take 8 .done)))))))))] = some c_laws_likeInts := by kernel_rfl
abbrev f_impl_CountWords : FuncId := 15
def c_impl_CountWords : AF := ⟨1, 9, [.t 2, .t 3],
  (.seq (.reg [⟨(some 1), none, .m (.box (.t 0))⟩,
     ⟨(some 2), none, .q (.mv (.c (.int .i64 0)))⟩,
     ⟨(some 3), none, .q (.mv (.c (.int .i64 0)))⟩])
  (.seq (.seq (.reg [⟨(some 4), none, .q (.ld true 1 (.t 1))⟩,
      ⟨(some 5), none, .c (.call 46 [(.t 4)])⟩,
      ⟨(some 6), none, .q (.un .not (.t 5))⟩])
   (.cond (.t 6)
    (.seq (.reg [⟨(some 2), none, .q (.mv (.c (.int .i64 0)))⟩,
       ⟨(some 3), none, .q (.mv (.c (.int .i64 1)))⟩])
    .ret)
    .skip))
  (.seq (.reg [⟨(some 7), none, .q (.ld true 1 (.t 1))⟩,
     ⟨(some 8), none, .c (.call 47 [(.t 7)])⟩,
     ⟨(some 2), none, .q (.mv (.t 8))⟩,
     ⟨(some 3), none, .q (.mv (.c (.int .i64 0)))⟩])
  .ret)))⟩
theorem l_impl_CountWords : lowF PA f_impl_CountWords 1 [] = some c_impl_CountWords := by kernel_rfl
abbrev f_impl_RadiusOf : FuncId := 16
def c_impl_RadiusOf : AF := ⟨2, 16, [.t 4, .t 5],
  (.seq (.reg [⟨(some 2), none, .m (.box (.t 0))⟩,
     ⟨(some 4), none, .q (.mv (.c (.int .i64 0)))⟩,
     ⟨(some 5), none, .q (.mv (.c (.int .i64 0)))⟩])
  (.seq (.seq (.reg [⟨(some 7), none, .q (.ld true 1 (.t 2))⟩,
      ⟨(some 8), none, .q (.mv (.t 1))⟩,
      ⟨(some 9), none, .c (.call 48 [(.t 7), (.t 8), (.c (.slice none 0 0))])⟩,
      ⟨(some 6), none, .q (.mv (.t 9))⟩])
   (.seq (.reg [⟨(some 10), none, .q (.mv (.t 6))⟩,
      ⟨(some 11), none, .q (.bin .neq (.t 10) (.c (.int .i64 0)))⟩])
   (.cond (.t 11)
    (.seq (.reg [⟨(some 12), none, .q (.mv (.t 6))⟩,
       ⟨(some 4), none, .q (.mv (.c (.int .i64 0)))⟩,
       ⟨(some 5), none, .q (.mv (.t 12))⟩])
    .ret)
    .skip)))
  (.seq (.reg [⟨(some 13), none, .q (.ld true 1 (.t 2))⟩,
     ⟨(some 14), none, .q (.mv (.t 1))⟩,
     ⟨(some 15), none, .c (.call 49 [(.t 13), (.t 14)])⟩,
     ⟨(some 4), none, .q (.mv (.t 15))⟩,
     ⟨(some 5), none, .q (.mv (.c (.int .i64 0)))⟩])
  .ret)))⟩
theorem l_impl_RadiusOf : lowF PA f_impl_RadiusOf 2 [] = some c_impl_RadiusOf := by kernel_rfl
abbrev f_laws_sum : FuncId := 17
def c_laws_sum : AF := ⟨1, 18, [.t 2],
  (.seq (.reg [⟨(some 2), none, .q (.mv (.c (.int .i64 0)))⟩])
  (.seq (.reg [⟨(some 3), none, .q (.mv (.c (.int .i64 0)))⟩])
  (.seq (.seq (.reg [⟨(some 4), none, .q (.mv (.c (.int .i64 0)))⟩])
   (.block 0 (.loop [0, 3, 4] (.seq (.seq (.reg [⟨(some 5), none, .q (.mv (.t 4))⟩,
         ⟨(some 6), none, .q (.mv (.t 0))⟩,
         ⟨(some 7), none, .q (.len (.t 6))⟩,
         ⟨(some 8), none, .q (.bin .lss (.t 5) (.t 7))⟩])
      (.cond (.t 8)
       .skip
       (.exit 0)))
     (.seq (.block 1 (.reg [⟨(some 11), none, .q (.mv (.t 3))⟩,
         ⟨(some 12), none, .q (.mv (.t 0))⟩,
         ⟨(some 13), none, .q (.mv (.t 4))⟩,
         ⟨(some 14), none, .q (.ixs 1 (.t 12) (.t 13))⟩,
         ⟨(some 15), none, .q (.ld false 1 (.t 14))⟩,
         ⟨(some 16), none, .q (.bin .add (.t 11) (.t 15))⟩,
         ⟨(some 3), none, .q (.mv (.t 16))⟩]))
     (.reg [⟨(some 9), none, .q (.mv (.t 4))⟩,
       ⟨(some 10), none, .q (.bin .add (.t 9) (.c (.int .i64 1)))⟩,
       ⟨(some 4), none, .q (.mv (.t 10))⟩]))))))
  (.seq (.reg [⟨(some 17), none, .q (.mv (.t 3))⟩,
     ⟨(some 2), none, .q (.mv (.t 17))⟩])
  .ret))))⟩
theorem l_laws_sum : lowF PA f_laws_sum 1 [.k [0, 3, 4]] = some c_laws_sum := by kernel_rfl
abbrev f_impl_DistanceOf : FuncId := 18
def c_impl_DistanceOf : AF := ⟨3, 21, [.t 6, .t 7],
  (.seq (.reg [⟨(some 3), none, .m (.box (.t 0))⟩,
     ⟨(some 6), none, .q (.mv (.c (.int .i64 0)))⟩,
     ⟨(some 7), none, .q (.mv (.c (.int .i64 0)))⟩])
  (.seq (.seq (.reg [⟨(some 9), none, .q (.ld true 1 (.t 3))⟩,
      ⟨(some 10), none, .q (.mv (.t 1))⟩,
      ⟨(some 11), none, .q (.mv (.t 2))⟩,
      ⟨(some 12), none, .m (.bsl 1 [(.t 10), (.t 11)])⟩,
      ⟨(some 13), none, .c (.call 50 [(.t 9), (.t 12)])⟩,
      ⟨(some 8), none, .q (.mv (.t 13))⟩])
   (.seq (.reg [⟨(some 14), none, .q (.mv (.t 8))⟩,
      ⟨(some 15), none, .q (.bin .neq (.t 14) (.c (.int .i64 0)))⟩])
   (.cond (.t 15)
    (.seq (.reg [⟨(some 16), none, .q (.mv (.t 8))⟩,
       ⟨(some 6), none, .q (.mv (.c (.int .i64 0)))⟩,
       ⟨(some 7), none, .q (.mv (.t 16))⟩])
    .ret)
    .skip)))
  (.seq (.reg [⟨(some 17), none, .q (.ld true 1 (.t 3))⟩,
     ⟨(some 18), none, .q (.mv (.t 1))⟩,
     ⟨(some 19), none, .q (.mv (.t 2))⟩,
     ⟨(some 20), none, .c (.call 51 [(.t 17), (.t 18), (.t 19)])⟩,
     ⟨(some 6), none, .q (.mv (.t 20))⟩,
     ⟨(some 7), none, .q (.mv (.c (.int .i64 0)))⟩])
  .ret)))⟩
theorem l_impl_DistanceOf : lowF PA f_impl_DistanceOf 3 [] = some c_impl_DistanceOf := by kernel_rfl
abbrev f_laws_hasInt : FuncId := 19
def c_laws_hasInt : AF := ⟨2, 18, [.t 4],
  (.seq (.reg [⟨(some 4), none, .q (.mv (.c (.bool false)))⟩])
  (.seq (.seq (.reg [⟨(some 5), none, .q (.mv (.c (.int .i64 0)))⟩])
   (.block 0 (.loop [0, 1, 5] (.seq (.seq (.reg [⟨(some 6), none, .q (.mv (.t 5))⟩,
         ⟨(some 7), none, .q (.mv (.t 0))⟩,
         ⟨(some 8), none, .q (.len (.t 7))⟩,
         ⟨(some 9), none, .q (.bin .lss (.t 6) (.t 8))⟩])
      (.cond (.t 9)
       .skip
       (.exit 0)))
     (.seq (.block 1 (.seq (.reg [⟨(some 12), none, .q (.mv (.t 0))⟩,
          ⟨(some 13), none, .q (.mv (.t 5))⟩,
          ⟨(some 14), none, .q (.ixs 1 (.t 12) (.t 13))⟩,
          ⟨(some 15), none, .q (.ld false 1 (.t 14))⟩,
          ⟨(some 16), none, .q (.mv (.t 1))⟩,
          ⟨(some 17), none, .q (.bin .eql (.t 15) (.t 16))⟩])
       (.cond (.t 17)
        (.seq (.reg [⟨(some 4), none, .q (.mv (.c (.bool true)))⟩])
        .ret)
        .skip)))
     (.reg [⟨(some 10), none, .q (.mv (.t 5))⟩,
       ⟨(some 11), none, .q (.bin .add (.t 10) (.c (.int .i64 1)))⟩,
       ⟨(some 5), none, .q (.mv (.t 11))⟩]))))))
  (.seq (.reg [⟨(some 4), none, .q (.mv (.c (.bool false)))⟩])
  .ret)))⟩
theorem l_laws_hasInt : lowF PA f_laws_hasInt 2 [.k [0, 1, 5]] = some c_laws_hasInt := by kernel_rfl
abbrev f_spec_DrawWeightCounts : FuncId := 20
def c_spec_DrawWeightCounts : AF := ⟨1, 13, [.c 2 true 1, .t 3],
  (.seq (.reg [⟨(some 2), none, .m (.alloc [(.v (.slice none 0 0))])⟩,
     ⟨(some 3), none, .q (.mv (.c (.slice none 0 0)))⟩])
  (.seq (.reg [⟨(some 7), none, .q (.mv (.t 0))⟩,
     ⟨(some 8), none, .c (.call 52 [(.t 7)])⟩,
     ⟨(some 6), none, .q (.mv (.t 8))⟩,
     ⟨(some 9), none, .q (.ext (.t 6) 0)⟩,
     ⟨(some 10), none, .q (.ext (.t 6) 1)⟩,
     ⟨(some 4), none, .m (.alloc [(.v (.slice none 0 0))])⟩,
     ⟨none, none, .m (.st true 1 (.t 4) (.t 9))⟩,
     ⟨(some 5), none, .q (.mv (.t 10))⟩])
  (.seq (.reg [⟨(some 11), none, .q (.ld true 1 (.t 4))⟩,
     ⟨(some 12), none, .q (.mv (.t 5))⟩,
     ⟨none, none, .m (.st true 1 (.t 2) (.t 11))⟩,
     ⟨(some 3), none, .q (.mv (.t 12))⟩])
  .ret)))⟩
theorem l_spec_DrawWeightCounts : lowF PA f_spec_DrawWeightCounts 1 [] = some c_spec_DrawWeightCounts := by kernel_rfl
abbrev f_spec_l01From : FuncId := 21
def c_spec_l01From : AF := ⟨1, 38, [.t 2],
  (.seq (.reg [⟨(some 2), none, .q (.mv (.c (.pointer none)))⟩])
  (.seq (.reg [⟨(some 5), none, .q (.mv (.t 0))⟩,
     ⟨(some 6), none, .q (.mv (.t 0))⟩,
     ⟨(some 7), none, .q (.len (.t 6))⟩,
     ⟨(some 8), none, .q (.cvt .u64 (.t 7))⟩,
     ⟨(some 9), none, .q (.bin .add (.c (.int .u64 14111)) (.t 8))⟩,
     ⟨(some 10), none, .q (.bld [(.v (.slice none 0 0)), (.v (.int .i64 0)), (.v (.int .u64 0))] [(0, (.t 5)), (2, (.t 9))])⟩,
     ⟨(some 11), none, .m (.box (.t 10))⟩,
     ⟨(some 3), none, .q (.mv (.t 11))⟩])
  (.seq (.seq (.reg [⟨(some 4), none, .q (.mv (.c (.int .i64 0)))⟩])
   (.block 0 (.loop [0, 3, 4] (.seq (.seq (.reg [⟨(some 12), none, .q (.mv (.t 4))⟩,
         ⟨(some 13), none, .q (.mv (.t 0))⟩,
         ⟨(some 14), none, .q (.len (.t 13))⟩,
         ⟨(some 15), none, .q (.bin .lss (.t 12) (.t 14))⟩,
         ⟨(some 16), none, .q (.mv (.t 15))⟩,
         ⟨(some 17), (some (16, true)), .q (.mv (.t 4))⟩,
         ⟨(some 18), (some (16, true)), .q (.bin .lss (.t 17) (.c (.int .i64 4096)))⟩,
         ⟨(some 19), none, .q (.pick (.t 16) (.t 18) (.c (.bool false)))⟩])
      (.cond (.t 19)
       .skip
       (.exit 0)))
     (.seq (.block 1 (.sch (.take 0 ⟨(some 22), none, .q (.mv (.t 3))⟩ (.take 1 ⟨(some 23), none, .q (.mv (.t 3))⟩ (.take 2 ⟨(some 24), none, .q (.nlc (.t 23))⟩ (.take 3 ⟨(some 25), none, .q (.fad 2 (.t 24))⟩ (.take 4 ⟨(some 26), none, .q (.ld false 1 (.t 25))⟩ (.take 5 ⟨(some 27), none, .q (.bin .mul (.t 26) (.c (.int .u64 1099511628211)))⟩ (.take 6 ⟨(some 28), none, .q (.mv (.t 0))⟩ (.take 7 ⟨(some 29), none, .q (.mv (.t 4))⟩ (.take 8 ⟨(some 30), none, .q (.ixs 1 (.t 28) (.t 29))⟩ (.take 9 ⟨(some 31), none, .q (.ld false 1 (.t 30))⟩ (.take 10 ⟨(some 32), none, .q (.cvt .u64 (.t 31))⟩ (.take 11 ⟨(some 33), none, .q (.bin .add (.t 27) (.t 32))⟩ (.take 12 ⟨(some 34), none, .q (.bin .add (.t 33) (.c (.int .u64 251)))⟩ (.take 13 ⟨(some 35), none, .q (.nlc (.t 22))⟩ (.take 14 ⟨(some 36), none, .q (.fad 2 (.t 35))⟩ (.one ⟨none, none, .m (.st false 1 (.t 36) (.t 34))⟩ [9, 4] .done))))))))))))))))))
     (.reg [⟨(some 20), none, .q (.mv (.t 4))⟩,
       ⟨(some 21), none, .q (.bin .add (.t 20) (.c (.int .i64 1)))⟩,
       ⟨(some 4), none, .q (.mv (.t 21))⟩]))))))
  (.seq (.reg [⟨(some 37), none, .q (.mv (.t 3))⟩,
     ⟨(some 2), none, .q (.mv (.t 37))⟩])
  .ret))))⟩
theorem l_spec_l01From : lowF PA f_spec_l01From 1 [.k [0, 3, 4], .s (.take 0 (.take 1 (.take 2 (.take 3 (.take 4 (.take 5 (.take 6 (.take 7 (.take 8 (.take 9 (.take 10 (.take 11 (.take 12 (.take 13 (.take 14 (.one 15 .done))))))))))))))))] = some c_spec_l01From := by kernel_rfl
abbrev f_spec_l05Draw : FuncId := 22
def c_spec_l05Draw : AF := ⟨1, 37, [.c 2 true 1, .t 3],
  (.seq (.reg [⟨(some 2), none, .m (.alloc [(.v (.slice none 0 0))])⟩,
     ⟨(some 3), none, .q (.mv (.c (.slice none 0 0)))⟩])
  (.seq (.reg [⟨(some 6), none, .q (.mv (.t 0))⟩,
     ⟨(some 7), none, .c (.call 53 [(.t 6)])⟩,
     ⟨(some 4), none, .m (.alloc [(.v (.slice none 0 0))])⟩,
     ⟨none, none, .m (.st true 1 (.t 4) (.t 7))⟩])
  (.seq (.seq (.reg [⟨(some 8), none, .q (.ld true 1 (.t 4))⟩,
      ⟨(some 9), none, .c (.call 54 [(.t 8)])⟩,
      ⟨(some 10), none, .q (.un .not (.t 9))⟩])
   (.cond (.t 10)
    (.seq (.sch (.take 0 ⟨(some 11), none, .q (.ld true 1 (.t 4))⟩ (.take 1 ⟨(some 12), none, .q (.mv (.t 0))⟩ (.take 2 ⟨(some 13), none, .q (.ld true 1 (.t 4))⟩ (.one ⟨(some 14), none, .c (.call 55 [(.t 12), (.t 13)])⟩ [2] (.one ⟨none, none, .m (.st true 1 (.t 2) (.t 11))⟩ [0] (.take 5 ⟨(some 3), none, .q (.mv (.t 14))⟩ .done)))))))
    .ret)
    .skip))
  (.seq (.sch (.take 0 ⟨(some 15), none, .q (.ld true 1 (.t 4))⟩ (.take 1 ⟨(some 16), none, .q (.mv (.t 0))⟩ (.take 2 ⟨(some 17), none, .q (.ld true 1 (.t 4))⟩ (.one ⟨(some 18), none, .c (.call 57 [(.t 16), (.t 17)])⟩ [2] (.one ⟨(some 19), none, .c (.call 56 [(.t 15), (.t 18)])⟩ [0] (.take 5 ⟨(some 5), none, .q (.mv (.t 19))⟩ .done)))))))
  (.seq (.seq (.reg [⟨(some 20), none, .q (.mv (.t 0))⟩,
      ⟨(some 21), none, .c (.call 58 [(.t 20), (.c (.int .i64 12))])⟩])
   (.block 0 (.seq (.reg [⟨(some 23), none, .q (.bin .eql (.t 21) (.c (.int .i64 0)))⟩,
       ⟨(some 22), none, .q (.mv (.t 23))⟩])
    (.cond (.t 22)
     (.reg [⟨(some 24), none, .q (.mv (.t 0))⟩,
       ⟨(some 25), none, .q (.ld true 1 (.t 4))⟩,
       ⟨(some 26), none, .c (.call 55 [(.t 24), (.t 25)])⟩,
       ⟨(some 5), none, .q (.mv (.t 26))⟩])
     (.seq (.reg [⟨(some 28), none, .q (.bin .eql (.t 21) (.c (.int .i64 1)))⟩,
        ⟨(some 27), none, .q (.mv (.t 28))⟩])
     (.cond (.t 27)
      (.reg [⟨(some 29), none, .q (.mv (.t 5))⟩,
        ⟨(some 30), none, .q (.mv (.t 0))⟩,
        ⟨(some 31), none, .q (.ld true 1 (.t 4))⟩,
        ⟨(some 32), none, .c (.call 24 [(.t 31)])⟩,
        ⟨(some 33), none, .c (.call 58 [(.t 30), (.t 32)])⟩,
        ⟨(some 34), none, .c (.call 59 [(.t 29), (.t 33)])⟩,
        ⟨(some 5), none, .q (.mv (.t 34))⟩])
      .skip))))))
  (.seq (.reg [⟨(some 35), none, .q (.ld true 1 (.t 4))⟩,
     ⟨(some 36), none, .q (.mv (.t 5))⟩,
     ⟨none, none, .m (.st true 1 (.t 2) (.t 35))⟩,
     ⟨(some 3), none, .q (.mv (.t 36))⟩])
  .ret))))))⟩
theorem l_spec_l05Draw : lowF PA f_spec_l05Draw 1 [.s (.take 0 (.take 1 (.take 2 (.one 3 (.one 4 (.take 5 .done)))))), .s (.take 0 (.take 1 (.take 2 (.one 3 (.one 4 (.take 5 .done))))))] = some c_spec_l05Draw := by kernel_rfl
abbrev f_spec_l01Near : FuncId := 23
def c_spec_l01Near : AF := ⟨2, 17, [.t 4],
  (.seq (.reg [⟨(some 4), none, .q (.mv (.c (.int .i64 0)))⟩])
  (.seq (.seq (.reg [⟨(some 5), none, .q (.mv (.t 0))⟩,
      ⟨(some 6), none, .c (.call 58 [(.t 5), (.c (.int .i64 14))])⟩,
      ⟨(some 7), none, .q (.bin .eql (.t 6) (.c (.int .i64 0)))⟩])
   (.cond (.t 7)
    (.seq (.reg [⟨(some 8), none, .q (.mv (.t 0))⟩,
       ⟨(some 9), none, .q (.mv (.t 1))⟩,
       ⟨(some 10), none, .q (.bin .add (.t 9) (.c (.int .i64 1)))⟩,
       ⟨(some 11), none, .m (.bsl 1 [(.c (.int .i64 (-1))), (.t 10), (.c (.int .i64 1099511627776)), (.c (.int .i64 (-4611686018427387904)))])⟩,
       ⟨(some 12), none, .c (.call 60 [(.t 8), (.t 11)])⟩,
       ⟨(some 4), none, .q (.mv (.t 12))⟩])
    .ret)
    .skip))
  (.seq (.reg [⟨(some 13), none, .q (.mv (.t 0))⟩,
     ⟨(some 14), none, .q (.mv (.t 1))⟩,
     ⟨(some 15), none, .q (.bin .add (.t 14) (.c (.int .i64 1)))⟩,
     ⟨(some 16), none, .c (.call 58 [(.t 13), (.t 15)])⟩,
     ⟨(some 4), none, .q (.mv (.t 16))⟩])
  .ret)))⟩
theorem l_spec_l01Near : lowF PA f_spec_l01Near 2 [] = some c_spec_l01Near := by kernel_rfl
abbrev f_spec_l01N : FuncId := 24
def c_spec_l01N : AF := ⟨1, 20, [.t 2],
  (.seq (.reg [⟨(some 1), none, .m (.box (.t 0))⟩,
     ⟨(some 2), none, .q (.mv (.c (.int .i64 0)))⟩])
  (.seq (.reg [⟨(some 3), none, .q (.mv (.c (.int .i64 1)))⟩])
  (.seq (.seq (.reg [⟨(some 4), none, .q (.mv (.c (.int .i64 0)))⟩])
   (.block 0 (.loop [1, 3, 4] (.seq (.seq (.reg [⟨(some 5), none, .q (.mv (.t 4))⟩,
         ⟨(some 6), none, .q (.fad 0 (.t 1))⟩,
         ⟨(some 7), none, .q (.ld false 1 (.t 6))⟩,
         ⟨(some 8), none, .q (.len (.t 7))⟩,
         ⟨(some 9), none, .q (.bin .lss (.t 5) (.t 8))⟩])
      (.cond (.t 9)
       .skip
       (.exit 0)))
     (.seq (.block 1 (.reg [⟨(some 12), none, .q (.mv (.t 3))⟩,
         ⟨(some 13), none, .q (.fad 0 (.t 1))⟩,
         ⟨(some 14), none, .q (.ld false 1 (.t 13))⟩,
         ⟨(some 15), none, .q (.mv (.t 4))⟩,
         ⟨(some 16), none, .q (.ixs 1 (.t 14) (.t 15))⟩,
         ⟨(some 17), none, .q (.ld false 1 (.t 16))⟩,
         ⟨(some 18), none, .q (.bin .mul (.t 12) (.t 17))⟩,
         ⟨(some 3), none, .q (.mv (.t 18))⟩]))
     (.reg [⟨(some 10), none, .q (.mv (.t 4))⟩,
       ⟨(some 11), none, .q (.bin .add (.t 10) (.c (.int .i64 1)))⟩,
       ⟨(some 4), none, .q (.mv (.t 11))⟩]))))))
  (.seq (.reg [⟨(some 19), none, .q (.mv (.t 3))⟩,
     ⟨(some 2), none, .q (.mv (.t 19))⟩])
  .ret))))⟩
theorem l_spec_l01N : lowF PA f_spec_l01N 1 [.k [1, 3, 4]] = some c_spec_l01N := by kernel_rfl
abbrev f_spec_l01Bad : FuncId := 25
def c_spec_l01Bad : AF := ⟨2, 42, [.c 4 true 1],
  (.seq (.reg [⟨(some 3), none, .m (.box (.t 1))⟩,
     ⟨(some 4), none, .m (.alloc [(.v (.slice none 0 0))])⟩])
  (.seq (.reg [⟨(some 6), none, .q (.fad 0 (.t 3))⟩,
     ⟨(some 7), none, .q (.ld false 1 (.t 6))⟩,
     ⟨(some 8), none, .c (.call 61 [(.t 7)])⟩,
     ⟨(some 9), none, .q (.bld [(.v (.slice none 0 0))] [(0, (.t 8))])⟩,
     ⟨(some 5), none, .m (.alloc [(.v (.slice none 0 0))])⟩,
     ⟨none, none, .m (.st true 1 (.t 5) (.t 9))⟩])
  (.seq (.seq (.reg [⟨(some 10), none, .q (.mv (.t 0))⟩,
      ⟨(some 11), none, .c (.call 58 [(.t 10), (.c (.int .i64 50))])⟩])
   (.block 0 (.seq (.reg [⟨(some 13), none, .q (.bin .eql (.t 11) (.c (.int .i64 0)))⟩,
       ⟨(some 12), none, .q (.mv (.t 13))⟩])
    (.cond (.t 12)
     (.seq (.reg [⟨(some 14), none, .q (.bld [(.v (.slice none 0 0))] [])⟩,
        ⟨none, none, .m (.st true 1 (.t 4) (.t 14))⟩])
     .ret)
     (.seq (.reg [⟨(some 16), none, .q (.bin .eql (.t 11) (.c (.int .i64 1)))⟩,
        ⟨(some 15), none, .q (.mv (.t 16))⟩])
     (.cond (.t 15)
      (.seq (.sch (.take 0 ⟨(some 17), none, .q (.fad 0 (.t 5))⟩ (.take 1 ⟨(some 18), none, .q (.ld false 1 (.t 17))⟩ (.take 2 ⟨(some 19), none, .q (.mv (.t 0))⟩ (.take 3 ⟨(some 20), none, .q (.fad 0 (.t 5))⟩ (.take 4 ⟨(some 21), none, .q (.ld false 1 (.t 20))⟩ (.take 5 ⟨(some 22), none, .q (.len (.t 21))⟩ (.take 7 ⟨(some 24), none, .q (.mv (.t 0))⟩ (.two ⟨(some 23), none, .c (.call 58 [(.t 19), (.t 22)])⟩ [] (.one ⟨(some 25), none, .m (.bsl 1 [(.c (.int .i64 1)), (.c (.int .i64 5)), (.c (.int .i64 0)), (.c (.int .i64 (-1))), (.c (.int .i64 1099511627776))])⟩ [] (.one ⟨(some 26), none, .c (.call 60 [(.t 24), (.t 25)])⟩ [] (.take 10 ⟨(some 27), none, .q (.ixs 1 (.t 18) (.t 23))⟩ (.one ⟨none, none, .m (.st false 1 (.t 27) (.t 26))⟩ [4, 1] .done)))) ⟨(some 25), none, .m (.bsl 1 [(.c (.int .i64 1)), (.c (.int .i64 5)), (.c (.int .i64 0)), (.c (.int .i64 (-1))), (.c (.int .i64 1099511627776))])⟩ [] (.one ⟨(some 23), none, .c (.call 58 [(.t 19), (.t 22)])⟩ [] (.one ⟨(some 26), none, .c (.call 60 [(.t 24), (.t 25)])⟩ [] (.take 10 ⟨(some 27), none, .q (.ixs 1 (.t 18) (.t 23))⟩ (.one ⟨none, none, .m (.st false 1 (.t 27) (.t 26))⟩ [4, 1] .done)))))))))))))
      (.seq (.reg [⟨(some 28), none, .q (.ld true 1 (.t 5))⟩,
         ⟨none, none, .m (.st true 1 (.t 4) (.t 28))⟩])
      .ret))
      (.seq (.reg [⟨(some 30), none, .q (.bin .eql (.t 11) (.c (.int .i64 2)))⟩,
         ⟨(some 29), none, .q (.mv (.t 30))⟩])
      (.cond (.t 29)
       (.seq (.block 1 (.loop [4, 5, 42] (.seq (.seq (.reg [⟨(some 31), none, .q (.fad 0 (.t 5))⟩,
              ⟨(some 32), none, .q (.ld false 1 (.t 31))⟩,
              ⟨(some 33), none, .q (.len (.t 32))⟩,
              ⟨(some 34), none, .q (.bin .lss (.t 33) (.c (.int .i64 6)))⟩])
           (.cond (.t 34)
            .skip
            (.exit 1)))
          (.block 2 (.reg [⟨(some 35), none, .q (.fad 0 (.t 5))⟩,
             ⟨(some 36), none, .q (.ld false 1 (.t 35))⟩,
             ⟨(some 37), none, .m (.bsl 1 [(.c (.int .i64 4))])⟩,
             ⟨(some 38), none, .m (.app 1 8 (.t 36) (.t 37))⟩,
             ⟨(some 39), none, .q (.fad 0 (.t 5))⟩,
             ⟨none, none, .m (.st false 1 (.t 39) (.t 38))⟩])))))
       (.seq (.reg [⟨(some 40), none, .q (.ld true 1 (.t 5))⟩,
          ⟨none, none, .m (.st true 1 (.t 4) (.t 40))⟩])
       .ret))
       .skip))))))))
  (.seq (.reg [⟨(some 41), none, .q (.ld true 1 (.t 3))⟩,
     ⟨none, none, .m (.st true 1 (.t 4) (.t 41))⟩])
  .ret))))⟩
theorem l_spec_l01Bad : lowF PA f_spec_l01Bad 2 [.s (.take 0 (.take 1 (.take 2 (.take 3 (.take 4 (.take 5 (.take 7 (.two 6 (.one 8 (.one 9 (.take 10 (.one 11 .done)))) 8 (.one 6 (.one 9 (.take 10 (.one 11 .done)))))))))))), .k [4, 5, 42]] = some c_spec_l01Bad := by kernel_rfl
abbrev f_spec_l01BadCode : FuncId := 26
def c_spec_l01BadCode : AF := ⟨3, 33, [.t 6],
  (.seq (.reg [⟨(some 4), none, .m (.box (.t 1))⟩,
     ⟨(some 6), none, .q (.mv (.c (.slice none 0 0)))⟩])
  (.seq (.reg [⟨(some 8), none, .q (.mv (.t 2))⟩,
     ⟨(some 9), none, .c (.call 61 [(.t 8)])⟩,
     ⟨(some 7), none, .q (.mv (.t 9))⟩])
  (.seq (.seq (.reg [⟨(some 10), none, .q (.mv (.t 0))⟩,
      ⟨(some 11), none, .c (.call 58 [(.t 10), (.c (.int .i64 30))])⟩])
   (.block 0 (.seq (.reg [⟨(some 13), none, .q (.bin .eql (.t 11) (.c (.int .i64 0)))⟩,
       ⟨(some 12), none, .q (.mv (.t 13))⟩])
    (.cond (.t 12)
     (.seq (.reg [⟨(some 14), none, .q (.mv (.t 7))⟩,
        ⟨(some 15), none, .q (.mv (.t 0))⟩,
        ⟨(some 16), none, .q (.ld true 1 (.t 4))⟩,
        ⟨(some 17), none, .c (.call 24 [(.t 16)])⟩,
        ⟨(some 18), none, .m (.bsl 1 [(.c (.int .i64 (-1))), (.t 17), (.c (.int .i64 0)), (.c (.int .i64 1099511627776))])⟩,
        ⟨(some 19), none, .c (.call 60 [(.t 15), (.t 18)])⟩,
        ⟨(some 20), none, .m (.bsl 1 [(.t 19)])⟩,
        ⟨(some 21), none, .m (.app 1 8 (.t 14) (.t 20))⟩,
        ⟨(some 6), none, .q (.mv (.t 21))⟩])
     .ret)
     (.seq (.reg [⟨(some 23), none, .q (.bin .eql (.t 11) (.c (.int .i64 1)))⟩,
        ⟨(some 22), none, .q (.mv (.t 23))⟩])
     (.cond (.t 22)
      (.seq (.reg [⟨(some 24), none, .q (.mv (.t 7))⟩,
         ⟨(some 25), none, .q (.len (.t 24))⟩,
         ⟨(some 26), none, .q (.bin .gtr (.t 25) (.c (.int .i64 1)))⟩])
      (.cond (.t 26)
       (.reg [⟨(some 27), none, .q (.mv (.t 7))⟩,
         ⟨(some 28), none, .q (.mv (.t 7))⟩,
         ⟨(some 29), none, .q (.ixs 1 (.t 28) (.c (.int .i64 1)))⟩,
         ⟨(some 30), none, .q (.ld false 1 (.t 29))⟩,
         ⟨(some 31), none, .q (.ixs 1 (.t 27) (.c (.int .i64 0)))⟩,
         ⟨none, none, .m (.st false 1 (.t 31) (.t 30))⟩])
       .skip))
      .skip))))))
  (.seq (.reg [⟨(some 32), none, .q (.mv (.t 7))⟩,
     ⟨(some 6), none, .q (.mv (.t 32))⟩])
  .ret))))⟩
theorem l_spec_l01BadCode : lowF PA f_spec_l01BadCode 3 [] = some c_spec_l01BadCode := by kernel_rfl
abbrev f_impl_linearCode : FuncId := 27
def c_impl_linearCode : AF := ⟨3, 19, [.t 6],
  (.seq (.reg [⟨(some 3), none, .m (.box (.t 0))⟩,
     ⟨(some 6), none, .q (.mv (.c (.int .i64 0)))⟩])
  (.seq (.seq (.reg [⟨(some 8), none, .q (.ld true 1 (.t 3))⟩,
      ⟨(some 9), none, .q (.mv (.t 1))⟩,
      ⟨(some 10), none, .q (.mv (.t 2))⟩,
      ⟨(some 11), none, .c (.call 42 [(.t 8), (.t 9), (.t 10)])⟩,
      ⟨(some 7), none, .q (.mv (.t 11))⟩])
   (.seq (.reg [⟨(some 12), none, .q (.mv (.t 7))⟩,
      ⟨(some 13), none, .q (.bin .neq (.t 12) (.c (.int .i64 0)))⟩])
   (.cond (.t 13)
    (.seq (.reg [⟨(some 14), none, .q (.mv (.t 7))⟩,
       ⟨(some 6), none, .q (.mv (.t 14))⟩])
    .ret)
    .skip)))
  (.seq (.seq (.reg [⟨(some 15), none, .q (.ld true 1 (.t 3))⟩,
      ⟨(some 16), none, .q (.mv (.t 1))⟩,
      ⟨(some 17), none, .c (.call 62 [(.t 15), (.t 16)])⟩,
      ⟨(some 18), none, .q (.un .not (.t 17))⟩])
   (.cond (.t 18)
    (.seq (.reg [⟨(some 6), none, .q (.mv (.c (.int .i64 5)))⟩])
    .ret)
    .skip))
  (.seq (.reg [⟨(some 6), none, .q (.mv (.c (.int .i64 0)))⟩])
  .ret))))⟩
theorem l_impl_linearCode : lowF PA f_impl_linearCode 3 [] = some c_impl_linearCode := by kernel_rfl
abbrev f_impl_oppositeOf : FuncId := 28
def c_impl_oppositeOf : AF := ⟨2, 30, [.c 4 true 8],
  (.seq (.reg [⟨(some 2), none, .m (.box (.t 0))⟩,
     ⟨(some 3), none, .m (.box (.t 1))⟩,
     ⟨(some 4), none, .m (.alloc [(.v (.int .u8 0)), (.v (.int .u8 0)), (.v (.int .u8 0)), (.v (.int .u8 0)), (.v (.int .u8 0)), (.v (.int .u8 0)), (.v (.int .u8 0)), (.v (.int .u8 0))])⟩])
  (.seq (.reg [⟨(some 8), none, .q (.bld [(.v (.int .u8 0)), (.v (.int .u8 0)), (.v (.int .u8 0)), (.v (.int .u8 0)), (.v (.int .u8 0)), (.v (.int .u8 0)), (.v (.int .u8 0)), (.v (.int .u8 0))] [])⟩,
     ⟨(some 5), none, .m (.alloc [(.v (.int .u8 0)), (.v (.int .u8 0)), (.v (.int .u8 0)), (.v (.int .u8 0)), (.v (.int .u8 0)), (.v (.int .u8 0)), (.v (.int .u8 0)), (.v (.int .u8 0))])⟩,
     ⟨none, none, .m (.st true 8 (.t 5) (.t 8))⟩])
  (.seq (.seq (.reg [⟨(some 9), none, .q (.fad 0 (.t 2))⟩,
      ⟨(some 10), none, .q (.ld false 1 (.t 9))⟩,
      ⟨(some 11), none, .q (.len (.t 10))⟩,
      ⟨(some 12), none, .q (.mv (.c (.int .i64 0)))⟩])
   (.block 0 (.loop [3, 4, 5, 10, 11, 12] (.seq (.reg [⟨(some 13), none, .q (.bin .lss (.t 12) (.t 11))⟩])
     (.seq (.cond (.t 13)
       .skip
       (.exit 0))
     (.seq (.block 1 (.seq (.reg [⟨(some 14), none, .q (.mv (.t 12))⟩,
          ⟨(some 15), none, .q (.ixs 1 (.t 10) (.t 12))⟩,
          ⟨(some 16), none, .q (.ld false 1 (.t 15))⟩,
          ⟨(some 6), none, .q (.mv (.t 14))⟩,
          ⟨(some 7), none, .q (.mv (.t 16))⟩])
       (.reg [⟨(some 17), none, .q (.mv (.t 6))⟩,
         ⟨(some 18), none, .q (.mv (.t 7))⟩,
         ⟨(some 19), none, .q (.mv (.t 6))⟩,
         ⟨(some 20), none, .q (.ixa 8 1 (.t 3) (.t 19))⟩,
         ⟨(some 21), none, .q (.ld false 1 (.t 20))⟩,
         ⟨(some 22), none, .q (.cvt .i64 (.t 21))⟩,
         ⟨(some 23), none, .q (.bin .sub (.t 18) (.t 22))⟩,
         ⟨(some 24), none, .q (.mv (.t 7))⟩,
         ⟨(some 25), none, .q (.bin .rem (.t 23) (.t 24))⟩,
         ⟨(some 26), none, .q (.cvt .u8 (.t 25))⟩,
         ⟨(some 27), none, .q (.ixa 8 1 (.t 5) (.t 17))⟩,
         ⟨none, none, .m (.st false 1 (.t 27) (.t 26))⟩])))
     (.reg [⟨(some 28), none, .q (.bin .add (.t 12) (.c (.int .i64 1)))⟩,
       ⟨(some 12), none, .q (.mv (.t 28))⟩])))))))
  (.seq (.reg [⟨(some 29), none, .q (.ld true 8 (.t 5))⟩,
     ⟨none, none, .m (.st true 8 (.t 4) (.t 29))⟩])
  .ret))))⟩
theorem l_impl_oppositeOf : lowF PA f_impl_oppositeOf 2 [.k [3, 4, 5, 10, 11, 12]] = some c_impl_oppositeOf := by kernel_rfl
abbrev f_impl_digitsOf : FuncId := 29
def c_impl_digitsOf : AF := ⟨2, 34, [.c 4 true 8],
  (.seq (.reg [⟨(some 2), none, .m (.box (.t 0))⟩,
     ⟨(some 4), none, .m (.alloc [(.v (.int .u8 0)), (.v (.int .u8 0)), (.v (.int .u8 0)), (.v (.int .u8 0)), (.v (.int .u8 0)), (.v (.int .u8 0)), (.v (.int .u8 0)), (.v (.int .u8 0))])⟩])
  (.seq (.reg [⟨(some 7), none, .q (.bld [(.v (.int .u8 0)), (.v (.int .u8 0)), (.v (.int .u8 0)), (.v (.int .u8 0)), (.v (.int .u8 0)), (.v (.int .u8 0)), (.v (.int .u8 0)), (.v (.int .u8 0))] [])⟩,
     ⟨(some 5), none, .m (.alloc [(.v (.int .u8 0)), (.v (.int .u8 0)), (.v (.int .u8 0)), (.v (.int .u8 0)), (.v (.int .u8 0)), (.v (.int .u8 0)), (.v (.int .u8 0)), (.v (.int .u8 0))])⟩,
     ⟨none, none, .m (.st true 8 (.t 5) (.t 7))⟩])
  (.seq (.seq (.reg [⟨(some 8), none, .q (.fad 0 (.t 2))⟩,
      ⟨(some 9), none, .q (.ld false 1 (.t 8))⟩,
      ⟨(some 10), none, .q (.len (.t 9))⟩,
      ⟨(some 11), none, .q (.bin .sub (.t 10) (.c (.int .i64 1)))⟩,
      ⟨(some 6), none, .q (.mv (.t 11))⟩])
   (.block 0 (.loop [1, 2, 4, 5, 6] (.seq (.seq (.reg [⟨(some 12), none, .q (.mv (.t 6))⟩,
         ⟨(some 13), none, .q (.bin .geq (.t 12) (.c (.int .i64 0)))⟩])
      (.cond (.t 13)
       .skip
       (.exit 0)))
     (.seq (.block 1 (.seq (.reg [⟨(some 16), none, .q (.mv (.t 6))⟩,
          ⟨(some 17), none, .q (.mv (.t 1))⟩,
          ⟨(some 18), none, .q (.fad 0 (.t 2))⟩,
          ⟨(some 19), none, .q (.ld false 1 (.t 18))⟩,
          ⟨(some 20), none, .q (.mv (.t 6))⟩,
          ⟨(some 21), none, .q (.ixs 1 (.t 19) (.t 20))⟩,
          ⟨(some 22), none, .q (.ld false 1 (.t 21))⟩,
          ⟨(some 23), none, .q (.bin .rem (.t 17) (.t 22))⟩,
          ⟨(some 24), none, .q (.cvt .u8 (.t 23))⟩,
          ⟨(some 25), none, .q (.ixa 8 1 (.t 5) (.t 16))⟩,
          ⟨none, none, .m (.st false 1 (.t 25) (.t 24))⟩])
       (.reg [⟨(some 26), none, .q (.mv (.t 1))⟩,
         ⟨(some 27), none, .q (.fad 0 (.t 2))⟩,
         ⟨(some 28), none, .q (.ld false 1 (.t 27))⟩,
         ⟨(some 29), none, .q (.mv (.t 6))⟩,
         ⟨(some 30), none, .q (.ixs 1 (.t 28) (.t 29))⟩,
         ⟨(some 31), none, .q (.ld false 1 (.t 30))⟩,
         ⟨(some 32), none, .q (.bin .quo (.t 26) (.t 31))⟩,
         ⟨(some 1), none, .q (.mv (.t 32))⟩])))
     (.reg [⟨(some 14), none, .q (.mv (.t 6))⟩,
       ⟨(some 15), none, .q (.bin .sub (.t 14) (.c (.int .i64 1)))⟩,
       ⟨(some 6), none, .q (.mv (.t 15))⟩]))))))
  (.seq (.reg [⟨(some 33), none, .q (.ld true 8 (.t 5))⟩,
     ⟨none, none, .m (.st true 8 (.t 4) (.t 33))⟩])
  .ret))))⟩
theorem l_impl_digitsOf : lowF PA f_impl_digitsOf 2 [.k [1, 2, 4, 5, 6]] = some c_impl_digitsOf := by kernel_rfl
abbrev f_impl_leaders : FuncId := 30
def c_impl_leaders : AF := ⟨2, 60, [.t 4],
  (.seq (.reg [⟨(some 2), none, .m (.box (.t 0))⟩,
     ⟨(some 4), none, .q (.mv (.c (.slice none 0 0)))⟩])
  (.seq (.reg [⟨(some 12), none, .m (.bsl 1 [(.c (.int .i64 (-1)))])⟩,
     ⟨(some 13), none, .q (.ld true 1 (.t 2))⟩,
     ⟨(some 14), none, .c (.call 47 [(.t 13)])⟩,
     ⟨(some 15), none, .c (.call 63 [(.t 12), (.t 14)])⟩,
     ⟨(some 5), none, .q (.mv (.t 15))⟩])
  (.seq (.reg [⟨(some 16), none, .q (.ld true 1 (.t 2))⟩,
     ⟨(some 17), none, .c (.call 64 [(.t 16)])⟩,
     ⟨(some 6), none, .q (.mv (.t 17))⟩])
  (.seq (.seq (.reg [⟨(some 18), none, .q (.ld true 1 (.t 2))⟩,
      ⟨(some 19), none, .c (.call 65 [(.t 18)])⟩,
      ⟨(some 20), none, .q (.bin .add (.t 19) (.c (.int .i64 1)))⟩,
      ⟨(some 21), none, .q (.mv (.c (.int .i64 0)))⟩])
   (.block 0 (.loop [1, 2, 5, 6, 20, 21] (.seq (.reg [⟨(some 22), none, .q (.bin .lss (.t 21) (.t 20))⟩])
     (.seq (.cond (.t 22)
       .skip
       (.exit 0))
     (.seq (.block 1 (.seq (.reg [⟨(some 23), none, .q (.mv (.t 21))⟩,
          ⟨(some 7), none, .q (.mv (.t 23))⟩])
       (.seq (.reg [⟨(some 24), none, .q (.mv (.t 6))⟩,
          ⟨(some 25), none, .q (.len (.t 24))⟩,
          ⟨(some 26), none, .q (.mv (.c (.int .i64 0)))⟩])
       (.block 2 (.loop [1, 2, 5, 6, 7, 20, 21, 24, 25, 26] (.seq (.reg [⟨(some 27), none, .q (.bin .lss (.t 26) (.t 25))⟩])
         (.seq (.cond (.t 27)
           .skip
           (.exit 2))
         (.seq (.block 3 (.seq (.reg [⟨(some 28), none, .q (.mv (.t 26))⟩,
              ⟨(some 29), none, .q (.ixs 8 (.t 24) (.t 26))⟩,
              ⟨(some 30), none, .q (.ld true 8 (.t 29))⟩,
              ⟨(some 9), none, .m (.alloc [(.v (.int .u8 0)), (.v (.int .u8 0)), (.v (.int .u8 0)), (.v (.int .u8 0)), (.v (.int .u8 0)), (.v (.int .u8 0)), (.v (.int .u8 0)), (.v (.int .u8 0))])⟩,
              ⟨(some 8), none, .q (.mv (.t 28))⟩,
              ⟨none, none, .m (.st true 8 (.t 9) (.t 30))⟩])
           (.seq (.seq (.reg [⟨(some 31), none, .q (.mv (.t 5))⟩,
               ⟨(some 32), none, .q (.mv (.t 8))⟩,
               ⟨(some 33), none, .q (.ixs 1 (.t 31) (.t 32))⟩,
               ⟨(some 34), none, .q (.ld false 1 (.t 33))⟩,
               ⟨(some 35), none, .q (.bin .geq (.t 34) (.c (.int .i64 0)))⟩,
               ⟨(some 36), none, .q (.mv (.t 35))⟩,
               ⟨(some 37), (some (36, false)), .q (.ld true 8 (.t 9))⟩,
               ⟨(some 38), (some (36, false)), .q (.bld [(.v (.int .u8 0)), (.v (.int .u8 0)), (.v (.int .u8 0)), (.v (.int .u8 0)), (.v (.int .u8 0)), (.v (.int .u8 0)), (.v (.int .u8 0)), (.v (.int .u8 0))] [])⟩,
               ⟨(some 39), (some (36, false)), .c (.call 40 [(.t 37), (.t 38)])⟩,
               ⟨(some 40), (some (36, false)), .q (.mv (.t 7))⟩,
               ⟨(some 41), (some (36, false)), .q (.bin .neq (.t 39) (.t 40))⟩,
               ⟨(some 42), none, .q (.pick (.t 36) (.c (.bool true)) (.t 41))⟩])
            (.cond (.t 42)
             (.exit 3)
             .skip))
           (.seq (.reg [⟨(some 43), none, .q (.ld true 1 (.t 2))⟩,
              ⟨(some 44), none, .q (.mv (.t 1))⟩,
              ⟨(some 45), none, .q (.mv (.t 8))⟩,
              ⟨(some 46), none, .c (.call 66 [(.t 43), (.t 44), (.t 45)])⟩,
              ⟨(some 47), none, .q (.len (.t 46))⟩,
              ⟨(some 48), none, .q (.mv (.c (.int .i64 0)))⟩])
           (.block 4 (.loop [1, 2, 5, 6, 7, 8, 20, 21, 24, 25, 26, 46, 47, 48] (.seq (.reg [⟨(some 49), none, .q (.bin .lss (.t 48) (.t 47))⟩])
             (.seq (.cond (.t 49)
               .skip
               (.exit 4))
             (.seq (.block 5 (.seq (.reg [⟨(some 50), none, .q (.ixs 1 (.t 46) (.t 48))⟩,
                  ⟨(some 51), none, .q (.ld false 1 (.t 50))⟩,
                  ⟨(some 11), none, .q (.mv (.t 51))⟩])
               (.reg [⟨(some 52), none, .q (.mv (.t 5))⟩,
                 ⟨(some 53), none, .q (.mv (.t 11))⟩,
                 ⟨(some 54), none, .q (.mv (.t 8))⟩,
                 ⟨(some 55), none, .q (.ixs 1 (.t 52) (.t 53))⟩,
                 ⟨none, none, .m (.st false 1 (.t 55) (.t 54))⟩])))
             (.reg [⟨(some 56), none, .q (.bin .add (.t 48) (.c (.int .i64 1)))⟩,
               ⟨(some 48), none, .q (.mv (.t 56))⟩]))))))))))
         (.reg [⟨(some 57), none, .q (.bin .add (.t 26) (.c (.int .i64 1)))⟩,
           ⟨(some 26), none, .q (.mv (.t 57))⟩])))))))))
     (.reg [⟨(some 58), none, .q (.bin .add (.t 21) (.c (.int .i64 1)))⟩,
       ⟨(some 21), none, .q (.mv (.t 58))⟩])))))))
  (.seq (.reg [⟨(some 59), none, .q (.mv (.t 5))⟩,
     ⟨(some 4), none, .q (.mv (.t 59))⟩])
  .ret)))))⟩
theorem l_impl_leaders : lowF PA f_impl_leaders 2 [.k [1, 2, 5, 6, 20, 21], .k [1, 2, 5, 6, 7, 20, 21, 24, 25, 26], .k [1, 2, 5, 6, 7, 8, 20, 21, 24, 25, 26, 46, 47, 48]] = some c_impl_leaders := by kernel_rfl
abbrev f_impl_wordOf : FuncId := 31
def c_impl_wordOf : AF := ⟨2, 26, [.t 4],
  (.seq (.reg [⟨(some 2), none, .m (.box (.t 0))⟩,
     ⟨(some 3), none, .m (.box (.t 1))⟩,
     ⟨(some 4), none, .q (.mv (.c (.int .i64 0)))⟩])
  (.seq (.reg [⟨(some 5), none, .q (.mv (.c (.int .i64 0)))⟩])
  (.seq (.seq (.reg [⟨(some 8), none, .q (.fad 0 (.t 2))⟩,
      ⟨(some 9), none, .q (.ld false 1 (.t 8))⟩,
      ⟨(some 10), none, .q (.len (.t 9))⟩,
      ⟨(some 11), none, .q (.mv (.c (.int .i64 0)))⟩])
   (.block 0 (.loop [3, 5, 9, 10, 11] (.seq (.reg [⟨(some 12), none, .q (.bin .lss (.t 11) (.t 10))⟩])
     (.seq (.cond (.t 12)
       .skip
       (.exit 0))
     (.seq (.block 1 (.seq (.reg [⟨(some 13), none, .q (.mv (.t 11))⟩,
          ⟨(some 14), none, .q (.ixs 1 (.t 9) (.t 11))⟩,
          ⟨(some 15), none, .q (.ld false 1 (.t 14))⟩,
          ⟨(some 6), none, .q (.mv (.t 13))⟩,
          ⟨(some 7), none, .q (.mv (.t 15))⟩])
       (.reg [⟨(some 16), none, .q (.mv (.t 5))⟩,
         ⟨(some 17), none, .q (.mv (.t 7))⟩,
         ⟨(some 18), none, .q (.bin .mul (.t 16) (.t 17))⟩,
         ⟨(some 19), none, .q (.mv (.t 6))⟩,
         ⟨(some 20), none, .q (.ixa 8 1 (.t 3) (.t 19))⟩,
         ⟨(some 21), none, .q (.ld false 1 (.t 20))⟩,
         ⟨(some 22), none, .q (.cvt .i64 (.t 21))⟩,
         ⟨(some 23), none, .q (.bin .add (.t 18) (.t 22))⟩,
         ⟨(some 5), none, .q (.mv (.t 23))⟩])))
     (.reg [⟨(some 24), none, .q (.bin .add (.t 11) (.c (.int .i64 1)))⟩,
       ⟨(some 11), none, .q (.mv (.t 24))⟩])))))))
  (.seq (.reg [⟨(some 25), none, .q (.mv (.t 5))⟩,
     ⟨(some 4), none, .q (.mv (.t 25))⟩])
  .ret))))⟩
theorem l_impl_wordOf : lowF PA f_impl_wordOf 2 [.k [3, 5, 9, 10, 11]] = some c_impl_wordOf := by kernel_rfl
abbrev f_impl_sumOf : FuncId := 32
def c_impl_sumOf : AF := ⟨3, 35, [.c 6 true 8],
  (.seq (.reg [⟨(some 3), none, .m (.box (.t 0))⟩,
     ⟨(some 4), none, .m (.box (.t 1))⟩,
     ⟨(some 5), none, .m (.box (.t 2))⟩,
     ⟨(some 6), none, .m (.alloc [(.v (.int .u8 0)), (.v (.int .u8 0)), (.v (.int .u8 0)), (.v (.int .u8 0)), (.v (.int .u8 0)), (.v (.int .u8 0)), (.v (.int .u8 0)), (.v (.int .u8 0))])⟩])
  (.seq (.reg [⟨(some 10), none, .q (.bld [(.v (.int .u8 0)), (.v (.int .u8 0)), (.v (.int .u8 0)), (.v (.int .u8 0)), (.v (.int .u8 0)), (.v (.int .u8 0)), (.v (.int .u8 0)), (.v (.int .u8 0))] [])⟩,
     ⟨(some 7), none, .m (.alloc [(.v (.int .u8 0)), (.v (.int .u8 0)), (.v (.int .u8 0)), (.v (.int .u8 0)), (.v (.int .u8 0)), (.v (.int .u8 0)), (.v (.int .u8 0)), (.v (.int .u8 0))])⟩,
     ⟨none, none, .m (.st true 8 (.t 7) (.t 10))⟩])
  (.seq (.seq (.reg [⟨(some 11), none, .q (.fad 0 (.t 3))⟩,
      ⟨(some 12), none, .q (.ld false 1 (.t 11))⟩,
      ⟨(some 13), none, .q (.len (.t 12))⟩,
      ⟨(some 14), none, .q (.mv (.c (.int .i64 0)))⟩])
   (.block 0 (.loop [4, 5, 6, 7, 12, 13, 14] (.seq (.reg [⟨(some 15), none, .q (.bin .lss (.t 14) (.t 13))⟩])
     (.seq (.cond (.t 15)
       .skip
       (.exit 0))
     (.seq (.block 1 (.seq (.reg [⟨(some 16), none, .q (.mv (.t 14))⟩,
          ⟨(some 17), none, .q (.ixs 1 (.t 12) (.t 14))⟩,
          ⟨(some 18), none, .q (.ld false 1 (.t 17))⟩,
          ⟨(some 8), none, .q (.mv (.t 16))⟩,
          ⟨(some 9), none, .q (.mv (.t 18))⟩])
       (.sch (.take 0 ⟨(some 19), none, .q (.mv (.t 8))⟩ (.take 1 ⟨(some 20), none, .q (.mv (.t 8))⟩ (.take 2 ⟨(some 21), none, .q (.ixa 8 1 (.t 4) (.t 20))⟩ (.take 3 ⟨(some 22), none, .q (.ld false 1 (.t 21))⟩ (.take 4 ⟨(some 23), none, .q (.cvt .i64 (.t 22))⟩ (.take 5 ⟨(some 24), none, .q (.mv (.t 8))⟩ (.take 6 ⟨(some 25), none, .q (.ixa 8 1 (.t 5) (.t 24))⟩ (.take 7 ⟨(some 26), none, .q (.ld false 1 (.t 25))⟩ (.take 8 ⟨(some 27), none, .q (.cvt .i64 (.t 26))⟩ (.take 9 ⟨(some 28), none, .q (.bin .add (.t 23) (.t 27))⟩ (.take 10 ⟨(some 29), none, .q (.mv (.t 9))⟩ (.take 11 ⟨(some 30), none, .q (.bin .rem (.t 28) (.t 29))⟩ (.take 12 ⟨(some 31), none, .q (.cvt .u8 (.t 30))⟩ (.take 13 ⟨(some 32), none, .q (.ixa 8 1 (.t 7) (.t 19))⟩ (.one ⟨none, none, .m (.st false 1 (.t 32) (.t 31))⟩ [7, 3] .done))))))))))))))))))
     (.reg [⟨(some 33), none, .q (.bin .add (.t 14) (.c (.int .i64 1)))⟩,
       ⟨(some 14), none, .q (.mv (.t 33))⟩])))))))
  (.seq (.reg [⟨(some 34), none, .q (.ld true 8 (.t 7))⟩,
     ⟨none, none, .m (.st true 8 (.t 6) (.t 34))⟩])
  .ret))))⟩
theorem l_impl_sumOf : lowF PA f_impl_sumOf 3 [.k [4, 5, 6, 7, 12, 13, 14], .s (.take 0 (.take 1 (.take 2 (.take 3 (.take 4 (.take 5 (.take 6 (.take 7 (.take 8 (.take 9 (.take 10 (.take 11 (.take 12 (.take 13 (.one 14 .done)))))))))))))))] = some c_impl_sumOf := by kernel_rfl
abbrev f_spec_l01Words : FuncId := 33
def c_spec_l01Words : AF := ⟨2, 24, [.t 4],
  (.seq (.reg [⟨(some 2), none, .m (.box (.t 0))⟩,
     ⟨(some 4), none, .q (.mv (.c (.int .i64 0)))⟩])
  (.seq (.seq (.reg [⟨(some 6), none, .q (.ld true 1 (.t 2))⟩,
      ⟨(some 7), none, .c (.call 67 [(.t 6)])⟩,
      ⟨(some 8), none, .q (.un .not (.t 7))⟩])
   (.cond (.t 8)
    (.seq (.reg [⟨(some 4), none, .q (.mv (.c (.int .i64 1)))⟩])
    .ret)
    .skip))
  (.seq (.seq (.reg [⟨(some 5), none, .q (.mv (.c (.int .i64 0)))⟩])
   (.block 0 (.loop [1, 2, 5] (.seq (.seq (.reg [⟨(some 9), none, .q (.mv (.t 5))⟩,
         ⟨(some 10), none, .q (.mv (.t 1))⟩,
         ⟨(some 11), none, .q (.len (.t 10))⟩,
         ⟨(some 12), none, .q (.bin .lss (.t 9) (.t 11))⟩])
      (.cond (.t 12)
       .skip
       (.exit 0)))
     (.seq (.block 1 (.seq (.sch (.take 0 ⟨(some 15), none, .q (.mv (.t 1))⟩ (.take 1 ⟨(some 16), none, .q (.mv (.t 5))⟩ (.take 2 ⟨(some 17), none, .q (.ixs 1 (.t 15) (.t 16))⟩ (.take 3 ⟨(some 18), none, .q (.ld false 1 (.t 17))⟩ (.take 4 ⟨(some 19), none, .q (.ld true 1 (.t 2))⟩ (.one ⟨(some 20), none, .c (.call 24 [(.t 19)])⟩ [4] (.take 6 ⟨(some 21), none, .q (.bin .sub (.t 20) (.c (.int .i64 1)))⟩ (.one ⟨(some 22), none, .c (.call 68 [(.t 18), (.c (.int .i64 0)), (.t 21)])⟩ [3] (.take 8 ⟨(some 23), none, .q (.un .not (.t 22))⟩ .done))))))))))
       (.cond (.t 23)
        (.seq (.reg [⟨(some 4), none, .q (.mv (.c (.int .i64 2)))⟩])
        .ret)
        .skip)))
     (.reg [⟨(some 13), none, .q (.mv (.t 5))⟩,
       ⟨(some 14), none, .q (.bin .add (.t 13) (.c (.int .i64 1)))⟩,
       ⟨(some 5), none, .q (.mv (.t 14))⟩]))))))
  (.seq (.reg [⟨(some 4), none, .q (.mv (.c (.int .i64 0)))⟩])
  .ret))))⟩
theorem l_spec_l01Words : lowF PA f_spec_l01Words 2 [.k [1, 2, 5], .s (.take 0 (.take 1 (.take 2 (.take 3 (.take 4 (.one 5 (.take 6 (.one 7 (.take 8 .done)))))))))] = some c_spec_l01Words := by kernel_rfl
abbrev f_spec_l05Given : FuncId := 34
def c_spec_l05Given : AF := ⟨2, 18, [.t 4],
  (.seq (.reg [⟨(some 2), none, .m (.box (.t 0))⟩,
     ⟨(some 4), none, .q (.mv (.c (.int .i64 0)))⟩])
  (.seq (.reg [⟨(some 6), none, .q (.ld true 1 (.t 2))⟩,
     ⟨(some 7), none, .q (.mv (.t 1))⟩,
     ⟨(some 8), none, .c (.call 44 [(.t 6), (.t 7)])⟩,
     ⟨(some 5), none, .q (.mv (.t 8))⟩])
  (.seq (.seq (.reg [⟨(some 9), none, .q (.mv (.t 5))⟩,
      ⟨(some 10), none, .q (.bin .eql (.t 9) (.c (.int .i64 0)))⟩,
      ⟨(some 11), none, .q (.mv (.t 10))⟩,
      ⟨(some 12), (some (11, true)), .q (.ld true 1 (.t 2))⟩,
      ⟨(some 13), (some (11, true)), .q (.mv (.t 1))⟩,
      ⟨(some 14), (some (11, true)), .c (.call 69 [(.t 12), (.t 13)])⟩,
      ⟨(some 15), (some (11, true)), .q (.un .not (.t 14))⟩,
      ⟨(some 16), none, .q (.pick (.t 11) (.t 15) (.c (.bool false)))⟩])
   (.cond (.t 16)
    (.seq (.reg [⟨(some 4), none, .q (.mv (.c (.int .i64 5)))⟩])
    .ret)
    .skip))
  (.seq (.reg [⟨(some 17), none, .q (.mv (.t 5))⟩,
     ⟨(some 4), none, .q (.mv (.t 17))⟩])
  .ret))))⟩
theorem l_spec_l05Given : lowF PA f_spec_l05Given 2 [] = some c_spec_l05Given := by kernel_rfl
abbrev f_spec_l05Leader : FuncId := 35
def c_spec_l05Leader : AF := ⟨3, 38, [.t 6],
  (.seq (.reg [⟨(some 3), none, .m (.box (.t 0))⟩,
     ⟨(some 6), none, .q (.mv (.c (.int .i64 0)))⟩])
  (.seq (.reg [⟨(some 10), none, .q (.ld true 1 (.t 3))⟩,
     ⟨(some 11), none, .q (.mv (.t 1))⟩,
     ⟨(some 12), none, .q (.mv (.t 2))⟩,
     ⟨(some 13), none, .c (.call 70 [(.t 10), (.t 11), (.t 12)])⟩,
     ⟨(some 7), none, .q (.mv (.t 13))⟩])
  (.seq (.reg [⟨(some 14), none, .q (.mv (.t 7))⟩,
     ⟨(some 15), none, .q (.ixs 1 (.t 14) (.c (.int .i64 0)))⟩,
     ⟨(some 16), none, .q (.ld false 1 (.t 15))⟩,
     ⟨(some 8), none, .q (.mv (.t 16))⟩])
  (.seq (.seq (.reg [⟨(some 17), none, .q (.mv (.t 7))⟩,
      ⟨(some 18), none, .q (.len (.t 17))⟩,
      ⟨(some 19), none, .q (.mv (.c (.int .i64 0)))⟩])
   (.block 0 (.loop [3, 7, 8, 18, 19] (.seq (.reg [⟨(some 20), none, .q (.bin .lss (.t 19) (.t 18))⟩])
     (.seq (.cond (.t 20)
       .skip
       (.exit 0))
     (.seq (.block 1 (.seq (.reg [⟨(some 21), none, .q (.mv (.t 19))⟩,
          ⟨(some 9), none, .q (.mv (.t 21))⟩])
       (.seq (.sch (.take 0 ⟨(some 22), none, .q (.ld true 1 (.t 3))⟩ (.take 1 ⟨(some 23), none, .q (.mv (.t 7))⟩ (.take 2 ⟨(some 24), none, .q (.mv (.t 9))⟩ (.take 3 ⟨(some 25), none, .q (.ixs 1 (.t 23) (.t 24))⟩ (.take 4 ⟨(some 26), none, .q (.ld false 1 (.t 25))⟩ (.take 6 ⟨(some 28), none, .q (.ld true 1 (.t 3))⟩ (.take 7 ⟨(some 29), none, .q (.mv (.t 8))⟩ (.one ⟨(some 27), none, .c (.call 41 [(.t 22), (.c (.int .i64 0)), (.t 26)])⟩ [4, 0] (.one ⟨(some 30), none, .c (.call 41 [(.t 28), (.c (.int .i64 0)), (.t 29)])⟩ [6] (.take 9 ⟨(some 31), none, .q (.bin .lss (.t 27) (.t 30))⟩ .done)))))))))))
       (.cond (.t 31)
        (.reg [⟨(some 32), none, .q (.mv (.t 7))⟩,
          ⟨(some 33), none, .q (.mv (.t 9))⟩,
          ⟨(some 34), none, .q (.ixs 1 (.t 32) (.t 33))⟩,
          ⟨(some 35), none, .q (.ld false 1 (.t 34))⟩,
          ⟨(some 8), none, .q (.mv (.t 35))⟩])
        .skip))))
     (.reg [⟨(some 36), none, .q (.bin .add (.t 19) (.c (.int .i64 1)))⟩,
       ⟨(some 19), none, .q (.mv (.t 36))⟩])))))))
  (.seq (.reg [⟨(some 37), none, .q (.mv (.t 8))⟩,
     ⟨(some 6), none, .q (.mv (.t 37))⟩])
  .ret)))))⟩
theorem l_spec_l05Leader : lowF PA f_spec_l05Leader 3 [.k [3, 7, 8, 18, 19], .s (.take 0 (.take 1 (.take 2 (.take 3 (.take 4 (.take 6 (.take 7 (.one 5 (.one 8 (.take 9 .done))))))))))] = some c_spec_l05Leader := by kernel_rfl
abbrev f_spec_l01Sum : FuncId := 36
def c_spec_l01Sum : AF := ⟨3, 43, [.t 6],
  (.seq (.reg [⟨(some 3), none, .m (.box (.t 0))⟩,
     ⟨(some 6), none, .q (.mv (.c (.int .i64 0)))⟩])
  (.seq (.sch (.take 0 ⟨(some 10), none, .q (.ld true 1 (.t 3))⟩ (.take 1 ⟨(some 11), none, .q (.mv (.t 1))⟩ (.take 3 ⟨(some 13), none, .q (.ld true 1 (.t 3))⟩ (.take 4 ⟨(some 14), none, .q (.mv (.t 2))⟩ (.one ⟨(some 12), none, .c (.call 71 [(.t 10), (.t 11)])⟩ [0] (.one ⟨(some 15), none, .c (.call 71 [(.t 13), (.t 14)])⟩ [3] (.take 6 ⟨(some 7), none, .q (.mv (.t 12))⟩ (.take 7 ⟨(some 8), none, .q (.mv (.t 15))⟩ .done)))))))))
  (.seq (.seq (.reg [⟨(some 16), none, .q (.mv (.t 7))⟩,
      ⟨(some 17), none, .q (.len (.t 16))⟩,
      ⟨(some 18), none, .q (.mv (.c (.int .i64 0)))⟩])
   (.block 0 (.loop [3, 7, 8, 17, 18] (.seq (.reg [⟨(some 19), none, .q (.bin .lss (.t 18) (.t 17))⟩])
     (.seq (.cond (.t 19)
       .skip
       (.exit 0))
     (.seq (.block 1 (.seq (.reg [⟨(some 20), none, .q (.mv (.t 18))⟩,
          ⟨(some 9), none, .q (.mv (.t 20))⟩])
       (.sch (.take 0 ⟨(some 21), none, .q (.mv (.t 7))⟩ (.take 1 ⟨(some 22), none, .q (.mv (.t 9))⟩ (.take 2 ⟨(some 23), none, .q (.mv (.t 7))⟩ (.take 3 ⟨(some 24), none, .q (.mv (.t 9))⟩ (.take 4 ⟨(some 25), none, .q (.ixs 1 (.t 23) (.t 24))⟩ (.take 5 ⟨(some 26), none, .q (.ld false 1 (.t 25))⟩ (.take 6 ⟨(some 27), none, .q (.mv (.t 8))⟩ (.take 7 ⟨(some 28), none, .q (.mv (.t 9))⟩ (.take 8 ⟨(some 29), none, .q (.ixs 1 (.t 27) (.t 28))⟩ (.take 9 ⟨(some 30), none, .q (.ld false 1 (.t 29))⟩ (.take 10 ⟨(some 31), none, .q (.bin .add (.t 26) (.t 30))⟩ (.take 11 ⟨(some 32), none, .q (.fad 0 (.t 3))⟩ (.take 12 ⟨(some 33), none, .q (.ld false 1 (.t 32))⟩ (.take 13 ⟨(some 34), none, .q (.mv (.t 9))⟩ (.take 14 ⟨(some 35), none, .q (.ixs 1 (.t 33) (.t 34))⟩ (.take 15 ⟨(some 36), none, .q (.ld false 1 (.t 35))⟩ (.take 16 ⟨(some 37), none, .q (.bin .rem (.t 31) (.t 36))⟩ (.take 17 ⟨(some 38), none, .q (.ixs 1 (.t 21) (.t 22))⟩ (.one ⟨none, none, .m (.st false 1 (.t 38) (.t 37))⟩ [15, 12, 9, 5] .done))))))))))))))))))))))
     (.reg [⟨(some 39), none, .q (.bin .add (.t 18) (.c (.int .i64 1)))⟩,
       ⟨(some 18), none, .q (.mv (.t 39))⟩])))))))
  (.seq (.reg [⟨(some 40), none, .q (.ld true 1 (.t 3))⟩,
     ⟨(some 41), none, .q (.mv (.t 7))⟩,
     ⟨(some 42), none, .c (.call 72 [(.t 40), (.t 41)])⟩,
     ⟨(some 6), none, .q (.mv (.t 42))⟩])
  .ret))))⟩
theorem l_spec_l01Sum : lowF PA f_spec_l01Sum 3 [.s (.take 0 (.take 1 (.take 3 (.take 4 (.one 2 (.one 5 (.take 6 (.take 7 .done)))))))), .k [3, 7, 8, 17, 18], .s (.take 0 (.take 1 (.take 2 (.take 3 (.take 4 (.take 5 (.take 6 (.take 7 (.take 8 (.take 9 (.take 10 (.take 11 (.take 12 (.take 13 (.take 14 (.take 15 (.take 16 (.take 17 (.one 18 .done)))))))))))))))))))] = some c_spec_l01Sum := by kernel_rfl
abbrev f_slices_Sort___int64_int64_ : FuncId := 37
def c_slices_Sort___int64_int64_ : AF := ⟨1, 11, [],
  (.seq (.reg [⟨(some 3), none, .q (.mv (.t 0))⟩,
     ⟨(some 4), none, .q (.len (.t 3))⟩,
     ⟨(some 2), none, .q (.mv (.t 4))⟩])
  (.reg [⟨(some 5), none, .q (.mv (.t 0))⟩,
    ⟨(some 6), none, .q (.mv (.t 2))⟩,
    ⟨(some 7), none, .q (.mv (.t 2))⟩,
    ⟨(some 8), none, .q (.cvt .u64 (.t 7))⟩,
    ⟨(some 9), none, .c (.call 74 [(.t 8)])⟩,
    ⟨(some 10), none, .c (.call 73 [(.t 5), (.c (.int .i64 0)), (.t 6), (.t 9)])⟩]))⟩
theorem l_slices_Sort___int64_int64_ : lowF PA f_slices_Sort___int64_int64_ 1 [] = some c_slices_Sort___int64_int64_ := by kernel_rfl
abbrev f_slices_Compact___int64_int64_ : FuncId := 38
def c_slices_Compact___int64_int64_ : AF := ⟨1, 61, [.t 2],
  (.seq (.reg [⟨(some 2), none, .q (.mv (.c (.slice none 0 0)))⟩])
  (.seq (.seq (.reg [⟨(some 6), none, .q (.mv (.t 0))⟩,
      ⟨(some 7), none, .q (.len (.t 6))⟩,
      ⟨(some 8), none, .q (.bin .lss (.t 7) (.c (.int .i64 2)))⟩])
   (.cond (.t 8)
    (.seq (.reg [⟨(some 9), none, .q (.mv (.t 0))⟩,
       ⟨(some 2), none, .q (.mv (.t 9))⟩])
    .ret)
    .skip))
  (.seq (.seq (.reg [⟨(some 3), none, .q (.mv (.c (.int .i64 1)))⟩])
   (.block 0 (.loop [0, 3, 61] (.seq (.seq (.reg [⟨(some 10), none, .q (.mv (.t 3))⟩,
         ⟨(some 11), none, .q (.mv (.t 0))⟩,
         ⟨(some 12), none, .q (.len (.t 11))⟩,
         ⟨(some 13), none, .q (.bin .lss (.t 10) (.t 12))⟩])
      (.cond (.t 13)
       .skip
       (.exit 0)))
     (.seq (.block 1 (.seq (.sch (.take 0 ⟨(some 16), none, .q (.mv (.t 0))⟩ (.take 1 ⟨(some 17), none, .q (.mv (.t 3))⟩ (.take 2 ⟨(some 18), none, .q (.ixs 1 (.t 16) (.t 17))⟩ (.take 3 ⟨(some 19), none, .q (.ld false 1 (.t 18))⟩ (.take 4 ⟨(some 20), none, .q (.mv (.t 0))⟩ (.take 5 ⟨(some 21), none, .q (.mv (.t 3))⟩ (.take 6 ⟨(some 22), none, .q (.bin .sub (.t 21) (.c (.int .i64 1)))⟩ (.take 7 ⟨(some 23), none, .q (.ixs 1 (.t 20) (.t 22))⟩ (.take 8 ⟨(some 24), none, .q (.ld false 1 (.t 23))⟩ (.take 9 ⟨(some 25), none, .q (.bin .eql (.t 19) (.t 24))⟩ .done)))))))))))
       (.cond (.t 25)
        (.seq (.reg [⟨(some 26), none, .q (.mv (.t 0))⟩,
           ⟨(some 27), none, .q (.mv (.t 3))⟩,
           ⟨(some 28), none, .q (.slc 1 (.t 26) (some (.t 27)) none)⟩,
           ⟨(some 4), none, .q (.mv (.t 28))⟩])
        (.seq (.seq (.reg [⟨(some 5), none, .q (.mv (.c (.int .i64 1)))⟩])
         (.block 2 (.loop [0, 3, 4, 5, 61] (.seq (.seq (.reg [⟨(some 29), none, .q (.mv (.t 5))⟩,
               ⟨(some 30), none, .q (.mv (.t 4))⟩,
               ⟨(some 31), none, .q (.len (.t 30))⟩,
               ⟨(some 32), none, .q (.bin .lss (.t 29) (.t 31))⟩])
            (.cond (.t 32)
             .skip
             (.exit 2)))
           (.seq (.block 3 (.seq (.sch (.take 0 ⟨(some 35), none, .q (.mv (.t 4))⟩ (.take 1 ⟨(some 36), none, .q (.mv (.t 5))⟩ (.take 2 ⟨(some 37), none, .q (.ixs 1 (.t 35) (.t 36))⟩ (.take 3 ⟨(some 38), none, .q (.ld false 1 (.t 37))⟩ (.take 4 ⟨(some 39), none, .q (.mv (.t 4))⟩ (.take 5 ⟨(some 40), none, .q (.mv (.t 5))⟩ (.take 6 ⟨(some 41), none, .q (.bin .sub (.t 40) (.c (.int .i64 1)))⟩ (.take 7 ⟨(some 42), none, .q (.ixs 1 (.t 39) (.t 41))⟩ (.take 8 ⟨(some 43), none, .q (.ld false 1 (.t 42))⟩ (.take 9 ⟨(some 44), none, .q (.bin .neq (.t 38) (.t 43))⟩ .done)))))))))))
             (.cond (.t 44)
              (.seq (.reg [⟨(some 45), none, .q (.mv (.t 0))⟩,
                 ⟨(some 46), none, .q (.mv (.t 3))⟩,
                 ⟨(some 47), none, .q (.mv (.t 4))⟩,
                 ⟨(some 48), none, .q (.mv (.t 5))⟩,
                 ⟨(some 49), none, .q (.ixs 1 (.t 47) (.t 48))⟩,
                 ⟨(some 50), none, .q (.ld false 1 (.t 49))⟩,
                 ⟨(some 51), none, .q (.ixs 1 (.t 45) (.t 46))⟩,
                 ⟨none, none, .m (.st false 1 (.t 51) (.t 50))⟩])
              (.reg [⟨(some 52), none, .q (.mv (.t 3))⟩,
                ⟨(some 53), none, .q (.bin .add (.t 52) (.c (.int .i64 1)))⟩,
                ⟨(some 3), none, .q (.mv (.t 53))⟩]))
              .skip)))
           (.reg [⟨(some 33), none, .q (.mv (.t 5))⟩,
             ⟨(some 34), none, .q (.bin .add (.t 33) (.c (.int .i64 1)))⟩,
             ⟨(some 5), none, .q (.mv (.t 34))⟩]))))))
        (.seq (.reg [⟨(some 54), none, .q (.mv (.t 0))⟩,
           ⟨(some 55), none, .q (.mv (.t 3))⟩,
           ⟨(some 56), none, .q (.slc 1 (.t 54) (some (.t 55)) none)⟩,
           ⟨none, none, .m (.clr 1 (.v (.int .i64 0)) (.t 56))⟩])
        (.seq (.reg [⟨(some 57), none, .q (.mv (.t 0))⟩,
           ⟨(some 58), none, .q (.mv (.t 3))⟩,
           ⟨(some 59), none, .q (.slc 1 (.t 57) none (some (.t 58)))⟩,
           ⟨(some 2), none, .q (.mv (.t 59))⟩])
        .ret))))
        .skip)))
     (.reg [⟨(some 14), none, .q (.mv (.t 3))⟩,
       ⟨(some 15), none, .q (.bin .add (.t 14) (.c (.int .i64 1)))⟩,
       ⟨(some 3), none, .q (.mv (.t 15))⟩]))))))
  (.seq (.reg [⟨(some 60), none, .q (.mv (.t 0))⟩,
     ⟨(some 2), none, .q (.mv (.t 60))⟩])
  .ret))))⟩
theorem l_slices_Compact___int64_int64_ : lowF PA f_slices_Compact___int64_int64_ 1 [.k [0, 3, 61], .s (.take 0 (.take 1 (.take 2 (.take 3 (.take 4 (.take 5 (.take 6 (.take 7 (.take 8 (.take 9 .done)))))))))), .k [0, 3, 4, 5, 61], .s (.take 0 (.take 1 (.take 2 (.take 3 (.take 4 (.take 5 (.take 6 (.take 7 (.take 8 (.take 9 .done))))))))))] = some c_slices_Compact___int64_int64_ := by kernel_rfl
abbrev f_spec_l05Leaders : FuncId := 39
def c_spec_l05Leaders : AF := ⟨2, 47, [.t 4],
  (.seq (.reg [⟨(some 2), none, .m (.box (.t 0))⟩,
     ⟨(some 4), none, .q (.mv (.c (.slice none 0 0)))⟩])
  (.seq (.reg [⟨(some 10), none, .q (.ld true 1 (.t 2))⟩,
     ⟨(some 11), none, .c (.call 24 [(.t 10)])⟩,
     ⟨(some 12), none, .m (.mks 1 (.v (.bool false)) 1 (.t 11) (.t 11))⟩,
     ⟨(some 13), none, .m (.bsl 1 [])⟩,
     ⟨(some 5), none, .q (.mv (.t 12))⟩,
     ⟨(some 6), none, .q (.mv (.t 13))⟩])
  (.seq (.seq (.reg [⟨(some 7), none, .q (.mv (.c (.int .i64 0)))⟩])
   (.block 0 (.loop [1, 2, 5, 6, 7] (.seq (.seq (.reg [⟨(some 14), none, .q (.mv (.t 7))⟩,
         ⟨(some 15), none, .q (.ld true 1 (.t 2))⟩,
         ⟨(some 16), none, .c (.call 24 [(.t 15)])⟩,
         ⟨(some 17), none, .q (.bin .lss (.t 14) (.t 16))⟩])
      (.cond (.t 17)
       .skip
       (.exit 0)))
     (.seq (.block 1 (.seq (.seq (.reg [⟨(some 20), none, .q (.mv (.t 5))⟩,
           ⟨(some 21), none, .q (.mv (.t 7))⟩,
           ⟨(some 22), none, .q (.ixs 1 (.t 20) (.t 21))⟩,
           ⟨(some 23), none, .q (.ld false 1 (.t 22))⟩])
        (.cond (.t 23)
         (.exit 1)
         .skip))
       (.seq (.reg [⟨(some 24), none, .q (.ld true 1 (.t 2))⟩,
          ⟨(some 25), none, .q (.mv (.t 1))⟩,
          ⟨(some 26), none, .q (.mv (.t 7))⟩,
          ⟨(some 27), none, .c (.call 70 [(.t 24), (.t 25), (.t 26)])⟩,
          ⟨(some 8), none, .q (.mv (.t 27))⟩])
       (.seq (.seq (.reg [⟨(some 28), none, .q (.mv (.t 8))⟩,
           ⟨(some 29), none, .q (.len (.t 28))⟩,
           ⟨(some 30), none, .q (.mv (.c (.int .i64 0)))⟩])
        (.block 2 (.loop [1, 2, 5, 6, 7, 8, 29, 30] (.seq (.reg [⟨(some 31), none, .q (.bin .lss (.t 30) (.t 29))⟩])
          (.seq (.cond (.t 31)
            .skip
            (.exit 2))
          (.seq (.block 3 (.seq (.reg [⟨(some 32), none, .q (.mv (.t 30))⟩,
               ⟨(some 9), none, .q (.mv (.t 32))⟩])
            (.reg [⟨(some 33), none, .q (.mv (.t 5))⟩,
              ⟨(some 34), none, .q (.mv (.t 8))⟩,
              ⟨(some 35), none, .q (.mv (.t 9))⟩,
              ⟨(some 36), none, .q (.ixs 1 (.t 34) (.t 35))⟩,
              ⟨(some 37), none, .q (.ld false 1 (.t 36))⟩,
              ⟨(some 38), none, .q (.ixs 1 (.t 33) (.t 37))⟩,
              ⟨none, none, .m (.st false 1 (.t 38) (.c (.bool true)))⟩])))
          (.reg [⟨(some 39), none, .q (.bin .add (.t 30) (.c (.int .i64 1)))⟩,
            ⟨(some 30), none, .q (.mv (.t 39))⟩])))))))
       (.reg [⟨(some 40), none, .q (.mv (.t 6))⟩,
         ⟨(some 41), none, .q (.ld true 1 (.t 2))⟩,
         ⟨(some 42), none, .q (.mv (.t 1))⟩,
         ⟨(some 43), none, .q (.mv (.t 7))⟩,
         ⟨(some 44), none, .c (.call 35 [(.t 41), (.t 42), (.t 43)])⟩,
         ⟨(some 45), none, .c (.call 59 [(.t 40), (.t 44)])⟩,
         ⟨(some 6), none, .q (.mv (.t 45))⟩])))))
     (.reg [⟨(some 18), none, .q (.mv (.t 7))⟩,
       ⟨(some 19), none, .q (.bin .add (.t 18) (.c (.int .i64 1)))⟩,
       ⟨(some 7), none, .q (.mv (.t 19))⟩]))))))
  (.seq (.reg [⟨(some 46), none, .q (.mv (.t 6))⟩,
     ⟨(some 4), none, .q (.mv (.t 46))⟩])
  .ret))))⟩
theorem l_spec_l05Leaders : lowF PA f_spec_l05Leaders 2 [.k [1, 2, 5, 6, 7], .k [1, 2, 5, 6, 7, 8, 29, 30]] = some c_spec_l05Leaders := by kernel_rfl
abbrev f_impl_far : FuncId := 40
def c_impl_far : AF := ⟨2, 22, [.t 4],
  (.seq (.reg [⟨(some 2), none, .m (.box (.t 0))⟩,
     ⟨(some 3), none, .m (.box (.t 1))⟩,
     ⟨(some 4), none, .q (.mv (.c (.int .i64 0)))⟩])
  (.seq (.reg [⟨(some 5), none, .q (.mv (.c (.int .i64 0)))⟩])
  (.seq (.seq (.reg [⟨(some 8), none, .q (.ld true 8 (.t 2))⟩,
      ⟨(some 9), none, .q (.mv (.c (.int .i64 0)))⟩])
   (.block 0 (.loop [3, 5, 8, 9] (.seq (.reg [⟨(some 10), none, .q (.bin .lss (.t 9) (.c (.int .i64 8)))⟩])
     (.seq (.cond (.t 10)
       .skip
       (.exit 0))
     (.seq (.block 1 (.seq (.reg [⟨(some 11), none, .q (.mv (.t 9))⟩,
          ⟨(some 12), none, .q (.ixv 8 (.t 8) (.t 9))⟩,
          ⟨(some 6), none, .q (.mv (.t 11))⟩,
          ⟨(some 7), none, .q (.mv (.t 12))⟩])
       (.seq (.reg [⟨(some 13), none, .q (.mv (.t 7))⟩,
          ⟨(some 14), none, .q (.mv (.t 6))⟩,
          ⟨(some 15), none, .q (.ixa 8 1 (.t 3) (.t 14))⟩,
          ⟨(some 16), none, .q (.ld false 1 (.t 15))⟩,
          ⟨(some 17), none, .q (.bin .neq (.t 13) (.t 16))⟩])
       (.cond (.t 17)
        (.reg [⟨(some 18), none, .q (.mv (.t 5))⟩,
          ⟨(some 19), none, .q (.bin .add (.t 18) (.c (.int .i64 1)))⟩,
          ⟨(some 5), none, .q (.mv (.t 19))⟩])
        .skip))))
     (.reg [⟨(some 20), none, .q (.bin .add (.t 9) (.c (.int .i64 1)))⟩,
       ⟨(some 9), none, .q (.mv (.t 20))⟩])))))))
  (.seq (.reg [⟨(some 21), none, .q (.mv (.t 5))⟩,
     ⟨(some 4), none, .q (.mv (.t 21))⟩])
  .ret))))⟩
theorem l_impl_far : lowF PA f_impl_far 2 [.k [3, 5, 8, 9]] = some c_impl_far := by kernel_rfl
abbrev f_spec_l01Distance : FuncId := 41
def c_spec_l01Distance : AF := ⟨3, 49, [.t 6],
  (.seq (.reg [⟨(some 3), none, .m (.box (.t 0))⟩,
     ⟨(some 6), none, .q (.mv (.c (.int .i64 0)))⟩])
  (.seq (.reg [⟨(some 7), none, .q (.mv (.c (.int .i64 0)))⟩])
  (.seq (.seq (.reg [⟨(some 9), none, .q (.fad 0 (.t 3))⟩,
      ⟨(some 10), none, .q (.ld false 1 (.t 9))⟩,
      ⟨(some 11), none, .q (.len (.t 10))⟩,
      ⟨(some 12), none, .q (.bin .sub (.t 11) (.c (.int .i64 1)))⟩,
      ⟨(some 8), none, .q (.mv (.t 12))⟩])
   (.block 0 (.loop [1, 2, 3, 7, 8] (.seq (.seq (.reg [⟨(some 13), none, .q (.mv (.t 8))⟩,
         ⟨(some 14), none, .q (.bin .geq (.t 13) (.c (.int .i64 0)))⟩])
      (.cond (.t 14)
       .skip
       (.exit 0)))
     (.seq (.block 1 (.seq (.seq (.sch (.take 0 ⟨(some 17), none, .q (.mv (.t 1))⟩ (.take 1 ⟨(some 18), none, .q (.fad 0 (.t 3))⟩ (.take 2 ⟨(some 19), none, .q (.ld false 1 (.t 18))⟩ (.take 3 ⟨(some 20), none, .q (.mv (.t 8))⟩ (.take 4 ⟨(some 21), none, .q (.ixs 1 (.t 19) (.t 20))⟩ (.take 5 ⟨(some 22), none, .q (.ld false 1 (.t 21))⟩ (.take 6 ⟨(some 23), none, .q (.bin .rem (.t 17) (.t 22))⟩ (.take 7 ⟨(some 24), none, .q (.mv (.t 2))⟩ (.take 8 ⟨(some 25), none, .q (.fad 0 (.t 3))⟩ (.take 9 ⟨(some 26), none, .q (.ld false 1 (.t 25))⟩ (.take 10 ⟨(some 27), none, .q (.mv (.t 8))⟩ (.take 11 ⟨(some 28), none, .q (.ixs 1 (.t 26) (.t 27))⟩ (.take 12 ⟨(some 29), none, .q (.ld false 1 (.t 28))⟩ (.take 13 ⟨(some 30), none, .q (.bin .rem (.t 24) (.t 29))⟩ (.take 14 ⟨(some 31), none, .q (.bin .neq (.t 23) (.t 30))⟩ .done))))))))))))))))
        (.cond (.t 31)
         (.reg [⟨(some 32), none, .q (.mv (.t 7))⟩,
           ⟨(some 33), none, .q (.bin .add (.t 32) (.c (.int .i64 1)))⟩,
           ⟨(some 7), none, .q (.mv (.t 33))⟩])
         .skip))
       (.seq (.reg [⟨(some 34), none, .q (.mv (.t 1))⟩,
          ⟨(some 35), none, .q (.fad 0 (.t 3))⟩,
          ⟨(some 36), none, .q (.ld false 1 (.t 35))⟩,
          ⟨(some 37), none, .q (.mv (.t 8))⟩,
          ⟨(some 38), none, .q (.ixs 1 (.t 36) (.t 37))⟩,
          ⟨(some 39), none, .q (.ld false 1 (.t 38))⟩,
          ⟨(some 40), none, .q (.bin .quo (.t 34) (.t 39))⟩,
          ⟨(some 1), none, .q (.mv (.t 40))⟩])
       (.reg [⟨(some 41), none, .q (.mv (.t 2))⟩,
         ⟨(some 42), none, .q (.fad 0 (.t 3))⟩,
         ⟨(some 43), none, .q (.ld false 1 (.t 42))⟩,
         ⟨(some 44), none, .q (.mv (.t 8))⟩,
         ⟨(some 45), none, .q (.ixs 1 (.t 43) (.t 44))⟩,
         ⟨(some 46), none, .q (.ld false 1 (.t 45))⟩,
         ⟨(some 47), none, .q (.bin .quo (.t 41) (.t 46))⟩,
         ⟨(some 2), none, .q (.mv (.t 47))⟩]))))
     (.reg [⟨(some 15), none, .q (.mv (.t 8))⟩,
       ⟨(some 16), none, .q (.bin .sub (.t 15) (.c (.int .i64 1)))⟩,
       ⟨(some 8), none, .q (.mv (.t 16))⟩]))))))
  (.seq (.reg [⟨(some 48), none, .q (.mv (.t 7))⟩,
     ⟨(some 6), none, .q (.mv (.t 48))⟩])
  .ret))))⟩
theorem l_spec_l01Distance : lowF PA f_spec_l01Distance 3 [.k [1, 2, 3, 7, 8], .s (.take 0 (.take 1 (.take 2 (.take 3 (.take 4 (.take 5 (.take 6 (.take 7 (.take 8 (.take 9 (.take 10 (.take 11 (.take 12 (.take 13 (.take 14 .done)))))))))))))))] = some c_spec_l01Distance := by kernel_rfl
abbrev f_impl_codeCode : FuncId := 42
def c_impl_codeCode : AF := ⟨3, 18, [.t 6],
  (.seq (.reg [⟨(some 3), none, .m (.box (.t 0))⟩,
     ⟨(some 6), none, .q (.mv (.c (.int .i64 0)))⟩])
  (.seq (.seq (.reg [⟨(some 8), none, .q (.ld true 1 (.t 3))⟩,
      ⟨(some 9), none, .q (.mv (.t 2))⟩,
      ⟨(some 10), none, .c (.call 50 [(.t 8), (.t 9)])⟩,
      ⟨(some 7), none, .q (.mv (.t 10))⟩])
   (.seq (.reg [⟨(some 11), none, .q (.mv (.t 7))⟩,
      ⟨(some 12), none, .q (.bin .neq (.t 11) (.c (.int .i64 0)))⟩])
   (.cond (.t 12)
    (.seq (.reg [⟨(some 13), none, .q (.mv (.t 7))⟩,
       ⟨(some 6), none, .q (.mv (.t 13))⟩])
    .ret)
    .skip)))
  (.seq (.seq (.reg [⟨(some 14), none, .q (.ld true 1 (.t 3))⟩,
      ⟨(some 15), none, .q (.mv (.t 1))⟩,
      ⟨(some 16), none, .c (.call 75 [(.t 14), (.t 15)])⟩,
      ⟨(some 17), none, .q (.un .not (.t 16))⟩])
   (.cond (.t 17)
    (.seq (.reg [⟨(some 6), none, .q (.mv (.c (.int .i64 2)))⟩])
    .ret)
    .skip))
  (.seq (.reg [⟨(some 6), none, .q (.mv (.c (.int .i64 0)))⟩])
  .ret))))⟩
theorem l_impl_codeCode : lowF PA f_impl_codeCode 3 [] = some c_impl_codeCode := by kernel_rfl
abbrev f_impl_weightCounts : FuncId := 43
def c_impl_weightCounts : AF := ⟨2, 30, [.t 4],
  (.seq (.reg [⟨(some 2), none, .m (.box (.t 0))⟩,
     ⟨(some 4), none, .q (.mv (.c (.slice none 0 0)))⟩])
  (.seq (.reg [⟨(some 8), none, .q (.ld true 1 (.t 2))⟩,
     ⟨(some 9), none, .c (.call 65 [(.t 8)])⟩,
     ⟨(some 10), none, .q (.bin .add (.t 9) (.c (.int .i64 1)))⟩,
     ⟨(some 11), none, .m (.mks 1 (.v (.int .i64 0)) 8 (.t 10) (.t 10))⟩,
     ⟨(some 5), none, .q (.mv (.t 11))⟩])
  (.seq (.seq (.reg [⟨(some 12), none, .q (.ld true 1 (.t 2))⟩,
      ⟨(some 13), none, .q (.mv (.t 1))⟩,
      ⟨(some 14), none, .c (.call 76 [(.t 12), (.t 13)])⟩,
      ⟨(some 15), none, .q (.len (.t 14))⟩,
      ⟨(some 16), none, .q (.mv (.c (.int .i64 0)))⟩])
   (.block 0 (.loop [5, 14, 15, 16] (.seq (.reg [⟨(some 17), none, .q (.bin .lss (.t 16) (.t 15))⟩])
     (.seq (.cond (.t 17)
       .skip
       (.exit 0))
     (.seq (.block 1 (.seq (.reg [⟨(some 18), none, .q (.ixs 8 (.t 14) (.t 16))⟩,
          ⟨(some 19), none, .q (.ld true 8 (.t 18))⟩,
          ⟨(some 7), none, .m (.alloc [(.v (.int .u8 0)), (.v (.int .u8 0)), (.v (.int .u8 0)), (.v (.int .u8 0)), (.v (.int .u8 0)), (.v (.int .u8 0)), (.v (.int .u8 0)), (.v (.int .u8 0))])⟩,
          ⟨none, none, .m (.st true 8 (.t 7) (.t 19))⟩])
       (.reg [⟨(some 20), none, .q (.mv (.t 5))⟩,
         ⟨(some 21), none, .q (.ld true 8 (.t 7))⟩,
         ⟨(some 22), none, .q (.bld [(.v (.int .u8 0)), (.v (.int .u8 0)), (.v (.int .u8 0)), (.v (.int .u8 0)), (.v (.int .u8 0)), (.v (.int .u8 0)), (.v (.int .u8 0)), (.v (.int .u8 0))] [])⟩,
         ⟨(some 23), none, .c (.call 40 [(.t 21), (.t 22)])⟩,
         ⟨(some 24), none, .q (.ixs 1 (.t 20) (.t 23))⟩,
         ⟨(some 25), none, .q (.ld false 1 (.t 24))⟩,
         ⟨(some 26), none, .q (.bin .add (.t 25) (.c (.int .i64 1)))⟩,
         ⟨(some 27), none, .q (.ixs 1 (.t 20) (.t 23))⟩,
         ⟨none, none, .m (.st false 1 (.t 27) (.t 26))⟩])))
     (.reg [⟨(some 28), none, .q (.bin .add (.t 16) (.c (.int .i64 1)))⟩,
       ⟨(some 16), none, .q (.mv (.t 28))⟩])))))))
  (.seq (.reg [⟨(some 29), none, .q (.mv (.t 5))⟩,
     ⟨(some 4), none, .q (.mv (.t 29))⟩])
  .ret))))⟩
theorem l_impl_weightCounts : lowF PA f_impl_weightCounts 2 [.k [5, 14, 15, 16]] = some c_impl_weightCounts := by kernel_rfl
abbrev f_spec_l01Given : FuncId := 44
def c_spec_l01Given : AF := ⟨2, 14, [.t 4],
  (.seq (.reg [⟨(some 2), none, .m (.box (.t 0))⟩,
     ⟨(some 4), none, .q (.mv (.c (.int .i64 0)))⟩])
  (.seq (.block 0 (.seq (.reg [⟨(some 6), none, .q (.ld true 1 (.t 2))⟩,
       ⟨(some 7), none, .c (.call 67 [(.t 6)])⟩,
       ⟨(some 8), none, .q (.un .not (.t 7))⟩,
       ⟨(some 5), none, .q (.mv (.t 8))⟩])
    (.cond (.t 5)
     (.seq (.reg [⟨(some 4), none, .q (.mv (.c (.int .i64 1)))⟩])
     .ret)
     (.seq (.reg [⟨(some 10), none, .q (.ld true 1 (.t 2))⟩,
        ⟨(some 11), none, .q (.mv (.t 1))⟩,
        ⟨(some 12), none, .c (.call 77 [(.t 10), (.t 11)])⟩,
        ⟨(some 13), none, .q (.un .not (.t 12))⟩,
        ⟨(some 9), none, .q (.mv (.t 13))⟩])
     (.cond (.t 9)
      (.seq (.reg [⟨(some 4), none, .q (.mv (.c (.int .i64 2)))⟩])
      .ret)
      .skip)))))
  (.seq (.reg [⟨(some 4), none, .q (.mv (.c (.int .i64 0)))⟩])
  .ret)))⟩
theorem l_spec_l01Given : lowF PA f_spec_l01Given 2 [] = some c_spec_l01Given := by kernel_rfl
abbrev f_spec_l05Counts : FuncId := 45
def c_spec_l05Counts : AF := ⟨2, 30, [.t 4],
  (.seq (.reg [⟨(some 2), none, .m (.box (.t 0))⟩,
     ⟨(some 4), none, .q (.mv (.c (.slice none 0 0)))⟩])
  (.seq (.reg [⟨(some 7), none, .q (.fad 0 (.t 2))⟩,
     ⟨(some 8), none, .q (.ld false 1 (.t 7))⟩,
     ⟨(some 9), none, .q (.len (.t 8))⟩,
     ⟨(some 10), none, .q (.bin .add (.t 9) (.c (.int .i64 1)))⟩,
     ⟨(some 11), none, .m (.mks 1 (.v (.int .i64 0)) 8 (.t 10) (.t 10))⟩,
     ⟨(some 5), none, .q (.mv (.t 11))⟩])
  (.seq (.seq (.reg [⟨(some 12), none, .q (.mv (.t 1))⟩,
      ⟨(some 13), none, .q (.len (.t 12))⟩,
      ⟨(some 14), none, .q (.mv (.c (.int .i64 0)))⟩])
   (.block 0 (.loop [1, 2, 5, 13, 14] (.seq (.reg [⟨(some 15), none, .q (.bin .lss (.t 14) (.t 13))⟩])
     (.seq (.cond (.t 15)
       .skip
       (.exit 0))
     (.seq (.block 1 (.seq (.reg [⟨(some 16), none, .q (.mv (.t 14))⟩,
          ⟨(some 6), none, .q (.mv (.t 16))⟩])
       (.sch (.take 0 ⟨(some 17), none, .q (.mv (.t 5))⟩ (.take 1 ⟨(some 18), none, .q (.ld true 1 (.t 2))⟩ (.take 2 ⟨(some 19), none, .q (.mv (.t 1))⟩ (.take 3 ⟨(some 20), none, .q (.mv (.t 6))⟩ (.take 4 ⟨(some 21), none, .q (.ixs 1 (.t 19) (.t 20))⟩ (.take 5 ⟨(some 22), none, .q (.ld false 1 (.t 21))⟩ (.one ⟨(some 23), none, .c (.call 41 [(.t 18), (.c (.int .i64 0)), (.t 22)])⟩ [5, 1] (.take 7 ⟨(some 24), none, .q (.ixs 1 (.t 17) (.t 23))⟩ (.take 8 ⟨(some 25), none, .q (.ld false 1 (.t 24))⟩ (.take 9 ⟨(some 26), none, .q (.bin .add (.t 25) (.c (.int .i64 1)))⟩ (.take 10 ⟨(some 27), none, .q (.ixs 1 (.t 17) (.t 23))⟩ (.one ⟨none, none, .m (.st false 1 (.t 27) (.t 26))⟩ [8, 5, 1] .done)))))))))))))))
     (.reg [⟨(some 28), none, .q (.bin .add (.t 14) (.c (.int .i64 1)))⟩,
       ⟨(some 14), none, .q (.mv (.t 28))⟩])))))))
  (.seq (.reg [⟨(some 29), none, .q (.mv (.t 5))⟩,
     ⟨(some 4), none, .q (.mv (.t 29))⟩])
  .ret))))⟩
theorem l_spec_l05Counts : lowF PA f_spec_l05Counts 2 [.k [1, 2, 5, 13, 14], .s (.take 0 (.take 1 (.take 2 (.take 3 (.take 4 (.take 5 (.one 6 (.take 7 (.take 8 (.take 9 (.take 10 (.one 11 .done))))))))))))] = some c_spec_l05Counts := by kernel_rfl
abbrev f_impl_IsSpace : FuncId := 46
def c_impl_IsSpace : AF := ⟨1, 35, [.t 2],
  (.seq (.reg [⟨(some 1), none, .m (.box (.t 0))⟩,
     ⟨(some 2), none, .q (.mv (.c (.bool false)))⟩])
  (.seq (.seq (.reg [⟨(some 6), none, .q (.fad 0 (.t 1))⟩,
      ⟨(some 7), none, .q (.ld false 1 (.t 6))⟩,
      ⟨(some 8), none, .q (.len (.t 7))⟩,
      ⟨(some 9), none, .q (.bin .lss (.t 8) (.c (.int .i64 1)))⟩,
      ⟨(some 10), none, .q (.mv (.t 9))⟩,
      ⟨(some 11), (some (10, false)), .q (.fad 0 (.t 1))⟩,
      ⟨(some 12), (some (10, false)), .q (.ld false 1 (.t 11))⟩,
      ⟨(some 13), (some (10, false)), .q (.len (.t 12))⟩,
      ⟨(some 14), (some (10, false)), .q (.bin .gtr (.t 13) (.c (.int .i64 8)))⟩,
      ⟨(some 15), none, .q (.pick (.t 10) (.c (.bool true)) (.t 14))⟩])
   (.cond (.t 15)
    (.seq (.reg [⟨(some 2), none, .q (.mv (.c (.bool false)))⟩])
    .ret)
    .skip))
  (.seq (.reg [⟨(some 3), none, .q (.mv (.c (.int .i64 1)))⟩])
  (.seq (.seq (.reg [⟨(some 16), none, .q (.fad 0 (.t 1))⟩,
      ⟨(some 17), none, .q (.ld false 1 (.t 16))⟩,
      ⟨(some 18), none, .q (.len (.t 17))⟩,
      ⟨(some 19), none, .q (.mv (.c (.int .i64 0)))⟩])
   (.block 0 (.loop [3, 17, 18, 19] (.seq (.reg [⟨(some 20), none, .q (.bin .lss (.t 19) (.t 18))⟩])
     (.seq (.cond (.t 20)
       .skip
       (.exit 0))
     (.seq (.block 1 (.seq (.reg [⟨(some 21), none, .q (.ixs 1 (.t 17) (.t 19))⟩,
          ⟨(some 22), none, .q (.ld false 1 (.t 21))⟩,
          ⟨(some 5), none, .q (.mv (.t 22))⟩])
       (.seq (.seq (.reg [⟨(some 23), none, .q (.mv (.t 5))⟩,
           ⟨(some 24), none, .q (.bin .lss (.t 23) (.c (.int .i64 2)))⟩,
           ⟨(some 25), none, .q (.mv (.t 24))⟩,
           ⟨(some 26), (some (25, false)), .q (.mv (.t 5))⟩,
           ⟨(some 27), (some (25, false)), .q (.bin .gtr (.t 26) (.c (.int .i64 4)))⟩,
           ⟨(some 28), none, .q (.pick (.t 25) (.c (.bool true)) (.t 27))⟩])
        (.cond (.t 28)
         (.seq (.reg [⟨(some 2), none, .q (.mv (.c (.bool false)))⟩])
         .ret)
         .skip))
       (.reg [⟨(some 29), none, .q (.mv (.t 3))⟩,
         ⟨(some 30), none, .q (.mv (.t 5))⟩,
         ⟨(some 31), none, .q (.bin .mul (.t 29) (.t 30))⟩,
         ⟨(some 3), none, .q (.mv (.t 31))⟩]))))
     (.reg [⟨(some 32), none, .q (.bin .add (.t 19) (.c (.int .i64 1)))⟩,
       ⟨(some 19), none, .q (.mv (.t 32))⟩])))))))
  (.seq (.reg [⟨(some 33), none, .q (.mv (.t 3))⟩,
     ⟨(some 34), none, .q (.bin .leq (.t 33) (.c (.int .i64 1024)))⟩,
     ⟨(some 2), none, .q (.mv (.t 34))⟩])
  .ret)))))⟩
theorem l_impl_IsSpace : lowF PA f_impl_IsSpace 1 [.k [3, 17, 18, 19]] = some c_impl_IsSpace := by kernel_rfl
abbrev f_impl_count : FuncId := 47
def c_impl_count : AF := ⟨1, 18, [.t 2],
  (.seq (.reg [⟨(some 1), none, .m (.box (.t 0))⟩,
     ⟨(some 2), none, .q (.mv (.c (.int .i64 0)))⟩])
  (.seq (.reg [⟨(some 3), none, .q (.mv (.c (.int .i64 1)))⟩])
  (.seq (.seq (.reg [⟨(some 6), none, .q (.fad 0 (.t 1))⟩,
      ⟨(some 7), none, .q (.ld false 1 (.t 6))⟩,
      ⟨(some 8), none, .q (.len (.t 7))⟩,
      ⟨(some 9), none, .q (.mv (.c (.int .i64 0)))⟩])
   (.block 0 (.loop [3, 7, 8, 9] (.seq (.reg [⟨(some 10), none, .q (.bin .lss (.t 9) (.t 8))⟩])
     (.seq (.cond (.t 10)
       .skip
       (.exit 0))
     (.seq (.block 1 (.seq (.reg [⟨(some 11), none, .q (.ixs 1 (.t 7) (.t 9))⟩,
          ⟨(some 12), none, .q (.ld false 1 (.t 11))⟩,
          ⟨(some 5), none, .q (.mv (.t 12))⟩])
       (.reg [⟨(some 13), none, .q (.mv (.t 3))⟩,
         ⟨(some 14), none, .q (.mv (.t 5))⟩,
         ⟨(some 15), none, .q (.bin .mul (.t 13) (.t 14))⟩,
         ⟨(some 3), none, .q (.mv (.t 15))⟩])))
     (.reg [⟨(some 16), none, .q (.bin .add (.t 9) (.c (.int .i64 1)))⟩,
       ⟨(some 9), none, .q (.mv (.t 16))⟩])))))))
  (.seq (.reg [⟨(some 17), none, .q (.mv (.t 3))⟩,
     ⟨(some 2), none, .q (.mv (.t 17))⟩])
  .ret))))⟩
theorem l_impl_count : lowF PA f_impl_count 1 [.k [3, 7, 8, 9]] = some c_impl_count := by kernel_rfl
abbrev f_impl_someCode : FuncId := 48
def c_impl_someCode : AF := ⟨3, 18, [.t 6],
  (.seq (.reg [⟨(some 3), none, .m (.box (.t 0))⟩,
     ⟨(some 6), none, .q (.mv (.c (.int .i64 0)))⟩])
  (.seq (.seq (.reg [⟨(some 8), none, .q (.ld true 1 (.t 3))⟩,
      ⟨(some 9), none, .q (.mv (.t 1))⟩,
      ⟨(some 10), none, .q (.mv (.t 2))⟩,
      ⟨(some 11), none, .c (.call 42 [(.t 8), (.t 9), (.t 10)])⟩,
      ⟨(some 7), none, .q (.mv (.t 11))⟩])
   (.seq (.reg [⟨(some 12), none, .q (.mv (.t 7))⟩,
      ⟨(some 13), none, .q (.bin .neq (.t 12) (.c (.int .i64 0)))⟩])
   (.cond (.t 13)
    (.seq (.reg [⟨(some 14), none, .q (.mv (.t 7))⟩,
       ⟨(some 6), none, .q (.mv (.t 14))⟩])
    .ret)
    .skip)))
  (.seq (.seq (.reg [⟨(some 15), none, .q (.mv (.t 1))⟩,
      ⟨(some 16), none, .q (.len (.t 15))⟩,
      ⟨(some 17), none, .q (.bin .eql (.t 16) (.c (.int .i64 0)))⟩])
   (.cond (.t 17)
    (.seq (.reg [⟨(some 6), none, .q (.mv (.c (.int .i64 5)))⟩])
    .ret)
    .skip))
  (.seq (.reg [⟨(some 6), none, .q (.mv (.c (.int .i64 0)))⟩])
  .ret))))⟩
theorem l_impl_someCode : lowF PA f_impl_someCode 3 [] = some c_impl_someCode := by kernel_rfl
abbrev f_impl_radius : FuncId := 49
def c_impl_radius : AF := ⟨2, 9, [.t 4],
  (.seq (.reg [⟨(some 2), none, .m (.box (.t 0))⟩,
     ⟨(some 4), none, .q (.mv (.c (.int .i64 0)))⟩])
  (.seq (.reg [⟨(some 5), none, .q (.ld true 1 (.t 2))⟩,
     ⟨(some 6), none, .q (.mv (.t 1))⟩,
     ⟨(some 7), none, .c (.call 79 [(.t 5), (.t 6)])⟩,
     ⟨(some 8), none, .c (.call 78 [(.t 7)])⟩,
     ⟨(some 4), none, .q (.mv (.t 8))⟩])
  .ret))⟩
theorem l_impl_radius : lowF PA f_impl_radius 2 [] = some c_impl_radius := by kernel_rfl
abbrev f_impl_wordCode : FuncId := 50
def c_impl_wordCode : AF := ⟨2, 14, [.t 4],
  (.seq (.reg [⟨(some 2), none, .m (.box (.t 0))⟩,
     ⟨(some 4), none, .q (.mv (.c (.int .i64 0)))⟩])
  (.seq (.block 0 (.seq (.reg [⟨(some 6), none, .q (.ld true 1 (.t 2))⟩,
       ⟨(some 7), none, .c (.call 46 [(.t 6)])⟩,
       ⟨(some 8), none, .q (.un .not (.t 7))⟩,
       ⟨(some 5), none, .q (.mv (.t 8))⟩])
    (.cond (.t 5)
     (.seq (.reg [⟨(some 4), none, .q (.mv (.c (.int .i64 1)))⟩])
     .ret)
     (.seq (.reg [⟨(some 10), none, .q (.ld true 1 (.t 2))⟩,
        ⟨(some 11), none, .q (.mv (.t 1))⟩,
        ⟨(some 12), none, .c (.call 80 [(.t 10), (.t 11)])⟩,
        ⟨(some 13), none, .q (.un .not (.t 12))⟩,
        ⟨(some 9), none, .q (.mv (.t 13))⟩])
     (.cond (.t 9)
      (.seq (.reg [⟨(some 4), none, .q (.mv (.c (.int .i64 2)))⟩])
      .ret)
      .skip)))))
  (.seq (.reg [⟨(some 4), none, .q (.mv (.c (.int .i64 0)))⟩])
  .ret)))⟩
theorem l_impl_wordCode : lowF PA f_impl_wordCode 2 [] = some c_impl_wordCode := by kernel_rfl
abbrev f_impl_distance : FuncId := 51
def c_impl_distance : AF := ⟨3, 14, [.t 6],
  (.seq (.reg [⟨(some 3), none, .m (.box (.t 0))⟩,
     ⟨(some 6), none, .q (.mv (.c (.int .i64 0)))⟩])
  (.seq (.sch (.take 0 ⟨(some 7), none, .q (.ld true 1 (.t 3))⟩ (.take 1 ⟨(some 8), none, .q (.mv (.t 1))⟩ (.take 3 ⟨(some 10), none, .q (.ld true 1 (.t 3))⟩ (.take 4 ⟨(some 11), none, .q (.mv (.t 2))⟩ (.one ⟨(some 9), none, .c (.call 29 [(.t 7), (.t 8)])⟩ [0] (.one ⟨(some 12), none, .c (.call 29 [(.t 10), (.t 11)])⟩ [3] (.one ⟨(some 13), none, .c (.call 40 [(.t 9), (.t 12)])⟩ [] (.take 7 ⟨(some 6), none, .q (.mv (.t 13))⟩ .done)))))))))
  .ret))⟩
theorem l_impl_distance : lowF PA f_impl_distance 3 [.s (.take 0 (.take 1 (.take 3 (.take 4 (.one 2 (.one 5 (.one 6 (.take 7 .done))))))))] = some c_impl_distance := by kernel_rfl
abbrev f_spec_l01Coded : FuncId := 52
def c_spec_l01Coded : AF := ⟨1, 21, [.c 2 true 1, .t 3],
  (.seq (.reg [⟨(some 2), none, .m (.alloc [(.v (.slice none 0 0))])⟩,
     ⟨(some 3), none, .q (.mv (.c (.slice none 0 0)))⟩])
  (.seq (.reg [⟨(some 7), none, .q (.mv (.t 0))⟩,
     ⟨(some 8), none, .c (.call 21 [(.t 7)])⟩,
     ⟨(some 4), none, .q (.mv (.t 8))⟩])
  (.seq (.reg [⟨(some 9), none, .q (.mv (.t 4))⟩,
     ⟨(some 10), none, .c (.call 81 [(.t 9)])⟩,
     ⟨(some 5), none, .m (.alloc [(.v (.slice none 0 0))])⟩,
     ⟨none, none, .m (.st true 1 (.t 5) (.t 10))⟩])
  (.seq (.sch (.take 0 ⟨(some 11), none, .q (.mv (.t 4))⟩ (.take 1 ⟨(some 12), none, .q (.ld true 1 (.t 5))⟩ (.take 2 ⟨(some 13), none, .q (.mv (.t 4))⟩ (.take 3 ⟨(some 14), none, .q (.ld true 1 (.t 5))⟩ (.one ⟨(some 15), none, .c (.call 55 [(.t 13), (.t 14)])⟩ [3] (.one ⟨(some 16), none, .c (.call 26 [(.t 11), (.t 12), (.t 15)])⟩ [1] (.take 6 ⟨(some 6), none, .q (.mv (.t 16))⟩ .done))))))))
  (.seq (.reg [⟨(some 17), none, .q (.mv (.t 4))⟩,
     ⟨(some 18), none, .q (.ld true 1 (.t 5))⟩,
     ⟨(some 19), none, .c (.call 25 [(.t 17), (.t 18)])⟩,
     ⟨(some 20), none, .q (.mv (.t 6))⟩,
     ⟨none, none, .m (.st true 1 (.t 2) (.t 19))⟩,
     ⟨(some 3), none, .q (.mv (.t 20))⟩])
  .ret)))))⟩
theorem l_spec_l01Coded : lowF PA f_spec_l01Coded 1 [.s (.take 0 (.take 1 (.take 2 (.take 3 (.one 4 (.one 5 (.take 6 .done)))))))] = some c_spec_l01Coded := by kernel_rfl
abbrev f_spec_l05Space : FuncId := 53
def c_spec_l05Space : AF := ⟨1, 38, [.c 2 true 1],
  (.seq (.reg [⟨(some 2), none, .m (.alloc [(.v (.slice none 0 0))])⟩])
  (.seq (.seq (.reg [⟨(some 6), none, .q (.mv (.t 0))⟩,
      ⟨(some 7), none, .c (.call 58 [(.t 6), (.c (.int .i64 16))])⟩,
      ⟨(some 8), none, .q (.bin .eql (.t 7) (.c (.int .i64 0)))⟩])
   (.cond (.t 8)
    (.seq (.reg [⟨(some 9), none, .q (.mv (.t 0))⟩,
       ⟨(some 10), none, .c (.call 82 [(.t 9), (.c (.int .i64 81))])⟩,
       ⟨none, none, .m (.st true 1 (.t 2) (.t 10))⟩])
    .ret)
    .skip))
  (.seq (.reg [⟨(some 11), none, .m (.bsl 1 [])⟩,
     ⟨(some 12), none, .q (.bld [(.v (.slice none 0 0))] [(0, (.t 11))])⟩,
     ⟨(some 13), none, .q (.mv (.t 0))⟩,
     ⟨(some 14), none, .m (.bsl 1 [(.c (.int .i64 2)), (.c (.int .i64 2)), (.c (.int .i64 3))])⟩,
     ⟨(some 15), none, .c (.call 60 [(.t 13), (.t 14)])⟩,
     ⟨(some 3), none, .m (.alloc [(.v (.slice none 0 0))])⟩,
     ⟨none, none, .m (.st true 1 (.t 3) (.t 12))⟩,
     ⟨(some 4), none, .q (.mv (.t 15))⟩])
  (.seq (.reg [⟨(some 16), none, .q (.mv (.t 0))⟩,
     ⟨(some 17), none, .q (.mv (.t 0))⟩,
     ⟨(some 18), none, .m (.bsl 1 [(.c (.int .i64 3)), (.c (.int .i64 5)), (.c (.int .i64 7))])⟩,
     ⟨(some 19), none, .c (.call 60 [(.t 17), (.t 18)])⟩,
     ⟨(some 20), none, .c (.call 58 [(.t 16), (.t 19)])⟩,
     ⟨(some 21), none, .q (.bin .add (.c (.int .i64 1)) (.t 20))⟩,
     ⟨(some 5), none, .q (.mv (.t 21))⟩])
  (.seq (.seq (.reg [⟨(some 22), none, .q (.mv (.t 4))⟩,
      ⟨(some 23), none, .q (.bin .eql (.t 22) (.c (.int .i64 3)))⟩])
   (.cond (.t 23)
    (.reg [⟨(some 24), none, .q (.mv (.t 0))⟩,
      ⟨(some 25), none, .c (.call 58 [(.t 24), (.c (.int .i64 4))])⟩,
      ⟨(some 26), none, .q (.bin .add (.c (.int .i64 1)) (.t 25))⟩,
      ⟨(some 5), none, .q (.mv (.t 26))⟩])
    .skip))
  (.seq (.block 0 (.loop [2, 3, 4, 5, 38] (.seq (.seq (.reg [⟨(some 27), none, .q (.mv (.t 5))⟩,
         ⟨(some 28), none, .q (.bin .gtr (.t 27) (.c (.int .i64 0)))⟩])
      (.cond (.t 28)
       .skip
       (.exit 0)))
     (.seq (.block 1 (.reg [⟨(some 31), none, .q (.fad 0 (.t 3))⟩,
         ⟨(some 32), none, .q (.ld false 1 (.t 31))⟩,
         ⟨(some 33), none, .q (.mv (.t 4))⟩,
         ⟨(some 34), none, .m (.bsl 1 [(.t 33)])⟩,
         ⟨(some 35), none, .m (.app 1 8 (.t 32) (.t 34))⟩,
         ⟨(some 36), none, .q (.fad 0 (.t 3))⟩,
         ⟨none, none, .m (.st false 1 (.t 36) (.t 35))⟩]))
     (.reg [⟨(some 29), none, .q (.mv (.t 5))⟩,
       ⟨(some 30), none, .q (.bin .sub (.t 29) (.c (.int .i64 1)))⟩,
       ⟨(some 5), none, .q (.mv (.t 30))⟩])))))
  (.seq (.reg [⟨(some 37), none, .q (.ld true 1 (.t 3))⟩,
     ⟨none, none, .m (.st true 1 (.t 2) (.t 37))⟩])
  .ret)))))))⟩
theorem l_spec_l05Space : lowF PA f_spec_l05Space 1 [.k [2, 3, 4, 5, 38]] = some c_spec_l05Space := by kernel_rfl
abbrev f_spec_l05Plain : FuncId := 54
def c_spec_l05Plain : AF := ⟨1, 29, [.t 2],
  (.seq (.reg [⟨(some 1), none, .m (.box (.t 0))⟩,
     ⟨(some 2), none, .q (.mv (.c (.bool false)))⟩])
  (.seq (.seq (.reg [⟨(some 4), none, .q (.fad 0 (.t 1))⟩,
      ⟨(some 5), none, .q (.ld false 1 (.t 4))⟩,
      ⟨(some 6), none, .q (.len (.t 5))⟩,
      ⟨(some 7), none, .q (.mv (.c (.int .i64 0)))⟩])
   (.block 0 (.loop [1, 6, 7] (.seq (.reg [⟨(some 8), none, .q (.bin .lss (.t 7) (.t 6))⟩])
     (.seq (.cond (.t 8)
       .skip
       (.exit 0))
     (.seq (.block 1 (.seq (.reg [⟨(some 9), none, .q (.mv (.t 7))⟩,
          ⟨(some 3), none, .q (.mv (.t 9))⟩])
       (.seq (.sch (.take 0 ⟨(some 10), none, .q (.fad 0 (.t 1))⟩ (.take 1 ⟨(some 11), none, .q (.ld false 1 (.t 10))⟩ (.take 2 ⟨(some 12), none, .q (.mv (.t 3))⟩ (.take 3 ⟨(some 13), none, .q (.ixs 1 (.t 11) (.t 12))⟩ (.take 4 ⟨(some 14), none, .q (.ld false 1 (.t 13))⟩ (.take 5 ⟨(some 15), none, .q (.fad 0 (.t 1))⟩ (.take 6 ⟨(some 16), none, .q (.ld false 1 (.t 15))⟩ (.take 7 ⟨(some 17), none, .q (.ixs 1 (.t 16) (.c (.int .i64 0)))⟩ (.take 8 ⟨(some 18), none, .q (.ld false 1 (.t 17))⟩ (.take 9 ⟨(some 19), none, .q (.bin .neq (.t 14) (.t 18))⟩ (.take 10 ⟨(some 20), none, .q (.mv (.t 19))⟩ (.take 11 ⟨(some 21), (some (20, false)), .q (.fad 0 (.t 1))⟩ (.take 12 ⟨(some 22), (some (20, false)), .q (.ld false 1 (.t 21))⟩ (.take 13 ⟨(some 23), (some (20, false)), .q (.mv (.t 3))⟩ (.take 14 ⟨(some 24), (some (20, false)), .q (.ixs 1 (.t 22) (.t 23))⟩ (.take 15 ⟨(some 25), (some (20, false)), .q (.ld false 1 (.t 24))⟩ (.take 16 ⟨(some 26), (some (20, false)), .q (.bin .gtr (.t 25) (.c (.int .i64 3)))⟩ (.take 17 ⟨(some 27), none, .q (.pick (.t 20) (.c (.bool true)) (.t 26))⟩ .done)))))))))))))))))))
       (.cond (.t 27)
        (.seq (.reg [⟨(some 2), none, .q (.mv (.c (.bool false)))⟩])
        .ret)
        .skip))))
     (.reg [⟨(some 28), none, .q (.bin .add (.t 7) (.c (.int .i64 1)))⟩,
       ⟨(some 7), none, .q (.mv (.t 28))⟩])))))))
  (.seq (.reg [⟨(some 2), none, .q (.mv (.c (.bool true)))⟩])
  .ret)))⟩
theorem l_spec_l05Plain : lowF PA f_spec_l05Plain 1 [.k [1, 6, 7], .s (.take 0 (.take 1 (.take 2 (.take 3 (.take 4 (.take 5 (.take 6 (.take 7 (.take 8 (.take 9 (.take 10 (.take 11 (.take 12 (.take 13 (.take 14 (.take 15 (.take 16 (.take 17 .done))))))))))))))))))] = some c_spec_l05Plain := by kernel_rfl
abbrev f_spec_l01DrawCode : FuncId := 55
def c_spec_l01DrawCode : AF := ⟨2, 109, [.t 4],
  (.seq (.reg [⟨(some 3), none, .m (.box (.t 1))⟩,
     ⟨(some 4), none, .q (.mv (.c (.slice none 0 0)))⟩])
  (.seq (.reg [⟨(some 17), none, .m (.bsl 1 [])⟩,
     ⟨(some 5), none, .q (.mv (.t 17))⟩])
  (.seq (.seq (.reg [⟨(some 18), none, .q (.mv (.t 0))⟩,
      ⟨(some 19), none, .c (.call 58 [(.t 18), (.c (.int .i64 4))])⟩])
   (.block 0 (.seq (.reg [⟨(some 21), none, .q (.bin .eql (.t 19) (.c (.int .i64 0)))⟩,
       ⟨(some 20), none, .q (.mv (.t 21))⟩])
    (.cond (.t 20)
     (.seq (.reg [⟨(some 22), none, .q (.mv (.t 0))⟩,
        ⟨(some 23), none, .m (.bsl 1 [(.c (.int .i64 2)), (.c (.int .i64 2)), (.c (.int .i64 3)), (.c (.int .i64 4))])⟩,
        ⟨(some 24), none, .c (.call 60 [(.t 22), (.t 23)])⟩,
        ⟨(some 25), none, .q (.mv (.t 0))⟩,
        ⟨(some 26), none, .c (.call 58 [(.t 25), (.c (.int .i64 2))])⟩,
        ⟨(some 6), none, .q (.mv (.t 24))⟩,
        ⟨(some 7), none, .q (.mv (.t 26))⟩])
     (.seq (.seq (.reg [⟨(some 8), none, .q (.mv (.c (.int .i64 0)))⟩])
      (.block 1 (.loop [3, 5, 6, 7, 8, 109] (.seq (.seq (.reg [⟨(some 27), none, .q (.mv (.t 8))⟩,
            ⟨(some 28), none, .q (.ld true 1 (.t 3))⟩,
            ⟨(some 29), none, .c (.call 24 [(.t 28)])⟩,
            ⟨(some 30), none, .q (.bin .lss (.t 27) (.t 29))⟩])
         (.cond (.t 30)
          .skip
          (.exit 1)))
        (.seq (.block 2 (.seq (.reg [⟨(some 33), none, .q (.ld true 1 (.t 3))⟩,
             ⟨(some 34), none, .q (.mv (.t 8))⟩,
             ⟨(some 35), none, .c (.call 71 [(.t 33), (.t 34)])⟩,
             ⟨(some 9), none, .q (.mv (.t 35))⟩,
             ⟨(some 10), none, .q (.mv (.c (.int .i64 0)))⟩])
          (.seq (.seq (.reg [⟨(some 36), none, .q (.mv (.t 9))⟩,
              ⟨(some 37), none, .q (.len (.t 36))⟩,
              ⟨(some 38), none, .q (.mv (.c (.int .i64 0)))⟩])
           (.block 3 (.loop [3, 5, 6, 7, 8, 9, 10, 37, 38, 109] (.seq (.reg [⟨(some 39), none, .q (.bin .lss (.t 38) (.t 37))⟩])
             (.seq (.cond (.t 39)
               .skip
               (.exit 3))
             (.seq (.block 4 (.seq (.reg [⟨(some 40), none, .q (.mv (.t 38))⟩,
                  ⟨(some 11), none, .q (.mv (.t 40))⟩])
               (.reg [⟨(some 41), none, .q (.mv (.t 10))⟩,
                 ⟨(some 42), none, .q (.mv (.t 9))⟩,
                 ⟨(some 43), none, .q (.mv (.t 11))⟩,
                 ⟨(some 44), none, .q (.ixs 1 (.t 42) (.t 43))⟩,
                 ⟨(some 45), none, .q (.ld false 1 (.t 44))⟩,
                 ⟨(some 46), none, .q (.bin .add (.t 41) (.t 45))⟩,
                 ⟨(some 10), none, .q (.mv (.t 46))⟩])))
             (.reg [⟨(some 47), none, .q (.bin .add (.t 38) (.c (.int .i64 1)))⟩,
               ⟨(some 38), none, .q (.mv (.t 47))⟩])))))))
          (.seq (.reg [⟨(some 48), none, .q (.mv (.t 10))⟩,
             ⟨(some 49), none, .q (.mv (.t 6))⟩,
             ⟨(some 50), none, .q (.bin .rem (.t 48) (.t 49))⟩,
             ⟨(some 51), none, .q (.mv (.t 7))⟩,
             ⟨(some 52), none, .q (.bin .eql (.t 50) (.t 51))⟩])
          (.cond (.t 52)
           (.reg [⟨(some 53), none, .q (.mv (.t 5))⟩,
             ⟨(some 54), none, .q (.mv (.t 8))⟩,
             ⟨(some 55), none, .m (.bsl 1 [(.t 54)])⟩,
             ⟨(some 56), none, .m (.app 1 8 (.t 53) (.t 55))⟩,
             ⟨(some 5), none, .q (.mv (.t 56))⟩])
           .skip)))))
        (.reg [⟨(some 31), none, .q (.mv (.t 8))⟩,
          ⟨(some 32), none, .q (.bin .add (.t 31) (.c (.int .i64 1)))⟩,
          ⟨(some 8), none, .q (.mv (.t 32))⟩]))))))
     (.seq (.reg [⟨(some 57), none, .q (.mv (.t 5))⟩,
        ⟨(some 4), none, .q (.mv (.t 57))⟩])
     .ret)))
     (.seq (.reg [⟨(some 59), none, .q (.bin .eql (.t 19) (.c (.int .i64 1)))⟩,
        ⟨(some 58), none, .q (.mv (.t 59))⟩])
     (.cond (.t 58)
      (.seq (.reg [⟨(some 60), none, .q (.mv (.t 0))⟩,
         ⟨(some 61), none, .m (.bsl 1 [(.c (.int .i64 2)), (.c (.int .i64 3)), (.c (.int .i64 3))])⟩,
         ⟨(some 62), none, .c (.call 60 [(.t 60), (.t 61)])⟩,
         ⟨(some 12), none, .q (.mv (.t 62))⟩])
      (.seq (.seq (.reg [⟨(some 13), none, .q (.mv (.c (.int .i64 0)))⟩])
       (.block 5 (.loop [3, 5, 12, 13, 109] (.seq (.seq (.reg [⟨(some 63), none, .q (.mv (.t 13))⟩,
             ⟨(some 64), none, .q (.ld true 1 (.t 3))⟩,
             ⟨(some 65), none, .c (.call 24 [(.t 64)])⟩,
             ⟨(some 66), none, .q (.bin .lss (.t 63) (.t 65))⟩])
          (.cond (.t 66)
           .skip
           (.exit 5)))
         (.seq (.block 6 (.seq (.reg [⟨(some 14), none, .q (.mv (.c (.bool true)))⟩])
           (.seq (.seq (.reg [⟨(some 69), none, .q (.mv (.t 5))⟩,
               ⟨(some 70), none, .q (.len (.t 69))⟩,
               ⟨(some 71), none, .q (.mv (.c (.int .i64 0)))⟩])
            (.block 7 (.loop [3, 5, 12, 13, 14, 70, 71, 109] (.seq (.reg [⟨(some 72), none, .q (.bin .lss (.t 71) (.t 70))⟩])
              (.seq (.cond (.t 72)
                .skip
                (.exit 7))
              (.seq (.block 8 (.seq (.reg [⟨(some 73), none, .q (.mv (.t 71))⟩,
                   ⟨(some 15), none, .q (.mv (.t 73))⟩])
                (.sch (.take 0 ⟨(some 74), none, .q (.mv (.t 14))⟩ (.take 1 ⟨(some 75), none, .q (.mv (.t 74))⟩ (.take 2 ⟨(some 76), (some (75, true)), .q (.ld true 1 (.t 3))⟩ (.take 3 ⟨(some 77), (some (75, true)), .q (.mv (.t 5))⟩ (.take 4 ⟨(some 78), (some (75, true)), .q (.mv (.t 15))⟩ (.take 5 ⟨(some 79), (some (75, true)), .q (.ixs 1 (.t 77) (.t 78))⟩ (.take 6 ⟨(some 80), (some (75, true)), .q (.ld false 1 (.t 79))⟩ (.take 7 ⟨(some 81), (some (75, true)), .q (.mv (.t 13))⟩ (.take 9 ⟨(some 83), (some (75, true)), .q (.mv (.t 12))⟩ (.one ⟨(some 82), (some (75, true)), .c (.call 41 [(.t 76), (.t 80), (.t 81)])⟩ [6, 2] (.take 10 ⟨(some 84), (some (75, true)), .q (.bin .geq (.t 82) (.t 83))⟩ (.take 11 ⟨(some 85), none, .q (.pick (.t 75) (.t 84) (.c (.bool false)))⟩ (.take 12 ⟨(some 14), none, .q (.mv (.t 85))⟩ .done))))))))))))))))
              (.reg [⟨(some 86), none, .q (.bin .add (.t 71) (.c (.int .i64 1)))⟩,
                ⟨(some 71), none, .q (.mv (.t 86))⟩])))))))
           (.seq (.reg [⟨(some 87), none, .q (.mv (.t 14))⟩])
           (.cond (.t 87)
            (.reg [⟨(some 88), none, .q (.mv (.t 5))⟩,
              ⟨(some 89), none, .q (.mv (.t 13))⟩,
              ⟨(some 90), none, .m (.bsl 1 [(.t 89)])⟩,
              ⟨(some 91), none, .m (.app 1 8 (.t 88) (.t 90))⟩,
              ⟨(some 5), none, .q (.mv (.t 91))⟩])
            .skip)))))
         (.reg [⟨(some 67), none, .q (.mv (.t 13))⟩,
           ⟨(some 68), none, .q (.bin .add (.t 67) (.c (.int .i64 1)))⟩,
           ⟨(some 13), none, .q (.mv (.t 68))⟩]))))))
      (.seq (.reg [⟨(some 92), none, .q (.mv (.t 5))⟩,
         ⟨(some 4), none, .q (.mv (.t 92))⟩])
      .ret)))
      .skip))))))
  (.seq (.seq (.reg [⟨(some 93), none, .q (.mv (.t 0))⟩,
      ⟨(some 94), none, .q (.mv (.t 0))⟩,
      ⟨(some 95), none, .m (.bsl 1 [(.c (.int .i64 3)), (.c (.int .i64 8)), (.c (.int .i64 20))])⟩,
      ⟨(some 96), none, .c (.call 60 [(.t 94), (.t 95)])⟩,
      ⟨(some 97), none, .c (.call 58 [(.t 93), (.t 96)])⟩,
      ⟨(some 16), none, .q (.mv (.t 97))⟩])
   (.block 9 (.loop [0, 3, 5, 16, 109] (.seq (.seq (.reg [⟨(some 98), none, .q (.mv (.t 16))⟩,
         ⟨(some 99), none, .q (.bin .gtr (.t 98) (.c (.int .i64 0)))⟩])
      (.cond (.t 99)
       .skip
       (.exit 9)))
     (.seq (.block 10 (.reg [⟨(some 102), none, .q (.mv (.t 5))⟩,
         ⟨(some 103), none, .q (.mv (.t 0))⟩,
         ⟨(some 104), none, .q (.ld true 1 (.t 3))⟩,
         ⟨(some 105), none, .c (.call 24 [(.t 104)])⟩,
         ⟨(some 106), none, .c (.call 58 [(.t 103), (.t 105)])⟩,
         ⟨(some 107), none, .c (.call 59 [(.t 102), (.t 106)])⟩,
         ⟨(some 5), none, .q (.mv (.t 107))⟩]))
     (.reg [⟨(some 100), none, .q (.mv (.t 16))⟩,
       ⟨(some 101), none, .q (.bin .sub (.t 100) (.c (.int .i64 1)))⟩,
       ⟨(some 16), none, .q (.mv (.t 101))⟩]))))))
  (.seq (.reg [⟨(some 108), none, .q (.mv (.t 5))⟩,
     ⟨(some 4), none, .q (.mv (.t 108))⟩])
  .ret)))))⟩
theorem l_spec_l01DrawCode : lowF PA f_spec_l01DrawCode 2 [.k [3, 5, 6, 7, 8, 109], .k [3, 5, 6, 7, 8, 9, 10, 37, 38, 109], .k [3, 5, 12, 13, 109], .k [3, 5, 12, 13, 14, 70, 71, 109], .s (.take 0 (.take 1 (.take 2 (.take 3 (.take 4 (.take 5 (.take 6 (.take 7 (.take 9 (.one 8 (.take 10 (.take 11 (.take 12 .done))))))))))))), .k [0, 3, 5, 16, 109]] = some c_spec_l01DrawCode := by kernel_rfl
abbrev f_spec_l05Span : FuncId := 56
def c_spec_l05Span : AF := ⟨2, 67, [.t 4],
  (.seq (.reg [⟨(some 2), none, .m (.box (.t 0))⟩,
     ⟨(some 4), none, .q (.mv (.c (.slice none 0 0)))⟩])
  (.seq (.reg [⟨(some 12), none, .m (.bsl 1 [(.c (.int .i64 0))])⟩,
     ⟨(some 5), none, .q (.mv (.t 12))⟩])
  (.seq (.seq (.reg [⟨(some 13), none, .q (.mv (.t 1))⟩,
      ⟨(some 14), none, .q (.len (.t 13))⟩,
      ⟨(some 15), none, .q (.mv (.c (.int .i64 0)))⟩])
   (.block 0 (.loop [1, 2, 5, 14, 15] (.seq (.reg [⟨(some 16), none, .q (.bin .lss (.t 15) (.t 14))⟩])
     (.seq (.cond (.t 16)
       .skip
       (.exit 0))
     (.seq (.block 1 (.seq (.reg [⟨(some 17), none, .q (.mv (.t 15))⟩,
          ⟨(some 6), none, .q (.mv (.t 17))⟩])
       (.seq (.seq (.reg [⟨(some 18), none, .q (.mv (.t 5))⟩,
           ⟨(some 19), none, .q (.mv (.t 1))⟩,
           ⟨(some 20), none, .q (.mv (.t 6))⟩,
           ⟨(some 21), none, .q (.ixs 1 (.t 19) (.t 20))⟩,
           ⟨(some 22), none, .q (.ld false 1 (.t 21))⟩,
           ⟨(some 23), none, .c (.call 83 [(.t 18), (.t 22)])⟩])
        (.cond (.t 23)
         (.exit 1)
         .skip))
       (.seq (.reg [⟨(some 24), none, .q (.mv (.t 5))⟩,
          ⟨(some 25), none, .c (.call 61 [(.t 24)])⟩,
          ⟨(some 7), none, .q (.mv (.t 25))⟩,
          ⟨(some 8), none, .q (.mv (.c (.int .i64 0)))⟩])
       (.seq (.seq (.reg [⟨(some 9), none, .q (.mv (.c (.int .i64 1)))⟩])
        (.block 2 (.loop [1, 2, 5, 6, 7, 8, 9, 14, 15] (.seq (.seq (.reg [⟨(some 26), none, .q (.mv (.t 9))⟩,
              ⟨(some 27), none, .q (.fad 0 (.t 2))⟩,
              ⟨(some 28), none, .q (.ld false 1 (.t 27))⟩,
              ⟨(some 29), none, .q (.ixs 1 (.t 28) (.c (.int .i64 0)))⟩,
              ⟨(some 30), none, .q (.ld false 1 (.t 29))⟩,
              ⟨(some 31), none, .q (.bin .lss (.t 26) (.t 30))⟩])
           (.cond (.t 31)
            .skip
            (.exit 2)))
          (.seq (.block 3 (.seq (.sch (.take 0 ⟨(some 34), none, .q (.ld true 1 (.t 2))⟩ (.take 1 ⟨(some 35), none, .q (.mv (.t 8))⟩ (.take 2 ⟨(some 36), none, .q (.mv (.t 1))⟩ (.take 3 ⟨(some 37), none, .q (.mv (.t 6))⟩ (.take 4 ⟨(some 38), none, .q (.ixs 1 (.t 36) (.t 37))⟩ (.take 5 ⟨(some 39), none, .q (.ld false 1 (.t 38))⟩ (.one ⟨(some 40), none, .c (.call 36 [(.t 34), (.t 35), (.t 39)])⟩ [5, 0] (.take 7 ⟨(some 8), none, .q (.mv (.t 40))⟩ .done)))))))))
            (.reg [⟨(some 41), none, .q (.mv (.t 7))⟩,
              ⟨(some 42), none, .q (.ld true 1 (.t 2))⟩,
              ⟨(some 43), none, .q (.mv (.t 5))⟩,
              ⟨(some 44), none, .q (.mv (.t 8))⟩,
              ⟨(some 45), none, .c (.call 70 [(.t 42), (.t 43), (.t 44)])⟩,
              ⟨(some 46), none, .m (.app 1 8 (.t 41) (.t 45))⟩,
              ⟨(some 7), none, .q (.mv (.t 46))⟩])))
          (.reg [⟨(some 32), none, .q (.mv (.t 9))⟩,
            ⟨(some 33), none, .q (.bin .add (.t 32) (.c (.int .i64 1)))⟩,
            ⟨(some 9), none, .q (.mv (.t 33))⟩]))))))
       (.seq (.reg [⟨(some 47), none, .m (.bsl 1 [])⟩,
          ⟨(some 5), none, .q (.mv (.t 47))⟩])
       (.seq (.reg [⟨(some 48), none, .q (.ld true 1 (.t 2))⟩,
          ⟨(some 49), none, .q (.mv (.t 7))⟩,
          ⟨(some 50), none, .c (.call 84 [(.t 48), (.t 49)])⟩,
          ⟨(some 10), none, .q (.mv (.t 50))⟩])
       (.seq (.reg [⟨(some 51), none, .q (.mv (.t 10))⟩,
          ⟨(some 52), none, .q (.len (.t 51))⟩,
          ⟨(some 53), none, .q (.mv (.c (.int .i64 0)))⟩])
       (.block 4 (.loop [1, 2, 5, 10, 14, 15, 52, 53] (.seq (.reg [⟨(some 54), none, .q (.bin .lss (.t 53) (.t 52))⟩])
         (.seq (.cond (.t 54)
           .skip
           (.exit 4))
         (.seq (.block 5 (.seq (.reg [⟨(some 55), none, .q (.mv (.t 53))⟩,
              ⟨(some 11), none, .q (.mv (.t 55))⟩])
           (.seq (.reg [⟨(some 56), none, .q (.mv (.t 10))⟩,
              ⟨(some 57), none, .q (.mv (.t 11))⟩,
              ⟨(some 58), none, .q (.ixs 1 (.t 56) (.t 57))⟩,
              ⟨(some 59), none, .q (.ld false 1 (.t 58))⟩])
           (.cond (.t 59)
            (.reg [⟨(some 60), none, .q (.mv (.t 5))⟩,
              ⟨(some 61), none, .q (.mv (.t 11))⟩,
              ⟨(some 62), none, .m (.bsl 1 [(.t 61)])⟩,
              ⟨(some 63), none, .m (.app 1 8 (.t 60) (.t 62))⟩,
              ⟨(some 5), none, .q (.mv (.t 63))⟩])
            .skip))))
         (.reg [⟨(some 64), none, .q (.bin .add (.t 53) (.c (.int .i64 1)))⟩,
           ⟨(some 53), none, .q (.mv (.t 64))⟩]))))))))))))))
     (.reg [⟨(some 65), none, .q (.bin .add (.t 15) (.c (.int .i64 1)))⟩,
       ⟨(some 15), none, .q (.mv (.t 65))⟩])))))))
  (.seq (.reg [⟨(some 66), none, .q (.mv (.t 5))⟩,
     ⟨(some 4), none, .q (.mv (.t 66))⟩])
  .ret))))⟩
theorem l_spec_l05Span : lowF PA f_spec_l05Span 2 [.k [1, 2, 5, 14, 15], .k [1, 2, 5, 6, 7, 8, 9, 14, 15], .s (.take 0 (.take 1 (.take 2 (.take 3 (.take 4 (.take 5 (.one 6 (.take 7 .done)))))))), .k [1, 2, 5, 10, 14, 15, 52, 53]] = some c_spec_l05Span := by kernel_rfl
abbrev f_spec_l05Some : FuncId := 57
def c_spec_l05Some : AF := ⟨2, 22, [.t 4],
  (.seq (.reg [⟨(some 3), none, .m (.box (.t 1))⟩,
     ⟨(some 4), none, .q (.mv (.c (.slice none 0 0)))⟩])
  (.seq (.reg [⟨(some 7), none, .m (.bsl 1 [])⟩,
     ⟨(some 5), none, .q (.mv (.t 7))⟩])
  (.seq (.seq (.reg [⟨(some 8), none, .q (.mv (.t 0))⟩,
      ⟨(some 9), none, .c (.call 58 [(.t 8), (.c (.int .i64 5))])⟩,
      ⟨(some 6), none, .q (.mv (.t 9))⟩])
   (.block 0 (.loop [0, 3, 5, 6, 22] (.seq (.seq (.reg [⟨(some 10), none, .q (.mv (.t 6))⟩,
         ⟨(some 11), none, .q (.bin .gtr (.t 10) (.c (.int .i64 0)))⟩])
      (.cond (.t 11)
       .skip
       (.exit 0)))
     (.seq (.block 1 (.reg [⟨(some 14), none, .q (.mv (.t 5))⟩,
         ⟨(some 15), none, .q (.mv (.t 0))⟩,
         ⟨(some 16), none, .q (.ld true 1 (.t 3))⟩,
         ⟨(some 17), none, .c (.call 24 [(.t 16)])⟩,
         ⟨(some 18), none, .c (.call 58 [(.t 15), (.t 17)])⟩,
         ⟨(some 19), none, .m (.bsl 1 [(.t 18)])⟩,
         ⟨(some 20), none, .m (.app 1 8 (.t 14) (.t 19))⟩,
         ⟨(some 5), none, .q (.mv (.t 20))⟩]))
     (.reg [⟨(some 12), none, .q (.mv (.t 6))⟩,
       ⟨(some 13), none, .q (.bin .sub (.t 12) (.c (.int .i64 1)))⟩,
       ⟨(some 6), none, .q (.mv (.t 13))⟩]))))))
  (.seq (.reg [⟨(some 21), none, .q (.mv (.t 5))⟩,
     ⟨(some 4), none, .q (.mv (.t 21))⟩])
  .ret))))⟩
theorem l_spec_l05Some : lowF PA f_spec_l05Some 2 [.k [0, 3, 5, 6, 22]] = some c_spec_l05Some := by kernel_rfl
abbrev f_spec_l01Next : FuncId := 58
def c_spec_l01Next : AF := ⟨2, 58, [.t 4],
  (.seq (.reg [⟨(some 4), none, .q (.mv (.c (.int .i64 0)))⟩])
  (.seq (.seq (.reg [⟨(some 6), none, .q (.mv (.t 1))⟩,
      ⟨(some 7), none, .q (.bin .lss (.t 6) (.c (.int .i64 1)))⟩])
   (.cond (.t 7)
    (.seq (.reg [⟨(some 4), none, .q (.mv (.c (.int .i64 0)))⟩])
    .ret)
    .skip))
  (.seq (.reg [⟨(some 8), none, .q (.mv (.t 0))⟩,
     ⟨(some 9), none, .q (.mv (.t 0))⟩,
     ⟨(some 10), none, .q (.nlc (.t 9))⟩,
     ⟨(some 11), none, .q (.fad 2 (.t 10))⟩,
     ⟨(some 12), none, .q (.ld false 1 (.t 11))⟩,
     ⟨(some 13), none, .q (.bin .mul (.t 12) (.c (.int .u64 6364136223846793005)))⟩,
     ⟨(some 14), none, .q (.bin .add (.t 13) (.c (.int .u64 1442695040888963407)))⟩,
     ⟨(some 15), none, .q (.nlc (.t 8))⟩,
     ⟨(some 16), none, .q (.fad 2 (.t 15))⟩,
     ⟨none, none, .m (.st false 1 (.t 16) (.t 14))⟩])
  (.seq (.reg [⟨(some 17), none, .q (.mv (.t 0))⟩,
     ⟨(some 18), none, .q (.nlc (.t 17))⟩,
     ⟨(some 19), none, .q (.fad 2 (.t 18))⟩,
     ⟨(some 20), none, .q (.ld false 1 (.t 19))⟩,
     ⟨(some 21), none, .q (.bin .shr (.t 20) (.c (.int .u64 33)))⟩,
     ⟨(some 22), none, .q (.bin .and (.t 21) (.c (.int .u64 16777215)))⟩,
     ⟨(some 23), none, .q (.cvt .i64 (.t 22))⟩,
     ⟨(some 5), none, .q (.mv (.t 23))⟩])
  (.seq (.seq (.sch (.take 0 ⟨(some 24), none, .q (.mv (.t 0))⟩ (.take 1 ⟨(some 25), none, .q (.nlc (.t 24))⟩ (.take 2 ⟨(some 26), none, .q (.fad 1 (.t 25))⟩ (.take 3 ⟨(some 27), none, .q (.ld false 1 (.t 26))⟩ (.take 4 ⟨(some 28), none, .q (.mv (.t 0))⟩ (.take 5 ⟨(some 29), none, .q (.nlc (.t 28))⟩ (.take 6 ⟨(some 30), none, .q (.fad 0 (.t 29))⟩ (.take 7 ⟨(some 31), none, .q (.ld false 1 (.t 30))⟩ (.take 8 ⟨(some 32), none, .q (.len (.t 31))⟩ (.take 9 ⟨(some 33), none, .q (.bin .lss (.t 27) (.t 32))⟩ .done)))))))))))
   (.cond (.t 33)
    (.seq (.sch (.take 0 ⟨(some 34), none, .q (.mv (.t 5))⟩ (.take 1 ⟨(some 35), none, .q (.mv (.t 0))⟩ (.take 2 ⟨(some 36), none, .q (.nlc (.t 35))⟩ (.take 3 ⟨(some 37), none, .q (.fad 0 (.t 36))⟩ (.take 4 ⟨(some 38), none, .q (.ld false 1 (.t 37))⟩ (.take 5 ⟨(some 39), none, .q (.mv (.t 0))⟩ (.take 6 ⟨(some 40), none, .q (.nlc (.t 39))⟩ (.take 7 ⟨(some 41), none, .q (.fad 1 (.t 40))⟩ (.take 8 ⟨(some 42), none, .q (.ld false 1 (.t 41))⟩ (.take 9 ⟨(some 43), none, .q (.ixs 1 (.t 38) (.t 42))⟩ (.take 10 ⟨(some 44), none, .q (.ld false 1 (.t 43))⟩ (.take 11 ⟨(some 45), none, .q (.cvt .i64 (.t 44))⟩ (.take 12 ⟨(some 46), none, .q (.bin .add (.t 34) (.t 45))⟩ (.take 13 ⟨(some 5), none, .q (.mv (.t 46))⟩ .done)))))))))))))))
    (.reg [⟨(some 47), none, .q (.mv (.t 0))⟩,
      ⟨(some 48), none, .q (.mv (.t 0))⟩,
      ⟨(some 49), none, .q (.nlc (.t 48))⟩,
      ⟨(some 50), none, .q (.fad 1 (.t 49))⟩,
      ⟨(some 51), none, .q (.ld false 1 (.t 50))⟩,
      ⟨(some 52), none, .q (.bin .add (.t 51) (.c (.int .i64 1)))⟩,
      ⟨(some 53), none, .q (.nlc (.t 47))⟩,
      ⟨(some 54), none, .q (.fad 1 (.t 53))⟩,
      ⟨none, none, .m (.st false 1 (.t 54) (.t 52))⟩]))
    .skip))
  (.seq (.reg [⟨(some 55), none, .q (.mv (.t 5))⟩,
     ⟨(some 56), none, .q (.mv (.t 1))⟩,
     ⟨(some 57), none, .q (.bin .rem (.t 55) (.t 56))⟩,
     ⟨(some 4), none, .q (.mv (.t 57))⟩])
  .ret))))))⟩
theorem l_spec_l01Next : lowF PA f_spec_l01Next 2 [.s (.take 0 (.take 1 (.take 2 (.take 3 (.take 4 (.take 5 (.take 6 (.take 7 (.take 8 (.take 9 .done)))))))))), .s (.take 0 (.take 1 (.take 2 (.take 3 (.take 4 (.take 5 (.take 6 (.take 7 (.take 8 (.take 9 (.take 10 (.take 11 (.take 12 (.take 13 .done))))))))))))))] = some c_spec_l01Next := by kernel_rfl
abbrev f_spec_l01Put : FuncId := 59
def c_spec_l01Put : AF := ⟨2, 46, [.t 4],
  (.seq (.reg [⟨(some 4), none, .q (.mv (.c (.slice none 0 0)))⟩])
  (.seq (.reg [⟨(some 7), none, .q (.mv (.t 0))⟩,
     ⟨(some 8), none, .q (.len (.t 7))⟩,
     ⟨(some 5), none, .q (.mv (.t 8))⟩])
  (.seq (.block 0 (.loop [0, 1, 5] (.seq (.seq (.reg [⟨(some 9), none, .q (.mv (.t 5))⟩,
         ⟨(some 10), none, .q (.bin .gtr (.t 9) (.c (.int .i64 0)))⟩,
         ⟨(some 11), none, .q (.mv (.t 10))⟩,
         ⟨(some 12), (some (11, true)), .q (.mv (.t 0))⟩,
         ⟨(some 13), (some (11, true)), .q (.mv (.t 5))⟩,
         ⟨(some 14), (some (11, true)), .q (.bin .sub (.t 13) (.c (.int .i64 1)))⟩,
         ⟨(some 15), (some (11, true)), .q (.ixs 1 (.t 12) (.t 14))⟩,
         ⟨(some 16), (some (11, true)), .q (.ld false 1 (.t 15))⟩,
         ⟨(some 17), (some (11, true)), .q (.mv (.t 1))⟩,
         ⟨(some 18), (some (11, true)), .q (.bin .gtr (.t 16) (.t 17))⟩,
         ⟨(some 19), none, .q (.pick (.t 11) (.t 18) (.c (.bool false)))⟩])
      (.cond (.t 19)
       .skip
       (.exit 0)))
     (.block 1 (.reg [⟨(some 20), none, .q (.mv (.t 5))⟩,
        ⟨(some 21), none, .q (.bin .sub (.t 20) (.c (.int .i64 1)))⟩,
        ⟨(some 5), none, .q (.mv (.t 21))⟩])))))
  (.seq (.seq (.reg [⟨(some 22), none, .q (.mv (.t 5))⟩,
      ⟨(some 23), none, .q (.bin .gtr (.t 22) (.c (.int .i64 0)))⟩,
      ⟨(some 24), none, .q (.mv (.t 23))⟩,
      ⟨(some 25), (some (24, true)), .q (.mv (.t 0))⟩,
      ⟨(some 26), (some (24, true)), .q (.mv (.t 5))⟩,
      ⟨(some 27), (some (24, true)), .q (.bin .sub (.t 26) (.c (.int .i64 1)))⟩,
      ⟨(some 28), (some (24, true)), .q (.ixs 1 (.t 25) (.t 27))⟩,
      ⟨(some 29), (some (24, true)), .q (.ld false 1 (.t 28))⟩,
      ⟨(some 30), (some (24, true)), .q (.mv (.t 1))⟩,
      ⟨(some 31), (some (24, true)), .q (.bin .eql (.t 29) (.t 30))⟩,
      ⟨(some 32), none, .q (.pick (.t 24) (.t 31) (.c (.bool false)))⟩])
   (.cond (.t 32)
    (.seq (.reg [⟨(some 33), none, .q (.mv (.t 0))⟩,
       ⟨(some 4), none, .q (.mv (.t 33))⟩])
    .ret)
    .skip))
  (.seq (.reg [⟨(some 34), none, .q (.mv (.t 0))⟩,
     ⟨(some 35), none, .q (.mv (.t 5))⟩,
     ⟨(some 36), none, .q (.slc 1 (.t 34) none (some (.t 35)))⟩,
     ⟨(some 37), none, .c (.call 61 [(.t 36)])⟩,
     ⟨(some 38), none, .q (.mv (.t 1))⟩,
     ⟨(some 39), none, .m (.bsl 1 [(.t 38)])⟩,
     ⟨(some 40), none, .m (.app 1 8 (.t 37) (.t 39))⟩,
     ⟨(some 6), none, .q (.mv (.t 40))⟩])
  (.seq (.reg [⟨(some 41), none, .q (.mv (.t 6))⟩,
     ⟨(some 42), none, .q (.mv (.t 0))⟩,
     ⟨(some 43), none, .q (.mv (.t 5))⟩,
     ⟨(some 44), none, .q (.slc 1 (.t 42) (some (.t 43)) none)⟩,
     ⟨(some 45), none, .m (.app 1 8 (.t 41) (.t 44))⟩,
     ⟨(some 4), none, .q (.mv (.t 45))⟩])
  .ret))))))⟩
theorem l_spec_l01Put : lowF PA f_spec_l01Put 2 [.k [0, 1, 5]] = some c_spec_l01Put := by kernel_rfl
abbrev f_spec_l01Pick : FuncId := 60
def c_spec_l01Pick : AF := ⟨2, 12, [.t 4],
  (.seq (.reg [⟨(some 4), none, .q (.mv (.c (.int .i64 0)))⟩])
  (.seq (.reg [⟨(some 5), none, .q (.mv (.t 1))⟩,
     ⟨(some 6), none, .q (.mv (.t 0))⟩,
     ⟨(some 7), none, .q (.mv (.t 1))⟩,
     ⟨(some 8), none, .q (.len (.t 7))⟩,
     ⟨(some 9), none, .c (.call 58 [(.t 6), (.t 8)])⟩,
     ⟨(some 10), none, .q (.ixs 1 (.t 5) (.t 9))⟩,
     ⟨(some 11), none, .q (.ld false 1 (.t 10))⟩,
     ⟨(some 4), none, .q (.mv (.t 11))⟩])
  .ret))⟩
theorem l_spec_l01Pick : lowF PA f_spec_l01Pick 2 [] = some c_spec_l01Pick := by kernel_rfl
abbrev f_spec_l01Own : FuncId := 61
def c_spec_l01Own : AF := ⟨1, 6, [.t 2],
  (.seq (.reg [⟨(some 2), none, .q (.mv (.c (.slice none 0 0)))⟩])
  (.seq (.reg [⟨(some 3), none, .m (.bsl 1 [])⟩,
     ⟨(some 4), none, .q (.mv (.t 0))⟩,
     ⟨(some 5), none, .m (.app 1 8 (.t 3) (.t 4))⟩,
     ⟨(some 2), none, .q (.mv (.t 5))⟩])
  .ret))⟩
theorem l_spec_l01Own : lowF PA f_spec_l01Own 1 [] = some c_spec_l01Own := by kernel_rfl
abbrev f_impl_isLinear : FuncId := 62
def c_impl_isLinear : AF := ⟨2, 54, [.t 4],
  (.seq (.reg [⟨(some 2), none, .m (.box (.t 0))⟩,
     ⟨(some 4), none, .q (.mv (.c (.bool false)))⟩])
  (.seq (.reg [⟨(some 11), none, .q (.ld true 1 (.t 2))⟩,
     ⟨(some 12), none, .q (.mv (.t 1))⟩,
     ⟨(some 13), none, .c (.call 85 [(.t 11), (.t 12)])⟩,
     ⟨(some 5), none, .q (.mv (.t 13))⟩])
  (.seq (.seq (.reg [⟨(some 14), none, .q (.ld true 1 (.t 2))⟩,
      ⟨(some 15), none, .c (.call 86 [(.t 14)])⟩,
      ⟨(some 16), none, .q (.un .not (.t 15))⟩,
      ⟨(some 17), none, .q (.mv (.t 16))⟩,
      ⟨(some 18), (some (17, false)), .q (.mv (.t 5))⟩,
      ⟨(some 19), (some (17, false)), .q (.ixs 1 (.t 18) (.c (.int .i64 0)))⟩,
      ⟨(some 20), (some (17, false)), .q (.ld false 1 (.t 19))⟩,
      ⟨(some 21), (some (17, false)), .q (.un .not (.t 20))⟩,
      ⟨(some 22), none, .q (.pick (.t 17) (.c (.bool true)) (.t 21))⟩])
   (.cond (.t 22)
    (.seq (.reg [⟨(some 4), none, .q (.mv (.c (.bool false)))⟩])
    .ret)
    .skip))
  (.seq (.reg [⟨(some 23), none, .q (.ld true 1 (.t 2))⟩,
     ⟨(some 24), none, .q (.mv (.t 1))⟩,
     ⟨(some 25), none, .c (.call 76 [(.t 23), (.t 24)])⟩,
     ⟨(some 6), none, .q (.mv (.t 25))⟩])
  (.seq (.seq (.reg [⟨(some 26), none, .q (.mv (.t 6))⟩,
      ⟨(some 27), none, .q (.len (.t 26))⟩,
      ⟨(some 28), none, .q (.mv (.c (.int .i64 0)))⟩])
   (.block 0 (.loop [2, 5, 6, 26, 27, 28] (.seq (.reg [⟨(some 29), none, .q (.bin .lss (.t 28) (.t 27))⟩])
     (.seq (.cond (.t 29)
       .skip
       (.exit 0))
     (.seq (.block 1 (.seq (.reg [⟨(some 30), none, .q (.mv (.t 28))⟩,
          ⟨(some 31), none, .q (.ixs 8 (.t 26) (.t 28))⟩,
          ⟨(some 32), none, .q (.ld true 8 (.t 31))⟩,
          ⟨(some 8), none, .m (.alloc [(.v (.int .u8 0)), (.v (.int .u8 0)), (.v (.int .u8 0)), (.v (.int .u8 0)), (.v (.int .u8 0)), (.v (.int .u8 0)), (.v (.int .u8 0)), (.v (.int .u8 0))])⟩,
          ⟨(some 7), none, .q (.mv (.t 30))⟩,
          ⟨none, none, .m (.st true 8 (.t 8) (.t 32))⟩])
       (.seq (.reg [⟨(some 33), none, .q (.mv (.t 6))⟩,
          ⟨(some 34), none, .q (.mv (.t 7))⟩,
          ⟨(some 35), none, .q (.bin .add (.t 34) (.c (.int .i64 1)))⟩,
          ⟨(some 36), none, .q (.slc 8 (.t 33) none (some (.t 35)))⟩,
          ⟨(some 37), none, .q (.len (.t 36))⟩,
          ⟨(some 38), none, .q (.mv (.c (.int .i64 0)))⟩])
       (.block 2 (.loop [2, 5, 6, 8, 26, 27, 28, 36, 37, 38] (.seq (.reg [⟨(some 39), none, .q (.bin .lss (.t 38) (.t 37))⟩])
         (.seq (.cond (.t 39)
           .skip
           (.exit 2))
         (.seq (.block 3 (.seq (.reg [⟨(some 40), none, .q (.ixs 8 (.t 36) (.t 38))⟩,
              ⟨(some 41), none, .q (.ld true 8 (.t 40))⟩,
              ⟨(some 10), none, .m (.alloc [(.v (.int .u8 0)), (.v (.int .u8 0)), (.v (.int .u8 0)), (.v (.int .u8 0)), (.v (.int .u8 0)), (.v (.int .u8 0)), (.v (.int .u8 0)), (.v (.int .u8 0))])⟩,
              ⟨none, none, .m (.st true 8 (.t 10) (.t 41))⟩])
           (.seq (.sch (.take 0 ⟨(some 42), none, .q (.mv (.t 5))⟩ (.take 1 ⟨(some 43), none, .q (.ld true 1 (.t 2))⟩ (.take 2 ⟨(some 44), none, .q (.ld true 1 (.t 2))⟩ (.take 3 ⟨(some 45), none, .q (.ld true 8 (.t 8))⟩ (.take 4 ⟨(some 46), none, .q (.ld true 8 (.t 10))⟩ (.one ⟨(some 47), none, .c (.call 32 [(.t 44), (.t 45), (.t 46)])⟩ [4, 3, 2] (.one ⟨(some 48), none, .c (.call 31 [(.t 43), (.t 47)])⟩ [1] (.take 7 ⟨(some 49), none, .q (.ixs 1 (.t 42) (.t 48))⟩ (.take 8 ⟨(some 50), none, .q (.ld false 1 (.t 49))⟩ (.take 9 ⟨(some 51), none, .q (.un .not (.t 50))⟩ .done)))))))))))
           (.cond (.t 51)
            (.seq (.reg [⟨(some 4), none, .q (.mv (.c (.bool false)))⟩])
            .ret)
            .skip))))
         (.reg [⟨(some 52), none, .q (.bin .add (.t 38) (.c (.int .i64 1)))⟩,
           ⟨(some 38), none, .q (.mv (.t 52))⟩])))))))))
     (.reg [⟨(some 53), none, .q (.bin .add (.t 28) (.c (.int .i64 1)))⟩,
       ⟨(some 28), none, .q (.mv (.t 53))⟩])))))))
  (.seq (.reg [⟨(some 4), none, .q (.mv (.c (.bool true)))⟩])
  .ret))))))⟩
theorem l_impl_isLinear : lowF PA f_impl_isLinear 2 [.k [2, 5, 6, 26, 27, 28], .k [2, 5, 6, 8, 26, 27, 28, 36, 37, 38], .s (.take 0 (.take 1 (.take 2 (.take 3 (.take 4 (.one 5 (.one 6 (.take 7 (.take 8 (.take 9 .done))))))))))] = some c_impl_isLinear := by kernel_rfl
abbrev f_slices_Repeat___int64_int64_ : FuncId := 63
def c_slices_Repeat___int64_int64_ : AF := ⟨2, 48, [.t 4],
  (.seq (.reg [⟨(some 4), none, .q (.mv (.c (.slice none 0 0)))⟩])
  (.seq (.seq (.reg [⟨(some 9), none, .q (.mv (.t 1))⟩,
      ⟨(some 10), none, .q (.bin .lss (.t 9) (.c (.int .i64 0)))⟩])
   (.cond (.t 10)
    .bad
    .skip))
  (.seq (.reg [⟨(some 13), none, .q (.mv (.t 0))⟩,
     ⟨(some 14), none, .q (.len (.t 13))⟩,
     ⟨(some 15), none, .q (.cvt .u64 (.t 14))⟩,
     ⟨(some 16), none, .q (.mv (.t 1))⟩,
     ⟨(some 17), none, .q (.cvt .u64 (.t 16))⟩,
     ⟨(some 18), none, .c (.call 87 [(.t 15), (.t 17)])⟩,
     ⟨(some 12), none, .q (.mv (.t 18))⟩,
     ⟨(some 19), none, .q (.ext (.t 12) 0)⟩,
     ⟨(some 20), none, .q (.ext (.t 12) 1)⟩,
     ⟨(some 5), none, .q (.mv (.t 19))⟩,
     ⟨(some 6), none, .q (.mv (.t 20))⟩])
  (.seq (.seq (.reg [⟨(some 21), none, .q (.mv (.t 5))⟩,
      ⟨(some 22), none, .q (.bin .gtr (.t 21) (.c (.int .u64 0)))⟩,
      ⟨(some 23), none, .q (.mv (.t 22))⟩,
      ⟨(some 24), (some (23, false)), .q (.mv (.t 6))⟩,
      ⟨(some 25), (some (23, false)), .q (.bin .gtr (.t 24) (.c (.int .u64 9223372036854775807)))⟩,
      ⟨(some 26), none, .q (.pick (.t 23) (.c (.bool true)) (.t 25))⟩])
   (.cond (.t 26)
    .bad
    .skip))
  (.seq (.reg [⟨(some 28), none, .q (.mv (.t 6))⟩,
     ⟨(some 29), none, .q (.cvt .i64 (.t 28))⟩,
     ⟨(some 30), none, .m (.mks 1 (.v (.int .i64 0)) 8 (.t 29) (.t 29))⟩,
     ⟨(some 7), none, .q (.mv (.t 30))⟩])
  (.seq (.reg [⟨(some 31), none, .q (.mv (.t 7))⟩,
     ⟨(some 32), none, .q (.mv (.t 0))⟩,
     ⟨(some 33), none, .m (.cpy 1 (.t 31) (.t 32))⟩,
     ⟨(some 8), none, .q (.mv (.t 33))⟩])
  (.seq (.block 0 (.loop [7, 8] (.seq (.seq (.reg [⟨(some 34), none, .q (.mv (.t 8))⟩,
         ⟨(some 35), none, .q (.mv (.t 7))⟩,
         ⟨(some 36), none, .q (.len (.t 35))⟩,
         ⟨(some 37), none, .q (.bin .lss (.t 34) (.t 36))⟩])
      (.cond (.t 37)
       .skip
       (.exit 0)))
     (.block 1 (.sch (.take 0 ⟨(some 38), none, .q (.mv (.t 8))⟩ (.take 1 ⟨(some 39), none, .q (.mv (.t 7))⟩ (.take 2 ⟨(some 40), none, .q (.mv (.t 8))⟩ (.take 3 ⟨(some 41), none, .q (.slc 1 (.t 39) (some (.t 40)) none)⟩ (.take 4 ⟨(some 42), none, .q (.mv (.t 7))⟩ (.take 5 ⟨(some 43), none, .q (.mv (.t 8))⟩ (.take 6 ⟨(some 44), none, .q (.slc 1 (.t 42) none (some (.t 43)))⟩ (.one ⟨(some 45), none, .m (.cpy 1 (.t 41) (.t 44))⟩ [] (.take 8 ⟨(some 46), none, .q (.bin .add (.t 38) (.t 45))⟩ (.take 9 ⟨(some 8), none, .q (.mv (.t 46))⟩ .done)))))))))))))))
  (.seq (.reg [⟨(some 47), none, .q (.mv (.t 7))⟩,
     ⟨(some 4), none, .q (.mv (.t 47))⟩])
  .ret))))))))⟩
theorem l_slices_Repeat___int64_int64_ : lowF PA f_slices_Repeat___int64_int64_ 2 [.x 2, .x 5, .k [7, 8], .s (.take 0 (.take 1 (.take 2 (.take 3 (.take 4 (.take 5 (.take 6 (.one 7 (.take 8 (.take 9 .done))))))))))] = some c_slices_Repeat___int64_int64_ := by kernel_rfl
abbrev f_impl_allDigits : FuncId := 64
def c_impl_allDigits : AF := ⟨1, 19, [.t 2],
  (.seq (.reg [⟨(some 1), none, .m (.box (.t 0))⟩,
     ⟨(some 2), none, .q (.mv (.c (.slice none 0 0)))⟩])
  (.seq (.reg [⟨(some 5), none, .m (.bsl 8 [])⟩,
     ⟨(some 3), none, .q (.mv (.t 5))⟩])
  (.seq (.seq (.reg [⟨(some 6), none, .q (.ld true 1 (.t 1))⟩,
      ⟨(some 7), none, .c (.call 47 [(.t 6)])⟩,
      ⟨(some 8), none, .q (.mv (.c (.int .i64 0)))⟩])
   (.block 0 (.loop [1, 3, 7, 8] (.seq (.reg [⟨(some 9), none, .q (.bin .lss (.t 8) (.t 7))⟩])
     (.seq (.cond (.t 9)
       .skip
       (.exit 0))
     (.seq (.block 1 (.seq (.reg [⟨(some 10), none, .q (.mv (.t 8))⟩,
          ⟨(some 4), none, .q (.mv (.t 10))⟩])
       (.reg [⟨(some 11), none, .q (.mv (.t 3))⟩,
         ⟨(some 12), none, .q (.ld true 1 (.t 1))⟩,
         ⟨(some 13), none, .q (.mv (.t 4))⟩,
         ⟨(some 14), none, .c (.call 29 [(.t 12), (.t 13)])⟩,
         ⟨(some 15), none, .m (.bsl 8 [(.t 14)])⟩,
         ⟨(some 16), none, .m (.app 8 8 (.t 11) (.t 15))⟩,
         ⟨(some 3), none, .q (.mv (.t 16))⟩])))
     (.reg [⟨(some 17), none, .q (.bin .add (.t 8) (.c (.int .i64 1)))⟩,
       ⟨(some 8), none, .q (.mv (.t 17))⟩])))))))
  (.seq (.reg [⟨(some 18), none, .q (.mv (.t 3))⟩,
     ⟨(some 2), none, .q (.mv (.t 18))⟩])
  .ret))))⟩
theorem l_impl_allDigits : lowF PA f_impl_allDigits 1 [.k [1, 3, 7, 8]] = some c_impl_allDigits := by kernel_rfl
abbrev f_impl_places : FuncId := 65
def c_impl_places : AF := ⟨1, 6, [.t 2],
  (.seq (.reg [⟨(some 1), none, .m (.box (.t 0))⟩,
     ⟨(some 2), none, .q (.mv (.c (.int .i64 0)))⟩])
  (.seq (.reg [⟨(some 3), none, .q (.fad 0 (.t 1))⟩,
     ⟨(some 4), none, .q (.ld false 1 (.t 3))⟩,
     ⟨(some 5), none, .q (.len (.t 4))⟩,
     ⟨(some 2), none, .q (.mv (.t 5))⟩])
  .ret))⟩
theorem l_impl_places : lowF PA f_impl_places 1 [] = some c_impl_places := by kernel_rfl
abbrev f_impl_shifted : FuncId := 66
def c_impl_shifted : AF := ⟨3, 14, [.t 6],
  (.seq (.reg [⟨(some 3), none, .m (.box (.t 0))⟩,
     ⟨(some 6), none, .q (.mv (.c (.slice none 0 0)))⟩])
  (.seq (.reg [⟨(some 8), none, .q (.ld true 1 (.t 3))⟩,
     ⟨(some 9), none, .q (.mv (.t 2))⟩,
     ⟨(some 10), none, .c (.call 29 [(.t 8), (.t 9)])⟩,
     ⟨(some 7), none, .m (.alloc [(.v (.int .u8 0)), (.v (.int .u8 0)), (.v (.int .u8 0)), (.v (.int .u8 0)), (.v (.int .u8 0)), (.v (.int .u8 0)), (.v (.int .u8 0)), (.v (.int .u8 0))])⟩,
     ⟨none, none, .m (.st true 8 (.t 7) (.t 10))⟩])
  (.seq (.reg [⟨(some 11), none, .q (.mv (.t 1))⟩,
     ⟨(some 12), none, .q (.mkf 89 [(.t 3), (.t 7)])⟩,
     ⟨(some 13), none, .c (.call 88 [(.t 11), (.t 12)])⟩,
     ⟨(some 6), none, .q (.mv (.t 13))⟩])
  .ret)))⟩
theorem l_impl_shifted : lowF PA f_impl_shifted 3 [] = some c_impl_shifted := by kernel_rfl
abbrev f_spec_l01Is : FuncId := 67
def c_spec_l01Is : AF := ⟨1, 26, [.t 2],
  (.seq (.reg [⟨(some 1), none, .m (.box (.t 0))⟩,
     ⟨(some 2), none, .q (.mv (.c (.bool false)))⟩])
  (.seq (.seq (.reg [⟨(some 4), none, .q (.fad 0 (.t 1))⟩,
      ⟨(some 5), none, .q (.ld false 1 (.t 4))⟩,
      ⟨(some 6), none, .q (.len (.t 5))⟩,
      ⟨(some 7), none, .c (.call 68 [(.t 6), (.c (.int .i64 1)), (.c (.int .i64 8))])⟩,
      ⟨(some 8), none, .q (.un .not (.t 7))⟩])
   (.cond (.t 8)
    (.seq (.reg [⟨(some 2), none, .q (.mv (.c (.bool false)))⟩])
    .ret)
    .skip))
  (.seq (.seq (.reg [⟨(some 3), none, .q (.mv (.c (.int .i64 0)))⟩])
   (.block 0 (.loop [1, 3] (.seq (.seq (.reg [⟨(some 9), none, .q (.mv (.t 3))⟩,
         ⟨(some 10), none, .q (.fad 0 (.t 1))⟩,
         ⟨(some 11), none, .q (.ld false 1 (.t 10))⟩,
         ⟨(some 12), none, .q (.len (.t 11))⟩,
         ⟨(some 13), none, .q (.bin .lss (.t 9) (.t 12))⟩])
      (.cond (.t 13)
       .skip
       (.exit 0)))
     (.seq (.block 1 (.seq (.reg [⟨(some 16), none, .q (.fad 0 (.t 1))⟩,
          ⟨(some 17), none, .q (.ld false 1 (.t 16))⟩,
          ⟨(some 18), none, .q (.mv (.t 3))⟩,
          ⟨(some 19), none, .q (.ixs 1 (.t 17) (.t 18))⟩,
          ⟨(some 20), none, .q (.ld false 1 (.t 19))⟩,
          ⟨(some 21), none, .c (.call 68 [(.t 20), (.c (.int .i64 2)), (.c (.int .i64 4))])⟩,
          ⟨(some 22), none, .q (.un .not (.t 21))⟩])
       (.cond (.t 22)
        (.seq (.reg [⟨(some 2), none, .q (.mv (.c (.bool false)))⟩])
        .ret)
        .skip)))
     (.reg [⟨(some 14), none, .q (.mv (.t 3))⟩,
       ⟨(some 15), none, .q (.bin .add (.t 14) (.c (.int .i64 1)))⟩,
       ⟨(some 3), none, .q (.mv (.t 15))⟩]))))))
  (.seq (.reg [⟨(some 23), none, .q (.ld true 1 (.t 1))⟩,
     ⟨(some 24), none, .c (.call 24 [(.t 23)])⟩,
     ⟨(some 25), none, .q (.bin .leq (.t 24) (.c (.int .i64 1024)))⟩,
     ⟨(some 2), none, .q (.mv (.t 25))⟩])
  .ret))))⟩
theorem l_spec_l01Is : lowF PA f_spec_l01Is 1 [.k [1, 3]] = some c_spec_l01Is := by kernel_rfl
abbrev f_spec_l01In : FuncId := 68
def c_spec_l01In : AF := ⟨3, 15, [.t 6],
  (.seq (.reg [⟨(some 6), none, .q (.mv (.c (.bool false)))⟩])
  (.seq (.reg [⟨(some 7), none, .q (.mv (.t 0))⟩,
     ⟨(some 8), none, .q (.mv (.t 1))⟩,
     ⟨(some 9), none, .q (.bin .geq (.t 7) (.t 8))⟩,
     ⟨(some 10), none, .q (.mv (.t 9))⟩,
     ⟨(some 11), (some (10, true)), .q (.mv (.t 0))⟩,
     ⟨(some 12), (some (10, true)), .q (.mv (.t 2))⟩,
     ⟨(some 13), (some (10, true)), .q (.bin .leq (.t 11) (.t 12))⟩,
     ⟨(some 14), none, .q (.pick (.t 10) (.t 13) (.c (.bool false)))⟩,
     ⟨(some 6), none, .q (.mv (.t 14))⟩])
  .ret))⟩
theorem l_spec_l01In : lowF PA f_spec_l01In 3 [] = some c_spec_l01In := by kernel_rfl
abbrev f_spec_l05Linear : FuncId := 69
def c_spec_l05Linear : AF := ⟨2, 50, [.t 4],
  (.seq (.reg [⟨(some 2), none, .m (.box (.t 0))⟩,
     ⟨(some 4), none, .q (.mv (.c (.bool false)))⟩])
  (.seq (.seq (.reg [⟨(some 8), none, .q (.ld true 1 (.t 2))⟩,
      ⟨(some 9), none, .c (.call 54 [(.t 8)])⟩,
      ⟨(some 10), none, .q (.un .not (.t 9))⟩,
      ⟨(some 11), none, .q (.mv (.t 10))⟩,
      ⟨(some 12), (some (11, false)), .q (.mv (.t 1))⟩,
      ⟨(some 13), (some (11, false)), .q (.len (.t 12))⟩,
      ⟨(some 14), (some (11, false)), .q (.bin .eql (.t 13) (.c (.int .i64 0)))⟩,
      ⟨(some 15), none, .q (.pick (.t 11) (.c (.bool true)) (.t 14))⟩,
      ⟨(some 16), none, .q (.mv (.t 15))⟩,
      ⟨(some 17), (some (16, false)), .q (.mv (.t 1))⟩,
      ⟨(some 18), (some (16, false)), .q (.ixs 1 (.t 17) (.c (.int .i64 0)))⟩,
      ⟨(some 19), (some (16, false)), .q (.ld false 1 (.t 18))⟩,
      ⟨(some 20), (some (16, false)), .q (.bin .neq (.t 19) (.c (.int .i64 0)))⟩,
      ⟨(some 21), none, .q (.pick (.t 16) (.c (.bool true)) (.t 20))⟩])
   (.cond (.t 21)
    (.seq (.reg [⟨(some 4), none, .q (.mv (.c (.bool false)))⟩])
    .ret)
    .skip))
  (.seq (.reg [⟨(some 22), none, .q (.ld true 1 (.t 2))⟩,
     ⟨(some 23), none, .q (.mv (.t 1))⟩,
     ⟨(some 24), none, .c (.call 84 [(.t 22), (.t 23)])⟩,
     ⟨(some 5), none, .q (.mv (.t 24))⟩])
  (.seq (.seq (.reg [⟨(some 25), none, .q (.mv (.t 1))⟩,
      ⟨(some 26), none, .q (.len (.t 25))⟩,
      ⟨(some 27), none, .q (.mv (.c (.int .i64 0)))⟩])
   (.block 0 (.loop [1, 2, 5, 26, 27] (.seq (.reg [⟨(some 28), none, .q (.bin .lss (.t 27) (.t 26))⟩])
     (.seq (.cond (.t 28)
       .skip
       (.exit 0))
     (.seq (.block 1 (.seq (.reg [⟨(some 29), none, .q (.mv (.t 27))⟩,
          ⟨(some 6), none, .q (.mv (.t 29))⟩])
       (.seq (.reg [⟨(some 7), none, .q (.mv (.c (.int .i64 0)))⟩])
       (.block 2 (.loop [1, 2, 5, 6, 7, 26, 27] (.seq (.seq (.reg [⟨(some 30), none, .q (.mv (.t 7))⟩,
             ⟨(some 31), none, .q (.mv (.t 6))⟩,
             ⟨(some 32), none, .q (.bin .leq (.t 30) (.t 31))⟩])
          (.cond (.t 32)
           .skip
           (.exit 2)))
         (.seq (.block 3 (.seq (.sch (.take 0 ⟨(some 35), none, .q (.mv (.t 5))⟩ (.take 1 ⟨(some 36), none, .q (.ld true 1 (.t 2))⟩ (.take 2 ⟨(some 37), none, .q (.mv (.t 1))⟩ (.take 3 ⟨(some 38), none, .q (.mv (.t 6))⟩ (.take 4 ⟨(some 39), none, .q (.ixs 1 (.t 37) (.t 38))⟩ (.take 5 ⟨(some 40), none, .q (.ld false 1 (.t 39))⟩ (.take 6 ⟨(some 41), none, .q (.mv (.t 1))⟩ (.take 7 ⟨(some 42), none, .q (.mv (.t 7))⟩ (.take 8 ⟨(some 43), none, .q (.ixs 1 (.t 41) (.t 42))⟩ (.take 9 ⟨(some 44), none, .q (.ld false 1 (.t 43))⟩ (.one ⟨(some 45), none, .c (.call 36 [(.t 36), (.t 40), (.t 44)])⟩ [9, 5, 1] (.take 11 ⟨(some 46), none, .q (.ixs 1 (.t 35) (.t 45))⟩ (.take 12 ⟨(some 47), none, .q (.ld false 1 (.t 46))⟩ (.take 13 ⟨(some 48), none, .q (.un .not (.t 47))⟩ .done)))))))))))))))
           (.cond (.t 48)
            (.seq (.reg [⟨(some 4), none, .q (.mv (.c (.bool false)))⟩])
            .ret)
            .skip)))
         (.reg [⟨(some 33), none, .q (.mv (.t 7))⟩,
           ⟨(some 34), none, .q (.bin .add (.t 33) (.c (.int .i64 1)))⟩,
           ⟨(some 7), none, .q (.mv (.t 34))⟩]))))))))
     (.reg [⟨(some 49), none, .q (.bin .add (.t 27) (.c (.int .i64 1)))⟩,
       ⟨(some 27), none, .q (.mv (.t 49))⟩])))))))
  (.seq (.reg [⟨(some 4), none, .q (.mv (.c (.bool true)))⟩])
  .ret)))))⟩
theorem l_spec_l05Linear : lowF PA f_spec_l05Linear 2 [.k [1, 2, 5, 26, 27], .k [1, 2, 5, 6, 7, 26, 27], .s (.take 0 (.take 1 (.take 2 (.take 3 (.take 4 (.take 5 (.take 6 (.take 7 (.take 8 (.take 9 (.one 10 (.take 11 (.take 12 (.take 13 .done))))))))))))))] = some c_spec_l05Linear := by kernel_rfl
abbrev f_spec_l01Shifted : FuncId := 70
def c_spec_l01Shifted : AF := ⟨3, 26, [.t 6],
  (.seq (.reg [⟨(some 3), none, .m (.box (.t 0))⟩,
     ⟨(some 6), none, .q (.mv (.c (.slice none 0 0)))⟩])
  (.seq (.reg [⟨(some 9), none, .m (.bsl 1 [])⟩,
     ⟨(some 7), none, .q (.mv (.t 9))⟩])
  (.seq (.seq (.reg [⟨(some 10), none, .q (.mv (.t 1))⟩,
      ⟨(some 11), none, .q (.len (.t 10))⟩,
      ⟨(some 12), none, .q (.mv (.c (.int .i64 0)))⟩])
   (.block 0 (.loop [1, 2, 3, 7, 11, 12] (.seq (.reg [⟨(some 13), none, .q (.bin .lss (.t 12) (.t 11))⟩])
     (.seq (.cond (.t 13)
       .skip
       (.exit 0))
     (.seq (.block 1 (.seq (.reg [⟨(some 14), none, .q (.mv (.t 12))⟩,
          ⟨(some 8), none, .q (.mv (.t 14))⟩])
       (.sch (.take 0 ⟨(some 15), none, .q (.mv (.t 7))⟩ (.take 1 ⟨(some 16), none, .q (.ld true 1 (.t 3))⟩ (.take 2 ⟨(some 17), none, .q (.mv (.t 1))⟩ (.take 3 ⟨(some 18), none, .q (.mv (.t 8))⟩ (.take 4 ⟨(some 19), none, .q (.ixs 1 (.t 17) (.t 18))⟩ (.take 5 ⟨(some 20), none, .q (.ld false 1 (.t 19))⟩ (.take 6 ⟨(some 21), none, .q (.mv (.t 2))⟩ (.one ⟨(some 22), none, .c (.call 36 [(.t 16), (.t 20), (.t 21)])⟩ [5, 1] (.one ⟨(some 23), none, .c (.call 59 [(.t 15), (.t 22)])⟩ [] (.take 9 ⟨(some 7), none, .q (.mv (.t 23))⟩ .done)))))))))))))
     (.reg [⟨(some 24), none, .q (.bin .add (.t 12) (.c (.int .i64 1)))⟩,
       ⟨(some 12), none, .q (.mv (.t 24))⟩])))))))
  (.seq (.reg [⟨(some 25), none, .q (.mv (.t 7))⟩,
     ⟨(some 6), none, .q (.mv (.t 25))⟩])
  .ret))))⟩
theorem l_spec_l01Shifted : lowF PA f_spec_l01Shifted 3 [.k [1, 2, 3, 7, 11, 12], .s (.take 0 (.take 1 (.take 2 (.take 3 (.take 4 (.take 5 (.take 6 (.one 7 (.one 8 (.take 9 .done))))))))))] = some c_spec_l01Shifted := by kernel_rfl
abbrev f_spec_l01Digits : FuncId := 71
def c_spec_l01Digits : AF := ⟨2, 37, [.t 4],
  (.seq (.reg [⟨(some 2), none, .m (.box (.t 0))⟩,
     ⟨(some 4), none, .q (.mv (.c (.slice none 0 0)))⟩])
  (.seq (.reg [⟨(some 7), none, .q (.fad 0 (.t 2))⟩,
     ⟨(some 8), none, .q (.ld false 1 (.t 7))⟩,
     ⟨(some 9), none, .q (.len (.t 8))⟩,
     ⟨(some 10), none, .m (.mks 1 (.v (.int .i64 0)) 8 (.t 9) (.t 9))⟩,
     ⟨(some 5), none, .q (.mv (.t 10))⟩])
  (.seq (.seq (.reg [⟨(some 11), none, .q (.fad 0 (.t 2))⟩,
      ⟨(some 12), none, .q (.ld false 1 (.t 11))⟩,
      ⟨(some 13), none, .q (.len (.t 12))⟩,
      ⟨(some 14), none, .q (.bin .sub (.t 13) (.c (.int .i64 1)))⟩,
      ⟨(some 6), none, .q (.mv (.t 14))⟩])
   (.block 0 (.loop [1, 2, 5, 6] (.seq (.seq (.reg [⟨(some 15), none, .q (.mv (.t 6))⟩,
         ⟨(some 16), none, .q (.bin .geq (.t 15) (.c (.int .i64 0)))⟩])
      (.cond (.t 16)
       .skip
       (.exit 0)))
     (.seq (.block 1 (.seq (.reg [⟨(some 19), none, .q (.mv (.t 5))⟩,
          ⟨(some 20), none, .q (.mv (.t 6))⟩,
          ⟨(some 21), none, .q (.mv (.t 1))⟩,
          ⟨(some 22), none, .q (.fad 0 (.t 2))⟩,
          ⟨(some 23), none, .q (.ld false 1 (.t 22))⟩,
          ⟨(some 24), none, .q (.mv (.t 6))⟩,
          ⟨(some 25), none, .q (.ixs 1 (.t 23) (.t 24))⟩,
          ⟨(some 26), none, .q (.ld false 1 (.t 25))⟩,
          ⟨(some 27), none, .q (.bin .rem (.t 21) (.t 26))⟩,
          ⟨(some 28), none, .q (.ixs 1 (.t 19) (.t 20))⟩,
          ⟨none, none, .m (.st false 1 (.t 28) (.t 27))⟩])
       (.reg [⟨(some 29), none, .q (.mv (.t 1))⟩,
         ⟨(some 30), none, .q (.fad 0 (.t 2))⟩,
         ⟨(some 31), none, .q (.ld false 1 (.t 30))⟩,
         ⟨(some 32), none, .q (.mv (.t 6))⟩,
         ⟨(some 33), none, .q (.ixs 1 (.t 31) (.t 32))⟩,
         ⟨(some 34), none, .q (.ld false 1 (.t 33))⟩,
         ⟨(some 35), none, .q (.bin .quo (.t 29) (.t 34))⟩,
         ⟨(some 1), none, .q (.mv (.t 35))⟩])))
     (.reg [⟨(some 17), none, .q (.mv (.t 6))⟩,
       ⟨(some 18), none, .q (.bin .sub (.t 17) (.c (.int .i64 1)))⟩,
       ⟨(some 6), none, .q (.mv (.t 18))⟩]))))))
  (.seq (.reg [⟨(some 36), none, .q (.mv (.t 5))⟩,
     ⟨(some 4), none, .q (.mv (.t 36))⟩])
  .ret))))⟩
theorem l_spec_l01Digits : lowF PA f_spec_l01Digits 2 [.k [1, 2, 5, 6]] = some c_spec_l01Digits := by kernel_rfl
abbrev f_spec_l01Word : FuncId := 72
def c_spec_l01Word : AF := ⟨2, 26, [.t 4],
  (.seq (.reg [⟨(some 2), none, .m (.box (.t 0))⟩,
     ⟨(some 4), none, .q (.mv (.c (.int .i64 0)))⟩])
  (.seq (.reg [⟨(some 5), none, .q (.mv (.c (.int .i64 0)))⟩])
  (.seq (.seq (.reg [⟨(some 6), none, .q (.mv (.c (.int .i64 0)))⟩])
   (.block 0 (.loop [1, 2, 5, 6] (.seq (.seq (.reg [⟨(some 7), none, .q (.mv (.t 6))⟩,
         ⟨(some 8), none, .q (.mv (.t 1))⟩,
         ⟨(some 9), none, .q (.len (.t 8))⟩,
         ⟨(some 10), none, .q (.bin .lss (.t 7) (.t 9))⟩])
      (.cond (.t 10)
       .skip
       (.exit 0)))
     (.seq (.block 1 (.sch (.take 0 ⟨(some 13), none, .q (.mv (.t 5))⟩ (.take 1 ⟨(some 14), none, .q (.fad 0 (.t 2))⟩ (.take 2 ⟨(some 15), none, .q (.ld false 1 (.t 14))⟩ (.take 3 ⟨(some 16), none, .q (.mv (.t 6))⟩ (.take 4 ⟨(some 17), none, .q (.ixs 1 (.t 15) (.t 16))⟩ (.take 5 ⟨(some 18), none, .q (.ld false 1 (.t 17))⟩ (.take 6 ⟨(some 19), none, .q (.bin .mul (.t 13) (.t 18))⟩ (.take 7 ⟨(some 20), none, .q (.mv (.t 1))⟩ (.take 8 ⟨(some 21), none, .q (.mv (.t 6))⟩ (.take 9 ⟨(some 22), none, .q (.ixs 1 (.t 20) (.t 21))⟩ (.take 10 ⟨(some 23), none, .q (.ld false 1 (.t 22))⟩ (.take 11 ⟨(some 24), none, .q (.bin .add (.t 19) (.t 23))⟩ (.take 12 ⟨(some 5), none, .q (.mv (.t 24))⟩ .done)))))))))))))))
     (.reg [⟨(some 11), none, .q (.mv (.t 6))⟩,
       ⟨(some 12), none, .q (.bin .add (.t 11) (.c (.int .i64 1)))⟩,
       ⟨(some 6), none, .q (.mv (.t 12))⟩]))))))
  (.seq (.reg [⟨(some 25), none, .q (.mv (.t 5))⟩,
     ⟨(some 4), none, .q (.mv (.t 25))⟩])
  .ret))))⟩
theorem l_spec_l01Word : lowF PA f_spec_l01Word 2 [.k [1, 2, 5, 6], .s (.take 0 (.take 1 (.take 2 (.take 3 (.take 4 (.take 5 (.take 6 (.take 7 (.take 8 (.take 9 (.take 10 (.take 11 (.take 12 .done)))))))))))))] = some c_spec_l01Word := by kernel_rfl
abbrev f_slices_pdqsortOrdered_int64_ : FuncId := 73
abbrev f_math_bits_Len : FuncId := 74
abbrev f_impl_isCode : FuncId := 75
def c_impl_isCode : AF := ⟨2, 33, [.t 4],
  (.seq (.reg [⟨(some 2), none, .m (.box (.t 0))⟩,
     ⟨(some 4), none, .q (.mv (.c (.bool false)))⟩])
  (.seq (.seq (.reg [⟨(some 6), none, .q (.mv (.t 1))⟩,
      ⟨(some 7), none, .q (.len (.t 6))⟩,
      ⟨(some 8), none, .q (.ld true 1 (.t 2))⟩,
      ⟨(some 9), none, .c (.call 47 [(.t 8)])⟩,
      ⟨(some 10), none, .q (.bin .gtr (.t 7) (.t 9))⟩,
      ⟨(some 11), none, .q (.mv (.t 10))⟩,
      ⟨(some 12), (some (11, false)), .q (.ld true 1 (.t 2))⟩,
      ⟨(some 13), (some (11, false)), .q (.mv (.t 1))⟩,
      ⟨(some 14), (some (11, false)), .c (.call 80 [(.t 12), (.t 13)])⟩,
      ⟨(some 15), (some (11, false)), .q (.un .not (.t 14))⟩,
      ⟨(some 16), none, .q (.pick (.t 11) (.c (.bool true)) (.t 15))⟩])
   (.cond (.t 16)
    (.seq (.reg [⟨(some 4), none, .q (.mv (.c (.bool false)))⟩])
    .ret)
    .skip))
  (.seq (.seq (.reg [⟨(some 5), none, .q (.mv (.c (.int .i64 1)))⟩])
   (.block 0 (.loop [1, 5] (.seq (.seq (.reg [⟨(some 17), none, .q (.mv (.t 5))⟩,
         ⟨(some 18), none, .q (.mv (.t 1))⟩,
         ⟨(some 19), none, .q (.len (.t 18))⟩,
         ⟨(some 20), none, .q (.bin .lss (.t 17) (.t 19))⟩])
      (.cond (.t 20)
       .skip
       (.exit 0)))
     (.seq (.block 1 (.seq (.sch (.take 0 ⟨(some 23), none, .q (.mv (.t 1))⟩ (.take 1 ⟨(some 24), none, .q (.mv (.t 5))⟩ (.take 2 ⟨(some 25), none, .q (.ixs 1 (.t 23) (.t 24))⟩ (.take 3 ⟨(some 26), none, .q (.ld false 1 (.t 25))⟩ (.take 4 ⟨(some 27), none, .q (.mv (.t 1))⟩ (.take 5 ⟨(some 28), none, .q (.mv (.t 5))⟩ (.take 6 ⟨(some 29), none, .q (.bin .sub (.t 28) (.c (.int .i64 1)))⟩ (.take 7 ⟨(some 30), none, .q (.ixs 1 (.t 27) (.t 29))⟩ (.take 8 ⟨(some 31), none, .q (.ld false 1 (.t 30))⟩ (.take 9 ⟨(some 32), none, .q (.bin .leq (.t 26) (.t 31))⟩ .done)))))))))))
       (.cond (.t 32)
        (.seq (.reg [⟨(some 4), none, .q (.mv (.c (.bool false)))⟩])
        .ret)
        .skip)))
     (.reg [⟨(some 21), none, .q (.mv (.t 5))⟩,
       ⟨(some 22), none, .q (.bin .add (.t 21) (.c (.int .i64 1)))⟩,
       ⟨(some 5), none, .q (.mv (.t 22))⟩]))))))
  (.seq (.reg [⟨(some 4), none, .q (.mv (.c (.bool true)))⟩])
  .ret))))⟩
theorem l_impl_isCode : lowF PA f_impl_isCode 2 [.k [1, 5], .s (.take 0 (.take 1 (.take 2 (.take 3 (.take 4 (.take 5 (.take 6 (.take 7 (.take 8 (.take 9 .done))))))))))] = some c_impl_isCode := by kernel_rfl
abbrev f_impl_digitsOfAll : FuncId := 76
def c_impl_digitsOfAll : AF := ⟨2, 23, [.t 4],
  (.seq (.reg [⟨(some 2), none, .m (.box (.t 0))⟩,
     ⟨(some 4), none, .q (.mv (.c (.slice none 0 0)))⟩])
  (.seq (.reg [⟨(some 8), none, .m (.bsl 8 [])⟩,
     ⟨(some 5), none, .q (.mv (.t 8))⟩])
  (.seq (.seq (.reg [⟨(some 9), none, .q (.mv (.t 1))⟩,
      ⟨(some 10), none, .q (.len (.t 9))⟩,
      ⟨(some 11), none, .q (.mv (.c (.int .i64 0)))⟩])
   (.block 0 (.loop [2, 5, 9, 10, 11] (.seq (.reg [⟨(some 12), none, .q (.bin .lss (.t 11) (.t 10))⟩])
     (.seq (.cond (.t 12)
       .skip
       (.exit 0))
     (.seq (.block 1 (.seq (.reg [⟨(some 13), none, .q (.ixs 1 (.t 9) (.t 11))⟩,
          ⟨(some 14), none, .q (.ld false 1 (.t 13))⟩,
          ⟨(some 7), none, .q (.mv (.t 14))⟩])
       (.reg [⟨(some 15), none, .q (.mv (.t 5))⟩,
         ⟨(some 16), none, .q (.ld true 1 (.t 2))⟩,
         ⟨(some 17), none, .q (.mv (.t 7))⟩,
         ⟨(some 18), none, .c (.call 29 [(.t 16), (.t 17)])⟩,
         ⟨(some 19), none, .m (.bsl 8 [(.t 18)])⟩,
         ⟨(some 20), none, .m (.app 8 8 (.t 15) (.t 19))⟩,
         ⟨(some 5), none, .q (.mv (.t 20))⟩])))
     (.reg [⟨(some 21), none, .q (.bin .add (.t 11) (.c (.int .i64 1)))⟩,
       ⟨(some 11), none, .q (.mv (.t 21))⟩])))))))
  (.seq (.reg [⟨(some 22), none, .q (.mv (.t 5))⟩,
     ⟨(some 4), none, .q (.mv (.t 22))⟩])
  .ret))))⟩
theorem l_impl_digitsOfAll : lowF PA f_impl_digitsOfAll 2 [.k [2, 5, 9, 10, 11]] = some c_impl_digitsOfAll := by kernel_rfl
abbrev f_spec_l01Code : FuncId := 77
def c_spec_l01Code : AF := ⟨2, 37, [.t 4],
  (.seq (.reg [⟨(some 2), none, .m (.box (.t 0))⟩,
     ⟨(some 4), none, .q (.mv (.c (.bool false)))⟩])
  (.seq (.seq (.reg [⟨(some 5), none, .q (.mv (.c (.int .i64 0)))⟩])
   (.block 0 (.loop [1, 2, 5] (.seq (.seq (.reg [⟨(some 6), none, .q (.mv (.t 5))⟩,
         ⟨(some 7), none, .q (.mv (.t 1))⟩,
         ⟨(some 8), none, .q (.len (.t 7))⟩,
         ⟨(some 9), none, .q (.bin .lss (.t 6) (.t 8))⟩])
      (.cond (.t 9)
       .skip
       (.exit 0)))
     (.seq (.block 1 (.seq (.sch (.take 0 ⟨(some 12), none, .q (.mv (.t 1))⟩ (.take 1 ⟨(some 13), none, .q (.mv (.t 5))⟩ (.take 2 ⟨(some 14), none, .q (.ixs 1 (.t 12) (.t 13))⟩ (.take 3 ⟨(some 15), none, .q (.ld false 1 (.t 14))⟩ (.take 4 ⟨(some 16), none, .q (.ld true 1 (.t 2))⟩ (.one ⟨(some 17), none, .c (.call 24 [(.t 16)])⟩ [4] (.take 6 ⟨(some 18), none, .q (.bin .sub (.t 17) (.c (.int .i64 1)))⟩ (.one ⟨(some 19), none, .c (.call 68 [(.t 15), (.c (.int .i64 0)), (.t 18)])⟩ [3] (.take 8 ⟨(some 20), none, .q (.un .not (.t 19))⟩ (.take 9 ⟨(some 21), none, .q (.mv (.t 20))⟩ (.take 10 ⟨(some 22), (some (21, false)), .q (.mv (.t 5))⟩ (.take 11 ⟨(some 23), (some (21, false)), .q (.bin .gtr (.t 22) (.c (.int .i64 0)))⟩ (.take 12 ⟨(some 24), (some (21, false)), .q (.mv (.t 23))⟩ (.take 13 ⟨(some 25), (some (24, true)), .q (.mv (.t 1))⟩ (.take 14 ⟨(some 26), (some (24, true)), .q (.mv (.t 5))⟩ (.take 15 ⟨(some 27), (some (24, true)), .q (.ixs 1 (.t 25) (.t 26))⟩ (.take 16 ⟨(some 28), (some (24, true)), .q (.ld false 1 (.t 27))⟩ (.take 17 ⟨(some 29), (some (24, true)), .q (.mv (.t 1))⟩ (.take 18 ⟨(some 30), (some (24, true)), .q (.mv (.t 5))⟩ (.take 19 ⟨(some 31), (some (24, true)), .q (.bin .sub (.t 30) (.c (.int .i64 1)))⟩ (.take 20 ⟨(some 32), (some (24, true)), .q (.ixs 1 (.t 29) (.t 31))⟩ (.take 21 ⟨(some 33), (some (24, true)), .q (.ld false 1 (.t 32))⟩ (.take 22 ⟨(some 34), (some (24, true)), .q (.bin .leq (.t 28) (.t 33))⟩ (.take 23 ⟨(some 35), (some (21, false)), .q (.pick (.t 24) (.t 34) (.c (.bool false)))⟩ (.take 24 ⟨(some 36), none, .q (.pick (.t 21) (.c (.bool true)) (.t 35))⟩ .done))))))))))))))))))))))))))
       (.cond (.t 36)
        (.seq (.reg [⟨(some 4), none, .q (.mv (.c (.bool false)))⟩])
        .ret)
        .skip)))
     (.reg [⟨(some 10), none, .q (.mv (.t 5))⟩,
       ⟨(some 11), none, .q (.bin .add (.t 10) (.c (.int .i64 1)))⟩,
       ⟨(some 5), none, .q (.mv (.t 11))⟩]))))))
  (.seq (.reg [⟨(some 4), none, .q (.mv (.c (.bool true)))⟩])
  .ret)))⟩
theorem l_spec_l01Code : lowF PA f_spec_l01Code 2 [.k [1, 2, 5], .s (.take 0 (.take 1 (.take 2 (.take 3 (.take 4 (.one 5 (.take 6 (.one 7 (.take 8 (.take 9 (.take 10 (.take 11 (.take 12 (.take 13 (.take 14 (.take 15 (.take 16 (.take 17 (.take 18 (.take 19 (.take 20 (.take 21 (.take 22 (.take 23 (.take 24 .done)))))))))))))))))))))))))] = some c_spec_l01Code := by kernel_rfl
abbrev f_slices_Max___int64_int64_ : FuncId := 78
def c_slices_Max___int64_int64_ : AF := ⟨1, 25, [.t 2],
  (.seq (.reg [⟨(some 2), none, .q (.mv (.c (.int .i64 0)))⟩])
  (.seq (.seq (.reg [⟨(some 5), none, .q (.mv (.t 0))⟩,
      ⟨(some 6), none, .q (.len (.t 5))⟩,
      ⟨(some 7), none, .q (.bin .lss (.t 6) (.c (.int .i64 1)))⟩])
   (.cond (.t 7)
    .bad
    .skip))
  (.seq (.reg [⟨(some 9), none, .q (.mv (.t 0))⟩,
     ⟨(some 10), none, .q (.ixs 1 (.t 9) (.c (.int .i64 0)))⟩,
     ⟨(some 11), none, .q (.ld false 1 (.t 10))⟩,
     ⟨(some 3), none, .q (.mv (.t 11))⟩])
  (.seq (.seq (.reg [⟨(some 4), none, .q (.mv (.c (.int .i64 1)))⟩])
   (.block 0 (.loop [0, 3, 4] (.seq (.seq (.reg [⟨(some 12), none, .q (.mv (.t 4))⟩,
         ⟨(some 13), none, .q (.mv (.t 0))⟩,
         ⟨(some 14), none, .q (.len (.t 13))⟩,
         ⟨(some 15), none, .q (.bin .lss (.t 12) (.t 14))⟩])
      (.cond (.t 15)
       .skip
       (.exit 0)))
     (.seq (.block 1 (.reg [⟨(some 18), none, .q (.mv (.t 3))⟩,
         ⟨(some 19), none, .q (.mv (.t 0))⟩,
         ⟨(some 20), none, .q (.mv (.t 4))⟩,
         ⟨(some 21), none, .q (.ixs 1 (.t 19) (.t 20))⟩,
         ⟨(some 22), none, .q (.ld false 1 (.t 21))⟩,
         ⟨(some 23), none, .q (.mx (.t 18) (.t 22))⟩,
         ⟨(some 3), none, .q (.mv (.t 23))⟩]))
     (.reg [⟨(some 16), none, .q (.mv (.t 4))⟩,
       ⟨(some 17), none, .q (.bin .add (.t 16) (.c (.int .i64 1)))⟩,
       ⟨(some 4), none, .q (.mv (.t 17))⟩]))))))
  (.seq (.reg [⟨(some 24), none, .q (.mv (.t 3))⟩,
     ⟨(some 2), none, .q (.mv (.t 24))⟩])
  .ret)))))⟩
theorem l_slices_Max___int64_int64_ : lowF PA f_slices_Max___int64_int64_ 1 [.x 2, .k [0, 3, 4]] = some c_slices_Max___int64_int64_ := by kernel_rfl
abbrev f_impl_farness : FuncId := 79
def c_impl_farness : AF := ⟨2, 41, [.t 4],
  (.seq (.reg [⟨(some 2), none, .m (.box (.t 0))⟩,
     ⟨(some 4), none, .q (.mv (.c (.slice none 0 0)))⟩])
  (.seq (.reg [⟨(some 12), none, .q (.ld true 1 (.t 2))⟩,
     ⟨(some 13), none, .q (.mv (.t 1))⟩,
     ⟨(some 14), none, .c (.call 76 [(.t 12), (.t 13)])⟩,
     ⟨(some 15), none, .m (.bsl 1 [])⟩,
     ⟨(some 5), none, .q (.mv (.t 14))⟩,
     ⟨(some 6), none, .q (.mv (.t 15))⟩])
  (.seq (.seq (.reg [⟨(some 16), none, .q (.ld true 1 (.t 2))⟩,
      ⟨(some 17), none, .c (.call 64 [(.t 16)])⟩,
      ⟨(some 18), none, .q (.len (.t 17))⟩,
      ⟨(some 19), none, .q (.mv (.c (.int .i64 0)))⟩])
   (.block 0 (.loop [5, 6, 17, 18, 19] (.seq (.reg [⟨(some 20), none, .q (.bin .lss (.t 19) (.t 18))⟩])
     (.seq (.cond (.t 20)
       .skip
       (.exit 0))
     (.seq (.block 1 (.seq (.reg [⟨(some 21), none, .q (.ixs 8 (.t 17) (.t 19))⟩,
          ⟨(some 22), none, .q (.ld true 8 (.t 21))⟩,
          ⟨(some 8), none, .m (.alloc [(.v (.int .u8 0)), (.v (.int .u8 0)), (.v (.int .u8 0)), (.v (.int .u8 0)), (.v (.int .u8 0)), (.v (.int .u8 0)), (.v (.int .u8 0)), (.v (.int .u8 0))])⟩,
          ⟨none, none, .m (.st true 8 (.t 8) (.t 22))⟩])
       (.seq (.reg [⟨(some 9), none, .q (.mv (.c (.int .i64 8)))⟩])
       (.seq (.seq (.reg [⟨(some 23), none, .q (.mv (.t 5))⟩,
           ⟨(some 24), none, .q (.len (.t 23))⟩,
           ⟨(some 25), none, .q (.mv (.c (.int .i64 0)))⟩])
        (.block 2 (.loop [5, 6, 8, 9, 17, 18, 19, 23, 24, 25] (.seq (.reg [⟨(some 26), none, .q (.bin .lss (.t 25) (.t 24))⟩])
          (.seq (.cond (.t 26)
            .skip
            (.exit 2))
          (.seq (.block 3 (.seq (.reg [⟨(some 27), none, .q (.ixs 8 (.t 23) (.t 25))⟩,
               ⟨(some 28), none, .q (.ld true 8 (.t 27))⟩,
               ⟨(some 11), none, .m (.alloc [(.v (.int .u8 0)), (.v (.int .u8 0)), (.v (.int .u8 0)), (.v (.int .u8 0)), (.v (.int .u8 0)), (.v (.int .u8 0)), (.v (.int .u8 0)), (.v (.int .u8 0))])⟩,
               ⟨none, none, .m (.st true 8 (.t 11) (.t 28))⟩])
            (.reg [⟨(some 29), none, .q (.mv (.t 9))⟩,
              ⟨(some 30), none, .q (.ld true 8 (.t 8))⟩,
              ⟨(some 31), none, .q (.ld true 8 (.t 11))⟩,
              ⟨(some 32), none, .c (.call 40 [(.t 30), (.t 31)])⟩,
              ⟨(some 33), none, .q (.mn (.t 29) (.t 32))⟩,
              ⟨(some 9), none, .q (.mv (.t 33))⟩])))
          (.reg [⟨(some 34), none, .q (.bin .add (.t 25) (.c (.int .i64 1)))⟩,
            ⟨(some 25), none, .q (.mv (.t 34))⟩])))))))
       (.reg [⟨(some 35), none, .q (.mv (.t 6))⟩,
         ⟨(some 36), none, .q (.mv (.t 9))⟩,
         ⟨(some 37), none, .m (.bsl 1 [(.t 36)])⟩,
         ⟨(some 38), none, .m (.app 1 8 (.t 35) (.t 37))⟩,
         ⟨(some 6), none, .q (.mv (.t 38))⟩])))))
     (.reg [⟨(some 39), none, .q (.bin .add (.t 19) (.c (.int .i64 1)))⟩,
       ⟨(some 19), none, .q (.mv (.t 39))⟩])))))))
  (.seq (.reg [⟨(some 40), none, .q (.mv (.t 6))⟩,
     ⟨(some 4), none, .q (.mv (.t 40))⟩])
  .ret))))⟩
theorem l_impl_farness : lowF PA f_impl_farness 2 [.k [5, 6, 17, 18, 19], .k [5, 6, 8, 9, 17, 18, 19, 23, 24, 25]] = some c_impl_farness := by kernel_rfl
abbrev f_impl_areWords : FuncId := 80
def c_impl_areWords : AF := ⟨2, 24, [.t 4],
  (.seq (.reg [⟨(some 2), none, .m (.box (.t 0))⟩,
     ⟨(some 4), none, .q (.mv (.c (.bool false)))⟩])
  (.seq (.reg [⟨(some 8), none, .q (.ld true 1 (.t 2))⟩,
     ⟨(some 9), none, .c (.call 47 [(.t 8)])⟩,
     ⟨(some 5), none, .q (.mv (.t 9))⟩])
  (.seq (.seq (.reg [⟨(some 10), none, .q (.mv (.t 1))⟩,
      ⟨(some 11), none, .q (.len (.t 10))⟩,
      ⟨(some 12), none, .q (.mv (.c (.int .i64 0)))⟩])
   (.block 0 (.loop [5, 10, 11, 12] (.seq (.reg [⟨(some 13), none, .q (.bin .lss (.t 12) (.t 11))⟩])
     (.seq (.cond (.t 13)
       .skip
       (.exit 0))
     (.seq (.block 1 (.seq (.reg [⟨(some 14), none, .q (.ixs 1 (.t 10) (.t 12))⟩,
          ⟨(some 15), none, .q (.ld false 1 (.t 14))⟩,
          ⟨(some 7), none, .q (.mv (.t 15))⟩])
       (.seq (.reg [⟨(some 16), none, .q (.mv (.t 7))⟩,
          ⟨(some 17), none, .q (.bin .lss (.t 16) (.c (.int .i64 0)))⟩,
          ⟨(some 18), none, .q (.mv (.t 17))⟩,
          ⟨(some 19), (some (18, false)), .q (.mv (.t 7))⟩,
          ⟨(some 20), (some (18, false)), .q (.mv (.t 5))⟩,
          ⟨(some 21), (some (18, false)), .q (.bin .geq (.t 19) (.t 20))⟩,
          ⟨(some 22), none, .q (.pick (.t 18) (.c (.bool true)) (.t 21))⟩])
       (.cond (.t 22)
        (.seq (.reg [⟨(some 4), none, .q (.mv (.c (.bool false)))⟩])
        .ret)
        .skip))))
     (.reg [⟨(some 23), none, .q (.bin .add (.t 12) (.c (.int .i64 1)))⟩,
       ⟨(some 12), none, .q (.mv (.t 23))⟩])))))))
  (.seq (.reg [⟨(some 4), none, .q (.mv (.c (.bool true)))⟩])
  .ret))))⟩
theorem l_impl_areWords : lowF PA f_impl_areWords 2 [.k [5, 10, 11, 12]] = some c_impl_areWords := by kernel_rfl
abbrev f_spec_l01Draw : FuncId := 81
def c_spec_l01Draw : AF := ⟨1, 8, [.c 2 true 1],
  (.seq (.reg [⟨(some 2), none, .m (.alloc [(.v (.slice none 0 0))])⟩])
  (.seq (.reg [⟨(some 3), none, .q (.mv (.t 0))⟩,
     ⟨(some 4), none, .q (.mv (.t 0))⟩,
     ⟨(some 5), none, .m (.bsl 1 [(.c (.int .i64 16)), (.c (.int .i64 81)), (.c (.int .i64 256)), (.c (.int .i64 256))])⟩,
     ⟨(some 6), none, .c (.call 60 [(.t 4), (.t 5)])⟩,
     ⟨(some 7), none, .c (.call 82 [(.t 3), (.t 6)])⟩,
     ⟨none, none, .m (.st true 1 (.t 2) (.t 7))⟩])
  .ret))⟩
theorem l_spec_l01Draw : lowF PA f_spec_l01Draw 1 [] = some c_spec_l01Draw := by kernel_rfl
abbrev f_spec_l01DrawOf : FuncId := 82
def c_spec_l01DrawOf : AF := ⟨2, 49, [.c 4 true 1],
  (.seq (.reg [⟨(some 4), none, .m (.alloc [(.v (.slice none 0 0))])⟩])
  (.seq (.reg [⟨(some 9), none, .m (.bsl 1 [])⟩,
     ⟨(some 10), none, .q (.bld [(.v (.slice none 0 0))] [(0, (.t 9))])⟩,
     ⟨(some 11), none, .q (.mv (.t 0))⟩,
     ⟨(some 12), none, .m (.bsl 1 [(.c (.int .i64 0)), (.c (.int .i64 2)), (.c (.int .i64 2)), (.c (.int .i64 3)), (.c (.int .i64 3))])⟩,
     ⟨(some 13), none, .c (.call 60 [(.t 11), (.t 12)])⟩,
     ⟨(some 5), none, .m (.alloc [(.v (.slice none 0 0))])⟩,
     ⟨none, none, .m (.st true 1 (.t 5) (.t 10))⟩,
     ⟨(some 6), none, .q (.mv (.t 13))⟩])
  (.seq (.seq (.reg [⟨(some 14), none, .q (.mv (.t 0))⟩,
      ⟨(some 15), none, .c (.call 58 [(.t 14), (.c (.int .i64 8))])⟩,
      ⟨(some 16), none, .q (.bin .add (.c (.int .i64 1)) (.t 15))⟩,
      ⟨(some 7), none, .q (.mv (.t 16))⟩])
   (.block 0 (.loop [0, 1, 4, 5, 6, 7, 49] (.seq (.seq (.reg [⟨(some 17), none, .q (.mv (.t 7))⟩,
         ⟨(some 18), none, .q (.bin .gtr (.t 17) (.c (.int .i64 0)))⟩])
      (.cond (.t 18)
       .skip
       (.exit 0)))
     (.seq (.block 1 (.seq (.reg [⟨(some 21), none, .q (.mv (.t 6))⟩,
          ⟨(some 8), none, .q (.mv (.t 21))⟩])
       (.seq (.seq (.reg [⟨(some 22), none, .q (.mv (.t 6))⟩,
           ⟨(some 23), none, .q (.bin .eql (.t 22) (.c (.int .i64 0)))⟩])
        (.cond (.t 23)
         (.reg [⟨(some 24), none, .q (.mv (.t 0))⟩,
           ⟨(some 25), none, .m (.bsl 1 [(.c (.int .i64 2)), (.c (.int .i64 2)), (.c (.int .i64 3)), (.c (.int .i64 4))])⟩,
           ⟨(some 26), none, .c (.call 60 [(.t 24), (.t 25)])⟩,
           ⟨(some 8), none, .q (.mv (.t 26))⟩])
         .skip))
       (.seq (.seq (.reg [⟨(some 27), none, .q (.ld true 1 (.t 5))⟩,
           ⟨(some 28), none, .c (.call 24 [(.t 27)])⟩,
           ⟨(some 29), none, .q (.mv (.t 8))⟩,
           ⟨(some 30), none, .q (.bin .mul (.t 28) (.t 29))⟩,
           ⟨(some 31), none, .q (.mv (.t 1))⟩,
           ⟨(some 32), none, .q (.bin .gtr (.t 30) (.t 31))⟩])
        (.cond (.t 32)
         (.exit 0)
         .skip))
       (.reg [⟨(some 33), none, .q (.fad 0 (.t 5))⟩,
         ⟨(some 34), none, .q (.ld false 1 (.t 33))⟩,
         ⟨(some 35), none, .q (.mv (.t 8))⟩,
         ⟨(some 36), none, .m (.bsl 1 [(.t 35)])⟩,
         ⟨(some 37), none, .m (.app 1 8 (.t 34) (.t 36))⟩,
         ⟨(some 38), none, .q (.fad 0 (.t 5))⟩,
         ⟨none, none, .m (.st false 1 (.t 38) (.t 37))⟩])))))
     (.reg [⟨(some 19), none, .q (.mv (.t 7))⟩,
       ⟨(some 20), none, .q (.bin .sub (.t 19) (.c (.int .i64 1)))⟩,
       ⟨(some 7), none, .q (.mv (.t 20))⟩]))))))
  (.seq (.seq (.reg [⟨(some 39), none, .q (.fad 0 (.t 5))⟩,
      ⟨(some 40), none, .q (.ld false 1 (.t 39))⟩,
      ⟨(some 41), none, .q (.len (.t 40))⟩,
      ⟨(some 42), none, .q (.bin .eql (.t 41) (.c (.int .i64 0)))⟩])
   (.cond (.t 42)
    (.reg [⟨(some 43), none, .q (.fad 0 (.t 5))⟩,
      ⟨(some 44), none, .q (.ld false 1 (.t 43))⟩,
      ⟨(some 45), none, .m (.bsl 1 [(.c (.int .i64 2))])⟩,
      ⟨(some 46), none, .m (.app 1 8 (.t 44) (.t 45))⟩,
      ⟨(some 47), none, .q (.fad 0 (.t 5))⟩,
      ⟨none, none, .m (.st false 1 (.t 47) (.t 46))⟩])
    .skip))
  (.seq (.reg [⟨(some 48), none, .q (.ld true 1 (.t 5))⟩,
     ⟨none, none, .m (.st true 1 (.t 4) (.t 48))⟩])
  .ret)))))⟩
theorem l_spec_l01DrawOf : lowF PA f_spec_l01DrawOf 2 [.k [0, 1, 4, 5, 6, 7, 49]] = some c_spec_l01DrawOf := by kernel_rfl
abbrev f_spec_l01Has : FuncId := 83
def c_spec_l01Has : AF := ⟨2, 18, [.t 4],
  (.seq (.reg [⟨(some 4), none, .q (.mv (.c (.bool false)))⟩])
  (.seq (.seq (.reg [⟨(some 5), none, .q (.mv (.c (.int .i64 0)))⟩])
   (.block 0 (.loop [0, 1, 5] (.seq (.seq (.reg [⟨(some 6), none, .q (.mv (.t 5))⟩,
         ⟨(some 7), none, .q (.mv (.t 0))⟩,
         ⟨(some 8), none, .q (.len (.t 7))⟩,
         ⟨(some 9), none, .q (.bin .lss (.t 6) (.t 8))⟩])
      (.cond (.t 9)
       .skip
       (.exit 0)))
     (.seq (.block 1 (.seq (.reg [⟨(some 12), none, .q (.mv (.t 0))⟩,
          ⟨(some 13), none, .q (.mv (.t 5))⟩,
          ⟨(some 14), none, .q (.ixs 1 (.t 12) (.t 13))⟩,
          ⟨(some 15), none, .q (.ld false 1 (.t 14))⟩,
          ⟨(some 16), none, .q (.mv (.t 1))⟩,
          ⟨(some 17), none, .q (.bin .eql (.t 15) (.t 16))⟩])
       (.cond (.t 17)
        (.seq (.reg [⟨(some 4), none, .q (.mv (.c (.bool true)))⟩])
        .ret)
        .skip)))
     (.reg [⟨(some 10), none, .q (.mv (.t 5))⟩,
       ⟨(some 11), none, .q (.bin .add (.t 10) (.c (.int .i64 1)))⟩,
       ⟨(some 5), none, .q (.mv (.t 11))⟩]))))))
  (.seq (.reg [⟨(some 4), none, .q (.mv (.c (.bool false)))⟩])
  .ret)))⟩
theorem l_spec_l01Has : lowF PA f_spec_l01Has 2 [.k [0, 1, 5]] = some c_spec_l01Has := by kernel_rfl
abbrev f_spec_l05Set : FuncId := 84
def c_spec_l05Set : AF := ⟨2, 23, [.t 4],
  (.seq (.reg [⟨(some 2), none, .m (.box (.t 0))⟩,
     ⟨(some 4), none, .q (.mv (.c (.slice none 0 0)))⟩])
  (.seq (.reg [⟨(some 7), none, .q (.ld true 1 (.t 2))⟩,
     ⟨(some 8), none, .c (.call 24 [(.t 7)])⟩,
     ⟨(some 9), none, .m (.mks 1 (.v (.bool false)) 1 (.t 8) (.t 8))⟩,
     ⟨(some 5), none, .q (.mv (.t 9))⟩])
  (.seq (.seq (.reg [⟨(some 10), none, .q (.mv (.t 1))⟩,
      ⟨(some 11), none, .q (.len (.t 10))⟩,
      ⟨(some 12), none, .q (.mv (.c (.int .i64 0)))⟩])
   (.block 0 (.loop [1, 5, 11, 12] (.seq (.reg [⟨(some 13), none, .q (.bin .lss (.t 12) (.t 11))⟩])
     (.seq (.cond (.t 13)
       .skip
       (.exit 0))
     (.seq (.block 1 (.seq (.reg [⟨(some 14), none, .q (.mv (.t 12))⟩,
          ⟨(some 6), none, .q (.mv (.t 14))⟩])
       (.reg [⟨(some 15), none, .q (.mv (.t 5))⟩,
         ⟨(some 16), none, .q (.mv (.t 1))⟩,
         ⟨(some 17), none, .q (.mv (.t 6))⟩,
         ⟨(some 18), none, .q (.ixs 1 (.t 16) (.t 17))⟩,
         ⟨(some 19), none, .q (.ld false 1 (.t 18))⟩,
         ⟨(some 20), none, .q (.ixs 1 (.t 15) (.t 19))⟩,
         ⟨none, none, .m (.st false 1 (.t 20) (.c (.bool true)))⟩])))
     (.reg [⟨(some 21), none, .q (.bin .add (.t 12) (.c (.int .i64 1)))⟩,
       ⟨(some 12), none, .q (.mv (.t 21))⟩])))))))
  (.seq (.reg [⟨(some 22), none, .q (.mv (.t 5))⟩,
     ⟨(some 4), none, .q (.mv (.t 22))⟩])
  .ret))))⟩
theorem l_spec_l05Set : lowF PA f_spec_l05Set 2 [.k [1, 5, 11, 12]] = some c_spec_l05Set := by kernel_rfl
abbrev f_impl_marks : FuncId := 85
def c_impl_marks : AF := ⟨2, 22, [.t 4],
  (.seq (.reg [⟨(some 2), none, .m (.box (.t 0))⟩,
     ⟨(some 4), none, .q (.mv (.c (.slice none 0 0)))⟩])
  (.seq (.reg [⟨(some 8), none, .q (.ld true 1 (.t 2))⟩,
     ⟨(some 9), none, .c (.call 47 [(.t 8)])⟩,
     ⟨(some 10), none, .m (.mks 1 (.v (.bool false)) 1 (.t 9) (.t 9))⟩,
     ⟨(some 5), none, .q (.mv (.t 10))⟩])
  (.seq (.seq (.reg [⟨(some 11), none, .q (.mv (.t 1))⟩,
      ⟨(some 12), none, .q (.len (.t 11))⟩,
      ⟨(some 13), none, .q (.mv (.c (.int .i64 0)))⟩])
   (.block 0 (.loop [5, 11, 12, 13] (.seq (.reg [⟨(some 14), none, .q (.bin .lss (.t 13) (.t 12))⟩])
     (.seq (.cond (.t 14)
       .skip
       (.exit 0))
     (.seq (.block 1 (.seq (.reg [⟨(some 15), none, .q (.ixs 1 (.t 11) (.t 13))⟩,
          ⟨(some 16), none, .q (.ld false 1 (.t 15))⟩,
          ⟨(some 7), none, .q (.mv (.t 16))⟩])
       (.reg [⟨(some 17), none, .q (.mv (.t 5))⟩,
         ⟨(some 18), none, .q (.mv (.t 7))⟩,
         ⟨(some 19), none, .q (.ixs 1 (.t 17) (.t 18))⟩,
         ⟨none, none, .m (.st false 1 (.t 19) (.c (.bool true)))⟩])))
     (.reg [⟨(some 20), none, .q (.bin .add (.t 13) (.c (.int .i64 1)))⟩,
       ⟨(some 13), none, .q (.mv (.t 20))⟩])))))))
  (.seq (.reg [⟨(some 21), none, .q (.mv (.t 5))⟩,
     ⟨(some 4), none, .q (.mv (.t 21))⟩])
  .ret))))⟩
theorem l_impl_marks : lowF PA f_impl_marks 2 [.k [5, 11, 12, 13]] = some c_impl_marks := by kernel_rfl
abbrev f_impl_isPlain : FuncId := 86
def c_impl_isPlain : AF := ⟨1, 17, [.t 2],
  (.seq (.reg [⟨(some 1), none, .m (.box (.t 0))⟩,
     ⟨(some 2), none, .q (.mv (.c (.bool false)))⟩])
  (.seq (.reg [⟨(some 4), none, .q (.fad 0 (.t 1))⟩,
     ⟨(some 5), none, .q (.ld false 1 (.t 4))⟩,
     ⟨(some 6), none, .q (.ixs 1 (.t 5) (.c (.int .i64 0)))⟩,
     ⟨(some 7), none, .q (.ld false 1 (.t 6))⟩,
     ⟨(some 3), none, .m (.alloc [(.v (.int .i64 0))])⟩,
     ⟨none, none, .m (.st false 1 (.t 3) (.t 7))⟩])
  (.seq (.reg [⟨(some 8), none, .q (.ld false 1 (.t 3))⟩,
     ⟨(some 9), none, .q (.bin .leq (.t 8) (.c (.int .i64 3)))⟩,
     ⟨(some 10), none, .q (.mv (.t 9))⟩,
     ⟨(some 11), (some (10, true)), .q (.fad 0 (.t 1))⟩,
     ⟨(some 12), (some (10, true)), .q (.ld false 1 (.t 11))⟩,
     ⟨(some 13), (some (10, true)), .q (.mkf 102 [(.t 3)])⟩,
     ⟨(some 14), (some (10, true)), .c (.call 101 [(.t 12), (.t 13)])⟩,
     ⟨(some 15), (some (10, true)), .q (.un .not (.t 14))⟩,
     ⟨(some 16), none, .q (.pick (.t 10) (.t 15) (.c (.bool false)))⟩,
     ⟨(some 2), none, .q (.mv (.t 16))⟩])
  .ret)))⟩
theorem l_impl_isPlain : lowF PA f_impl_isPlain 1 [] = some c_impl_isPlain := by kernel_rfl
abbrev f_math_bits_Mul : FuncId := 87
def c_math_bits_Mul : AF := ⟨2, 30, [.t 4, .t 5],
  (.seq (.reg [⟨(some 4), none, .q (.mv (.c (.int .u64 0)))⟩,
     ⟨(some 5), none, .q (.mv (.c (.int .u64 0)))⟩])
  (.seq (.cond (.c (.bool false))
    (.seq (.reg [⟨(some 11), none, .q (.mv (.t 0))⟩,
       ⟨(some 12), none, .q (.cvt .u32 (.t 11))⟩,
       ⟨(some 13), none, .q (.mv (.t 1))⟩,
       ⟨(some 14), none, .q (.cvt .u32 (.t 13))⟩,
       ⟨(some 15), none, .c (.call 103 [(.t 12), (.t 14)])⟩,
       ⟨(some 10), none, .q (.mv (.t 15))⟩,
       ⟨(some 16), none, .q (.ext (.t 10) 0)⟩,
       ⟨(some 17), none, .q (.ext (.t 10) 1)⟩,
       ⟨(some 6), none, .q (.mv (.t 16))⟩,
       ⟨(some 7), none, .q (.mv (.t 17))⟩])
    (.seq (.reg [⟨(some 18), none, .q (.mv (.t 6))⟩,
       ⟨(some 19), none, .q (.cvt .u64 (.t 18))⟩,
       ⟨(some 20), none, .q (.mv (.t 7))⟩,
       ⟨(some 21), none, .q (.cvt .u64 (.t 20))⟩,
       ⟨(some 4), none, .q (.mv (.t 19))⟩,
       ⟨(some 5), none, .q (.mv (.t 21))⟩])
    .ret))
    .skip)
  (.seq (.reg [⟨(some 23), none, .q (.mv (.t 0))⟩,
     ⟨(some 24), none, .q (.mv (.t 1))⟩,
     ⟨(some 25), none, .c (.call 104 [(.t 23), (.t 24)])⟩,
     ⟨(some 22), none, .q (.mv (.t 25))⟩,
     ⟨(some 26), none, .q (.ext (.t 22) 0)⟩,
     ⟨(some 27), none, .q (.ext (.t 22) 1)⟩,
     ⟨(some 8), none, .q (.mv (.t 26))⟩,
     ⟨(some 9), none, .q (.mv (.t 27))⟩])
  (.seq (.reg [⟨(some 28), none, .q (.mv (.t 8))⟩,
     ⟨(some 29), none, .q (.mv (.t 9))⟩,
     ⟨(some 4), none, .q (.mv (.t 28))⟩,
     ⟨(some 5), none, .q (.mv (.t 29))⟩])
  .ret))))⟩
theorem l_math_bits_Mul : lowF PA f_math_bits_Mul 2 [] = some c_math_bits_Mul := by kernel_rfl
abbrev f_impl_mapped : FuncId := 88
def c_impl_mapped : AF := ⟨2, 26, [.t 4],
  (.seq (.reg [⟨(some 4), none, .q (.mv (.c (.slice none 0 0)))⟩])
  (.seq (.reg [⟨(some 8), none, .m (.bsl 1 [])⟩,
     ⟨(some 5), none, .q (.mv (.t 8))⟩])
  (.seq (.seq (.reg [⟨(some 9), none, .q (.mv (.t 0))⟩,
      ⟨(some 10), none, .q (.len (.t 9))⟩,
      ⟨(some 11), none, .q (.mv (.c (.int .i64 0)))⟩])
   (.block 0 (.loop [1, 5, 9, 10, 11, 26] (.seq (.reg [⟨(some 12), none, .q (.bin .lss (.t 11) (.t 10))⟩])
     (.seq (.cond (.t 12)
       .skip
       (.exit 0))
     (.seq (.block 1 (.seq (.reg [⟨(some 13), none, .q (.ixs 1 (.t 9) (.t 11))⟩,
          ⟨(some 14), none, .q (.ld false 1 (.t 13))⟩,
          ⟨(some 7), none, .q (.mv (.t 14))⟩])
       (.reg [⟨(some 15), none, .q (.mv (.t 5))⟩,
         ⟨(some 16), none, .q (.mv (.t 1))⟩,
         ⟨(some 17), none, .q (.mv (.t 7))⟩,
         ⟨(some 18), none, .c (.cav (.t 16) [(.t 17)])⟩,
         ⟨(some 19), none, .m (.bsl 1 [(.t 18)])⟩,
         ⟨(some 20), none, .m (.app 1 8 (.t 15) (.t 19))⟩,
         ⟨(some 5), none, .q (.mv (.t 20))⟩])))
     (.reg [⟨(some 21), none, .q (.bin .add (.t 11) (.c (.int .i64 1)))⟩,
       ⟨(some 11), none, .q (.mv (.t 21))⟩])))))))
  (.seq (.reg [⟨(some 22), none, .q (.mv (.t 5))⟩,
     ⟨(some 23), none, .c (.call 37 [(.t 22)])⟩])
  (.seq (.reg [⟨(some 24), none, .q (.mv (.t 5))⟩,
     ⟨(some 25), none, .c (.call 38 [(.t 24)])⟩,
     ⟨(some 4), none, .q (.mv (.t 25))⟩])
  .ret)))))⟩
theorem l_impl_mapped : lowF PA f_impl_mapped 2 [.k [1, 5, 9, 10, 11, 26]] = some c_impl_mapped := by kernel_rfl
abbrev f_impl_shifted_1 : FuncId := 89
def c_impl_shifted_1 : AF := ⟨3, 13, [.t 4],
  (.seq (.reg [⟨(some 4), none, .q (.mv (.c (.int .i64 0)))⟩])
  (.seq (.sch (.take 0 ⟨(some 5), none, .q (.ld true 1 (.t 1))⟩ (.take 1 ⟨(some 6), none, .q (.ld true 1 (.t 1))⟩ (.take 2 ⟨(some 7), none, .q (.ld true 1 (.t 1))⟩ (.take 3 ⟨(some 8), none, .q (.mv (.t 0))⟩ (.take 5 ⟨(some 10), none, .q (.ld true 8 (.t 2))⟩ (.one ⟨(some 9), none, .c (.call 29 [(.t 7), (.t 8)])⟩ [2] (.one ⟨(some 11), none, .c (.call 32 [(.t 6), (.t 9), (.t 10)])⟩ [5, 1] (.one ⟨(some 12), none, .c (.call 31 [(.t 5), (.t 11)])⟩ [0] (.take 8 ⟨(some 4), none, .q (.mv (.t 12))⟩ .done))))))))))
  .ret))⟩
theorem l_impl_shifted_1 : lowF PA f_impl_shifted_1 3 [.s (.take 0 (.take 1 (.take 2 (.take 3 (.take 5 (.one 4 (.one 6 (.one 7 (.take 8 .done)))))))))] = some c_impl_shifted_1 := by kernel_rfl
abbrev f_slices_insertionSortOrdered_int64_ : FuncId := 90
abbrev f_slices_heapSortOrdered_int64_ : FuncId := 91
abbrev f_slices_breakPatternsOrdered_int64_ : FuncId := 92
abbrev f_slices_choosePivotOrdered_int64_ : FuncId := 93
abbrev f_slices_reverseRangeOrdered_int64_ : FuncId := 94
abbrev f_slices_partialInsertionSortOrdered_int64_ : FuncId := 95
abbrev f_cmp_Less_int64_ : FuncId := 96
abbrev f_slices_partitionEqualOrdered_int64_ : FuncId := 97
abbrev f_slices_partitionOrdered_int64_ : FuncId := 98
abbrev f_math_bits_Len32 : FuncId := 99
abbrev f_math_bits_Len64 : FuncId := 100
abbrev f_slices_ContainsFunc___int64_int64_ : FuncId := 101
def c_slices_ContainsFunc___int64_int64_ : AF := ⟨2, 9, [.t 4],
  (.seq (.reg [⟨(some 4), none, .q (.mv (.c (.bool false)))⟩])
  (.seq (.reg [⟨(some 5), none, .q (.mv (.t 0))⟩,
     ⟨(some 6), none, .q (.mv (.t 1))⟩,
     ⟨(some 7), none, .c (.call 111 [(.t 5), (.t 6)])⟩,
     ⟨(some 8), none, .q (.bin .geq (.t 7) (.c (.int .i64 0)))⟩,
     ⟨(some 4), none, .q (.mv (.t 8))⟩])
  .ret))⟩
theorem l_slices_ContainsFunc___int64_int64_ : lowF PA f_slices_ContainsFunc___int64_int64_ 2 [] = some c_slices_ContainsFunc___int64_int64_ := by kernel_rfl
abbrev f_impl_isPlain_1 : FuncId := 102
def c_impl_isPlain_1 : AF := ⟨2, 7, [.t 3],
  (.seq (.reg [⟨(some 3), none, .q (.mv (.c (.bool false)))⟩])
  (.seq (.reg [⟨(some 4), none, .q (.mv (.t 0))⟩,
     ⟨(some 5), none, .q (.ld false 1 (.t 1))⟩,
     ⟨(some 6), none, .q (.bin .neq (.t 4) (.t 5))⟩,
     ⟨(some 3), none, .q (.mv (.t 6))⟩])
  .ret))⟩
theorem l_impl_isPlain_1 : lowF PA f_impl_isPlain_1 2 [] = some c_impl_isPlain_1 := by kernel_rfl
abbrev f_math_bits_Mul32 : FuncId := 103
abbrev f_math_bits_Mul64 : FuncId := 104
def c_math_bits_Mul64 : AF := ⟨2, 51, [.t 4, .t 5],
  (.seq (.reg [⟨(some 4), none, .q (.mv (.c (.int .u64 0)))⟩,
     ⟨(some 5), none, .q (.mv (.c (.int .u64 0)))⟩])
  (.seq (.reg [⟨(some 14), none, .q (.mv (.t 0))⟩,
     ⟨(some 15), none, .q (.bin .and (.t 14) (.c (.int .u64 4294967295)))⟩,
     ⟨(some 6), none, .q (.mv (.t 15))⟩])
  (.seq (.reg [⟨(some 16), none, .q (.mv (.t 0))⟩,
     ⟨(some 17), none, .q (.bin .shr (.t 16) (.c (.int .u64 32)))⟩,
     ⟨(some 7), none, .q (.mv (.t 17))⟩])
  (.seq (.reg [⟨(some 18), none, .q (.mv (.t 1))⟩,
     ⟨(some 19), none, .q (.bin .and (.t 18) (.c (.int .u64 4294967295)))⟩,
     ⟨(some 8), none, .q (.mv (.t 19))⟩])
  (.seq (.reg [⟨(some 20), none, .q (.mv (.t 1))⟩,
     ⟨(some 21), none, .q (.bin .shr (.t 20) (.c (.int .u64 32)))⟩,
     ⟨(some 9), none, .q (.mv (.t 21))⟩])
  (.seq (.reg [⟨(some 22), none, .q (.mv (.t 6))⟩,
     ⟨(some 23), none, .q (.mv (.t 8))⟩,
     ⟨(some 24), none, .q (.bin .mul (.t 22) (.t 23))⟩,
     ⟨(some 10), none, .q (.mv (.t 24))⟩])
  (.seq (.reg [⟨(some 25), none, .q (.mv (.t 7))⟩,
     ⟨(some 26), none, .q (.mv (.t 8))⟩,
     ⟨(some 27), none, .q (.bin .mul (.t 25) (.t 26))⟩,
     ⟨(some 28), none, .q (.mv (.t 10))⟩,
     ⟨(some 29), none, .q (.bin .shr (.t 28) (.c (.int .u64 32)))⟩,
     ⟨(some 30), none, .q (.bin .add (.t 27) (.t 29))⟩,
     ⟨(some 11), none, .q (.mv (.t 30))⟩])
  (.seq (.reg [⟨(some 31), none, .q (.mv (.t 11))⟩,
     ⟨(some 32), none, .q (.bin .and (.t 31) (.c (.int .u64 4294967295)))⟩,
     ⟨(some 12), none, .q (.mv (.t 32))⟩])
  (.seq (.reg [⟨(some 33), none, .q (.mv (.t 11))⟩,
     ⟨(some 34), none, .q (.bin .shr (.t 33) (.c (.int .u64 32)))⟩,
     ⟨(some 13), none, .q (.mv (.t 34))⟩])
  (.seq (.reg [⟨(some 35), none, .q (.mv (.t 12))⟩,
     ⟨(some 36), none, .q (.mv (.t 6))⟩,
     ⟨(some 37), none, .q (.mv (.t 9))⟩,
     ⟨(some 38), none, .q (.bin .mul (.t 36) (.t 37))⟩,
     ⟨(some 39), none, .q (.bin .add (.t 35) (.t 38))⟩,
     ⟨(some 12), none, .q (.mv (.t 39))⟩])
  (.seq (.reg [⟨(some 40), none, .q (.mv (.t 7))⟩,
     ⟨(some 41), none, .q (.mv (.t 9))⟩,
     ⟨(some 42), none, .q (.bin .mul (.t 40) (.t 41))⟩,
     ⟨(some 43), none, .q (.mv (.t 13))⟩,
     ⟨(some 44), none, .q (.bin .add (.t 42) (.t 43))⟩,
     ⟨(some 45), none, .q (.mv (.t 12))⟩,
     ⟨(some 46), none, .q (.bin .shr (.t 45) (.c (.int .u64 32)))⟩,
     ⟨(some 47), none, .q (.bin .add (.t 44) (.t 46))⟩,
     ⟨(some 4), none, .q (.mv (.t 47))⟩])
  (.seq (.reg [⟨(some 48), none, .q (.mv (.t 0))⟩,
     ⟨(some 49), none, .q (.mv (.t 1))⟩,
     ⟨(some 50), none, .q (.bin .mul (.t 48) (.t 49))⟩,
     ⟨(some 5), none, .q (.mv (.t 50))⟩])
  .ret))))))))))))⟩
theorem l_math_bits_Mul64 : lowF PA f_math_bits_Mul64 2 [] = some c_math_bits_Mul64 := by kernel_rfl
abbrev f_slices_siftDownOrdered_int64_ : FuncId := 105
abbrev f_slices_nextPowerOfTwo : FuncId := 106
abbrev f___slices_xorshift__Next : FuncId := 107
abbrev f_slices_medianAdjacentOrdered_int64_ : FuncId := 108
abbrev f_slices_medianOrdered_int64_ : FuncId := 109
abbrev f_cmp_isNaN_int64_ : FuncId := 110
abbrev f_slices_IndexFunc___int64_int64_ : FuncId := 111
def c_slices_IndexFunc___int64_int64_ : AF := ⟨2, 19, [.t 4],
  (.seq (.reg [⟨(some 4), none, .q (.mv (.c (.int .i64 0)))⟩])
  (.seq (.seq (.reg [⟨(some 6), none, .q (.mv (.t 0))⟩,
      ⟨(some 7), none, .q (.len (.t 6))⟩,
      ⟨(some 8), none, .q (.mv (.c (.int .i64 0)))⟩])
   (.block 0 (.loop [0, 1, 7, 8] (.seq (.reg [⟨(some 9), none, .q (.bin .lss (.t 8) (.t 7))⟩])
     (.seq (.cond (.t 9)
       .skip
       (.exit 0))
     (.seq (.block 1 (.seq (.reg [⟨(some 10), none, .q (.mv (.t 8))⟩,
          ⟨(some 5), none, .q (.mv (.t 10))⟩])
       (.seq (.reg [⟨(some 11), none, .q (.mv (.t 1))⟩,
          ⟨(some 12), none, .q (.mv (.t 0))⟩,
          ⟨(some 13), none, .q (.mv (.t 5))⟩,
          ⟨(some 14), none, .q (.ixs 1 (.t 12) (.t 13))⟩,
          ⟨(some 15), none, .q (.ld false 1 (.t 14))⟩,
          ⟨(some 16), none, .c (.cav (.t 11) [(.t 15)])⟩])
       (.cond (.t 16)
        (.seq (.reg [⟨(some 17), none, .q (.mv (.t 5))⟩,
           ⟨(some 4), none, .q (.mv (.t 17))⟩])
        .ret)
        .skip))))
     (.reg [⟨(some 18), none, .q (.bin .add (.t 8) (.c (.int .i64 1)))⟩,
       ⟨(some 8), none, .q (.mv (.t 18))⟩])))))))
  (.seq (.reg [⟨(some 4), none, .q (.mv (.c (.int .i64 (-1))))⟩])
  .ret)))⟩
theorem l_slices_IndexFunc___int64_int64_ : lowF PA f_slices_IndexFunc___int64_int64_ 2 [.k [0, 1, 7, 8]] = some c_slices_IndexFunc___int64_int64_ := by kernel_rfl
abbrev f_slices_order2Ordered_int64_ : FuncId := 112
def sort_ren : Go.Shelf.Ren := ⟨fun | 5 => 37 | 8 => 74 | 7 => 73 | 19 => 99 | 20 => 100 | 10 => 90 | 11 => 91 | 12 => 92 | 13 => 93 | 14 => 94 | 15 => 95 | 16 => 96 | 17 => 97 | 18 => 98 | 30 => 105 | 31 => 106 | 32 => 107 | 33 => 108 | 34 => 109 | 35 => 110 | 40 => 112 | n => n, fun | 23 => 24 | 25 => 2 | 3 => 3 | 32 => 80 | 22 => 24 | 0 => 0 | 44 => 100 | 46 => 64 | 4 => 4 | 36 => 92 | 35 => 91 | 41 => 97 | 5 => 5 | 9 => 9 | 53 => 108 | 57 => 112 | 63 => 115 | 64 => 116 | n => n, fun | n => n⟩
theorem sort_lay : Go.Proofs.SlLaysM.n5 Tryz.prog sort_ren := {
  mixed := by kernel_rfl
  f5 := ⟨Tryz.f37.name, by decide, Tryz.func37.trans (congrArg some (by kernel_rfl))⟩
  f7 := ⟨Tryz.f73.name, by decide, Tryz.func73.trans (congrArg some (by kernel_rfl))⟩
  f8 := Tryz.func74.trans (congrArg some (by kernel_rfl))
  f10 := ⟨Tryz.f90.name, by decide, Tryz.func90.trans (congrArg some (by kernel_rfl))⟩
  f11 := ⟨Tryz.f91.name, by decide, Tryz.func91.trans (congrArg some (by kernel_rfl))⟩
  f12 := ⟨Tryz.f92.name, by decide, Tryz.func92.trans (congrArg some (by kernel_rfl))⟩
  f13 := ⟨Tryz.f93.name, by decide, Tryz.func93.trans (congrArg some (by kernel_rfl))⟩
  f14 := ⟨Tryz.f94.name, by decide, Tryz.func94.trans (congrArg some (by kernel_rfl))⟩
  f15 := ⟨Tryz.f95.name, by decide, Tryz.func95.trans (congrArg some (by kernel_rfl))⟩
  f16 := ⟨Tryz.f96.name, by decide, Tryz.func96.trans (congrArg some (by kernel_rfl))⟩
  f17 := ⟨Tryz.f97.name, by decide, Tryz.func97.trans (congrArg some (by kernel_rfl))⟩
  f18 := ⟨Tryz.f98.name, by decide, Tryz.func98.trans (congrArg some (by kernel_rfl))⟩
  f19 := Tryz.func99.trans (congrArg some (by kernel_rfl))
  f20 := Tryz.func100.trans (congrArg some (by kernel_rfl))
  f30 := ⟨Tryz.f105.name, by decide, Tryz.func105.trans (congrArg some (by kernel_rfl))⟩
  f31 := Tryz.func106.trans (congrArg some (by kernel_rfl))
  f32 := Tryz.func107.trans (congrArg some (by kernel_rfl))
  f33 := ⟨Tryz.f108.name, by decide, Tryz.func108.trans (congrArg some (by kernel_rfl))⟩
  f34 := ⟨Tryz.f109.name, by decide, Tryz.func109.trans (congrArg some (by kernel_rfl))⟩
  f35 := ⟨Tryz.f110.name, by decide, Tryz.func110.trans (congrArg some (by kernel_rfl))⟩
  f40 := ⟨Tryz.f112.name, by decide, Tryz.func112.trans (congrArg some (by kernel_rfl))⟩
  t0 := Tryz.underlying0
  a0 := Tryz.isAgg0
  z0 := Tryz.sizeOf0
  v0 := Tryz.zeroValue0
  t3 := Tryz.underlying3
  a3 := Tryz.isAgg3
  z3 := Tryz.sizeOf3
  v3 := Tryz.zeroValue3
  t4 := Tryz.underlying4
  a4 := Tryz.isAgg4
  z4 := Tryz.sizeOf4
  v4 := Tryz.zeroValue4
  t5 := Tryz.underlying5
  a5 := Tryz.isAgg5
  z5 := Tryz.sizeOf5
  v5 := Tryz.zeroValue5
  t9 := Tryz.underlying9
  a9 := Tryz.isAgg9
  z9 := Tryz.sizeOf9
  v9 := Tryz.zeroValue9
  t22 := Tryz.underlying24
  a22 := Tryz.isAgg24
  z22 := Tryz.sizeOf24
  v22 := Tryz.zeroValue24
  t23 := Tryz.underlying24
  a23 := Tryz.isAgg24
  z23 := Tryz.sizeOf24
  v23 := Tryz.zeroValue24
  t25 := Tryz.underlying2
  a25 := Tryz.isAgg2
  z25 := Tryz.sizeOf2
  v25 := Tryz.zeroValue2
  t32 := Tryz.underlying80
  a32 := Tryz.isAgg80
  z32 := Tryz.sizeOf80
  v32 := Tryz.zeroValue80
  t35 := Tryz.underlying91
  a35 := Tryz.isAgg91
  z35 := Tryz.sizeOf91
  v35 := Tryz.zeroValue91
  t36 := Tryz.underlying92
  a36 := Tryz.isAgg92
  z36 := Tryz.sizeOf92
  v36 := Tryz.zeroValue92
  t41 := Tryz.underlying97
  a41 := Tryz.isAgg97
  z41 := Tryz.sizeOf97
  v41 := Tryz.zeroValue97
  t44 := Tryz.underlying100
  a44 := Tryz.isAgg100
  z44 := Tryz.sizeOf100
  v44 := Tryz.zeroValue100
  t46 := Tryz.underlying64
  a46 := Tryz.isAgg64
  z46 := Tryz.sizeOf64
  v46 := Tryz.zeroValue64
  t53 := Tryz.underlying108
  a53 := Tryz.isAgg108
  z53 := Tryz.sizeOf108
  v53 := Tryz.zeroValue108
  t57 := Tryz.underlying112
  a57 := Tryz.isAgg112
  z57 := Tryz.sizeOf112
  v57 := Tryz.zeroValue112
  t63 := Tryz.underlying115
  a63 := Tryz.isAgg115
  z63 := Tryz.sizeOf115
  v63 := Tryz.zeroValue115
  t64 := Tryz.underlying116
  a64 := Tryz.isAgg116
  z64 := Tryz.sizeOf116
  v64 := Tryz.zeroValue116 }
theorem sort_calls : SortCalls PA f_slices_Sort___int64_int64_ := fun blk off cap zs w h1 h2 h3 => AnyM.slices_Sort_int sort_lay blk off cap zs w h1 h2 h3
end Go.Proofs.YtfgjfjgkoabfjadGreat.Va
