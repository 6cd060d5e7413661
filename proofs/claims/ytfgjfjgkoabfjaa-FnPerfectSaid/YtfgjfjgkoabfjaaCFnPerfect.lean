/- The code of the functions that FnPerfect reaches, laid out for a walk: each is what the lowering makes of the program's own text. Condition: none. -/
import Derived.Test.YtfgjfjgkoabfjaaVa2
import Derived.Test.YtfgjfjgkoabfjaaProg
import Derived.KernelRfl
set_option linter.all false
set_option linter.unusedSimpArgs false
set_option linter.unusedVariables false
namespace Go.Proofs.Ytfgjfjgkoabfjaa.Va
open Go
noncomputable abbrev PA : Program := Go.Proofs.Try.prog
abbrev f_laws_FnPerfect : FuncId := 3
def c_laws_FnPerfect : AF := ⟨1, 254, [.t 2],
  (.seq (.reg [⟨(some 2), none, .q (.mv (.c (.bool false)))⟩])
  (.seq (.seq (.reg [⟨(some 40), none, .q (.mv (.t 0))⟩,
      ⟨(some 41), none, .c (.call 4 [(.t 40)])⟩])
   (.cond (.t 41)
    (.seq (.reg [⟨(some 2), none, .q (.mv (.c (.bool true)))⟩])
    .ret)
    .skip))
  (.seq (.reg [⟨(some 43), none, .q (.mv (.t 0))⟩,
     ⟨(some 44), none, .c (.call 5 [(.t 43)])⟩,
     ⟨(some 42), none, .q (.mv (.t 44))⟩,
     ⟨(some 45), none, .q (.ext (.t 42) 0)⟩,
     ⟨(some 46), none, .q (.ext (.t 42) 1)⟩,
     ⟨(some 47), none, .q (.ext (.t 42) 2)⟩,
     ⟨(some 48), none, .q (.ext (.t 42) 3)⟩,
     ⟨(some 3), none, .m (.alloc [(.v (.slice none 0 0))])⟩,
     ⟨none, none, .m (.st true 1 (.t 3) (.t 45))⟩,
     ⟨(some 4), none, .q (.mv (.t 46))⟩,
     ⟨(some 5), none, .q (.mv (.t 47))⟩,
     ⟨(some 6), none, .q (.mv (.t 48))⟩])
  (.seq (.reg [⟨(some 50), none, .q (.ld true 1 (.t 3))⟩,
     ⟨(some 51), none, .q (.mv (.t 4))⟩,
     ⟨(some 52), none, .q (.mv (.t 5))⟩,
     ⟨(some 53), none, .q (.mv (.t 6))⟩,
     ⟨(some 54), none, .c (.call 6 [(.t 50), (.t 51), (.t 52), (.t 53)])⟩,
     ⟨(some 49), none, .q (.mv (.t 54))⟩,
     ⟨(some 55), none, .q (.ext (.t 49) 0)⟩,
     ⟨(some 56), none, .q (.ext (.t 49) 1)⟩,
     ⟨(some 7), none, .q (.mv (.t 55))⟩,
     ⟨(some 8), none, .q (.mv (.t 56))⟩])
  (.seq (.seq (.reg [⟨(some 58), none, .q (.ld true 1 (.t 3))⟩,
      ⟨(some 59), none, .q (.mv (.t 4))⟩,
      ⟨(some 60), none, .q (.mv (.t 5))⟩,
      ⟨(some 61), none, .q (.mv (.t 6))⟩,
      ⟨(some 62), none, .c (.call 7 [(.t 58), (.t 59), (.t 60), (.t 61)])⟩,
      ⟨(some 57), none, .q (.mv (.t 62))⟩,
      ⟨(some 63), none, .q (.ext (.t 57) 0)⟩,
      ⟨(some 64), none, .q (.ext (.t 57) 1)⟩,
      ⟨(some 9), none, .q (.mv (.t 63))⟩,
      ⟨(some 10), none, .q (.mv (.t 64))⟩])
   (.seq (.reg [⟨(some 65), none, .q (.mv (.t 8))⟩,
      ⟨(some 66), none, .q (.mv (.t 10))⟩,
      ⟨(some 67), none, .q (.bin .neq (.t 65) (.t 66))⟩,
      ⟨(some 68), none, .q (.mv (.t 67))⟩,
      ⟨(some 69), (some (68, false)), .q (.mv (.t 7))⟩,
      ⟨(some 70), (some (68, false)), .q (.mv (.t 9))⟩,
      ⟨(some 71), (some (68, false)), .q (.bin .neq (.t 69) (.t 70))⟩,
      ⟨(some 72), none, .q (.pick (.t 68) (.c (.bool true)) (.t 71))⟩])
   (.cond (.t 72)
    (.seq (.reg [⟨(some 2), none, .q (.mv (.c (.bool false)))⟩])
    .ret)
    .skip)))
  (.seq (.reg [⟨(some 74), none, .q (.mv (.t 0))⟩,
     ⟨(some 75), none, .c (.call 8 [(.t 74)])⟩,
     ⟨(some 73), none, .q (.mv (.t 75))⟩,
     ⟨(some 76), none, .q (.ext (.t 73) 0)⟩,
     ⟨(some 77), none, .q (.ext (.t 73) 1)⟩,
     ⟨(some 78), none, .q (.ext (.t 73) 2)⟩,
     ⟨(some 11), none, .m (.alloc [(.v (.slice none 0 0))])⟩,
     ⟨none, none, .m (.st true 1 (.t 11) (.t 76))⟩,
     ⟨(some 12), none, .q (.mv (.t 77))⟩,
     ⟨(some 13), none, .q (.mv (.t 78))⟩])
  (.seq (.reg [⟨(some 80), none, .q (.ld true 1 (.t 11))⟩,
     ⟨(some 81), none, .q (.mv (.t 12))⟩,
     ⟨(some 82), none, .q (.mv (.t 13))⟩,
     ⟨(some 83), none, .c (.call 9 [(.t 80), (.t 81), (.t 82)])⟩,
     ⟨(some 79), none, .q (.mv (.t 83))⟩,
     ⟨(some 84), none, .q (.ext (.t 79) 0)⟩,
     ⟨(some 85), none, .q (.ext (.t 79) 1)⟩,
     ⟨(some 14), none, .q (.mv (.t 84))⟩,
     ⟨(some 15), none, .q (.mv (.t 85))⟩])
  (.seq (.seq (.reg [⟨(some 87), none, .q (.ld true 1 (.t 11))⟩,
      ⟨(some 88), none, .q (.mv (.t 12))⟩,
      ⟨(some 89), none, .q (.mv (.t 13))⟩,
      ⟨(some 90), none, .c (.call 10 [(.t 87), (.t 88), (.t 89)])⟩,
      ⟨(some 86), none, .q (.mv (.t 90))⟩,
      ⟨(some 91), none, .q (.ext (.t 86) 0)⟩,
      ⟨(some 92), none, .q (.ext (.t 86) 1)⟩,
      ⟨(some 16), none, .q (.mv (.t 91))⟩,
      ⟨(some 17), none, .q (.mv (.t 92))⟩])
   (.seq (.reg [⟨(some 93), none, .q (.mv (.t 15))⟩,
      ⟨(some 94), none, .q (.mv (.t 17))⟩,
      ⟨(some 95), none, .q (.bin .neq (.t 93) (.t 94))⟩,
      ⟨(some 96), none, .q (.mv (.t 95))⟩,
      ⟨(some 97), (some (96, false)), .q (.mv (.t 14))⟩,
      ⟨(some 98), (some (96, false)), .q (.mv (.t 16))⟩,
      ⟨(some 99), (some (96, false)), .q (.eqb true (.t 97) (.t 98))⟩,
      ⟨(some 100), none, .q (.pick (.t 96) (.c (.bool true)) (.t 99))⟩])
   (.cond (.t 100)
    (.seq (.reg [⟨(some 2), none, .q (.mv (.c (.bool false)))⟩])
    .ret)
    .skip)))
  (.seq (.reg [⟨(some 102), none, .q (.ld true 1 (.t 11))⟩,
     ⟨(some 103), none, .q (.mv (.t 12))⟩,
     ⟨(some 104), none, .c (.call 11 [(.t 102), (.t 103)])⟩,
     ⟨(some 101), none, .q (.mv (.t 104))⟩,
     ⟨(some 105), none, .q (.ext (.t 101) 0)⟩,
     ⟨(some 106), none, .q (.ext (.t 101) 1)⟩,
     ⟨(some 18), none, .q (.mv (.t 105))⟩,
     ⟨(some 19), none, .q (.mv (.t 106))⟩])
  (.seq (.seq (.reg [⟨(some 108), none, .q (.ld true 1 (.t 11))⟩,
      ⟨(some 109), none, .q (.mv (.t 12))⟩,
      ⟨(some 110), none, .c (.call 12 [(.t 108), (.t 109)])⟩,
      ⟨(some 107), none, .q (.mv (.t 110))⟩,
      ⟨(some 111), none, .q (.ext (.t 107) 0)⟩,
      ⟨(some 112), none, .q (.ext (.t 107) 1)⟩,
      ⟨(some 20), none, .q (.mv (.t 111))⟩,
      ⟨(some 21), none, .q (.mv (.t 112))⟩])
   (.seq (.reg [⟨(some 113), none, .q (.mv (.t 19))⟩,
      ⟨(some 114), none, .q (.mv (.t 21))⟩,
      ⟨(some 115), none, .q (.bin .neq (.t 113) (.t 114))⟩,
      ⟨(some 116), none, .q (.mv (.t 115))⟩,
      ⟨(some 117), (some (116, false)), .q (.mv (.t 18))⟩,
      ⟨(some 118), (some (116, false)), .q (.mv (.t 20))⟩,
      ⟨(some 119), (some (116, false)), .q (.bin .neq (.t 117) (.t 118))⟩,
      ⟨(some 120), none, .q (.pick (.t 116) (.c (.bool true)) (.t 119))⟩])
   (.cond (.t 120)
    (.seq (.reg [⟨(some 2), none, .q (.mv (.c (.bool false)))⟩])
    .ret)
    .skip)))
  (.seq (.reg [⟨(some 122), none, .q (.mv (.t 0))⟩,
     ⟨(some 123), none, .c (.call 13 [(.t 122)])⟩,
     ⟨(some 121), none, .q (.mv (.t 123))⟩,
     ⟨(some 124), none, .q (.ext (.t 121) 0)⟩,
     ⟨(some 125), none, .q (.ext (.t 121) 1)⟩,
     ⟨(some 22), none, .q (.mv (.t 124))⟩,
     ⟨(some 23), none, .q (.mv (.t 125))⟩])
  (.seq (.reg [⟨(some 127), none, .q (.mv (.t 22))⟩,
     ⟨(some 128), none, .q (.mv (.t 23))⟩,
     ⟨(some 129), none, .c (.call 14 [(.t 127), (.t 128)])⟩,
     ⟨(some 126), none, .q (.mv (.t 129))⟩,
     ⟨(some 130), none, .q (.ext (.t 126) 0)⟩,
     ⟨(some 131), none, .q (.ext (.t 126) 1)⟩,
     ⟨(some 132), none, .q (.ext (.t 126) 2)⟩,
     ⟨(some 24), none, .m (.alloc [(.v (.slice none 0 0))])⟩,
     ⟨none, none, .m (.st true 1 (.t 24) (.t 130))⟩,
     ⟨(some 25), none, .q (.mv (.t 131))⟩,
     ⟨(some 26), none, .q (.mv (.t 132))⟩])
  (.seq (.seq (.reg [⟨(some 134), none, .q (.mv (.t 22))⟩,
      ⟨(some 135), none, .q (.mv (.t 23))⟩,
      ⟨(some 136), none, .c (.call 15 [(.t 134), (.t 135)])⟩,
      ⟨(some 133), none, .q (.mv (.t 136))⟩,
      ⟨(some 137), none, .q (.ext (.t 133) 0)⟩,
      ⟨(some 138), none, .q (.ext (.t 133) 1)⟩,
      ⟨(some 139), none, .q (.ext (.t 133) 2)⟩,
      ⟨(some 27), none, .m (.alloc [(.v (.slice none 0 0))])⟩,
      ⟨none, none, .m (.st true 1 (.t 27) (.t 137))⟩,
      ⟨(some 28), none, .q (.mv (.t 138))⟩,
      ⟨(some 29), none, .q (.mv (.t 139))⟩])
   (.seq (.reg [⟨(some 140), none, .q (.mv (.t 26))⟩,
      ⟨(some 141), none, .q (.mv (.t 29))⟩,
      ⟨(some 142), none, .q (.bin .neq (.t 140) (.t 141))⟩,
      ⟨(some 143), none, .q (.mv (.t 142))⟩,
      ⟨(some 144), (some (143, false)), .q (.fad 0 (.t 24))⟩,
      ⟨(some 145), (some (143, false)), .q (.ld false 1 (.t 144))⟩,
      ⟨(some 146), (some (143, false)), .q (.fad 0 (.t 27))⟩,
      ⟨(some 147), (some (143, false)), .q (.ld false 1 (.t 146))⟩,
      ⟨(some 148), (some (143, false)), .c (.call 16 [(.t 145), (.t 147)])⟩,
      ⟨(some 149), (some (143, false)), .q (.un .not (.t 148))⟩,
      ⟨(some 150), none, .q (.pick (.t 143) (.c (.bool true)) (.t 149))⟩,
      ⟨(some 151), none, .q (.mv (.t 150))⟩,
      ⟨(some 152), (some (151, false)), .q (.mv (.t 25))⟩,
      ⟨(some 153), (some (151, false)), .q (.mv (.t 28))⟩,
      ⟨(some 154), (some (151, false)), .c (.call 16 [(.t 152), (.t 153)])⟩,
      ⟨(some 155), (some (151, false)), .q (.un .not (.t 154))⟩,
      ⟨(some 156), none, .q (.pick (.t 151) (.c (.bool true)) (.t 155))⟩])
   (.cond (.t 156)
    (.seq (.reg [⟨(some 2), none, .q (.mv (.c (.bool false)))⟩])
    .ret)
    .skip)))
  (.seq (.reg [⟨(some 158), none, .q (.mv (.t 22))⟩,
     ⟨(some 159), none, .q (.mv (.t 23))⟩,
     ⟨(some 160), none, .c (.call 17 [(.t 158), (.t 159)])⟩,
     ⟨(some 157), none, .q (.mv (.t 160))⟩,
     ⟨(some 161), none, .q (.ext (.t 157) 0)⟩,
     ⟨(some 162), none, .q (.ext (.t 157) 1)⟩,
     ⟨(some 30), none, .q (.mv (.t 161))⟩,
     ⟨(some 31), none, .q (.mv (.t 162))⟩])
  (.seq (.seq (.reg [⟨(some 164), none, .q (.mv (.t 22))⟩,
      ⟨(some 165), none, .q (.mv (.t 23))⟩,
      ⟨(some 166), none, .c (.call 18 [(.t 164), (.t 165)])⟩,
      ⟨(some 163), none, .q (.mv (.t 166))⟩,
      ⟨(some 167), none, .q (.ext (.t 163) 0)⟩,
      ⟨(some 168), none, .q (.ext (.t 163) 1)⟩,
      ⟨(some 32), none, .q (.mv (.t 167))⟩,
      ⟨(some 33), none, .q (.mv (.t 168))⟩])
   (.seq (.reg [⟨(some 169), none, .q (.mv (.t 31))⟩,
      ⟨(some 170), none, .q (.mv (.t 33))⟩,
      ⟨(some 171), none, .q (.bin .neq (.t 169) (.t 170))⟩,
      ⟨(some 172), none, .q (.mv (.t 171))⟩,
      ⟨(some 173), (some (172, false)), .q (.mv (.t 30))⟩,
      ⟨(some 174), (some (172, false)), .q (.mv (.t 32))⟩,
      ⟨(some 175), (some (172, false)), .c (.call 19 [(.t 173), (.t 174)])⟩,
      ⟨(some 176), (some (172, false)), .q (.un .not (.t 175))⟩,
      ⟨(some 177), none, .q (.pick (.t 172) (.c (.bool true)) (.t 176))⟩])
   (.cond (.t 177)
    (.seq (.reg [⟨(some 2), none, .q (.mv (.c (.bool false)))⟩])
    .ret)
    .skip)))
  (.seq (.seq (.reg [⟨(some 178), none, .q (.mv (.t 26))⟩,
      ⟨(some 179), none, .q (.bin .eql (.t 178) (.c (.int .i64 0)))⟩])
   (.cond (.t 179)
    (.seq (.reg [⟨(some 181), none, .q (.ld true 1 (.t 24))⟩,
       ⟨(some 182), none, .q (.mv (.t 25))⟩,
       ⟨(some 183), none, .c (.call 9 [(.t 181), (.t 182), (.c (.int .i64 1))])⟩,
       ⟨(some 180), none, .q (.mv (.t 183))⟩,
       ⟨(some 184), none, .q (.ext (.t 180) 0)⟩,
       ⟨(some 185), none, .q (.ext (.t 180) 1)⟩,
       ⟨(some 34), none, .q (.mv (.t 184))⟩,
       ⟨(some 35), none, .q (.mv (.t 185))⟩])
    (.seq (.reg [⟨(some 186), none, .q (.mv (.t 35))⟩,
       ⟨(some 187), none, .q (.bin .neq (.t 186) (.c (.int .i64 0)))⟩,
       ⟨(some 188), none, .q (.mv (.t 187))⟩,
       ⟨(some 189), (some (188, false)), .q (.mv (.t 34))⟩,
       ⟨(some 190), (some (188, false)), .q (.un .not (.t 189))⟩,
       ⟨(some 191), none, .q (.pick (.t 188) (.c (.bool true)) (.t 190))⟩,
       ⟨(some 192), none, .q (.mv (.t 191))⟩,
       ⟨(some 193), (some (192, false)), .q (.mv (.t 31))⟩,
       ⟨(some 194), (some (192, false)), .q (.bin .neq (.t 193) (.c (.int .i64 0)))⟩,
       ⟨(some 195), none, .q (.pick (.t 192) (.c (.bool true)) (.t 194))⟩,
       ⟨(some 196), none, .q (.mv (.t 195))⟩,
       ⟨(some 197), (some (196, false)), .q (.mv (.t 30))⟩,
       ⟨(some 198), (some (196, false)), .q (.len (.t 197))⟩,
       ⟨(some 199), (some (196, false)), .q (.fad 0 (.t 24))⟩,
       ⟨(some 200), (some (196, false)), .q (.ld false 1 (.t 199))⟩,
       ⟨(some 201), (some (196, false)), .q (.len (.t 200))⟩,
       ⟨(some 202), (some (196, false)), .q (.bin .neq (.t 198) (.t 201))⟩,
       ⟨(some 203), none, .q (.pick (.t 196) (.c (.bool true)) (.t 202))⟩])
    (.cond (.t 203)
     (.seq (.reg [⟨(some 2), none, .q (.mv (.c (.bool false)))⟩])
     .ret)
     .skip)))
    .skip))
  (.seq (.seq (.reg [⟨(some 204), none, .q (.mv (.t 15))⟩,
      ⟨(some 205), none, .q (.bin .eql (.t 204) (.c (.int .i64 0)))⟩,
      ⟨(some 206), none, .q (.mv (.t 205))⟩,
      ⟨(some 207), (some (206, true)), .q (.mv (.t 14))⟩,
      ⟨(some 208), none, .q (.pick (.t 206) (.t 207) (.c (.bool false)))⟩])
   (.cond (.t 208)
    (.seq (.reg [⟨(some 210), none, .q (.ld true 1 (.t 11))⟩,
       ⟨(some 211), none, .q (.mv (.t 12))⟩,
       ⟨(some 212), none, .q (.mv (.t 13))⟩,
       ⟨(some 213), none, .c (.call 20 [(.t 210), (.t 211), (.t 212)])⟩,
       ⟨(some 209), none, .q (.mv (.t 213))⟩,
       ⟨(some 214), none, .q (.ext (.t 209) 0)⟩,
       ⟨(some 215), none, .q (.ext (.t 209) 1)⟩,
       ⟨(some 36), none, .q (.mv (.t 214))⟩,
       ⟨(some 37), none, .q (.mv (.t 215))⟩])
    (.seq (.reg [⟨(some 216), none, .q (.mv (.t 37))⟩,
       ⟨(some 217), none, .q (.bin .neq (.t 216) (.c (.int .i64 0)))⟩,
       ⟨(some 218), none, .q (.mv (.t 217))⟩,
       ⟨(some 219), (some (218, false)), .q (.mv (.t 36))⟩,
       ⟨(some 220), (some (218, false)), .q (.bin .neq (.t 219) (.c (.int .i64 0)))⟩,
       ⟨(some 221), none, .q (.pick (.t 218) (.c (.bool true)) (.t 220))⟩,
       ⟨(some 222), none, .q (.mv (.t 221))⟩,
       ⟨(some 223), (some (222, false)), .q (.mv (.t 19))⟩,
       ⟨(some 224), (some (222, false)), .q (.bin .neq (.t 223) (.c (.int .i64 0)))⟩,
       ⟨(some 225), none, .q (.pick (.t 222) (.c (.bool true)) (.t 224))⟩,
       ⟨(some 226), none, .q (.mv (.t 225))⟩,
       ⟨(some 227), (some (226, false)), .q (.mv (.t 18))⟩,
       ⟨(some 228), (some (226, false)), .q (.mv (.t 13))⟩,
       ⟨(some 229), (some (226, false)), .q (.bin .gtr (.t 227) (.t 228))⟩,
       ⟨(some 230), none, .q (.pick (.t 226) (.c (.bool true)) (.t 229))⟩])
    (.cond (.t 230)
     (.seq (.reg [⟨(some 2), none, .q (.mv (.c (.bool false)))⟩])
     .ret)
     .skip)))
    .skip))
  (.seq (.seq (.reg [⟨(some 231), none, .q (.mv (.t 8))⟩,
      ⟨(some 232), none, .q (.bin .neq (.t 231) (.c (.int .i64 0)))⟩])
   (.cond (.t 232)
    (.seq (.reg [⟨(some 233), none, .q (.mv (.t 7))⟩,
       ⟨(some 234), none, .q (.bin .eql (.t 233) (.c (.int .i64 0)))⟩,
       ⟨(some 2), none, .q (.mv (.t 234))⟩])
    .ret)
    .skip))
  (.seq (.reg [⟨(some 236), none, .q (.ld true 1 (.t 3))⟩,
     ⟨(some 237), none, .q (.mv (.t 7))⟩,
     ⟨(some 238), none, .q (.mv (.t 6))⟩,
     ⟨(some 239), none, .c (.call 21 [(.t 236), (.t 237), (.t 238)])⟩,
     ⟨(some 235), none, .q (.mv (.t 239))⟩,
     ⟨(some 240), none, .q (.ext (.t 235) 0)⟩,
     ⟨(some 241), none, .q (.ext (.t 235) 1)⟩,
     ⟨(some 38), none, .q (.mv (.t 240))⟩,
     ⟨(some 39), none, .q (.mv (.t 241))⟩])
  (.seq (.reg [⟨(some 242), none, .q (.mv (.t 4))⟩,
     ⟨(some 243), none, .q (.mv (.t 7))⟩,
     ⟨(some 244), none, .c (.call 22 [(.t 242), (.t 243)])⟩,
     ⟨(some 245), none, .q (.mv (.t 244))⟩,
     ⟨(some 246), (some (245, true)), .q (.mv (.t 39))⟩,
     ⟨(some 247), (some (245, true)), .q (.bin .eql (.t 246) (.c (.int .i64 0)))⟩,
     ⟨(some 248), none, .q (.pick (.t 245) (.t 247) (.c (.bool false)))⟩,
     ⟨(some 249), none, .q (.mv (.t 248))⟩,
     ⟨(some 250), (some (249, true)), .q (.mv (.t 38))⟩,
     ⟨(some 251), (some (249, true)), .q (.mv (.t 5))⟩,
     ⟨(some 252), (some (249, true)), .q (.bin .leq (.t 250) (.t 251))⟩,
     ⟨(some 253), none, .q (.pick (.t 249) (.t 252) (.c (.bool false)))⟩,
     ⟨(some 2), none, .q (.mv (.t 253))⟩])
  .ret))))))))))))))))))))⟩
theorem l_laws_FnPerfect : lowF PA f_laws_FnPerfect 1 [] = some c_laws_FnPerfect := by kernel_rfl
abbrev f_laws_big : FuncId := 4
def c_laws_big : AF := ⟨1, 6, [.t 2],
  (.seq (.reg [⟨(some 2), none, .q (.mv (.c (.bool false)))⟩])
  (.seq (.reg [⟨(some 3), none, .q (.mv (.t 0))⟩,
     ⟨(some 4), none, .q (.len (.t 3))⟩,
     ⟨(some 5), none, .q (.bin .gtr (.t 4) (.c (.int .i64 4096)))⟩,
     ⟨(some 2), none, .q (.mv (.t 5))⟩])
  .ret))⟩
theorem l_laws_big : lowF PA f_laws_big 1 [] = some c_laws_big := by kernel_rfl
abbrev f_spec_DrawDecodeWord : FuncId := 5
def c_spec_DrawDecodeWord : AF := ⟨1, 30, [.c 2 true 1, .t 3, .t 4, .t 5],
  (.seq (.reg [⟨(some 2), none, .m (.alloc [(.v (.slice none 0 0))])⟩,
     ⟨(some 3), none, .q (.mv (.c (.slice none 0 0)))⟩,
     ⟨(some 4), none, .q (.mv (.c (.int .i64 0)))⟩,
     ⟨(some 5), none, .q (.mv (.c (.int .i64 0)))⟩])
  (.seq (.reg [⟨(some 11), none, .q (.mv (.t 0))⟩,
     ⟨(some 12), none, .c (.call 23 [(.t 11)])⟩,
     ⟨(some 6), none, .q (.mv (.t 12))⟩])
  (.seq (.reg [⟨(some 14), none, .q (.mv (.t 0))⟩,
     ⟨(some 15), none, .c (.call 24 [(.t 14)])⟩,
     ⟨(some 13), none, .q (.mv (.t 15))⟩,
     ⟨(some 16), none, .q (.ext (.t 13) 0)⟩,
     ⟨(some 17), none, .q (.ext (.t 13) 1)⟩,
     ⟨(some 18), none, .q (.ext (.t 13) 2)⟩,
     ⟨(some 7), none, .m (.alloc [(.v (.slice none 0 0))])⟩,
     ⟨none, none, .m (.st true 1 (.t 7) (.t 16))⟩,
     ⟨(some 8), none, .q (.mv (.t 17))⟩,
     ⟨(some 9), none, .q (.mv (.t 18))⟩])
  (.seq (.reg [⟨(some 10), none, .q (.mv (.c (.int .i64 3)))⟩])
  (.seq (.seq (.reg [⟨(some 19), none, .q (.ld true 1 (.t 7))⟩,
      ⟨(some 20), none, .c (.call 25 [(.t 19)])⟩])
   (.cond (.t 20)
    (.reg [⟨(some 21), none, .q (.ld true 1 (.t 7))⟩,
      ⟨(some 22), none, .c (.call 26 [(.t 21)])⟩,
      ⟨(some 23), none, .q (.bin .sub (.t 22) (.c (.int .i64 1)))⟩,
      ⟨(some 10), none, .q (.mv (.t 23))⟩])
    .skip))
  (.seq (.sch (.take 0 ⟨(some 24), none, .q (.ld true 1 (.t 7))⟩ (.take 1 ⟨(some 25), none, .q (.mv (.t 8))⟩ (.take 2 ⟨(some 26), none, .q (.mv (.t 9))⟩ (.take 3 ⟨(some 27), none, .q (.mv (.t 6))⟩ (.take 4 ⟨(some 28), none, .q (.mv (.t 10))⟩ (.one ⟨(some 29), none, .c (.call 27 [(.t 27), (.t 28)])⟩ [] (.one ⟨none, none, .m (.st true 1 (.t 2) (.t 24))⟩ [0] (.take 7 ⟨(some 3), none, .q (.mv (.t 25))⟩ (.take 8 ⟨(some 4), none, .q (.mv (.t 26))⟩ (.take 9 ⟨(some 5), none, .q (.mv (.t 29))⟩ .done)))))))))))
  .ret))))))⟩
theorem l_spec_DrawDecodeWord : lowF PA f_spec_DrawDecodeWord 1 [.s (.take 0 (.take 1 (.take 2 (.take 3 (.take 4 (.one 5 (.one 6 (.take 7 (.take 8 (.take 9 .done))))))))))] = some c_spec_DrawDecodeWord := by kernel_rfl
abbrev f_impl_DecodeWord : FuncId := 6
def c_impl_DecodeWord : AF := ⟨4, 37, [.t 8, .t 9],
  (.seq (.reg [⟨(some 4), none, .m (.box (.t 0))⟩,
     ⟨(some 6), none, .m (.box (.t 2))⟩,
     ⟨(some 7), none, .m (.box (.t 3))⟩,
     ⟨(some 8), none, .q (.mv (.c (.int .i64 0)))⟩,
     ⟨(some 9), none, .q (.mv (.c (.int .i64 0)))⟩])
  (.seq (.seq (.reg [⟨(some 12), none, .q (.ld true 1 (.t 4))⟩,
      ⟨(some 13), none, .q (.mv (.t 1))⟩,
      ⟨(some 14), none, .q (.ld false 1 (.t 7))⟩,
      ⟨(some 15), none, .m (.bsl 1 [(.t 14)])⟩,
      ⟨(some 16), none, .c (.call 28 [(.t 12), (.t 13), (.t 15)])⟩,
      ⟨(some 10), none, .q (.mv (.t 16))⟩])
   (.seq (.reg [⟨(some 17), none, .q (.mv (.t 10))⟩,
      ⟨(some 18), none, .q (.bin .neq (.t 17) (.c (.int .i64 0)))⟩])
   (.cond (.t 18)
    (.seq (.reg [⟨(some 19), none, .q (.mv (.t 10))⟩,
       ⟨(some 8), none, .q (.mv (.c (.int .i64 0)))⟩,
       ⟨(some 9), none, .q (.mv (.t 19))⟩])
    .ret)
    .skip)))
  (.seq (.block 0 (.seq (.reg [⟨(some 21), none, .q (.ld false 1 (.t 6))⟩,
       ⟨(some 22), none, .c (.call 29 [(.t 21)])⟩,
       ⟨(some 23), none, .q (.un .not (.t 22))⟩,
       ⟨(some 20), none, .q (.mv (.t 23))⟩])
    (.cond (.t 20)
     (.seq (.reg [⟨(some 8), none, .q (.mv (.c (.int .i64 0)))⟩,
        ⟨(some 9), none, .q (.mv (.c (.int .i64 2)))⟩])
     .ret)
     (.seq (.reg [⟨(some 25), none, .q (.ld true 1 (.t 4))⟩,
        ⟨(some 26), none, .q (.mv (.t 1))⟩,
        ⟨(some 27), none, .q (.ld false 1 (.t 6))⟩,
        ⟨(some 28), none, .c (.call 30 [(.t 25), (.t 26), (.t 27)])⟩,
        ⟨(some 29), none, .q (.un .not (.t 28))⟩,
        ⟨(some 24), none, .q (.mv (.t 29))⟩])
     (.cond (.t 24)
      (.seq (.reg [⟨(some 8), none, .q (.mv (.c (.int .i64 0)))⟩,
         ⟨(some 9), none, .q (.mv (.c (.int .i64 5)))⟩])
      .ret)
      .skip)))))
  (.seq (.reg [⟨(some 30), none, .q (.mv (.t 1))⟩,
     ⟨(some 31), none, .q (.mkf 32 [(.t 4), (.t 7), (.t 6)])⟩,
     ⟨(some 32), none, .c (.call 31 [(.t 30), (.t 31)])⟩,
     ⟨(some 11), none, .q (.mv (.t 32))⟩])
  (.seq (.reg [⟨(some 33), none, .q (.mv (.t 1))⟩,
     ⟨(some 34), none, .q (.mv (.t 11))⟩,
     ⟨(some 35), none, .q (.ixs 1 (.t 33) (.t 34))⟩,
     ⟨(some 36), none, .q (.ld false 1 (.t 35))⟩,
     ⟨(some 8), none, .q (.mv (.t 36))⟩,
     ⟨(some 9), none, .q (.mv (.c (.int .i64 0)))⟩])
  .ret)))))⟩
theorem l_impl_DecodeWord : lowF PA f_impl_DecodeWord 4 [] = some c_impl_DecodeWord := by kernel_rfl
abbrev f_spec_DecodeWord : FuncId := 7
def c_spec_DecodeWord : AF := ⟨4, 53, [.t 8, .t 9],
  (.seq (.reg [⟨(some 4), none, .m (.box (.t 0))⟩,
     ⟨(some 8), none, .q (.mv (.c (.int .i64 0)))⟩,
     ⟨(some 9), none, .q (.mv (.c (.int .i64 0)))⟩])
  (.seq (.reg [⟨(some 12), none, .q (.ld true 1 (.t 4))⟩,
     ⟨(some 13), none, .q (.mv (.t 1))⟩,
     ⟨(some 14), none, .q (.mv (.t 2))⟩,
     ⟨(some 15), none, .c (.call 34 [(.t 12), (.t 13), (.t 14)])⟩,
     ⟨(some 10), none, .q (.mv (.t 15))⟩])
  (.seq (.seq (.reg [⟨(some 16), none, .q (.mv (.t 10))⟩,
      ⟨(some 17), none, .q (.bin .eql (.t 16) (.c (.int .i64 0)))⟩,
      ⟨(some 18), none, .q (.mv (.t 17))⟩,
      ⟨(some 19), (some (18, true)), .q (.mv (.t 3))⟩,
      ⟨(some 20), (some (18, true)), .q (.ld true 1 (.t 4))⟩,
      ⟨(some 21), (some (18, true)), .c (.call 26 [(.t 20)])⟩,
      ⟨(some 22), (some (18, true)), .q (.bin .sub (.t 21) (.c (.int .i64 1)))⟩,
      ⟨(some 23), (some (18, true)), .c (.call 35 [(.t 19), (.c (.int .i64 0)), (.t 22)])⟩,
      ⟨(some 24), (some (18, true)), .q (.un .not (.t 23))⟩,
      ⟨(some 25), none, .q (.pick (.t 18) (.t 24) (.c (.bool false)))⟩])
   (.cond (.t 25)
    (.reg [⟨(some 10), none, .q (.mv (.c (.int .i64 2)))⟩])
    .skip))
  (.seq (.seq (.reg [⟨(some 26), none, .q (.mv (.t 10))⟩,
      ⟨(some 27), none, .q (.bin .eql (.t 26) (.c (.int .i64 0)))⟩,
      ⟨(some 28), none, .q (.mv (.t 27))⟩,
      ⟨(some 29), (some (28, true)), .q (.ld true 1 (.t 4))⟩,
      ⟨(some 30), (some (28, true)), .q (.mv (.t 1))⟩,
      ⟨(some 31), (some (28, true)), .q (.mv (.t 2))⟩,
      ⟨(some 32), (some (28, true)), .c (.call 36 [(.t 29), (.t 30), (.t 31)])⟩,
      ⟨(some 33), (some (28, true)), .q (.un .not (.t 32))⟩,
      ⟨(some 34), none, .q (.pick (.t 28) (.t 33) (.c (.bool false)))⟩])
   (.cond (.t 34)
    (.reg [⟨(some 10), none, .q (.mv (.c (.int .i64 5)))⟩])
    .skip))
  (.seq (.seq (.reg [⟨(some 35), none, .q (.mv (.t 10))⟩,
      ⟨(some 36), none, .q (.bin .neq (.t 35) (.c (.int .i64 0)))⟩])
   (.cond (.t 36)
    (.seq (.reg [⟨(some 37), none, .q (.mv (.t 10))⟩,
       ⟨(some 8), none, .q (.mv (.c (.int .i64 0)))⟩,
       ⟨(some 9), none, .q (.mv (.t 37))⟩])
    .ret)
    .skip))
  (.seq (.reg [⟨(some 11), none, .q (.mv (.c (.int .i64 0)))⟩])
  (.seq (.block 0 (.loop [1, 2, 3, 4, 11] (.seq (.seq (.sch (.take 0 ⟨(some 38), none, .q (.ld true 1 (.t 4))⟩ (.take 1 ⟨(some 39), none, .q (.mv (.t 1))⟩ (.take 2 ⟨(some 40), none, .q (.mv (.t 11))⟩ (.take 3 ⟨(some 41), none, .q (.ixs 1 (.t 39) (.t 40))⟩ (.take 4 ⟨(some 42), none, .q (.ld false 1 (.t 41))⟩ (.take 5 ⟨(some 43), none, .q (.mv (.t 3))⟩ (.take 7 ⟨(some 45), none, .q (.mv (.t 2))⟩ (.one ⟨(some 44), none, .c (.call 37 [(.t 38), (.t 42), (.t 43)])⟩ [4, 0] (.take 8 ⟨(some 46), none, .q (.bin .gtr (.t 44) (.t 45))⟩ .done))))))))))
      (.cond (.t 46)
       .skip
       (.exit 0)))
     (.block 1 (.reg [⟨(some 47), none, .q (.mv (.t 11))⟩,
        ⟨(some 48), none, .q (.bin .add (.t 47) (.c (.int .i64 1)))⟩,
        ⟨(some 11), none, .q (.mv (.t 48))⟩])))))
  (.seq (.reg [⟨(some 49), none, .q (.mv (.t 1))⟩,
     ⟨(some 50), none, .q (.mv (.t 11))⟩,
     ⟨(some 51), none, .q (.ixs 1 (.t 49) (.t 50))⟩,
     ⟨(some 52), none, .q (.ld false 1 (.t 51))⟩,
     ⟨(some 8), none, .q (.mv (.t 52))⟩,
     ⟨(some 9), none, .q (.mv (.c (.int .i64 0)))⟩])
  .ret))))))))⟩
theorem l_spec_DecodeWord : lowF PA f_spec_DecodeWord 4 [.k [1, 2, 3, 4, 11], .s (.take 0 (.take 1 (.take 2 (.take 3 (.take 4 (.take 5 (.take 7 (.one 6 (.take 8 .done)))))))))] = some c_spec_DecodeWord := by kernel_rfl
abbrev f_spec_DrawIsPerfect : FuncId := 8
def c_spec_DrawIsPerfect : AF := ⟨1, 10, [.c 2 true 1, .t 3, .t 4],
  (.seq (.reg [⟨(some 2), none, .m (.alloc [(.v (.slice none 0 0))])⟩,
     ⟨(some 3), none, .q (.mv (.c (.slice none 0 0)))⟩,
     ⟨(some 4), none, .q (.mv (.c (.int .i64 0)))⟩])
  (.seq (.reg [⟨(some 5), none, .q (.mv (.t 0))⟩,
     ⟨(some 6), none, .c (.call 24 [(.t 5)])⟩,
     ⟨(some 7), none, .q (.ext (.t 6) 0)⟩,
     ⟨(some 8), none, .q (.ext (.t 6) 1)⟩,
     ⟨(some 9), none, .q (.ext (.t 6) 2)⟩,
     ⟨none, none, .m (.st true 1 (.t 2) (.t 7))⟩,
     ⟨(some 3), none, .q (.mv (.t 8))⟩,
     ⟨(some 4), none, .q (.mv (.t 9))⟩])
  .ret))⟩
theorem l_spec_DrawIsPerfect : lowF PA f_spec_DrawIsPerfect 1 [] = some c_spec_DrawIsPerfect := by kernel_rfl
abbrev f_impl_IsPerfect : FuncId := 9
def c_impl_IsPerfect : AF := ⟨3, 20, [.t 6, .t 7],
  (.seq (.reg [⟨(some 3), none, .m (.box (.t 0))⟩,
     ⟨(some 6), none, .q (.mv (.c (.bool false)))⟩,
     ⟨(some 7), none, .q (.mv (.c (.int .i64 0)))⟩])
  (.seq (.seq (.reg [⟨(some 9), none, .q (.ld true 1 (.t 3))⟩,
      ⟨(some 10), none, .q (.mv (.t 1))⟩,
      ⟨(some 11), none, .q (.mv (.t 2))⟩,
      ⟨(some 12), none, .c (.call 38 [(.t 9), (.t 10), (.t 11)])⟩,
      ⟨(some 8), none, .q (.mv (.t 12))⟩])
   (.seq (.reg [⟨(some 13), none, .q (.mv (.t 8))⟩,
      ⟨(some 14), none, .q (.bin .neq (.t 13) (.c (.int .i64 0)))⟩])
   (.cond (.t 14)
    (.seq (.reg [⟨(some 15), none, .q (.mv (.t 8))⟩,
       ⟨(some 6), none, .q (.mv (.c (.bool false)))⟩,
       ⟨(some 7), none, .q (.mv (.t 15))⟩])
    .ret)
    .skip)))
  (.seq (.reg [⟨(some 16), none, .q (.ld true 1 (.t 3))⟩,
     ⟨(some 17), none, .q (.mv (.t 1))⟩,
     ⟨(some 18), none, .q (.mv (.t 2))⟩,
     ⟨(some 19), none, .c (.call 30 [(.t 16), (.t 17), (.t 18)])⟩,
     ⟨(some 6), none, .q (.mv (.t 19))⟩,
     ⟨(some 7), none, .q (.mv (.c (.int .i64 0)))⟩])
  .ret)))⟩
theorem l_impl_IsPerfect : lowF PA f_impl_IsPerfect 3 [] = some c_impl_IsPerfect := by kernel_rfl
abbrev f_spec_IsPerfect : FuncId := 10
def c_spec_IsPerfect : AF := ⟨3, 20, [.t 6, .t 7],
  (.seq (.reg [⟨(some 3), none, .m (.box (.t 0))⟩,
     ⟨(some 6), none, .q (.mv (.c (.bool false)))⟩,
     ⟨(some 7), none, .q (.mv (.c (.int .i64 0)))⟩])
  (.seq (.seq (.reg [⟨(some 9), none, .q (.ld true 1 (.t 3))⟩,
      ⟨(some 10), none, .q (.mv (.t 1))⟩,
      ⟨(some 11), none, .q (.mv (.t 2))⟩,
      ⟨(some 12), none, .c (.call 34 [(.t 9), (.t 10), (.t 11)])⟩,
      ⟨(some 8), none, .q (.mv (.t 12))⟩])
   (.seq (.reg [⟨(some 13), none, .q (.mv (.t 8))⟩,
      ⟨(some 14), none, .q (.bin .neq (.t 13) (.c (.int .i64 0)))⟩])
   (.cond (.t 14)
    (.seq (.reg [⟨(some 15), none, .q (.mv (.t 8))⟩,
       ⟨(some 6), none, .q (.mv (.c (.bool false)))⟩,
       ⟨(some 7), none, .q (.mv (.t 15))⟩])
    .ret)
    .skip)))
  (.seq (.reg [⟨(some 16), none, .q (.ld true 1 (.t 3))⟩,
     ⟨(some 17), none, .q (.mv (.t 1))⟩,
     ⟨(some 18), none, .q (.mv (.t 2))⟩,
     ⟨(some 19), none, .c (.call 36 [(.t 16), (.t 17), (.t 18)])⟩,
     ⟨(some 6), none, .q (.mv (.t 19))⟩,
     ⟨(some 7), none, .q (.mv (.c (.int .i64 0)))⟩])
  .ret)))⟩
theorem l_spec_IsPerfect : lowF PA f_spec_IsPerfect 3 [] = some c_spec_IsPerfect := by kernel_rfl
abbrev f_impl_PerfectRadius : FuncId := 11
def c_impl_PerfectRadius : AF := ⟨2, 23, [.t 4, .t 5],
  (.seq (.reg [⟨(some 2), none, .m (.box (.t 0))⟩,
     ⟨(some 4), none, .q (.mv (.c (.int .i64 0)))⟩,
     ⟨(some 5), none, .q (.mv (.c (.int .i64 0)))⟩])
  (.seq (.seq (.reg [⟨(some 8), none, .q (.ld true 1 (.t 2))⟩,
      ⟨(some 9), none, .q (.mv (.t 1))⟩,
      ⟨(some 10), none, .c (.call 28 [(.t 8), (.t 9), (.c (.slice none 0 0))])⟩,
      ⟨(some 6), none, .q (.mv (.t 10))⟩])
   (.seq (.reg [⟨(some 11), none, .q (.mv (.t 6))⟩,
      ⟨(some 12), none, .q (.bin .neq (.t 11) (.c (.int .i64 0)))⟩])
   (.cond (.t 12)
    (.seq (.reg [⟨(some 13), none, .q (.mv (.t 6))⟩,
       ⟨(some 4), none, .q (.mv (.c (.int .i64 0)))⟩,
       ⟨(some 5), none, .q (.mv (.t 13))⟩])
    .ret)
    .skip)))
  (.seq (.seq (.reg [⟨(some 14), none, .q (.mv (.c (.int .i64 0)))⟩])
   (.block 0 (.loop [1, 2, 14] (.seq (.reg [⟨(some 15), none, .q (.bin .lss (.t 14) (.c (.int .i64 9)))⟩])
     (.seq (.cond (.t 15)
       .skip
       (.exit 0))
     (.seq (.block 1 (.seq (.reg [⟨(some 16), none, .q (.mv (.t 14))⟩,
          ⟨(some 7), none, .q (.mv (.t 16))⟩])
       (.seq (.reg [⟨(some 17), none, .q (.ld true 1 (.t 2))⟩,
          ⟨(some 18), none, .q (.mv (.t 1))⟩,
          ⟨(some 19), none, .q (.mv (.t 7))⟩,
          ⟨(some 20), none, .c (.call 30 [(.t 17), (.t 18), (.t 19)])⟩])
       (.cond (.t 20)
        (.seq (.reg [⟨(some 21), none, .q (.mv (.t 7))⟩,
           ⟨(some 4), none, .q (.mv (.t 21))⟩,
           ⟨(some 5), none, .q (.mv (.c (.int .i64 0)))⟩])
        .ret)
        .skip))))
     (.reg [⟨(some 22), none, .q (.bin .add (.t 14) (.c (.int .i64 1)))⟩,
       ⟨(some 14), none, .q (.mv (.t 22))⟩])))))))
  (.seq (.reg [⟨(some 4), none, .q (.mv (.c (.int .i64 0)))⟩,
     ⟨(some 5), none, .q (.mv (.c (.int .i64 4)))⟩])
  .ret))))⟩
theorem l_impl_PerfectRadius : lowF PA f_impl_PerfectRadius 2 [.k [1, 2, 14]] = some c_impl_PerfectRadius := by kernel_rfl
abbrev f_spec_PerfectRadius : FuncId := 12
def c_spec_PerfectRadius : AF := ⟨2, 26, [.t 4, .t 5],
  (.seq (.reg [⟨(some 2), none, .m (.box (.t 0))⟩,
     ⟨(some 4), none, .q (.mv (.c (.int .i64 0)))⟩,
     ⟨(some 5), none, .q (.mv (.c (.int .i64 0)))⟩])
  (.seq (.seq (.reg [⟨(some 8), none, .q (.ld true 1 (.t 2))⟩,
      ⟨(some 9), none, .q (.mv (.t 1))⟩,
      ⟨(some 10), none, .c (.call 39 [(.t 8), (.t 9)])⟩,
      ⟨(some 6), none, .q (.mv (.t 10))⟩])
   (.seq (.reg [⟨(some 11), none, .q (.mv (.t 6))⟩,
      ⟨(some 12), none, .q (.bin .neq (.t 11) (.c (.int .i64 0)))⟩])
   (.cond (.t 12)
    (.seq (.reg [⟨(some 13), none, .q (.mv (.t 6))⟩,
       ⟨(some 4), none, .q (.mv (.c (.int .i64 0)))⟩,
       ⟨(some 5), none, .q (.mv (.t 13))⟩])
    .ret)
    .skip)))
  (.seq (.seq (.reg [⟨(some 7), none, .q (.mv (.c (.int .i64 0)))⟩])
   (.block 0 (.loop [1, 2, 7] (.seq (.seq (.reg [⟨(some 14), none, .q (.mv (.t 7))⟩,
         ⟨(some 15), none, .q (.fad 0 (.t 2))⟩,
         ⟨(some 16), none, .q (.ld false 1 (.t 15))⟩,
         ⟨(some 17), none, .q (.len (.t 16))⟩,
         ⟨(some 18), none, .q (.bin .leq (.t 14) (.t 17))⟩])
      (.cond (.t 18)
       .skip
       (.exit 0)))
     (.seq (.block 1 (.seq (.reg [⟨(some 21), none, .q (.ld true 1 (.t 2))⟩,
          ⟨(some 22), none, .q (.mv (.t 1))⟩,
          ⟨(some 23), none, .q (.mv (.t 7))⟩,
          ⟨(some 24), none, .c (.call 36 [(.t 21), (.t 22), (.t 23)])⟩])
       (.cond (.t 24)
        (.seq (.reg [⟨(some 25), none, .q (.mv (.t 7))⟩,
           ⟨(some 4), none, .q (.mv (.t 25))⟩,
           ⟨(some 5), none, .q (.mv (.c (.int .i64 0)))⟩])
        .ret)
        .skip)))
     (.reg [⟨(some 19), none, .q (.mv (.t 7))⟩,
       ⟨(some 20), none, .q (.bin .add (.t 19) (.c (.int .i64 1)))⟩,
       ⟨(some 7), none, .q (.mv (.t 20))⟩]))))))
  (.seq (.reg [⟨(some 4), none, .q (.mv (.c (.int .i64 0)))⟩,
     ⟨(some 5), none, .q (.mv (.c (.int .i64 4)))⟩])
  .ret))))⟩
theorem l_spec_PerfectRadius : lowF PA f_spec_PerfectRadius 2 [.k [1, 2, 7]] = some c_spec_PerfectRadius := by kernel_rfl
abbrev f_spec_DrawHammingCode : FuncId := 13
def c_spec_DrawHammingCode : AF := ⟨1, 8, [.t 2, .t 3],
  (.seq (.reg [⟨(some 2), none, .q (.mv (.c (.int .i64 0)))⟩,
     ⟨(some 3), none, .q (.mv (.c (.int .i64 0)))⟩])
  (.seq (.reg [⟨(some 4), none, .q (.mv (.t 0))⟩,
     ⟨(some 5), none, .c (.call 40 [(.t 4)])⟩,
     ⟨(some 6), none, .q (.ext (.t 5) 0)⟩,
     ⟨(some 7), none, .q (.ext (.t 5) 1)⟩,
     ⟨(some 2), none, .q (.mv (.t 6))⟩,
     ⟨(some 3), none, .q (.mv (.t 7))⟩])
  .ret))⟩
theorem l_spec_DrawHammingCode : lowF PA f_spec_DrawHammingCode 1 [] = some c_spec_DrawHammingCode := by kernel_rfl
abbrev f_impl_HammingCode : FuncId := 14
def c_impl_HammingCode : AF := ⟨2, 30, [.c 4 true 1, .t 5, .t 6],
  (.seq (.reg [⟨(some 2), none, .m (.box (.t 0))⟩,
     ⟨(some 3), none, .m (.box (.t 1))⟩,
     ⟨(some 4), none, .m (.alloc [(.v (.slice none 0 0))])⟩,
     ⟨(some 5), none, .q (.mv (.c (.slice none 0 0)))⟩,
     ⟨(some 6), none, .q (.mv (.c (.int .i64 0)))⟩])
  (.seq (.seq (.reg [⟨(some 10), none, .q (.ld false 1 (.t 2))⟩,
      ⟨(some 11), none, .q (.ld false 1 (.t 3))⟩,
      ⟨(some 12), none, .c (.call 41 [(.t 10), (.t 11), (.c (.int .i64 2))])⟩,
      ⟨(some 7), none, .q (.mv (.t 12))⟩])
   (.seq (.reg [⟨(some 13), none, .q (.mv (.t 7))⟩,
      ⟨(some 14), none, .q (.bin .neq (.t 13) (.c (.int .i64 0)))⟩])
   (.cond (.t 14)
    (.seq (.reg [⟨(some 15), none, .q (.bld [(.v (.slice none 0 0))] [])⟩,
       ⟨(some 16), none, .q (.mv (.t 7))⟩,
       ⟨none, none, .m (.st true 1 (.t 4) (.t 15))⟩,
       ⟨(some 5), none, .q (.mv (.c (.slice none 0 0)))⟩,
       ⟨(some 6), none, .q (.mv (.t 16))⟩])
    .ret)
    .skip)))
  (.seq (.reg [⟨(some 17), none, .q (.ld false 1 (.t 2))⟩,
     ⟨(some 18), none, .q (.ld false 1 (.t 3))⟩,
     ⟨(some 19), none, .c (.call 42 [(.t 17), (.t 18)])⟩,
     ⟨(some 8), none, .m (.alloc [(.v (.slice none 0 0))])⟩,
     ⟨none, none, .m (.st false 1 (.t 8) (.t 19))⟩])
  (.seq (.reg [⟨(some 20), none, .q (.ld false 1 (.t 2))⟩,
     ⟨(some 21), none, .m (.bsl 1 [(.t 20)])⟩,
     ⟨(some 22), none, .q (.ld false 1 (.t 8))⟩,
     ⟨(some 23), none, .q (.len (.t 22))⟩,
     ⟨(some 24), none, .c (.call 43 [(.t 21), (.t 23)])⟩,
     ⟨(some 25), none, .q (.bld [(.v (.slice none 0 0))] [(0, (.t 24))])⟩,
     ⟨(some 9), none, .m (.alloc [(.v (.slice none 0 0))])⟩,
     ⟨none, none, .m (.st true 1 (.t 9) (.t 25))⟩])
  (.seq (.sch (.take 0 ⟨(some 26), none, .q (.ld true 1 (.t 9))⟩ (.take 1 ⟨(some 27), none, .q (.ld true 1 (.t 9))⟩ (.take 2 ⟨(some 28), none, .q (.mkf 45 [(.t 3), (.t 8), (.t 2)])⟩ (.one ⟨(some 29), none, .c (.call 44 [(.t 27), (.t 28)])⟩ [1] (.one ⟨none, none, .m (.st true 1 (.t 4) (.t 26))⟩ [0] (.take 5 ⟨(some 5), none, .q (.mv (.t 29))⟩ (.take 6 ⟨(some 6), none, .q (.mv (.c (.int .i64 0)))⟩ .done))))))))
  .ret)))))⟩
theorem l_impl_HammingCode : lowF PA f_impl_HammingCode 2 [.s (.take 0 (.take 1 (.take 2 (.one 3 (.one 4 (.take 5 (.take 6 .done)))))))] = some c_impl_HammingCode := by kernel_rfl
abbrev f_spec_HammingCode : FuncId := 15
def c_spec_HammingCode : AF := ⟨2, 34, [.c 4 true 1, .t 5, .t 6],
  (.seq (.reg [⟨(some 4), none, .m (.alloc [(.v (.slice none 0 0))])⟩,
     ⟨(some 5), none, .q (.mv (.c (.slice none 0 0)))⟩,
     ⟨(some 6), none, .q (.mv (.c (.int .i64 0)))⟩])
  (.seq (.block 0 (.seq (.reg [⟨(some 10), none, .q (.mv (.t 0))⟩,
       ⟨(some 11), none, .c (.call 35 [(.t 10), (.c (.int .i64 2)), (.c (.int .i64 3))])⟩,
       ⟨(some 12), none, .q (.un .not (.t 11))⟩,
       ⟨(some 13), none, .q (.mv (.t 12))⟩,
       ⟨(some 14), (some (13, false)), .q (.mv (.t 1))⟩,
       ⟨(some 15), (some (13, false)), .c (.call 35 [(.t 14), (.c (.int .i64 2)), (.c (.int .i64 3))])⟩,
       ⟨(some 16), (some (13, false)), .q (.un .not (.t 15))⟩,
       ⟨(some 17), none, .q (.pick (.t 13) (.c (.bool true)) (.t 16))⟩,
       ⟨(some 9), none, .q (.mv (.t 17))⟩])
    (.cond (.t 9)
     (.seq (.reg [⟨(some 18), none, .q (.bld [(.v (.slice none 0 0))] [])⟩,
        ⟨none, none, .m (.st true 1 (.t 4) (.t 18))⟩,
        ⟨(some 5), none, .q (.mv (.c (.slice none 0 0)))⟩,
        ⟨(some 6), none, .q (.mv (.c (.int .i64 2)))⟩])
     .ret)
     (.seq (.reg [⟨(some 20), none, .q (.mv (.t 0))⟩,
        ⟨(some 21), none, .q (.mv (.t 1))⟩,
        ⟨(some 22), none, .c (.call 46 [(.t 20), (.t 21)])⟩,
        ⟨(some 23), none, .q (.len (.t 22))⟩,
        ⟨(some 24), none, .q (.bin .gtr (.t 23) (.c (.int .i64 8)))⟩,
        ⟨(some 19), none, .q (.mv (.t 24))⟩])
     (.cond (.t 19)
      (.seq (.reg [⟨(some 25), none, .q (.bld [(.v (.slice none 0 0))] [])⟩,
         ⟨none, none, .m (.st true 1 (.t 4) (.t 25))⟩,
         ⟨(some 5), none, .q (.mv (.c (.slice none 0 0)))⟩,
         ⟨(some 6), none, .q (.mv (.c (.int .i64 3)))⟩])
      .ret)
      .skip)))))
  (.seq (.reg [⟨(some 27), none, .q (.mv (.t 0))⟩,
     ⟨(some 28), none, .q (.mv (.t 1))⟩,
     ⟨(some 29), none, .c (.call 47 [(.t 27), (.t 28)])⟩,
     ⟨(some 26), none, .q (.mv (.t 29))⟩,
     ⟨(some 30), none, .q (.ext (.t 26) 0)⟩,
     ⟨(some 31), none, .q (.ext (.t 26) 1)⟩,
     ⟨(some 7), none, .m (.alloc [(.v (.slice none 0 0))])⟩,
     ⟨none, none, .m (.st true 1 (.t 7) (.t 30))⟩,
     ⟨(some 8), none, .q (.mv (.t 31))⟩])
  (.seq (.reg [⟨(some 32), none, .q (.ld true 1 (.t 7))⟩,
     ⟨(some 33), none, .q (.mv (.t 8))⟩,
     ⟨none, none, .m (.st true 1 (.t 4) (.t 32))⟩,
     ⟨(some 5), none, .q (.mv (.t 33))⟩,
     ⟨(some 6), none, .q (.mv (.c (.int .i64 0)))⟩])
  .ret))))⟩
theorem l_spec_HammingCode : lowF PA f_spec_HammingCode 2 [] = some c_spec_HammingCode := by kernel_rfl
abbrev f_laws_likeInts : FuncId := 16
def c_laws_likeInts : AF := ⟨2, 26, [.t 4],
  (.seq (.reg [⟨(some 4), none, .q (.mv (.c (.bool false)))⟩])
  (.seq (.seq (.reg [⟨(some 6), none, .q (.mv (.t 0))⟩,
      ⟨(some 7), none, .q (.len (.t 6))⟩,
      ⟨(some 8), none, .q (.mv (.t 1))⟩,
      ⟨(some 9), none, .q (.len (.t 8))⟩,
      ⟨(some 10), none, .q (.bin .neq (.t 7) (.t 9))⟩])
   (.cond (.t 10)
    (.seq (.reg [⟨(some 4), none, .q (.mv (.c (.bool false)))⟩])
    .ret)
    .skip))
  (.seq (.seq (.reg [⟨(some 5), none, .q (.mv (.c (.int .i64 0)))⟩])
   (.block 0 (.loop [0, 1, 5] (.seq (.seq (.reg [⟨(some 11), none, .q (.mv (.t 5))⟩,
         ⟨(some 12), none, .q (.mv (.t 0))⟩,
         ⟨(some 13), none, .q (.len (.t 12))⟩,
         ⟨(some 14), none, .q (.bin .lss (.t 11) (.t 13))⟩])
      (.cond (.t 14)
       .skip
       (.exit 0)))
     (.seq (.block 1 (.seq (.sch (.take 0 ⟨(some 17), none, .q (.mv (.t 0))⟩ (.take 1 ⟨(some 18), none, .q (.mv (.t 5))⟩ (.take 2 ⟨(some 19), none, .q (.ixs 1 (.t 17) (.t 18))⟩ (.take 3 ⟨(some 20), none, .q (.ld false 1 (.t 19))⟩ (.take 4 ⟨(some 21), none, .q (.mv (.t 1))⟩ (.take 5 ⟨(some 22), none, .q (.mv (.t 5))⟩ (.take 6 ⟨(some 23), none, .q (.ixs 1 (.t 21) (.t 22))⟩ (.take 7 ⟨(some 24), none, .q (.ld false 1 (.t 23))⟩ (.take 8 ⟨(some 25), none, .q (.bin .neq (.t 20) (.t 24))⟩ .done))))))))))
       (.cond (.t 25)
        (.seq (.reg [⟨(some 4), none, .q (.mv (.c (.bool false)))⟩])
        .ret)
        .skip)))
     (.reg [⟨(some 15), none, .q (.mv (.t 5))⟩,
       ⟨(some 16), none, .q (.bin .add (.t 15) (.c (.int .i64 1)))⟩,
       ⟨(some 5), none, .q (.mv (.t 16))⟩]))))))
  (.seq (.reg [⟨(some 4), none, .q (.mv (.c (.bool true)))⟩])
  .ret))))⟩
theorem l_laws_likeInts : lowF PA f_laws_likeInts 2 [.k [0, 1, 5], .s (.take 0 (.take 1 (.take 2 (.take 3 (.take 4 (.take 5 (.take 6 (.take 7 (.take 8 .done)))))))))] = some c_laws_likeInts := by kernel_rfl
abbrev f_impl_ColumnsFor : FuncId := 17
def c_impl_ColumnsFor : AF := ⟨2, 16, [.t 4, .t 5],
  (.seq (.reg [⟨(some 4), none, .q (.mv (.c (.slice none 0 0)))⟩,
     ⟨(some 5), none, .q (.mv (.c (.int .i64 0)))⟩])
  (.seq (.seq (.reg [⟨(some 7), none, .q (.mv (.t 0))⟩,
      ⟨(some 8), none, .q (.mv (.t 1))⟩,
      ⟨(some 9), none, .c (.call 41 [(.t 7), (.t 8), (.c (.int .i64 1))])⟩,
      ⟨(some 6), none, .q (.mv (.t 9))⟩])
   (.seq (.reg [⟨(some 10), none, .q (.mv (.t 6))⟩,
      ⟨(some 11), none, .q (.bin .neq (.t 10) (.c (.int .i64 0)))⟩])
   (.cond (.t 11)
    (.seq (.reg [⟨(some 12), none, .q (.mv (.t 6))⟩,
       ⟨(some 4), none, .q (.mv (.c (.slice none 0 0)))⟩,
       ⟨(some 5), none, .q (.mv (.t 12))⟩])
    .ret)
    .skip)))
  (.seq (.reg [⟨(some 13), none, .q (.mv (.t 0))⟩,
     ⟨(some 14), none, .q (.mv (.t 1))⟩,
     ⟨(some 15), none, .c (.call 42 [(.t 13), (.t 14)])⟩,
     ⟨(some 4), none, .q (.mv (.t 15))⟩,
     ⟨(some 5), none, .q (.mv (.c (.int .i64 0)))⟩])
  .ret)))⟩
theorem l_impl_ColumnsFor : lowF PA f_impl_ColumnsFor 2 [] = some c_impl_ColumnsFor := by kernel_rfl
abbrev f_spec_ColumnsFor : FuncId := 18
def c_spec_ColumnsFor : AF := ⟨2, 22, [.t 4, .t 5],
  (.seq (.reg [⟨(some 4), none, .q (.mv (.c (.slice none 0 0)))⟩,
     ⟨(some 5), none, .q (.mv (.c (.int .i64 0)))⟩])
  (.seq (.seq (.reg [⟨(some 7), none, .q (.mv (.t 0))⟩,
      ⟨(some 8), none, .c (.call 35 [(.t 7), (.c (.int .i64 2)), (.c (.int .i64 3))])⟩,
      ⟨(some 9), none, .q (.un .not (.t 8))⟩,
      ⟨(some 10), none, .q (.mv (.t 9))⟩,
      ⟨(some 11), (some (10, false)), .q (.mv (.t 1))⟩,
      ⟨(some 12), (some (10, false)), .c (.call 35 [(.t 11), (.c (.int .i64 1)), (.c (.int .i64 3))])⟩,
      ⟨(some 13), (some (10, false)), .q (.un .not (.t 12))⟩,
      ⟨(some 14), none, .q (.pick (.t 10) (.c (.bool true)) (.t 13))⟩])
   (.cond (.t 14)
    (.seq (.reg [⟨(some 4), none, .q (.mv (.c (.slice none 0 0)))⟩,
       ⟨(some 5), none, .q (.mv (.c (.int .i64 2)))⟩])
    .ret)
    .skip))
  (.seq (.reg [⟨(some 15), none, .q (.mv (.t 0))⟩,
     ⟨(some 16), none, .q (.mv (.t 1))⟩,
     ⟨(some 17), none, .c (.call 46 [(.t 15), (.t 16)])⟩,
     ⟨(some 6), none, .q (.mv (.t 17))⟩])
  (.seq (.seq (.reg [⟨(some 18), none, .q (.mv (.t 6))⟩,
      ⟨(some 19), none, .q (.len (.t 18))⟩,
      ⟨(some 20), none, .q (.bin .gtr (.t 19) (.c (.int .i64 8)))⟩])
   (.cond (.t 20)
    (.seq (.reg [⟨(some 4), none, .q (.mv (.c (.slice none 0 0)))⟩,
       ⟨(some 5), none, .q (.mv (.c (.int .i64 3)))⟩])
    .ret)
    .skip))
  (.seq (.reg [⟨(some 21), none, .q (.mv (.t 6))⟩,
     ⟨(some 4), none, .q (.mv (.t 21))⟩,
     ⟨(some 5), none, .q (.mv (.c (.int .i64 0)))⟩])
  .ret)))))⟩
theorem l_spec_ColumnsFor : lowF PA f_spec_ColumnsFor 2 [] = some c_spec_ColumnsFor := by kernel_rfl
abbrev f_laws_rows9 : FuncId := 19
def c_laws_rows9 : AF := ⟨2, 27, [.t 4],
  (.seq (.reg [⟨(some 4), none, .q (.mv (.c (.bool false)))⟩])
  (.seq (.seq (.reg [⟨(some 6), none, .q (.mv (.t 0))⟩,
      ⟨(some 7), none, .q (.len (.t 6))⟩,
      ⟨(some 8), none, .q (.mv (.t 1))⟩,
      ⟨(some 9), none, .q (.len (.t 8))⟩,
      ⟨(some 10), none, .q (.bin .neq (.t 7) (.t 9))⟩])
   (.cond (.t 10)
    (.seq (.reg [⟨(some 4), none, .q (.mv (.c (.bool false)))⟩])
    .ret)
    .skip))
  (.seq (.seq (.reg [⟨(some 5), none, .q (.mv (.c (.int .i64 0)))⟩])
   (.block 0 (.loop [0, 1, 5] (.seq (.seq (.reg [⟨(some 11), none, .q (.mv (.t 5))⟩,
         ⟨(some 12), none, .q (.mv (.t 0))⟩,
         ⟨(some 13), none, .q (.len (.t 12))⟩,
         ⟨(some 14), none, .q (.bin .lss (.t 11) (.t 13))⟩])
      (.cond (.t 14)
       .skip
       (.exit 0)))
     (.seq (.block 1 (.seq (.sch (.take 0 ⟨(some 17), none, .q (.mv (.t 0))⟩ (.take 1 ⟨(some 18), none, .q (.mv (.t 5))⟩ (.take 2 ⟨(some 19), none, .q (.ixs 1 (.t 17) (.t 18))⟩ (.take 3 ⟨(some 20), none, .q (.ld false 1 (.t 19))⟩ (.take 4 ⟨(some 21), none, .q (.mv (.t 1))⟩ (.take 5 ⟨(some 22), none, .q (.mv (.t 5))⟩ (.take 6 ⟨(some 23), none, .q (.ixs 1 (.t 21) (.t 22))⟩ (.take 7 ⟨(some 24), none, .q (.ld false 1 (.t 23))⟩ (.one ⟨(some 25), none, .c (.call 16 [(.t 20), (.t 24)])⟩ [7, 3] (.take 9 ⟨(some 26), none, .q (.un .not (.t 25))⟩ .done)))))))))))
       (.cond (.t 26)
        (.seq (.reg [⟨(some 4), none, .q (.mv (.c (.bool false)))⟩])
        .ret)
        .skip)))
     (.reg [⟨(some 15), none, .q (.mv (.t 5))⟩,
       ⟨(some 16), none, .q (.bin .add (.t 15) (.c (.int .i64 1)))⟩,
       ⟨(some 5), none, .q (.mv (.t 16))⟩]))))))
  (.seq (.reg [⟨(some 4), none, .q (.mv (.c (.bool true)))⟩])
  .ret))))⟩
theorem l_laws_rows9 : lowF PA f_laws_rows9 2 [.k [0, 1, 5], .s (.take 0 (.take 1 (.take 2 (.take 3 (.take 4 (.take 5 (.take 6 (.take 7 (.one 8 (.take 9 .done))))))))))] = some c_laws_rows9 := by kernel_rfl
abbrev f_impl_ExcessOf : FuncId := 20
def c_impl_ExcessOf : AF := ⟨3, 36, [.t 6, .t 7],
  (.seq (.reg [⟨(some 3), none, .m (.box (.t 0))⟩,
     ⟨(some 6), none, .q (.mv (.c (.int .i64 0)))⟩,
     ⟨(some 7), none, .q (.mv (.c (.int .i64 0)))⟩])
  (.seq (.seq (.reg [⟨(some 12), none, .q (.ld true 1 (.t 3))⟩,
      ⟨(some 13), none, .q (.mv (.t 1))⟩,
      ⟨(some 14), none, .q (.mv (.t 2))⟩,
      ⟨(some 15), none, .c (.call 38 [(.t 12), (.t 13), (.t 14)])⟩,
      ⟨(some 8), none, .q (.mv (.t 15))⟩])
   (.seq (.reg [⟨(some 16), none, .q (.mv (.t 8))⟩,
      ⟨(some 17), none, .q (.bin .neq (.t 16) (.c (.int .i64 0)))⟩])
   (.cond (.t 17)
    (.seq (.reg [⟨(some 18), none, .q (.mv (.t 8))⟩,
       ⟨(some 6), none, .q (.mv (.c (.int .i64 0)))⟩,
       ⟨(some 7), none, .q (.mv (.t 18))⟩])
    .ret)
    .skip)))
  (.seq (.reg [⟨(some 9), none, .q (.mv (.c (.int .i64 0)))⟩])
  (.seq (.seq (.reg [⟨(some 19), none, .q (.ld true 1 (.t 3))⟩,
      ⟨(some 20), none, .q (.mv (.t 1))⟩,
      ⟨(some 21), none, .q (.mv (.t 2))⟩,
      ⟨(some 22), none, .c (.call 48 [(.t 19), (.t 20), (.t 21)])⟩,
      ⟨(some 23), none, .q (.len (.t 22))⟩,
      ⟨(some 24), none, .q (.mv (.c (.int .i64 0)))⟩])
   (.block 0 (.loop [9, 22, 23, 24] (.seq (.reg [⟨(some 25), none, .q (.bin .lss (.t 24) (.t 23))⟩])
     (.seq (.cond (.t 25)
       .skip
       (.exit 0))
     (.seq (.block 1 (.seq (.reg [⟨(some 26), none, .q (.ixs 1 (.t 22) (.t 24))⟩,
          ⟨(some 27), none, .q (.ld false 1 (.t 26))⟩,
          ⟨(some 11), none, .q (.mv (.t 27))⟩])
       (.seq (.seq (.reg [⟨(some 28), none, .q (.mv (.t 11))⟩,
           ⟨(some 29), none, .q (.bin .eql (.t 28) (.c (.int .i64 0)))⟩])
        (.cond (.t 29)
         (.seq (.reg [⟨(some 6), none, .q (.mv (.c (.int .i64 0)))⟩,
            ⟨(some 7), none, .q (.mv (.c (.int .i64 5)))⟩])
         .ret)
         .skip))
       (.reg [⟨(some 30), none, .q (.mv (.t 9))⟩,
         ⟨(some 31), none, .q (.mv (.t 11))⟩,
         ⟨(some 32), none, .q (.bin .sub (.t 31) (.c (.int .i64 1)))⟩,
         ⟨(some 33), none, .q (.bin .add (.t 30) (.t 32))⟩,
         ⟨(some 9), none, .q (.mv (.t 33))⟩]))))
     (.reg [⟨(some 34), none, .q (.bin .add (.t 24) (.c (.int .i64 1)))⟩,
       ⟨(some 24), none, .q (.mv (.t 34))⟩])))))))
  (.seq (.reg [⟨(some 35), none, .q (.mv (.t 9))⟩,
     ⟨(some 6), none, .q (.mv (.t 35))⟩,
     ⟨(some 7), none, .q (.mv (.c (.int .i64 0)))⟩])
  .ret)))))⟩
theorem l_impl_ExcessOf : lowF PA f_impl_ExcessOf 3 [.k [9, 22, 23, 24]] = some c_impl_ExcessOf := by kernel_rfl
abbrev f_impl_DistanceOf : FuncId := 21
def c_impl_DistanceOf : AF := ⟨3, 21, [.t 6, .t 7],
  (.seq (.reg [⟨(some 3), none, .m (.box (.t 0))⟩,
     ⟨(some 6), none, .q (.mv (.c (.int .i64 0)))⟩,
     ⟨(some 7), none, .q (.mv (.c (.int .i64 0)))⟩])
  (.seq (.seq (.reg [⟨(some 9), none, .q (.ld true 1 (.t 3))⟩,
      ⟨(some 10), none, .q (.mv (.t 1))⟩,
      ⟨(some 11), none, .q (.mv (.t 2))⟩,
      ⟨(some 12), none, .m (.bsl 1 [(.t 10), (.t 11)])⟩,
      ⟨(some 13), none, .c (.call 49 [(.t 9), (.t 12)])⟩,
      ⟨(some 8), none, .q (.mv (.t 13))⟩])
   (.seq (.reg [⟨(some 14), none, .q (.mv (.t 8))⟩,
      ⟨(some 15), none, .q (.bin .neq (.t 14) (.c (.int .i64 0)))⟩])
   (.cond (.t 15)
    (.seq (.reg [⟨(some 16), none, .q (.mv (.t 8))⟩,
       ⟨(some 6), none, .q (.mv (.c (.int .i64 0)))⟩,
       ⟨(some 7), none, .q (.mv (.t 16))⟩])
    .ret)
    .skip)))
  (.seq (.reg [⟨(some 17), none, .q (.ld true 1 (.t 3))⟩,
     ⟨(some 18), none, .q (.mv (.t 1))⟩,
     ⟨(some 19), none, .q (.mv (.t 2))⟩,
     ⟨(some 20), none, .c (.call 33 [(.t 17), (.t 18), (.t 19)])⟩,
     ⟨(some 6), none, .q (.mv (.t 20))⟩,
     ⟨(some 7), none, .q (.mv (.c (.int .i64 0)))⟩])
  .ret)))⟩
theorem l_impl_DistanceOf : lowF PA f_impl_DistanceOf 3 [] = some c_impl_DistanceOf := by kernel_rfl
abbrev f_laws_hasInt : FuncId := 22
def c_laws_hasInt : AF := ⟨2, 18, [.t 4],
  (.seq (.reg [⟨(some 4), none, .q (.mv (.c (.bool false)))⟩])
  (.seq (.seq (.reg [⟨(some 5), none, .q (.mv (.c (.int .i64 0)))⟩])
   (.block 0 (.loop [0, 1, 5] (.seq (.seq (.reg [⟨(some 6), none, .q (.mv (.t 5))⟩,
         ⟨(some 7), none, .q (.mv (.t 0))⟩,
         ⟨(some 8), none, .q (.len (.t 7))⟩,
         ⟨(some 9), none, .q (.bin .lss (.t 6) (.t 8))⟩])
      (.cond (.t 9)
       .skip
       (.exit 0)))
     (.seq (.block 1 (.seq (.reg [⟨(some 12), none, .q (.mv (.t 0))⟩,
          ⟨(some 13), none, .q (.mv (.t 5))⟩,
          ⟨(some 14), none, .q (.ixs 1 (.t 12) (.t 13))⟩,
          ⟨(some 15), none, .q (.ld false 1 (.t 14))⟩,
          ⟨(some 16), none, .q (.mv (.t 1))⟩,
          ⟨(some 17), none, .q (.bin .eql (.t 15) (.t 16))⟩])
       (.cond (.t 17)
        (.seq (.reg [⟨(some 4), none, .q (.mv (.c (.bool true)))⟩])
        .ret)
        .skip)))
     (.reg [⟨(some 10), none, .q (.mv (.t 5))⟩,
       ⟨(some 11), none, .q (.bin .add (.t 10) (.c (.int .i64 1)))⟩,
       ⟨(some 5), none, .q (.mv (.t 11))⟩]))))))
  (.seq (.reg [⟨(some 4), none, .q (.mv (.c (.bool false)))⟩])
  .ret)))⟩
theorem l_laws_hasInt : lowF PA f_laws_hasInt 2 [.k [0, 1, 5]] = some c_laws_hasInt := by kernel_rfl
abbrev f_spec_l01From : FuncId := 23
def c_spec_l01From : AF := ⟨1, 38, [.t 2],
  (.seq (.reg [⟨(some 2), none, .q (.mv (.c (.pointer none)))⟩])
  (.seq (.reg [⟨(some 5), none, .q (.mv (.t 0))⟩,
     ⟨(some 6), none, .q (.mv (.t 0))⟩,
     ⟨(some 7), none, .q (.len (.t 6))⟩,
     ⟨(some 8), none, .q (.cvt .u64 (.t 7))⟩,
     ⟨(some 9), none, .q (.bin .add (.c (.int .u64 14111)) (.t 8))⟩,
     ⟨(some 10), none, .q (.bld [(.v (.slice none 0 0)), (.v (.int .i64 0)), (.v (.int .u64 0))] [(0, (.t 5)), (2, (.t 9))])⟩,
     ⟨(some 11), none, .m (.box (.t 10))⟩,
     ⟨(some 3), none, .q (.mv (.t 11))⟩])
  (.seq (.seq (.reg [⟨(some 4), none, .q (.mv (.c (.int .i64 0)))⟩])
   (.block 0 (.loop [0, 3, 4] (.seq (.seq (.reg [⟨(some 12), none, .q (.mv (.t 4))⟩,
         ⟨(some 13), none, .q (.mv (.t 0))⟩,
         ⟨(some 14), none, .q (.len (.t 13))⟩,
         ⟨(some 15), none, .q (.bin .lss (.t 12) (.t 14))⟩,
         ⟨(some 16), none, .q (.mv (.t 15))⟩,
         ⟨(some 17), (some (16, true)), .q (.mv (.t 4))⟩,
         ⟨(some 18), (some (16, true)), .q (.bin .lss (.t 17) (.c (.int .i64 4096)))⟩,
         ⟨(some 19), none, .q (.pick (.t 16) (.t 18) (.c (.bool false)))⟩])
      (.cond (.t 19)
       .skip
       (.exit 0)))
     (.seq (.block 1 (.sch (.take 0 ⟨(some 22), none, .q (.mv (.t 3))⟩ (.take 1 ⟨(some 23), none, .q (.mv (.t 3))⟩ (.take 2 ⟨(some 24), none, .q (.nlc (.t 23))⟩ (.take 3 ⟨(some 25), none, .q (.fad 2 (.t 24))⟩ (.take 4 ⟨(some 26), none, .q (.ld false 1 (.t 25))⟩ (.take 5 ⟨(some 27), none, .q (.bin .mul (.t 26) (.c (.int .u64 1099511628211)))⟩ (.take 6 ⟨(some 28), none, .q (.mv (.t 0))⟩ (.take 7 ⟨(some 29), none, .q (.mv (.t 4))⟩ (.take 8 ⟨(some 30), none, .q (.ixs 1 (.t 28) (.t 29))⟩ (.take 9 ⟨(some 31), none, .q (.ld false 1 (.t 30))⟩ (.take 10 ⟨(some 32), none, .q (.cvt .u64 (.t 31))⟩ (.take 11 ⟨(some 33), none, .q (.bin .add (.t 27) (.t 32))⟩ (.take 12 ⟨(some 34), none, .q (.bin .add (.t 33) (.c (.int .u64 251)))⟩ (.take 13 ⟨(some 35), none, .q (.nlc (.t 22))⟩ (.take 14 ⟨(some 36), none, .q (.fad 2 (.t 35))⟩ (.one ⟨none, none, .m (.st false 1 (.t 36) (.t 34))⟩ [9, 4] .done))))))))))))))))))
     (.reg [⟨(some 20), none, .q (.mv (.t 4))⟩,
       ⟨(some 21), none, .q (.bin .add (.t 20) (.c (.int .i64 1)))⟩,
       ⟨(some 4), none, .q (.mv (.t 21))⟩]))))))
  (.seq (.reg [⟨(some 37), none, .q (.mv (.t 3))⟩,
     ⟨(some 2), none, .q (.mv (.t 37))⟩])
  .ret))))⟩
theorem l_spec_l01From : lowF PA f_spec_l01From 1 [.k [0, 3, 4], .s (.take 0 (.take 1 (.take 2 (.take 3 (.take 4 (.take 5 (.take 6 (.take 7 (.take 8 (.take 9 (.take 10 (.take 11 (.take 12 (.take 13 (.take 14 (.one 15 .done))))))))))))))))] = some c_spec_l01From := by kernel_rfl
abbrev f_spec_l06With : FuncId := 24
def c_spec_l06With : AF := ⟨1, 48, [.c 2 true 1, .t 3, .t 4],
  (.seq (.reg [⟨(some 2), none, .m (.alloc [(.v (.slice none 0 0))])⟩,
     ⟨(some 3), none, .q (.mv (.c (.slice none 0 0)))⟩,
     ⟨(some 4), none, .q (.mv (.c (.int .i64 0)))⟩])
  (.seq (.reg [⟨(some 9), none, .q (.mv (.t 0))⟩,
     ⟨(some 10), none, .c (.call 23 [(.t 9)])⟩,
     ⟨(some 5), none, .q (.mv (.t 10))⟩])
  (.seq (.reg [⟨(some 12), none, .q (.mv (.t 5))⟩,
     ⟨(some 13), none, .c (.call 50 [(.t 12)])⟩,
     ⟨(some 11), none, .q (.mv (.t 13))⟩,
     ⟨(some 14), none, .q (.ext (.t 11) 0)⟩,
     ⟨(some 15), none, .q (.ext (.t 11) 1)⟩,
     ⟨(some 16), none, .q (.ext (.t 11) 2)⟩,
     ⟨(some 6), none, .m (.alloc [(.v (.slice none 0 0))])⟩,
     ⟨none, none, .m (.st true 1 (.t 6) (.t 14))⟩,
     ⟨(some 7), none, .q (.mv (.t 15))⟩,
     ⟨(some 8), none, .q (.mv (.t 16))⟩])
  (.seq (.seq (.reg [⟨(some 17), none, .q (.mv (.t 5))⟩,
      ⟨(some 18), none, .c (.call 51 [(.t 17), (.c (.int .i64 2))])⟩,
      ⟨(some 19), none, .q (.bin .eql (.t 18) (.c (.int .i64 0)))⟩])
   (.cond (.t 19)
    (.sch (.take 0 ⟨(some 20), none, .q (.ld true 1 (.t 6))⟩ (.take 1 ⟨(some 21), none, .q (.mv (.t 7))⟩ (.take 2 ⟨(some 22), none, .q (.mv (.t 5))⟩ (.take 3 ⟨(some 23), none, .q (.ld true 1 (.t 6))⟩ (.one ⟨(some 24), none, .c (.call 26 [(.t 23)])⟩ [3] (.one ⟨(some 25), none, .c (.call 51 [(.t 22), (.t 24)])⟩ [] (.one ⟨(some 26), none, .c (.call 52 [(.t 20), (.t 21), (.t 25)])⟩ [0] (.take 7 ⟨(some 7), none, .q (.mv (.t 26))⟩ .done)))))))))
    .skip))
  (.seq (.seq (.reg [⟨(some 27), none, .q (.mv (.t 5))⟩,
      ⟨(some 28), none, .c (.call 51 [(.t 27), (.c (.int .i64 8))])⟩])
   (.block 0 (.seq (.reg [⟨(some 30), none, .q (.bin .eql (.t 28) (.c (.int .i64 0)))⟩,
       ⟨(some 29), none, .q (.mv (.t 30))⟩])
    (.cond (.t 29)
     (.reg [⟨(some 31), none, .q (.mv (.t 5))⟩,
       ⟨(some 32), none, .c (.call 27 [(.t 31), (.c (.int .i64 8))])⟩,
       ⟨(some 8), none, .q (.mv (.t 32))⟩])
     (.seq (.reg [⟨(some 34), none, .q (.bin .eql (.t 28) (.c (.int .i64 1)))⟩,
        ⟨(some 33), none, .q (.mv (.t 34))⟩])
     (.cond (.t 33)
      (.seq (.reg [⟨(some 35), none, .q (.mv (.t 5))⟩,
         ⟨(some 36), none, .c (.call 53 [(.t 35)])⟩,
         ⟨none, none, .m (.st true 1 (.t 6) (.t 36))⟩])
      (.reg [⟨(some 37), none, .q (.mv (.t 5))⟩,
        ⟨(some 38), none, .q (.ld true 1 (.t 6))⟩,
        ⟨(some 39), none, .c (.call 54 [(.t 37), (.t 38)])⟩,
        ⟨(some 7), none, .q (.mv (.t 39))⟩]))
      .skip))))))
  (.seq (.sch (.take 0 ⟨(some 40), none, .q (.mv (.t 5))⟩ (.take 1 ⟨(some 41), none, .q (.ld true 1 (.t 6))⟩ (.take 3 ⟨(some 43), none, .q (.mv (.t 5))⟩ (.take 4 ⟨(some 44), none, .q (.ld true 1 (.t 6))⟩ (.take 5 ⟨(some 45), none, .q (.mv (.t 7))⟩ (.take 7 ⟨(some 47), none, .q (.mv (.t 8))⟩ (.one ⟨(some 42), none, .c (.call 55 [(.t 40), (.t 41)])⟩ [1] (.one ⟨(some 46), none, .c (.call 56 [(.t 43), (.t 44), (.t 45)])⟩ [4] (.one ⟨none, none, .m (.st true 1 (.t 2) (.t 42))⟩ [1] (.take 9 ⟨(some 3), none, .q (.mv (.t 46))⟩ (.take 10 ⟨(some 4), none, .q (.mv (.t 47))⟩ .done))))))))))))
  .ret))))))⟩
theorem l_spec_l06With : lowF PA f_spec_l06With 1 [.s (.take 0 (.take 1 (.take 2 (.take 3 (.one 4 (.one 5 (.one 6 (.take 7 .done)))))))), .s (.take 0 (.take 1 (.take 3 (.take 4 (.take 5 (.take 7 (.one 2 (.one 6 (.one 8 (.take 9 (.take 10 .done)))))))))))] = some c_spec_l06With := by kernel_rfl
abbrev f_spec_l01Is : FuncId := 25
def c_spec_l01Is : AF := ⟨1, 26, [.t 2],
  (.seq (.reg [⟨(some 1), none, .m (.box (.t 0))⟩,
     ⟨(some 2), none, .q (.mv (.c (.bool false)))⟩])
  (.seq (.seq (.reg [⟨(some 4), none, .q (.fad 0 (.t 1))⟩,
      ⟨(some 5), none, .q (.ld false 1 (.t 4))⟩,
      ⟨(some 6), none, .q (.len (.t 5))⟩,
      ⟨(some 7), none, .c (.call 35 [(.t 6), (.c (.int .i64 1)), (.c (.int .i64 8))])⟩,
      ⟨(some 8), none, .q (.un .not (.t 7))⟩])
   (.cond (.t 8)
    (.seq (.reg [⟨(some 2), none, .q (.mv (.c (.bool false)))⟩])
    .ret)
    .skip))
  (.seq (.seq (.reg [⟨(some 3), none, .q (.mv (.c (.int .i64 0)))⟩])
   (.block 0 (.loop [1, 3] (.seq (.seq (.reg [⟨(some 9), none, .q (.mv (.t 3))⟩,
         ⟨(some 10), none, .q (.fad 0 (.t 1))⟩,
         ⟨(some 11), none, .q (.ld false 1 (.t 10))⟩,
         ⟨(some 12), none, .q (.len (.t 11))⟩,
         ⟨(some 13), none, .q (.bin .lss (.t 9) (.t 12))⟩])
      (.cond (.t 13)
       .skip
       (.exit 0)))
     (.seq (.block 1 (.seq (.reg [⟨(some 16), none, .q (.fad 0 (.t 1))⟩,
          ⟨(some 17), none, .q (.ld false 1 (.t 16))⟩,
          ⟨(some 18), none, .q (.mv (.t 3))⟩,
          ⟨(some 19), none, .q (.ixs 1 (.t 17) (.t 18))⟩,
          ⟨(some 20), none, .q (.ld false 1 (.t 19))⟩,
          ⟨(some 21), none, .c (.call 35 [(.t 20), (.c (.int .i64 2)), (.c (.int .i64 4))])⟩,
          ⟨(some 22), none, .q (.un .not (.t 21))⟩])
       (.cond (.t 22)
        (.seq (.reg [⟨(some 2), none, .q (.mv (.c (.bool false)))⟩])
        .ret)
        .skip)))
     (.reg [⟨(some 14), none, .q (.mv (.t 3))⟩,
       ⟨(some 15), none, .q (.bin .add (.t 14) (.c (.int .i64 1)))⟩,
       ⟨(some 3), none, .q (.mv (.t 15))⟩]))))))
  (.seq (.reg [⟨(some 23), none, .q (.ld true 1 (.t 1))⟩,
     ⟨(some 24), none, .c (.call 26 [(.t 23)])⟩,
     ⟨(some 25), none, .q (.bin .leq (.t 24) (.c (.int .i64 1024)))⟩,
     ⟨(some 2), none, .q (.mv (.t 25))⟩])
  .ret))))⟩
theorem l_spec_l01Is : lowF PA f_spec_l01Is 1 [.k [1, 3]] = some c_spec_l01Is := by kernel_rfl
abbrev f_spec_l01N : FuncId := 26
def c_spec_l01N : AF := ⟨1, 20, [.t 2],
  (.seq (.reg [⟨(some 1), none, .m (.box (.t 0))⟩,
     ⟨(some 2), none, .q (.mv (.c (.int .i64 0)))⟩])
  (.seq (.reg [⟨(some 3), none, .q (.mv (.c (.int .i64 1)))⟩])
  (.seq (.seq (.reg [⟨(some 4), none, .q (.mv (.c (.int .i64 0)))⟩])
   (.block 0 (.loop [1, 3, 4] (.seq (.seq (.reg [⟨(some 5), none, .q (.mv (.t 4))⟩,
         ⟨(some 6), none, .q (.fad 0 (.t 1))⟩,
         ⟨(some 7), none, .q (.ld false 1 (.t 6))⟩,
         ⟨(some 8), none, .q (.len (.t 7))⟩,
         ⟨(some 9), none, .q (.bin .lss (.t 5) (.t 8))⟩])
      (.cond (.t 9)
       .skip
       (.exit 0)))
     (.seq (.block 1 (.reg [⟨(some 12), none, .q (.mv (.t 3))⟩,
         ⟨(some 13), none, .q (.fad 0 (.t 1))⟩,
         ⟨(some 14), none, .q (.ld false 1 (.t 13))⟩,
         ⟨(some 15), none, .q (.mv (.t 4))⟩,
         ⟨(some 16), none, .q (.ixs 1 (.t 14) (.t 15))⟩,
         ⟨(some 17), none, .q (.ld false 1 (.t 16))⟩,
         ⟨(some 18), none, .q (.bin .mul (.t 12) (.t 17))⟩,
         ⟨(some 3), none, .q (.mv (.t 18))⟩]))
     (.reg [⟨(some 10), none, .q (.mv (.t 4))⟩,
       ⟨(some 11), none, .q (.bin .add (.t 10) (.c (.int .i64 1)))⟩,
       ⟨(some 4), none, .q (.mv (.t 11))⟩]))))))
  (.seq (.reg [⟨(some 19), none, .q (.mv (.t 3))⟩,
     ⟨(some 2), none, .q (.mv (.t 19))⟩])
  .ret))))⟩
theorem l_spec_l01N : lowF PA f_spec_l01N 1 [.k [1, 3, 4]] = some c_spec_l01N := by kernel_rfl
abbrev f_spec_l01Near : FuncId := 27
def c_spec_l01Near : AF := ⟨2, 17, [.t 4],
  (.seq (.reg [⟨(some 4), none, .q (.mv (.c (.int .i64 0)))⟩])
  (.seq (.seq (.reg [⟨(some 5), none, .q (.mv (.t 0))⟩,
      ⟨(some 6), none, .c (.call 51 [(.t 5), (.c (.int .i64 14))])⟩,
      ⟨(some 7), none, .q (.bin .eql (.t 6) (.c (.int .i64 0)))⟩])
   (.cond (.t 7)
    (.seq (.reg [⟨(some 8), none, .q (.mv (.t 0))⟩,
       ⟨(some 9), none, .q (.mv (.t 1))⟩,
       ⟨(some 10), none, .q (.bin .add (.t 9) (.c (.int .i64 1)))⟩,
       ⟨(some 11), none, .m (.bsl 1 [(.c (.int .i64 (-1))), (.t 10), (.c (.int .i64 1099511627776)), (.c (.int .i64 (-4611686018427387904)))])⟩,
       ⟨(some 12), none, .c (.call 57 [(.t 8), (.t 11)])⟩,
       ⟨(some 4), none, .q (.mv (.t 12))⟩])
    .ret)
    .skip))
  (.seq (.reg [⟨(some 13), none, .q (.mv (.t 0))⟩,
     ⟨(some 14), none, .q (.mv (.t 1))⟩,
     ⟨(some 15), none, .q (.bin .add (.t 14) (.c (.int .i64 1)))⟩,
     ⟨(some 16), none, .c (.call 51 [(.t 13), (.t 15)])⟩,
     ⟨(some 4), none, .q (.mv (.t 16))⟩])
  .ret)))⟩
theorem l_spec_l01Near : lowF PA f_spec_l01Near 2 [] = some c_spec_l01Near := by kernel_rfl
abbrev f_impl_codeCode : FuncId := 28
def c_impl_codeCode : AF := ⟨3, 18, [.t 6],
  (.seq (.reg [⟨(some 3), none, .m (.box (.t 0))⟩,
     ⟨(some 6), none, .q (.mv (.c (.int .i64 0)))⟩])
  (.seq (.seq (.reg [⟨(some 8), none, .q (.ld true 1 (.t 3))⟩,
      ⟨(some 9), none, .q (.mv (.t 2))⟩,
      ⟨(some 10), none, .c (.call 49 [(.t 8), (.t 9)])⟩,
      ⟨(some 7), none, .q (.mv (.t 10))⟩])
   (.seq (.reg [⟨(some 11), none, .q (.mv (.t 7))⟩,
      ⟨(some 12), none, .q (.bin .neq (.t 11) (.c (.int .i64 0)))⟩])
   (.cond (.t 12)
    (.seq (.reg [⟨(some 13), none, .q (.mv (.t 7))⟩,
       ⟨(some 6), none, .q (.mv (.t 13))⟩])
    .ret)
    .skip)))
  (.seq (.seq (.reg [⟨(some 14), none, .q (.ld true 1 (.t 3))⟩,
      ⟨(some 15), none, .q (.mv (.t 1))⟩,
      ⟨(some 16), none, .c (.call 58 [(.t 14), (.t 15)])⟩,
      ⟨(some 17), none, .q (.un .not (.t 16))⟩])
   (.cond (.t 17)
    (.seq (.reg [⟨(some 6), none, .q (.mv (.c (.int .i64 2)))⟩])
    .ret)
    .skip))
  (.seq (.reg [⟨(some 6), none, .q (.mv (.c (.int .i64 0)))⟩])
  .ret))))⟩
theorem l_impl_codeCode : lowF PA f_impl_codeCode 3 [] = some c_impl_codeCode := by kernel_rfl
abbrev f_impl_isRadius : FuncId := 29
def c_impl_isRadius : AF := ⟨1, 9, [.t 2],
  (.seq (.reg [⟨(some 2), none, .q (.mv (.c (.bool false)))⟩])
  (.seq (.reg [⟨(some 3), none, .q (.mv (.t 0))⟩,
     ⟨(some 4), none, .q (.bin .geq (.t 3) (.c (.int .i64 0)))⟩,
     ⟨(some 5), none, .q (.mv (.t 4))⟩,
     ⟨(some 6), (some (5, true)), .q (.mv (.t 0))⟩,
     ⟨(some 7), (some (5, true)), .q (.bin .leq (.t 6) (.c (.int .i64 8)))⟩,
     ⟨(some 8), none, .q (.pick (.t 5) (.t 7) (.c (.bool false)))⟩,
     ⟨(some 2), none, .q (.mv (.t 8))⟩])
  .ret))⟩
theorem l_impl_isRadius : lowF PA f_impl_isRadius 1 [] = some c_impl_isRadius := by kernel_rfl
abbrev f_impl_isPerfect : FuncId := 30
def c_impl_isPerfect : AF := ⟨3, 13, [.t 6],
  (.seq (.reg [⟨(some 3), none, .m (.box (.t 0))⟩,
     ⟨(some 6), none, .q (.mv (.c (.bool false)))⟩])
  (.seq (.reg [⟨(some 7), none, .q (.ld true 1 (.t 3))⟩,
     ⟨(some 8), none, .q (.mv (.t 1))⟩,
     ⟨(some 9), none, .q (.mv (.t 2))⟩,
     ⟨(some 10), none, .c (.call 48 [(.t 7), (.t 8), (.t 9)])⟩,
     ⟨(some 11), none, .c (.call 59 [(.t 10), (.f 60)])⟩,
     ⟨(some 12), none, .q (.un .not (.t 11))⟩,
     ⟨(some 6), none, .q (.mv (.t 12))⟩])
  .ret))⟩
theorem l_impl_isPerfect : lowF PA f_impl_isPerfect 3 [] = some c_impl_isPerfect := by kernel_rfl
abbrev f_slices_IndexFunc___int64_int64_ : FuncId := 31
def c_slices_IndexFunc___int64_int64_ : AF := ⟨2, 19, [.t 4],
  (.seq (.reg [⟨(some 4), none, .q (.mv (.c (.int .i64 0)))⟩])
  (.seq (.seq (.reg [⟨(some 6), none, .q (.mv (.t 0))⟩,
      ⟨(some 7), none, .q (.len (.t 6))⟩,
      ⟨(some 8), none, .q (.mv (.c (.int .i64 0)))⟩])
   (.block 0 (.loop [0, 1, 7, 8] (.seq (.reg [⟨(some 9), none, .q (.bin .lss (.t 8) (.t 7))⟩])
     (.seq (.cond (.t 9)
       .skip
       (.exit 0))
     (.seq (.block 1 (.seq (.reg [⟨(some 10), none, .q (.mv (.t 8))⟩,
          ⟨(some 5), none, .q (.mv (.t 10))⟩])
       (.seq (.reg [⟨(some 11), none, .q (.mv (.t 1))⟩,
          ⟨(some 12), none, .q (.mv (.t 0))⟩,
          ⟨(some 13), none, .q (.mv (.t 5))⟩,
          ⟨(some 14), none, .q (.ixs 1 (.t 12) (.t 13))⟩,
          ⟨(some 15), none, .q (.ld false 1 (.t 14))⟩,
          ⟨(some 16), none, .c (.cav (.t 11) [(.t 15)])⟩])
       (.cond (.t 16)
        (.seq (.reg [⟨(some 17), none, .q (.mv (.t 5))⟩,
           ⟨(some 4), none, .q (.mv (.t 17))⟩])
        .ret)
        .skip))))
     (.reg [⟨(some 18), none, .q (.bin .add (.t 8) (.c (.int .i64 1)))⟩,
       ⟨(some 8), none, .q (.mv (.t 18))⟩])))))))
  (.seq (.reg [⟨(some 4), none, .q (.mv (.c (.int .i64 (-1))))⟩])
  .ret)))⟩
theorem l_slices_IndexFunc___int64_int64_ : lowF PA f_slices_IndexFunc___int64_int64_ 2 [.k [0, 1, 7, 8]] = some c_slices_IndexFunc___int64_int64_ := by kernel_rfl
abbrev f_impl_DecodeWord_1 : FuncId := 32
def c_impl_DecodeWord_1 : AF := ⟨4, 12, [.t 5],
  (.seq (.reg [⟨(some 5), none, .q (.mv (.c (.bool false)))⟩])
  (.seq (.sch (.take 0 ⟨(some 6), none, .q (.ld true 1 (.t 1))⟩ (.take 1 ⟨(some 7), none, .q (.mv (.t 0))⟩ (.take 2 ⟨(some 8), none, .q (.ld false 1 (.t 2))⟩ (.take 4 ⟨(some 10), none, .q (.ld false 1 (.t 3))⟩ (.one ⟨(some 9), none, .c (.call 33 [(.t 6), (.t 7), (.t 8)])⟩ [2, 0] (.take 5 ⟨(some 11), none, .q (.bin .leq (.t 9) (.t 10))⟩ (.take 6 ⟨(some 5), none, .q (.mv (.t 11))⟩ .done))))))))
  .ret))⟩
theorem l_impl_DecodeWord_1 : lowF PA f_impl_DecodeWord_1 4 [.s (.take 0 (.take 1 (.take 2 (.take 4 (.one 3 (.take 5 (.take 6 .done)))))))] = some c_impl_DecodeWord_1 := by kernel_rfl
abbrev f_impl_distance : FuncId := 33
def c_impl_distance : AF := ⟨3, 14, [.t 6],
  (.seq (.reg [⟨(some 3), none, .m (.box (.t 0))⟩,
     ⟨(some 6), none, .q (.mv (.c (.int .i64 0)))⟩])
  (.seq (.sch (.take 0 ⟨(some 7), none, .q (.ld true 1 (.t 3))⟩ (.take 1 ⟨(some 8), none, .q (.mv (.t 1))⟩ (.take 3 ⟨(some 10), none, .q (.ld true 1 (.t 3))⟩ (.take 4 ⟨(some 11), none, .q (.mv (.t 2))⟩ (.one ⟨(some 9), none, .c (.call 62 [(.t 7), (.t 8)])⟩ [0] (.one ⟨(some 12), none, .c (.call 62 [(.t 10), (.t 11)])⟩ [3] (.one ⟨(some 13), none, .c (.call 61 [(.t 9), (.t 12)])⟩ [] (.take 7 ⟨(some 6), none, .q (.mv (.t 13))⟩ .done)))))))))
  .ret))⟩
theorem l_impl_distance : lowF PA f_impl_distance 3 [.s (.take 0 (.take 1 (.take 3 (.take 4 (.one 2 (.one 5 (.one 6 (.take 7 .done))))))))] = some c_impl_distance := by kernel_rfl
abbrev f_spec_l02Code : FuncId := 34
def c_spec_l02Code : AF := ⟨3, 19, [.t 6],
  (.seq (.reg [⟨(some 3), none, .m (.box (.t 0))⟩,
     ⟨(some 6), none, .q (.mv (.c (.int .i64 0)))⟩])
  (.seq (.reg [⟨(some 8), none, .q (.ld true 1 (.t 3))⟩,
     ⟨(some 9), none, .q (.mv (.t 1))⟩,
     ⟨(some 10), none, .c (.call 39 [(.t 8), (.t 9)])⟩,
     ⟨(some 7), none, .q (.mv (.t 10))⟩])
  (.seq (.seq (.reg [⟨(some 11), none, .q (.mv (.t 7))⟩,
      ⟨(some 12), none, .q (.bin .eql (.t 11) (.c (.int .i64 0)))⟩,
      ⟨(some 13), none, .q (.mv (.t 12))⟩,
      ⟨(some 14), (some (13, true)), .q (.mv (.t 2))⟩,
      ⟨(some 15), (some (13, true)), .c (.call 35 [(.t 14), (.c (.int .i64 0)), (.c (.int .i64 8))])⟩,
      ⟨(some 16), (some (13, true)), .q (.un .not (.t 15))⟩,
      ⟨(some 17), none, .q (.pick (.t 13) (.t 16) (.c (.bool false)))⟩])
   (.cond (.t 17)
    (.reg [⟨(some 7), none, .q (.mv (.c (.int .i64 2)))⟩])
    .skip))
  (.seq (.reg [⟨(some 18), none, .q (.mv (.t 7))⟩,
     ⟨(some 6), none, .q (.mv (.t 18))⟩])
  .ret))))⟩
theorem l_spec_l02Code : lowF PA f_spec_l02Code 3 [] = some c_spec_l02Code := by kernel_rfl
abbrev f_spec_l01In : FuncId := 35
def c_spec_l01In : AF := ⟨3, 15, [.t 6],
  (.seq (.reg [⟨(some 6), none, .q (.mv (.c (.bool false)))⟩])
  (.seq (.reg [⟨(some 7), none, .q (.mv (.t 0))⟩,
     ⟨(some 8), none, .q (.mv (.t 1))⟩,
     ⟨(some 9), none, .q (.bin .geq (.t 7) (.t 8))⟩,
     ⟨(some 10), none, .q (.mv (.t 9))⟩,
     ⟨(some 11), (some (10, true)), .q (.mv (.t 0))⟩,
     ⟨(some 12), (some (10, true)), .q (.mv (.t 2))⟩,
     ⟨(some 13), (some (10, true)), .q (.bin .leq (.t 11) (.t 12))⟩,
     ⟨(some 14), none, .q (.pick (.t 10) (.t 13) (.c (.bool false)))⟩,
     ⟨(some 6), none, .q (.mv (.t 14))⟩])
  .ret))⟩
theorem l_spec_l01In : lowF PA f_spec_l01In 3 [] = some c_spec_l01In := by kernel_rfl
abbrev f_spec_l06Is : FuncId := 36
def c_spec_l06Is : AF := ⟨3, 24, [.t 6],
  (.seq (.reg [⟨(some 3), none, .m (.box (.t 0))⟩,
     ⟨(some 6), none, .q (.mv (.c (.bool false)))⟩])
  (.seq (.reg [⟨(some 9), none, .q (.ld true 1 (.t 3))⟩,
     ⟨(some 10), none, .q (.mv (.t 1))⟩,
     ⟨(some 11), none, .q (.mv (.t 2))⟩,
     ⟨(some 12), none, .c (.call 63 [(.t 9), (.t 10), (.t 11)])⟩,
     ⟨(some 7), none, .q (.mv (.t 12))⟩])
  (.seq (.seq (.reg [⟨(some 13), none, .q (.mv (.t 7))⟩,
      ⟨(some 14), none, .q (.len (.t 13))⟩,
      ⟨(some 15), none, .q (.mv (.c (.int .i64 0)))⟩])
   (.block 0 (.loop [7, 14, 15] (.seq (.reg [⟨(some 16), none, .q (.bin .lss (.t 15) (.t 14))⟩])
     (.seq (.cond (.t 16)
       .skip
       (.exit 0))
     (.seq (.block 1 (.seq (.reg [⟨(some 17), none, .q (.mv (.t 15))⟩,
          ⟨(some 8), none, .q (.mv (.t 17))⟩])
       (.seq (.reg [⟨(some 18), none, .q (.mv (.t 7))⟩,
          ⟨(some 19), none, .q (.mv (.t 8))⟩,
          ⟨(some 20), none, .q (.ixs 1 (.t 18) (.t 19))⟩,
          ⟨(some 21), none, .q (.ld false 1 (.t 20))⟩,
          ⟨(some 22), none, .q (.bin .neq (.t 21) (.c (.int .i64 1)))⟩])
       (.cond (.t 22)
        (.seq (.reg [⟨(some 6), none, .q (.mv (.c (.bool false)))⟩])
        .ret)
        .skip))))
     (.reg [⟨(some 23), none, .q (.bin .add (.t 15) (.c (.int .i64 1)))⟩,
       ⟨(some 15), none, .q (.mv (.t 23))⟩])))))))
  (.seq (.reg [⟨(some 6), none, .q (.mv (.c (.bool true)))⟩])
  .ret))))⟩
theorem l_spec_l06Is : lowF PA f_spec_l06Is 3 [.k [7, 14, 15]] = some c_spec_l06Is := by kernel_rfl
abbrev f_spec_l01Distance : FuncId := 37
def c_spec_l01Distance : AF := ⟨3, 49, [.t 6],
  (.seq (.reg [⟨(some 3), none, .m (.box (.t 0))⟩,
     ⟨(some 6), none, .q (.mv (.c (.int .i64 0)))⟩])
  (.seq (.reg [⟨(some 7), none, .q (.mv (.c (.int .i64 0)))⟩])
  (.seq (.seq (.reg [⟨(some 9), none, .q (.fad 0 (.t 3))⟩,
      ⟨(some 10), none, .q (.ld false 1 (.t 9))⟩,
      ⟨(some 11), none, .q (.len (.t 10))⟩,
      ⟨(some 12), none, .q (.bin .sub (.t 11) (.c (.int .i64 1)))⟩,
      ⟨(some 8), none, .q (.mv (.t 12))⟩])
   (.block 0 (.loop [1, 2, 3, 7, 8] (.seq (.seq (.reg [⟨(some 13), none, .q (.mv (.t 8))⟩,
         ⟨(some 14), none, .q (.bin .geq (.t 13) (.c (.int .i64 0)))⟩])
      (.cond (.t 14)
       .skip
       (.exit 0)))
     (.seq (.block 1 (.seq (.seq (.sch (.take 0 ⟨(some 17), none, .q (.mv (.t 1))⟩ (.take 1 ⟨(some 18), none, .q (.fad 0 (.t 3))⟩ (.take 2 ⟨(some 19), none, .q (.ld false 1 (.t 18))⟩ (.take 3 ⟨(some 20), none, .q (.mv (.t 8))⟩ (.take 4 ⟨(some 21), none, .q (.ixs 1 (.t 19) (.t 20))⟩ (.take 5 ⟨(some 22), none, .q (.ld false 1 (.t 21))⟩ (.take 6 ⟨(some 23), none, .q (.bin .rem (.t 17) (.t 22))⟩ (.take 7 ⟨(some 24), none, .q (.mv (.t 2))⟩ (.take 8 ⟨(some 25), none, .q (.fad 0 (.t 3))⟩ (.take 9 ⟨(some 26), none, .q (.ld false 1 (.t 25))⟩ (.take 10 ⟨(some 27), none, .q (.mv (.t 8))⟩ (.take 11 ⟨(some 28), none, .q (.ixs 1 (.t 26) (.t 27))⟩ (.take 12 ⟨(some 29), none, .q (.ld false 1 (.t 28))⟩ (.take 13 ⟨(some 30), none, .q (.bin .rem (.t 24) (.t 29))⟩ (.take 14 ⟨(some 31), none, .q (.bin .neq (.t 23) (.t 30))⟩ .done))))))))))))))))
        (.cond (.t 31)
         (.reg [⟨(some 32), none, .q (.mv (.t 7))⟩,
           ⟨(some 33), none, .q (.bin .add (.t 32) (.c (.int .i64 1)))⟩,
           ⟨(some 7), none, .q (.mv (.t 33))⟩])
         .skip))
       (.seq (.reg [⟨(some 34), none, .q (.mv (.t 1))⟩,
          ⟨(some 35), none, .q (.fad 0 (.t 3))⟩,
          ⟨(some 36), none, .q (.ld false 1 (.t 35))⟩,
          ⟨(some 37), none, .q (.mv (.t 8))⟩,
          ⟨(some 38), none, .q (.ixs 1 (.t 36) (.t 37))⟩,
          ⟨(some 39), none, .q (.ld false 1 (.t 38))⟩,
          ⟨(some 40), none, .q (.bin .quo (.t 34) (.t 39))⟩,
          ⟨(some 1), none, .q (.mv (.t 40))⟩])
       (.reg [⟨(some 41), none, .q (.mv (.t 2))⟩,
         ⟨(some 42), none, .q (.fad 0 (.t 3))⟩,
         ⟨(some 43), none, .q (.ld false 1 (.t 42))⟩,
         ⟨(some 44), none, .q (.mv (.t 8))⟩,
         ⟨(some 45), none, .q (.ixs 1 (.t 43) (.t 44))⟩,
         ⟨(some 46), none, .q (.ld false 1 (.t 45))⟩,
         ⟨(some 47), none, .q (.bin .quo (.t 41) (.t 46))⟩,
         ⟨(some 2), none, .q (.mv (.t 47))⟩]))))
     (.reg [⟨(some 15), none, .q (.mv (.t 8))⟩,
       ⟨(some 16), none, .q (.bin .sub (.t 15) (.c (.int .i64 1)))⟩,
       ⟨(some 8), none, .q (.mv (.t 16))⟩]))))))
  (.seq (.reg [⟨(some 48), none, .q (.mv (.t 7))⟩,
     ⟨(some 6), none, .q (.mv (.t 48))⟩])
  .ret))))⟩
theorem l_spec_l01Distance : lowF PA f_spec_l01Distance 3 [.k [1, 2, 3, 7, 8], .s (.take 0 (.take 1 (.take 2 (.take 3 (.take 4 (.take 5 (.take 6 (.take 7 (.take 8 (.take 9 (.take 10 (.take 11 (.take 12 (.take 13 (.take 14 .done)))))))))))))))] = some c_spec_l01Distance := by kernel_rfl
abbrev f_impl_coverCode : FuncId := 38
def c_impl_coverCode : AF := ⟨3, 17, [.t 6],
  (.seq (.reg [⟨(some 3), none, .m (.box (.t 0))⟩,
     ⟨(some 6), none, .q (.mv (.c (.int .i64 0)))⟩])
  (.seq (.seq (.reg [⟨(some 8), none, .q (.ld true 1 (.t 3))⟩,
      ⟨(some 9), none, .q (.mv (.t 1))⟩,
      ⟨(some 10), none, .c (.call 28 [(.t 8), (.t 9), (.c (.slice none 0 0))])⟩,
      ⟨(some 7), none, .q (.mv (.t 10))⟩])
   (.seq (.reg [⟨(some 11), none, .q (.mv (.t 7))⟩,
      ⟨(some 12), none, .q (.bin .neq (.t 11) (.c (.int .i64 0)))⟩])
   (.cond (.t 12)
    (.seq (.reg [⟨(some 13), none, .q (.mv (.t 7))⟩,
       ⟨(some 6), none, .q (.mv (.t 13))⟩])
    .ret)
    .skip)))
  (.seq (.seq (.reg [⟨(some 14), none, .q (.mv (.t 2))⟩,
      ⟨(some 15), none, .c (.call 29 [(.t 14)])⟩,
      ⟨(some 16), none, .q (.un .not (.t 15))⟩])
   (.cond (.t 16)
    (.seq (.reg [⟨(some 6), none, .q (.mv (.c (.int .i64 2)))⟩])
    .ret)
    .skip))
  (.seq (.reg [⟨(some 6), none, .q (.mv (.c (.int .i64 0)))⟩])
  .ret))))⟩
theorem l_impl_coverCode : lowF PA f_impl_coverCode 3 [] = some c_impl_coverCode := by kernel_rfl
abbrev f_spec_l01Given : FuncId := 39
def c_spec_l01Given : AF := ⟨2, 14, [.t 4],
  (.seq (.reg [⟨(some 2), none, .m (.box (.t 0))⟩,
     ⟨(some 4), none, .q (.mv (.c (.int .i64 0)))⟩])
  (.seq (.block 0 (.seq (.reg [⟨(some 6), none, .q (.ld true 1 (.t 2))⟩,
       ⟨(some 7), none, .c (.call 25 [(.t 6)])⟩,
       ⟨(some 8), none, .q (.un .not (.t 7))⟩,
       ⟨(some 5), none, .q (.mv (.t 8))⟩])
    (.cond (.t 5)
     (.seq (.reg [⟨(some 4), none, .q (.mv (.c (.int .i64 1)))⟩])
     .ret)
     (.seq (.reg [⟨(some 10), none, .q (.ld true 1 (.t 2))⟩,
        ⟨(some 11), none, .q (.mv (.t 1))⟩,
        ⟨(some 12), none, .c (.call 64 [(.t 10), (.t 11)])⟩,
        ⟨(some 13), none, .q (.un .not (.t 12))⟩,
        ⟨(some 9), none, .q (.mv (.t 13))⟩])
     (.cond (.t 9)
      (.seq (.reg [⟨(some 4), none, .q (.mv (.c (.int .i64 2)))⟩])
      .ret)
      .skip)))))
  (.seq (.reg [⟨(some 4), none, .q (.mv (.c (.int .i64 0)))⟩])
  .ret)))⟩
theorem l_spec_l01Given : lowF PA f_spec_l01Given 2 [] = some c_spec_l01Given := by kernel_rfl
abbrev f_spec_DrawColumnsFor : FuncId := 40
def c_spec_DrawColumnsFor : AF := ⟨1, 14, [.t 2, .t 3],
  (.seq (.reg [⟨(some 2), none, .q (.mv (.c (.int .i64 0)))⟩,
     ⟨(some 3), none, .q (.mv (.c (.int .i64 0)))⟩])
  (.seq (.reg [⟨(some 5), none, .q (.mv (.t 0))⟩,
     ⟨(some 6), none, .c (.call 23 [(.t 5)])⟩,
     ⟨(some 4), none, .q (.mv (.t 6))⟩])
  (.seq (.reg [⟨(some 7), none, .q (.mv (.t 4))⟩,
     ⟨(some 8), none, .q (.mv (.t 4))⟩,
     ⟨(some 9), none, .c (.call 27 [(.t 8), (.c (.int .i64 4))])⟩,
     ⟨(some 10), none, .m (.bsl 1 [(.c (.int .i64 2)), (.c (.int .i64 3)), (.c (.int .i64 2)), (.c (.int .i64 3)), (.t 9)])⟩,
     ⟨(some 11), none, .c (.call 57 [(.t 7), (.t 10)])⟩,
     ⟨(some 12), none, .q (.mv (.t 4))⟩,
     ⟨(some 13), none, .c (.call 27 [(.t 12), (.c (.int .i64 3))])⟩,
     ⟨(some 2), none, .q (.mv (.t 11))⟩,
     ⟨(some 3), none, .q (.mv (.t 13))⟩])
  .ret)))⟩
theorem l_spec_DrawColumnsFor : lowF PA f_spec_DrawColumnsFor 1 [] = some c_spec_DrawColumnsFor := by kernel_rfl
abbrev f_impl_hammingCode : FuncId := 41
def c_impl_hammingCode : AF := ⟨3, 29, [.t 6],
  (.seq (.reg [⟨(some 6), none, .q (.mv (.c (.int .i64 0)))⟩])
  (.seq (.block 0 (.seq (.reg [⟨(some 8), none, .q (.mv (.t 0))⟩,
       ⟨(some 9), none, .q (.bin .lss (.t 8) (.c (.int .i64 2)))⟩,
       ⟨(some 10), none, .q (.mv (.t 9))⟩,
       ⟨(some 11), (some (10, false)), .q (.mv (.t 0))⟩,
       ⟨(some 12), (some (10, false)), .q (.bin .gtr (.t 11) (.c (.int .i64 3)))⟩,
       ⟨(some 13), none, .q (.pick (.t 10) (.c (.bool true)) (.t 12))⟩,
       ⟨(some 14), none, .q (.mv (.t 13))⟩,
       ⟨(some 15), (some (14, false)), .q (.mv (.t 1))⟩,
       ⟨(some 16), (some (14, false)), .q (.mv (.t 2))⟩,
       ⟨(some 17), (some (14, false)), .q (.bin .lss (.t 15) (.t 16))⟩,
       ⟨(some 18), none, .q (.pick (.t 14) (.c (.bool true)) (.t 17))⟩,
       ⟨(some 19), none, .q (.mv (.t 18))⟩,
       ⟨(some 20), (some (19, false)), .q (.mv (.t 1))⟩,
       ⟨(some 21), (some (19, false)), .q (.bin .gtr (.t 20) (.c (.int .i64 3)))⟩,
       ⟨(some 22), none, .q (.pick (.t 19) (.c (.bool true)) (.t 21))⟩,
       ⟨(some 7), none, .q (.mv (.t 22))⟩])
    (.cond (.t 7)
     (.seq (.reg [⟨(some 6), none, .q (.mv (.c (.int .i64 2)))⟩])
     .ret)
     (.seq (.reg [⟨(some 24), none, .q (.mv (.t 0))⟩,
        ⟨(some 25), none, .q (.mv (.t 1))⟩,
        ⟨(some 26), none, .c (.call 42 [(.t 24), (.t 25)])⟩,
        ⟨(some 27), none, .q (.len (.t 26))⟩,
        ⟨(some 28), none, .q (.bin .gtr (.t 27) (.c (.int .i64 8)))⟩,
        ⟨(some 23), none, .q (.mv (.t 28))⟩])
     (.cond (.t 23)
      (.seq (.reg [⟨(some 6), none, .q (.mv (.c (.int .i64 3)))⟩])
      .ret)
      .skip)))))
  (.seq (.reg [⟨(some 6), none, .q (.mv (.c (.int .i64 0)))⟩])
  .ret)))⟩
theorem l_impl_hammingCode : lowF PA f_impl_hammingCode 3 [] = some c_impl_hammingCode := by kernel_rfl
abbrev f_impl_columnsFor : FuncId := 42
def c_impl_columnsFor : AF := ⟨2, 40, [.t 4],
  (.seq (.reg [⟨(some 4), none, .q (.mv (.c (.slice none 0 0)))⟩])
  (.seq (.reg [⟨(some 10), none, .m (.bsl 1 [])⟩,
     ⟨(some 11), none, .m (.bsl 1 [(.t 10)])⟩,
     ⟨(some 5), none, .q (.mv (.t 11))⟩])
  (.seq (.seq (.reg [⟨(some 12), none, .q (.mv (.t 1))⟩,
      ⟨(some 13), none, .q (.mv (.c (.int .i64 0)))⟩])
   (.block 0 (.loop [0, 5, 12, 13] (.seq (.reg [⟨(some 14), none, .q (.bin .lss (.t 13) (.t 12))⟩])
     (.seq (.cond (.t 14)
       .skip
       (.exit 0))
     (.seq (.block 1 (.seq (.reg [⟨(some 15), none, .m (.bsl 1 [])⟩,
          ⟨(some 6), none, .q (.mv (.t 15))⟩])
       (.seq (.seq (.reg [⟨(some 16), none, .q (.mv (.t 5))⟩,
           ⟨(some 17), none, .q (.len (.t 16))⟩,
           ⟨(some 18), none, .q (.mv (.c (.int .i64 0)))⟩])
        (.block 2 (.loop [0, 6, 12, 13, 16, 17, 18] (.seq (.reg [⟨(some 19), none, .q (.bin .lss (.t 18) (.t 17))⟩])
          (.seq (.cond (.t 19)
            .skip
            (.exit 2))
          (.seq (.block 3 (.seq (.reg [⟨(some 20), none, .q (.ixs 1 (.t 16) (.t 18))⟩,
               ⟨(some 21), none, .q (.ld false 1 (.t 20))⟩,
               ⟨(some 8), none, .q (.mv (.t 21))⟩])
            (.seq (.reg [⟨(some 22), none, .q (.mv (.t 0))⟩,
               ⟨(some 23), none, .q (.mv (.c (.int .i64 0)))⟩])
            (.block 4 (.loop [0, 6, 8, 12, 13, 16, 17, 18, 22, 23] (.seq (.reg [⟨(some 24), none, .q (.bin .lss (.t 23) (.t 22))⟩])
              (.seq (.cond (.t 24)
                .skip
                (.exit 4))
              (.seq (.block 5 (.seq (.reg [⟨(some 25), none, .q (.mv (.t 23))⟩,
                   ⟨(some 9), none, .q (.mv (.t 25))⟩])
                (.reg [⟨(some 26), none, .q (.mv (.t 6))⟩,
                  ⟨(some 27), none, .q (.mv (.t 8))⟩,
                  ⟨(some 28), none, .c (.call 65 [(.t 27)])⟩,
                  ⟨(some 29), none, .q (.mv (.t 9))⟩,
                  ⟨(some 30), none, .m (.bsl 1 [(.t 29)])⟩,
                  ⟨(some 31), none, .m (.app 1 8 (.t 28) (.t 30))⟩,
                  ⟨(some 32), none, .m (.bsl 1 [(.t 31)])⟩,
                  ⟨(some 33), none, .m (.app 1 24 (.t 26) (.t 32))⟩,
                  ⟨(some 6), none, .q (.mv (.t 33))⟩])))
              (.reg [⟨(some 34), none, .q (.bin .add (.t 23) (.c (.int .i64 1)))⟩,
                ⟨(some 23), none, .q (.mv (.t 34))⟩])))))))))
          (.reg [⟨(some 35), none, .q (.bin .add (.t 18) (.c (.int .i64 1)))⟩,
            ⟨(some 18), none, .q (.mv (.t 35))⟩])))))))
       (.reg [⟨(some 36), none, .q (.mv (.t 6))⟩,
         ⟨(some 5), none, .q (.mv (.t 36))⟩]))))
     (.reg [⟨(some 37), none, .q (.bin .add (.t 13) (.c (.int .i64 1)))⟩,
       ⟨(some 13), none, .q (.mv (.t 37))⟩])))))))
  (.seq (.reg [⟨(some 38), none, .q (.mv (.t 5))⟩,
     ⟨(some 39), none, .c (.call 66 [(.t 38), (.f 67)])⟩,
     ⟨(some 4), none, .q (.mv (.t 39))⟩])
  .ret))))⟩
theorem l_impl_columnsFor : lowF PA f_impl_columnsFor 2 [.k [0, 5, 12, 13], .k [0, 6, 12, 13, 16, 17, 18], .k [0, 6, 8, 12, 13, 16, 17, 18, 22, 23]] = some c_impl_columnsFor := by kernel_rfl
abbrev f_slices_Repeat___int64_int64_ : FuncId := 43
def c_slices_Repeat___int64_int64_ : AF := ⟨2, 48, [.t 4],
  (.seq (.reg [⟨(some 4), none, .q (.mv (.c (.slice none 0 0)))⟩])
  (.seq (.seq (.reg [⟨(some 9), none, .q (.mv (.t 1))⟩,
      ⟨(some 10), none, .q (.bin .lss (.t 9) (.c (.int .i64 0)))⟩])
   (.cond (.t 10)
    .bad
    .skip))
  (.seq (.reg [⟨(some 13), none, .q (.mv (.t 0))⟩,
     ⟨(some 14), none, .q (.len (.t 13))⟩,
     ⟨(some 15), none, .q (.cvt .u64 (.t 14))⟩,
     ⟨(some 16), none, .q (.mv (.t 1))⟩,
     ⟨(some 17), none, .q (.cvt .u64 (.t 16))⟩,
     ⟨(some 18), none, .c (.call 69 [(.t 15), (.t 17)])⟩,
     ⟨(some 12), none, .q (.mv (.t 18))⟩,
     ⟨(some 19), none, .q (.ext (.t 12) 0)⟩,
     ⟨(some 20), none, .q (.ext (.t 12) 1)⟩,
     ⟨(some 5), none, .q (.mv (.t 19))⟩,
     ⟨(some 6), none, .q (.mv (.t 20))⟩])
  (.seq (.seq (.reg [⟨(some 21), none, .q (.mv (.t 5))⟩,
      ⟨(some 22), none, .q (.bin .gtr (.t 21) (.c (.int .u64 0)))⟩,
      ⟨(some 23), none, .q (.mv (.t 22))⟩,
      ⟨(some 24), (some (23, false)), .q (.mv (.t 6))⟩,
      ⟨(some 25), (some (23, false)), .q (.bin .gtr (.t 24) (.c (.int .u64 9223372036854775807)))⟩,
      ⟨(some 26), none, .q (.pick (.t 23) (.c (.bool true)) (.t 25))⟩])
   (.cond (.t 26)
    .bad
    .skip))
  (.seq (.reg [⟨(some 28), none, .q (.mv (.t 6))⟩,
     ⟨(some 29), none, .q (.cvt .i64 (.t 28))⟩,
     ⟨(some 30), none, .m (.mks 1 (.v (.int .i64 0)) 8 (.t 29) (.t 29))⟩,
     ⟨(some 7), none, .q (.mv (.t 30))⟩])
  (.seq (.reg [⟨(some 31), none, .q (.mv (.t 7))⟩,
     ⟨(some 32), none, .q (.mv (.t 0))⟩,
     ⟨(some 33), none, .m (.cpy 1 (.t 31) (.t 32))⟩,
     ⟨(some 8), none, .q (.mv (.t 33))⟩])
  (.seq (.block 0 (.loop [7, 8] (.seq (.seq (.reg [⟨(some 34), none, .q (.mv (.t 8))⟩,
         ⟨(some 35), none, .q (.mv (.t 7))⟩,
         ⟨(some 36), none, .q (.len (.t 35))⟩,
         ⟨(some 37), none, .q (.bin .lss (.t 34) (.t 36))⟩])
      (.cond (.t 37)
       .skip
       (.exit 0)))
     (.block 1 (.sch (.take 0 ⟨(some 38), none, .q (.mv (.t 8))⟩ (.take 1 ⟨(some 39), none, .q (.mv (.t 7))⟩ (.take 2 ⟨(some 40), none, .q (.mv (.t 8))⟩ (.take 3 ⟨(some 41), none, .q (.slc 1 (.t 39) (some (.t 40)) none)⟩ (.take 4 ⟨(some 42), none, .q (.mv (.t 7))⟩ (.take 5 ⟨(some 43), none, .q (.mv (.t 8))⟩ (.take 6 ⟨(some 44), none, .q (.slc 1 (.t 42) none (some (.t 43)))⟩ (.one ⟨(some 45), none, .m (.cpy 1 (.t 41) (.t 44))⟩ [] (.take 8 ⟨(some 46), none, .q (.bin .add (.t 38) (.t 45))⟩ (.take 9 ⟨(some 8), none, .q (.mv (.t 46))⟩ .done)))))))))))))))
  (.seq (.reg [⟨(some 47), none, .q (.mv (.t 7))⟩,
     ⟨(some 4), none, .q (.mv (.t 47))⟩])
  .ret))))))))⟩
theorem l_slices_Repeat___int64_int64_ : lowF PA f_slices_Repeat___int64_int64_ 2 [.x 2, .x 5, .k [7, 8], .s (.take 0 (.take 1 (.take 2 (.take 3 (.take 4 (.take 5 (.take 6 (.one 7 (.take 8 (.take 9 .done))))))))))] = some c_slices_Repeat___int64_int64_ := by kernel_rfl
abbrev f_impl_those : FuncId := 44
def c_impl_those : AF := ⟨2, 26, [.t 4],
  (.seq (.reg [⟨(some 2), none, .m (.box (.t 0))⟩,
     ⟨(some 4), none, .q (.mv (.c (.slice none 0 0)))⟩])
  (.seq (.reg [⟨(some 8), none, .m (.bsl 1 [])⟩,
     ⟨(some 5), none, .q (.mv (.t 8))⟩])
  (.seq (.seq (.reg [⟨(some 9), none, .q (.ld true 1 (.t 2))⟩,
      ⟨(some 10), none, .c (.call 70 [(.t 9)])⟩,
      ⟨(some 11), none, .q (.len (.t 10))⟩,
      ⟨(some 12), none, .q (.mv (.c (.int .i64 0)))⟩])
   (.block 0 (.loop [1, 5, 10, 11, 12] (.seq (.reg [⟨(some 13), none, .q (.bin .lss (.t 12) (.t 11))⟩])
     (.seq (.cond (.t 13)
       .skip
       (.exit 0))
     (.seq (.block 1 (.seq (.reg [⟨(some 14), none, .q (.mv (.t 12))⟩,
          ⟨(some 15), none, .q (.ixs 8 (.t 10) (.t 12))⟩,
          ⟨(some 16), none, .q (.ld true 8 (.t 15))⟩,
          ⟨(some 7), none, .m (.alloc [(.v (.int .u8 0)), (.v (.int .u8 0)), (.v (.int .u8 0)), (.v (.int .u8 0)), (.v (.int .u8 0)), (.v (.int .u8 0)), (.v (.int .u8 0)), (.v (.int .u8 0))])⟩,
          ⟨(some 6), none, .q (.mv (.t 14))⟩,
          ⟨none, none, .m (.st true 8 (.t 7) (.t 16))⟩])
       (.seq (.reg [⟨(some 17), none, .q (.mv (.t 1))⟩,
          ⟨(some 18), none, .q (.ld true 8 (.t 7))⟩,
          ⟨(some 19), none, .c (.cav (.t 17) [(.t 18)])⟩])
       (.cond (.t 19)
        (.reg [⟨(some 20), none, .q (.mv (.t 5))⟩,
          ⟨(some 21), none, .q (.mv (.t 6))⟩,
          ⟨(some 22), none, .m (.bsl 1 [(.t 21)])⟩,
          ⟨(some 23), none, .m (.app 1 8 (.t 20) (.t 22))⟩,
          ⟨(some 5), none, .q (.mv (.t 23))⟩])
        .skip))))
     (.reg [⟨(some 24), none, .q (.bin .add (.t 12) (.c (.int .i64 1)))⟩,
       ⟨(some 12), none, .q (.mv (.t 24))⟩])))))))
  (.seq (.reg [⟨(some 25), none, .q (.mv (.t 5))⟩,
     ⟨(some 4), none, .q (.mv (.t 25))⟩])
  .ret))))⟩
theorem l_impl_those : lowF PA f_impl_those 2 [.k [1, 5, 10, 11, 12]] = some c_impl_those := by kernel_rfl
abbrev f_impl_HammingCode_1 : FuncId := 45
def c_impl_HammingCode_1 : AF := ⟨4, 38, [.t 5],
  (.seq (.reg [⟨(some 4), none, .m (.box (.t 0))⟩,
     ⟨(some 5), none, .q (.mv (.c (.bool false)))⟩])
  (.seq (.seq (.reg [⟨(some 10), none, .q (.ld false 1 (.t 1))⟩,
      ⟨(some 11), none, .q (.mv (.c (.int .i64 0)))⟩])
   (.block 0 (.loop [2, 3, 4, 10, 11] (.seq (.reg [⟨(some 12), none, .q (.bin .lss (.t 11) (.t 10))⟩])
     (.seq (.cond (.t 12)
       .skip
       (.exit 0))
     (.seq (.block 1 (.seq (.reg [⟨(some 13), none, .q (.mv (.t 11))⟩,
          ⟨(some 6), none, .q (.mv (.t 13))⟩])
       (.seq (.reg [⟨(some 7), none, .q (.mv (.c (.int .i64 0)))⟩])
       (.seq (.seq (.reg [⟨(some 14), none, .q (.ld false 1 (.t 2))⟩,
           ⟨(some 15), none, .q (.len (.t 14))⟩,
           ⟨(some 16), none, .q (.mv (.c (.int .i64 0)))⟩])
        (.block 2 (.loop [2, 3, 4, 6, 7, 10, 11, 14, 15, 16] (.seq (.reg [⟨(some 17), none, .q (.bin .lss (.t 16) (.t 15))⟩])
          (.seq (.cond (.t 17)
            .skip
            (.exit 2))
          (.seq (.block 3 (.seq (.reg [⟨(some 18), none, .q (.mv (.t 16))⟩,
               ⟨(some 19), none, .q (.ixs 1 (.t 14) (.t 16))⟩,
               ⟨(some 20), none, .q (.ld false 1 (.t 19))⟩,
               ⟨(some 8), none, .q (.mv (.t 18))⟩,
               ⟨(some 9), none, .q (.mv (.t 20))⟩])
            (.sch (.take 0 ⟨(some 21), none, .q (.mv (.t 7))⟩ (.take 1 ⟨(some 22), none, .q (.mv (.t 8))⟩ (.take 2 ⟨(some 23), none, .q (.ixa 8 1 (.t 4) (.t 22))⟩ (.take 3 ⟨(some 24), none, .q (.ld false 1 (.t 23))⟩ (.take 4 ⟨(some 25), none, .q (.cvt .i64 (.t 24))⟩ (.take 5 ⟨(some 26), none, .q (.mv (.t 9))⟩ (.take 6 ⟨(some 27), none, .q (.mv (.t 6))⟩ (.take 7 ⟨(some 28), none, .q (.ixs 1 (.t 26) (.t 27))⟩ (.take 8 ⟨(some 29), none, .q (.ld false 1 (.t 28))⟩ (.take 9 ⟨(some 30), none, .q (.bin .mul (.t 25) (.t 29))⟩ (.take 10 ⟨(some 31), none, .q (.bin .add (.t 21) (.t 30))⟩ (.take 11 ⟨(some 7), none, .q (.mv (.t 31))⟩ .done)))))))))))))))
          (.reg [⟨(some 32), none, .q (.bin .add (.t 16) (.c (.int .i64 1)))⟩,
            ⟨(some 16), none, .q (.mv (.t 32))⟩])))))))
       (.seq (.reg [⟨(some 33), none, .q (.mv (.t 7))⟩,
          ⟨(some 34), none, .q (.ld false 1 (.t 3))⟩,
          ⟨(some 35), none, .q (.bin .rem (.t 33) (.t 34))⟩,
          ⟨(some 36), none, .q (.bin .neq (.t 35) (.c (.int .i64 0)))⟩])
       (.cond (.t 36)
        (.seq (.reg [⟨(some 5), none, .q (.mv (.c (.bool false)))⟩])
        .ret)
        .skip))))))
     (.reg [⟨(some 37), none, .q (.bin .add (.t 11) (.c (.int .i64 1)))⟩,
       ⟨(some 11), none, .q (.mv (.t 37))⟩])))))))
  (.seq (.reg [⟨(some 5), none, .q (.mv (.c (.bool true)))⟩])
  .ret)))⟩
theorem l_impl_HammingCode_1 : lowF PA f_impl_HammingCode_1 4 [.k [2, 3, 4, 10, 11], .k [2, 3, 4, 6, 7, 10, 11, 14, 15, 16], .s (.take 0 (.take 1 (.take 2 (.take 3 (.take 4 (.take 5 (.take 6 (.take 7 (.take 8 (.take 9 (.take 10 (.take 11 .done))))))))))))] = some c_impl_HammingCode_1 := by kernel_rfl
abbrev f_spec_l06Columns : FuncId := 46
def c_spec_l06Columns : AF := ⟨2, 61, [.t 4],
  (.seq (.reg [⟨(some 4), none, .q (.mv (.c (.slice none 0 0)))⟩])
  (.seq (.reg [⟨(some 13), none, .m (.bsl 1 [])⟩,
     ⟨(some 5), none, .q (.mv (.t 13))⟩,
     ⟨(some 6), none, .q (.mv (.c (.int .i64 1)))⟩])
  (.seq (.seq (.reg [⟨(some 7), none, .q (.mv (.c (.int .i64 0)))⟩])
   (.block 0 (.loop [0, 1, 5, 6, 7] (.seq (.seq (.reg [⟨(some 14), none, .q (.mv (.t 7))⟩,
         ⟨(some 15), none, .q (.mv (.t 1))⟩,
         ⟨(some 16), none, .q (.bin .lss (.t 14) (.t 15))⟩])
      (.cond (.t 16)
       .skip
       (.exit 0)))
     (.seq (.block 1 (.reg [⟨(some 19), none, .q (.mv (.t 6))⟩,
         ⟨(some 20), none, .q (.mv (.t 0))⟩,
         ⟨(some 21), none, .q (.bin .mul (.t 19) (.t 20))⟩,
         ⟨(some 6), none, .q (.mv (.t 21))⟩]))
     (.reg [⟨(some 17), none, .q (.mv (.t 7))⟩,
       ⟨(some 18), none, .q (.bin .add (.t 17) (.c (.int .i64 1)))⟩,
       ⟨(some 7), none, .q (.mv (.t 18))⟩]))))))
  (.seq (.seq (.reg [⟨(some 8), none, .q (.mv (.c (.int .i64 1)))⟩])
   (.block 2 (.loop [0, 1, 5, 6, 8] (.seq (.seq (.reg [⟨(some 22), none, .q (.mv (.t 8))⟩,
         ⟨(some 23), none, .q (.mv (.t 6))⟩,
         ⟨(some 24), none, .q (.bin .lss (.t 22) (.t 23))⟩])
      (.cond (.t 24)
       .skip
       (.exit 2)))
     (.seq (.block 3 (.seq (.reg [⟨(some 27), none, .q (.mv (.t 1))⟩,
          ⟨(some 28), none, .m (.mks 1 (.v (.int .i64 0)) 8 (.t 27) (.t 27))⟩,
          ⟨(some 29), none, .q (.mv (.t 8))⟩,
          ⟨(some 9), none, .q (.mv (.t 28))⟩,
          ⟨(some 10), none, .q (.mv (.t 29))⟩,
          ⟨(some 11), none, .q (.mv (.c (.int .i64 0)))⟩])
       (.seq (.seq (.reg [⟨(some 30), none, .q (.mv (.t 1))⟩,
           ⟨(some 31), none, .q (.bin .sub (.t 30) (.c (.int .i64 1)))⟩,
           ⟨(some 12), none, .q (.mv (.t 31))⟩])
        (.block 4 (.loop [0, 1, 5, 6, 8, 9, 10, 11, 12] (.seq (.seq (.reg [⟨(some 32), none, .q (.mv (.t 12))⟩,
              ⟨(some 33), none, .q (.bin .geq (.t 32) (.c (.int .i64 0)))⟩])
           (.cond (.t 33)
            .skip
            (.exit 4)))
          (.seq (.block 5 (.seq (.reg [⟨(some 36), none, .q (.mv (.t 9))⟩,
               ⟨(some 37), none, .q (.mv (.t 12))⟩,
               ⟨(some 38), none, .q (.mv (.t 10))⟩,
               ⟨(some 39), none, .q (.mv (.t 0))⟩,
               ⟨(some 40), none, .q (.bin .rem (.t 38) (.t 39))⟩,
               ⟨(some 41), none, .q (.ixs 1 (.t 36) (.t 37))⟩,
               ⟨none, none, .m (.st false 1 (.t 41) (.t 40))⟩])
            (.seq (.reg [⟨(some 42), none, .q (.mv (.t 10))⟩,
               ⟨(some 43), none, .q (.mv (.t 0))⟩,
               ⟨(some 44), none, .q (.bin .quo (.t 42) (.t 43))⟩,
               ⟨(some 10), none, .q (.mv (.t 44))⟩])
            (.seq (.reg [⟨(some 45), none, .q (.mv (.t 9))⟩,
               ⟨(some 46), none, .q (.mv (.t 12))⟩,
               ⟨(some 47), none, .q (.ixs 1 (.t 45) (.t 46))⟩,
               ⟨(some 48), none, .q (.ld false 1 (.t 47))⟩,
               ⟨(some 49), none, .q (.bin .neq (.t 48) (.c (.int .i64 0)))⟩])
            (.cond (.t 49)
             (.reg [⟨(some 50), none, .q (.mv (.t 9))⟩,
               ⟨(some 51), none, .q (.mv (.t 12))⟩,
               ⟨(some 52), none, .q (.ixs 1 (.t 50) (.t 51))⟩,
               ⟨(some 53), none, .q (.ld false 1 (.t 52))⟩,
               ⟨(some 11), none, .q (.mv (.t 53))⟩])
             .skip)))))
          (.reg [⟨(some 34), none, .q (.mv (.t 12))⟩,
            ⟨(some 35), none, .q (.bin .sub (.t 34) (.c (.int .i64 1)))⟩,
            ⟨(some 12), none, .q (.mv (.t 35))⟩]))))))
       (.seq (.reg [⟨(some 54), none, .q (.mv (.t 11))⟩,
          ⟨(some 55), none, .q (.bin .eql (.t 54) (.c (.int .i64 1)))⟩])
       (.cond (.t 55)
        (.reg [⟨(some 56), none, .q (.mv (.t 5))⟩,
          ⟨(some 57), none, .q (.mv (.t 9))⟩,
          ⟨(some 58), none, .m (.bsl 1 [(.t 57)])⟩,
          ⟨(some 59), none, .m (.app 1 24 (.t 56) (.t 58))⟩,
          ⟨(some 5), none, .q (.mv (.t 59))⟩])
        .skip)))))
     (.reg [⟨(some 25), none, .q (.mv (.t 8))⟩,
       ⟨(some 26), none, .q (.bin .add (.t 25) (.c (.int .i64 1)))⟩,
       ⟨(some 8), none, .q (.mv (.t 26))⟩]))))))
  (.seq (.reg [⟨(some 60), none, .q (.mv (.t 5))⟩,
     ⟨(some 4), none, .q (.mv (.t 60))⟩])
  .ret)))))⟩
theorem l_spec_l06Columns : lowF PA f_spec_l06Columns 2 [.k [0, 1, 5, 6, 7], .k [0, 1, 5, 6, 8], .k [0, 1, 5, 6, 8, 9, 10, 11, 12]] = some c_spec_l06Columns := by kernel_rfl
abbrev f_spec_l06Hamming : FuncId := 47
def c_spec_l06Hamming : AF := ⟨2, 82, [.c 4 true 1, .t 5],
  (.seq (.reg [⟨(some 4), none, .m (.alloc [(.v (.slice none 0 0))])⟩,
     ⟨(some 5), none, .q (.mv (.c (.slice none 0 0)))⟩])
  (.seq (.reg [⟨(some 16), none, .q (.mv (.t 0))⟩,
     ⟨(some 17), none, .q (.mv (.t 1))⟩,
     ⟨(some 18), none, .c (.call 46 [(.t 16), (.t 17)])⟩,
     ⟨(some 19), none, .m (.bsl 1 [])⟩,
     ⟨(some 20), none, .q (.bld [(.v (.slice none 0 0))] [(0, (.t 19))])⟩,
     ⟨(some 21), none, .m (.bsl 1 [])⟩,
     ⟨(some 7), none, .m (.alloc [(.v (.slice none 0 0))])⟩,
     ⟨(some 6), none, .q (.mv (.t 18))⟩,
     ⟨none, none, .m (.st true 1 (.t 7) (.t 20))⟩,
     ⟨(some 8), none, .q (.mv (.t 21))⟩])
  (.seq (.seq (.reg [⟨(some 9), none, .q (.mv (.c (.int .i64 0)))⟩])
   (.block 0 (.loop [0, 1, 4, 6, 7, 8, 9] (.seq (.seq (.reg [⟨(some 22), none, .q (.mv (.t 9))⟩,
         ⟨(some 23), none, .q (.mv (.t 6))⟩,
         ⟨(some 24), none, .q (.len (.t 23))⟩,
         ⟨(some 25), none, .q (.bin .lss (.t 22) (.t 24))⟩])
      (.cond (.t 25)
       .skip
       (.exit 0)))
     (.seq (.block 1 (.reg [⟨(some 28), none, .q (.fad 0 (.t 7))⟩,
         ⟨(some 29), none, .q (.ld false 1 (.t 28))⟩,
         ⟨(some 30), none, .q (.mv (.t 0))⟩,
         ⟨(some 31), none, .m (.bsl 1 [(.t 30)])⟩,
         ⟨(some 32), none, .m (.app 1 8 (.t 29) (.t 31))⟩,
         ⟨(some 33), none, .q (.fad 0 (.t 7))⟩,
         ⟨none, none, .m (.st false 1 (.t 33) (.t 32))⟩]))
     (.reg [⟨(some 26), none, .q (.mv (.t 9))⟩,
       ⟨(some 27), none, .q (.bin .add (.t 26) (.c (.int .i64 1)))⟩,
       ⟨(some 9), none, .q (.mv (.t 27))⟩]))))))
  (.seq (.seq (.reg [⟨(some 10), none, .q (.mv (.c (.int .i64 0)))⟩])
   (.block 2 (.loop [0, 1, 4, 6, 7, 8, 10] (.seq (.seq (.reg [⟨(some 34), none, .q (.mv (.t 10))⟩,
         ⟨(some 35), none, .q (.ld true 1 (.t 7))⟩,
         ⟨(some 36), none, .c (.call 26 [(.t 35)])⟩,
         ⟨(some 37), none, .q (.bin .lss (.t 34) (.t 36))⟩])
      (.cond (.t 37)
       .skip
       (.exit 2)))
     (.seq (.block 3 (.seq (.reg [⟨(some 40), none, .q (.ld true 1 (.t 7))⟩,
          ⟨(some 41), none, .q (.mv (.t 10))⟩,
          ⟨(some 42), none, .c (.call 71 [(.t 40), (.t 41)])⟩,
          ⟨(some 11), none, .q (.mv (.t 42))⟩,
          ⟨(some 12), none, .q (.mv (.c (.bool true)))⟩])
       (.seq (.seq (.reg [⟨(some 13), none, .q (.mv (.c (.int .i64 0)))⟩])
        (.block 4 (.loop [0, 1, 4, 6, 7, 8, 10, 11, 12, 13] (.seq (.seq (.reg [⟨(some 43), none, .q (.mv (.t 13))⟩,
              ⟨(some 44), none, .q (.mv (.t 1))⟩,
              ⟨(some 45), none, .q (.bin .lss (.t 43) (.t 44))⟩])
           (.cond (.t 45)
            .skip
            (.exit 4)))
          (.seq (.block 5 (.seq (.reg [⟨(some 14), none, .q (.mv (.c (.int .i64 0)))⟩])
            (.seq (.seq (.reg [⟨(some 15), none, .q (.mv (.c (.int .i64 0)))⟩])
             (.block 6 (.loop [0, 1, 4, 6, 7, 8, 10, 11, 12, 13, 14, 15] (.seq (.seq (.reg [⟨(some 48), none, .q (.mv (.t 15))⟩,
                   ⟨(some 49), none, .q (.mv (.t 6))⟩,
                   ⟨(some 50), none, .q (.len (.t 49))⟩,
                   ⟨(some 51), none, .q (.bin .lss (.t 48) (.t 50))⟩])
                (.cond (.t 51)
                 .skip
                 (.exit 6)))
               (.seq (.block 7 (.sch (.take 0 ⟨(some 54), none, .q (.mv (.t 14))⟩ (.take 1 ⟨(some 55), none, .q (.mv (.t 11))⟩ (.take 2 ⟨(some 56), none, .q (.mv (.t 15))⟩ (.take 3 ⟨(some 57), none, .q (.ixs 1 (.t 55) (.t 56))⟩ (.take 4 ⟨(some 58), none, .q (.ld false 1 (.t 57))⟩ (.take 5 ⟨(some 59), none, .q (.mv (.t 6))⟩ (.take 6 ⟨(some 60), none, .q (.mv (.t 15))⟩ (.take 7 ⟨(some 61), none, .q (.ixs 1 (.t 59) (.t 60))⟩ (.take 8 ⟨(some 62), none, .q (.ld false 1 (.t 61))⟩ (.take 9 ⟨(some 63), none, .q (.mv (.t 13))⟩ (.take 10 ⟨(some 64), none, .q (.ixs 1 (.t 62) (.t 63))⟩ (.take 11 ⟨(some 65), none, .q (.ld false 1 (.t 64))⟩ (.take 12 ⟨(some 66), none, .q (.bin .mul (.t 58) (.t 65))⟩ (.take 13 ⟨(some 67), none, .q (.bin .add (.t 54) (.t 66))⟩ (.take 14 ⟨(some 14), none, .q (.mv (.t 67))⟩ .done)))))))))))))))))
               (.reg [⟨(some 52), none, .q (.mv (.t 15))⟩,
                 ⟨(some 53), none, .q (.bin .add (.t 52) (.c (.int .i64 1)))⟩,
                 ⟨(some 15), none, .q (.mv (.t 53))⟩]))))))
            (.reg [⟨(some 68), none, .q (.mv (.t 12))⟩,
              ⟨(some 69), none, .q (.mv (.t 68))⟩,
              ⟨(some 70), (some (69, true)), .q (.mv (.t 14))⟩,
              ⟨(some 71), (some (69, true)), .q (.mv (.t 0))⟩,
              ⟨(some 72), (some (69, true)), .q (.bin .rem (.t 70) (.t 71))⟩,
              ⟨(some 73), (some (69, true)), .q (.bin .eql (.t 72) (.c (.int .i64 0)))⟩,
              ⟨(some 74), none, .q (.pick (.t 69) (.t 73) (.c (.bool false)))⟩,
              ⟨(some 12), none, .q (.mv (.t 74))⟩]))))
          (.reg [⟨(some 46), none, .q (.mv (.t 13))⟩,
            ⟨(some 47), none, .q (.bin .add (.t 46) (.c (.int .i64 1)))⟩,
            ⟨(some 13), none, .q (.mv (.t 47))⟩]))))))
       (.seq (.reg [⟨(some 75), none, .q (.mv (.t 12))⟩])
       (.cond (.t 75)
        (.reg [⟨(some 76), none, .q (.mv (.t 8))⟩,
          ⟨(some 77), none, .q (.mv (.t 10))⟩,
          ⟨(some 78), none, .m (.bsl 1 [(.t 77)])⟩,
          ⟨(some 79), none, .m (.app 1 8 (.t 76) (.t 78))⟩,
          ⟨(some 8), none, .q (.mv (.t 79))⟩])
        .skip)))))
     (.reg [⟨(some 38), none, .q (.mv (.t 10))⟩,
       ⟨(some 39), none, .q (.bin .add (.t 38) (.c (.int .i64 1)))⟩,
       ⟨(some 10), none, .q (.mv (.t 39))⟩]))))))
  (.seq (.reg [⟨(some 80), none, .q (.ld true 1 (.t 7))⟩,
     ⟨(some 81), none, .q (.mv (.t 8))⟩,
     ⟨none, none, .m (.st true 1 (.t 4) (.t 80))⟩,
     ⟨(some 5), none, .q (.mv (.t 81))⟩])
  .ret)))))⟩
theorem l_spec_l06Hamming : lowF PA f_spec_l06Hamming 2 [.k [0, 1, 4, 6, 7, 8, 9], .k [0, 1, 4, 6, 7, 8, 10], .k [0, 1, 4, 6, 7, 8, 10, 11, 12, 13], .k [0, 1, 4, 6, 7, 8, 10, 11, 12, 13, 14, 15], .s (.take 0 (.take 1 (.take 2 (.take 3 (.take 4 (.take 5 (.take 6 (.take 7 (.take 8 (.take 9 (.take 10 (.take 11 (.take 12 (.take 13 (.take 14 .done)))))))))))))))] = some c_spec_l06Hamming := by kernel_rfl
abbrev f_impl_times : FuncId := 48
def c_impl_times : AF := ⟨3, 48, [.t 6],
  (.seq (.reg [⟨(some 3), none, .m (.box (.t 0))⟩,
     ⟨(some 6), none, .q (.mv (.c (.slice none 0 0)))⟩])
  (.seq (.sch (.take 0 ⟨(some 13), none, .q (.ld true 1 (.t 3))⟩ (.take 2 ⟨(some 15), none, .q (.ld true 1 (.t 3))⟩ (.one ⟨(some 14), none, .c (.call 70 [(.t 13)])⟩ [0] (.one ⟨(some 16), none, .c (.call 72 [(.t 15)])⟩ [2] (.take 5 ⟨(some 7), none, .q (.mv (.t 14))⟩ (.one ⟨(some 17), none, .m (.mks 1 (.v (.int .i64 0)) 8 (.t 16) (.t 16))⟩ [] (.take 6 ⟨(some 8), none, .q (.mv (.t 17))⟩ .done))))))))
  (.seq (.seq (.reg [⟨(some 18), none, .q (.mv (.t 1))⟩,
      ⟨(some 19), none, .q (.len (.t 18))⟩,
      ⟨(some 20), none, .q (.mv (.c (.int .i64 0)))⟩])
   (.block 0 (.loop [2, 7, 8, 18, 19, 20] (.seq (.reg [⟨(some 21), none, .q (.bin .lss (.t 20) (.t 19))⟩])
     (.seq (.cond (.t 21)
       .skip
       (.exit 0))
     (.seq (.block 1 (.seq (.reg [⟨(some 22), none, .q (.ixs 1 (.t 18) (.t 20))⟩,
          ⟨(some 23), none, .q (.ld false 1 (.t 22))⟩,
          ⟨(some 10), none, .q (.mv (.t 23))⟩])
       (.seq (.reg [⟨(some 24), none, .q (.mv (.t 7))⟩,
          ⟨(some 25), none, .q (.len (.t 24))⟩,
          ⟨(some 26), none, .q (.mv (.c (.int .i64 0)))⟩])
       (.block 2 (.loop [2, 7, 8, 10, 18, 19, 20, 24, 25, 26] (.seq (.reg [⟨(some 27), none, .q (.bin .lss (.t 26) (.t 25))⟩])
         (.seq (.cond (.t 27)
           .skip
           (.exit 2))
         (.seq (.block 3 (.seq (.reg [⟨(some 28), none, .q (.mv (.t 26))⟩,
              ⟨(some 29), none, .q (.ixs 8 (.t 24) (.t 26))⟩,
              ⟨(some 30), none, .q (.ld true 8 (.t 29))⟩,
              ⟨(some 12), none, .m (.alloc [(.v (.int .u8 0)), (.v (.int .u8 0)), (.v (.int .u8 0)), (.v (.int .u8 0)), (.v (.int .u8 0)), (.v (.int .u8 0)), (.v (.int .u8 0)), (.v (.int .u8 0))])⟩,
              ⟨(some 11), none, .q (.mv (.t 28))⟩,
              ⟨none, none, .m (.st true 8 (.t 12) (.t 30))⟩])
           (.seq (.sch (.take 0 ⟨(some 31), none, .q (.mv (.t 7))⟩ (.take 1 ⟨(some 32), none, .q (.mv (.t 10))⟩ (.take 2 ⟨(some 33), none, .q (.ixs 8 (.t 31) (.t 32))⟩ (.take 3 ⟨(some 34), none, .q (.ld true 8 (.t 33))⟩ (.take 4 ⟨(some 35), none, .q (.ld true 8 (.t 12))⟩ (.take 6 ⟨(some 37), none, .q (.mv (.t 2))⟩ (.one ⟨(some 36), none, .c (.call 61 [(.t 34), (.t 35)])⟩ [4, 3] (.take 7 ⟨(some 38), none, .q (.bin .leq (.t 36) (.t 37))⟩ .done)))))))))
           (.cond (.t 38)
            (.reg [⟨(some 39), none, .q (.mv (.t 8))⟩,
              ⟨(some 40), none, .q (.mv (.t 11))⟩,
              ⟨(some 41), none, .q (.ixs 1 (.t 39) (.t 40))⟩,
              ⟨(some 42), none, .q (.ld false 1 (.t 41))⟩,
              ⟨(some 43), none, .q (.bin .add (.t 42) (.c (.int .i64 1)))⟩,
              ⟨(some 44), none, .q (.ixs 1 (.t 39) (.t 40))⟩,
              ⟨none, none, .m (.st false 1 (.t 44) (.t 43))⟩])
            .skip))))
         (.reg [⟨(some 45), none, .q (.bin .add (.t 26) (.c (.int .i64 1)))⟩,
           ⟨(some 26), none, .q (.mv (.t 45))⟩])))))))))
     (.reg [⟨(some 46), none, .q (.bin .add (.t 20) (.c (.int .i64 1)))⟩,
       ⟨(some 20), none, .q (.mv (.t 46))⟩])))))))
  (.seq (.reg [⟨(some 47), none, .q (.mv (.t 8))⟩,
     ⟨(some 6), none, .q (.mv (.t 47))⟩])
  .ret))))⟩
theorem l_impl_times : lowF PA f_impl_times 3 [.s (.take 0 (.take 2 (.one 1 (.one 3 (.take 5 (.one 4 (.take 6 .done))))))), .k [2, 7, 8, 18, 19, 20], .k [2, 7, 8, 10, 18, 19, 20, 24, 25, 26], .s (.take 0 (.take 1 (.take 2 (.take 3 (.take 4 (.take 6 (.one 5 (.take 7 .done))))))))] = some c_impl_times := by kernel_rfl
abbrev f_impl_wordCode : FuncId := 49
def c_impl_wordCode : AF := ⟨2, 14, [.t 4],
  (.seq (.reg [⟨(some 2), none, .m (.box (.t 0))⟩,
     ⟨(some 4), none, .q (.mv (.c (.int .i64 0)))⟩])
  (.seq (.block 0 (.seq (.reg [⟨(some 6), none, .q (.ld true 1 (.t 2))⟩,
       ⟨(some 7), none, .c (.call 73 [(.t 6)])⟩,
       ⟨(some 8), none, .q (.un .not (.t 7))⟩,
       ⟨(some 5), none, .q (.mv (.t 8))⟩])
    (.cond (.t 5)
     (.seq (.reg [⟨(some 4), none, .q (.mv (.c (.int .i64 1)))⟩])
     .ret)
     (.seq (.reg [⟨(some 10), none, .q (.ld true 1 (.t 2))⟩,
        ⟨(some 11), none, .q (.mv (.t 1))⟩,
        ⟨(some 12), none, .c (.call 74 [(.t 10), (.t 11)])⟩,
        ⟨(some 13), none, .q (.un .not (.t 12))⟩,
        ⟨(some 9), none, .q (.mv (.t 13))⟩])
     (.cond (.t 9)
      (.seq (.reg [⟨(some 4), none, .q (.mv (.c (.int .i64 2)))⟩])
      .ret)
      .skip)))))
  (.seq (.reg [⟨(some 4), none, .q (.mv (.c (.int .i64 0)))⟩])
  .ret)))⟩
theorem l_impl_wordCode : lowF PA f_impl_wordCode 2 [] = some c_impl_wordCode := by kernel_rfl
abbrev f_spec_l06DrawPerfect : FuncId := 50
def c_spec_l06DrawPerfect : AF := ⟨1, 56, [.c 2 true 1, .t 3, .t 4],
  (.seq (.reg [⟨(some 2), none, .m (.alloc [(.v (.slice none 0 0))])⟩,
     ⟨(some 3), none, .q (.mv (.c (.slice none 0 0)))⟩,
     ⟨(some 4), none, .q (.mv (.c (.int .i64 0)))⟩])
  (.seq (.seq (.reg [⟨(some 13), none, .q (.mv (.t 0))⟩,
      ⟨(some 14), none, .c (.call 51 [(.t 13), (.c (.int .i64 6))])⟩])
   (.block 0 (.seq (.reg [⟨(some 16), none, .q (.bin .eql (.t 14) (.c (.int .i64 0)))⟩,
       ⟨(some 15), none, .q (.mv (.t 16))⟩])
    (.cond (.t 15)
     (.seq (.reg [⟨(some 18), none, .c (.call 47 [(.c (.int .i64 2)), (.c (.int .i64 3))])⟩,
        ⟨(some 17), none, .q (.mv (.t 18))⟩,
        ⟨(some 19), none, .q (.ext (.t 17) 0)⟩,
        ⟨(some 20), none, .q (.ext (.t 17) 1)⟩,
        ⟨(some 5), none, .m (.alloc [(.v (.slice none 0 0))])⟩,
        ⟨none, none, .m (.st true 1 (.t 5) (.t 19))⟩,
        ⟨(some 6), none, .q (.mv (.t 20))⟩])
     (.seq (.reg [⟨(some 21), none, .q (.ld true 1 (.t 5))⟩,
        ⟨(some 22), none, .q (.mv (.t 6))⟩,
        ⟨none, none, .m (.st true 1 (.t 2) (.t 21))⟩,
        ⟨(some 3), none, .q (.mv (.t 22))⟩,
        ⟨(some 4), none, .q (.mv (.c (.int .i64 1)))⟩])
     .ret))
     (.seq (.reg [⟨(some 24), none, .q (.bin .eql (.t 14) (.c (.int .i64 1)))⟩,
        ⟨(some 23), none, .q (.mv (.t 24))⟩])
     (.cond (.t 23)
      (.seq (.reg [⟨(some 26), none, .c (.call 47 [(.c (.int .i64 3)), (.c (.int .i64 2))])⟩,
         ⟨(some 25), none, .q (.mv (.t 26))⟩,
         ⟨(some 27), none, .q (.ext (.t 25) 0)⟩,
         ⟨(some 28), none, .q (.ext (.t 25) 1)⟩,
         ⟨(some 7), none, .m (.alloc [(.v (.slice none 0 0))])⟩,
         ⟨none, none, .m (.st true 1 (.t 7) (.t 27))⟩,
         ⟨(some 8), none, .q (.mv (.t 28))⟩])
      (.seq (.reg [⟨(some 29), none, .q (.ld true 1 (.t 7))⟩,
         ⟨(some 30), none, .q (.mv (.t 8))⟩,
         ⟨none, none, .m (.st true 1 (.t 2) (.t 29))⟩,
         ⟨(some 3), none, .q (.mv (.t 30))⟩,
         ⟨(some 4), none, .q (.mv (.c (.int .i64 1)))⟩])
      .ret))
      (.seq (.reg [⟨(some 32), none, .q (.bin .eql (.t 14) (.c (.int .i64 2)))⟩,
         ⟨(some 31), none, .q (.mv (.t 32))⟩])
      (.cond (.t 31)
       (.seq (.reg [⟨(some 33), none, .m (.bsl 1 [(.c (.int .i64 2)), (.c (.int .i64 2)), (.c (.int .i64 2)), (.c (.int .i64 2)), (.c (.int .i64 2))])⟩,
          ⟨(some 34), none, .q (.bld [(.v (.slice none 0 0))] [(0, (.t 33))])⟩,
          ⟨(some 9), none, .m (.alloc [(.v (.slice none 0 0))])⟩,
          ⟨none, none, .m (.st true 1 (.t 9) (.t 34))⟩])
       (.seq (.reg [⟨(some 35), none, .q (.ld true 1 (.t 9))⟩,
          ⟨(some 36), none, .m (.bsl 1 [(.c (.int .i64 0)), (.c (.int .i64 31))])⟩,
          ⟨none, none, .m (.st true 1 (.t 2) (.t 35))⟩,
          ⟨(some 3), none, .q (.mv (.t 36))⟩,
          ⟨(some 4), none, .q (.mv (.c (.int .i64 2)))⟩])
       .ret))
       (.seq (.reg [⟨(some 38), none, .q (.bin .eql (.t 14) (.c (.int .i64 3)))⟩,
          ⟨(some 37), none, .q (.mv (.t 38))⟩])
       (.cond (.t 37)
        (.seq (.reg [⟨(some 39), none, .q (.mv (.t 0))⟩,
           ⟨(some 40), none, .c (.call 53 [(.t 39)])⟩,
           ⟨(some 10), none, .m (.alloc [(.v (.slice none 0 0))])⟩,
           ⟨none, none, .m (.st true 1 (.t 10) (.t 40))⟩])
        (.seq (.sch (.take 0 ⟨(some 41), none, .q (.ld true 1 (.t 10))⟩ (.take 1 ⟨(some 42), none, .q (.mv (.t 0))⟩ (.take 2 ⟨(some 43), none, .q (.ld true 1 (.t 10))⟩ (.take 6 ⟨(some 47), none, .q (.fad 0 (.t 10))⟩ (.take 7 ⟨(some 48), none, .q (.ld false 1 (.t 47))⟩ (.take 8 ⟨(some 49), none, .q (.len (.t 48))⟩ (.one ⟨(some 44), none, .c (.call 26 [(.t 43)])⟩ [2] (.one ⟨(some 45), none, .c (.call 51 [(.t 42), (.t 44)])⟩ [] (.two ⟨(some 46), none, .m (.bsl 1 [(.t 45)])⟩ [] (.one ⟨none, none, .m (.st true 1 (.t 2) (.t 41))⟩ [0] (.take 10 ⟨(some 3), none, .q (.mv (.t 46))⟩ (.take 11 ⟨(some 4), none, .q (.mv (.t 49))⟩ .done))) ⟨none, none, .m (.st true 1 (.t 2) (.t 41))⟩ [0] (.one ⟨(some 46), none, .m (.bsl 1 [(.t 45)])⟩ [] (.take 10 ⟨(some 3), none, .q (.mv (.t 46))⟩ (.take 11 ⟨(some 4), none, .q (.mv (.t 49))⟩ .done)))))))))))))
        .ret))
        .skip))))))))))
  (.seq (.reg [⟨(some 51), none, .c (.call 47 [(.c (.int .i64 2)), (.c (.int .i64 2))])⟩,
     ⟨(some 50), none, .q (.mv (.t 51))⟩,
     ⟨(some 52), none, .q (.ext (.t 50) 0)⟩,
     ⟨(some 53), none, .q (.ext (.t 50) 1)⟩,
     ⟨(some 11), none, .m (.alloc [(.v (.slice none 0 0))])⟩,
     ⟨none, none, .m (.st true 1 (.t 11) (.t 52))⟩,
     ⟨(some 12), none, .q (.mv (.t 53))⟩])
  (.seq (.reg [⟨(some 54), none, .q (.ld true 1 (.t 11))⟩,
     ⟨(some 55), none, .q (.mv (.t 12))⟩,
     ⟨none, none, .m (.st true 1 (.t 2) (.t 54))⟩,
     ⟨(some 3), none, .q (.mv (.t 55))⟩,
     ⟨(some 4), none, .q (.mv (.c (.int .i64 1)))⟩])
  .ret))))⟩
theorem l_spec_l06DrawPerfect : lowF PA f_spec_l06DrawPerfect 1 [.s (.take 0 (.take 1 (.take 2 (.take 6 (.take 7 (.take 8 (.one 3 (.one 4 (.two 5 (.one 9 (.take 10 (.take 11 .done))) 9 (.one 5 (.take 10 (.take 11 .done))))))))))))] = some c_spec_l06DrawPerfect := by kernel_rfl
abbrev f_spec_l01Next : FuncId := 51
def c_spec_l01Next : AF := ⟨2, 58, [.t 4],
  (.seq (.reg [⟨(some 4), none, .q (.mv (.c (.int .i64 0)))⟩])
  (.seq (.seq (.reg [⟨(some 6), none, .q (.mv (.t 1))⟩,
      ⟨(some 7), none, .q (.bin .lss (.t 6) (.c (.int .i64 1)))⟩])
   (.cond (.t 7)
    (.seq (.reg [⟨(some 4), none, .q (.mv (.c (.int .i64 0)))⟩])
    .ret)
    .skip))
  (.seq (.reg [⟨(some 8), none, .q (.mv (.t 0))⟩,
     ⟨(some 9), none, .q (.mv (.t 0))⟩,
     ⟨(some 10), none, .q (.nlc (.t 9))⟩,
     ⟨(some 11), none, .q (.fad 2 (.t 10))⟩,
     ⟨(some 12), none, .q (.ld false 1 (.t 11))⟩,
     ⟨(some 13), none, .q (.bin .mul (.t 12) (.c (.int .u64 6364136223846793005)))⟩,
     ⟨(some 14), none, .q (.bin .add (.t 13) (.c (.int .u64 1442695040888963407)))⟩,
     ⟨(some 15), none, .q (.nlc (.t 8))⟩,
     ⟨(some 16), none, .q (.fad 2 (.t 15))⟩,
     ⟨none, none, .m (.st false 1 (.t 16) (.t 14))⟩])
  (.seq (.reg [⟨(some 17), none, .q (.mv (.t 0))⟩,
     ⟨(some 18), none, .q (.nlc (.t 17))⟩,
     ⟨(some 19), none, .q (.fad 2 (.t 18))⟩,
     ⟨(some 20), none, .q (.ld false 1 (.t 19))⟩,
     ⟨(some 21), none, .q (.bin .shr (.t 20) (.c (.int .u64 33)))⟩,
     ⟨(some 22), none, .q (.bin .and (.t 21) (.c (.int .u64 16777215)))⟩,
     ⟨(some 23), none, .q (.cvt .i64 (.t 22))⟩,
     ⟨(some 5), none, .q (.mv (.t 23))⟩])
  (.seq (.seq (.sch (.take 0 ⟨(some 24), none, .q (.mv (.t 0))⟩ (.take 1 ⟨(some 25), none, .q (.nlc (.t 24))⟩ (.take 2 ⟨(some 26), none, .q (.fad 1 (.t 25))⟩ (.take 3 ⟨(some 27), none, .q (.ld false 1 (.t 26))⟩ (.take 4 ⟨(some 28), none, .q (.mv (.t 0))⟩ (.take 5 ⟨(some 29), none, .q (.nlc (.t 28))⟩ (.take 6 ⟨(some 30), none, .q (.fad 0 (.t 29))⟩ (.take 7 ⟨(some 31), none, .q (.ld false 1 (.t 30))⟩ (.take 8 ⟨(some 32), none, .q (.len (.t 31))⟩ (.take 9 ⟨(some 33), none, .q (.bin .lss (.t 27) (.t 32))⟩ .done)))))))))))
   (.cond (.t 33)
    (.seq (.sch (.take 0 ⟨(some 34), none, .q (.mv (.t 5))⟩ (.take 1 ⟨(some 35), none, .q (.mv (.t 0))⟩ (.take 2 ⟨(some 36), none, .q (.nlc (.t 35))⟩ (.take 3 ⟨(some 37), none, .q (.fad 0 (.t 36))⟩ (.take 4 ⟨(some 38), none, .q (.ld false 1 (.t 37))⟩ (.take 5 ⟨(some 39), none, .q (.mv (.t 0))⟩ (.take 6 ⟨(some 40), none, .q (.nlc (.t 39))⟩ (.take 7 ⟨(some 41), none, .q (.fad 1 (.t 40))⟩ (.take 8 ⟨(some 42), none, .q (.ld false 1 (.t 41))⟩ (.take 9 ⟨(some 43), none, .q (.ixs 1 (.t 38) (.t 42))⟩ (.take 10 ⟨(some 44), none, .q (.ld false 1 (.t 43))⟩ (.take 11 ⟨(some 45), none, .q (.cvt .i64 (.t 44))⟩ (.take 12 ⟨(some 46), none, .q (.bin .add (.t 34) (.t 45))⟩ (.take 13 ⟨(some 5), none, .q (.mv (.t 46))⟩ .done)))))))))))))))
    (.reg [⟨(some 47), none, .q (.mv (.t 0))⟩,
      ⟨(some 48), none, .q (.mv (.t 0))⟩,
      ⟨(some 49), none, .q (.nlc (.t 48))⟩,
      ⟨(some 50), none, .q (.fad 1 (.t 49))⟩,
      ⟨(some 51), none, .q (.ld false 1 (.t 50))⟩,
      ⟨(some 52), none, .q (.bin .add (.t 51) (.c (.int .i64 1)))⟩,
      ⟨(some 53), none, .q (.nlc (.t 47))⟩,
      ⟨(some 54), none, .q (.fad 1 (.t 53))⟩,
      ⟨none, none, .m (.st false 1 (.t 54) (.t 52))⟩]))
    .skip))
  (.seq (.reg [⟨(some 55), none, .q (.mv (.t 5))⟩,
     ⟨(some 56), none, .q (.mv (.t 1))⟩,
     ⟨(some 57), none, .q (.bin .rem (.t 55) (.t 56))⟩,
     ⟨(some 4), none, .q (.mv (.t 57))⟩])
  .ret))))))⟩
theorem l_spec_l01Next : lowF PA f_spec_l01Next 2 [.s (.take 0 (.take 1 (.take 2 (.take 3 (.take 4 (.take 5 (.take 6 (.take 7 (.take 8 (.take 9 .done)))))))))), .s (.take 0 (.take 1 (.take 2 (.take 3 (.take 4 (.take 5 (.take 6 (.take 7 (.take 8 (.take 9 (.take 10 (.take 11 (.take 12 (.take 13 .done))))))))))))))] = some c_spec_l01Next := by kernel_rfl
abbrev f_spec_l01Shifted : FuncId := 52
def c_spec_l01Shifted : AF := ⟨3, 26, [.t 6],
  (.seq (.reg [⟨(some 3), none, .m (.box (.t 0))⟩,
     ⟨(some 6), none, .q (.mv (.c (.slice none 0 0)))⟩])
  (.seq (.reg [⟨(some 9), none, .m (.bsl 1 [])⟩,
     ⟨(some 7), none, .q (.mv (.t 9))⟩])
  (.seq (.seq (.reg [⟨(some 10), none, .q (.mv (.t 1))⟩,
      ⟨(some 11), none, .q (.len (.t 10))⟩,
      ⟨(some 12), none, .q (.mv (.c (.int .i64 0)))⟩])
   (.block 0 (.loop [1, 2, 3, 7, 11, 12] (.seq (.reg [⟨(some 13), none, .q (.bin .lss (.t 12) (.t 11))⟩])
     (.seq (.cond (.t 13)
       .skip
       (.exit 0))
     (.seq (.block 1 (.seq (.reg [⟨(some 14), none, .q (.mv (.t 12))⟩,
          ⟨(some 8), none, .q (.mv (.t 14))⟩])
       (.sch (.take 0 ⟨(some 15), none, .q (.mv (.t 7))⟩ (.take 1 ⟨(some 16), none, .q (.ld true 1 (.t 3))⟩ (.take 2 ⟨(some 17), none, .q (.mv (.t 1))⟩ (.take 3 ⟨(some 18), none, .q (.mv (.t 8))⟩ (.take 4 ⟨(some 19), none, .q (.ixs 1 (.t 17) (.t 18))⟩ (.take 5 ⟨(some 20), none, .q (.ld false 1 (.t 19))⟩ (.take 6 ⟨(some 21), none, .q (.mv (.t 2))⟩ (.one ⟨(some 22), none, .c (.call 76 [(.t 16), (.t 20), (.t 21)])⟩ [5, 1] (.one ⟨(some 23), none, .c (.call 75 [(.t 15), (.t 22)])⟩ [] (.take 9 ⟨(some 7), none, .q (.mv (.t 23))⟩ .done)))))))))))))
     (.reg [⟨(some 24), none, .q (.bin .add (.t 12) (.c (.int .i64 1)))⟩,
       ⟨(some 12), none, .q (.mv (.t 24))⟩])))))))
  (.seq (.reg [⟨(some 25), none, .q (.mv (.t 7))⟩,
     ⟨(some 6), none, .q (.mv (.t 25))⟩])
  .ret))))⟩
theorem l_spec_l01Shifted : lowF PA f_spec_l01Shifted 3 [.k [1, 2, 3, 7, 11, 12], .s (.take 0 (.take 1 (.take 2 (.take 3 (.take 4 (.take 5 (.take 6 (.one 7 (.one 8 (.take 9 .done))))))))))] = some c_spec_l01Shifted := by kernel_rfl
abbrev f_spec_l01Small : FuncId := 53
def c_spec_l01Small : AF := ⟨1, 8, [.c 2 true 1],
  (.seq (.reg [⟨(some 2), none, .m (.alloc [(.v (.slice none 0 0))])⟩])
  (.seq (.reg [⟨(some 3), none, .q (.mv (.t 0))⟩,
     ⟨(some 4), none, .q (.mv (.t 0))⟩,
     ⟨(some 5), none, .m (.bsl 1 [(.c (.int .i64 8)), (.c (.int .i64 27)), (.c (.int .i64 81))])⟩,
     ⟨(some 6), none, .c (.call 57 [(.t 4), (.t 5)])⟩,
     ⟨(some 7), none, .c (.call 77 [(.t 3), (.t 6)])⟩,
     ⟨none, none, .m (.st true 1 (.t 2) (.t 7))⟩])
  .ret))⟩
theorem l_spec_l01Small : lowF PA f_spec_l01Small 1 [] = some c_spec_l01Small := by kernel_rfl
abbrev f_spec_l01DrawCode : FuncId := 54
def c_spec_l01DrawCode : AF := ⟨2, 109, [.t 4],
  (.seq (.reg [⟨(some 3), none, .m (.box (.t 1))⟩,
     ⟨(some 4), none, .q (.mv (.c (.slice none 0 0)))⟩])
  (.seq (.reg [⟨(some 17), none, .m (.bsl 1 [])⟩,
     ⟨(some 5), none, .q (.mv (.t 17))⟩])
  (.seq (.seq (.reg [⟨(some 18), none, .q (.mv (.t 0))⟩,
      ⟨(some 19), none, .c (.call 51 [(.t 18), (.c (.int .i64 4))])⟩])
   (.block 0 (.seq (.reg [⟨(some 21), none, .q (.bin .eql (.t 19) (.c (.int .i64 0)))⟩,
       ⟨(some 20), none, .q (.mv (.t 21))⟩])
    (.cond (.t 20)
     (.seq (.reg [⟨(some 22), none, .q (.mv (.t 0))⟩,
        ⟨(some 23), none, .m (.bsl 1 [(.c (.int .i64 2)), (.c (.int .i64 2)), (.c (.int .i64 3)), (.c (.int .i64 4))])⟩,
        ⟨(some 24), none, .c (.call 57 [(.t 22), (.t 23)])⟩,
        ⟨(some 25), none, .q (.mv (.t 0))⟩,
        ⟨(some 26), none, .c (.call 51 [(.t 25), (.c (.int .i64 2))])⟩,
        ⟨(some 6), none, .q (.mv (.t 24))⟩,
        ⟨(some 7), none, .q (.mv (.t 26))⟩])
     (.seq (.seq (.reg [⟨(some 8), none, .q (.mv (.c (.int .i64 0)))⟩])
      (.block 1 (.loop [3, 5, 6, 7, 8, 109] (.seq (.seq (.reg [⟨(some 27), none, .q (.mv (.t 8))⟩,
            ⟨(some 28), none, .q (.ld true 1 (.t 3))⟩,
            ⟨(some 29), none, .c (.call 26 [(.t 28)])⟩,
            ⟨(some 30), none, .q (.bin .lss (.t 27) (.t 29))⟩])
         (.cond (.t 30)
          .skip
          (.exit 1)))
        (.seq (.block 2 (.seq (.reg [⟨(some 33), none, .q (.ld true 1 (.t 3))⟩,
             ⟨(some 34), none, .q (.mv (.t 8))⟩,
             ⟨(some 35), none, .c (.call 71 [(.t 33), (.t 34)])⟩,
             ⟨(some 9), none, .q (.mv (.t 35))⟩,
             ⟨(some 10), none, .q (.mv (.c (.int .i64 0)))⟩])
          (.seq (.seq (.reg [⟨(some 36), none, .q (.mv (.t 9))⟩,
              ⟨(some 37), none, .q (.len (.t 36))⟩,
              ⟨(some 38), none, .q (.mv (.c (.int .i64 0)))⟩])
           (.block 3 (.loop [3, 5, 6, 7, 8, 9, 10, 37, 38, 109] (.seq (.reg [⟨(some 39), none, .q (.bin .lss (.t 38) (.t 37))⟩])
             (.seq (.cond (.t 39)
               .skip
               (.exit 3))
             (.seq (.block 4 (.seq (.reg [⟨(some 40), none, .q (.mv (.t 38))⟩,
                  ⟨(some 11), none, .q (.mv (.t 40))⟩])
               (.reg [⟨(some 41), none, .q (.mv (.t 10))⟩,
                 ⟨(some 42), none, .q (.mv (.t 9))⟩,
                 ⟨(some 43), none, .q (.mv (.t 11))⟩,
                 ⟨(some 44), none, .q (.ixs 1 (.t 42) (.t 43))⟩,
                 ⟨(some 45), none, .q (.ld false 1 (.t 44))⟩,
                 ⟨(some 46), none, .q (.bin .add (.t 41) (.t 45))⟩,
                 ⟨(some 10), none, .q (.mv (.t 46))⟩])))
             (.reg [⟨(some 47), none, .q (.bin .add (.t 38) (.c (.int .i64 1)))⟩,
               ⟨(some 38), none, .q (.mv (.t 47))⟩])))))))
          (.seq (.reg [⟨(some 48), none, .q (.mv (.t 10))⟩,
             ⟨(some 49), none, .q (.mv (.t 6))⟩,
             ⟨(some 50), none, .q (.bin .rem (.t 48) (.t 49))⟩,
             ⟨(some 51), none, .q (.mv (.t 7))⟩,
             ⟨(some 52), none, .q (.bin .eql (.t 50) (.t 51))⟩])
          (.cond (.t 52)
           (.reg [⟨(some 53), none, .q (.mv (.t 5))⟩,
             ⟨(some 54), none, .q (.mv (.t 8))⟩,
             ⟨(some 55), none, .m (.bsl 1 [(.t 54)])⟩,
             ⟨(some 56), none, .m (.app 1 8 (.t 53) (.t 55))⟩,
             ⟨(some 5), none, .q (.mv (.t 56))⟩])
           .skip)))))
        (.reg [⟨(some 31), none, .q (.mv (.t 8))⟩,
          ⟨(some 32), none, .q (.bin .add (.t 31) (.c (.int .i64 1)))⟩,
          ⟨(some 8), none, .q (.mv (.t 32))⟩]))))))
     (.seq (.reg [⟨(some 57), none, .q (.mv (.t 5))⟩,
        ⟨(some 4), none, .q (.mv (.t 57))⟩])
     .ret)))
     (.seq (.reg [⟨(some 59), none, .q (.bin .eql (.t 19) (.c (.int .i64 1)))⟩,
        ⟨(some 58), none, .q (.mv (.t 59))⟩])
     (.cond (.t 58)
      (.seq (.reg [⟨(some 60), none, .q (.mv (.t 0))⟩,
         ⟨(some 61), none, .m (.bsl 1 [(.c (.int .i64 2)), (.c (.int .i64 3)), (.c (.int .i64 3))])⟩,
         ⟨(some 62), none, .c (.call 57 [(.t 60), (.t 61)])⟩,
         ⟨(some 12), none, .q (.mv (.t 62))⟩])
      (.seq (.seq (.reg [⟨(some 13), none, .q (.mv (.c (.int .i64 0)))⟩])
       (.block 5 (.loop [3, 5, 12, 13, 109] (.seq (.seq (.reg [⟨(some 63), none, .q (.mv (.t 13))⟩,
             ⟨(some 64), none, .q (.ld true 1 (.t 3))⟩,
             ⟨(some 65), none, .c (.call 26 [(.t 64)])⟩,
             ⟨(some 66), none, .q (.bin .lss (.t 63) (.t 65))⟩])
          (.cond (.t 66)
           .skip
           (.exit 5)))
         (.seq (.block 6 (.seq (.reg [⟨(some 14), none, .q (.mv (.c (.bool true)))⟩])
           (.seq (.seq (.reg [⟨(some 69), none, .q (.mv (.t 5))⟩,
               ⟨(some 70), none, .q (.len (.t 69))⟩,
               ⟨(some 71), none, .q (.mv (.c (.int .i64 0)))⟩])
            (.block 7 (.loop [3, 5, 12, 13, 14, 70, 71, 109] (.seq (.reg [⟨(some 72), none, .q (.bin .lss (.t 71) (.t 70))⟩])
              (.seq (.cond (.t 72)
                .skip
                (.exit 7))
              (.seq (.block 8 (.seq (.reg [⟨(some 73), none, .q (.mv (.t 71))⟩,
                   ⟨(some 15), none, .q (.mv (.t 73))⟩])
                (.sch (.take 0 ⟨(some 74), none, .q (.mv (.t 14))⟩ (.take 1 ⟨(some 75), none, .q (.mv (.t 74))⟩ (.take 2 ⟨(some 76), (some (75, true)), .q (.ld true 1 (.t 3))⟩ (.take 3 ⟨(some 77), (some (75, true)), .q (.mv (.t 5))⟩ (.take 4 ⟨(some 78), (some (75, true)), .q (.mv (.t 15))⟩ (.take 5 ⟨(some 79), (some (75, true)), .q (.ixs 1 (.t 77) (.t 78))⟩ (.take 6 ⟨(some 80), (some (75, true)), .q (.ld false 1 (.t 79))⟩ (.take 7 ⟨(some 81), (some (75, true)), .q (.mv (.t 13))⟩ (.take 9 ⟨(some 83), (some (75, true)), .q (.mv (.t 12))⟩ (.one ⟨(some 82), (some (75, true)), .c (.call 37 [(.t 76), (.t 80), (.t 81)])⟩ [6, 2] (.take 10 ⟨(some 84), (some (75, true)), .q (.bin .geq (.t 82) (.t 83))⟩ (.take 11 ⟨(some 85), none, .q (.pick (.t 75) (.t 84) (.c (.bool false)))⟩ (.take 12 ⟨(some 14), none, .q (.mv (.t 85))⟩ .done))))))))))))))))
              (.reg [⟨(some 86), none, .q (.bin .add (.t 71) (.c (.int .i64 1)))⟩,
                ⟨(some 71), none, .q (.mv (.t 86))⟩])))))))
           (.seq (.reg [⟨(some 87), none, .q (.mv (.t 14))⟩])
           (.cond (.t 87)
            (.reg [⟨(some 88), none, .q (.mv (.t 5))⟩,
              ⟨(some 89), none, .q (.mv (.t 13))⟩,
              ⟨(some 90), none, .m (.bsl 1 [(.t 89)])⟩,
              ⟨(some 91), none, .m (.app 1 8 (.t 88) (.t 90))⟩,
              ⟨(some 5), none, .q (.mv (.t 91))⟩])
            .skip)))))
         (.reg [⟨(some 67), none, .q (.mv (.t 13))⟩,
           ⟨(some 68), none, .q (.bin .add (.t 67) (.c (.int .i64 1)))⟩,
           ⟨(some 13), none, .q (.mv (.t 68))⟩]))))))
      (.seq (.reg [⟨(some 92), none, .q (.mv (.t 5))⟩,
         ⟨(some 4), none, .q (.mv (.t 92))⟩])
      .ret)))
      .skip))))))
  (.seq (.seq (.reg [⟨(some 93), none, .q (.mv (.t 0))⟩,
      ⟨(some 94), none, .q (.mv (.t 0))⟩,
      ⟨(some 95), none, .m (.bsl 1 [(.c (.int .i64 3)), (.c (.int .i64 8)), (.c (.int .i64 20))])⟩,
      ⟨(some 96), none, .c (.call 57 [(.t 94), (.t 95)])⟩,
      ⟨(some 97), none, .c (.call 51 [(.t 93), (.t 96)])⟩,
      ⟨(some 16), none, .q (.mv (.t 97))⟩])
   (.block 9 (.loop [0, 3, 5, 16, 109] (.seq (.seq (.reg [⟨(some 98), none, .q (.mv (.t 16))⟩,
         ⟨(some 99), none, .q (.bin .gtr (.t 98) (.c (.int .i64 0)))⟩])
      (.cond (.t 99)
       .skip
       (.exit 9)))
     (.seq (.block 10 (.reg [⟨(some 102), none, .q (.mv (.t 5))⟩,
         ⟨(some 103), none, .q (.mv (.t 0))⟩,
         ⟨(some 104), none, .q (.ld true 1 (.t 3))⟩,
         ⟨(some 105), none, .c (.call 26 [(.t 104)])⟩,
         ⟨(some 106), none, .c (.call 51 [(.t 103), (.t 105)])⟩,
         ⟨(some 107), none, .c (.call 75 [(.t 102), (.t 106)])⟩,
         ⟨(some 5), none, .q (.mv (.t 107))⟩]))
     (.reg [⟨(some 100), none, .q (.mv (.t 16))⟩,
       ⟨(some 101), none, .q (.bin .sub (.t 100) (.c (.int .i64 1)))⟩,
       ⟨(some 16), none, .q (.mv (.t 101))⟩]))))))
  (.seq (.reg [⟨(some 108), none, .q (.mv (.t 5))⟩,
     ⟨(some 4), none, .q (.mv (.t 108))⟩])
  .ret)))))⟩
theorem l_spec_l01DrawCode : lowF PA f_spec_l01DrawCode 2 [.k [3, 5, 6, 7, 8, 109], .k [3, 5, 6, 7, 8, 9, 10, 37, 38, 109], .k [3, 5, 12, 13, 109], .k [3, 5, 12, 13, 14, 70, 71, 109], .s (.take 0 (.take 1 (.take 2 (.take 3 (.take 4 (.take 5 (.take 6 (.take 7 (.take 9 (.one 8 (.take 10 (.take 11 (.take 12 .done))))))))))))), .k [0, 3, 5, 16, 109]] = some c_spec_l01DrawCode := by kernel_rfl
abbrev f_spec_l01Bad : FuncId := 55
def c_spec_l01Bad : AF := ⟨2, 42, [.c 4 true 1],
  (.seq (.reg [⟨(some 3), none, .m (.box (.t 1))⟩,
     ⟨(some 4), none, .m (.alloc [(.v (.slice none 0 0))])⟩])
  (.seq (.reg [⟨(some 6), none, .q (.fad 0 (.t 3))⟩,
     ⟨(some 7), none, .q (.ld false 1 (.t 6))⟩,
     ⟨(some 8), none, .c (.call 78 [(.t 7)])⟩,
     ⟨(some 9), none, .q (.bld [(.v (.slice none 0 0))] [(0, (.t 8))])⟩,
     ⟨(some 5), none, .m (.alloc [(.v (.slice none 0 0))])⟩,
     ⟨none, none, .m (.st true 1 (.t 5) (.t 9))⟩])
  (.seq (.seq (.reg [⟨(some 10), none, .q (.mv (.t 0))⟩,
      ⟨(some 11), none, .c (.call 51 [(.t 10), (.c (.int .i64 50))])⟩])
   (.block 0 (.seq (.reg [⟨(some 13), none, .q (.bin .eql (.t 11) (.c (.int .i64 0)))⟩,
       ⟨(some 12), none, .q (.mv (.t 13))⟩])
    (.cond (.t 12)
     (.seq (.reg [⟨(some 14), none, .q (.bld [(.v (.slice none 0 0))] [])⟩,
        ⟨none, none, .m (.st true 1 (.t 4) (.t 14))⟩])
     .ret)
     (.seq (.reg [⟨(some 16), none, .q (.bin .eql (.t 11) (.c (.int .i64 1)))⟩,
        ⟨(some 15), none, .q (.mv (.t 16))⟩])
     (.cond (.t 15)
      (.seq (.sch (.take 0 ⟨(some 17), none, .q (.fad 0 (.t 5))⟩ (.take 1 ⟨(some 18), none, .q (.ld false 1 (.t 17))⟩ (.take 2 ⟨(some 19), none, .q (.mv (.t 0))⟩ (.take 3 ⟨(some 20), none, .q (.fad 0 (.t 5))⟩ (.take 4 ⟨(some 21), none, .q (.ld false 1 (.t 20))⟩ (.take 5 ⟨(some 22), none, .q (.len (.t 21))⟩ (.take 7 ⟨(some 24), none, .q (.mv (.t 0))⟩ (.two ⟨(some 23), none, .c (.call 51 [(.t 19), (.t 22)])⟩ [] (.one ⟨(some 25), none, .m (.bsl 1 [(.c (.int .i64 1)), (.c (.int .i64 5)), (.c (.int .i64 0)), (.c (.int .i64 (-1))), (.c (.int .i64 1099511627776))])⟩ [] (.one ⟨(some 26), none, .c (.call 57 [(.t 24), (.t 25)])⟩ [] (.take 10 ⟨(some 27), none, .q (.ixs 1 (.t 18) (.t 23))⟩ (.one ⟨none, none, .m (.st false 1 (.t 27) (.t 26))⟩ [4, 1] .done)))) ⟨(some 25), none, .m (.bsl 1 [(.c (.int .i64 1)), (.c (.int .i64 5)), (.c (.int .i64 0)), (.c (.int .i64 (-1))), (.c (.int .i64 1099511627776))])⟩ [] (.one ⟨(some 23), none, .c (.call 51 [(.t 19), (.t 22)])⟩ [] (.one ⟨(some 26), none, .c (.call 57 [(.t 24), (.t 25)])⟩ [] (.take 10 ⟨(some 27), none, .q (.ixs 1 (.t 18) (.t 23))⟩ (.one ⟨none, none, .m (.st false 1 (.t 27) (.t 26))⟩ [4, 1] .done)))))))))))))
      (.seq (.reg [⟨(some 28), none, .q (.ld true 1 (.t 5))⟩,
         ⟨none, none, .m (.st true 1 (.t 4) (.t 28))⟩])
      .ret))
      (.seq (.reg [⟨(some 30), none, .q (.bin .eql (.t 11) (.c (.int .i64 2)))⟩,
         ⟨(some 29), none, .q (.mv (.t 30))⟩])
      (.cond (.t 29)
       (.seq (.block 1 (.loop [4, 5, 42] (.seq (.seq (.reg [⟨(some 31), none, .q (.fad 0 (.t 5))⟩,
              ⟨(some 32), none, .q (.ld false 1 (.t 31))⟩,
              ⟨(some 33), none, .q (.len (.t 32))⟩,
              ⟨(some 34), none, .q (.bin .lss (.t 33) (.c (.int .i64 6)))⟩])
           (.cond (.t 34)
            .skip
            (.exit 1)))
          (.block 2 (.reg [⟨(some 35), none, .q (.fad 0 (.t 5))⟩,
             ⟨(some 36), none, .q (.ld false 1 (.t 35))⟩,
             ⟨(some 37), none, .m (.bsl 1 [(.c (.int .i64 4))])⟩,
             ⟨(some 38), none, .m (.app 1 8 (.t 36) (.t 37))⟩,
             ⟨(some 39), none, .q (.fad 0 (.t 5))⟩,
             ⟨none, none, .m (.st false 1 (.t 39) (.t 38))⟩])))))
       (.seq (.reg [⟨(some 40), none, .q (.ld true 1 (.t 5))⟩,
          ⟨none, none, .m (.st true 1 (.t 4) (.t 40))⟩])
       .ret))
       .skip))))))))
  (.seq (.reg [⟨(some 41), none, .q (.ld true 1 (.t 3))⟩,
     ⟨none, none, .m (.st true 1 (.t 4) (.t 41))⟩])
  .ret))))⟩
theorem l_spec_l01Bad : lowF PA f_spec_l01Bad 2 [.s (.take 0 (.take 1 (.take 2 (.take 3 (.take 4 (.take 5 (.take 7 (.two 6 (.one 8 (.one 9 (.take 10 (.one 11 .done)))) 8 (.one 6 (.one 9 (.take 10 (.one 11 .done)))))))))))), .k [4, 5, 42]] = some c_spec_l01Bad := by kernel_rfl
abbrev f_spec_l01BadCode : FuncId := 56
def c_spec_l01BadCode : AF := ⟨3, 33, [.t 6],
  (.seq (.reg [⟨(some 4), none, .m (.box (.t 1))⟩,
     ⟨(some 6), none, .q (.mv (.c (.slice none 0 0)))⟩])
  (.seq (.reg [⟨(some 8), none, .q (.mv (.t 2))⟩,
     ⟨(some 9), none, .c (.call 78 [(.t 8)])⟩,
     ⟨(some 7), none, .q (.mv (.t 9))⟩])
  (.seq (.seq (.reg [⟨(some 10), none, .q (.mv (.t 0))⟩,
      ⟨(some 11), none, .c (.call 51 [(.t 10), (.c (.int .i64 30))])⟩])
   (.block 0 (.seq (.reg [⟨(some 13), none, .q (.bin .eql (.t 11) (.c (.int .i64 0)))⟩,
       ⟨(some 12), none, .q (.mv (.t 13))⟩])
    (.cond (.t 12)
     (.seq (.reg [⟨(some 14), none, .q (.mv (.t 7))⟩,
        ⟨(some 15), none, .q (.mv (.t 0))⟩,
        ⟨(some 16), none, .q (.ld true 1 (.t 4))⟩,
        ⟨(some 17), none, .c (.call 26 [(.t 16)])⟩,
        ⟨(some 18), none, .m (.bsl 1 [(.c (.int .i64 (-1))), (.t 17), (.c (.int .i64 0)), (.c (.int .i64 1099511627776))])⟩,
        ⟨(some 19), none, .c (.call 57 [(.t 15), (.t 18)])⟩,
        ⟨(some 20), none, .m (.bsl 1 [(.t 19)])⟩,
        ⟨(some 21), none, .m (.app 1 8 (.t 14) (.t 20))⟩,
        ⟨(some 6), none, .q (.mv (.t 21))⟩])
     .ret)
     (.seq (.reg [⟨(some 23), none, .q (.bin .eql (.t 11) (.c (.int .i64 1)))⟩,
        ⟨(some 22), none, .q (.mv (.t 23))⟩])
     (.cond (.t 22)
      (.seq (.reg [⟨(some 24), none, .q (.mv (.t 7))⟩,
         ⟨(some 25), none, .q (.len (.t 24))⟩,
         ⟨(some 26), none, .q (.bin .gtr (.t 25) (.c (.int .i64 1)))⟩])
      (.cond (.t 26)
       (.reg [⟨(some 27), none, .q (.mv (.t 7))⟩,
         ⟨(some 28), none, .q (.mv (.t 7))⟩,
         ⟨(some 29), none, .q (.ixs 1 (.t 28) (.c (.int .i64 1)))⟩,
         ⟨(some 30), none, .q (.ld false 1 (.t 29))⟩,
         ⟨(some 31), none, .q (.ixs 1 (.t 27) (.c (.int .i64 0)))⟩,
         ⟨none, none, .m (.st false 1 (.t 31) (.t 30))⟩])
       .skip))
      .skip))))))
  (.seq (.reg [⟨(some 32), none, .q (.mv (.t 7))⟩,
     ⟨(some 6), none, .q (.mv (.t 32))⟩])
  .ret))))⟩
theorem l_spec_l01BadCode : lowF PA f_spec_l01BadCode 3 [] = some c_spec_l01BadCode := by kernel_rfl
abbrev f_spec_l01Pick : FuncId := 57
def c_spec_l01Pick : AF := ⟨2, 12, [.t 4],
  (.seq (.reg [⟨(some 4), none, .q (.mv (.c (.int .i64 0)))⟩])
  (.seq (.reg [⟨(some 5), none, .q (.mv (.t 1))⟩,
     ⟨(some 6), none, .q (.mv (.t 0))⟩,
     ⟨(some 7), none, .q (.mv (.t 1))⟩,
     ⟨(some 8), none, .q (.len (.t 7))⟩,
     ⟨(some 9), none, .c (.call 51 [(.t 6), (.t 8)])⟩,
     ⟨(some 10), none, .q (.ixs 1 (.t 5) (.t 9))⟩,
     ⟨(some 11), none, .q (.ld false 1 (.t 10))⟩,
     ⟨(some 4), none, .q (.mv (.t 11))⟩])
  .ret))⟩
theorem l_spec_l01Pick : lowF PA f_spec_l01Pick 2 [] = some c_spec_l01Pick := by kernel_rfl
abbrev f_impl_isCode : FuncId := 58
def c_impl_isCode : AF := ⟨2, 33, [.t 4],
  (.seq (.reg [⟨(some 2), none, .m (.box (.t 0))⟩,
     ⟨(some 4), none, .q (.mv (.c (.bool false)))⟩])
  (.seq (.seq (.reg [⟨(some 6), none, .q (.mv (.t 1))⟩,
      ⟨(some 7), none, .q (.len (.t 6))⟩,
      ⟨(some 8), none, .q (.ld true 1 (.t 2))⟩,
      ⟨(some 9), none, .c (.call 72 [(.t 8)])⟩,
      ⟨(some 10), none, .q (.bin .gtr (.t 7) (.t 9))⟩,
      ⟨(some 11), none, .q (.mv (.t 10))⟩,
      ⟨(some 12), (some (11, false)), .q (.ld true 1 (.t 2))⟩,
      ⟨(some 13), (some (11, false)), .q (.mv (.t 1))⟩,
      ⟨(some 14), (some (11, false)), .c (.call 74 [(.t 12), (.t 13)])⟩,
      ⟨(some 15), (some (11, false)), .q (.un .not (.t 14))⟩,
      ⟨(some 16), none, .q (.pick (.t 11) (.c (.bool true)) (.t 15))⟩])
   (.cond (.t 16)
    (.seq (.reg [⟨(some 4), none, .q (.mv (.c (.bool false)))⟩])
    .ret)
    .skip))
  (.seq (.seq (.reg [⟨(some 5), none, .q (.mv (.c (.int .i64 1)))⟩])
   (.block 0 (.loop [1, 5] (.seq (.seq (.reg [⟨(some 17), none, .q (.mv (.t 5))⟩,
         ⟨(some 18), none, .q (.mv (.t 1))⟩,
         ⟨(some 19), none, .q (.len (.t 18))⟩,
         ⟨(some 20), none, .q (.bin .lss (.t 17) (.t 19))⟩])
      (.cond (.t 20)
       .skip
       (.exit 0)))
     (.seq (.block 1 (.seq (.sch (.take 0 ⟨(some 23), none, .q (.mv (.t 1))⟩ (.take 1 ⟨(some 24), none, .q (.mv (.t 5))⟩ (.take 2 ⟨(some 25), none, .q (.ixs 1 (.t 23) (.t 24))⟩ (.take 3 ⟨(some 26), none, .q (.ld false 1 (.t 25))⟩ (.take 4 ⟨(some 27), none, .q (.mv (.t 1))⟩ (.take 5 ⟨(some 28), none, .q (.mv (.t 5))⟩ (.take 6 ⟨(some 29), none, .q (.bin .sub (.t 28) (.c (.int .i64 1)))⟩ (.take 7 ⟨(some 30), none, .q (.ixs 1 (.t 27) (.t 29))⟩ (.take 8 ⟨(some 31), none, .q (.ld false 1 (.t 30))⟩ (.take 9 ⟨(some 32), none, .q (.bin .leq (.t 26) (.t 31))⟩ .done)))))))))))
       (.cond (.t 32)
        (.seq (.reg [⟨(some 4), none, .q (.mv (.c (.bool false)))⟩])
        .ret)
        .skip)))
     (.reg [⟨(some 21), none, .q (.mv (.t 5))⟩,
       ⟨(some 22), none, .q (.bin .add (.t 21) (.c (.int .i64 1)))⟩,
       ⟨(some 5), none, .q (.mv (.t 22))⟩]))))))
  (.seq (.reg [⟨(some 4), none, .q (.mv (.c (.bool true)))⟩])
  .ret))))⟩
theorem l_impl_isCode : lowF PA f_impl_isCode 2 [.k [1, 5], .s (.take 0 (.take 1 (.take 2 (.take 3 (.take 4 (.take 5 (.take 6 (.take 7 (.take 8 (.take 9 .done))))))))))] = some c_impl_isCode := by kernel_rfl
abbrev f_slices_ContainsFunc___int64_int64_ : FuncId := 59
def c_slices_ContainsFunc___int64_int64_ : AF := ⟨2, 9, [.t 4],
  (.seq (.reg [⟨(some 4), none, .q (.mv (.c (.bool false)))⟩])
  (.seq (.reg [⟨(some 5), none, .q (.mv (.t 0))⟩,
     ⟨(some 6), none, .q (.mv (.t 1))⟩,
     ⟨(some 7), none, .c (.call 31 [(.t 5), (.t 6)])⟩,
     ⟨(some 8), none, .q (.bin .geq (.t 7) (.c (.int .i64 0)))⟩,
     ⟨(some 4), none, .q (.mv (.t 8))⟩])
  .ret))⟩
theorem l_slices_ContainsFunc___int64_int64_ : lowF PA f_slices_ContainsFunc___int64_int64_ 2 [] = some c_slices_ContainsFunc___int64_int64_ := by kernel_rfl
abbrev f_impl_isPerfect_1 : FuncId := 60
def c_impl_isPerfect_1 : AF := ⟨1, 5, [.t 2],
  (.seq (.reg [⟨(some 2), none, .q (.mv (.c (.bool false)))⟩])
  (.seq (.reg [⟨(some 3), none, .q (.mv (.t 0))⟩,
     ⟨(some 4), none, .q (.bin .neq (.t 3) (.c (.int .i64 1)))⟩,
     ⟨(some 2), none, .q (.mv (.t 4))⟩])
  .ret))⟩
theorem l_impl_isPerfect_1 : lowF PA f_impl_isPerfect_1 1 [] = some c_impl_isPerfect_1 := by kernel_rfl
abbrev f_impl_far : FuncId := 61
def c_impl_far : AF := ⟨2, 22, [.t 4],
  (.seq (.reg [⟨(some 2), none, .m (.box (.t 0))⟩,
     ⟨(some 3), none, .m (.box (.t 1))⟩,
     ⟨(some 4), none, .q (.mv (.c (.int .i64 0)))⟩])
  (.seq (.reg [⟨(some 5), none, .q (.mv (.c (.int .i64 0)))⟩])
  (.seq (.seq (.reg [⟨(some 8), none, .q (.ld true 8 (.t 2))⟩,
      ⟨(some 9), none, .q (.mv (.c (.int .i64 0)))⟩])
   (.block 0 (.loop [3, 5, 8, 9] (.seq (.reg [⟨(some 10), none, .q (.bin .lss (.t 9) (.c (.int .i64 8)))⟩])
     (.seq (.cond (.t 10)
       .skip
       (.exit 0))
     (.seq (.block 1 (.seq (.reg [⟨(some 11), none, .q (.mv (.t 9))⟩,
          ⟨(some 12), none, .q (.ixv 8 (.t 8) (.t 9))⟩,
          ⟨(some 6), none, .q (.mv (.t 11))⟩,
          ⟨(some 7), none, .q (.mv (.t 12))⟩])
       (.seq (.reg [⟨(some 13), none, .q (.mv (.t 7))⟩,
          ⟨(some 14), none, .q (.mv (.t 6))⟩,
          ⟨(some 15), none, .q (.ixa 8 1 (.t 3) (.t 14))⟩,
          ⟨(some 16), none, .q (.ld false 1 (.t 15))⟩,
          ⟨(some 17), none, .q (.bin .neq (.t 13) (.t 16))⟩])
       (.cond (.t 17)
        (.reg [⟨(some 18), none, .q (.mv (.t 5))⟩,
          ⟨(some 19), none, .q (.bin .add (.t 18) (.c (.int .i64 1)))⟩,
          ⟨(some 5), none, .q (.mv (.t 19))⟩])
        .skip))))
     (.reg [⟨(some 20), none, .q (.bin .add (.t 9) (.c (.int .i64 1)))⟩,
       ⟨(some 9), none, .q (.mv (.t 20))⟩])))))))
  (.seq (.reg [⟨(some 21), none, .q (.mv (.t 5))⟩,
     ⟨(some 4), none, .q (.mv (.t 21))⟩])
  .ret))))⟩
theorem l_impl_far : lowF PA f_impl_far 2 [.k [3, 5, 8, 9]] = some c_impl_far := by kernel_rfl
abbrev f_impl_digitsOf : FuncId := 62
def c_impl_digitsOf : AF := ⟨2, 34, [.c 4 true 8],
  (.seq (.reg [⟨(some 2), none, .m (.box (.t 0))⟩,
     ⟨(some 4), none, .m (.alloc [(.v (.int .u8 0)), (.v (.int .u8 0)), (.v (.int .u8 0)), (.v (.int .u8 0)), (.v (.int .u8 0)), (.v (.int .u8 0)), (.v (.int .u8 0)), (.v (.int .u8 0))])⟩])
  (.seq (.reg [⟨(some 7), none, .q (.bld [(.v (.int .u8 0)), (.v (.int .u8 0)), (.v (.int .u8 0)), (.v (.int .u8 0)), (.v (.int .u8 0)), (.v (.int .u8 0)), (.v (.int .u8 0)), (.v (.int .u8 0))] [])⟩,
     ⟨(some 5), none, .m (.alloc [(.v (.int .u8 0)), (.v (.int .u8 0)), (.v (.int .u8 0)), (.v (.int .u8 0)), (.v (.int .u8 0)), (.v (.int .u8 0)), (.v (.int .u8 0)), (.v (.int .u8 0))])⟩,
     ⟨none, none, .m (.st true 8 (.t 5) (.t 7))⟩])
  (.seq (.seq (.reg [⟨(some 8), none, .q (.fad 0 (.t 2))⟩,
      ⟨(some 9), none, .q (.ld false 1 (.t 8))⟩,
      ⟨(some 10), none, .q (.len (.t 9))⟩,
      ⟨(some 11), none, .q (.bin .sub (.t 10) (.c (.int .i64 1)))⟩,
      ⟨(some 6), none, .q (.mv (.t 11))⟩])
   (.block 0 (.loop [1, 2, 4, 5, 6] (.seq (.seq (.reg [⟨(some 12), none, .q (.mv (.t 6))⟩,
         ⟨(some 13), none, .q (.bin .geq (.t 12) (.c (.int .i64 0)))⟩])
      (.cond (.t 13)
       .skip
       (.exit 0)))
     (.seq (.block 1 (.seq (.reg [⟨(some 16), none, .q (.mv (.t 6))⟩,
          ⟨(some 17), none, .q (.mv (.t 1))⟩,
          ⟨(some 18), none, .q (.fad 0 (.t 2))⟩,
          ⟨(some 19), none, .q (.ld false 1 (.t 18))⟩,
          ⟨(some 20), none, .q (.mv (.t 6))⟩,
          ⟨(some 21), none, .q (.ixs 1 (.t 19) (.t 20))⟩,
          ⟨(some 22), none, .q (.ld false 1 (.t 21))⟩,
          ⟨(some 23), none, .q (.bin .rem (.t 17) (.t 22))⟩,
          ⟨(some 24), none, .q (.cvt .u8 (.t 23))⟩,
          ⟨(some 25), none, .q (.ixa 8 1 (.t 5) (.t 16))⟩,
          ⟨none, none, .m (.st false 1 (.t 25) (.t 24))⟩])
       (.reg [⟨(some 26), none, .q (.mv (.t 1))⟩,
         ⟨(some 27), none, .q (.fad 0 (.t 2))⟩,
         ⟨(some 28), none, .q (.ld false 1 (.t 27))⟩,
         ⟨(some 29), none, .q (.mv (.t 6))⟩,
         ⟨(some 30), none, .q (.ixs 1 (.t 28) (.t 29))⟩,
         ⟨(some 31), none, .q (.ld false 1 (.t 30))⟩,
         ⟨(some 32), none, .q (.bin .quo (.t 26) (.t 31))⟩,
         ⟨(some 1), none, .q (.mv (.t 32))⟩])))
     (.reg [⟨(some 14), none, .q (.mv (.t 6))⟩,
       ⟨(some 15), none, .q (.bin .sub (.t 14) (.c (.int .i64 1)))⟩,
       ⟨(some 6), none, .q (.mv (.t 15))⟩]))))))
  (.seq (.reg [⟨(some 33), none, .q (.ld true 8 (.t 5))⟩,
     ⟨none, none, .m (.st true 8 (.t 4) (.t 33))⟩])
  .ret))))⟩
theorem l_impl_digitsOf : lowF PA f_impl_digitsOf 2 [.k [1, 2, 4, 5, 6]] = some c_impl_digitsOf := by kernel_rfl
abbrev f_spec_l02Times : FuncId := 63
def c_spec_l02Times : AF := ⟨3, 43, [.t 6],
  (.seq (.reg [⟨(some 3), none, .m (.box (.t 0))⟩,
     ⟨(some 6), none, .q (.mv (.c (.slice none 0 0)))⟩])
  (.seq (.reg [⟨(some 11), none, .q (.ld true 1 (.t 3))⟩,
     ⟨(some 12), none, .c (.call 26 [(.t 11)])⟩,
     ⟨(some 13), none, .m (.mks 1 (.v (.int .i64 0)) 8 (.t 12) (.t 12))⟩,
     ⟨(some 7), none, .q (.mv (.t 13))⟩])
  (.seq (.seq (.reg [⟨(some 8), none, .q (.mv (.c (.int .i64 0)))⟩])
   (.block 0 (.loop [1, 2, 3, 7, 8] (.seq (.seq (.reg [⟨(some 14), none, .q (.mv (.t 8))⟩,
         ⟨(some 15), none, .q (.mv (.t 1))⟩,
         ⟨(some 16), none, .q (.len (.t 15))⟩,
         ⟨(some 17), none, .q (.bin .lss (.t 14) (.t 16))⟩])
      (.cond (.t 17)
       .skip
       (.exit 0)))
     (.seq (.block 1 (.seq (.sch (.take 0 ⟨(some 20), none, .q (.ld true 1 (.t 3))⟩ (.take 1 ⟨(some 21), none, .q (.mv (.t 1))⟩ (.take 2 ⟨(some 22), none, .q (.mv (.t 8))⟩ (.take 3 ⟨(some 23), none, .q (.ixs 1 (.t 21) (.t 22))⟩ (.take 4 ⟨(some 24), none, .q (.ld false 1 (.t 23))⟩ (.take 5 ⟨(some 25), none, .q (.mv (.t 2))⟩ (.one ⟨(some 26), none, .c (.call 79 [(.t 20), (.t 24), (.t 25)])⟩ [4, 0] (.take 7 ⟨(some 9), none, .q (.mv (.t 26))⟩ .done)))))))))
       (.seq (.reg [⟨(some 10), none, .q (.mv (.c (.int .i64 0)))⟩])
       (.block 2 (.loop [1, 2, 3, 7, 8, 9, 10] (.seq (.seq (.reg [⟨(some 27), none, .q (.mv (.t 10))⟩,
             ⟨(some 28), none, .q (.mv (.t 9))⟩,
             ⟨(some 29), none, .q (.len (.t 28))⟩,
             ⟨(some 30), none, .q (.bin .lss (.t 27) (.t 29))⟩])
          (.cond (.t 30)
           .skip
           (.exit 2)))
         (.seq (.block 3 (.reg [⟨(some 33), none, .q (.mv (.t 7))⟩,
             ⟨(some 34), none, .q (.mv (.t 9))⟩,
             ⟨(some 35), none, .q (.mv (.t 10))⟩,
             ⟨(some 36), none, .q (.ixs 1 (.t 34) (.t 35))⟩,
             ⟨(some 37), none, .q (.ld false 1 (.t 36))⟩,
             ⟨(some 38), none, .q (.ixs 1 (.t 33) (.t 37))⟩,
             ⟨(some 39), none, .q (.ld false 1 (.t 38))⟩,
             ⟨(some 40), none, .q (.bin .add (.t 39) (.c (.int .i64 1)))⟩,
             ⟨(some 41), none, .q (.ixs 1 (.t 33) (.t 37))⟩,
             ⟨none, none, .m (.st false 1 (.t 41) (.t 40))⟩]))
         (.reg [⟨(some 31), none, .q (.mv (.t 10))⟩,
           ⟨(some 32), none, .q (.bin .add (.t 31) (.c (.int .i64 1)))⟩,
           ⟨(some 10), none, .q (.mv (.t 32))⟩]))))))))
     (.reg [⟨(some 18), none, .q (.mv (.t 8))⟩,
       ⟨(some 19), none, .q (.bin .add (.t 18) (.c (.int .i64 1)))⟩,
       ⟨(some 8), none, .q (.mv (.t 19))⟩]))))))
  (.seq (.reg [⟨(some 42), none, .q (.mv (.t 7))⟩,
     ⟨(some 6), none, .q (.mv (.t 42))⟩])
  .ret))))⟩
theorem l_spec_l02Times : lowF PA f_spec_l02Times 3 [.k [1, 2, 3, 7, 8], .s (.take 0 (.take 1 (.take 2 (.take 3 (.take 4 (.take 5 (.one 6 (.take 7 .done)))))))), .k [1, 2, 3, 7, 8, 9, 10]] = some c_spec_l02Times := by kernel_rfl
abbrev f_spec_l01Code : FuncId := 64
def c_spec_l01Code : AF := ⟨2, 37, [.t 4],
  (.seq (.reg [⟨(some 2), none, .m (.box (.t 0))⟩,
     ⟨(some 4), none, .q (.mv (.c (.bool false)))⟩])
  (.seq (.seq (.reg [⟨(some 5), none, .q (.mv (.c (.int .i64 0)))⟩])
   (.block 0 (.loop [1, 2, 5] (.seq (.seq (.reg [⟨(some 6), none, .q (.mv (.t 5))⟩,
         ⟨(some 7), none, .q (.mv (.t 1))⟩,
         ⟨(some 8), none, .q (.len (.t 7))⟩,
         ⟨(some 9), none, .q (.bin .lss (.t 6) (.t 8))⟩])
      (.cond (.t 9)
       .skip
       (.exit 0)))
     (.seq (.block 1 (.seq (.sch (.take 0 ⟨(some 12), none, .q (.mv (.t 1))⟩ (.take 1 ⟨(some 13), none, .q (.mv (.t 5))⟩ (.take 2 ⟨(some 14), none, .q (.ixs 1 (.t 12) (.t 13))⟩ (.take 3 ⟨(some 15), none, .q (.ld false 1 (.t 14))⟩ (.take 4 ⟨(some 16), none, .q (.ld true 1 (.t 2))⟩ (.one ⟨(some 17), none, .c (.call 26 [(.t 16)])⟩ [4] (.take 6 ⟨(some 18), none, .q (.bin .sub (.t 17) (.c (.int .i64 1)))⟩ (.one ⟨(some 19), none, .c (.call 35 [(.t 15), (.c (.int .i64 0)), (.t 18)])⟩ [3] (.take 8 ⟨(some 20), none, .q (.un .not (.t 19))⟩ (.take 9 ⟨(some 21), none, .q (.mv (.t 20))⟩ (.take 10 ⟨(some 22), (some (21, false)), .q (.mv (.t 5))⟩ (.take 11 ⟨(some 23), (some (21, false)), .q (.bin .gtr (.t 22) (.c (.int .i64 0)))⟩ (.take 12 ⟨(some 24), (some (21, false)), .q (.mv (.t 23))⟩ (.take 13 ⟨(some 25), (some (24, true)), .q (.mv (.t 1))⟩ (.take 14 ⟨(some 26), (some (24, true)), .q (.mv (.t 5))⟩ (.take 15 ⟨(some 27), (some (24, true)), .q (.ixs 1 (.t 25) (.t 26))⟩ (.take 16 ⟨(some 28), (some (24, true)), .q (.ld false 1 (.t 27))⟩ (.take 17 ⟨(some 29), (some (24, true)), .q (.mv (.t 1))⟩ (.take 18 ⟨(some 30), (some (24, true)), .q (.mv (.t 5))⟩ (.take 19 ⟨(some 31), (some (24, true)), .q (.bin .sub (.t 30) (.c (.int .i64 1)))⟩ (.take 20 ⟨(some 32), (some (24, true)), .q (.ixs 1 (.t 29) (.t 31))⟩ (.take 21 ⟨(some 33), (some (24, true)), .q (.ld false 1 (.t 32))⟩ (.take 22 ⟨(some 34), (some (24, true)), .q (.bin .leq (.t 28) (.t 33))⟩ (.take 23 ⟨(some 35), (some (21, false)), .q (.pick (.t 24) (.t 34) (.c (.bool false)))⟩ (.take 24 ⟨(some 36), none, .q (.pick (.t 21) (.c (.bool true)) (.t 35))⟩ .done))))))))))))))))))))))))))
       (.cond (.t 36)
        (.seq (.reg [⟨(some 4), none, .q (.mv (.c (.bool false)))⟩])
        .ret)
        .skip)))
     (.reg [⟨(some 10), none, .q (.mv (.t 5))⟩,
       ⟨(some 11), none, .q (.bin .add (.t 10) (.c (.int .i64 1)))⟩,
       ⟨(some 5), none, .q (.mv (.t 11))⟩]))))))
  (.seq (.reg [⟨(some 4), none, .q (.mv (.c (.bool true)))⟩])
  .ret)))⟩
theorem l_spec_l01Code : lowF PA f_spec_l01Code 2 [.k [1, 2, 5], .s (.take 0 (.take 1 (.take 2 (.take 3 (.take 4 (.one 5 (.take 6 (.one 7 (.take 8 (.take 9 (.take 10 (.take 11 (.take 12 (.take 13 (.take 14 (.take 15 (.take 16 (.take 17 (.take 18 (.take 19 (.take 20 (.take 21 (.take 22 (.take 23 (.take 24 .done)))))))))))))))))))))))))] = some c_spec_l01Code := by kernel_rfl
abbrev f_slices_Clone___int64_int64_ : FuncId := 65
def c_slices_Clone___int64_int64_ : AF := ⟨1, 8, [.t 2],
  (.seq (.reg [⟨(some 2), none, .q (.mv (.c (.slice none 0 0)))⟩])
  (.seq (.seq (.reg [⟨(some 3), none, .q (.mv (.t 0))⟩,
      ⟨(some 4), none, .q (.isn false (.t 3))⟩])
   (.cond (.t 4)
    (.seq (.reg [⟨(some 2), none, .q (.mv (.c (.slice none 0 0)))⟩])
    .ret)
    .skip))
  (.seq (.reg [⟨(some 5), none, .m (.bsl 1 [])⟩,
     ⟨(some 6), none, .q (.mv (.t 0))⟩,
     ⟨(some 7), none, .m (.app 1 8 (.t 5) (.t 6))⟩,
     ⟨(some 2), none, .q (.mv (.t 7))⟩])
  .ret)))⟩
theorem l_slices_Clone___int64_int64_ : lowF PA f_slices_Clone___int64_int64_ 1 [] = some c_slices_Clone___int64_int64_ := by kernel_rfl
abbrev f_slices_DeleteFunc_____int64___int64_ : FuncId := 66
def c_slices_DeleteFunc_____int64___int64_ : AF := ⟨2, 42, [.t 4],
  (.seq (.reg [⟨(some 4), none, .q (.mv (.c (.slice none 0 0)))⟩])
  (.seq (.reg [⟨(some 8), none, .q (.mv (.t 0))⟩,
     ⟨(some 9), none, .q (.mv (.t 1))⟩,
     ⟨(some 10), none, .c (.call 80 [(.t 8), (.t 9)])⟩,
     ⟨(some 5), none, .q (.mv (.t 10))⟩])
  (.seq (.seq (.reg [⟨(some 11), none, .q (.mv (.t 5))⟩,
      ⟨(some 12), none, .q (.bin .eql (.t 11) (.c (.int .i64 (-1))))⟩])
   (.cond (.t 12)
    (.seq (.reg [⟨(some 13), none, .q (.mv (.t 0))⟩,
       ⟨(some 4), none, .q (.mv (.t 13))⟩])
    .ret)
    .skip))
  (.seq (.seq (.reg [⟨(some 14), none, .q (.mv (.t 5))⟩,
      ⟨(some 15), none, .q (.bin .add (.t 14) (.c (.int .i64 1)))⟩,
      ⟨(some 6), none, .q (.mv (.t 15))⟩])
   (.block 0 (.loop [0, 1, 5, 6, 42] (.seq (.seq (.reg [⟨(some 16), none, .q (.mv (.t 6))⟩,
         ⟨(some 17), none, .q (.mv (.t 0))⟩,
         ⟨(some 18), none, .q (.len (.t 17))⟩,
         ⟨(some 19), none, .q (.bin .lss (.t 16) (.t 18))⟩])
      (.cond (.t 19)
       .skip
       (.exit 0)))
     (.seq (.block 1 (.seq (.reg [⟨(some 22), none, .q (.mv (.t 0))⟩,
          ⟨(some 23), none, .q (.mv (.t 6))⟩,
          ⟨(some 24), none, .q (.ixs 1 (.t 22) (.t 23))⟩,
          ⟨(some 25), none, .q (.ld false 1 (.t 24))⟩,
          ⟨(some 7), none, .q (.mv (.t 25))⟩])
       (.seq (.reg [⟨(some 26), none, .q (.mv (.t 1))⟩,
          ⟨(some 27), none, .q (.mv (.t 7))⟩,
          ⟨(some 28), none, .c (.cav (.t 26) [(.t 27)])⟩,
          ⟨(some 29), none, .q (.un .not (.t 28))⟩])
       (.cond (.t 29)
        (.seq (.reg [⟨(some 30), none, .q (.mv (.t 0))⟩,
           ⟨(some 31), none, .q (.mv (.t 5))⟩,
           ⟨(some 32), none, .q (.mv (.t 7))⟩,
           ⟨(some 33), none, .q (.ixs 1 (.t 30) (.t 31))⟩,
           ⟨none, none, .m (.st false 1 (.t 33) (.t 32))⟩])
        (.reg [⟨(some 34), none, .q (.mv (.t 5))⟩,
          ⟨(some 35), none, .q (.bin .add (.t 34) (.c (.int .i64 1)))⟩,
          ⟨(some 5), none, .q (.mv (.t 35))⟩]))
        .skip))))
     (.reg [⟨(some 20), none, .q (.mv (.t 6))⟩,
       ⟨(some 21), none, .q (.bin .add (.t 20) (.c (.int .i64 1)))⟩,
       ⟨(some 6), none, .q (.mv (.t 21))⟩]))))))
  (.seq (.reg [⟨(some 36), none, .q (.mv (.t 0))⟩,
     ⟨(some 37), none, .q (.mv (.t 5))⟩,
     ⟨(some 38), none, .q (.slc 1 (.t 36) (some (.t 37)) none)⟩,
     ⟨none, none, .m (.clr 1 (.v (.slice none 0 0)) (.t 38))⟩])
  (.seq (.reg [⟨(some 39), none, .q (.mv (.t 0))⟩,
     ⟨(some 40), none, .q (.mv (.t 5))⟩,
     ⟨(some 41), none, .q (.slc 1 (.t 39) none (some (.t 40)))⟩,
     ⟨(some 4), none, .q (.mv (.t 41))⟩])
  .ret))))))⟩
theorem l_slices_DeleteFunc_____int64___int64_ : lowF PA f_slices_DeleteFunc_____int64___int64_ 2 [.k [0, 1, 5, 6, 42]] = some c_slices_DeleteFunc_____int64___int64_ := by kernel_rfl
abbrev f_impl_columnsFor_1 : FuncId := 67
def c_impl_columnsFor_1 : AF := ⟨1, 15, [.t 2],
  (.seq (.reg [⟨(some 2), none, .q (.mv (.c (.bool false)))⟩])
  (.seq (.reg [⟨(some 4), none, .q (.mv (.t 0))⟩,
     ⟨(some 5), none, .c (.call 31 [(.t 4), (.f 68)])⟩,
     ⟨(some 3), none, .q (.mv (.t 5))⟩])
  (.seq (.reg [⟨(some 6), none, .q (.mv (.t 3))⟩,
     ⟨(some 7), none, .q (.bin .lss (.t 6) (.c (.int .i64 0)))⟩,
     ⟨(some 8), none, .q (.mv (.t 7))⟩,
     ⟨(some 9), (some (8, false)), .q (.mv (.t 0))⟩,
     ⟨(some 10), (some (8, false)), .q (.mv (.t 3))⟩,
     ⟨(some 11), (some (8, false)), .q (.ixs 1 (.t 9) (.t 10))⟩,
     ⟨(some 12), (some (8, false)), .q (.ld false 1 (.t 11))⟩,
     ⟨(some 13), (some (8, false)), .q (.bin .neq (.t 12) (.c (.int .i64 1)))⟩,
     ⟨(some 14), none, .q (.pick (.t 8) (.c (.bool true)) (.t 13))⟩,
     ⟨(some 2), none, .q (.mv (.t 14))⟩])
  .ret)))⟩
theorem l_impl_columnsFor_1 : lowF PA f_impl_columnsFor_1 1 [] = some c_impl_columnsFor_1 := by kernel_rfl
abbrev f_impl_columnsFor_1_1 : FuncId := 68
def c_impl_columnsFor_1_1 : AF := ⟨1, 5, [.t 2],
  (.seq (.reg [⟨(some 2), none, .q (.mv (.c (.bool false)))⟩])
  (.seq (.reg [⟨(some 3), none, .q (.mv (.t 0))⟩,
     ⟨(some 4), none, .q (.bin .neq (.t 3) (.c (.int .i64 0)))⟩,
     ⟨(some 2), none, .q (.mv (.t 4))⟩])
  .ret))⟩
theorem l_impl_columnsFor_1_1 : lowF PA f_impl_columnsFor_1_1 1 [] = some c_impl_columnsFor_1_1 := by kernel_rfl
abbrev f_math_bits_Mul : FuncId := 69
def c_math_bits_Mul : AF := ⟨2, 30, [.t 4, .t 5],
  (.seq (.reg [⟨(some 4), none, .q (.mv (.c (.int .u64 0)))⟩,
     ⟨(some 5), none, .q (.mv (.c (.int .u64 0)))⟩])
  (.seq (.cond (.c (.bool false))
    (.seq (.reg [⟨(some 11), none, .q (.mv (.t 0))⟩,
       ⟨(some 12), none, .q (.cvt .u32 (.t 11))⟩,
       ⟨(some 13), none, .q (.mv (.t 1))⟩,
       ⟨(some 14), none, .q (.cvt .u32 (.t 13))⟩,
       ⟨(some 15), none, .c (.call 81 [(.t 12), (.t 14)])⟩,
       ⟨(some 10), none, .q (.mv (.t 15))⟩,
       ⟨(some 16), none, .q (.ext (.t 10) 0)⟩,
       ⟨(some 17), none, .q (.ext (.t 10) 1)⟩,
       ⟨(some 6), none, .q (.mv (.t 16))⟩,
       ⟨(some 7), none, .q (.mv (.t 17))⟩])
    (.seq (.reg [⟨(some 18), none, .q (.mv (.t 6))⟩,
       ⟨(some 19), none, .q (.cvt .u64 (.t 18))⟩,
       ⟨(some 20), none, .q (.mv (.t 7))⟩,
       ⟨(some 21), none, .q (.cvt .u64 (.t 20))⟩,
       ⟨(some 4), none, .q (.mv (.t 19))⟩,
       ⟨(some 5), none, .q (.mv (.t 21))⟩])
    .ret))
    .skip)
  (.seq (.reg [⟨(some 23), none, .q (.mv (.t 0))⟩,
     ⟨(some 24), none, .q (.mv (.t 1))⟩,
     ⟨(some 25), none, .c (.call 82 [(.t 23), (.t 24)])⟩,
     ⟨(some 22), none, .q (.mv (.t 25))⟩,
     ⟨(some 26), none, .q (.ext (.t 22) 0)⟩,
     ⟨(some 27), none, .q (.ext (.t 22) 1)⟩,
     ⟨(some 8), none, .q (.mv (.t 26))⟩,
     ⟨(some 9), none, .q (.mv (.t 27))⟩])
  (.seq (.reg [⟨(some 28), none, .q (.mv (.t 8))⟩,
     ⟨(some 29), none, .q (.mv (.t 9))⟩,
     ⟨(some 4), none, .q (.mv (.t 28))⟩,
     ⟨(some 5), none, .q (.mv (.t 29))⟩])
  .ret))))⟩
theorem l_math_bits_Mul : lowF PA f_math_bits_Mul 2 [] = some c_math_bits_Mul := by kernel_rfl
abbrev f_impl_allDigits : FuncId := 70
def c_impl_allDigits : AF := ⟨1, 19, [.t 2],
  (.seq (.reg [⟨(some 1), none, .m (.box (.t 0))⟩,
     ⟨(some 2), none, .q (.mv (.c (.slice none 0 0)))⟩])
  (.seq (.reg [⟨(some 5), none, .m (.bsl 8 [])⟩,
     ⟨(some 3), none, .q (.mv (.t 5))⟩])
  (.seq (.seq (.reg [⟨(some 6), none, .q (.ld true 1 (.t 1))⟩,
      ⟨(some 7), none, .c (.call 72 [(.t 6)])⟩,
      ⟨(some 8), none, .q (.mv (.c (.int .i64 0)))⟩])
   (.block 0 (.loop [1, 3, 7, 8] (.seq (.reg [⟨(some 9), none, .q (.bin .lss (.t 8) (.t 7))⟩])
     (.seq (.cond (.t 9)
       .skip
       (.exit 0))
     (.seq (.block 1 (.seq (.reg [⟨(some 10), none, .q (.mv (.t 8))⟩,
          ⟨(some 4), none, .q (.mv (.t 10))⟩])
       (.reg [⟨(some 11), none, .q (.mv (.t 3))⟩,
         ⟨(some 12), none, .q (.ld true 1 (.t 1))⟩,
         ⟨(some 13), none, .q (.mv (.t 4))⟩,
         ⟨(some 14), none, .c (.call 62 [(.t 12), (.t 13)])⟩,
         ⟨(some 15), none, .m (.bsl 8 [(.t 14)])⟩,
         ⟨(some 16), none, .m (.app 8 8 (.t 11) (.t 15))⟩,
         ⟨(some 3), none, .q (.mv (.t 16))⟩])))
     (.reg [⟨(some 17), none, .q (.bin .add (.t 8) (.c (.int .i64 1)))⟩,
       ⟨(some 8), none, .q (.mv (.t 17))⟩])))))))
  (.seq (.reg [⟨(some 18), none, .q (.mv (.t 3))⟩,
     ⟨(some 2), none, .q (.mv (.t 18))⟩])
  .ret))))⟩
theorem l_impl_allDigits : lowF PA f_impl_allDigits 1 [.k [1, 3, 7, 8]] = some c_impl_allDigits := by kernel_rfl
abbrev f_spec_l01Digits : FuncId := 71
def c_spec_l01Digits : AF := ⟨2, 37, [.t 4],
  (.seq (.reg [⟨(some 2), none, .m (.box (.t 0))⟩,
     ⟨(some 4), none, .q (.mv (.c (.slice none 0 0)))⟩])
  (.seq (.reg [⟨(some 7), none, .q (.fad 0 (.t 2))⟩,
     ⟨(some 8), none, .q (.ld false 1 (.t 7))⟩,
     ⟨(some 9), none, .q (.len (.t 8))⟩,
     ⟨(some 10), none, .m (.mks 1 (.v (.int .i64 0)) 8 (.t 9) (.t 9))⟩,
     ⟨(some 5), none, .q (.mv (.t 10))⟩])
  (.seq (.seq (.reg [⟨(some 11), none, .q (.fad 0 (.t 2))⟩,
      ⟨(some 12), none, .q (.ld false 1 (.t 11))⟩,
      ⟨(some 13), none, .q (.len (.t 12))⟩,
      ⟨(some 14), none, .q (.bin .sub (.t 13) (.c (.int .i64 1)))⟩,
      ⟨(some 6), none, .q (.mv (.t 14))⟩])
   (.block 0 (.loop [1, 2, 5, 6] (.seq (.seq (.reg [⟨(some 15), none, .q (.mv (.t 6))⟩,
         ⟨(some 16), none, .q (.bin .geq (.t 15) (.c (.int .i64 0)))⟩])
      (.cond (.t 16)
       .skip
       (.exit 0)))
     (.seq (.block 1 (.seq (.reg [⟨(some 19), none, .q (.mv (.t 5))⟩,
          ⟨(some 20), none, .q (.mv (.t 6))⟩,
          ⟨(some 21), none, .q (.mv (.t 1))⟩,
          ⟨(some 22), none, .q (.fad 0 (.t 2))⟩,
          ⟨(some 23), none, .q (.ld false 1 (.t 22))⟩,
          ⟨(some 24), none, .q (.mv (.t 6))⟩,
          ⟨(some 25), none, .q (.ixs 1 (.t 23) (.t 24))⟩,
          ⟨(some 26), none, .q (.ld false 1 (.t 25))⟩,
          ⟨(some 27), none, .q (.bin .rem (.t 21) (.t 26))⟩,
          ⟨(some 28), none, .q (.ixs 1 (.t 19) (.t 20))⟩,
          ⟨none, none, .m (.st false 1 (.t 28) (.t 27))⟩])
       (.reg [⟨(some 29), none, .q (.mv (.t 1))⟩,
         ⟨(some 30), none, .q (.fad 0 (.t 2))⟩,
         ⟨(some 31), none, .q (.ld false 1 (.t 30))⟩,
         ⟨(some 32), none, .q (.mv (.t 6))⟩,
         ⟨(some 33), none, .q (.ixs 1 (.t 31) (.t 32))⟩,
         ⟨(some 34), none, .q (.ld false 1 (.t 33))⟩,
         ⟨(some 35), none, .q (.bin .quo (.t 29) (.t 34))⟩,
         ⟨(some 1), none, .q (.mv (.t 35))⟩])))
     (.reg [⟨(some 17), none, .q (.mv (.t 6))⟩,
       ⟨(some 18), none, .q (.bin .sub (.t 17) (.c (.int .i64 1)))⟩,
       ⟨(some 6), none, .q (.mv (.t 18))⟩]))))))
  (.seq (.reg [⟨(some 36), none, .q (.mv (.t 5))⟩,
     ⟨(some 4), none, .q (.mv (.t 36))⟩])
  .ret))))⟩
theorem l_spec_l01Digits : lowF PA f_spec_l01Digits 2 [.k [1, 2, 5, 6]] = some c_spec_l01Digits := by kernel_rfl
abbrev f_impl_count : FuncId := 72
def c_impl_count : AF := ⟨1, 18, [.t 2],
  (.seq (.reg [⟨(some 1), none, .m (.box (.t 0))⟩,
     ⟨(some 2), none, .q (.mv (.c (.int .i64 0)))⟩])
  (.seq (.reg [⟨(some 3), none, .q (.mv (.c (.int .i64 1)))⟩])
  (.seq (.seq (.reg [⟨(some 6), none, .q (.fad 0 (.t 1))⟩,
      ⟨(some 7), none, .q (.ld false 1 (.t 6))⟩,
      ⟨(some 8), none, .q (.len (.t 7))⟩,
      ⟨(some 9), none, .q (.mv (.c (.int .i64 0)))⟩])
   (.block 0 (.loop [3, 7, 8, 9] (.seq (.reg [⟨(some 10), none, .q (.bin .lss (.t 9) (.t 8))⟩])
     (.seq (.cond (.t 10)
       .skip
       (.exit 0))
     (.seq (.block 1 (.seq (.reg [⟨(some 11), none, .q (.ixs 1 (.t 7) (.t 9))⟩,
          ⟨(some 12), none, .q (.ld false 1 (.t 11))⟩,
          ⟨(some 5), none, .q (.mv (.t 12))⟩])
       (.reg [⟨(some 13), none, .q (.mv (.t 3))⟩,
         ⟨(some 14), none, .q (.mv (.t 5))⟩,
         ⟨(some 15), none, .q (.bin .mul (.t 13) (.t 14))⟩,
         ⟨(some 3), none, .q (.mv (.t 15))⟩])))
     (.reg [⟨(some 16), none, .q (.bin .add (.t 9) (.c (.int .i64 1)))⟩,
       ⟨(some 9), none, .q (.mv (.t 16))⟩])))))))
  (.seq (.reg [⟨(some 17), none, .q (.mv (.t 3))⟩,
     ⟨(some 2), none, .q (.mv (.t 17))⟩])
  .ret))))⟩
theorem l_impl_count : lowF PA f_impl_count 1 [.k [3, 7, 8, 9]] = some c_impl_count := by kernel_rfl
abbrev f_impl_IsSpace : FuncId := 73
def c_impl_IsSpace : AF := ⟨1, 35, [.t 2],
  (.seq (.reg [⟨(some 1), none, .m (.box (.t 0))⟩,
     ⟨(some 2), none, .q (.mv (.c (.bool false)))⟩])
  (.seq (.seq (.reg [⟨(some 6), none, .q (.fad 0 (.t 1))⟩,
      ⟨(some 7), none, .q (.ld false 1 (.t 6))⟩,
      ⟨(some 8), none, .q (.len (.t 7))⟩,
      ⟨(some 9), none, .q (.bin .lss (.t 8) (.c (.int .i64 1)))⟩,
      ⟨(some 10), none, .q (.mv (.t 9))⟩,
      ⟨(some 11), (some (10, false)), .q (.fad 0 (.t 1))⟩,
      ⟨(some 12), (some (10, false)), .q (.ld false 1 (.t 11))⟩,
      ⟨(some 13), (some (10, false)), .q (.len (.t 12))⟩,
      ⟨(some 14), (some (10, false)), .q (.bin .gtr (.t 13) (.c (.int .i64 8)))⟩,
      ⟨(some 15), none, .q (.pick (.t 10) (.c (.bool true)) (.t 14))⟩])
   (.cond (.t 15)
    (.seq (.reg [⟨(some 2), none, .q (.mv (.c (.bool false)))⟩])
    .ret)
    .skip))
  (.seq (.reg [⟨(some 3), none, .q (.mv (.c (.int .i64 1)))⟩])
  (.seq (.seq (.reg [⟨(some 16), none, .q (.fad 0 (.t 1))⟩,
      ⟨(some 17), none, .q (.ld false 1 (.t 16))⟩,
      ⟨(some 18), none, .q (.len (.t 17))⟩,
      ⟨(some 19), none, .q (.mv (.c (.int .i64 0)))⟩])
   (.block 0 (.loop [3, 17, 18, 19] (.seq (.reg [⟨(some 20), none, .q (.bin .lss (.t 19) (.t 18))⟩])
     (.seq (.cond (.t 20)
       .skip
       (.exit 0))
     (.seq (.block 1 (.seq (.reg [⟨(some 21), none, .q (.ixs 1 (.t 17) (.t 19))⟩,
          ⟨(some 22), none, .q (.ld false 1 (.t 21))⟩,
          ⟨(some 5), none, .q (.mv (.t 22))⟩])
       (.seq (.seq (.reg [⟨(some 23), none, .q (.mv (.t 5))⟩,
           ⟨(some 24), none, .q (.bin .lss (.t 23) (.c (.int .i64 2)))⟩,
           ⟨(some 25), none, .q (.mv (.t 24))⟩,
           ⟨(some 26), (some (25, false)), .q (.mv (.t 5))⟩,
           ⟨(some 27), (some (25, false)), .q (.bin .gtr (.t 26) (.c (.int .i64 4)))⟩,
           ⟨(some 28), none, .q (.pick (.t 25) (.c (.bool true)) (.t 27))⟩])
        (.cond (.t 28)
         (.seq (.reg [⟨(some 2), none, .q (.mv (.c (.bool false)))⟩])
         .ret)
         .skip))
       (.reg [⟨(some 29), none, .q (.mv (.t 3))⟩,
         ⟨(some 30), none, .q (.mv (.t 5))⟩,
         ⟨(some 31), none, .q (.bin .mul (.t 29) (.t 30))⟩,
         ⟨(some 3), none, .q (.mv (.t 31))⟩]))))
     (.reg [⟨(some 32), none, .q (.bin .add (.t 19) (.c (.int .i64 1)))⟩,
       ⟨(some 19), none, .q (.mv (.t 32))⟩])))))))
  (.seq (.reg [⟨(some 33), none, .q (.mv (.t 3))⟩,
     ⟨(some 34), none, .q (.bin .leq (.t 33) (.c (.int .i64 1024)))⟩,
     ⟨(some 2), none, .q (.mv (.t 34))⟩])
  .ret)))))⟩
theorem l_impl_IsSpace : lowF PA f_impl_IsSpace 1 [.k [3, 17, 18, 19]] = some c_impl_IsSpace := by kernel_rfl
abbrev f_impl_areWords : FuncId := 74
def c_impl_areWords : AF := ⟨2, 24, [.t 4],
  (.seq (.reg [⟨(some 2), none, .m (.box (.t 0))⟩,
     ⟨(some 4), none, .q (.mv (.c (.bool false)))⟩])
  (.seq (.reg [⟨(some 8), none, .q (.ld true 1 (.t 2))⟩,
     ⟨(some 9), none, .c (.call 72 [(.t 8)])⟩,
     ⟨(some 5), none, .q (.mv (.t 9))⟩])
  (.seq (.seq (.reg [⟨(some 10), none, .q (.mv (.t 1))⟩,
      ⟨(some 11), none, .q (.len (.t 10))⟩,
      ⟨(some 12), none, .q (.mv (.c (.int .i64 0)))⟩])
   (.block 0 (.loop [5, 10, 11, 12] (.seq (.reg [⟨(some 13), none, .q (.bin .lss (.t 12) (.t 11))⟩])
     (.seq (.cond (.t 13)
       .skip
       (.exit 0))
     (.seq (.block 1 (.seq (.reg [⟨(some 14), none, .q (.ixs 1 (.t 10) (.t 12))⟩,
          ⟨(some 15), none, .q (.ld false 1 (.t 14))⟩,
          ⟨(some 7), none, .q (.mv (.t 15))⟩])
       (.seq (.reg [⟨(some 16), none, .q (.mv (.t 7))⟩,
          ⟨(some 17), none, .q (.bin .lss (.t 16) (.c (.int .i64 0)))⟩,
          ⟨(some 18), none, .q (.mv (.t 17))⟩,
          ⟨(some 19), (some (18, false)), .q (.mv (.t 7))⟩,
          ⟨(some 20), (some (18, false)), .q (.mv (.t 5))⟩,
          ⟨(some 21), (some (18, false)), .q (.bin .geq (.t 19) (.t 20))⟩,
          ⟨(some 22), none, .q (.pick (.t 18) (.c (.bool true)) (.t 21))⟩])
       (.cond (.t 22)
        (.seq (.reg [⟨(some 4), none, .q (.mv (.c (.bool false)))⟩])
        .ret)
        .skip))))
     (.reg [⟨(some 23), none, .q (.bin .add (.t 12) (.c (.int .i64 1)))⟩,
       ⟨(some 12), none, .q (.mv (.t 23))⟩])))))))
  (.seq (.reg [⟨(some 4), none, .q (.mv (.c (.bool true)))⟩])
  .ret))))⟩
theorem l_impl_areWords : lowF PA f_impl_areWords 2 [.k [5, 10, 11, 12]] = some c_impl_areWords := by kernel_rfl
abbrev f_spec_l01Put : FuncId := 75
def c_spec_l01Put : AF := ⟨2, 46, [.t 4],
  (.seq (.reg [⟨(some 4), none, .q (.mv (.c (.slice none 0 0)))⟩])
  (.seq (.reg [⟨(some 7), none, .q (.mv (.t 0))⟩,
     ⟨(some 8), none, .q (.len (.t 7))⟩,
     ⟨(some 5), none, .q (.mv (.t 8))⟩])
  (.seq (.block 0 (.loop [0, 1, 5] (.seq (.seq (.reg [⟨(some 9), none, .q (.mv (.t 5))⟩,
         ⟨(some 10), none, .q (.bin .gtr (.t 9) (.c (.int .i64 0)))⟩,
         ⟨(some 11), none, .q (.mv (.t 10))⟩,
         ⟨(some 12), (some (11, true)), .q (.mv (.t 0))⟩,
         ⟨(some 13), (some (11, true)), .q (.mv (.t 5))⟩,
         ⟨(some 14), (some (11, true)), .q (.bin .sub (.t 13) (.c (.int .i64 1)))⟩,
         ⟨(some 15), (some (11, true)), .q (.ixs 1 (.t 12) (.t 14))⟩,
         ⟨(some 16), (some (11, true)), .q (.ld false 1 (.t 15))⟩,
         ⟨(some 17), (some (11, true)), .q (.mv (.t 1))⟩,
         ⟨(some 18), (some (11, true)), .q (.bin .gtr (.t 16) (.t 17))⟩,
         ⟨(some 19), none, .q (.pick (.t 11) (.t 18) (.c (.bool false)))⟩])
      (.cond (.t 19)
       .skip
       (.exit 0)))
     (.block 1 (.reg [⟨(some 20), none, .q (.mv (.t 5))⟩,
        ⟨(some 21), none, .q (.bin .sub (.t 20) (.c (.int .i64 1)))⟩,
        ⟨(some 5), none, .q (.mv (.t 21))⟩])))))
  (.seq (.seq (.reg [⟨(some 22), none, .q (.mv (.t 5))⟩,
      ⟨(some 23), none, .q (.bin .gtr (.t 22) (.c (.int .i64 0)))⟩,
      ⟨(some 24), none, .q (.mv (.t 23))⟩,
      ⟨(some 25), (some (24, true)), .q (.mv (.t 0))⟩,
      ⟨(some 26), (some (24, true)), .q (.mv (.t 5))⟩,
      ⟨(some 27), (some (24, true)), .q (.bin .sub (.t 26) (.c (.int .i64 1)))⟩,
      ⟨(some 28), (some (24, true)), .q (.ixs 1 (.t 25) (.t 27))⟩,
      ⟨(some 29), (some (24, true)), .q (.ld false 1 (.t 28))⟩,
      ⟨(some 30), (some (24, true)), .q (.mv (.t 1))⟩,
      ⟨(some 31), (some (24, true)), .q (.bin .eql (.t 29) (.t 30))⟩,
      ⟨(some 32), none, .q (.pick (.t 24) (.t 31) (.c (.bool false)))⟩])
   (.cond (.t 32)
    (.seq (.reg [⟨(some 33), none, .q (.mv (.t 0))⟩,
       ⟨(some 4), none, .q (.mv (.t 33))⟩])
    .ret)
    .skip))
  (.seq (.reg [⟨(some 34), none, .q (.mv (.t 0))⟩,
     ⟨(some 35), none, .q (.mv (.t 5))⟩,
     ⟨(some 36), none, .q (.slc 1 (.t 34) none (some (.t 35)))⟩,
     ⟨(some 37), none, .c (.call 78 [(.t 36)])⟩,
     ⟨(some 38), none, .q (.mv (.t 1))⟩,
     ⟨(some 39), none, .m (.bsl 1 [(.t 38)])⟩,
     ⟨(some 40), none, .m (.app 1 8 (.t 37) (.t 39))⟩,
     ⟨(some 6), none, .q (.mv (.t 40))⟩])
  (.seq (.reg [⟨(some 41), none, .q (.mv (.t 6))⟩,
     ⟨(some 42), none, .q (.mv (.t 0))⟩,
     ⟨(some 43), none, .q (.mv (.t 5))⟩,
     ⟨(some 44), none, .q (.slc 1 (.t 42) (some (.t 43)) none)⟩,
     ⟨(some 45), none, .m (.app 1 8 (.t 41) (.t 44))⟩,
     ⟨(some 4), none, .q (.mv (.t 45))⟩])
  .ret))))))⟩
theorem l_spec_l01Put : lowF PA f_spec_l01Put 2 [.k [0, 1, 5]] = some c_spec_l01Put := by kernel_rfl
abbrev f_spec_l01Sum : FuncId := 76
def c_spec_l01Sum : AF := ⟨3, 43, [.t 6],
  (.seq (.reg [⟨(some 3), none, .m (.box (.t 0))⟩,
     ⟨(some 6), none, .q (.mv (.c (.int .i64 0)))⟩])
  (.seq (.sch (.take 0 ⟨(some 10), none, .q (.ld true 1 (.t 3))⟩ (.take 1 ⟨(some 11), none, .q (.mv (.t 1))⟩ (.take 3 ⟨(some 13), none, .q (.ld true 1 (.t 3))⟩ (.take 4 ⟨(some 14), none, .q (.mv (.t 2))⟩ (.one ⟨(some 12), none, .c (.call 71 [(.t 10), (.t 11)])⟩ [0] (.one ⟨(some 15), none, .c (.call 71 [(.t 13), (.t 14)])⟩ [3] (.take 6 ⟨(some 7), none, .q (.mv (.t 12))⟩ (.take 7 ⟨(some 8), none, .q (.mv (.t 15))⟩ .done)))))))))
  (.seq (.seq (.reg [⟨(some 16), none, .q (.mv (.t 7))⟩,
      ⟨(some 17), none, .q (.len (.t 16))⟩,
      ⟨(some 18), none, .q (.mv (.c (.int .i64 0)))⟩])
   (.block 0 (.loop [3, 7, 8, 17, 18] (.seq (.reg [⟨(some 19), none, .q (.bin .lss (.t 18) (.t 17))⟩])
     (.seq (.cond (.t 19)
       .skip
       (.exit 0))
     (.seq (.block 1 (.seq (.reg [⟨(some 20), none, .q (.mv (.t 18))⟩,
          ⟨(some 9), none, .q (.mv (.t 20))⟩])
       (.sch (.take 0 ⟨(some 21), none, .q (.mv (.t 7))⟩ (.take 1 ⟨(some 22), none, .q (.mv (.t 9))⟩ (.take 2 ⟨(some 23), none, .q (.mv (.t 7))⟩ (.take 3 ⟨(some 24), none, .q (.mv (.t 9))⟩ (.take 4 ⟨(some 25), none, .q (.ixs 1 (.t 23) (.t 24))⟩ (.take 5 ⟨(some 26), none, .q (.ld false 1 (.t 25))⟩ (.take 6 ⟨(some 27), none, .q (.mv (.t 8))⟩ (.take 7 ⟨(some 28), none, .q (.mv (.t 9))⟩ (.take 8 ⟨(some 29), none, .q (.ixs 1 (.t 27) (.t 28))⟩ (.take 9 ⟨(some 30), none, .q (.ld false 1 (.t 29))⟩ (.take 10 ⟨(some 31), none, .q (.bin .add (.t 26) (.t 30))⟩ (.take 11 ⟨(some 32), none, .q (.fad 0 (.t 3))⟩ (.take 12 ⟨(some 33), none, .q (.ld false 1 (.t 32))⟩ (.take 13 ⟨(some 34), none, .q (.mv (.t 9))⟩ (.take 14 ⟨(some 35), none, .q (.ixs 1 (.t 33) (.t 34))⟩ (.take 15 ⟨(some 36), none, .q (.ld false 1 (.t 35))⟩ (.take 16 ⟨(some 37), none, .q (.bin .rem (.t 31) (.t 36))⟩ (.take 17 ⟨(some 38), none, .q (.ixs 1 (.t 21) (.t 22))⟩ (.one ⟨none, none, .m (.st false 1 (.t 38) (.t 37))⟩ [15, 12, 9, 5] .done))))))))))))))))))))))
     (.reg [⟨(some 39), none, .q (.bin .add (.t 18) (.c (.int .i64 1)))⟩,
       ⟨(some 18), none, .q (.mv (.t 39))⟩])))))))
  (.seq (.reg [⟨(some 40), none, .q (.ld true 1 (.t 3))⟩,
     ⟨(some 41), none, .q (.mv (.t 7))⟩,
     ⟨(some 42), none, .c (.call 83 [(.t 40), (.t 41)])⟩,
     ⟨(some 6), none, .q (.mv (.t 42))⟩])
  .ret))))⟩
theorem l_spec_l01Sum : lowF PA f_spec_l01Sum 3 [.s (.take 0 (.take 1 (.take 3 (.take 4 (.one 2 (.one 5 (.take 6 (.take 7 .done)))))))), .k [3, 7, 8, 17, 18], .s (.take 0 (.take 1 (.take 2 (.take 3 (.take 4 (.take 5 (.take 6 (.take 7 (.take 8 (.take 9 (.take 10 (.take 11 (.take 12 (.take 13 (.take 14 (.take 15 (.take 16 (.take 17 (.one 18 .done)))))))))))))))))))] = some c_spec_l01Sum := by kernel_rfl
abbrev f_spec_l01DrawOf : FuncId := 77
def c_spec_l01DrawOf : AF := ⟨2, 49, [.c 4 true 1],
  (.seq (.reg [⟨(some 4), none, .m (.alloc [(.v (.slice none 0 0))])⟩])
  (.seq (.reg [⟨(some 9), none, .m (.bsl 1 [])⟩,
     ⟨(some 10), none, .q (.bld [(.v (.slice none 0 0))] [(0, (.t 9))])⟩,
     ⟨(some 11), none, .q (.mv (.t 0))⟩,
     ⟨(some 12), none, .m (.bsl 1 [(.c (.int .i64 0)), (.c (.int .i64 2)), (.c (.int .i64 2)), (.c (.int .i64 3)), (.c (.int .i64 3))])⟩,
     ⟨(some 13), none, .c (.call 57 [(.t 11), (.t 12)])⟩,
     ⟨(some 5), none, .m (.alloc [(.v (.slice none 0 0))])⟩,
     ⟨none, none, .m (.st true 1 (.t 5) (.t 10))⟩,
     ⟨(some 6), none, .q (.mv (.t 13))⟩])
  (.seq (.seq (.reg [⟨(some 14), none, .q (.mv (.t 0))⟩,
      ⟨(some 15), none, .c (.call 51 [(.t 14), (.c (.int .i64 8))])⟩,
      ⟨(some 16), none, .q (.bin .add (.c (.int .i64 1)) (.t 15))⟩,
      ⟨(some 7), none, .q (.mv (.t 16))⟩])
   (.block 0 (.loop [0, 1, 4, 5, 6, 7, 49] (.seq (.seq (.reg [⟨(some 17), none, .q (.mv (.t 7))⟩,
         ⟨(some 18), none, .q (.bin .gtr (.t 17) (.c (.int .i64 0)))⟩])
      (.cond (.t 18)
       .skip
       (.exit 0)))
     (.seq (.block 1 (.seq (.reg [⟨(some 21), none, .q (.mv (.t 6))⟩,
          ⟨(some 8), none, .q (.mv (.t 21))⟩])
       (.seq (.seq (.reg [⟨(some 22), none, .q (.mv (.t 6))⟩,
           ⟨(some 23), none, .q (.bin .eql (.t 22) (.c (.int .i64 0)))⟩])
        (.cond (.t 23)
         (.reg [⟨(some 24), none, .q (.mv (.t 0))⟩,
           ⟨(some 25), none, .m (.bsl 1 [(.c (.int .i64 2)), (.c (.int .i64 2)), (.c (.int .i64 3)), (.c (.int .i64 4))])⟩,
           ⟨(some 26), none, .c (.call 57 [(.t 24), (.t 25)])⟩,
           ⟨(some 8), none, .q (.mv (.t 26))⟩])
         .skip))
       (.seq (.seq (.reg [⟨(some 27), none, .q (.ld true 1 (.t 5))⟩,
           ⟨(some 28), none, .c (.call 26 [(.t 27)])⟩,
           ⟨(some 29), none, .q (.mv (.t 8))⟩,
           ⟨(some 30), none, .q (.bin .mul (.t 28) (.t 29))⟩,
           ⟨(some 31), none, .q (.mv (.t 1))⟩,
           ⟨(some 32), none, .q (.bin .gtr (.t 30) (.t 31))⟩])
        (.cond (.t 32)
         (.exit 0)
         .skip))
       (.reg [⟨(some 33), none, .q (.fad 0 (.t 5))⟩,
         ⟨(some 34), none, .q (.ld false 1 (.t 33))⟩,
         ⟨(some 35), none, .q (.mv (.t 8))⟩,
         ⟨(some 36), none, .m (.bsl 1 [(.t 35)])⟩,
         ⟨(some 37), none, .m (.app 1 8 (.t 34) (.t 36))⟩,
         ⟨(some 38), none, .q (.fad 0 (.t 5))⟩,
         ⟨none, none, .m (.st false 1 (.t 38) (.t 37))⟩])))))
     (.reg [⟨(some 19), none, .q (.mv (.t 7))⟩,
       ⟨(some 20), none, .q (.bin .sub (.t 19) (.c (.int .i64 1)))⟩,
       ⟨(some 7), none, .q (.mv (.t 20))⟩]))))))
  (.seq (.seq (.reg [⟨(some 39), none, .q (.fad 0 (.t 5))⟩,
      ⟨(some 40), none, .q (.ld false 1 (.t 39))⟩,
      ⟨(some 41), none, .q (.len (.t 40))⟩,
      ⟨(some 42), none, .q (.bin .eql (.t 41) (.c (.int .i64 0)))⟩])
   (.cond (.t 42)
    (.reg [⟨(some 43), none, .q (.fad 0 (.t 5))⟩,
      ⟨(some 44), none, .q (.ld false 1 (.t 43))⟩,
      ⟨(some 45), none, .m (.bsl 1 [(.c (.int .i64 2))])⟩,
      ⟨(some 46), none, .m (.app 1 8 (.t 44) (.t 45))⟩,
      ⟨(some 47), none, .q (.fad 0 (.t 5))⟩,
      ⟨none, none, .m (.st false 1 (.t 47) (.t 46))⟩])
    .skip))
  (.seq (.reg [⟨(some 48), none, .q (.ld true 1 (.t 5))⟩,
     ⟨none, none, .m (.st true 1 (.t 4) (.t 48))⟩])
  .ret)))))⟩
theorem l_spec_l01DrawOf : lowF PA f_spec_l01DrawOf 2 [.k [0, 1, 4, 5, 6, 7, 49]] = some c_spec_l01DrawOf := by kernel_rfl
abbrev f_spec_l01Own : FuncId := 78
def c_spec_l01Own : AF := ⟨1, 6, [.t 2],
  (.seq (.reg [⟨(some 2), none, .q (.mv (.c (.slice none 0 0)))⟩])
  (.seq (.reg [⟨(some 3), none, .m (.bsl 1 [])⟩,
     ⟨(some 4), none, .q (.mv (.t 0))⟩,
     ⟨(some 5), none, .m (.app 1 8 (.t 3) (.t 4))⟩,
     ⟨(some 2), none, .q (.mv (.t 5))⟩])
  .ret))⟩
theorem l_spec_l01Own : lowF PA f_spec_l01Own 1 [] = some c_spec_l01Own := by kernel_rfl
abbrev f_spec_l01Ball : FuncId := 79
def c_spec_l01Ball : AF := ⟨3, 27, [.t 6],
  (.seq (.reg [⟨(some 3), none, .m (.box (.t 0))⟩,
     ⟨(some 6), none, .q (.mv (.c (.slice none 0 0)))⟩])
  (.seq (.reg [⟨(some 9), none, .m (.bsl 1 [])⟩,
     ⟨(some 7), none, .q (.mv (.t 9))⟩])
  (.seq (.seq (.reg [⟨(some 8), none, .q (.mv (.c (.int .i64 0)))⟩])
   (.block 0 (.loop [1, 2, 3, 7, 8] (.seq (.seq (.reg [⟨(some 10), none, .q (.mv (.t 8))⟩,
         ⟨(some 11), none, .q (.ld true 1 (.t 3))⟩,
         ⟨(some 12), none, .c (.call 26 [(.t 11)])⟩,
         ⟨(some 13), none, .q (.bin .lss (.t 10) (.t 12))⟩])
      (.cond (.t 13)
       .skip
       (.exit 0)))
     (.seq (.block 1 (.seq (.reg [⟨(some 16), none, .q (.ld true 1 (.t 3))⟩,
          ⟨(some 17), none, .q (.mv (.t 8))⟩,
          ⟨(some 18), none, .q (.mv (.t 1))⟩,
          ⟨(some 19), none, .c (.call 37 [(.t 16), (.t 17), (.t 18)])⟩,
          ⟨(some 20), none, .q (.mv (.t 2))⟩,
          ⟨(some 21), none, .q (.bin .leq (.t 19) (.t 20))⟩])
       (.cond (.t 21)
        (.reg [⟨(some 22), none, .q (.mv (.t 7))⟩,
          ⟨(some 23), none, .q (.mv (.t 8))⟩,
          ⟨(some 24), none, .m (.bsl 1 [(.t 23)])⟩,
          ⟨(some 25), none, .m (.app 1 8 (.t 22) (.t 24))⟩,
          ⟨(some 7), none, .q (.mv (.t 25))⟩])
        .skip)))
     (.reg [⟨(some 14), none, .q (.mv (.t 8))⟩,
       ⟨(some 15), none, .q (.bin .add (.t 14) (.c (.int .i64 1)))⟩,
       ⟨(some 8), none, .q (.mv (.t 15))⟩]))))))
  (.seq (.reg [⟨(some 26), none, .q (.mv (.t 7))⟩,
     ⟨(some 6), none, .q (.mv (.t 26))⟩])
  .ret))))⟩
theorem l_spec_l01Ball : lowF PA f_spec_l01Ball 3 [.k [1, 2, 3, 7, 8]] = some c_spec_l01Ball := by kernel_rfl
abbrev f_slices_IndexFunc_____int64___int64_ : FuncId := 80
def c_slices_IndexFunc_____int64___int64_ : AF := ⟨2, 19, [.t 4],
  (.seq (.reg [⟨(some 4), none, .q (.mv (.c (.int .i64 0)))⟩])
  (.seq (.seq (.reg [⟨(some 6), none, .q (.mv (.t 0))⟩,
      ⟨(some 7), none, .q (.len (.t 6))⟩,
      ⟨(some 8), none, .q (.mv (.c (.int .i64 0)))⟩])
   (.block 0 (.loop [0, 1, 7, 8] (.seq (.reg [⟨(some 9), none, .q (.bin .lss (.t 8) (.t 7))⟩])
     (.seq (.cond (.t 9)
       .skip
       (.exit 0))
     (.seq (.block 1 (.seq (.reg [⟨(some 10), none, .q (.mv (.t 8))⟩,
          ⟨(some 5), none, .q (.mv (.t 10))⟩])
       (.seq (.reg [⟨(some 11), none, .q (.mv (.t 1))⟩,
          ⟨(some 12), none, .q (.mv (.t 0))⟩,
          ⟨(some 13), none, .q (.mv (.t 5))⟩,
          ⟨(some 14), none, .q (.ixs 1 (.t 12) (.t 13))⟩,
          ⟨(some 15), none, .q (.ld false 1 (.t 14))⟩,
          ⟨(some 16), none, .c (.cav (.t 11) [(.t 15)])⟩])
       (.cond (.t 16)
        (.seq (.reg [⟨(some 17), none, .q (.mv (.t 5))⟩,
           ⟨(some 4), none, .q (.mv (.t 17))⟩])
        .ret)
        .skip))))
     (.reg [⟨(some 18), none, .q (.bin .add (.t 8) (.c (.int .i64 1)))⟩,
       ⟨(some 8), none, .q (.mv (.t 18))⟩])))))))
  (.seq (.reg [⟨(some 4), none, .q (.mv (.c (.int .i64 (-1))))⟩])
  .ret)))⟩
theorem l_slices_IndexFunc_____int64___int64_ : lowF PA f_slices_IndexFunc_____int64___int64_ 2 [.k [0, 1, 7, 8]] = some c_slices_IndexFunc_____int64___int64_ := by kernel_rfl
abbrev f_math_bits_Mul32 : FuncId := 81
abbrev f_math_bits_Mul64 : FuncId := 82
def c_math_bits_Mul64 : AF := ⟨2, 51, [.t 4, .t 5],
  (.seq (.reg [⟨(some 4), none, .q (.mv (.c (.int .u64 0)))⟩,
     ⟨(some 5), none, .q (.mv (.c (.int .u64 0)))⟩])
  (.seq (.reg [⟨(some 14), none, .q (.mv (.t 0))⟩,
     ⟨(some 15), none, .q (.bin .and (.t 14) (.c (.int .u64 4294967295)))⟩,
     ⟨(some 6), none, .q (.mv (.t 15))⟩])
  (.seq (.reg [⟨(some 16), none, .q (.mv (.t 0))⟩,
     ⟨(some 17), none, .q (.bin .shr (.t 16) (.c (.int .u64 32)))⟩,
     ⟨(some 7), none, .q (.mv (.t 17))⟩])
  (.seq (.reg [⟨(some 18), none, .q (.mv (.t 1))⟩,
     ⟨(some 19), none, .q (.bin .and (.t 18) (.c (.int .u64 4294967295)))⟩,
     ⟨(some 8), none, .q (.mv (.t 19))⟩])
  (.seq (.reg [⟨(some 20), none, .q (.mv (.t 1))⟩,
     ⟨(some 21), none, .q (.bin .shr (.t 20) (.c (.int .u64 32)))⟩,
     ⟨(some 9), none, .q (.mv (.t 21))⟩])
  (.seq (.reg [⟨(some 22), none, .q (.mv (.t 6))⟩,
     ⟨(some 23), none, .q (.mv (.t 8))⟩,
     ⟨(some 24), none, .q (.bin .mul (.t 22) (.t 23))⟩,
     ⟨(some 10), none, .q (.mv (.t 24))⟩])
  (.seq (.reg [⟨(some 25), none, .q (.mv (.t 7))⟩,
     ⟨(some 26), none, .q (.mv (.t 8))⟩,
     ⟨(some 27), none, .q (.bin .mul (.t 25) (.t 26))⟩,
     ⟨(some 28), none, .q (.mv (.t 10))⟩,
     ⟨(some 29), none, .q (.bin .shr (.t 28) (.c (.int .u64 32)))⟩,
     ⟨(some 30), none, .q (.bin .add (.t 27) (.t 29))⟩,
     ⟨(some 11), none, .q (.mv (.t 30))⟩])
  (.seq (.reg [⟨(some 31), none, .q (.mv (.t 11))⟩,
     ⟨(some 32), none, .q (.bin .and (.t 31) (.c (.int .u64 4294967295)))⟩,
     ⟨(some 12), none, .q (.mv (.t 32))⟩])
  (.seq (.reg [⟨(some 33), none, .q (.mv (.t 11))⟩,
     ⟨(some 34), none, .q (.bin .shr (.t 33) (.c (.int .u64 32)))⟩,
     ⟨(some 13), none, .q (.mv (.t 34))⟩])
  (.seq (.reg [⟨(some 35), none, .q (.mv (.t 12))⟩,
     ⟨(some 36), none, .q (.mv (.t 6))⟩,
     ⟨(some 37), none, .q (.mv (.t 9))⟩,
     ⟨(some 38), none, .q (.bin .mul (.t 36) (.t 37))⟩,
     ⟨(some 39), none, .q (.bin .add (.t 35) (.t 38))⟩,
     ⟨(some 12), none, .q (.mv (.t 39))⟩])
  (.seq (.reg [⟨(some 40), none, .q (.mv (.t 7))⟩,
     ⟨(some 41), none, .q (.mv (.t 9))⟩,
     ⟨(some 42), none, .q (.bin .mul (.t 40) (.t 41))⟩,
     ⟨(some 43), none, .q (.mv (.t 13))⟩,
     ⟨(some 44), none, .q (.bin .add (.t 42) (.t 43))⟩,
     ⟨(some 45), none, .q (.mv (.t 12))⟩,
     ⟨(some 46), none, .q (.bin .shr (.t 45) (.c (.int .u64 32)))⟩,
     ⟨(some 47), none, .q (.bin .add (.t 44) (.t 46))⟩,
     ⟨(some 4), none, .q (.mv (.t 47))⟩])
  (.seq (.reg [⟨(some 48), none, .q (.mv (.t 0))⟩,
     ⟨(some 49), none, .q (.mv (.t 1))⟩,
     ⟨(some 50), none, .q (.bin .mul (.t 48) (.t 49))⟩,
     ⟨(some 5), none, .q (.mv (.t 50))⟩])
  .ret))))))))))))⟩
theorem l_math_bits_Mul64 : lowF PA f_math_bits_Mul64 2 [] = some c_math_bits_Mul64 := by kernel_rfl
abbrev f_spec_l01Word : FuncId := 83
def c_spec_l01Word : AF := ⟨2, 26, [.t 4],
  (.seq (.reg [⟨(some 2), none, .m (.box (.t 0))⟩,
     ⟨(some 4), none, .q (.mv (.c (.int .i64 0)))⟩])
  (.seq (.reg [⟨(some 5), none, .q (.mv (.c (.int .i64 0)))⟩])
  (.seq (.seq (.reg [⟨(some 6), none, .q (.mv (.c (.int .i64 0)))⟩])
   (.block 0 (.loop [1, 2, 5, 6] (.seq (.seq (.reg [⟨(some 7), none, .q (.mv (.t 6))⟩,
         ⟨(some 8), none, .q (.mv (.t 1))⟩,
         ⟨(some 9), none, .q (.len (.t 8))⟩,
         ⟨(some 10), none, .q (.bin .lss (.t 7) (.t 9))⟩])
      (.cond (.t 10)
       .skip
       (.exit 0)))
     (.seq (.block 1 (.sch (.take 0 ⟨(some 13), none, .q (.mv (.t 5))⟩ (.take 1 ⟨(some 14), none, .q (.fad 0 (.t 2))⟩ (.take 2 ⟨(some 15), none, .q (.ld false 1 (.t 14))⟩ (.take 3 ⟨(some 16), none, .q (.mv (.t 6))⟩ (.take 4 ⟨(some 17), none, .q (.ixs 1 (.t 15) (.t 16))⟩ (.take 5 ⟨(some 18), none, .q (.ld false 1 (.t 17))⟩ (.take 6 ⟨(some 19), none, .q (.bin .mul (.t 13) (.t 18))⟩ (.take 7 ⟨(some 20), none, .q (.mv (.t 1))⟩ (.take 8 ⟨(some 21), none, .q (.mv (.t 6))⟩ (.take 9 ⟨(some 22), none, .q (.ixs 1 (.t 20) (.t 21))⟩ (.take 10 ⟨(some 23), none, .q (.ld false 1 (.t 22))⟩ (.take 11 ⟨(some 24), none, .q (.bin .add (.t 19) (.t 23))⟩ (.take 12 ⟨(some 5), none, .q (.mv (.t 24))⟩ .done)))))))))))))))
     (.reg [⟨(some 11), none, .q (.mv (.t 6))⟩,
       ⟨(some 12), none, .q (.bin .add (.t 11) (.c (.int .i64 1)))⟩,
       ⟨(some 6), none, .q (.mv (.t 12))⟩]))))))
  (.seq (.reg [⟨(some 25), none, .q (.mv (.t 5))⟩,
     ⟨(some 4), none, .q (.mv (.t 25))⟩])
  .ret))))⟩
theorem l_spec_l01Word : lowF PA f_spec_l01Word 2 [.k [1, 2, 5, 6], .s (.take 0 (.take 1 (.take 2 (.take 3 (.take 4 (.take 5 (.take 6 (.take 7 (.take 8 (.take 9 (.take 10 (.take 11 (.take 12 .done)))))))))))))] = some c_spec_l01Word := by kernel_rfl
end Go.Proofs.Ytfgjfjgkoabfjaa.Va
