/- The code of the functions that FnLeastCodes reaches, laid out for a walk: each is what the lowering makes of the program's own text. Condition: none. -/
import Derived.Shelf.SortM.Plain
import Derived.Test.YtfgjfjgkoabfjacGreatVa2
import Derived.Test.YtfgjfjgkoabfjacGreatProg
import Derived.KernelRfl
set_option linter.all false
set_option linter.unusedSimpArgs false
set_option linter.unusedVariables false
namespace Go.Proofs.YtfgjfjgkoabfjacGreat.Va
open Go
noncomputable abbrev PA : Program := Go.Proofs.Tryz.prog
abbrev f_laws_FnLeastCodes : FuncId := 3
def c_laws_FnLeastCodes : AF := ⟨1, 263, [.t 2],
 (.seq (.reg [⟨(some 2), none, .q (.mv (.c (.bool false)))⟩])
 (.seq (.seq (.reg [⟨(some 39), none, .q (.mv (.t 0))⟩,
 ⟨(some 40), none, .c (.call 4 [(.t 39)])⟩])
 (.cond (.t 40)
 (.seq (.reg [⟨(some 2), none, .q (.mv (.c (.bool true)))⟩])
 .ret)
 .skip))
 (.seq (.reg [⟨(some 42), none, .q (.mv (.t 0))⟩,
 ⟨(some 43), none, .c (.call 5 [(.t 42)])⟩,
 ⟨(some 41), none, .q (.mv (.t 43))⟩,
 ⟨(some 44), none, .q (.ext (.t 41) 0)⟩,
 ⟨(some 45), none, .q (.ext (.t 41) 1)⟩,
 ⟨(some 3), none, .m (.alloc [(.v (.slice none 0 0))])⟩,
 ⟨none, none, .m (.st true 1 (.t 3) (.t 44))⟩,
 ⟨(some 4), none, .q (.mv (.t 45))⟩])
 (.seq (.reg [⟨(some 47), none, .q (.ld true 1 (.t 3))⟩,
 ⟨(some 48), none, .q (.mv (.t 4))⟩,
 ⟨(some 49), none, .c (.call 6 [(.t 47), (.t 48)])⟩,
 ⟨(some 46), none, .q (.mv (.t 49))⟩,
 ⟨(some 50), none, .q (.ext (.t 46) 0)⟩,
 ⟨(some 51), none, .q (.ext (.t 46) 1)⟩,
 ⟨(some 5), none, .q (.mv (.t 50))⟩,
 ⟨(some 6), none, .q (.mv (.t 51))⟩])
 (.seq (.seq (.reg [⟨(some 53), none, .q (.ld true 1 (.t 3))⟩,
 ⟨(some 54), none, .q (.mv (.t 4))⟩,
 ⟨(some 55), none, .c (.call 7 [(.t 53), (.t 54)])⟩,
 ⟨(some 52), none, .q (.mv (.t 55))⟩,
 ⟨(some 56), none, .q (.ext (.t 52) 0)⟩,
 ⟨(some 57), none, .q (.ext (.t 52) 1)⟩,
 ⟨(some 7), none, .q (.mv (.t 56))⟩,
 ⟨(some 8), none, .q (.mv (.t 57))⟩])
 (.seq (.reg [⟨(some 58), none, .q (.mv (.t 6))⟩,
 ⟨(some 59), none, .q (.mv (.t 8))⟩,
 ⟨(some 60), none, .q (.bin .neq (.t 58) (.t 59))⟩,
 ⟨(some 61), none, .q (.mv (.t 60))⟩,
 ⟨(some 62), (some (61, false)), .q (.mv (.t 5))⟩,
 ⟨(some 63), (some (61, false)), .q (.mv (.t 7))⟩,
 ⟨(some 64), (some (61, false)), .c (.call 8 [(.t 62), (.t 63)])⟩,
 ⟨(some 65), (some (61, false)), .q (.un .not (.t 64))⟩,
 ⟨(some 66), none, .q (.pick (.t 61) (.c (.bool true)) (.t 65))⟩])
 (.cond (.t 66)
 (.seq (.reg [⟨(some 2), none, .q (.mv (.c (.bool false)))⟩])
 .ret)
 .skip)))
 (.seq (.reg [⟨(some 68), none, .q (.ld true 1 (.t 3))⟩,
 ⟨(some 69), none, .q (.mv (.t 4))⟩,
 ⟨(some 70), none, .c (.call 9 [(.t 68), (.t 69)])⟩,
 ⟨(some 67), none, .q (.mv (.t 70))⟩,
 ⟨(some 71), none, .q (.ext (.t 67) 0)⟩,
 ⟨(some 72), none, .q (.ext (.t 67) 1)⟩,
 ⟨(some 9), none, .q (.mv (.t 71))⟩,
 ⟨(some 10), none, .q (.mv (.t 72))⟩])
 (.seq (.seq (.reg [⟨(some 74), none, .q (.ld true 1 (.t 3))⟩,
 ⟨(some 75), none, .q (.mv (.t 4))⟩,
 ⟨(some 76), none, .c (.call 10 [(.t 74), (.t 75)])⟩,
 ⟨(some 73), none, .q (.mv (.t 76))⟩,
 ⟨(some 77), none, .q (.ext (.t 73) 0)⟩,
 ⟨(some 78), none, .q (.ext (.t 73) 1)⟩,
 ⟨(some 11), none, .q (.mv (.t 77))⟩,
 ⟨(some 12), none, .q (.mv (.t 78))⟩])
 (.seq (.reg [⟨(some 79), none, .q (.mv (.t 10))⟩,
 ⟨(some 80), none, .q (.mv (.t 12))⟩,
 ⟨(some 81), none, .q (.bin .neq (.t 79) (.t 80))⟩,
 ⟨(some 82), none, .q (.mv (.t 81))⟩,
 ⟨(some 83), (some (82, false)), .q (.mv (.t 9))⟩,
 ⟨(some 84), (some (82, false)), .q (.mv (.t 11))⟩,
 ⟨(some 85), (some (82, false)), .q (.bin .neq (.t 83) (.t 84))⟩,
 ⟨(some 86), none, .q (.pick (.t 82) (.c (.bool true)) (.t 85))⟩])
 (.cond (.t 86)
 (.seq (.reg [⟨(some 2), none, .q (.mv (.c (.bool false)))⟩])
 .ret)
 .skip)))
 (.seq (.reg [⟨(some 88), none, .q (.mv (.t 0))⟩,
 ⟨(some 89), none, .c (.call 11 [(.t 88)])⟩,
 ⟨(some 87), none, .q (.mv (.t 89))⟩,
 ⟨(some 90), none, .q (.ext (.t 87) 0)⟩,
 ⟨(some 91), none, .q (.ext (.t 87) 1)⟩,
 ⟨(some 13), none, .m (.alloc [(.v (.slice none 0 0))])⟩,
 ⟨none, none, .m (.st true 1 (.t 13) (.t 90))⟩,
 ⟨(some 14), none, .q (.mv (.t 91))⟩])
 (.seq (.reg [⟨(some 93), none, .q (.ld true 1 (.t 13))⟩,
 ⟨(some 94), none, .q (.mv (.t 14))⟩,
 ⟨(some 95), none, .c (.call 12 [(.t 93), (.t 94)])⟩,
 ⟨(some 92), none, .q (.mv (.t 95))⟩,
 ⟨(some 96), none, .q (.ext (.t 92) 0)⟩,
 ⟨(some 97), none, .q (.ext (.t 92) 1)⟩,
 ⟨(some 15), none, .q (.mv (.t 96))⟩,
 ⟨(some 16), none, .q (.mv (.t 97))⟩])
 (.seq (.seq (.reg [⟨(some 99), none, .q (.ld true 1 (.t 13))⟩,
 ⟨(some 100), none, .q (.mv (.t 14))⟩,
 ⟨(some 101), none, .c (.call 13 [(.t 99), (.t 100)])⟩,
 ⟨(some 98), none, .q (.mv (.t 101))⟩,
 ⟨(some 102), none, .q (.ext (.t 98) 0)⟩,
 ⟨(some 103), none, .q (.ext (.t 98) 1)⟩,
 ⟨(some 17), none, .q (.mv (.t 102))⟩,
 ⟨(some 18), none, .q (.mv (.t 103))⟩])
 (.seq (.reg [⟨(some 104), none, .q (.mv (.t 16))⟩,
 ⟨(some 105), none, .q (.mv (.t 18))⟩,
 ⟨(some 106), none, .q (.bin .neq (.t 104) (.t 105))⟩,
 ⟨(some 107), none, .q (.mv (.t 106))⟩,
 ⟨(some 108), (some (107, false)), .q (.mv (.t 15))⟩,
 ⟨(some 109), (some (107, false)), .q (.mv (.t 17))⟩,
 ⟨(some 110), (some (107, false)), .q (.bin .neq (.t 108) (.t 109))⟩,
 ⟨(some 111), none, .q (.pick (.t 107) (.c (.bool true)) (.t 110))⟩])
 (.cond (.t 111)
 (.seq (.reg [⟨(some 2), none, .q (.mv (.c (.bool false)))⟩])
 .ret)
 .skip)))
 (.seq (.reg [⟨(some 113), none, .q (.ld true 1 (.t 13))⟩,
 ⟨(some 114), none, .q (.mv (.t 14))⟩,
 ⟨(some 115), none, .c (.call 14 [(.t 113), (.t 114)])⟩,
 ⟨(some 112), none, .q (.mv (.t 115))⟩,
 ⟨(some 116), none, .q (.ext (.t 112) 0)⟩,
 ⟨(some 117), none, .q (.ext (.t 112) 1)⟩,
 ⟨(some 19), none, .q (.mv (.t 116))⟩,
 ⟨(some 20), none, .q (.mv (.t 117))⟩])
 (.seq (.seq (.reg [⟨(some 119), none, .q (.ld true 1 (.t 13))⟩,
 ⟨(some 120), none, .q (.mv (.t 14))⟩,
 ⟨(some 121), none, .c (.call 15 [(.t 119), (.t 120)])⟩,
 ⟨(some 118), none, .q (.mv (.t 121))⟩,
 ⟨(some 122), none, .q (.ext (.t 118) 0)⟩,
 ⟨(some 123), none, .q (.ext (.t 118) 1)⟩,
 ⟨(some 21), none, .q (.mv (.t 122))⟩,
 ⟨(some 22), none, .q (.mv (.t 123))⟩])
 (.seq (.reg [⟨(some 124), none, .q (.mv (.t 20))⟩,
 ⟨(some 125), none, .q (.mv (.t 22))⟩,
 ⟨(some 126), none, .q (.bin .neq (.t 124) (.t 125))⟩,
 ⟨(some 127), none, .q (.mv (.t 126))⟩,
 ⟨(some 128), (some (127, false)), .q (.mv (.t 19))⟩,
 ⟨(some 129), (some (127, false)), .q (.mv (.t 21))⟩,
 ⟨(some 130), (some (127, false)), .q (.bin .neq (.t 128) (.t 129))⟩,
 ⟨(some 131), none, .q (.pick (.t 127) (.c (.bool true)) (.t 130))⟩])
 (.cond (.t 131)
 (.seq (.reg [⟨(some 2), none, .q (.mv (.c (.bool false)))⟩])
 .ret)
 .skip)))
 (.seq (.reg [⟨(some 133), none, .q (.mv (.t 0))⟩,
 ⟨(some 134), none, .c (.call 16 [(.t 133)])⟩,
 ⟨(some 132), none, .q (.mv (.t 134))⟩,
 ⟨(some 135), none, .q (.ext (.t 132) 0)⟩,
 ⟨(some 136), none, .q (.ext (.t 132) 1)⟩,
 ⟨(some 23), none, .m (.alloc [(.v (.slice none 0 0))])⟩,
 ⟨none, none, .m (.st true 1 (.t 23) (.t 135))⟩,
 ⟨(some 24), none, .q (.mv (.t 136))⟩])
 (.seq (.reg [⟨(some 138), none, .q (.ld true 1 (.t 23))⟩,
 ⟨(some 139), none, .q (.mv (.t 24))⟩,
 ⟨(some 140), none, .c (.call 17 [(.t 138), (.t 139)])⟩,
 ⟨(some 137), none, .q (.mv (.t 140))⟩,
 ⟨(some 141), none, .q (.ext (.t 137) 0)⟩,
 ⟨(some 142), none, .q (.ext (.t 137) 1)⟩,
 ⟨(some 25), none, .q (.mv (.t 141))⟩,
 ⟨(some 26), none, .q (.mv (.t 142))⟩])
 (.seq (.seq (.reg [⟨(some 144), none, .q (.ld true 1 (.t 23))⟩,
 ⟨(some 145), none, .q (.mv (.t 24))⟩,
 ⟨(some 146), none, .c (.call 18 [(.t 144), (.t 145)])⟩,
 ⟨(some 143), none, .q (.mv (.t 146))⟩,
 ⟨(some 147), none, .q (.ext (.t 143) 0)⟩,
 ⟨(some 148), none, .q (.ext (.t 143) 1)⟩,
 ⟨(some 27), none, .q (.mv (.t 147))⟩,
 ⟨(some 28), none, .q (.mv (.t 148))⟩])
 (.seq (.reg [⟨(some 149), none, .q (.mv (.t 26))⟩,
 ⟨(some 150), none, .q (.mv (.t 28))⟩,
 ⟨(some 151), none, .q (.bin .neq (.t 149) (.t 150))⟩,
 ⟨(some 152), none, .q (.mv (.t 151))⟩,
 ⟨(some 153), (some (152, false)), .q (.mv (.t 25))⟩,
 ⟨(some 154), (some (152, false)), .q (.mv (.t 27))⟩,
 ⟨(some 155), (some (152, false)), .c (.call 8 [(.t 153), (.t 154)])⟩,
 ⟨(some 156), (some (152, false)), .q (.un .not (.t 155))⟩,
 ⟨(some 157), none, .q (.pick (.t 152) (.c (.bool true)) (.t 156))⟩])
 (.cond (.t 157)
 (.seq (.reg [⟨(some 2), none, .q (.mv (.c (.bool false)))⟩])
 .ret)
 .skip)))
 (.seq (.seq (.reg [⟨(some 158), none, .q (.mv (.t 26))⟩,
 ⟨(some 159), none, .q (.bin .eql (.t 158) (.c (.int .i64 0)))⟩])
 (.cond (.t 159)
 (.seq (.reg [⟨(some 161), none, .q (.ld true 1 (.t 23))⟩,
 ⟨(some 162), none, .q (.mv (.t 25))⟩,
 ⟨(some 163), none, .c (.call 19 [(.t 161), (.t 162)])⟩,
 ⟨(some 160), none, .q (.mv (.t 163))⟩,
 ⟨(some 164), none, .q (.ext (.t 160) 0)⟩,
 ⟨(some 165), none, .q (.ext (.t 160) 1)⟩,
 ⟨(some 29), none, .q (.mv (.t 164))⟩,
 ⟨(some 30), none, .q (.mv (.t 165))⟩])
 (.seq (.reg [⟨(some 166), none, .q (.mv (.t 30))⟩,
 ⟨(some 167), none, .q (.bin .neq (.t 166) (.c (.int .i64 0)))⟩,
 ⟨(some 168), none, .q (.mv (.t 167))⟩,
 ⟨(some 169), (some (168, false)), .q (.mv (.t 29))⟩,
 ⟨(some 170), (some (168, false)), .q (.mv (.t 24))⟩,
 ⟨(some 171), (some (168, false)), .q (.len (.t 170))⟩,
 ⟨(some 172), (some (168, false)), .q (.bin .neq (.t 169) (.t 171))⟩,
 ⟨(some 173), none, .q (.pick (.t 168) (.c (.bool true)) (.t 172))⟩])
 (.cond (.t 173)
 (.seq (.reg [⟨(some 2), none, .q (.mv (.c (.bool false)))⟩])
 .ret)
 .skip)))
 .skip))
 (.seq (.seq (.reg [⟨(some 174), none, .q (.mv (.t 16))⟩,
 ⟨(some 175), none, .q (.bin .eql (.t 174) (.c (.int .i64 0)))⟩,
 ⟨(some 176), none, .q (.mv (.t 175))⟩,
 ⟨(some 177), (some (176, true)), .q (.mv (.t 20))⟩,
 ⟨(some 178), (some (176, true)), .q (.bin .neq (.t 177) (.c (.int .i64 0)))⟩,
 ⟨(some 179), (some (176, true)), .q (.mv (.t 178))⟩,
 ⟨(some 180), (some (179, false)), .q (.mv (.t 15))⟩,
 ⟨(some 181), (some (179, false)), .q (.mv (.t 19))⟩,
 ⟨(some 182), (some (179, false)), .q (.bin .gtr (.t 180) (.t 181))⟩,
 ⟨(some 183), (some (176, true)), .q (.pick (.t 179) (.c (.bool true)) (.t 182))⟩,
 ⟨(some 184), none, .q (.pick (.t 176) (.t 183) (.c (.bool false)))⟩])
 (.cond (.t 184)
 (.seq (.reg [⟨(some 2), none, .q (.mv (.c (.bool false)))⟩])
 .ret)
 .skip))
 (.seq (.seq (.reg [⟨(some 185), none, .q (.mv (.t 6))⟩,
 ⟨(some 186), none, .q (.bin .neq (.t 185) (.c (.int .i64 0)))⟩])
 (.cond (.t 186)
 (.seq (.reg [⟨(some 187), none, .q (.mv (.t 5))⟩,
 ⟨(some 188), none, .q (.len (.t 187))⟩,
 ⟨(some 189), none, .q (.bin .eql (.t 188) (.c (.int .i64 0)))⟩,
 ⟨(some 190), none, .q (.mv (.t 189))⟩,
 ⟨(some 191), (some (190, true)), .q (.mv (.t 10))⟩,
 ⟨(some 192), (some (190, true)), .q (.mv (.t 6))⟩,
 ⟨(some 193), (some (190, true)), .q (.bin .eql (.t 191) (.t 192))⟩,
 ⟨(some 194), none, .q (.pick (.t 190) (.t 193) (.c (.bool false)))⟩,
 ⟨(some 2), none, .q (.mv (.t 194))⟩])
 .ret)
 .skip))
 (.seq (.reg [⟨(some 196), none, .q (.ld true 1 (.t 3))⟩,
 ⟨(some 197), none, .q (.mv (.t 5))⟩,
 ⟨(some 198), none, .q (.mv (.t 4))⟩,
 ⟨(some 199), none, .c (.call 20 [(.t 196), (.t 197), (.t 198)])⟩,
 ⟨(some 195), none, .q (.mv (.t 199))⟩,
 ⟨(some 200), none, .q (.ext (.t 195) 0)⟩,
 ⟨(some 201), none, .q (.ext (.t 195) 1)⟩,
 ⟨(some 31), none, .q (.mv (.t 200))⟩,
 ⟨(some 32), none, .q (.mv (.t 201))⟩])
 (.seq (.reg [⟨(some 203), none, .q (.ld true 1 (.t 3))⟩,
 ⟨(some 204), none, .q (.mv (.t 4))⟩,
 ⟨(some 205), none, .c (.call 12 [(.t 203), (.t 204)])⟩,
 ⟨(some 202), none, .q (.mv (.t 205))⟩,
 ⟨(some 206), none, .q (.ext (.t 202) 0)⟩,
 ⟨(some 207), none, .q (.ext (.t 202) 1)⟩,
 ⟨(some 33), none, .q (.mv (.t 206))⟩,
 ⟨(some 34), none, .q (.mv (.t 207))⟩])
 (.seq (.reg [⟨(some 209), none, .q (.ld true 1 (.t 3))⟩,
 ⟨(some 210), none, .q (.mv (.t 4))⟩,
 ⟨(some 211), none, .c (.call 14 [(.t 209), (.t 210)])⟩,
 ⟨(some 208), none, .q (.mv (.t 211))⟩,
 ⟨(some 212), none, .q (.ext (.t 208) 0)⟩,
 ⟨(some 213), none, .q (.ext (.t 208) 1)⟩,
 ⟨(some 35), none, .q (.mv (.t 212))⟩,
 ⟨(some 36), none, .q (.mv (.t 213))⟩])
 (.seq (.reg [⟨(some 215), none, .q (.ld true 1 (.t 3))⟩,
 ⟨(some 216), none, .q (.mv (.t 4))⟩,
 ⟨(some 217), none, .c (.call 21 [(.t 215), (.t 216)])⟩,
 ⟨(some 214), none, .q (.mv (.t 217))⟩,
 ⟨(some 218), none, .q (.ext (.t 214) 0)⟩,
 ⟨(some 219), none, .q (.ext (.t 214) 1)⟩,
 ⟨(some 37), none, .q (.mv (.t 218))⟩,
 ⟨(some 38), none, .q (.mv (.t 219))⟩])
 (.seq (.reg [⟨(some 220), none, .q (.mv (.t 10))⟩,
 ⟨(some 221), none, .q (.bin .eql (.t 220) (.c (.int .i64 0)))⟩,
 ⟨(some 222), none, .q (.mv (.t 221))⟩,
 ⟨(some 223), (some (222, true)), .q (.mv (.t 5))⟩,
 ⟨(some 224), (some (222, true)), .q (.len (.t 223))⟩,
 ⟨(some 225), (some (222, true)), .q (.mv (.t 9))⟩,
 ⟨(some 226), (some (222, true)), .q (.bin .eql (.t 224) (.t 225))⟩,
 ⟨(some 227), none, .q (.pick (.t 222) (.t 226) (.c (.bool false)))⟩,
 ⟨(some 228), none, .q (.mv (.t 227))⟩,
 ⟨(some 229), (some (228, true)), .q (.mv (.t 32))⟩,
 ⟨(some 230), (some (228, true)), .q (.bin .eql (.t 229) (.c (.int .i64 0)))⟩,
 ⟨(some 231), none, .q (.pick (.t 228) (.t 230) (.c (.bool false)))⟩,
 ⟨(some 232), none, .q (.mv (.t 231))⟩,
 ⟨(some 233), (some (232, true)), .q (.mv (.t 31))⟩,
 ⟨(some 234), none, .q (.pick (.t 232) (.t 233) (.c (.bool false)))⟩,
 ⟨(some 235), none, .q (.mv (.t 234))⟩,
 ⟨(some 236), (some (235, true)), .q (.mv (.t 34))⟩,
 ⟨(some 237), (some (235, true)), .q (.bin .eql (.t 236) (.c (.int .i64 0)))⟩,
 ⟨(some 238), none, .q (.pick (.t 235) (.t 237) (.c (.bool false)))⟩,
 ⟨(some 239), none, .q (.mv (.t 238))⟩,
 ⟨(some 240), (some (239, true)), .q (.mv (.t 33))⟩,
 ⟨(some 241), (some (239, true)), .q (.mv (.t 9))⟩,
 ⟨(some 242), (some (239, true)), .q (.bin .leq (.t 240) (.t 241))⟩,
 ⟨(some 243), none, .q (.pick (.t 239) (.t 242) (.c (.bool false)))⟩,
 ⟨(some 244), none, .q (.mv (.t 243))⟩,
 ⟨(some 245), (some (244, true)), .q (.mv (.t 36))⟩,
 ⟨(some 246), (some (244, true)), .q (.bin .eql (.t 245) (.c (.int .i64 0)))⟩,
 ⟨(some 247), none, .q (.pick (.t 244) (.t 246) (.c (.bool false)))⟩,
 ⟨(some 248), none, .q (.mv (.t 247))⟩,
 ⟨(some 249), (some (248, true)), .q (.mv (.t 9))⟩,
 ⟨(some 250), (some (248, true)), .q (.mv (.t 35))⟩,
 ⟨(some 251), (some (248, true)), .q (.bin .leq (.t 249) (.t 250))⟩,
 ⟨(some 252), none, .q (.pick (.t 248) (.t 251) (.c (.bool false)))⟩,
 ⟨(some 253), none, .q (.mv (.t 252))⟩,
 ⟨(some 254), (some (253, true)), .q (.mv (.t 38))⟩,
 ⟨(some 255), (some (253, true)), .q (.bin .eql (.t 254) (.c (.int .i64 0)))⟩,
 ⟨(some 256), none, .q (.pick (.t 253) (.t 255) (.c (.bool false)))⟩,
 ⟨(some 257), none, .q (.mv (.t 256))⟩,
 ⟨(some 258), (some (257, true)), .q (.mv (.t 9))⟩,
 ⟨(some 259), (some (257, true)), .q (.mv (.t 37))⟩,
 ⟨(some 260), (some (257, true)), .q (.len (.t 259))⟩,
 ⟨(some 261), (some (257, true)), .q (.bin .leq (.t 258) (.t 260))⟩,
 ⟨(some 262), none, .q (.pick (.t 257) (.t 261) (.c (.bool false)))⟩,
 ⟨(some 2), none, .q (.mv (.t 262))⟩])
 .ret)))))))))))))))))))))))⟩
theorem l_laws_FnLeastCodes : lowF PA f_laws_FnLeastCodes 1 [] = some c_laws_FnLeastCodes := by kernel_rfl
abbrev f_laws_big : FuncId := 4
def c_laws_big : AF := ⟨1, 6, [.t 2],
 (.seq (.reg [⟨(some 2), none, .q (.mv (.c (.bool false)))⟩])
 (.seq (.reg [⟨(some 3), none, .q (.mv (.t 0))⟩,
 ⟨(some 4), none, .q (.len (.t 3))⟩,
 ⟨(some 5), none, .q (.bin .gtr (.t 4) (.c (.int .i64 4096)))⟩,
 ⟨(some 2), none, .q (.mv (.t 5))⟩])
 .ret))⟩
theorem l_laws_big : lowF PA f_laws_big 1 [] = some c_laws_big := by kernel_rfl
abbrev f_spec_DrawFirstCover : FuncId := 5
def c_spec_DrawFirstCover : AF := ⟨1, 8, [.c 2 true 1, .t 3],
 (.seq (.reg [⟨(some 2), none, .m (.alloc [(.v (.slice none 0 0))])⟩,
 ⟨(some 3), none, .q (.mv (.c (.int .i64 0)))⟩])
 (.seq (.reg [⟨(some 4), none, .q (.mv (.t 0))⟩,
 ⟨(some 5), none, .c (.call 22 [(.t 4), (.c (.int .i64 1)), (.c (.int .i64 8))])⟩,
 ⟨(some 6), none, .q (.ext (.t 5) 0)⟩,
 ⟨(some 7), none, .q (.ext (.t 5) 1)⟩,
 ⟨none, none, .m (.st true 1 (.t 2) (.t 6))⟩,
 ⟨(some 3), none, .q (.mv (.t 7))⟩])
 .ret))⟩
theorem l_spec_DrawFirstCover : lowF PA f_spec_DrawFirstCover 1 [] = some c_spec_DrawFirstCover := by kernel_rfl
abbrev f_impl_FirstCover : FuncId := 6
def c_impl_FirstCover : AF := ⟨2, 16, [.t 4, .t 5],
 (.seq (.reg [⟨(some 2), none, .m (.box (.t 0))⟩,
 ⟨(some 4), none, .q (.mv (.c (.slice none 0 0)))⟩,
 ⟨(some 5), none, .q (.mv (.c (.int .i64 0)))⟩])
 (.seq (.seq (.reg [⟨(some 7), none, .q (.ld true 1 (.t 2))⟩,
 ⟨(some 8), none, .q (.mv (.t 1))⟩,
 ⟨(some 9), none, .c (.call 23 [(.t 7), (.t 8), (.c (.int .i64 1)), (.c (.int .i64 8))])⟩,
 ⟨(some 6), none, .q (.mv (.t 9))⟩])
 (.seq (.reg [⟨(some 10), none, .q (.mv (.t 6))⟩,
 ⟨(some 11), none, .q (.bin .neq (.t 10) (.c (.int .i64 0)))⟩])
 (.cond (.t 11)
 (.seq (.reg [⟨(some 12), none, .q (.mv (.t 6))⟩,
 ⟨(some 4), none, .q (.mv (.c (.slice none 0 0)))⟩,
 ⟨(some 5), none, .q (.mv (.t 12))⟩])
 .ret)
 .skip)))
 (.seq (.reg [⟨(some 13), none, .q (.ld true 1 (.t 2))⟩,
 ⟨(some 14), none, .q (.mv (.t 1))⟩,
 ⟨(some 15), none, .c (.call 24 [(.t 13), (.t 14)])⟩,
 ⟨(some 4), none, .q (.mv (.t 15))⟩,
 ⟨(some 5), none, .q (.mv (.c (.int .i64 0)))⟩])
 .ret)))⟩
theorem l_impl_FirstCover : lowF PA f_impl_FirstCover 2 [] = some c_impl_FirstCover := by kernel_rfl
abbrev f_spec_FirstCover : FuncId := 7
def c_spec_FirstCover : AF := ⟨2, 16, [.t 4, .t 5],
 (.seq (.reg [⟨(some 2), none, .m (.box (.t 0))⟩,
 ⟨(some 4), none, .q (.mv (.c (.slice none 0 0)))⟩,
 ⟨(some 5), none, .q (.mv (.c (.int .i64 0)))⟩])
 (.seq (.seq (.reg [⟨(some 7), none, .q (.ld true 1 (.t 2))⟩,
 ⟨(some 8), none, .q (.mv (.t 1))⟩,
 ⟨(some 9), none, .c (.call 25 [(.t 7), (.t 8), (.c (.int .i64 1)), (.c (.int .i64 8))])⟩,
 ⟨(some 6), none, .q (.mv (.t 9))⟩])
 (.seq (.reg [⟨(some 10), none, .q (.mv (.t 6))⟩,
 ⟨(some 11), none, .q (.bin .neq (.t 10) (.c (.int .i64 0)))⟩])
 (.cond (.t 11)
 (.seq (.reg [⟨(some 12), none, .q (.mv (.t 6))⟩,
 ⟨(some 4), none, .q (.mv (.c (.slice none 0 0)))⟩,
 ⟨(some 5), none, .q (.mv (.t 12))⟩])
 .ret)
 .skip)))
 (.seq (.reg [⟨(some 13), none, .q (.ld true 1 (.t 2))⟩,
 ⟨(some 14), none, .q (.mv (.t 1))⟩,
 ⟨(some 15), none, .c (.call 26 [(.t 13), (.t 14)])⟩,
 ⟨(some 4), none, .q (.mv (.t 15))⟩,
 ⟨(some 5), none, .q (.mv (.c (.int .i64 0)))⟩])
 .ret)))⟩
theorem l_spec_FirstCover : lowF PA f_spec_FirstCover 2 [] = some c_spec_FirstCover := by kernel_rfl
abbrev f_laws_likeInts : FuncId := 8
def c_laws_likeInts : AF := ⟨2, 26, [.t 4],
 (.seq (.reg [⟨(some 4), none, .q (.mv (.c (.bool false)))⟩])
 (.seq (.seq (.reg [⟨(some 6), none, .q (.mv (.t 0))⟩,
 ⟨(some 7), none, .q (.len (.t 6))⟩,
 ⟨(some 8), none, .q (.mv (.t 1))⟩,
 ⟨(some 9), none, .q (.len (.t 8))⟩,
 ⟨(some 10), none, .q (.bin .neq (.t 7) (.t 9))⟩])
 (.cond (.t 10)
 (.seq (.reg [⟨(some 4), none, .q (.mv (.c (.bool false)))⟩])
 .ret)
 .skip))
 (.seq (.seq (.reg [⟨(some 5), none, .q (.mv (.c (.int .i64 0)))⟩])
 (.block 0 (.loop [0, 1, 5] (.seq (.seq (.reg [⟨(some 11), none, .q (.mv (.t 5))⟩,
 ⟨(some 12), none, .q (.mv (.t 0))⟩,
 ⟨(some 13), none, .q (.len (.t 12))⟩,
 ⟨(some 14), none, .q (.bin .lss (.t 11) (.t 13))⟩])
 (.cond (.t 14)
 .skip
 (.exit 0)))
 (.seq (.block 1 (.seq (.sch (.take 0 ⟨(some 17), none, .q (.mv (.t 0))⟩ (.take 1 ⟨(some 18), none, .q (.mv (.t 5))⟩ (.take 2 ⟨(some 19), none, .q (.ixs 1 (.t 17) (.t 18))⟩ (.take 3 ⟨(some 20), none, .q (.ld false 1 (.t 19))⟩ (.take 4 ⟨(some 21), none, .q (.mv (.t 1))⟩ (.take 5 ⟨(some 22), none, .q (.mv (.t 5))⟩ (.take 6 ⟨(some 23), none, .q (.ixs 1 (.t 21) (.t 22))⟩ (.take 7 ⟨(some 24), none, .q (.ld false 1 (.t 23))⟩ (.take 8 ⟨(some 25), none, .q (.bin .neq (.t 20) (.t 24))⟩ .done))))))))))
 (.cond (.t 25)
 (.seq (.reg [⟨(some 4), none, .q (.mv (.c (.bool false)))⟩])
 .ret)
 .skip)))
 (.reg [⟨(some 15), none, .q (.mv (.t 5))⟩,
 ⟨(some 16), none, .q (.bin .add (.t 15) (.c (.int .i64 1)))⟩,
 ⟨(some 5), none, .q (.mv (.t 16))⟩]))))))
 (.seq (.reg [⟨(some 4), none, .q (.mv (.c (.bool true)))⟩])
 .ret))))⟩
theorem l_laws_likeInts : lowF PA f_laws_likeInts 2 [.k [0, 1, 5], .s (.take 0 (.take 1 (.take 2 (.take 3 (.take 4 (.take 5 (.take 6 (.take 7 (.take 8 .done)))))))))] = some c_laws_likeInts := by kernel_rfl
abbrev f_impl_LeastNumber : FuncId := 9
def c_impl_LeastNumber : AF := ⟨2, 17, [.t 4, .t 5],
 (.seq (.reg [⟨(some 2), none, .m (.box (.t 0))⟩,
 ⟨(some 4), none, .q (.mv (.c (.int .i64 0)))⟩,
 ⟨(some 5), none, .q (.mv (.c (.int .i64 0)))⟩])
 (.seq (.seq (.reg [⟨(some 7), none, .q (.ld true 1 (.t 2))⟩,
 ⟨(some 8), none, .q (.mv (.t 1))⟩,
 ⟨(some 9), none, .c (.call 23 [(.t 7), (.t 8), (.c (.int .i64 1)), (.c (.int .i64 8))])⟩,
 ⟨(some 6), none, .q (.mv (.t 9))⟩])
 (.seq (.reg [⟨(some 10), none, .q (.mv (.t 6))⟩,
 ⟨(some 11), none, .q (.bin .neq (.t 10) (.c (.int .i64 0)))⟩])
 (.cond (.t 11)
 (.seq (.reg [⟨(some 12), none, .q (.mv (.t 6))⟩,
 ⟨(some 4), none, .q (.mv (.c (.int .i64 0)))⟩,
 ⟨(some 5), none, .q (.mv (.t 12))⟩])
 .ret)
 .skip)))
 (.seq (.reg [⟨(some 13), none, .q (.ld true 1 (.t 2))⟩,
 ⟨(some 14), none, .q (.mv (.t 1))⟩,
 ⟨(some 15), none, .c (.call 24 [(.t 13), (.t 14)])⟩,
 ⟨(some 16), none, .q (.len (.t 15))⟩,
 ⟨(some 4), none, .q (.mv (.t 16))⟩,
 ⟨(some 5), none, .q (.mv (.c (.int .i64 0)))⟩])
 .ret)))⟩
theorem l_impl_LeastNumber : lowF PA f_impl_LeastNumber 2 [] = some c_impl_LeastNumber := by kernel_rfl
abbrev f_spec_LeastNumber : FuncId := 10
def c_spec_LeastNumber : AF := ⟨2, 17, [.t 4, .t 5],
 (.seq (.reg [⟨(some 2), none, .m (.box (.t 0))⟩,
 ⟨(some 4), none, .q (.mv (.c (.int .i64 0)))⟩,
 ⟨(some 5), none, .q (.mv (.c (.int .i64 0)))⟩])
 (.seq (.seq (.reg [⟨(some 7), none, .q (.ld true 1 (.t 2))⟩,
 ⟨(some 8), none, .q (.mv (.t 1))⟩,
 ⟨(some 9), none, .c (.call 25 [(.t 7), (.t 8), (.c (.int .i64 1)), (.c (.int .i64 8))])⟩,
 ⟨(some 6), none, .q (.mv (.t 9))⟩])
 (.seq (.reg [⟨(some 10), none, .q (.mv (.t 6))⟩,
 ⟨(some 11), none, .q (.bin .neq (.t 10) (.c (.int .i64 0)))⟩])
 (.cond (.t 11)
 (.seq (.reg [⟨(some 12), none, .q (.mv (.t 6))⟩,
 ⟨(some 4), none, .q (.mv (.c (.int .i64 0)))⟩,
 ⟨(some 5), none, .q (.mv (.t 12))⟩])
 .ret)
 .skip)))
 (.seq (.reg [⟨(some 13), none, .q (.ld true 1 (.t 2))⟩,
 ⟨(some 14), none, .q (.mv (.t 1))⟩,
 ⟨(some 15), none, .c (.call 26 [(.t 13), (.t 14)])⟩,
 ⟨(some 16), none, .q (.len (.t 15))⟩,
 ⟨(some 4), none, .q (.mv (.t 16))⟩,
 ⟨(some 5), none, .q (.mv (.c (.int .i64 0)))⟩])
 .ret)))⟩
theorem l_spec_LeastNumber : lowF PA f_spec_LeastNumber 2 [] = some c_spec_LeastNumber := by kernel_rfl
abbrev f_spec_DrawBallBound : FuncId := 11
def c_spec_DrawBallBound : AF := ⟨1, 8, [.c 2 true 1, .t 3],
 (.seq (.reg [⟨(some 2), none, .m (.alloc [(.v (.slice none 0 0))])⟩,
 ⟨(some 3), none, .q (.mv (.c (.int .i64 0)))⟩])
 (.seq (.reg [⟨(some 4), none, .q (.mv (.t 0))⟩,
 ⟨(some 5), none, .c (.call 27 [(.t 4), (.c (.int .i64 0)), (.c (.int .i64 8))])⟩,
 ⟨(some 6), none, .q (.ext (.t 5) 0)⟩,
 ⟨(some 7), none, .q (.ext (.t 5) 1)⟩,
 ⟨none, none, .m (.st true 1 (.t 2) (.t 6))⟩,
 ⟨(some 3), none, .q (.mv (.t 7))⟩])
 .ret))⟩
theorem l_spec_DrawBallBound : lowF PA f_spec_DrawBallBound 1 [] = some c_spec_DrawBallBound := by kernel_rfl
abbrev f_impl_BallBound : FuncId := 12
def c_impl_BallBound : AF := ⟨2, 20, [.t 4, .t 5],
 (.seq (.reg [⟨(some 2), none, .m (.box (.t 0))⟩,
 ⟨(some 4), none, .q (.mv (.c (.int .i64 0)))⟩,
 ⟨(some 5), none, .q (.mv (.c (.int .i64 0)))⟩])
 (.seq (.seq (.reg [⟨(some 7), none, .q (.ld true 1 (.t 2))⟩,
 ⟨(some 8), none, .q (.mv (.t 1))⟩,
 ⟨(some 9), none, .c (.call 28 [(.t 7), (.c (.int .i64 0)), (.t 8)])⟩,
 ⟨(some 6), none, .q (.mv (.t 9))⟩])
 (.seq (.reg [⟨(some 10), none, .q (.mv (.t 6))⟩,
 ⟨(some 11), none, .q (.bin .neq (.t 10) (.c (.int .i64 0)))⟩])
 (.cond (.t 11)
 (.seq (.reg [⟨(some 12), none, .q (.mv (.t 6))⟩,
 ⟨(some 4), none, .q (.mv (.c (.int .i64 0)))⟩,
 ⟨(some 5), none, .q (.mv (.t 12))⟩])
 .ret)
 .skip)))
 (.seq (.sch (.take 0 ⟨(some 13), none, .q (.ld true 1 (.t 2))⟩ (.take 2 ⟨(some 15), none, .q (.ld true 1 (.t 2))⟩ (.take 3 ⟨(some 16), none, .q (.mv (.t 1))⟩ (.one ⟨(some 14), none, .c (.call 30 [(.t 13)])⟩ [0] (.one ⟨(some 17), none, .c (.call 31 [(.t 15), (.c (.int .i64 0)), (.t 16)])⟩ [2] (.take 5 ⟨(some 18), none, .q (.len (.t 17))⟩ (.one ⟨(some 19), none, .c (.call 29 [(.t 14), (.t 18)])⟩ [] (.take 7 ⟨(some 4), none, .q (.mv (.t 19))⟩ (.take 8 ⟨(some 5), none, .q (.mv (.c (.int .i64 0)))⟩ .done))))))))))
 .ret)))⟩
theorem l_impl_BallBound : lowF PA f_impl_BallBound 2 [.s (.take 0 (.take 2 (.take 3 (.one 1 (.one 4 (.take 5 (.one 6 (.take 7 (.take 8 .done)))))))))] = some c_impl_BallBound := by kernel_rfl
abbrev f_spec_BallBound : FuncId := 13
def c_spec_BallBound : AF := ⟨2, 24, [.t 4, .t 5],
 (.seq (.reg [⟨(some 2), none, .m (.box (.t 0))⟩,
 ⟨(some 4), none, .q (.mv (.c (.int .i64 0)))⟩,
 ⟨(some 5), none, .q (.mv (.c (.int .i64 0)))⟩])
 (.seq (.seq (.reg [⟨(some 8), none, .q (.ld true 1 (.t 2))⟩,
 ⟨(some 9), none, .q (.mv (.t 1))⟩,
 ⟨(some 10), none, .c (.call 32 [(.t 8), (.t 9), (.c (.int .i64 0)), (.c (.int .i64 8))])⟩,
 ⟨(some 6), none, .q (.mv (.t 10))⟩])
 (.seq (.reg [⟨(some 11), none, .q (.mv (.t 6))⟩,
 ⟨(some 12), none, .q (.bin .neq (.t 11) (.c (.int .i64 0)))⟩])
 (.cond (.t 12)
 (.seq (.reg [⟨(some 13), none, .q (.mv (.t 6))⟩,
 ⟨(some 4), none, .q (.mv (.c (.int .i64 0)))⟩,
 ⟨(some 5), none, .q (.mv (.t 13))⟩])
 .ret)
 .skip)))
 (.seq (.reg [⟨(some 14), none, .q (.ld true 1 (.t 2))⟩,
 ⟨(some 15), none, .q (.mv (.t 1))⟩,
 ⟨(some 16), none, .c (.call 33 [(.t 14), (.t 15)])⟩,
 ⟨(some 7), none, .q (.mv (.t 16))⟩])
 (.seq (.reg [⟨(some 17), none, .q (.ld true 1 (.t 2))⟩,
 ⟨(some 18), none, .c (.call 34 [(.t 17)])⟩,
 ⟨(some 19), none, .q (.mv (.t 7))⟩,
 ⟨(some 20), none, .q (.bin .add (.t 18) (.t 19))⟩,
 ⟨(some 21), none, .q (.bin .sub (.t 20) (.c (.int .i64 1)))⟩,
 ⟨(some 22), none, .q (.mv (.t 7))⟩,
 ⟨(some 23), none, .q (.bin .quo (.t 21) (.t 22))⟩,
 ⟨(some 4), none, .q (.mv (.t 23))⟩,
 ⟨(some 5), none, .q (.mv (.c (.int .i64 0)))⟩])
 .ret))))⟩
theorem l_spec_BallBound : lowF PA f_spec_BallBound 2 [] = some c_spec_BallBound := by kernel_rfl
abbrev f_impl_FreeBound : FuncId := 14
def c_impl_FreeBound : AF := ⟨2, 16, [.t 4, .t 5],
 (.seq (.reg [⟨(some 2), none, .m (.box (.t 0))⟩,
 ⟨(some 4), none, .q (.mv (.c (.int .i64 0)))⟩,
 ⟨(some 5), none, .q (.mv (.c (.int .i64 0)))⟩])
 (.seq (.seq (.reg [⟨(some 7), none, .q (.ld true 1 (.t 2))⟩,
 ⟨(some 8), none, .q (.mv (.t 1))⟩,
 ⟨(some 9), none, .c (.call 28 [(.t 7), (.c (.int .i64 0)), (.t 8)])⟩,
 ⟨(some 6), none, .q (.mv (.t 9))⟩])
 (.seq (.reg [⟨(some 10), none, .q (.mv (.t 6))⟩,
 ⟨(some 11), none, .q (.bin .neq (.t 10) (.c (.int .i64 0)))⟩])
 (.cond (.t 11)
 (.seq (.reg [⟨(some 12), none, .q (.mv (.t 6))⟩,
 ⟨(some 4), none, .q (.mv (.c (.int .i64 0)))⟩,
 ⟨(some 5), none, .q (.mv (.t 12))⟩])
 .ret)
 .skip)))
 (.seq (.reg [⟨(some 13), none, .q (.ld true 1 (.t 2))⟩,
 ⟨(some 14), none, .q (.mv (.t 1))⟩,
 ⟨(some 15), none, .c (.call 35 [(.t 13), (.t 14)])⟩,
 ⟨(some 4), none, .q (.mv (.t 15))⟩,
 ⟨(some 5), none, .q (.mv (.c (.int .i64 0)))⟩])
 .ret)))⟩
theorem l_impl_FreeBound : lowF PA f_impl_FreeBound 2 [] = some c_impl_FreeBound := by kernel_rfl
abbrev f_spec_FreeBound : FuncId := 15
def c_spec_FreeBound : AF := ⟨2, 16, [.t 4, .t 5],
 (.seq (.reg [⟨(some 2), none, .m (.box (.t 0))⟩,
 ⟨(some 4), none, .q (.mv (.c (.int .i64 0)))⟩,
 ⟨(some 5), none, .q (.mv (.c (.int .i64 0)))⟩])
 (.seq (.seq (.reg [⟨(some 7), none, .q (.ld true 1 (.t 2))⟩,
 ⟨(some 8), none, .q (.mv (.t 1))⟩,
 ⟨(some 9), none, .c (.call 32 [(.t 7), (.t 8), (.c (.int .i64 0)), (.c (.int .i64 8))])⟩,
 ⟨(some 6), none, .q (.mv (.t 9))⟩])
 (.seq (.reg [⟨(some 10), none, .q (.mv (.t 6))⟩,
 ⟨(some 11), none, .q (.bin .neq (.t 10) (.c (.int .i64 0)))⟩])
 (.cond (.t 11)
 (.seq (.reg [⟨(some 12), none, .q (.mv (.t 6))⟩,
 ⟨(some 4), none, .q (.mv (.c (.int .i64 0)))⟩,
 ⟨(some 5), none, .q (.mv (.t 12))⟩])
 .ret)
 .skip)))
 (.seq (.reg [⟨(some 13), none, .q (.ld true 1 (.t 2))⟩,
 ⟨(some 14), none, .q (.mv (.t 1))⟩,
 ⟨(some 15), none, .c (.call 36 [(.t 13), (.t 14)])⟩,
 ⟨(some 4), none, .q (.mv (.t 15))⟩,
 ⟨(some 5), none, .q (.mv (.c (.int .i64 0)))⟩])
 .ret)))⟩
theorem l_spec_FreeBound : lowF PA f_spec_FreeBound 2 [] = some c_spec_FreeBound := by kernel_rfl
abbrev f_spec_DrawFreeCode : FuncId := 16
def c_spec_DrawFreeCode : AF := ⟨1, 40, [.c 2 true 1, .t 3],
 (.seq (.reg [⟨(some 2), none, .m (.alloc [(.v (.slice none 0 0))])⟩,
 ⟨(some 3), none, .q (.mv (.c (.slice none 0 0)))⟩])
 (.seq (.reg [⟨(some 8), none, .q (.mv (.t 0))⟩,
 ⟨(some 9), none, .c (.call 37 [(.t 8)])⟩,
 ⟨(some 4), none, .q (.mv (.t 9))⟩])
 (.seq (.reg [⟨(some 10), none, .q (.mv (.t 4))⟩,
 ⟨(some 11), none, .c (.call 38 [(.t 10)])⟩,
 ⟨(some 12), none, .m (.bsl 1 [])⟩,
 ⟨(some 5), none, .m (.alloc [(.v (.slice none 0 0))])⟩,
 ⟨none, none, .m (.st true 1 (.t 5) (.t 11))⟩,
 ⟨(some 6), none, .q (.mv (.t 12))⟩])
 (.seq (.seq (.reg [⟨(some 7), none, .q (.mv (.c (.int .i64 0)))⟩])
 (.block 0 (.loop [2, 4, 5, 6, 7] (.seq (.seq (.reg [⟨(some 13), none, .q (.mv (.t 7))⟩,
 ⟨(some 14), none, .q (.fad 0 (.t 5))⟩,
 ⟨(some 15), none, .q (.ld false 1 (.t 14))⟩,
 ⟨(some 16), none, .q (.len (.t 15))⟩,
 ⟨(some 17), none, .q (.bin .lss (.t 13) (.t 16))⟩])
 (.cond (.t 17)
 .skip
 (.exit 0)))
 (.seq (.block 1 (.seq (.reg [⟨(some 20), none, .q (.mv (.t 4))⟩,
 ⟨(some 21), none, .c (.call 39 [(.t 20), (.c (.int .i64 2))])⟩,
 ⟨(some 22), none, .q (.bin .eql (.t 21) (.c (.int .i64 0)))⟩])
 (.cond (.t 22)
 (.reg [⟨(some 23), none, .q (.mv (.t 6))⟩,
 ⟨(some 24), none, .q (.mv (.t 7))⟩,
 ⟨(some 25), none, .m (.bsl 1 [(.t 24)])⟩,
 ⟨(some 26), none, .m (.app 1 8 (.t 23) (.t 25))⟩,
 ⟨(some 6), none, .q (.mv (.t 26))⟩])
 .skip)))
 (.reg [⟨(some 18), none, .q (.mv (.t 7))⟩,
 ⟨(some 19), none, .q (.bin .add (.t 18) (.c (.int .i64 1)))⟩,
 ⟨(some 7), none, .q (.mv (.t 19))⟩]))))))
 (.seq (.seq (.reg [⟨(some 27), none, .q (.mv (.t 4))⟩,
 ⟨(some 28), none, .c (.call 39 [(.t 27), (.c (.int .i64 16))])⟩,
 ⟨(some 29), none, .q (.bin .eql (.t 28) (.c (.int .i64 0)))⟩])
 (.cond (.t 29)
 (.reg [⟨(some 30), none, .q (.mv (.t 6))⟩,
 ⟨(some 31), none, .q (.mv (.t 4))⟩,
 ⟨(some 32), none, .m (.bsl 1 [(.c (.int .i64 (-1))), (.c (.int .i64 0)), (.c (.int .i64 8))])⟩,
 ⟨(some 33), none, .c (.call 40 [(.t 31), (.t 32)])⟩,
 ⟨(some 34), none, .m (.bsl 1 [(.t 33)])⟩,
 ⟨(some 35), none, .m (.app 1 8 (.t 30) (.t 34))⟩,
 ⟨(some 6), none, .q (.mv (.t 35))⟩])
 .skip))
 (.seq (.reg [⟨(some 36), none, .q (.mv (.t 4))⟩,
 ⟨(some 37), none, .q (.ld true 1 (.t 5))⟩,
 ⟨(some 38), none, .c (.call 41 [(.t 36), (.t 37)])⟩,
 ⟨(some 39), none, .q (.mv (.t 6))⟩,
 ⟨none, none, .m (.st true 1 (.t 2) (.t 38))⟩,
 ⟨(some 3), none, .q (.mv (.t 39))⟩])
 .ret))))))⟩
theorem l_spec_DrawFreeCode : lowF PA f_spec_DrawFreeCode 1 [.k [2, 4, 5, 6, 7]] = some c_spec_DrawFreeCode := by kernel_rfl
abbrev f_impl_FreeCode : FuncId := 17
def c_impl_FreeCode : AF := ⟨2, 39, [.t 4, .t 5],
 (.seq (.reg [⟨(some 2), none, .m (.box (.t 0))⟩,
 ⟨(some 3), none, .m (.box (.t 1))⟩,
 ⟨(some 4), none, .q (.mv (.c (.slice none 0 0)))⟩,
 ⟨(some 5), none, .q (.mv (.c (.int .i64 0)))⟩])
 (.seq (.seq (.reg [⟨(some 8), none, .q (.ld true 1 (.t 2))⟩,
 ⟨(some 9), none, .c (.call 42 [(.t 8)])⟩,
 ⟨(some 10), none, .q (.un .not (.t 9))⟩])
 (.cond (.t 10)
 (.seq (.reg [⟨(some 4), none, .q (.mv (.c (.slice none 0 0)))⟩,
 ⟨(some 5), none, .q (.mv (.c (.int .i64 1)))⟩])
 .ret)
 .skip))
 (.seq (.seq (.reg [⟨(some 11), none, .q (.ld false 1 (.t 3))⟩,
 ⟨(some 12), none, .q (.len (.t 11))⟩,
 ⟨(some 13), none, .q (.mv (.c (.int .i64 0)))⟩])
 (.block 0 (.loop [2, 3, 11, 12, 13] (.seq (.reg [⟨(some 14), none, .q (.bin .lss (.t 13) (.t 12))⟩])
 (.seq (.cond (.t 14)
 .skip
 (.exit 0))
 (.seq (.block 1 (.seq (.reg [⟨(some 15), none, .q (.mv (.t 13))⟩,
 ⟨(some 16), none, .q (.ixs 1 (.t 11) (.t 13))⟩,
 ⟨(some 17), none, .q (.ld false 1 (.t 16))⟩,
 ⟨(some 6), none, .q (.mv (.t 15))⟩,
 ⟨(some 7), none, .q (.mv (.t 17))⟩])
 (.seq (.reg [⟨(some 18), none, .q (.ld true 1 (.t 2))⟩,
 ⟨(some 19), none, .q (.mv (.t 7))⟩,
 ⟨(some 20), none, .c (.call 43 [(.t 18), (.t 19)])⟩,
 ⟨(some 21), none, .q (.un .not (.t 20))⟩,
 ⟨(some 22), none, .q (.mv (.t 21))⟩,
 ⟨(some 23), (some (22, false)), .q (.mv (.t 6))⟩,
 ⟨(some 24), (some (22, false)), .q (.bin .gtr (.t 23) (.c (.int .i64 0)))⟩,
 ⟨(some 25), (some (22, false)), .q (.mv (.t 24))⟩,
 ⟨(some 26), (some (25, true)), .q (.mv (.t 7))⟩,
 ⟨(some 27), (some (25, true)), .q (.ld false 1 (.t 3))⟩,
 ⟨(some 28), (some (25, true)), .q (.mv (.t 6))⟩,
 ⟨(some 29), (some (25, true)), .q (.bin .sub (.t 28) (.c (.int .i64 1)))⟩,
 ⟨(some 30), (some (25, true)), .q (.ixs 1 (.t 27) (.t 29))⟩,
 ⟨(some 31), (some (25, true)), .q (.ld false 1 (.t 30))⟩,
 ⟨(some 32), (some (25, true)), .q (.bin .leq (.t 26) (.t 31))⟩,
 ⟨(some 33), (some (22, false)), .q (.pick (.t 25) (.t 32) (.c (.bool false)))⟩,
 ⟨(some 34), none, .q (.pick (.t 22) (.c (.bool true)) (.t 33))⟩])
 (.cond (.t 34)
 (.seq (.reg [⟨(some 4), none, .q (.mv (.c (.slice none 0 0)))⟩,
 ⟨(some 5), none, .q (.mv (.c (.int .i64 2)))⟩])
 .ret)
 .skip))))
 (.reg [⟨(some 35), none, .q (.bin .add (.t 13) (.c (.int .i64 1)))⟩,
 ⟨(some 13), none, .q (.mv (.t 35))⟩])))))))
 (.seq (.reg [⟨(some 36), none, .q (.ld true 1 (.t 2))⟩,
 ⟨(some 37), none, .q (.mkf 45 [(.t 3)])⟩,
 ⟨(some 38), none, .c (.call 44 [(.t 36), (.t 37)])⟩,
 ⟨(some 4), none, .q (.mv (.t 38))⟩,
 ⟨(some 5), none, .q (.mv (.c (.int .i64 0)))⟩])
 .ret))))⟩
theorem l_impl_FreeCode : lowF PA f_impl_FreeCode 2 [.k [2, 3, 11, 12, 13]] = some c_impl_FreeCode := by kernel_rfl
abbrev f_spec_FreeCode : FuncId := 18
def c_spec_FreeCode : AF := ⟨2, 80, [.t 4, .t 5],
 (.seq (.reg [⟨(some 2), none, .m (.box (.t 0))⟩,
 ⟨(some 4), none, .q (.mv (.c (.slice none 0 0)))⟩,
 ⟨(some 5), none, .q (.mv (.c (.int .i64 0)))⟩])
 (.seq (.seq (.reg [⟨(some 12), none, .q (.ld true 1 (.t 2))⟩,
 ⟨(some 13), none, .c (.call 48 [(.t 12)])⟩,
 ⟨(some 14), none, .q (.un .not (.t 13))⟩])
 (.cond (.t 14)
 (.seq (.reg [⟨(some 4), none, .q (.mv (.c (.slice none 0 0)))⟩,
 ⟨(some 5), none, .q (.mv (.c (.int .i64 1)))⟩])
 .ret)
 .skip))
 (.seq (.seq (.reg [⟨(some 6), none, .q (.mv (.c (.int .i64 0)))⟩])
 (.block 0 (.loop [1, 2, 6] (.seq (.seq (.reg [⟨(some 15), none, .q (.mv (.t 6))⟩,
 ⟨(some 16), none, .q (.mv (.t 1))⟩,
 ⟨(some 17), none, .q (.len (.t 16))⟩,
 ⟨(some 18), none, .q (.bin .lss (.t 15) (.t 17))⟩])
 (.cond (.t 18)
 .skip
 (.exit 0)))
 (.seq (.block 1 (.seq (.sch (.take 0 ⟨(some 21), none, .q (.mv (.t 1))⟩ (.take 1 ⟨(some 22), none, .q (.mv (.t 6))⟩ (.take 2 ⟨(some 23), none, .q (.ixs 1 (.t 21) (.t 22))⟩ (.take 3 ⟨(some 24), none, .q (.ld false 1 (.t 23))⟩ (.take 4 ⟨(some 25), none, .q (.fad 0 (.t 2))⟩ (.take 5 ⟨(some 26), none, .q (.ld false 1 (.t 25))⟩ (.take 6 ⟨(some 27), none, .q (.len (.t 26))⟩ (.take 7 ⟨(some 28), none, .q (.bin .sub (.t 27) (.c (.int .i64 1)))⟩ (.one ⟨(some 29), none, .c (.call 49 [(.t 24), (.c (.int .i64 0)), (.t 28)])⟩ [3] (.take 9 ⟨(some 30), none, .q (.un .not (.t 29))⟩ (.take 10 ⟨(some 31), none, .q (.mv (.t 30))⟩ (.take 11 ⟨(some 32), (some (31, false)), .q (.mv (.t 6))⟩ (.take 12 ⟨(some 33), (some (31, false)), .q (.bin .gtr (.t 32) (.c (.int .i64 0)))⟩ (.take 13 ⟨(some 34), (some (31, false)), .q (.mv (.t 33))⟩ (.take 14 ⟨(some 35), (some (34, true)), .q (.mv (.t 1))⟩ (.take 15 ⟨(some 36), (some (34, true)), .q (.mv (.t 6))⟩ (.take 16 ⟨(some 37), (some (34, true)), .q (.bin .sub (.t 36) (.c (.int .i64 1)))⟩ (.take 17 ⟨(some 38), (some (34, true)), .q (.ixs 1 (.t 35) (.t 37))⟩ (.take 18 ⟨(some 39), (some (34, true)), .q (.ld false 1 (.t 38))⟩ (.take 19 ⟨(some 40), (some (34, true)), .q (.mv (.t 1))⟩ (.take 20 ⟨(some 41), (some (34, true)), .q (.mv (.t 6))⟩ (.take 21 ⟨(some 42), (some (34, true)), .q (.ixs 1 (.t 40) (.t 41))⟩ (.take 22 ⟨(some 43), (some (34, true)), .q (.ld false 1 (.t 42))⟩ (.take 23 ⟨(some 44), (some (34, true)), .q (.bin .geq (.t 39) (.t 43))⟩ (.take 24 ⟨(some 45), (some (31, false)), .q (.pick (.t 34) (.t 44) (.c (.bool false)))⟩ (.take 25 ⟨(some 46), none, .q (.pick (.t 31) (.c (.bool true)) (.t 45))⟩ .done)))))))))))))))))))))))))))
 (.cond (.t 46)
 (.seq (.reg [⟨(some 4), none, .q (.mv (.c (.slice none 0 0)))⟩,
 ⟨(some 5), none, .q (.mv (.c (.int .i64 2)))⟩])
 .ret)
 .skip)))
 (.reg [⟨(some 19), none, .q (.mv (.t 6))⟩,
 ⟨(some 20), none, .q (.bin .add (.t 19) (.c (.int .i64 1)))⟩,
 ⟨(some 6), none, .q (.mv (.t 20))⟩]))))))
 (.seq (.reg [⟨(some 47), none, .m (.bsl 1 [])⟩,
 ⟨(some 7), none, .q (.mv (.t 47))⟩])
 (.seq (.seq (.reg [⟨(some 8), none, .q (.mv (.c (.int .i64 0)))⟩])
 (.block 2 (.loop [1, 2, 7, 8] (.seq (.seq (.reg [⟨(some 48), none, .q (.mv (.t 8))⟩,
 ⟨(some 49), none, .q (.ld true 1 (.t 2))⟩,
 ⟨(some 50), none, .c (.call 34 [(.t 49)])⟩,
 ⟨(some 51), none, .q (.bin .lss (.t 48) (.t 50))⟩])
 (.cond (.t 51)
 .skip
 (.exit 2)))
 (.seq (.block 3 (.seq (.reg [⟨(some 54), none, .q (.ld true 1 (.t 2))⟩,
 ⟨(some 55), none, .q (.mv (.t 8))⟩,
 ⟨(some 56), none, .c (.call 50 [(.t 54), (.t 55)])⟩,
 ⟨(some 9), none, .q (.mv (.t 56))⟩,
 ⟨(some 10), none, .q (.mv (.c (.bool true)))⟩])
 (.seq (.seq (.reg [⟨(some 11), none, .q (.mv (.c (.int .i64 0)))⟩])
 (.block 4 (.loop [1, 2, 7, 8, 9, 10, 11] (.seq (.seq (.reg [⟨(some 57), none, .q (.mv (.t 11))⟩,
 ⟨(some 58), none, .q (.mv (.t 1))⟩,
 ⟨(some 59), none, .q (.len (.t 58))⟩,
 ⟨(some 60), none, .q (.bin .lss (.t 57) (.t 59))⟩])
 (.cond (.t 60)
 .skip
 (.exit 4)))
 (.seq (.block 5 (.reg [⟨(some 63), none, .q (.mv (.t 10))⟩,
 ⟨(some 64), none, .q (.mv (.t 63))⟩,
 ⟨(some 65), (some (64, true)), .q (.mv (.t 9))⟩,
 ⟨(some 66), (some (64, true)), .q (.mv (.t 1))⟩,
 ⟨(some 67), (some (64, true)), .q (.mv (.t 11))⟩,
 ⟨(some 68), (some (64, true)), .q (.ixs 1 (.t 66) (.t 67))⟩,
 ⟨(some 69), (some (64, true)), .q (.ld false 1 (.t 68))⟩,
 ⟨(some 70), (some (64, true)), .q (.ixs 1 (.t 65) (.t 69))⟩,
 ⟨(some 71), (some (64, true)), .q (.ld false 1 (.t 70))⟩,
 ⟨(some 72), (some (64, true)), .q (.bin .eql (.t 71) (.c (.int .i64 0)))⟩,
 ⟨(some 73), none, .q (.pick (.t 64) (.t 72) (.c (.bool false)))⟩,
 ⟨(some 10), none, .q (.mv (.t 73))⟩]))
 (.reg [⟨(some 61), none, .q (.mv (.t 11))⟩,
 ⟨(some 62), none, .q (.bin .add (.t 61) (.c (.int .i64 1)))⟩,
 ⟨(some 11), none, .q (.mv (.t 62))⟩]))))))
 (.seq (.reg [⟨(some 74), none, .q (.mv (.t 10))⟩])
 (.cond (.t 74)
 (.reg [⟨(some 75), none, .q (.mv (.t 7))⟩,
 ⟨(some 76), none, .q (.mv (.t 8))⟩,
 ⟨(some 77), none, .m (.bsl 1 [(.t 76)])⟩,
 ⟨(some 78), none, .m (.app 1 8 (.t 75) (.t 77))⟩,
 ⟨(some 7), none, .q (.mv (.t 78))⟩])
 .skip)))))
 (.reg [⟨(some 52), none, .q (.mv (.t 8))⟩,
 ⟨(some 53), none, .q (.bin .add (.t 52) (.c (.int .i64 1)))⟩,
 ⟨(some 8), none, .q (.mv (.t 53))⟩]))))))
 (.seq (.reg [⟨(some 79), none, .q (.mv (.t 7))⟩,
 ⟨(some 4), none, .q (.mv (.t 79))⟩,
 ⟨(some 5), none, .q (.mv (.c (.int .i64 0)))⟩])
 .ret))))))⟩
theorem l_spec_FreeCode : lowF PA f_spec_FreeCode 2 [.k [1, 2, 6], .s (.take 0 (.take 1 (.take 2 (.take 3 (.take 4 (.take 5 (.take 6 (.take 7 (.one 8 (.take 9 (.take 10 (.take 11 (.take 12 (.take 13 (.take 14 (.take 15 (.take 16 (.take 17 (.take 18 (.take 19 (.take 20 (.take 21 (.take 22 (.take 23 (.take 24 (.take 25 .done)))))))))))))))))))))))))), .k [1, 2, 7, 8], .k [1, 2, 7, 8, 9, 10, 11]] = some c_spec_FreeCode := by kernel_rfl
abbrev f_impl_RadiusOf : FuncId := 19
def c_impl_RadiusOf : AF := ⟨2, 16, [.t 4, .t 5],
 (.seq (.reg [⟨(some 2), none, .m (.box (.t 0))⟩,
 ⟨(some 4), none, .q (.mv (.c (.int .i64 0)))⟩,
 ⟨(some 5), none, .q (.mv (.c (.int .i64 0)))⟩])
 (.seq (.seq (.reg [⟨(some 7), none, .q (.ld true 1 (.t 2))⟩,
 ⟨(some 8), none, .q (.mv (.t 1))⟩,
 ⟨(some 9), none, .c (.call 51 [(.t 7), (.t 8), (.c (.slice none 0 0))])⟩,
 ⟨(some 6), none, .q (.mv (.t 9))⟩])
 (.seq (.reg [⟨(some 10), none, .q (.mv (.t 6))⟩,
 ⟨(some 11), none, .q (.bin .neq (.t 10) (.c (.int .i64 0)))⟩])
 (.cond (.t 11)
 (.seq (.reg [⟨(some 12), none, .q (.mv (.t 6))⟩,
 ⟨(some 4), none, .q (.mv (.c (.int .i64 0)))⟩,
 ⟨(some 5), none, .q (.mv (.t 12))⟩])
 .ret)
 .skip)))
 (.seq (.reg [⟨(some 13), none, .q (.ld true 1 (.t 2))⟩,
 ⟨(some 14), none, .q (.mv (.t 1))⟩,
 ⟨(some 15), none, .c (.call 52 [(.t 13), (.t 14)])⟩,
 ⟨(some 4), none, .q (.mv (.t 15))⟩,
 ⟨(some 5), none, .q (.mv (.c (.int .i64 0)))⟩])
 .ret)))⟩
theorem l_impl_RadiusOf : lowF PA f_impl_RadiusOf 2 [] = some c_impl_RadiusOf := by kernel_rfl
abbrev f_impl_CoversSpace : FuncId := 20
def c_impl_CoversSpace : AF := ⟨3, 20, [.t 6, .t 7],
 (.seq (.reg [⟨(some 3), none, .m (.box (.t 0))⟩,
 ⟨(some 6), none, .q (.mv (.c (.bool false)))⟩,
 ⟨(some 7), none, .q (.mv (.c (.int .i64 0)))⟩])
 (.seq (.seq (.reg [⟨(some 9), none, .q (.ld true 1 (.t 3))⟩,
 ⟨(some 10), none, .q (.mv (.t 1))⟩,
 ⟨(some 11), none, .q (.mv (.t 2))⟩,
 ⟨(some 12), none, .c (.call 53 [(.t 9), (.t 10), (.t 11)])⟩,
 ⟨(some 8), none, .q (.mv (.t 12))⟩])
 (.seq (.reg [⟨(some 13), none, .q (.mv (.t 8))⟩,
 ⟨(some 14), none, .q (.bin .neq (.t 13) (.c (.int .i64 0)))⟩])
 (.cond (.t 14)
 (.seq (.reg [⟨(some 15), none, .q (.mv (.t 8))⟩,
 ⟨(some 6), none, .q (.mv (.c (.bool false)))⟩,
 ⟨(some 7), none, .q (.mv (.t 15))⟩])
 .ret)
 .skip)))
 (.seq (.reg [⟨(some 16), none, .q (.ld true 1 (.t 3))⟩,
 ⟨(some 17), none, .q (.mv (.t 1))⟩,
 ⟨(some 18), none, .q (.mv (.t 2))⟩,
 ⟨(some 19), none, .c (.call 54 [(.t 16), (.t 17), (.t 18)])⟩,
 ⟨(some 6), none, .q (.mv (.t 19))⟩,
 ⟨(some 7), none, .q (.mv (.c (.int .i64 0)))⟩])
 .ret)))⟩
theorem l_impl_CoversSpace : lowF PA f_impl_CoversSpace 3 [] = some c_impl_CoversSpace := by kernel_rfl
abbrev f_impl_GreedyCode : FuncId := 21
def c_impl_GreedyCode : AF := ⟨2, 112, [.t 4, .t 5],
 (.seq (.reg [⟨(some 2), none, .m (.box (.t 0))⟩,
 ⟨(some 4), none, .q (.mv (.c (.slice none 0 0)))⟩,
 ⟨(some 5), none, .q (.mv (.c (.int .i64 0)))⟩])
 (.seq (.seq (.reg [⟨(some 16), none, .q (.ld true 1 (.t 2))⟩,
 ⟨(some 17), none, .q (.mv (.t 1))⟩,
 ⟨(some 18), none, .c (.call 28 [(.t 16), (.c (.int .i64 0)), (.t 17)])⟩,
 ⟨(some 6), none, .q (.mv (.t 18))⟩])
 (.seq (.reg [⟨(some 19), none, .q (.mv (.t 6))⟩,
 ⟨(some 20), none, .q (.bin .neq (.t 19) (.c (.int .i64 0)))⟩])
 (.cond (.t 20)
 (.seq (.reg [⟨(some 21), none, .q (.mv (.t 6))⟩,
 ⟨(some 4), none, .q (.mv (.c (.slice none 0 0)))⟩,
 ⟨(some 5), none, .q (.mv (.t 21))⟩])
 .ret)
 .skip)))
 (.seq (.reg [⟨(some 22), none, .q (.ld true 1 (.t 2))⟩,
 ⟨(some 23), none, .c (.call 55 [(.t 22)])⟩,
 ⟨(some 24), none, .m (.bsl 1 [])⟩,
 ⟨(some 7), none, .q (.mv (.t 23))⟩,
 ⟨(some 8), none, .q (.mv (.t 24))⟩])
 (.seq (.reg [⟨(some 25), none, .q (.ld true 1 (.t 2))⟩,
 ⟨(some 26), none, .q (.mv (.t 1))⟩,
 ⟨(some 27), none, .c (.call 31 [(.t 25), (.c (.int .i64 0)), (.t 26)])⟩,
 ⟨(some 28), none, .q (.len (.t 27))⟩,
 ⟨(some 29), none, .m (.bsl 1 [(.t 28)])⟩,
 ⟨(some 30), none, .q (.mv (.t 7))⟩,
 ⟨(some 31), none, .q (.len (.t 30))⟩,
 ⟨(some 32), none, .c (.call 56 [(.t 29), (.t 31)])⟩,
 ⟨(some 9), none, .q (.mv (.t 32))⟩])
 (.seq (.reg [⟨(some 33), none, .q (.mv (.t 7))⟩,
 ⟨(some 34), none, .q (.len (.t 33))⟩,
 ⟨(some 35), none, .m (.mks 1 (.v (.bool false)) 1 (.t 34) (.t 34))⟩,
 ⟨(some 10), none, .q (.mv (.t 35))⟩])
 (.block 0 (.loop [1, 7, 8, 9, 10] (.block 1 (.seq (.reg [⟨(some 11), none, .q (.mv (.c (.int .i64 0)))⟩])
 (.seq (.seq (.reg [⟨(some 36), none, .q (.mv (.t 9))⟩,
 ⟨(some 37), none, .q (.len (.t 36))⟩,
 ⟨(some 38), none, .q (.mv (.c (.int .i64 0)))⟩])
 (.block 2 (.loop [1, 7, 8, 9, 10, 11, 36, 37, 38] (.seq (.reg [⟨(some 39), none, .q (.bin .lss (.t 38) (.t 37))⟩])
 (.seq (.cond (.t 39)
 .skip
 (.exit 2))
 (.seq (.block 3 (.seq (.reg [⟨(some 40), none, .q (.mv (.t 38))⟩,
 ⟨(some 41), none, .q (.ixs 1 (.t 36) (.t 38))⟩,
 ⟨(some 42), none, .q (.ld false 1 (.t 41))⟩,
 ⟨(some 12), none, .q (.mv (.t 40))⟩,
 ⟨(some 13), none, .q (.mv (.t 42))⟩])
 (.seq (.reg [⟨(some 43), none, .q (.mv (.t 13))⟩,
 ⟨(some 44), none, .q (.mv (.t 9))⟩,
 ⟨(some 45), none, .q (.mv (.t 11))⟩,
 ⟨(some 46), none, .q (.ixs 1 (.t 44) (.t 45))⟩,
 ⟨(some 47), none, .q (.ld false 1 (.t 46))⟩,
 ⟨(some 48), none, .q (.bin .gtr (.t 43) (.t 47))⟩])
 (.cond (.t 48)
 (.reg [⟨(some 49), none, .q (.mv (.t 12))⟩,
 ⟨(some 11), none, .q (.mv (.t 49))⟩])
 .skip))))
 (.reg [⟨(some 50), none, .q (.bin .add (.t 38) (.c (.int .i64 1)))⟩,
 ⟨(some 38), none, .q (.mv (.t 50))⟩])))))))
 (.seq (.seq (.reg [⟨(some 51), none, .q (.mv (.t 9))⟩,
 ⟨(some 52), none, .q (.mv (.t 11))⟩,
 ⟨(some 53), none, .q (.ixs 1 (.t 51) (.t 52))⟩,
 ⟨(some 54), none, .q (.ld false 1 (.t 53))⟩,
 ⟨(some 55), none, .q (.bin .eql (.t 54) (.c (.int .i64 0)))⟩])
 (.cond (.t 55)
 (.seq (.reg [⟨(some 56), none, .q (.mv (.t 8))⟩,
 ⟨(some 57), none, .c (.call 57 [(.t 56)])⟩])
 (.seq (.reg [⟨(some 58), none, .q (.mv (.t 8))⟩,
 ⟨(some 4), none, .q (.mv (.t 58))⟩,
 ⟨(some 5), none, .q (.mv (.c (.int .i64 0)))⟩])
 .ret))
 .skip))
 (.seq (.reg [⟨(some 59), none, .q (.mv (.t 8))⟩,
 ⟨(some 60), none, .q (.mv (.t 11))⟩,
 ⟨(some 61), none, .m (.bsl 1 [(.t 60)])⟩,
 ⟨(some 62), none, .m (.app 1 8 (.t 59) (.t 61))⟩,
 ⟨(some 8), none, .q (.mv (.t 62))⟩])
 (.seq (.reg [⟨(some 63), none, .q (.mv (.t 7))⟩,
 ⟨(some 64), none, .q (.len (.t 63))⟩,
 ⟨(some 65), none, .q (.mv (.c (.int .i64 0)))⟩])
 (.block 4 (.loop [1, 7, 8, 9, 10, 11, 64, 65] (.seq (.reg [⟨(some 66), none, .q (.bin .lss (.t 65) (.t 64))⟩])
 (.seq (.cond (.t 66)
 .skip
 (.exit 4))
 (.seq (.block 5 (.seq (.reg [⟨(some 67), none, .q (.mv (.t 65))⟩,
 ⟨(some 14), none, .q (.mv (.t 67))⟩])
 (.seq (.seq (.sch (.take 0 ⟨(some 68), none, .q (.mv (.t 10))⟩ (.take 1 ⟨(some 69), none, .q (.mv (.t 14))⟩ (.take 2 ⟨(some 70), none, .q (.ixs 1 (.t 68) (.t 69))⟩ (.take 3 ⟨(some 71), none, .q (.ld false 1 (.t 70))⟩ (.take 4 ⟨(some 72), none, .q (.mv (.t 71))⟩ (.take 5 ⟨(some 73), (some (72, false)), .q (.mv (.t 7))⟩ (.take 6 ⟨(some 74), (some (72, false)), .q (.mv (.t 11))⟩ (.take 7 ⟨(some 75), (some (72, false)), .q (.ixs 8 (.t 73) (.t 74))⟩ (.take 8 ⟨(some 76), (some (72, false)), .q (.ld true 8 (.t 75))⟩ (.take 9 ⟨(some 77), (some (72, false)), .q (.mv (.t 7))⟩ (.take 10 ⟨(some 78), (some (72, false)), .q (.mv (.t 14))⟩ (.take 11 ⟨(some 79), (some (72, false)), .q (.ixs 8 (.t 77) (.t 78))⟩ (.take 12 ⟨(some 80), (some (72, false)), .q (.ld true 8 (.t 79))⟩ (.take 14 ⟨(some 82), (some (72, false)), .q (.mv (.t 1))⟩ (.one ⟨(some 81), (some (72, false)), .c (.call 58 [(.t 76), (.t 80)])⟩ [12, 8] (.take 15 ⟨(some 83), (some (72, false)), .q (.bin .gtr (.t 81) (.t 82))⟩ (.take 16 ⟨(some 84), none, .q (.pick (.t 72) (.c (.bool true)) (.t 83))⟩ .done))))))))))))))))))
 (.cond (.t 84)
 (.exit 5)
 .skip))
 (.seq (.reg [⟨(some 85), none, .q (.mv (.t 10))⟩,
 ⟨(some 86), none, .q (.mv (.t 14))⟩,
 ⟨(some 87), none, .q (.ixs 1 (.t 85) (.t 86))⟩,
 ⟨none, none, .m (.st false 1 (.t 87) (.c (.bool true)))⟩])
 (.seq (.reg [⟨(some 88), none, .q (.mv (.t 9))⟩,
 ⟨(some 89), none, .q (.len (.t 88))⟩,
 ⟨(some 90), none, .q (.mv (.c (.int .i64 0)))⟩])
 (.block 6 (.loop [1, 7, 8, 9, 10, 11, 14, 64, 65, 89, 90] (.seq (.reg [⟨(some 91), none, .q (.bin .lss (.t 90) (.t 89))⟩])
 (.seq (.cond (.t 91)
 .skip
 (.exit 6))
 (.seq (.block 7 (.seq (.reg [⟨(some 92), none, .q (.mv (.t 90))⟩,
 ⟨(some 15), none, .q (.mv (.t 92))⟩])
 (.seq (.sch (.take 0 ⟨(some 93), none, .q (.mv (.t 7))⟩ (.take 1 ⟨(some 94), none, .q (.mv (.t 15))⟩ (.take 2 ⟨(some 95), none, .q (.ixs 8 (.t 93) (.t 94))⟩ (.take 3 ⟨(some 96), none, .q (.ld true 8 (.t 95))⟩ (.take 4 ⟨(some 97), none, .q (.mv (.t 7))⟩ (.take 5 ⟨(some 98), none, .q (.mv (.t 14))⟩ (.take 6 ⟨(some 99), none, .q (.ixs 8 (.t 97) (.t 98))⟩ (.take 7 ⟨(some 100), none, .q (.ld true 8 (.t 99))⟩ (.take 9 ⟨(some 102), none, .q (.mv (.t 1))⟩ (.one ⟨(some 101), none, .c (.call 58 [(.t 96), (.t 100)])⟩ [7, 3] (.take 10 ⟨(some 103), none, .q (.bin .leq (.t 101) (.t 102))⟩ .done))))))))))))
 (.cond (.t 103)
 (.reg [⟨(some 104), none, .q (.mv (.t 9))⟩,
 ⟨(some 105), none, .q (.mv (.t 15))⟩,
 ⟨(some 106), none, .q (.ixs 1 (.t 104) (.t 105))⟩,
 ⟨(some 107), none, .q (.ld false 1 (.t 106))⟩,
 ⟨(some 108), none, .q (.bin .sub (.t 107) (.c (.int .i64 1)))⟩,
 ⟨(some 109), none, .q (.ixs 1 (.t 104) (.t 105))⟩,
 ⟨none, none, .m (.st false 1 (.t 109) (.t 108))⟩])
 .skip))))
 (.reg [⟨(some 110), none, .q (.bin .add (.t 90) (.c (.int .i64 1)))⟩,
 ⟨(some 90), none, .q (.mv (.t 110))⟩])))))))))))
 (.reg [⟨(some 111), none, .q (.bin .add (.t 65) (.c (.int .i64 1)))⟩,
 ⟨(some 65), none, .q (.mv (.t 111))⟩])))))))))))))))))))⟩
theorem l_impl_GreedyCode : lowF PA f_impl_GreedyCode 2 [.k [1, 7, 8, 9, 10], .k [1, 7, 8, 9, 10, 11, 36, 37, 38], .k [1, 7, 8, 9, 10, 11, 64, 65], .s (.take 0 (.take 1 (.take 2 (.take 3 (.take 4 (.take 5 (.take 6 (.take 7 (.take 8 (.take 9 (.take 10 (.take 11 (.take 12 (.take 14 (.one 13 (.take 15 (.take 16 .done))))))))))))))))), .k [1, 7, 8, 9, 10, 11, 14, 64, 65, 89, 90], .s (.take 0 (.take 1 (.take 2 (.take 3 (.take 4 (.take 5 (.take 6 (.take 7 (.take 9 (.one 8 (.take 10 .done)))))))))))] = some c_impl_GreedyCode := by kernel_rfl
abbrev f_spec_l04Few : FuncId := 22
def c_spec_l04Few : AF := ⟨3, 57, [.c 6 true 1, .t 7],
 (.seq (.reg [⟨(some 6), none, .m (.alloc [(.v (.slice none 0 0))])⟩,
 ⟨(some 7), none, .q (.mv (.c (.int .i64 0)))⟩])
 (.seq (.reg [⟨(some 11), none, .q (.mv (.t 0))⟩,
 ⟨(some 12), none, .c (.call 37 [(.t 11)])⟩,
 ⟨(some 8), none, .q (.mv (.t 12))⟩])
 (.seq (.reg [⟨(some 13), none, .m (.bsl 1 [(.c (.int .i64 2))])⟩,
 ⟨(some 14), none, .m (.bsl 1 [(.c (.int .i64 3))])⟩,
 ⟨(some 15), none, .m (.bsl 1 [(.c (.int .i64 2)), (.c (.int .i64 2))])⟩,
 ⟨(some 16), none, .m (.bsl 1 [(.c (.int .i64 2)), (.c (.int .i64 3))])⟩,
 ⟨(some 17), none, .m (.bsl 1 [(.c (.int .i64 3)), (.c (.int .i64 3))])⟩,
 ⟨(some 18), none, .m (.bsl 1 [(.c (.int .i64 4)), (.c (.int .i64 3))])⟩,
 ⟨(some 19), none, .m (.bsl 1 [(.c (.int .i64 2)), (.c (.int .i64 2)), (.c (.int .i64 2))])⟩,
 ⟨(some 20), none, .m (.bsl 1 [(.c (.int .i64 2)), (.c (.int .i64 2)), (.c (.int .i64 3))])⟩,
 ⟨(some 21), none, .m (.bsl 1 [(.c (.int .i64 2)), (.c (.int .i64 3)), (.c (.int .i64 3))])⟩,
 ⟨(some 22), none, .m (.bsl 1 [(.c (.int .i64 3)), (.c (.int .i64 3)), (.c (.int .i64 3))])⟩,
 ⟨(some 23), none, .m (.bsl 1 [(.c (.int .i64 2)), (.c (.int .i64 2)), (.c (.int .i64 2)), (.c (.int .i64 2))])⟩,
 ⟨(some 24), none, .m (.bsl 1 [(.c (.int .i64 4)), (.c (.int .i64 4))])⟩,
 ⟨(some 25), none, .m (.bsl 1 [(.c (.int .i64 2)), (.c (.int .i64 3)), (.c (.int .i64 4))])⟩,
 ⟨(some 26), none, .m (.bsl 1 [(.c (.int .i64 2)), (.c (.int .i64 2)), (.c (.int .i64 4))])⟩,
 ⟨(some 27), none, .m (.bsl 1 [(.c (.int .i64 4)), (.c (.int .i64 2)), (.c (.int .i64 3))])⟩,
 ⟨(some 28), none, .m (.bsl 1 [(.c (.int .i64 3)), (.c (.int .i64 2)), (.c (.int .i64 2)), (.c (.int .i64 2))])⟩,
 ⟨(some 29), none, .m (.bsl 1 [(.t 13), (.t 14), (.t 15), (.t 16), (.t 17), (.t 18), (.t 19), (.t 20), (.t 21), (.t 22), (.t 23), (.t 24), (.t 25), (.t 26), (.t 27), (.t 28)])⟩,
 ⟨(some 9), none, .q (.mv (.t 29))⟩])
 (.seq (.reg [⟨(some 30), none, .q (.mv (.t 9))⟩,
 ⟨(some 31), none, .q (.mv (.t 8))⟩,
 ⟨(some 32), none, .c (.call 39 [(.t 31), (.c (.int .i64 16))])⟩,
 ⟨(some 33), none, .q (.ixs 1 (.t 30) (.t 32))⟩,
 ⟨(some 34), none, .q (.ld false 1 (.t 33))⟩,
 ⟨(some 35), none, .c (.call 59 [(.t 34)])⟩,
 ⟨(some 36), none, .q (.bld [(.v (.slice none 0 0))] [(0, (.t 35))])⟩,
 ⟨(some 10), none, .m (.alloc [(.v (.slice none 0 0))])⟩,
 ⟨none, none, .m (.st true 1 (.t 10) (.t 36))⟩])
 (.seq (.seq (.reg [⟨(some 37), none, .q (.mv (.t 8))⟩,
 ⟨(some 38), none, .c (.call 39 [(.t 37), (.c (.int .i64 20))])⟩,
 ⟨(some 39), none, .q (.bin .eql (.t 38) (.c (.int .i64 0)))⟩])
 (.cond (.t 39)
 (.reg [⟨(some 40), none, .q (.mv (.t 8))⟩,
 ⟨(some 41), none, .c (.call 38 [(.t 40)])⟩,
 ⟨none, none, .m (.st true 1 (.t 10) (.t 41))⟩])
 .skip))
 (.seq (.reg [⟨(some 42), none, .q (.mv (.t 8))⟩,
 ⟨(some 43), none, .q (.ld true 1 (.t 10))⟩,
 ⟨(some 44), none, .c (.call 41 [(.t 42), (.t 43)])⟩,
 ⟨(some 45), none, .q (.mv (.t 8))⟩,
 ⟨(some 46), none, .q (.mv (.t 1))⟩,
 ⟨(some 47), none, .q (.mv (.t 1))⟩,
 ⟨(some 48), none, .q (.mv (.t 1))⟩,
 ⟨(some 49), none, .q (.bin .add (.t 48) (.c (.int .i64 1)))⟩,
 ⟨(some 50), none, .q (.mv (.t 1))⟩,
 ⟨(some 51), none, .q (.bin .add (.t 50) (.c (.int .i64 2)))⟩,
 ⟨(some 52), none, .q (.mv (.t 8))⟩,
 ⟨(some 53), none, .q (.mv (.t 2))⟩,
 ⟨(some 54), none, .c (.call 60 [(.t 52), (.t 53)])⟩,
 ⟨(some 55), none, .m (.bsl 1 [(.t 46), (.t 47), (.t 49), (.t 51), (.t 54)])⟩,
 ⟨(some 56), none, .c (.call 40 [(.t 45), (.t 55)])⟩,
 ⟨none, none, .m (.st true 1 (.t 6) (.t 44))⟩,
 ⟨(some 7), none, .q (.mv (.t 56))⟩])
 .ret))))))⟩
theorem l_spec_l04Few : lowF PA f_spec_l04Few 3 [] = some c_spec_l04Few := by kernel_rfl
abbrev f_impl_soughtCode : FuncId := 23
def c_impl_soughtCode : AF := ⟨4, 26, [.t 8],
 (.seq (.reg [⟨(some 4), none, .m (.box (.t 0))⟩,
 ⟨(some 8), none, .q (.mv (.c (.int .i64 0)))⟩])
 (.seq (.block 0 (.seq (.reg [⟨(some 10), none, .q (.ld true 1 (.t 4))⟩,
 ⟨(some 11), none, .c (.call 42 [(.t 10)])⟩,
 ⟨(some 12), none, .q (.un .not (.t 11))⟩,
 ⟨(some 9), none, .q (.mv (.t 12))⟩])
 (.cond (.t 9)
 (.seq (.reg [⟨(some 8), none, .q (.mv (.c (.int .i64 1)))⟩])
 .ret)
 (.seq (.reg [⟨(some 14), none, .q (.mv (.t 1))⟩,
 ⟨(some 15), none, .q (.mv (.t 2))⟩,
 ⟨(some 16), none, .q (.bin .lss (.t 14) (.t 15))⟩,
 ⟨(some 17), none, .q (.mv (.t 16))⟩,
 ⟨(some 18), (some (17, false)), .q (.mv (.t 1))⟩,
 ⟨(some 19), (some (17, false)), .q (.mv (.t 3))⟩,
 ⟨(some 20), (some (17, false)), .q (.bin .gtr (.t 18) (.t 19))⟩,
 ⟨(some 21), none, .q (.pick (.t 17) (.c (.bool true)) (.t 20))⟩,
 ⟨(some 13), none, .q (.mv (.t 21))⟩])
 (.cond (.t 13)
 (.seq (.reg [⟨(some 8), none, .q (.mv (.c (.int .i64 2)))⟩])
 .ret)
 (.seq (.reg [⟨(some 23), none, .q (.ld true 1 (.t 4))⟩,
 ⟨(some 24), none, .c (.call 30 [(.t 23)])⟩,
 ⟨(some 25), none, .q (.bin .gtr (.t 24) (.c (.int .i64 27)))⟩,
 ⟨(some 22), none, .q (.mv (.t 25))⟩])
 (.cond (.t 22)
 (.seq (.reg [⟨(some 8), none, .q (.mv (.c (.int .i64 3)))⟩])
 .ret)
 .skip)))))))
 (.seq (.reg [⟨(some 8), none, .q (.mv (.c (.int .i64 0)))⟩])
 .ret)))⟩
theorem l_impl_soughtCode : lowF PA f_impl_soughtCode 4 [] = some c_impl_soughtCode := by kernel_rfl
abbrev f_impl_firstCover : FuncId := 24
def c_impl_firstCover : AF := ⟨2, 30, [.t 4],
 (.seq (.reg [⟨(some 2), none, .m (.box (.t 0))⟩,
 ⟨(some 4), none, .q (.mv (.c (.slice none 0 0)))⟩])
 (.seq (.reg [⟨(some 11), none, .q (.ld true 1 (.t 2))⟩,
 ⟨(some 12), none, .q (.mv (.t 1))⟩,
 ⟨(some 13), none, .c (.call 61 [(.t 11), (.t 12)])⟩,
 ⟨(some 5), none, .m (.alloc [(.v (.slice none 0 0))])⟩,
 ⟨none, none, .m (.st false 1 (.t 5) (.t 13))⟩])
 (.seq (.sch (.take 0 ⟨(some 14), none, .q (.ld false 1 (.t 5))⟩ (.take 1 ⟨(some 15), none, .q (.len (.t 14))⟩ (.take 2 ⟨(some 16), none, .q (.bin .shl (.c (.int .u64 1)) (.t 15))⟩ (.take 3 ⟨(some 17), none, .q (.bin .sub (.t 16) (.c (.int .u64 1)))⟩ (.take 4 ⟨(some 18), none, .q (.ld false 1 (.t 5))⟩ (.take 5 ⟨(some 19), none, .q (.ixs 1 (.t 18) (.c (.int .i64 0)))⟩ (.take 6 ⟨(some 20), none, .q (.ld false 1 (.t 19))⟩ (.three ⟨(some 21), none, .c (.call 62 [(.t 20)])⟩ [6] (.two ⟨(some 6), none, .m (.alloc [(.v (.int .u64 0))])⟩ [] (.one ⟨(some 7), none, .m (.alloc [(.v (.int .i64 0))])⟩ [] (.one ⟨none, none, .m (.st false 1 (.t 6) (.t 17))⟩ [0] (.one ⟨none, none, .m (.st false 1 (.t 7) (.t 21))⟩ [6, 4, 0] .done))) ⟨(some 7), none, .m (.alloc [(.v (.int .i64 0))])⟩ [] (.one ⟨(some 6), none, .m (.alloc [(.v (.int .u64 0))])⟩ [] (.one ⟨none, none, .m (.st false 1 (.t 6) (.t 17))⟩ [0] (.one ⟨none, none, .m (.st false 1 (.t 7) (.t 21))⟩ [6, 4, 0] .done)))) ⟨(some 6), none, .m (.alloc [(.v (.int .u64 0))])⟩ [] (.two ⟨(some 21), none, .c (.call 62 [(.t 20)])⟩ [6] (.one ⟨(some 7), none, .m (.alloc [(.v (.int .i64 0))])⟩ [] (.one ⟨none, none, .m (.st false 1 (.t 6) (.t 17))⟩ [0] (.one ⟨none, none, .m (.st false 1 (.t 7) (.t 21))⟩ [6, 4, 0] .done))) ⟨(some 7), none, .m (.alloc [(.v (.int .i64 0))])⟩ [] (.one ⟨(some 21), none, .c (.call 62 [(.t 20)])⟩ [6] (.one ⟨none, none, .m (.st false 1 (.t 6) (.t 17))⟩ [0] (.one ⟨none, none, .m (.st false 1 (.t 7) (.t 21))⟩ [6, 4, 0] .done)))) ⟨(some 7), none, .m (.alloc [(.v (.int .i64 0))])⟩ [] (.two ⟨(some 21), none, .c (.call 62 [(.t 20)])⟩ [6] (.one ⟨(some 6), none, .m (.alloc [(.v (.int .u64 0))])⟩ [] (.one ⟨none, none, .m (.st false 1 (.t 6) (.t 17))⟩ [0] (.one ⟨none, none, .m (.st false 1 (.t 7) (.t 21))⟩ [6, 4, 0] .done))) ⟨(some 6), none, .m (.alloc [(.v (.int .u64 0))])⟩ [] (.one ⟨(some 21), none, .c (.call 62 [(.t 20)])⟩ [6] (.one ⟨none, none, .m (.st false 1 (.t 6) (.t 17))⟩ [0] (.one ⟨none, none, .m (.st false 1 (.t 7) (.t 21))⟩ [6, 4, 0] .done)))))))))))))
 (.seq (.reg [⟨(some 8), none, .m (.alloc [(.v (.int .i64 0))])⟩,
 ⟨none, none, .m (.st false 1 (.t 8) (.c (.int .i64 1)))⟩])
 (.block 0 (.loop [5, 6, 7, 8] (.seq (.block 1 (.seq (.reg [⟨(some 24), none, .m (.bsl 1 [])⟩,
 ⟨(some 9), none, .m (.alloc [(.v (.slice none 0 0))])⟩,
 ⟨none, none, .m (.st false 1 (.t 9) (.t 24))⟩])
 (.seq (.reg [⟨(some 10), none, .m (.alloc [(.v .nilFunc)])⟩])
 (.seq (.reg [⟨(some 25), none, .q (.mkf 63 [(.t 8), (.t 9), (.t 6), (.t 7), (.t 5), (.t 10)])⟩,
 ⟨none, none, .m (.st false 1 (.t 10) (.t 25))⟩])
 (.seq (.reg [⟨(some 26), none, .q (.ld false 1 (.t 10))⟩,
 ⟨(some 27), none, .c (.cav (.t 26) [(.c (.int .i64 0)), (.c (.int .u64 0))])⟩])
 (.cond (.t 27)
 (.seq (.reg [⟨(some 28), none, .q (.ld false 1 (.t 9))⟩,
 ⟨(some 4), none, .q (.mv (.t 28))⟩])
 .ret)
 .skip))))))
 (.seq (.seq (.reg [⟨(some 29), none, .q (.ld false 1 (.t 8))⟩])
 (.reg [⟨(some 8), none, .m (.alloc [(.v (.int .i64 0))])⟩,
 ⟨none, none, .m (.st false 1 (.t 8) (.t 29))⟩]))
 (.reg [⟨(some 22), none, .q (.ld false 1 (.t 8))⟩,
 ⟨(some 23), none, .q (.bin .add (.t 22) (.c (.int .i64 1)))⟩,
 ⟨none, none, .m (.st false 1 (.t 8) (.t 23))⟩])))))))))⟩
theorem l_impl_firstCover : lowF PA f_impl_firstCover 2 [.s (.take 0 (.take 1 (.take 2 (.take 3 (.take 4 (.take 5 (.take 6 (.three 7 (.two 8 (.one 9 (.one 10 (.one 11 .done))) 9 (.one 8 (.one 10 (.one 11 .done)))) 8 (.two 7 (.one 9 (.one 10 (.one 11 .done))) 9 (.one 7 (.one 10 (.one 11 .done)))) 9 (.two 7 (.one 8 (.one 10 (.one 11 .done))) 8 (.one 7 (.one 10 (.one 11 .done)))))))))))), .k [5, 6, 7, 8]] = some c_impl_firstCover := by kernel_rfl
abbrev f_spec_l04Sought : FuncId := 25
def c_spec_l04Sought : AF := ⟨4, 23, [.t 8],
 (.seq (.reg [⟨(some 4), none, .m (.box (.t 0))⟩,
 ⟨(some 8), none, .q (.mv (.c (.int .i64 0)))⟩])
 (.seq (.reg [⟨(some 10), none, .q (.ld true 1 (.t 4))⟩,
 ⟨(some 11), none, .q (.mv (.t 1))⟩,
 ⟨(some 12), none, .q (.mv (.t 2))⟩,
 ⟨(some 13), none, .q (.mv (.t 3))⟩,
 ⟨(some 14), none, .c (.call 32 [(.t 10), (.t 11), (.t 12), (.t 13)])⟩,
 ⟨(some 9), none, .q (.mv (.t 14))⟩])
 (.seq (.seq (.reg [⟨(some 15), none, .q (.mv (.t 9))⟩,
 ⟨(some 16), none, .q (.bin .eql (.t 15) (.c (.int .i64 0)))⟩,
 ⟨(some 17), none, .q (.mv (.t 16))⟩,
 ⟨(some 18), (some (17, true)), .q (.ld true 1 (.t 4))⟩,
 ⟨(some 19), (some (17, true)), .c (.call 34 [(.t 18)])⟩,
 ⟨(some 20), (some (17, true)), .q (.bin .gtr (.t 19) (.c (.int .i64 27)))⟩,
 ⟨(some 21), none, .q (.pick (.t 17) (.t 20) (.c (.bool false)))⟩])
 (.cond (.t 21)
 (.reg [⟨(some 9), none, .q (.mv (.c (.int .i64 3)))⟩])
 .skip))
 (.seq (.reg [⟨(some 22), none, .q (.mv (.t 9))⟩,
 ⟨(some 8), none, .q (.mv (.t 22))⟩])
 .ret))))⟩
theorem l_spec_l04Sought : lowF PA f_spec_l04Sought 4 [] = some c_spec_l04Sought := by kernel_rfl
abbrev f_spec_l04First : FuncId := 26
def c_spec_l04First : AF := ⟨2, 23, [.t 4],
 (.seq (.reg [⟨(some 2), none, .m (.box (.t 0))⟩,
 ⟨(some 4), none, .q (.mv (.c (.slice none 0 0)))⟩])
 (.seq (.reg [⟨(some 5), none, .q (.mv (.c (.int .i64 1)))⟩])
 (.block 0 (.loop [1, 2, 5] (.seq (.block 1 (.seq (.sch (.take 0 ⟨(some 11), none, .q (.ld true 1 (.t 2))⟩ (.take 2 ⟨(some 13), none, .q (.ld true 1 (.t 2))⟩ (.take 5 ⟨(some 16), none, .q (.mv (.t 1))⟩ (.take 6 ⟨(some 17), none, .q (.mv (.t 5))⟩ (.two ⟨(some 12), none, .m (.bsl 1 [])⟩ [] (.one ⟨(some 14), none, .c (.call 34 [(.t 13)])⟩ [2] (.one ⟨(some 15), none, .m (.mks 1 (.v (.int .i64 0)) 8 (.t 14) (.t 14))⟩ [] (.one ⟨(some 18), none, .c (.call 64 [(.t 11), (.t 12), (.t 15), (.t 16), (.t 17)])⟩ [0] (.take 8 ⟨(some 10), none, .q (.mv (.t 18))⟩ (.take 9 ⟨(some 19), none, .q (.ext (.t 10) 0)⟩ (.take 10 ⟨(some 20), none, .q (.ext (.t 10) 1)⟩ (.take 11 ⟨(some 6), none, .q (.mv (.t 19))⟩ (.take 12 ⟨(some 7), none, .q (.mv (.t 20))⟩ .done)))))))) ⟨(some 14), none, .c (.call 34 [(.t 13)])⟩ [2] (.two ⟨(some 12), none, .m (.bsl 1 [])⟩ [] (.one ⟨(some 15), none, .m (.mks 1 (.v (.int .i64 0)) 8 (.t 14) (.t 14))⟩ [] (.one ⟨(some 18), none, .c (.call 64 [(.t 11), (.t 12), (.t 15), (.t 16), (.t 17)])⟩ [0] (.take 8 ⟨(some 10), none, .q (.mv (.t 18))⟩ (.take 9 ⟨(some 19), none, .q (.ext (.t 10) 0)⟩ (.take 10 ⟨(some 20), none, .q (.ext (.t 10) 1)⟩ (.take 11 ⟨(some 6), none, .q (.mv (.t 19))⟩ (.take 12 ⟨(some 7), none, .q (.mv (.t 20))⟩ .done))))))) ⟨(some 15), none, .m (.mks 1 (.v (.int .i64 0)) 8 (.t 14) (.t 14))⟩ [] (.one ⟨(some 12), none, .m (.bsl 1 [])⟩ [] (.one ⟨(some 18), none, .c (.call 64 [(.t 11), (.t 12), (.t 15), (.t 16), (.t 17)])⟩ [0] (.take 8 ⟨(some 10), none, .q (.mv (.t 18))⟩ (.take 9 ⟨(some 19), none, .q (.ext (.t 10) 0)⟩ (.take 10 ⟨(some 20), none, .q (.ext (.t 10) 1)⟩ (.take 11 ⟨(some 6), none, .q (.mv (.t 19))⟩ (.take 12 ⟨(some 7), none, .q (.mv (.t 20))⟩ .done))))))))))))))
 (.seq (.reg [⟨(some 21), none, .q (.mv (.t 7))⟩])
 (.cond (.t 21)
 (.seq (.reg [⟨(some 22), none, .q (.mv (.t 6))⟩,
 ⟨(some 4), none, .q (.mv (.t 22))⟩])
 .ret)
 .skip))))
 (.reg [⟨(some 8), none, .q (.mv (.t 5))⟩,
 ⟨(some 9), none, .q (.bin .add (.t 8) (.c (.int .i64 1)))⟩,
 ⟨(some 5), none, .q (.mv (.t 9))⟩]))))))⟩
theorem l_spec_l04First : lowF PA f_spec_l04First 2 [.k [1, 2, 5], .s (.take 0 (.take 2 (.take 5 (.take 6 (.two 1 (.one 3 (.one 4 (.one 7 (.take 8 (.take 9 (.take 10 (.take 11 (.take 12 .done)))))))) 3 (.two 1 (.one 4 (.one 7 (.take 8 (.take 9 (.take 10 (.take 11 (.take 12 .done))))))) 4 (.one 1 (.one 7 (.take 8 (.take 9 (.take 10 (.take 11 (.take 12 .done)))))))))))))] = some c_spec_l04First := by kernel_rfl
abbrev f_spec_l04Draw : FuncId := 27
def c_spec_l04Draw : AF := ⟨3, 28, [.c 6 true 1, .t 7],
 (.seq (.reg [⟨(some 6), none, .m (.alloc [(.v (.slice none 0 0))])⟩,
 ⟨(some 7), none, .q (.mv (.c (.int .i64 0)))⟩])
 (.seq (.reg [⟨(some 10), none, .q (.mv (.t 0))⟩,
 ⟨(some 11), none, .c (.call 37 [(.t 10)])⟩,
 ⟨(some 8), none, .q (.mv (.t 11))⟩])
 (.seq (.reg [⟨(some 12), none, .q (.mv (.t 8))⟩,
 ⟨(some 13), none, .c (.call 38 [(.t 12)])⟩,
 ⟨(some 9), none, .m (.alloc [(.v (.slice none 0 0))])⟩,
 ⟨none, none, .m (.st true 1 (.t 9) (.t 13))⟩])
 (.seq (.reg [⟨(some 14), none, .q (.mv (.t 8))⟩,
 ⟨(some 15), none, .q (.ld true 1 (.t 9))⟩,
 ⟨(some 16), none, .c (.call 41 [(.t 14), (.t 15)])⟩,
 ⟨(some 17), none, .q (.mv (.t 8))⟩,
 ⟨(some 18), none, .q (.mv (.t 1))⟩,
 ⟨(some 19), none, .q (.mv (.t 1))⟩,
 ⟨(some 20), none, .q (.bin .add (.t 19) (.c (.int .i64 1)))⟩,
 ⟨(some 21), none, .q (.mv (.t 1))⟩,
 ⟨(some 22), none, .q (.bin .add (.t 21) (.c (.int .i64 2)))⟩,
 ⟨(some 23), none, .q (.mv (.t 8))⟩,
 ⟨(some 24), none, .q (.mv (.t 2))⟩,
 ⟨(some 25), none, .c (.call 60 [(.t 23), (.t 24)])⟩,
 ⟨(some 26), none, .m (.bsl 1 [(.t 18), (.t 20), (.t 22), (.t 25)])⟩,
 ⟨(some 27), none, .c (.call 40 [(.t 17), (.t 26)])⟩,
 ⟨none, none, .m (.st true 1 (.t 6) (.t 16))⟩,
 ⟨(some 7), none, .q (.mv (.t 27))⟩])
 .ret))))⟩
theorem l_spec_l04Draw : lowF PA f_spec_l04Draw 3 [] = some c_spec_l04Draw := by kernel_rfl
abbrev f_impl_ballCode : FuncId := 28
def c_impl_ballCode : AF := ⟨3, 18, [.t 6],
 (.seq (.reg [⟨(some 3), none, .m (.box (.t 0))⟩,
 ⟨(some 6), none, .q (.mv (.c (.int .i64 0)))⟩])
 (.seq (.seq (.reg [⟨(some 8), none, .q (.ld true 1 (.t 3))⟩,
 ⟨(some 9), none, .q (.mv (.t 1))⟩,
 ⟨(some 10), none, .m (.bsl 1 [(.t 9)])⟩,
 ⟨(some 11), none, .c (.call 65 [(.t 8), (.t 10)])⟩,
 ⟨(some 7), none, .q (.mv (.t 11))⟩])
 (.seq (.reg [⟨(some 12), none, .q (.mv (.t 7))⟩,
 ⟨(some 13), none, .q (.bin .neq (.t 12) (.c (.int .i64 0)))⟩])
 (.cond (.t 13)
 (.seq (.reg [⟨(some 14), none, .q (.mv (.t 7))⟩,
 ⟨(some 6), none, .q (.mv (.t 14))⟩])
 .ret)
 .skip)))
 (.seq (.seq (.reg [⟨(some 15), none, .q (.mv (.t 2))⟩,
 ⟨(some 16), none, .c (.call 66 [(.t 15)])⟩,
 ⟨(some 17), none, .q (.un .not (.t 16))⟩])
 (.cond (.t 17)
 (.seq (.reg [⟨(some 6), none, .q (.mv (.c (.int .i64 2)))⟩])
 .ret)
 .skip))
 (.seq (.reg [⟨(some 6), none, .q (.mv (.c (.int .i64 0)))⟩])
 .ret))))⟩
theorem l_impl_ballCode : lowF PA f_impl_ballCode 3 [] = some c_impl_ballCode := by kernel_rfl
abbrev f_impl_upward : FuncId := 29
def c_impl_upward : AF := ⟨2, 11, [.t 4],
 (.seq (.reg [⟨(some 4), none, .q (.mv (.c (.int .i64 0)))⟩])
 (.seq (.reg [⟨(some 5), none, .q (.mv (.t 0))⟩,
 ⟨(some 6), none, .q (.mv (.t 1))⟩,
 ⟨(some 7), none, .q (.bin .add (.t 5) (.t 6))⟩,
 ⟨(some 8), none, .q (.bin .sub (.t 7) (.c (.int .i64 1)))⟩,
 ⟨(some 9), none, .q (.mv (.t 1))⟩,
 ⟨(some 10), none, .q (.bin .quo (.t 8) (.t 9))⟩,
 ⟨(some 4), none, .q (.mv (.t 10))⟩])
 .ret))⟩
theorem l_impl_upward : lowF PA f_impl_upward 2 [] = some c_impl_upward := by kernel_rfl
abbrev f_impl_count : FuncId := 30
def c_impl_count : AF := ⟨1, 18, [.t 2],
 (.seq (.reg [⟨(some 1), none, .m (.box (.t 0))⟩,
 ⟨(some 2), none, .q (.mv (.c (.int .i64 0)))⟩])
 (.seq (.reg [⟨(some 3), none, .q (.mv (.c (.int .i64 1)))⟩])
 (.seq (.seq (.reg [⟨(some 6), none, .q (.fad 0 (.t 1))⟩,
 ⟨(some 7), none, .q (.ld false 1 (.t 6))⟩,
 ⟨(some 8), none, .q (.len (.t 7))⟩,
 ⟨(some 9), none, .q (.mv (.c (.int .i64 0)))⟩])
 (.block 0 (.loop [3, 7, 8, 9] (.seq (.reg [⟨(some 10), none, .q (.bin .lss (.t 9) (.t 8))⟩])
 (.seq (.cond (.t 10)
 .skip
 (.exit 0))
 (.seq (.block 1 (.seq (.reg [⟨(some 11), none, .q (.ixs 1 (.t 7) (.t 9))⟩,
 ⟨(some 12), none, .q (.ld false 1 (.t 11))⟩,
 ⟨(some 5), none, .q (.mv (.t 12))⟩])
 (.reg [⟨(some 13), none, .q (.mv (.t 3))⟩,
 ⟨(some 14), none, .q (.mv (.t 5))⟩,
 ⟨(some 15), none, .q (.bin .mul (.t 13) (.t 14))⟩,
 ⟨(some 3), none, .q (.mv (.t 15))⟩])))
 (.reg [⟨(some 16), none, .q (.bin .add (.t 9) (.c (.int .i64 1)))⟩,
 ⟨(some 9), none, .q (.mv (.t 16))⟩])))))))
 (.seq (.reg [⟨(some 17), none, .q (.mv (.t 3))⟩,
 ⟨(some 2), none, .q (.mv (.t 17))⟩])
 .ret))))⟩
theorem l_impl_count : lowF PA f_impl_count 1 [.k [3, 7, 8, 9]] = some c_impl_count := by kernel_rfl
abbrev f_impl_ball : FuncId := 31
def c_impl_ball : AF := ⟨3, 14, [.t 6],
 (.seq (.reg [⟨(some 3), none, .m (.box (.t 0))⟩,
 ⟨(some 5), none, .m (.box (.t 2))⟩,
 ⟨(some 6), none, .q (.mv (.c (.slice none 0 0)))⟩])
 (.seq (.reg [⟨(some 8), none, .q (.ld true 1 (.t 3))⟩,
 ⟨(some 9), none, .q (.mv (.t 1))⟩,
 ⟨(some 10), none, .c (.call 67 [(.t 8), (.t 9)])⟩,
 ⟨(some 7), none, .m (.alloc [(.v (.int .u8 0)), (.v (.int .u8 0)), (.v (.int .u8 0)), (.v (.int .u8 0)), (.v (.int .u8 0)), (.v (.int .u8 0)), (.v (.int .u8 0)), (.v (.int .u8 0))])⟩,
 ⟨none, none, .m (.st true 8 (.t 7) (.t 10))⟩])
 (.seq (.reg [⟨(some 11), none, .q (.ld true 1 (.t 3))⟩,
 ⟨(some 12), none, .q (.mkf 68 [(.t 7), (.t 5)])⟩,
 ⟨(some 13), none, .c (.call 44 [(.t 11), (.t 12)])⟩,
 ⟨(some 6), none, .q (.mv (.t 13))⟩])
 .ret)))⟩
theorem l_impl_ball : lowF PA f_impl_ball 3 [] = some c_impl_ball := by kernel_rfl
abbrev f_spec_l04Code : FuncId := 32
def c_spec_l04Code : AF := ⟨4, 19, [.t 8],
 (.seq (.reg [⟨(some 4), none, .m (.box (.t 0))⟩,
 ⟨(some 8), none, .q (.mv (.c (.int .i64 0)))⟩])
 (.seq (.block 0 (.seq (.reg [⟨(some 10), none, .q (.ld true 1 (.t 4))⟩,
 ⟨(some 11), none, .c (.call 48 [(.t 10)])⟩,
 ⟨(some 12), none, .q (.un .not (.t 11))⟩,
 ⟨(some 9), none, .q (.mv (.t 12))⟩])
 (.cond (.t 9)
 (.seq (.reg [⟨(some 8), none, .q (.mv (.c (.int .i64 1)))⟩])
 .ret)
 (.seq (.reg [⟨(some 14), none, .q (.mv (.t 1))⟩,
 ⟨(some 15), none, .q (.mv (.t 2))⟩,
 ⟨(some 16), none, .q (.mv (.t 3))⟩,
 ⟨(some 17), none, .c (.call 49 [(.t 14), (.t 15), (.t 16)])⟩,
 ⟨(some 18), none, .q (.un .not (.t 17))⟩,
 ⟨(some 13), none, .q (.mv (.t 18))⟩])
 (.cond (.t 13)
 (.seq (.reg [⟨(some 8), none, .q (.mv (.c (.int .i64 2)))⟩])
 .ret)
 .skip)))))
 (.seq (.reg [⟨(some 8), none, .q (.mv (.c (.int .i64 0)))⟩])
 .ret)))⟩
theorem l_spec_l04Code : lowF PA f_spec_l04Code 4 [] = some c_spec_l04Code := by kernel_rfl
abbrev f_spec_l01Size : FuncId := 33
def c_spec_l01Size : AF := ⟨2, 68, [.t 4],
 (.seq (.reg [⟨(some 2), none, .m (.box (.t 0))⟩,
 ⟨(some 4), none, .q (.mv (.c (.int .i64 0)))⟩])
 (.seq (.reg [⟨(some 10), none, .q (.fad 0 (.t 2))⟩,
 ⟨(some 11), none, .q (.ld false 1 (.t 10))⟩,
 ⟨(some 12), none, .q (.len (.t 11))⟩,
 ⟨(some 13), none, .q (.bin .add (.t 12) (.c (.int .i64 1)))⟩,
 ⟨(some 14), none, .m (.mks 1 (.v (.int .i64 0)) 8 (.t 13) (.t 13))⟩,
 ⟨(some 5), none, .q (.mv (.t 14))⟩])
 (.seq (.reg [⟨(some 15), none, .q (.mv (.t 5))⟩,
 ⟨(some 16), none, .q (.ixs 1 (.t 15) (.c (.int .i64 0)))⟩,
 ⟨none, none, .m (.st false 1 (.t 16) (.c (.int .i64 1)))⟩])
 (.seq (.seq (.reg [⟨(some 6), none, .q (.mv (.c (.int .i64 0)))⟩])
 (.block 0 (.loop [1, 2, 5, 6] (.seq (.seq (.reg [⟨(some 17), none, .q (.mv (.t 6))⟩,
 ⟨(some 18), none, .q (.fad 0 (.t 2))⟩,
 ⟨(some 19), none, .q (.ld false 1 (.t 18))⟩,
 ⟨(some 20), none, .q (.len (.t 19))⟩,
 ⟨(some 21), none, .q (.bin .lss (.t 17) (.t 20))⟩])
 (.cond (.t 21)
 .skip
 (.exit 0)))
 (.seq (.block 1 (.seq (.reg [⟨(some 24), none, .q (.mv (.t 6))⟩,
 ⟨(some 25), none, .q (.bin .add (.t 24) (.c (.int .i64 1)))⟩,
 ⟨(some 7), none, .q (.mv (.t 25))⟩])
 (.block 2 (.loop [1, 2, 5, 6, 7] (.seq (.seq (.reg [⟨(some 26), none, .q (.mv (.t 7))⟩,
 ⟨(some 27), none, .q (.bin .gtr (.t 26) (.c (.int .i64 0)))⟩])
 (.cond (.t 27)
 .skip
 (.exit 2)))
 (.seq (.block 3 (.sch (.take 0 ⟨(some 30), none, .q (.mv (.t 5))⟩ (.take 1 ⟨(some 31), none, .q (.mv (.t 7))⟩ (.take 2 ⟨(some 32), none, .q (.mv (.t 5))⟩ (.take 3 ⟨(some 33), none, .q (.mv (.t 7))⟩ (.take 4 ⟨(some 34), none, .q (.ixs 1 (.t 32) (.t 33))⟩ (.take 5 ⟨(some 35), none, .q (.ld false 1 (.t 34))⟩ (.take 6 ⟨(some 36), none, .q (.mv (.t 5))⟩ (.take 7 ⟨(some 37), none, .q (.mv (.t 7))⟩ (.take 8 ⟨(some 38), none, .q (.bin .sub (.t 37) (.c (.int .i64 1)))⟩ (.take 9 ⟨(some 39), none, .q (.ixs 1 (.t 36) (.t 38))⟩ (.take 10 ⟨(some 40), none, .q (.ld false 1 (.t 39))⟩ (.take 11 ⟨(some 41), none, .q (.fad 0 (.t 2))⟩ (.take 12 ⟨(some 42), none, .q (.ld false 1 (.t 41))⟩ (.take 13 ⟨(some 43), none, .q (.mv (.t 6))⟩ (.take 14 ⟨(some 44), none, .q (.ixs 1 (.t 42) (.t 43))⟩ (.take 15 ⟨(some 45), none, .q (.ld false 1 (.t 44))⟩ (.take 16 ⟨(some 46), none, .q (.bin .sub (.t 45) (.c (.int .i64 1)))⟩ (.take 17 ⟨(some 47), none, .q (.bin .mul (.t 40) (.t 46))⟩ (.take 18 ⟨(some 48), none, .q (.bin .add (.t 35) (.t 47))⟩ (.take 19 ⟨(some 49), none, .q (.ixs 1 (.t 30) (.t 31))⟩ (.one ⟨none, none, .m (.st false 1 (.t 49) (.t 48))⟩ [15, 12, 10, 5] .done)))))))))))))))))))))))
 (.reg [⟨(some 28), none, .q (.mv (.t 7))⟩,
 ⟨(some 29), none, .q (.bin .sub (.t 28) (.c (.int .i64 1)))⟩,
 ⟨(some 7), none, .q (.mv (.t 29))⟩])))))))
 (.reg [⟨(some 22), none, .q (.mv (.t 6))⟩,
 ⟨(some 23), none, .q (.bin .add (.t 22) (.c (.int .i64 1)))⟩,
 ⟨(some 6), none, .q (.mv (.t 23))⟩]))))))
 (.seq (.reg [⟨(some 8), none, .q (.mv (.c (.int .i64 0)))⟩])
 (.seq (.seq (.reg [⟨(some 9), none, .q (.mv (.c (.int .i64 0)))⟩])
 (.block 4 (.loop [1, 5, 8, 9] (.seq (.seq (.reg [⟨(some 50), none, .q (.mv (.t 9))⟩,
 ⟨(some 51), none, .q (.mv (.t 5))⟩,
 ⟨(some 52), none, .q (.len (.t 51))⟩,
 ⟨(some 53), none, .q (.bin .lss (.t 50) (.t 52))⟩,
 ⟨(some 54), none, .q (.mv (.t 53))⟩,
 ⟨(some 55), (some (54, true)), .q (.mv (.t 9))⟩,
 ⟨(some 56), (some (54, true)), .q (.mv (.t 1))⟩,
 ⟨(some 57), (some (54, true)), .q (.bin .leq (.t 55) (.t 56))⟩,
 ⟨(some 58), none, .q (.pick (.t 54) (.t 57) (.c (.bool false)))⟩])
 (.cond (.t 58)
 .skip
 (.exit 4)))
 (.seq (.block 5 (.reg [⟨(some 61), none, .q (.mv (.t 8))⟩,
 ⟨(some 62), none, .q (.mv (.t 5))⟩,
 ⟨(some 63), none, .q (.mv (.t 9))⟩,
 ⟨(some 64), none, .q (.ixs 1 (.t 62) (.t 63))⟩,
 ⟨(some 65), none, .q (.ld false 1 (.t 64))⟩,
 ⟨(some 66), none, .q (.bin .add (.t 61) (.t 65))⟩,
 ⟨(some 8), none, .q (.mv (.t 66))⟩]))
 (.reg [⟨(some 59), none, .q (.mv (.t 9))⟩,
 ⟨(some 60), none, .q (.bin .add (.t 59) (.c (.int .i64 1)))⟩,
 ⟨(some 9), none, .q (.mv (.t 60))⟩]))))))
 (.seq (.reg [⟨(some 67), none, .q (.mv (.t 8))⟩,
 ⟨(some 4), none, .q (.mv (.t 67))⟩])
 .ret)))))))⟩
theorem l_spec_l01Size : lowF PA f_spec_l01Size 2 [.k [1, 2, 5, 6], .k [1, 2, 5, 6, 7], .s (.take 0 (.take 1 (.take 2 (.take 3 (.take 4 (.take 5 (.take 6 (.take 7 (.take 8 (.take 9 (.take 10 (.take 11 (.take 12 (.take 13 (.take 14 (.take 15 (.take 16 (.take 17 (.take 18 (.take 19 (.one 20 .done))))))))))))))))))))), .k [1, 5, 8, 9]] = some c_spec_l01Size := by kernel_rfl
abbrev f_spec_l01N : FuncId := 34
def c_spec_l01N : AF := ⟨1, 20, [.t 2],
 (.seq (.reg [⟨(some 1), none, .m (.box (.t 0))⟩,
 ⟨(some 2), none, .q (.mv (.c (.int .i64 0)))⟩])
 (.seq (.reg [⟨(some 3), none, .q (.mv (.c (.int .i64 1)))⟩])
 (.seq (.seq (.reg [⟨(some 4), none, .q (.mv (.c (.int .i64 0)))⟩])
 (.block 0 (.loop [1, 3, 4] (.seq (.seq (.reg [⟨(some 5), none, .q (.mv (.t 4))⟩,
 ⟨(some 6), none, .q (.fad 0 (.t 1))⟩,
 ⟨(some 7), none, .q (.ld false 1 (.t 6))⟩,
 ⟨(some 8), none, .q (.len (.t 7))⟩,
 ⟨(some 9), none, .q (.bin .lss (.t 5) (.t 8))⟩])
 (.cond (.t 9)
 .skip
 (.exit 0)))
 (.seq (.block 1 (.reg [⟨(some 12), none, .q (.mv (.t 3))⟩,
 ⟨(some 13), none, .q (.fad 0 (.t 1))⟩,
 ⟨(some 14), none, .q (.ld false 1 (.t 13))⟩,
 ⟨(some 15), none, .q (.mv (.t 4))⟩,
 ⟨(some 16), none, .q (.ixs 1 (.t 14) (.t 15))⟩,
 ⟨(some 17), none, .q (.ld false 1 (.t 16))⟩,
 ⟨(some 18), none, .q (.bin .mul (.t 12) (.t 17))⟩,
 ⟨(some 3), none, .q (.mv (.t 18))⟩]))
 (.reg [⟨(some 10), none, .q (.mv (.t 4))⟩,
 ⟨(some 11), none, .q (.bin .add (.t 10) (.c (.int .i64 1)))⟩,
 ⟨(some 4), none, .q (.mv (.t 11))⟩]))))))
 (.seq (.reg [⟨(some 19), none, .q (.mv (.t 3))⟩,
 ⟨(some 2), none, .q (.mv (.t 19))⟩])
 .ret))))⟩
theorem l_spec_l01N : lowF PA f_spec_l01N 1 [.k [1, 3, 4]] = some c_spec_l01N := by kernel_rfl
abbrev f_impl_dividedBy : FuncId := 35
def c_impl_dividedBy : AF := ⟨2, 31, [.t 4],
 (.seq (.reg [⟨(some 2), none, .m (.box (.t 0))⟩,
 ⟨(some 4), none, .q (.mv (.c (.int .i64 0)))⟩])
 (.seq (.reg [⟨(some 9), none, .q (.fad 0 (.t 2))⟩,
 ⟨(some 10), none, .q (.ld false 1 (.t 9))⟩,
 ⟨(some 11), none, .c (.call 69 [(.t 10)])⟩,
 ⟨(some 5), none, .q (.mv (.t 11))⟩])
 (.seq (.reg [⟨(some 12), none, .q (.mv (.t 5))⟩,
 ⟨(some 13), none, .c (.call 57 [(.t 12)])⟩])
 (.seq (.reg [⟨(some 6), none, .q (.mv (.c (.int .i64 1)))⟩])
 (.seq (.seq (.reg [⟨(some 14), none, .q (.mv (.t 5))⟩,
 ⟨(some 15), none, .q (.ld true 1 (.t 2))⟩,
 ⟨(some 16), none, .c (.call 70 [(.t 15)])⟩,
 ⟨(some 17), none, .q (.mv (.t 1))⟩,
 ⟨(some 18), none, .q (.bin .sub (.t 16) (.t 17))⟩,
 ⟨(some 19), none, .q (.mx (.t 18) (.c (.int .i64 0)))⟩,
 ⟨(some 20), none, .q (.slc 1 (.t 14) none (some (.t 19)))⟩,
 ⟨(some 21), none, .q (.len (.t 20))⟩,
 ⟨(some 22), none, .q (.mv (.c (.int .i64 0)))⟩])
 (.block 0 (.loop [6, 20, 21, 22] (.seq (.reg [⟨(some 23), none, .q (.bin .lss (.t 22) (.t 21))⟩])
 (.seq (.cond (.t 23)
 .skip
 (.exit 0))
 (.seq (.block 1 (.seq (.reg [⟨(some 24), none, .q (.ixs 1 (.t 20) (.t 22))⟩,
 ⟨(some 25), none, .q (.ld false 1 (.t 24))⟩,
 ⟨(some 8), none, .q (.mv (.t 25))⟩])
 (.reg [⟨(some 26), none, .q (.mv (.t 6))⟩,
 ⟨(some 27), none, .q (.mv (.t 8))⟩,
 ⟨(some 28), none, .q (.bin .mul (.t 26) (.t 27))⟩,
 ⟨(some 6), none, .q (.mv (.t 28))⟩])))
 (.reg [⟨(some 29), none, .q (.bin .add (.t 22) (.c (.int .i64 1)))⟩,
 ⟨(some 22), none, .q (.mv (.t 29))⟩])))))))
 (.seq (.reg [⟨(some 30), none, .q (.mv (.t 6))⟩,
 ⟨(some 4), none, .q (.mv (.t 30))⟩])
 .ret))))))⟩
theorem l_impl_dividedBy : lowF PA f_impl_dividedBy 2 [.k [6, 20, 21, 22]] = some c_impl_dividedBy := by kernel_rfl
abbrev f_spec_l04Over : FuncId := 36
def c_spec_l04Over : AF := ⟨2, 81, [.t 4],
 (.seq (.reg [⟨(some 2), none, .m (.box (.t 0))⟩,
 ⟨(some 4), none, .q (.mv (.c (.int .i64 0)))⟩])
 (.seq (.reg [⟨(some 10), none, .m (.bsl 1 [])⟩,
 ⟨(some 11), none, .q (.ld true 1 (.t 2))⟩,
 ⟨(some 12), none, .c (.call 34 [(.t 11)])⟩,
 ⟨(some 5), none, .q (.mv (.t 10))⟩,
 ⟨(some 6), none, .q (.mv (.t 12))⟩])
 (.seq (.seq (.reg [⟨(some 7), none, .q (.mv (.c (.int .i64 0)))⟩])
 (.block 0 (.loop [1, 2, 5, 6, 7] (.seq (.seq (.reg [⟨(some 13), none, .q (.mv (.t 7))⟩,
 ⟨(some 14), none, .q (.fad 0 (.t 2))⟩,
 ⟨(some 15), none, .q (.ld false 1 (.t 14))⟩,
 ⟨(some 16), none, .q (.len (.t 15))⟩,
 ⟨(some 17), none, .q (.bin .lss (.t 13) (.t 16))⟩])
 (.cond (.t 17)
 .skip
 (.exit 0)))
 (.seq (.block 1 (.seq (.reg [⟨(some 20), none, .q (.mv (.t 5))⟩,
 ⟨(some 21), none, .q (.len (.t 20))⟩,
 ⟨(some 8), none, .q (.mv (.t 21))⟩])
 (.seq (.reg [⟨(some 22), none, .q (.mv (.t 5))⟩,
 ⟨(some 23), none, .q (.fad 0 (.t 2))⟩,
 ⟨(some 24), none, .q (.ld false 1 (.t 23))⟩,
 ⟨(some 25), none, .q (.mv (.t 7))⟩,
 ⟨(some 26), none, .q (.ixs 1 (.t 24) (.t 25))⟩,
 ⟨(some 27), none, .q (.ld false 1 (.t 26))⟩,
 ⟨(some 28), none, .m (.bsl 1 [(.t 27)])⟩,
 ⟨(some 29), none, .m (.app 1 8 (.t 22) (.t 28))⟩,
 ⟨(some 5), none, .q (.mv (.t 29))⟩])
 (.seq (.block 2 (.loop [1, 2, 5, 6, 7, 8] (.seq (.seq (.sch (.take 0 ⟨(some 30), none, .q (.mv (.t 8))⟩ (.take 1 ⟨(some 31), none, .q (.bin .gtr (.t 30) (.c (.int .i64 0)))⟩ (.take 2 ⟨(some 32), none, .q (.mv (.t 31))⟩ (.take 3 ⟨(some 33), (some (32, true)), .q (.mv (.t 5))⟩ (.take 4 ⟨(some 34), (some (32, true)), .q (.mv (.t 8))⟩ (.take 5 ⟨(some 35), (some (32, true)), .q (.bin .sub (.t 34) (.c (.int .i64 1)))⟩ (.take 6 ⟨(some 36), (some (32, true)), .q (.ixs 1 (.t 33) (.t 35))⟩ (.take 7 ⟨(some 37), (some (32, true)), .q (.ld false 1 (.t 36))⟩ (.take 8 ⟨(some 38), (some (32, true)), .q (.fad 0 (.t 2))⟩ (.take 9 ⟨(some 39), (some (32, true)), .q (.ld false 1 (.t 38))⟩ (.take 10 ⟨(some 40), (some (32, true)), .q (.mv (.t 7))⟩ (.take 11 ⟨(some 41), (some (32, true)), .q (.ixs 1 (.t 39) (.t 40))⟩ (.take 12 ⟨(some 42), (some (32, true)), .q (.ld false 1 (.t 41))⟩ (.take 13 ⟨(some 43), (some (32, true)), .q (.bin .lss (.t 37) (.t 42))⟩ (.take 14 ⟨(some 44), none, .q (.pick (.t 32) (.t 43) (.c (.bool false)))⟩ .done))))))))))))))))
 (.cond (.t 44)
 .skip
 (.exit 2)))
 (.block 3 (.seq (.reg [⟨(some 45), none, .q (.mv (.t 5))⟩,
 ⟨(some 46), none, .q (.mv (.t 8))⟩,
 ⟨(some 47), none, .q (.mv (.t 5))⟩,
 ⟨(some 48), none, .q (.mv (.t 8))⟩,
 ⟨(some 49), none, .q (.bin .sub (.t 48) (.c (.int .i64 1)))⟩,
 ⟨(some 50), none, .q (.ixs 1 (.t 47) (.t 49))⟩,
 ⟨(some 51), none, .q (.ld false 1 (.t 50))⟩,
 ⟨(some 52), none, .q (.ixs 1 (.t 45) (.t 46))⟩,
 ⟨none, none, .m (.st false 1 (.t 52) (.t 51))⟩])
 (.reg [⟨(some 53), none, .q (.mv (.t 8))⟩,
 ⟨(some 54), none, .q (.bin .sub (.t 53) (.c (.int .i64 1)))⟩,
 ⟨(some 8), none, .q (.mv (.t 54))⟩]))))))
 (.reg [⟨(some 55), none, .q (.mv (.t 5))⟩,
 ⟨(some 56), none, .q (.mv (.t 8))⟩,
 ⟨(some 57), none, .q (.fad 0 (.t 2))⟩,
 ⟨(some 58), none, .q (.ld false 1 (.t 57))⟩,
 ⟨(some 59), none, .q (.mv (.t 7))⟩,
 ⟨(some 60), none, .q (.ixs 1 (.t 58) (.t 59))⟩,
 ⟨(some 61), none, .q (.ld false 1 (.t 60))⟩,
 ⟨(some 62), none, .q (.ixs 1 (.t 55) (.t 56))⟩,
 ⟨none, none, .m (.st false 1 (.t 62) (.t 61))⟩])))))
 (.reg [⟨(some 18), none, .q (.mv (.t 7))⟩,
 ⟨(some 19), none, .q (.bin .add (.t 18) (.c (.int .i64 1)))⟩,
 ⟨(some 7), none, .q (.mv (.t 19))⟩]))))))
 (.seq (.seq (.reg [⟨(some 9), none, .q (.mv (.c (.int .i64 0)))⟩])
 (.block 4 (.loop [1, 5, 6, 9] (.seq (.seq (.reg [⟨(some 63), none, .q (.mv (.t 9))⟩,
 ⟨(some 64), none, .q (.mv (.t 1))⟩,
 ⟨(some 65), none, .q (.bin .lss (.t 63) (.t 64))⟩,
 ⟨(some 66), none, .q (.mv (.t 65))⟩,
 ⟨(some 67), (some (66, true)), .q (.mv (.t 9))⟩,
 ⟨(some 68), (some (66, true)), .q (.mv (.t 5))⟩,
 ⟨(some 69), (some (66, true)), .q (.len (.t 68))⟩,
 ⟨(some 70), (some (66, true)), .q (.bin .lss (.t 67) (.t 69))⟩,
 ⟨(some 71), none, .q (.pick (.t 66) (.t 70) (.c (.bool false)))⟩])
 (.cond (.t 71)
 .skip
 (.exit 4)))
 (.seq (.block 5 (.reg [⟨(some 74), none, .q (.mv (.t 6))⟩,
 ⟨(some 75), none, .q (.mv (.t 5))⟩,
 ⟨(some 76), none, .q (.mv (.t 9))⟩,
 ⟨(some 77), none, .q (.ixs 1 (.t 75) (.t 76))⟩,
 ⟨(some 78), none, .q (.ld false 1 (.t 77))⟩,
 ⟨(some 79), none, .q (.bin .quo (.t 74) (.t 78))⟩,
 ⟨(some 6), none, .q (.mv (.t 79))⟩]))
 (.reg [⟨(some 72), none, .q (.mv (.t 9))⟩,
 ⟨(some 73), none, .q (.bin .add (.t 72) (.c (.int .i64 1)))⟩,
 ⟨(some 9), none, .q (.mv (.t 73))⟩]))))))
 (.seq (.reg [⟨(some 80), none, .q (.mv (.t 6))⟩,
 ⟨(some 4), none, .q (.mv (.t 80))⟩])
 .ret)))))⟩
theorem l_spec_l04Over : lowF PA f_spec_l04Over 2 [.k [1, 2, 5, 6, 7], .k [1, 2, 5, 6, 7, 8], .s (.take 0 (.take 1 (.take 2 (.take 3 (.take 4 (.take 5 (.take 6 (.take 7 (.take 8 (.take 9 (.take 10 (.take 11 (.take 12 (.take 13 (.take 14 .done))))))))))))))), .k [1, 5, 6, 9]] = some c_spec_l04Over := by kernel_rfl
abbrev f_spec_l01From : FuncId := 37
def c_spec_l01From : AF := ⟨1, 38, [.t 2],
 (.seq (.reg [⟨(some 2), none, .q (.mv (.c (.pointer none)))⟩])
 (.seq (.reg [⟨(some 5), none, .q (.mv (.t 0))⟩,
 ⟨(some 6), none, .q (.mv (.t 0))⟩,
 ⟨(some 7), none, .q (.len (.t 6))⟩,
 ⟨(some 8), none, .q (.cvt .u64 (.t 7))⟩,
 ⟨(some 9), none, .q (.bin .add (.c (.int .u64 14111)) (.t 8))⟩,
 ⟨(some 10), none, .q (.bld [(.v (.slice none 0 0)), (.v (.int .i64 0)), (.v (.int .u64 0))] [(0, (.t 5)), (2, (.t 9))])⟩,
 ⟨(some 11), none, .m (.box (.t 10))⟩,
 ⟨(some 3), none, .q (.mv (.t 11))⟩])
 (.seq (.seq (.reg [⟨(some 4), none, .q (.mv (.c (.int .i64 0)))⟩])
 (.block 0 (.loop [0, 3, 4] (.seq (.seq (.reg [⟨(some 12), none, .q (.mv (.t 4))⟩,
 ⟨(some 13), none, .q (.mv (.t 0))⟩,
 ⟨(some 14), none, .q (.len (.t 13))⟩,
 ⟨(some 15), none, .q (.bin .lss (.t 12) (.t 14))⟩,
 ⟨(some 16), none, .q (.mv (.t 15))⟩,
 ⟨(some 17), (some (16, true)), .q (.mv (.t 4))⟩,
 ⟨(some 18), (some (16, true)), .q (.bin .lss (.t 17) (.c (.int .i64 4096)))⟩,
 ⟨(some 19), none, .q (.pick (.t 16) (.t 18) (.c (.bool false)))⟩])
 (.cond (.t 19)
 .skip
 (.exit 0)))
 (.seq (.block 1 (.sch (.take 0 ⟨(some 22), none, .q (.mv (.t 3))⟩ (.take 1 ⟨(some 23), none, .q (.mv (.t 3))⟩ (.take 2 ⟨(some 24), none, .q (.nlc (.t 23))⟩ (.take 3 ⟨(some 25), none, .q (.fad 2 (.t 24))⟩ (.take 4 ⟨(some 26), none, .q (.ld false 1 (.t 25))⟩ (.take 5 ⟨(some 27), none, .q (.bin .mul (.t 26) (.c (.int .u64 1099511628211)))⟩ (.take 6 ⟨(some 28), none, .q (.mv (.t 0))⟩ (.take 7 ⟨(some 29), none, .q (.mv (.t 4))⟩ (.take 8 ⟨(some 30), none, .q (.ixs 1 (.t 28) (.t 29))⟩ (.take 9 ⟨(some 31), none, .q (.ld false 1 (.t 30))⟩ (.take 10 ⟨(some 32), none, .q (.cvt .u64 (.t 31))⟩ (.take 11 ⟨(some 33), none, .q (.bin .add (.t 27) (.t 32))⟩ (.take 12 ⟨(some 34), none, .q (.bin .add (.t 33) (.c (.int .u64 251)))⟩ (.take 13 ⟨(some 35), none, .q (.nlc (.t 22))⟩ (.take 14 ⟨(some 36), none, .q (.fad 2 (.t 35))⟩ (.one ⟨none, none, .m (.st false 1 (.t 36) (.t 34))⟩ [9, 4] .done))))))))))))))))))
 (.reg [⟨(some 20), none, .q (.mv (.t 4))⟩,
 ⟨(some 21), none, .q (.bin .add (.t 20) (.c (.int .i64 1)))⟩,
 ⟨(some 4), none, .q (.mv (.t 21))⟩]))))))
 (.seq (.reg [⟨(some 37), none, .q (.mv (.t 3))⟩,
 ⟨(some 2), none, .q (.mv (.t 37))⟩])
 .ret))))⟩
theorem l_spec_l01From : lowF PA f_spec_l01From 1 [.k [0, 3, 4], .s (.take 0 (.take 1 (.take 2 (.take 3 (.take 4 (.take 5 (.take 6 (.take 7 (.take 8 (.take 9 (.take 10 (.take 11 (.take 12 (.take 13 (.take 14 (.one 15 .done))))))))))))))))] = some c_spec_l01From := by kernel_rfl
abbrev f_spec_l01Draw : FuncId := 38
def c_spec_l01Draw : AF := ⟨1, 8, [.c 2 true 1],
 (.seq (.reg [⟨(some 2), none, .m (.alloc [(.v (.slice none 0 0))])⟩])
 (.seq (.reg [⟨(some 3), none, .q (.mv (.t 0))⟩,
 ⟨(some 4), none, .q (.mv (.t 0))⟩,
 ⟨(some 5), none, .m (.bsl 1 [(.c (.int .i64 16)), (.c (.int .i64 81)), (.c (.int .i64 256)), (.c (.int .i64 256))])⟩,
 ⟨(some 6), none, .c (.call 40 [(.t 4), (.t 5)])⟩,
 ⟨(some 7), none, .c (.call 71 [(.t 3), (.t 6)])⟩,
 ⟨none, none, .m (.st true 1 (.t 2) (.t 7))⟩])
 .ret))⟩
theorem l_spec_l01Draw : lowF PA f_spec_l01Draw 1 [] = some c_spec_l01Draw := by kernel_rfl
abbrev f_spec_l01Next : FuncId := 39
def c_spec_l01Next : AF := ⟨2, 58, [.t 4],
 (.seq (.reg [⟨(some 4), none, .q (.mv (.c (.int .i64 0)))⟩])
 (.seq (.seq (.reg [⟨(some 6), none, .q (.mv (.t 1))⟩,
 ⟨(some 7), none, .q (.bin .lss (.t 6) (.c (.int .i64 1)))⟩])
 (.cond (.t 7)
 (.seq (.reg [⟨(some 4), none, .q (.mv (.c (.int .i64 0)))⟩])
 .ret)
 .skip))
 (.seq (.reg [⟨(some 8), none, .q (.mv (.t 0))⟩,
 ⟨(some 9), none, .q (.mv (.t 0))⟩,
 ⟨(some 10), none, .q (.nlc (.t 9))⟩,
 ⟨(some 11), none, .q (.fad 2 (.t 10))⟩,
 ⟨(some 12), none, .q (.ld false 1 (.t 11))⟩,
 ⟨(some 13), none, .q (.bin .mul (.t 12) (.c (.int .u64 6364136223846793005)))⟩,
 ⟨(some 14), none, .q (.bin .add (.t 13) (.c (.int .u64 1442695040888963407)))⟩,
 ⟨(some 15), none, .q (.nlc (.t 8))⟩,
 ⟨(some 16), none, .q (.fad 2 (.t 15))⟩,
 ⟨none, none, .m (.st false 1 (.t 16) (.t 14))⟩])
 (.seq (.reg [⟨(some 17), none, .q (.mv (.t 0))⟩,
 ⟨(some 18), none, .q (.nlc (.t 17))⟩,
 ⟨(some 19), none, .q (.fad 2 (.t 18))⟩,
 ⟨(some 20), none, .q (.ld false 1 (.t 19))⟩,
 ⟨(some 21), none, .q (.bin .shr (.t 20) (.c (.int .u64 33)))⟩,
 ⟨(some 22), none, .q (.bin .and (.t 21) (.c (.int .u64 16777215)))⟩,
 ⟨(some 23), none, .q (.cvt .i64 (.t 22))⟩,
 ⟨(some 5), none, .q (.mv (.t 23))⟩])
 (.seq (.seq (.sch (.take 0 ⟨(some 24), none, .q (.mv (.t 0))⟩ (.take 1 ⟨(some 25), none, .q (.nlc (.t 24))⟩ (.take 2 ⟨(some 26), none, .q (.fad 1 (.t 25))⟩ (.take 3 ⟨(some 27), none, .q (.ld false 1 (.t 26))⟩ (.take 4 ⟨(some 28), none, .q (.mv (.t 0))⟩ (.take 5 ⟨(some 29), none, .q (.nlc (.t 28))⟩ (.take 6 ⟨(some 30), none, .q (.fad 0 (.t 29))⟩ (.take 7 ⟨(some 31), none, .q (.ld false 1 (.t 30))⟩ (.take 8 ⟨(some 32), none, .q (.len (.t 31))⟩ (.take 9 ⟨(some 33), none, .q (.bin .lss (.t 27) (.t 32))⟩ .done)))))))))))
 (.cond (.t 33)
 (.seq (.sch (.take 0 ⟨(some 34), none, .q (.mv (.t 5))⟩ (.take 1 ⟨(some 35), none, .q (.mv (.t 0))⟩ (.take 2 ⟨(some 36), none, .q (.nlc (.t 35))⟩ (.take 3 ⟨(some 37), none, .q (.fad 0 (.t 36))⟩ (.take 4 ⟨(some 38), none, .q (.ld false 1 (.t 37))⟩ (.take 5 ⟨(some 39), none, .q (.mv (.t 0))⟩ (.take 6 ⟨(some 40), none, .q (.nlc (.t 39))⟩ (.take 7 ⟨(some 41), none, .q (.fad 1 (.t 40))⟩ (.take 8 ⟨(some 42), none, .q (.ld false 1 (.t 41))⟩ (.take 9 ⟨(some 43), none, .q (.ixs 1 (.t 38) (.t 42))⟩ (.take 10 ⟨(some 44), none, .q (.ld false 1 (.t 43))⟩ (.take 11 ⟨(some 45), none, .q (.cvt .i64 (.t 44))⟩ (.take 12 ⟨(some 46), none, .q (.bin .add (.t 34) (.t 45))⟩ (.take 13 ⟨(some 5), none, .q (.mv (.t 46))⟩ .done)))))))))))))))
 (.reg [⟨(some 47), none, .q (.mv (.t 0))⟩,
 ⟨(some 48), none, .q (.mv (.t 0))⟩,
 ⟨(some 49), none, .q (.nlc (.t 48))⟩,
 ⟨(some 50), none, .q (.fad 1 (.t 49))⟩,
 ⟨(some 51), none, .q (.ld false 1 (.t 50))⟩,
 ⟨(some 52), none, .q (.bin .add (.t 51) (.c (.int .i64 1)))⟩,
 ⟨(some 53), none, .q (.nlc (.t 47))⟩,
 ⟨(some 54), none, .q (.fad 1 (.t 53))⟩,
 ⟨none, none, .m (.st false 1 (.t 54) (.t 52))⟩]))
 .skip))
 (.seq (.reg [⟨(some 55), none, .q (.mv (.t 5))⟩,
 ⟨(some 56), none, .q (.mv (.t 1))⟩,
 ⟨(some 57), none, .q (.bin .rem (.t 55) (.t 56))⟩,
 ⟨(some 4), none, .q (.mv (.t 57))⟩])
 .ret))))))⟩
theorem l_spec_l01Next : lowF PA f_spec_l01Next 2 [.s (.take 0 (.take 1 (.take 2 (.take 3 (.take 4 (.take 5 (.take 6 (.take 7 (.take 8 (.take 9 .done)))))))))), .s (.take 0 (.take 1 (.take 2 (.take 3 (.take 4 (.take 5 (.take 6 (.take 7 (.take 8 (.take 9 (.take 10 (.take 11 (.take 12 (.take 13 .done))))))))))))))] = some c_spec_l01Next := by kernel_rfl
abbrev f_spec_l01Pick : FuncId := 40
def c_spec_l01Pick : AF := ⟨2, 12, [.t 4],
 (.seq (.reg [⟨(some 4), none, .q (.mv (.c (.int .i64 0)))⟩])
 (.seq (.reg [⟨(some 5), none, .q (.mv (.t 1))⟩,
 ⟨(some 6), none, .q (.mv (.t 0))⟩,
 ⟨(some 7), none, .q (.mv (.t 1))⟩,
 ⟨(some 8), none, .q (.len (.t 7))⟩,
 ⟨(some 9), none, .c (.call 39 [(.t 6), (.t 8)])⟩,
 ⟨(some 10), none, .q (.ixs 1 (.t 5) (.t 9))⟩,
 ⟨(some 11), none, .q (.ld false 1 (.t 10))⟩,
 ⟨(some 4), none, .q (.mv (.t 11))⟩])
 .ret))⟩
theorem l_spec_l01Pick : lowF PA f_spec_l01Pick 2 [] = some c_spec_l01Pick := by kernel_rfl
abbrev f_spec_l01Bad : FuncId := 41
def c_spec_l01Bad : AF := ⟨2, 42, [.c 4 true 1],
 (.seq (.reg [⟨(some 3), none, .m (.box (.t 1))⟩,
 ⟨(some 4), none, .m (.alloc [(.v (.slice none 0 0))])⟩])
 (.seq (.reg [⟨(some 6), none, .q (.fad 0 (.t 3))⟩,
 ⟨(some 7), none, .q (.ld false 1 (.t 6))⟩,
 ⟨(some 8), none, .c (.call 59 [(.t 7)])⟩,
 ⟨(some 9), none, .q (.bld [(.v (.slice none 0 0))] [(0, (.t 8))])⟩,
 ⟨(some 5), none, .m (.alloc [(.v (.slice none 0 0))])⟩,
 ⟨none, none, .m (.st true 1 (.t 5) (.t 9))⟩])
 (.seq (.seq (.reg [⟨(some 10), none, .q (.mv (.t 0))⟩,
 ⟨(some 11), none, .c (.call 39 [(.t 10), (.c (.int .i64 50))])⟩])
 (.block 0 (.seq (.reg [⟨(some 13), none, .q (.bin .eql (.t 11) (.c (.int .i64 0)))⟩,
 ⟨(some 12), none, .q (.mv (.t 13))⟩])
 (.cond (.t 12)
 (.seq (.reg [⟨(some 14), none, .q (.bld [(.v (.slice none 0 0))] [])⟩,
 ⟨none, none, .m (.st true 1 (.t 4) (.t 14))⟩])
 .ret)
 (.seq (.reg [⟨(some 16), none, .q (.bin .eql (.t 11) (.c (.int .i64 1)))⟩,
 ⟨(some 15), none, .q (.mv (.t 16))⟩])
 (.cond (.t 15)
 (.seq (.sch (.take 0 ⟨(some 17), none, .q (.fad 0 (.t 5))⟩ (.take 1 ⟨(some 18), none, .q (.ld false 1 (.t 17))⟩ (.take 2 ⟨(some 19), none, .q (.mv (.t 0))⟩ (.take 3 ⟨(some 20), none, .q (.fad 0 (.t 5))⟩ (.take 4 ⟨(some 21), none, .q (.ld false 1 (.t 20))⟩ (.take 5 ⟨(some 22), none, .q (.len (.t 21))⟩ (.take 7 ⟨(some 24), none, .q (.mv (.t 0))⟩ (.two ⟨(some 23), none, .c (.call 39 [(.t 19), (.t 22)])⟩ [] (.one ⟨(some 25), none, .m (.bsl 1 [(.c (.int .i64 1)), (.c (.int .i64 5)), (.c (.int .i64 0)), (.c (.int .i64 (-1))), (.c (.int .i64 1099511627776))])⟩ [] (.one ⟨(some 26), none, .c (.call 40 [(.t 24), (.t 25)])⟩ [] (.take 10 ⟨(some 27), none, .q (.ixs 1 (.t 18) (.t 23))⟩ (.one ⟨none, none, .m (.st false 1 (.t 27) (.t 26))⟩ [4, 1] .done)))) ⟨(some 25), none, .m (.bsl 1 [(.c (.int .i64 1)), (.c (.int .i64 5)), (.c (.int .i64 0)), (.c (.int .i64 (-1))), (.c (.int .i64 1099511627776))])⟩ [] (.one ⟨(some 23), none, .c (.call 39 [(.t 19), (.t 22)])⟩ [] (.one ⟨(some 26), none, .c (.call 40 [(.t 24), (.t 25)])⟩ [] (.take 10 ⟨(some 27), none, .q (.ixs 1 (.t 18) (.t 23))⟩ (.one ⟨none, none, .m (.st false 1 (.t 27) (.t 26))⟩ [4, 1] .done)))))))))))))
 (.seq (.reg [⟨(some 28), none, .q (.ld true 1 (.t 5))⟩,
 ⟨none, none, .m (.st true 1 (.t 4) (.t 28))⟩])
 .ret))
 (.seq (.reg [⟨(some 30), none, .q (.bin .eql (.t 11) (.c (.int .i64 2)))⟩,
 ⟨(some 29), none, .q (.mv (.t 30))⟩])
 (.cond (.t 29)
 (.seq (.block 1 (.loop [4, 5, 42] (.seq (.seq (.reg [⟨(some 31), none, .q (.fad 0 (.t 5))⟩,
 ⟨(some 32), none, .q (.ld false 1 (.t 31))⟩,
 ⟨(some 33), none, .q (.len (.t 32))⟩,
 ⟨(some 34), none, .q (.bin .lss (.t 33) (.c (.int .i64 6)))⟩])
 (.cond (.t 34)
 .skip
 (.exit 1)))
 (.block 2 (.reg [⟨(some 35), none, .q (.fad 0 (.t 5))⟩,
 ⟨(some 36), none, .q (.ld false 1 (.t 35))⟩,
 ⟨(some 37), none, .m (.bsl 1 [(.c (.int .i64 4))])⟩,
 ⟨(some 38), none, .m (.app 1 8 (.t 36) (.t 37))⟩,
 ⟨(some 39), none, .q (.fad 0 (.t 5))⟩,
 ⟨none, none, .m (.st false 1 (.t 39) (.t 38))⟩])))))
 (.seq (.reg [⟨(some 40), none, .q (.ld true 1 (.t 5))⟩,
 ⟨none, none, .m (.st true 1 (.t 4) (.t 40))⟩])
 .ret))
 .skip))))))))
 (.seq (.reg [⟨(some 41), none, .q (.ld true 1 (.t 3))⟩,
 ⟨none, none, .m (.st true 1 (.t 4) (.t 41))⟩])
 .ret))))⟩
theorem l_spec_l01Bad : lowF PA f_spec_l01Bad 2 [.s (.take 0 (.take 1 (.take 2 (.take 3 (.take 4 (.take 5 (.take 7 (.two 6 (.one 8 (.one 9 (.take 10 (.one 11 .done)))) 8 (.one 6 (.one 9 (.take 10 (.one 11 .done)))))))))))), .k [4, 5, 42]] = some c_spec_l01Bad := by kernel_rfl
abbrev f_impl_IsSpace : FuncId := 42
def c_impl_IsSpace : AF := ⟨1, 35, [.t 2],
 (.seq (.reg [⟨(some 1), none, .m (.box (.t 0))⟩,
 ⟨(some 2), none, .q (.mv (.c (.bool false)))⟩])
 (.seq (.seq (.reg [⟨(some 6), none, .q (.fad 0 (.t 1))⟩,
 ⟨(some 7), none, .q (.ld false 1 (.t 6))⟩,
 ⟨(some 8), none, .q (.len (.t 7))⟩,
 ⟨(some 9), none, .q (.bin .lss (.t 8) (.c (.int .i64 1)))⟩,
 ⟨(some 10), none, .q (.mv (.t 9))⟩,
 ⟨(some 11), (some (10, false)), .q (.fad 0 (.t 1))⟩,
 ⟨(some 12), (some (10, false)), .q (.ld false 1 (.t 11))⟩,
 ⟨(some 13), (some (10, false)), .q (.len (.t 12))⟩,
 ⟨(some 14), (some (10, false)), .q (.bin .gtr (.t 13) (.c (.int .i64 8)))⟩,
 ⟨(some 15), none, .q (.pick (.t 10) (.c (.bool true)) (.t 14))⟩])
 (.cond (.t 15)
 (.seq (.reg [⟨(some 2), none, .q (.mv (.c (.bool false)))⟩])
 .ret)
 .skip))
 (.seq (.reg [⟨(some 3), none, .q (.mv (.c (.int .i64 1)))⟩])
 (.seq (.seq (.reg [⟨(some 16), none, .q (.fad 0 (.t 1))⟩,
 ⟨(some 17), none, .q (.ld false 1 (.t 16))⟩,
 ⟨(some 18), none, .q (.len (.t 17))⟩,
 ⟨(some 19), none, .q (.mv (.c (.int .i64 0)))⟩])
 (.block 0 (.loop [3, 17, 18, 19] (.seq (.reg [⟨(some 20), none, .q (.bin .lss (.t 19) (.t 18))⟩])
 (.seq (.cond (.t 20)
 .skip
 (.exit 0))
 (.seq (.block 1 (.seq (.reg [⟨(some 21), none, .q (.ixs 1 (.t 17) (.t 19))⟩,
 ⟨(some 22), none, .q (.ld false 1 (.t 21))⟩,
 ⟨(some 5), none, .q (.mv (.t 22))⟩])
 (.seq (.seq (.reg [⟨(some 23), none, .q (.mv (.t 5))⟩,
 ⟨(some 24), none, .q (.bin .lss (.t 23) (.c (.int .i64 2)))⟩,
 ⟨(some 25), none, .q (.mv (.t 24))⟩,
 ⟨(some 26), (some (25, false)), .q (.mv (.t 5))⟩,
 ⟨(some 27), (some (25, false)), .q (.bin .gtr (.t 26) (.c (.int .i64 4)))⟩,
 ⟨(some 28), none, .q (.pick (.t 25) (.c (.bool true)) (.t 27))⟩])
 (.cond (.t 28)
 (.seq (.reg [⟨(some 2), none, .q (.mv (.c (.bool false)))⟩])
 .ret)
 .skip))
 (.reg [⟨(some 29), none, .q (.mv (.t 3))⟩,
 ⟨(some 30), none, .q (.mv (.t 5))⟩,
 ⟨(some 31), none, .q (.bin .mul (.t 29) (.t 30))⟩,
 ⟨(some 3), none, .q (.mv (.t 31))⟩]))))
 (.reg [⟨(some 32), none, .q (.bin .add (.t 19) (.c (.int .i64 1)))⟩,
 ⟨(some 19), none, .q (.mv (.t 32))⟩])))))))
 (.seq (.reg [⟨(some 33), none, .q (.mv (.t 3))⟩,
 ⟨(some 34), none, .q (.bin .leq (.t 33) (.c (.int .i64 1024)))⟩,
 ⟨(some 2), none, .q (.mv (.t 34))⟩])
 .ret)))))⟩
theorem l_impl_IsSpace : lowF PA f_impl_IsSpace 1 [.k [3, 17, 18, 19]] = some c_impl_IsSpace := by kernel_rfl
abbrev f_impl_isPlace : FuncId := 43
def c_impl_isPlace : AF := ⟨2, 13, [.t 4],
 (.seq (.reg [⟨(some 2), none, .m (.box (.t 0))⟩,
 ⟨(some 4), none, .q (.mv (.c (.bool false)))⟩])
 (.seq (.reg [⟨(some 5), none, .q (.mv (.t 1))⟩,
 ⟨(some 6), none, .q (.bin .geq (.t 5) (.c (.int .i64 0)))⟩,
 ⟨(some 7), none, .q (.mv (.t 6))⟩,
 ⟨(some 8), (some (7, true)), .q (.mv (.t 1))⟩,
 ⟨(some 9), (some (7, true)), .q (.ld true 1 (.t 2))⟩,
 ⟨(some 10), (some (7, true)), .c (.call 70 [(.t 9)])⟩,
 ⟨(some 11), (some (7, true)), .q (.bin .lss (.t 8) (.t 10))⟩,
 ⟨(some 12), none, .q (.pick (.t 7) (.t 11) (.c (.bool false)))⟩,
 ⟨(some 4), none, .q (.mv (.t 12))⟩])
 .ret))⟩
theorem l_impl_isPlace : lowF PA f_impl_isPlace 2 [] = some c_impl_isPlace := by kernel_rfl
abbrev f_impl_those : FuncId := 44
def c_impl_those : AF := ⟨2, 26, [.t 4],
 (.seq (.reg [⟨(some 2), none, .m (.box (.t 0))⟩,
 ⟨(some 4), none, .q (.mv (.c (.slice none 0 0)))⟩])
 (.seq (.reg [⟨(some 8), none, .m (.bsl 1 [])⟩,
 ⟨(some 5), none, .q (.mv (.t 8))⟩])
 (.seq (.seq (.reg [⟨(some 9), none, .q (.ld true 1 (.t 2))⟩,
 ⟨(some 10), none, .c (.call 55 [(.t 9)])⟩,
 ⟨(some 11), none, .q (.len (.t 10))⟩,
 ⟨(some 12), none, .q (.mv (.c (.int .i64 0)))⟩])
 (.block 0 (.loop [1, 5, 10, 11, 12] (.seq (.reg [⟨(some 13), none, .q (.bin .lss (.t 12) (.t 11))⟩])
 (.seq (.cond (.t 13)
 .skip
 (.exit 0))
 (.seq (.block 1 (.seq (.reg [⟨(some 14), none, .q (.mv (.t 12))⟩,
 ⟨(some 15), none, .q (.ixs 8 (.t 10) (.t 12))⟩,
 ⟨(some 16), none, .q (.ld true 8 (.t 15))⟩,
 ⟨(some 7), none, .m (.alloc [(.v (.int .u8 0)), (.v (.int .u8 0)), (.v (.int .u8 0)), (.v (.int .u8 0)), (.v (.int .u8 0)), (.v (.int .u8 0)), (.v (.int .u8 0)), (.v (.int .u8 0))])⟩,
 ⟨(some 6), none, .q (.mv (.t 14))⟩,
 ⟨none, none, .m (.st true 8 (.t 7) (.t 16))⟩])
 (.seq (.reg [⟨(some 17), none, .q (.mv (.t 1))⟩,
 ⟨(some 18), none, .q (.ld true 8 (.t 7))⟩,
 ⟨(some 19), none, .c (.cav (.t 17) [(.t 18)])⟩])
 (.cond (.t 19)
 (.reg [⟨(some 20), none, .q (.mv (.t 5))⟩,
 ⟨(some 21), none, .q (.mv (.t 6))⟩,
 ⟨(some 22), none, .m (.bsl 1 [(.t 21)])⟩,
 ⟨(some 23), none, .m (.app 1 8 (.t 20) (.t 22))⟩,
 ⟨(some 5), none, .q (.mv (.t 23))⟩])
 .skip))))
 (.reg [⟨(some 24), none, .q (.bin .add (.t 12) (.c (.int .i64 1)))⟩,
 ⟨(some 12), none, .q (.mv (.t 24))⟩])))))))
 (.seq (.reg [⟨(some 25), none, .q (.mv (.t 5))⟩,
 ⟨(some 4), none, .q (.mv (.t 25))⟩])
 .ret))))⟩
theorem l_impl_those : lowF PA f_impl_those 2 [.k [1, 5, 10, 11, 12]] = some c_impl_those := by kernel_rfl
abbrev f_impl_FreeCode_1 : FuncId := 45
def c_impl_FreeCode_1 : AF := ⟨2, 8, [.t 3],
 (.seq (.reg [⟨(some 2), none, .m (.box (.t 0))⟩,
 ⟨(some 3), none, .q (.mv (.c (.bool false)))⟩])
 (.seq (.reg [⟨(some 4), none, .q (.ld false 1 (.t 1))⟩,
 ⟨(some 5), none, .q (.mkf 47 [(.t 2)])⟩,
 ⟨(some 6), none, .c (.call 46 [(.t 4), (.t 5)])⟩,
 ⟨(some 7), none, .q (.un .not (.t 6))⟩,
 ⟨(some 3), none, .q (.mv (.t 7))⟩])
 .ret))⟩
theorem l_impl_FreeCode_1 : lowF PA f_impl_FreeCode_1 2 [] = some c_impl_FreeCode_1 := by kernel_rfl
abbrev f_slices_ContainsFunc___int64_int64_ : FuncId := 46
def c_slices_ContainsFunc___int64_int64_ : AF := ⟨2, 9, [.t 4],
 (.seq (.reg [⟨(some 4), none, .q (.mv (.c (.bool false)))⟩])
 (.seq (.reg [⟨(some 5), none, .q (.mv (.t 0))⟩,
 ⟨(some 6), none, .q (.mv (.t 1))⟩,
 ⟨(some 7), none, .c (.call 72 [(.t 5), (.t 6)])⟩,
 ⟨(some 8), none, .q (.bin .geq (.t 7) (.c (.int .i64 0)))⟩,
 ⟨(some 4), none, .q (.mv (.t 8))⟩])
 .ret))⟩
theorem l_slices_ContainsFunc___int64_int64_ : lowF PA f_slices_ContainsFunc___int64_int64_ 2 [] = some c_slices_ContainsFunc___int64_int64_ := by kernel_rfl
abbrev f_impl_FreeCode_1_1 : FuncId := 47
def c_impl_FreeCode_1_1 : AF := ⟨2, 8, [.t 3],
 (.seq (.reg [⟨(some 3), none, .q (.mv (.c (.bool false)))⟩])
 (.seq (.reg [⟨(some 4), none, .q (.mv (.t 0))⟩,
 ⟨(some 5), none, .q (.ixa 8 1 (.t 1) (.t 4))⟩,
 ⟨(some 6), none, .q (.ld false 1 (.t 5))⟩,
 ⟨(some 7), none, .q (.bin .neq (.t 6) (.c (.int .u8 0)))⟩,
 ⟨(some 3), none, .q (.mv (.t 7))⟩])
 .ret))⟩
theorem l_impl_FreeCode_1_1 : lowF PA f_impl_FreeCode_1_1 2 [] = some c_impl_FreeCode_1_1 := by kernel_rfl
abbrev f_spec_l01Is : FuncId := 48
def c_spec_l01Is : AF := ⟨1, 26, [.t 2],
 (.seq (.reg [⟨(some 1), none, .m (.box (.t 0))⟩,
 ⟨(some 2), none, .q (.mv (.c (.bool false)))⟩])
 (.seq (.seq (.reg [⟨(some 4), none, .q (.fad 0 (.t 1))⟩,
 ⟨(some 5), none, .q (.ld false 1 (.t 4))⟩,
 ⟨(some 6), none, .q (.len (.t 5))⟩,
 ⟨(some 7), none, .c (.call 49 [(.t 6), (.c (.int .i64 1)), (.c (.int .i64 8))])⟩,
 ⟨(some 8), none, .q (.un .not (.t 7))⟩])
 (.cond (.t 8)
 (.seq (.reg [⟨(some 2), none, .q (.mv (.c (.bool false)))⟩])
 .ret)
 .skip))
 (.seq (.seq (.reg [⟨(some 3), none, .q (.mv (.c (.int .i64 0)))⟩])
 (.block 0 (.loop [1, 3] (.seq (.seq (.reg [⟨(some 9), none, .q (.mv (.t 3))⟩,
 ⟨(some 10), none, .q (.fad 0 (.t 1))⟩,
 ⟨(some 11), none, .q (.ld false 1 (.t 10))⟩,
 ⟨(some 12), none, .q (.len (.t 11))⟩,
 ⟨(some 13), none, .q (.bin .lss (.t 9) (.t 12))⟩])
 (.cond (.t 13)
 .skip
 (.exit 0)))
 (.seq (.block 1 (.seq (.reg [⟨(some 16), none, .q (.fad 0 (.t 1))⟩,
 ⟨(some 17), none, .q (.ld false 1 (.t 16))⟩,
 ⟨(some 18), none, .q (.mv (.t 3))⟩,
 ⟨(some 19), none, .q (.ixs 1 (.t 17) (.t 18))⟩,
 ⟨(some 20), none, .q (.ld false 1 (.t 19))⟩,
 ⟨(some 21), none, .c (.call 49 [(.t 20), (.c (.int .i64 2)), (.c (.int .i64 4))])⟩,
 ⟨(some 22), none, .q (.un .not (.t 21))⟩])
 (.cond (.t 22)
 (.seq (.reg [⟨(some 2), none, .q (.mv (.c (.bool false)))⟩])
 .ret)
 .skip)))
 (.reg [⟨(some 14), none, .q (.mv (.t 3))⟩,
 ⟨(some 15), none, .q (.bin .add (.t 14) (.c (.int .i64 1)))⟩,
 ⟨(some 3), none, .q (.mv (.t 15))⟩]))))))
 (.seq (.reg [⟨(some 23), none, .q (.ld true 1 (.t 1))⟩,
 ⟨(some 24), none, .c (.call 34 [(.t 23)])⟩,
 ⟨(some 25), none, .q (.bin .leq (.t 24) (.c (.int .i64 1024)))⟩,
 ⟨(some 2), none, .q (.mv (.t 25))⟩])
 .ret))))⟩
theorem l_spec_l01Is : lowF PA f_spec_l01Is 1 [.k [1, 3]] = some c_spec_l01Is := by kernel_rfl
abbrev f_spec_l01In : FuncId := 49
def c_spec_l01In : AF := ⟨3, 15, [.t 6],
 (.seq (.reg [⟨(some 6), none, .q (.mv (.c (.bool false)))⟩])
 (.seq (.reg [⟨(some 7), none, .q (.mv (.t 0))⟩,
 ⟨(some 8), none, .q (.mv (.t 1))⟩,
 ⟨(some 9), none, .q (.bin .geq (.t 7) (.t 8))⟩,
 ⟨(some 10), none, .q (.mv (.t 9))⟩,
 ⟨(some 11), (some (10, true)), .q (.mv (.t 0))⟩,
 ⟨(some 12), (some (10, true)), .q (.mv (.t 2))⟩,
 ⟨(some 13), (some (10, true)), .q (.bin .leq (.t 11) (.t 12))⟩,
 ⟨(some 14), none, .q (.pick (.t 10) (.t 13) (.c (.bool false)))⟩,
 ⟨(some 6), none, .q (.mv (.t 14))⟩])
 .ret))⟩
theorem l_spec_l01In : lowF PA f_spec_l01In 3 [] = some c_spec_l01In := by kernel_rfl
abbrev f_spec_l01Digits : FuncId := 50
def c_spec_l01Digits : AF := ⟨2, 37, [.t 4],
 (.seq (.reg [⟨(some 2), none, .m (.box (.t 0))⟩,
 ⟨(some 4), none, .q (.mv (.c (.slice none 0 0)))⟩])
 (.seq (.reg [⟨(some 7), none, .q (.fad 0 (.t 2))⟩,
 ⟨(some 8), none, .q (.ld false 1 (.t 7))⟩,
 ⟨(some 9), none, .q (.len (.t 8))⟩,
 ⟨(some 10), none, .m (.mks 1 (.v (.int .i64 0)) 8 (.t 9) (.t 9))⟩,
 ⟨(some 5), none, .q (.mv (.t 10))⟩])
 (.seq (.seq (.reg [⟨(some 11), none, .q (.fad 0 (.t 2))⟩,
 ⟨(some 12), none, .q (.ld false 1 (.t 11))⟩,
 ⟨(some 13), none, .q (.len (.t 12))⟩,
 ⟨(some 14), none, .q (.bin .sub (.t 13) (.c (.int .i64 1)))⟩,
 ⟨(some 6), none, .q (.mv (.t 14))⟩])
 (.block 0 (.loop [1, 2, 5, 6] (.seq (.seq (.reg [⟨(some 15), none, .q (.mv (.t 6))⟩,
 ⟨(some 16), none, .q (.bin .geq (.t 15) (.c (.int .i64 0)))⟩])
 (.cond (.t 16)
 .skip
 (.exit 0)))
 (.seq (.block 1 (.seq (.reg [⟨(some 19), none, .q (.mv (.t 5))⟩,
 ⟨(some 20), none, .q (.mv (.t 6))⟩,
 ⟨(some 21), none, .q (.mv (.t 1))⟩,
 ⟨(some 22), none, .q (.fad 0 (.t 2))⟩,
 ⟨(some 23), none, .q (.ld false 1 (.t 22))⟩,
 ⟨(some 24), none, .q (.mv (.t 6))⟩,
 ⟨(some 25), none, .q (.ixs 1 (.t 23) (.t 24))⟩,
 ⟨(some 26), none, .q (.ld false 1 (.t 25))⟩,
 ⟨(some 27), none, .q (.bin .rem (.t 21) (.t 26))⟩,
 ⟨(some 28), none, .q (.ixs 1 (.t 19) (.t 20))⟩,
 ⟨none, none, .m (.st false 1 (.t 28) (.t 27))⟩])
 (.reg [⟨(some 29), none, .q (.mv (.t 1))⟩,
 ⟨(some 30), none, .q (.fad 0 (.t 2))⟩,
 ⟨(some 31), none, .q (.ld false 1 (.t 30))⟩,
 ⟨(some 32), none, .q (.mv (.t 6))⟩,
 ⟨(some 33), none, .q (.ixs 1 (.t 31) (.t 32))⟩,
 ⟨(some 34), none, .q (.ld false 1 (.t 33))⟩,
 ⟨(some 35), none, .q (.bin .quo (.t 29) (.t 34))⟩,
 ⟨(some 1), none, .q (.mv (.t 35))⟩])))
 (.reg [⟨(some 17), none, .q (.mv (.t 6))⟩,
 ⟨(some 18), none, .q (.bin .sub (.t 17) (.c (.int .i64 1)))⟩,
 ⟨(some 6), none, .q (.mv (.t 18))⟩]))))))
 (.seq (.reg [⟨(some 36), none, .q (.mv (.t 5))⟩,
 ⟨(some 4), none, .q (.mv (.t 36))⟩])
 .ret))))⟩
theorem l_spec_l01Digits : lowF PA f_spec_l01Digits 2 [.k [1, 2, 5, 6]] = some c_spec_l01Digits := by kernel_rfl
abbrev f_impl_someCode : FuncId := 51
def c_impl_someCode : AF := ⟨3, 18, [.t 6],
 (.seq (.reg [⟨(some 3), none, .m (.box (.t 0))⟩,
 ⟨(some 6), none, .q (.mv (.c (.int .i64 0)))⟩])
 (.seq (.seq (.reg [⟨(some 8), none, .q (.ld true 1 (.t 3))⟩,
 ⟨(some 9), none, .q (.mv (.t 1))⟩,
 ⟨(some 10), none, .q (.mv (.t 2))⟩,
 ⟨(some 11), none, .c (.call 73 [(.t 8), (.t 9), (.t 10)])⟩,
 ⟨(some 7), none, .q (.mv (.t 11))⟩])
 (.seq (.reg [⟨(some 12), none, .q (.mv (.t 7))⟩,
 ⟨(some 13), none, .q (.bin .neq (.t 12) (.c (.int .i64 0)))⟩])
 (.cond (.t 13)
 (.seq (.reg [⟨(some 14), none, .q (.mv (.t 7))⟩,
 ⟨(some 6), none, .q (.mv (.t 14))⟩])
 .ret)
 .skip)))
 (.seq (.seq (.reg [⟨(some 15), none, .q (.mv (.t 1))⟩,
 ⟨(some 16), none, .q (.len (.t 15))⟩,
 ⟨(some 17), none, .q (.bin .eql (.t 16) (.c (.int .i64 0)))⟩])
 (.cond (.t 17)
 (.seq (.reg [⟨(some 6), none, .q (.mv (.c (.int .i64 5)))⟩])
 .ret)
 .skip))
 (.seq (.reg [⟨(some 6), none, .q (.mv (.c (.int .i64 0)))⟩])
 .ret))))⟩
theorem l_impl_someCode : lowF PA f_impl_someCode 3 [] = some c_impl_someCode := by kernel_rfl
abbrev f_impl_radius : FuncId := 52
def c_impl_radius : AF := ⟨2, 9, [.t 4],
 (.seq (.reg [⟨(some 2), none, .m (.box (.t 0))⟩,
 ⟨(some 4), none, .q (.mv (.c (.int .i64 0)))⟩])
 (.seq (.reg [⟨(some 5), none, .q (.ld true 1 (.t 2))⟩,
 ⟨(some 6), none, .q (.mv (.t 1))⟩,
 ⟨(some 7), none, .c (.call 75 [(.t 5), (.t 6)])⟩,
 ⟨(some 8), none, .c (.call 74 [(.t 7)])⟩,
 ⟨(some 4), none, .q (.mv (.t 8))⟩])
 .ret))⟩
theorem l_impl_radius : lowF PA f_impl_radius 2 [] = some c_impl_radius := by kernel_rfl
abbrev f_impl_coverCode : FuncId := 53
def c_impl_coverCode : AF := ⟨3, 17, [.t 6],
 (.seq (.reg [⟨(some 3), none, .m (.box (.t 0))⟩,
 ⟨(some 6), none, .q (.mv (.c (.int .i64 0)))⟩])
 (.seq (.seq (.reg [⟨(some 8), none, .q (.ld true 1 (.t 3))⟩,
 ⟨(some 9), none, .q (.mv (.t 1))⟩,
 ⟨(some 10), none, .c (.call 73 [(.t 8), (.t 9), (.c (.slice none 0 0))])⟩,
 ⟨(some 7), none, .q (.mv (.t 10))⟩])
 (.seq (.reg [⟨(some 11), none, .q (.mv (.t 7))⟩,
 ⟨(some 12), none, .q (.bin .neq (.t 11) (.c (.int .i64 0)))⟩])
 (.cond (.t 12)
 (.seq (.reg [⟨(some 13), none, .q (.mv (.t 7))⟩,
 ⟨(some 6), none, .q (.mv (.t 13))⟩])
 .ret)
 .skip)))
 (.seq (.seq (.reg [⟨(some 14), none, .q (.mv (.t 2))⟩,
 ⟨(some 15), none, .c (.call 66 [(.t 14)])⟩,
 ⟨(some 16), none, .q (.un .not (.t 15))⟩])
 (.cond (.t 16)
 (.seq (.reg [⟨(some 6), none, .q (.mv (.c (.int .i64 2)))⟩])
 .ret)
 .skip))
 (.seq (.reg [⟨(some 6), none, .q (.mv (.c (.int .i64 0)))⟩])
 .ret))))⟩
theorem l_impl_coverCode : lowF PA f_impl_coverCode 3 [] = some c_impl_coverCode := by kernel_rfl
abbrev f_impl_covers : FuncId := 54
def c_impl_covers : AF := ⟨3, 13, [.t 6],
 (.seq (.reg [⟨(some 3), none, .m (.box (.t 0))⟩,
 ⟨(some 6), none, .q (.mv (.c (.bool false)))⟩])
 (.seq (.reg [⟨(some 7), none, .q (.ld true 1 (.t 3))⟩,
 ⟨(some 8), none, .q (.mv (.t 1))⟩,
 ⟨(some 9), none, .q (.mv (.t 2))⟩,
 ⟨(some 10), none, .c (.call 77 [(.t 7), (.t 8), (.t 9)])⟩,
 ⟨(some 11), none, .c (.call 76 [(.t 10), (.c (.int .i64 0))])⟩,
 ⟨(some 12), none, .q (.un .not (.t 11))⟩,
 ⟨(some 6), none, .q (.mv (.t 12))⟩])
 .ret))⟩
theorem l_impl_covers : lowF PA f_impl_covers 3 [] = some c_impl_covers := by kernel_rfl
abbrev f_impl_allDigits : FuncId := 55
def c_impl_allDigits : AF := ⟨1, 19, [.t 2],
 (.seq (.reg [⟨(some 1), none, .m (.box (.t 0))⟩,
 ⟨(some 2), none, .q (.mv (.c (.slice none 0 0)))⟩])
 (.seq (.reg [⟨(some 5), none, .m (.bsl 8 [])⟩,
 ⟨(some 3), none, .q (.mv (.t 5))⟩])
 (.seq (.seq (.reg [⟨(some 6), none, .q (.ld true 1 (.t 1))⟩,
 ⟨(some 7), none, .c (.call 30 [(.t 6)])⟩,
 ⟨(some 8), none, .q (.mv (.c (.int .i64 0)))⟩])
 (.block 0 (.loop [1, 3, 7, 8] (.seq (.reg [⟨(some 9), none, .q (.bin .lss (.t 8) (.t 7))⟩])
 (.seq (.cond (.t 9)
 .skip
 (.exit 0))
 (.seq (.block 1 (.seq (.reg [⟨(some 10), none, .q (.mv (.t 8))⟩,
 ⟨(some 4), none, .q (.mv (.t 10))⟩])
 (.reg [⟨(some 11), none, .q (.mv (.t 3))⟩,
 ⟨(some 12), none, .q (.ld true 1 (.t 1))⟩,
 ⟨(some 13), none, .q (.mv (.t 4))⟩,
 ⟨(some 14), none, .c (.call 67 [(.t 12), (.t 13)])⟩,
 ⟨(some 15), none, .m (.bsl 8 [(.t 14)])⟩,
 ⟨(some 16), none, .m (.app 8 8 (.t 11) (.t 15))⟩,
 ⟨(some 3), none, .q (.mv (.t 16))⟩])))
 (.reg [⟨(some 17), none, .q (.bin .add (.t 8) (.c (.int .i64 1)))⟩,
 ⟨(some 8), none, .q (.mv (.t 17))⟩])))))))
 (.seq (.reg [⟨(some 18), none, .q (.mv (.t 3))⟩,
 ⟨(some 2), none, .q (.mv (.t 18))⟩])
 .ret))))⟩
theorem l_impl_allDigits : lowF PA f_impl_allDigits 1 [.k [1, 3, 7, 8]] = some c_impl_allDigits := by kernel_rfl
abbrev f_slices_Repeat___int64_int64_ : FuncId := 56
def c_slices_Repeat___int64_int64_ : AF := ⟨2, 48, [.t 4],
 (.seq (.reg [⟨(some 4), none, .q (.mv (.c (.slice none 0 0)))⟩])
 (.seq (.seq (.reg [⟨(some 9), none, .q (.mv (.t 1))⟩,
 ⟨(some 10), none, .q (.bin .lss (.t 9) (.c (.int .i64 0)))⟩])
 (.cond (.t 10)
 .bad
 .skip))
 (.seq (.reg [⟨(some 13), none, .q (.mv (.t 0))⟩,
 ⟨(some 14), none, .q (.len (.t 13))⟩,
 ⟨(some 15), none, .q (.cvt .u64 (.t 14))⟩,
 ⟨(some 16), none, .q (.mv (.t 1))⟩,
 ⟨(some 17), none, .q (.cvt .u64 (.t 16))⟩,
 ⟨(some 18), none, .c (.call 78 [(.t 15), (.t 17)])⟩,
 ⟨(some 12), none, .q (.mv (.t 18))⟩,
 ⟨(some 19), none, .q (.ext (.t 12) 0)⟩,
 ⟨(some 20), none, .q (.ext (.t 12) 1)⟩,
 ⟨(some 5), none, .q (.mv (.t 19))⟩,
 ⟨(some 6), none, .q (.mv (.t 20))⟩])
 (.seq (.seq (.reg [⟨(some 21), none, .q (.mv (.t 5))⟩,
 ⟨(some 22), none, .q (.bin .gtr (.t 21) (.c (.int .u64 0)))⟩,
 ⟨(some 23), none, .q (.mv (.t 22))⟩,
 ⟨(some 24), (some (23, false)), .q (.mv (.t 6))⟩,
 ⟨(some 25), (some (23, false)), .q (.bin .gtr (.t 24) (.c (.int .u64 9223372036854775807)))⟩,
 ⟨(some 26), none, .q (.pick (.t 23) (.c (.bool true)) (.t 25))⟩])
 (.cond (.t 26)
 .bad
 .skip))
 (.seq (.reg [⟨(some 28), none, .q (.mv (.t 6))⟩,
 ⟨(some 29), none, .q (.cvt .i64 (.t 28))⟩,
 ⟨(some 30), none, .m (.mks 1 (.v (.int .i64 0)) 8 (.t 29) (.t 29))⟩,
 ⟨(some 7), none, .q (.mv (.t 30))⟩])
 (.seq (.reg [⟨(some 31), none, .q (.mv (.t 7))⟩,
 ⟨(some 32), none, .q (.mv (.t 0))⟩,
 ⟨(some 33), none, .m (.cpy 1 (.t 31) (.t 32))⟩,
 ⟨(some 8), none, .q (.mv (.t 33))⟩])
 (.seq (.block 0 (.loop [7, 8] (.seq (.seq (.reg [⟨(some 34), none, .q (.mv (.t 8))⟩,
 ⟨(some 35), none, .q (.mv (.t 7))⟩,
 ⟨(some 36), none, .q (.len (.t 35))⟩,
 ⟨(some 37), none, .q (.bin .lss (.t 34) (.t 36))⟩])
 (.cond (.t 37)
 .skip
 (.exit 0)))
 (.block 1 (.sch (.take 0 ⟨(some 38), none, .q (.mv (.t 8))⟩ (.take 1 ⟨(some 39), none, .q (.mv (.t 7))⟩ (.take 2 ⟨(some 40), none, .q (.mv (.t 8))⟩ (.take 3 ⟨(some 41), none, .q (.slc 1 (.t 39) (some (.t 40)) none)⟩ (.take 4 ⟨(some 42), none, .q (.mv (.t 7))⟩ (.take 5 ⟨(some 43), none, .q (.mv (.t 8))⟩ (.take 6 ⟨(some 44), none, .q (.slc 1 (.t 42) none (some (.t 43)))⟩ (.one ⟨(some 45), none, .m (.cpy 1 (.t 41) (.t 44))⟩ [] (.take 8 ⟨(some 46), none, .q (.bin .add (.t 38) (.t 45))⟩ (.take 9 ⟨(some 8), none, .q (.mv (.t 46))⟩ .done)))))))))))))))
 (.seq (.reg [⟨(some 47), none, .q (.mv (.t 7))⟩,
 ⟨(some 4), none, .q (.mv (.t 47))⟩])
 .ret))))))))⟩
theorem l_slices_Repeat___int64_int64_ : lowF PA f_slices_Repeat___int64_int64_ 2 [.x 2, .x 5, .k [7, 8], .s (.take 0 (.take 1 (.take 2 (.take 3 (.take 4 (.take 5 (.take 6 (.one 7 (.take 8 (.take 9 .done))))))))))] = some c_slices_Repeat___int64_int64_ := by kernel_rfl
abbrev f_slices_Sort___int64_int64_ : FuncId := 57
def c_slices_Sort___int64_int64_ : AF := ⟨1, 11, [],
 (.seq (.reg [⟨(some 3), none, .q (.mv (.t 0))⟩,
 ⟨(some 4), none, .q (.len (.t 3))⟩,
 ⟨(some 2), none, .q (.mv (.t 4))⟩])
 (.reg [⟨(some 5), none, .q (.mv (.t 0))⟩,
 ⟨(some 6), none, .q (.mv (.t 2))⟩,
 ⟨(some 7), none, .q (.mv (.t 2))⟩,
 ⟨(some 8), none, .q (.cvt .u64 (.t 7))⟩,
 ⟨(some 9), none, .c (.call 80 [(.t 8)])⟩,
 ⟨(some 10), none, .c (.call 79 [(.t 5), (.c (.int .i64 0)), (.t 6), (.t 9)])⟩]))⟩
theorem l_slices_Sort___int64_int64_ : lowF PA f_slices_Sort___int64_int64_ 1 [] = some c_slices_Sort___int64_int64_ := by kernel_rfl
abbrev f_impl_far : FuncId := 58
def c_impl_far : AF := ⟨2, 22, [.t 4],
 (.seq (.reg [⟨(some 2), none, .m (.box (.t 0))⟩,
 ⟨(some 3), none, .m (.box (.t 1))⟩,
 ⟨(some 4), none, .q (.mv (.c (.int .i64 0)))⟩])
 (.seq (.reg [⟨(some 5), none, .q (.mv (.c (.int .i64 0)))⟩])
 (.seq (.seq (.reg [⟨(some 8), none, .q (.ld true 8 (.t 2))⟩,
 ⟨(some 9), none, .q (.mv (.c (.int .i64 0)))⟩])
 (.block 0 (.loop [3, 5, 8, 9] (.seq (.reg [⟨(some 10), none, .q (.bin .lss (.t 9) (.c (.int .i64 8)))⟩])
 (.seq (.cond (.t 10)
 .skip
 (.exit 0))
 (.seq (.block 1 (.seq (.reg [⟨(some 11), none, .q (.mv (.t 9))⟩,
 ⟨(some 12), none, .q (.ixv 8 (.t 8) (.t 9))⟩,
 ⟨(some 6), none, .q (.mv (.t 11))⟩,
 ⟨(some 7), none, .q (.mv (.t 12))⟩])
 (.seq (.reg [⟨(some 13), none, .q (.mv (.t 7))⟩,
 ⟨(some 14), none, .q (.mv (.t 6))⟩,
 ⟨(some 15), none, .q (.ixa 8 1 (.t 3) (.t 14))⟩,
 ⟨(some 16), none, .q (.ld false 1 (.t 15))⟩,
 ⟨(some 17), none, .q (.bin .neq (.t 13) (.t 16))⟩])
 (.cond (.t 17)
 (.reg [⟨(some 18), none, .q (.mv (.t 5))⟩,
 ⟨(some 19), none, .q (.bin .add (.t 18) (.c (.int .i64 1)))⟩,
 ⟨(some 5), none, .q (.mv (.t 19))⟩])
 .skip))))
 (.reg [⟨(some 20), none, .q (.bin .add (.t 9) (.c (.int .i64 1)))⟩,
 ⟨(some 9), none, .q (.mv (.t 20))⟩])))))))
 (.seq (.reg [⟨(some 21), none, .q (.mv (.t 5))⟩,
 ⟨(some 4), none, .q (.mv (.t 21))⟩])
 .ret))))⟩
theorem l_impl_far : lowF PA f_impl_far 2 [.k [3, 5, 8, 9]] = some c_impl_far := by kernel_rfl
abbrev f_spec_l01Own : FuncId := 59
def c_spec_l01Own : AF := ⟨1, 6, [.t 2],
 (.seq (.reg [⟨(some 2), none, .q (.mv (.c (.slice none 0 0)))⟩])
 (.seq (.reg [⟨(some 3), none, .m (.bsl 1 [])⟩,
 ⟨(some 4), none, .q (.mv (.t 0))⟩,
 ⟨(some 5), none, .m (.app 1 8 (.t 3) (.t 4))⟩,
 ⟨(some 2), none, .q (.mv (.t 5))⟩])
 .ret))⟩
theorem l_spec_l01Own : lowF PA f_spec_l01Own 1 [] = some c_spec_l01Own := by kernel_rfl
abbrev f_spec_l01Near : FuncId := 60
def c_spec_l01Near : AF := ⟨2, 17, [.t 4],
 (.seq (.reg [⟨(some 4), none, .q (.mv (.c (.int .i64 0)))⟩])
 (.seq (.seq (.reg [⟨(some 5), none, .q (.mv (.t 0))⟩,
 ⟨(some 6), none, .c (.call 39 [(.t 5), (.c (.int .i64 14))])⟩,
 ⟨(some 7), none, .q (.bin .eql (.t 6) (.c (.int .i64 0)))⟩])
 (.cond (.t 7)
 (.seq (.reg [⟨(some 8), none, .q (.mv (.t 0))⟩,
 ⟨(some 9), none, .q (.mv (.t 1))⟩,
 ⟨(some 10), none, .q (.bin .add (.t 9) (.c (.int .i64 1)))⟩,
 ⟨(some 11), none, .m (.bsl 1 [(.c (.int .i64 (-1))), (.t 10), (.c (.int .i64 1099511627776)), (.c (.int .i64 (-4611686018427387904)))])⟩,
 ⟨(some 12), none, .c (.call 40 [(.t 8), (.t 11)])⟩,
 ⟨(some 4), none, .q (.mv (.t 12))⟩])
 .ret)
 .skip))
 (.seq (.reg [⟨(some 13), none, .q (.mv (.t 0))⟩,
 ⟨(some 14), none, .q (.mv (.t 1))⟩,
 ⟨(some 15), none, .q (.bin .add (.t 14) (.c (.int .i64 1)))⟩,
 ⟨(some 16), none, .c (.call 39 [(.t 13), (.t 15)])⟩,
 ⟨(some 4), none, .q (.mv (.t 16))⟩])
 .ret)))⟩
theorem l_spec_l01Near : lowF PA f_spec_l01Near 2 [] = some c_spec_l01Near := by kernel_rfl
abbrev f_impl_nearSets : FuncId := 61
def c_impl_nearSets : AF := ⟨2, 36, [.t 4],
 (.seq (.reg [⟨(some 2), none, .m (.box (.t 0))⟩,
 ⟨(some 4), none, .q (.mv (.c (.slice none 0 0)))⟩])
 (.seq (.reg [⟨(some 10), none, .m (.bsl 1 [])⟩,
 ⟨(some 5), none, .q (.mv (.t 10))⟩])
 (.seq (.seq (.reg [⟨(some 11), none, .q (.ld true 1 (.t 2))⟩,
 ⟨(some 12), none, .c (.call 30 [(.t 11)])⟩,
 ⟨(some 13), none, .q (.mv (.c (.int .i64 0)))⟩])
 (.block 0 (.loop [1, 2, 5, 12, 13] (.seq (.reg [⟨(some 14), none, .q (.bin .lss (.t 13) (.t 12))⟩])
 (.seq (.cond (.t 14)
 .skip
 (.exit 0))
 (.seq (.block 1 (.seq (.reg [⟨(some 15), none, .q (.mv (.t 13))⟩,
 ⟨(some 6), none, .q (.mv (.t 15))⟩])
 (.seq (.reg [⟨(some 7), none, .q (.mv (.c (.int .u64 0)))⟩])
 (.seq (.seq (.reg [⟨(some 16), none, .q (.ld true 1 (.t 2))⟩,
 ⟨(some 17), none, .q (.mv (.t 6))⟩,
 ⟨(some 18), none, .q (.mv (.t 1))⟩,
 ⟨(some 19), none, .c (.call 31 [(.t 16), (.t 17), (.t 18)])⟩,
 ⟨(some 20), none, .q (.len (.t 19))⟩,
 ⟨(some 21), none, .q (.mv (.c (.int .i64 0)))⟩])
 (.block 2 (.loop [1, 2, 5, 7, 12, 13, 19, 20, 21] (.seq (.reg [⟨(some 22), none, .q (.bin .lss (.t 21) (.t 20))⟩])
 (.seq (.cond (.t 22)
 .skip
 (.exit 2))
 (.seq (.block 3 (.seq (.reg [⟨(some 23), none, .q (.ixs 1 (.t 19) (.t 21))⟩,
 ⟨(some 24), none, .q (.ld false 1 (.t 23))⟩,
 ⟨(some 9), none, .q (.mv (.t 24))⟩])
 (.reg [⟨(some 25), none, .q (.mv (.t 7))⟩,
 ⟨(some 26), none, .q (.mv (.t 9))⟩,
 ⟨(some 27), none, .q (.bin .shl (.c (.int .u64 1)) (.t 26))⟩,
 ⟨(some 28), none, .q (.bin .or (.t 25) (.t 27))⟩,
 ⟨(some 7), none, .q (.mv (.t 28))⟩])))
 (.reg [⟨(some 29), none, .q (.bin .add (.t 21) (.c (.int .i64 1)))⟩,
 ⟨(some 21), none, .q (.mv (.t 29))⟩])))))))
 (.reg [⟨(some 30), none, .q (.mv (.t 5))⟩,
 ⟨(some 31), none, .q (.mv (.t 7))⟩,
 ⟨(some 32), none, .m (.bsl 1 [(.t 31)])⟩,
 ⟨(some 33), none, .m (.app 1 8 (.t 30) (.t 32))⟩,
 ⟨(some 5), none, .q (.mv (.t 33))⟩])))))
 (.reg [⟨(some 34), none, .q (.bin .add (.t 13) (.c (.int .i64 1)))⟩,
 ⟨(some 13), none, .q (.mv (.t 34))⟩])))))))
 (.seq (.reg [⟨(some 35), none, .q (.mv (.t 5))⟩,
 ⟨(some 4), none, .q (.mv (.t 35))⟩])
 .ret))))⟩
theorem l_impl_nearSets : lowF PA f_impl_nearSets 2 [.k [1, 2, 5, 12, 13], .k [1, 2, 5, 7, 12, 13, 19, 20, 21]] = some c_impl_nearSets := by kernel_rfl
abbrev f_math_bits_OnesCount64 : FuncId := 62
def c_math_bits_OnesCount64 : AF := ⟨1, 35, [.t 2],
 (.seq (.reg [⟨(some 2), none, .q (.mv (.c (.int .i64 0)))⟩])
 (.seq (.reg [⟨(some 3), none, .q (.mv (.t 0))⟩,
 ⟨(some 4), none, .q (.bin .shr (.t 3) (.c (.int .u64 1)))⟩,
 ⟨(some 5), none, .q (.bin .and (.t 4) (.c (.int .u64 6148914691236517205)))⟩,
 ⟨(some 6), none, .q (.mv (.t 0))⟩,
 ⟨(some 7), none, .q (.bin .and (.t 6) (.c (.int .u64 6148914691236517205)))⟩,
 ⟨(some 8), none, .q (.bin .add (.t 5) (.t 7))⟩,
 ⟨(some 0), none, .q (.mv (.t 8))⟩])
 (.seq (.reg [⟨(some 9), none, .q (.mv (.t 0))⟩,
 ⟨(some 10), none, .q (.bin .shr (.t 9) (.c (.int .u64 2)))⟩,
 ⟨(some 11), none, .q (.bin .and (.t 10) (.c (.int .u64 3689348814741910323)))⟩,
 ⟨(some 12), none, .q (.mv (.t 0))⟩,
 ⟨(some 13), none, .q (.bin .and (.t 12) (.c (.int .u64 3689348814741910323)))⟩,
 ⟨(some 14), none, .q (.bin .add (.t 11) (.t 13))⟩,
 ⟨(some 0), none, .q (.mv (.t 14))⟩])
 (.seq (.reg [⟨(some 15), none, .q (.mv (.t 0))⟩,
 ⟨(some 16), none, .q (.bin .shr (.t 15) (.c (.int .u64 4)))⟩,
 ⟨(some 17), none, .q (.mv (.t 0))⟩,
 ⟨(some 18), none, .q (.bin .add (.t 16) (.t 17))⟩,
 ⟨(some 19), none, .q (.bin .and (.t 18) (.c (.int .u64 1085102592571150095)))⟩,
 ⟨(some 0), none, .q (.mv (.t 19))⟩])
 (.seq (.reg [⟨(some 20), none, .q (.mv (.t 0))⟩,
 ⟨(some 21), none, .q (.mv (.t 0))⟩,
 ⟨(some 22), none, .q (.bin .shr (.t 21) (.c (.int .u64 8)))⟩,
 ⟨(some 23), none, .q (.bin .add (.t 20) (.t 22))⟩,
 ⟨(some 0), none, .q (.mv (.t 23))⟩])
 (.seq (.reg [⟨(some 24), none, .q (.mv (.t 0))⟩,
 ⟨(some 25), none, .q (.mv (.t 0))⟩,
 ⟨(some 26), none, .q (.bin .shr (.t 25) (.c (.int .u64 16)))⟩,
 ⟨(some 27), none, .q (.bin .add (.t 24) (.t 26))⟩,
 ⟨(some 0), none, .q (.mv (.t 27))⟩])
 (.seq (.reg [⟨(some 28), none, .q (.mv (.t 0))⟩,
 ⟨(some 29), none, .q (.mv (.t 0))⟩,
 ⟨(some 30), none, .q (.bin .shr (.t 29) (.c (.int .u64 32)))⟩,
 ⟨(some 31), none, .q (.bin .add (.t 28) (.t 30))⟩,
 ⟨(some 0), none, .q (.mv (.t 31))⟩])
 (.seq (.reg [⟨(some 32), none, .q (.mv (.t 0))⟩,
 ⟨(some 33), none, .q (.cvt .i64 (.t 32))⟩,
 ⟨(some 34), none, .q (.bin .and (.t 33) (.c (.int .i64 127)))⟩,
 ⟨(some 2), none, .q (.mv (.t 34))⟩])
 .ret))))))))⟩
theorem l_math_bits_OnesCount64 : lowF PA f_math_bits_OnesCount64 1 [] = some c_math_bits_OnesCount64 := by kernel_rfl
abbrev f_impl_firstCover_1 : FuncId := 63
def c_impl_firstCover_1 : AF := ⟨8, 56, [.t 10],
 (.seq (.reg [⟨(some 10), none, .q (.mv (.c (.bool false)))⟩])
 (.seq (.reg [⟨(some 13), none, .q (.ld false 1 (.t 2))⟩,
 ⟨(some 14), none, .q (.ld false 1 (.t 3))⟩,
 ⟨(some 15), none, .q (.len (.t 14))⟩,
 ⟨(some 16), none, .q (.bin .sub (.t 13) (.t 15))⟩,
 ⟨(some 11), none, .q (.mv (.t 16))⟩])
 (.seq (.seq (.reg [⟨(some 17), none, .q (.mv (.t 1))⟩,
 ⟨(some 18), none, .q (.ld false 1 (.t 4))⟩,
 ⟨(some 19), none, .q (.bin .eql (.t 17) (.t 18))⟩])
 (.cond (.t 19)
 (.seq (.reg [⟨(some 20), none, .q (.mv (.t 11))⟩,
 ⟨(some 21), none, .q (.bin .eql (.t 20) (.c (.int .i64 0)))⟩,
 ⟨(some 10), none, .q (.mv (.t 21))⟩])
 .ret)
 .skip))
 (.seq (.seq (.sch (.take 0 ⟨(some 22), none, .q (.ld false 1 (.t 4))⟩ (.take 1 ⟨(some 23), none, .q (.mv (.t 1))⟩ (.take 2 ⟨(some 24), none, .q (.bin .andNot (.t 22) (.t 23))⟩ (.take 4 ⟨(some 26), none, .q (.mv (.t 11))⟩ (.take 5 ⟨(some 27), none, .q (.ld false 1 (.t 5))⟩ (.take 6 ⟨(some 28), none, .q (.bin .mul (.t 26) (.t 27))⟩ (.one ⟨(some 25), none, .c (.call 62 [(.t 24)])⟩ [] (.take 7 ⟨(some 29), none, .q (.bin .gtr (.t 25) (.t 28))⟩ .done)))))))))
 (.cond (.t 29)
 (.seq (.reg [⟨(some 10), none, .q (.mv (.c (.bool false)))⟩])
 .ret)
 .skip))
 (.seq (.seq (.reg [⟨(some 30), none, .q (.mv (.t 0))⟩,
 ⟨(some 12), none, .q (.mv (.t 30))⟩])
 (.block 0 (.loop [1, 3, 6, 7, 12, 58, 59, 60, 61, 62, 63] (.seq (.seq (.reg [⟨(some 31), none, .q (.mv (.t 12))⟩,
 ⟨(some 32), none, .q (.ld false 1 (.t 6))⟩,
 ⟨(some 33), none, .q (.len (.t 32))⟩,
 ⟨(some 34), none, .q (.bin .lss (.t 31) (.t 33))⟩])
 (.cond (.t 34)
 .skip
 (.exit 0)))
 (.seq (.block 1 (.seq (.reg [⟨(some 37), none, .q (.ld false 1 (.t 3))⟩,
 ⟨(some 38), none, .q (.mv (.t 12))⟩,
 ⟨(some 39), none, .m (.bsl 1 [(.t 38)])⟩,
 ⟨(some 40), none, .m (.app 1 8 (.t 37) (.t 39))⟩,
 ⟨none, none, .m (.st false 1 (.t 3) (.t 40))⟩])
 (.seq (.seq (.sch (.take 0 ⟨(some 41), none, .q (.ld false 1 (.t 7))⟩ (.take 1 ⟨(some 42), none, .q (.mv (.t 12))⟩ (.take 2 ⟨(some 43), none, .q (.bin .add (.t 42) (.c (.int .i64 1)))⟩ (.take 3 ⟨(some 44), none, .q (.mv (.t 1))⟩ (.take 4 ⟨(some 45), none, .q (.ld false 1 (.t 6))⟩ (.take 5 ⟨(some 46), none, .q (.mv (.t 12))⟩ (.take 6 ⟨(some 47), none, .q (.ixs 1 (.t 45) (.t 46))⟩ (.take 7 ⟨(some 48), none, .q (.ld false 1 (.t 47))⟩ (.take 8 ⟨(some 49), none, .q (.bin .or (.t 44) (.t 48))⟩ (.one ⟨(some 50), none, .c (.cav (.t 41) [(.t 43), (.t 49)])⟩ [0] .done)))))))))))
 (.cond (.t 50)
 (.seq (.reg [⟨(some 10), none, .q (.mv (.c (.bool true)))⟩])
 .ret)
 .skip))
 (.reg [⟨(some 51), none, .q (.ld false 1 (.t 3))⟩,
 ⟨(some 52), none, .q (.ld false 1 (.t 3))⟩,
 ⟨(some 53), none, .q (.len (.t 52))⟩,
 ⟨(some 54), none, .q (.bin .sub (.t 53) (.c (.int .i64 1)))⟩,
 ⟨(some 55), none, .q (.slc 1 (.t 51) none (some (.t 54)))⟩,
 ⟨none, none, .m (.st false 1 (.t 3) (.t 55))⟩]))))
 (.reg [⟨(some 35), none, .q (.mv (.t 12))⟩,
 ⟨(some 36), none, .q (.bin .add (.t 35) (.c (.int .i64 1)))⟩,
 ⟨(some 12), none, .q (.mv (.t 36))⟩]))))))
 (.seq (.reg [⟨(some 10), none, .q (.mv (.c (.bool false)))⟩])
 .ret))))))⟩
theorem l_impl_firstCover_1 : lowF PA f_impl_firstCover_1 8 [.s (.take 0 (.take 1 (.take 2 (.take 4 (.take 5 (.take 6 (.one 3 (.take 7 .done)))))))), .k [1, 3, 6, 7, 12, 58, 59, 60, 61, 62, 63], .s (.take 0 (.take 1 (.take 2 (.take 3 (.take 4 (.take 5 (.take 6 (.take 7 (.take 8 (.one 9 .done))))))))))] = some c_impl_firstCover_1 := by kernel_rfl
abbrev f_spec_l04Cover : FuncId := 64
def c_spec_l04Cover : AF := ⟨5, 118, [.t 10, .t 11],
 (.seq (.reg [⟨(some 5), none, .m (.box (.t 0))⟩,
 ⟨(some 10), none, .q (.mv (.c (.slice none 0 0)))⟩,
 ⟨(some 11), none, .q (.mv (.c (.bool false)))⟩])
 (.seq (.reg [⟨(some 12), none, .q (.mv (.c (.int .i64 (-1))))⟩,
 ⟨(some 13), none, .q (.mv (.c (.int .i64 0)))⟩])
 (.seq (.seq (.reg [⟨(some 14), none, .q (.mv (.c (.int .i64 0)))⟩])
 (.block 0 (.loop [1, 2, 3, 4, 5, 12, 13, 14] (.seq (.seq (.reg [⟨(some 24), none, .q (.mv (.t 14))⟩,
 ⟨(some 25), none, .q (.mv (.t 2))⟩,
 ⟨(some 26), none, .q (.len (.t 25))⟩,
 ⟨(some 27), none, .q (.bin .lss (.t 24) (.t 26))⟩])
 (.cond (.t 27)
 .skip
 (.exit 0)))
 (.seq (.block 1 (.seq (.reg [⟨(some 30), none, .q (.mv (.t 2))⟩,
 ⟨(some 31), none, .q (.mv (.t 14))⟩,
 ⟨(some 32), none, .q (.ixs 1 (.t 30) (.t 31))⟩,
 ⟨(some 33), none, .q (.ld false 1 (.t 32))⟩,
 ⟨(some 34), none, .q (.bin .eql (.t 33) (.c (.int .i64 0)))⟩])
 (.cond (.t 34)
 (.seq (.reg [⟨(some 35), none, .q (.mv (.t 13))⟩,
 ⟨(some 36), none, .q (.bin .add (.t 35) (.c (.int .i64 1)))⟩,
 ⟨(some 13), none, .q (.mv (.t 36))⟩])
 (.seq (.reg [⟨(some 37), none, .q (.mv (.t 12))⟩,
 ⟨(some 38), none, .q (.bin .lss (.t 37) (.c (.int .i64 0)))⟩])
 (.cond (.t 38)
 (.reg [⟨(some 39), none, .q (.mv (.t 14))⟩,
 ⟨(some 12), none, .q (.mv (.t 39))⟩])
 .skip)))
 .skip)))
 (.reg [⟨(some 28), none, .q (.mv (.t 14))⟩,
 ⟨(some 29), none, .q (.bin .add (.t 28) (.c (.int .i64 1)))⟩,
 ⟨(some 14), none, .q (.mv (.t 29))⟩]))))))
 (.seq (.seq (.reg [⟨(some 40), none, .q (.mv (.t 4))⟩,
 ⟨(some 41), none, .q (.ld true 1 (.t 5))⟩,
 ⟨(some 42), none, .q (.mv (.t 3))⟩,
 ⟨(some 43), none, .c (.call 33 [(.t 41), (.t 42)])⟩,
 ⟨(some 44), none, .q (.bin .mul (.t 40) (.t 43))⟩,
 ⟨(some 45), none, .q (.mv (.t 13))⟩,
 ⟨(some 46), none, .q (.bin .lss (.t 44) (.t 45))⟩])
 (.cond (.t 46)
 (.seq (.reg [⟨(some 10), none, .q (.mv (.c (.slice none 0 0)))⟩,
 ⟨(some 11), none, .q (.mv (.c (.bool false)))⟩])
 .ret)
 .skip))
 (.seq (.seq (.reg [⟨(some 47), none, .q (.mv (.t 4))⟩,
 ⟨(some 48), none, .q (.bin .eql (.t 47) (.c (.int .i64 0)))⟩])
 (.cond (.t 48)
 (.seq (.reg [⟨(some 49), none, .q (.mv (.t 1))⟩,
 ⟨(some 10), none, .q (.mv (.t 49))⟩,
 ⟨(some 11), none, .q (.mv (.c (.bool true)))⟩])
 .ret)
 .skip))
 (.seq (.reg [⟨(some 15), none, .q (.mv (.c (.int .i64 0)))⟩])
 (.seq (.seq (.reg [⟨(some 50), none, .q (.mv (.t 1))⟩,
 ⟨(some 51), none, .q (.len (.t 50))⟩,
 ⟨(some 52), none, .q (.bin .gtr (.t 51) (.c (.int .i64 0)))⟩])
 (.cond (.t 52)
 (.reg [⟨(some 53), none, .q (.mv (.t 1))⟩,
 ⟨(some 54), none, .q (.mv (.t 1))⟩,
 ⟨(some 55), none, .q (.len (.t 54))⟩,
 ⟨(some 56), none, .q (.bin .sub (.t 55) (.c (.int .i64 1)))⟩,
 ⟨(some 57), none, .q (.ixs 1 (.t 53) (.t 56))⟩,
 ⟨(some 58), none, .q (.ld false 1 (.t 57))⟩,
 ⟨(some 59), none, .q (.bin .add (.t 58) (.c (.int .i64 1)))⟩,
 ⟨(some 15), none, .q (.mv (.t 59))⟩])
 .skip))
 (.seq (.reg [⟨(some 60), none, .q (.ld true 1 (.t 5))⟩,
 ⟨(some 61), none, .c (.call 34 [(.t 60)])⟩,
 ⟨(some 62), none, .q (.bin .sub (.t 61) (.c (.int .i64 1)))⟩,
 ⟨(some 16), none, .q (.mv (.t 62))⟩])
 (.seq (.seq (.reg [⟨(some 63), none, .q (.mv (.t 12))⟩,
 ⟨(some 64), none, .q (.bin .geq (.t 63) (.c (.int .i64 0)))⟩])
 (.cond (.t 64)
 (.seq (.reg [⟨(some 65), none, .q (.ld true 1 (.t 5))⟩,
 ⟨(some 66), none, .q (.mv (.t 12))⟩,
 ⟨(some 67), none, .q (.mv (.t 3))⟩,
 ⟨(some 68), none, .c (.call 81 [(.t 65), (.t 66), (.t 67)])⟩,
 ⟨(some 17), none, .q (.mv (.t 68))⟩])
 (.reg [⟨(some 69), none, .q (.mv (.t 17))⟩,
 ⟨(some 70), none, .q (.mv (.t 17))⟩,
 ⟨(some 71), none, .q (.len (.t 70))⟩,
 ⟨(some 72), none, .q (.bin .sub (.t 71) (.c (.int .i64 1)))⟩,
 ⟨(some 73), none, .q (.ixs 1 (.t 69) (.t 72))⟩,
 ⟨(some 74), none, .q (.ld false 1 (.t 73))⟩,
 ⟨(some 16), none, .q (.mv (.t 74))⟩]))
 .skip))
 (.seq (.seq (.reg [⟨(some 75), none, .q (.mv (.t 15))⟩,
 ⟨(some 18), none, .q (.mv (.t 75))⟩])
 (.block 2 (.loop [1, 2, 3, 4, 5, 16, 18] (.seq (.seq (.reg [⟨(some 76), none, .q (.mv (.t 18))⟩,
 ⟨(some 77), none, .q (.mv (.t 16))⟩,
 ⟨(some 78), none, .q (.bin .leq (.t 76) (.t 77))⟩])
 (.cond (.t 78)
 .skip
 (.exit 2)))
 (.seq (.block 3 (.seq (.sch (.take 0 ⟨(some 81), none, .q (.mv (.t 2))⟩ (.take 2 ⟨(some 83), none, .q (.ld true 1 (.t 5))⟩ (.take 3 ⟨(some 84), none, .q (.mv (.t 18))⟩ (.take 4 ⟨(some 85), none, .q (.mv (.t 3))⟩ (.one ⟨(some 82), none, .c (.call 59 [(.t 81)])⟩ [] (.one ⟨(some 86), none, .c (.call 81 [(.t 83), (.t 84), (.t 85)])⟩ [2] (.take 6 ⟨(some 19), none, .q (.mv (.t 82))⟩ (.take 7 ⟨(some 20), none, .q (.mv (.t 86))⟩ .done)))))))))
 (.seq (.seq (.reg [⟨(some 21), none, .q (.mv (.c (.int .i64 0)))⟩])
 (.block 4 (.loop [1, 2, 3, 4, 5, 16, 18, 19, 20, 21] (.seq (.seq (.reg [⟨(some 87), none, .q (.mv (.t 21))⟩,
 ⟨(some 88), none, .q (.mv (.t 20))⟩,
 ⟨(some 89), none, .q (.len (.t 88))⟩,
 ⟨(some 90), none, .q (.bin .lss (.t 87) (.t 89))⟩])
 (.cond (.t 90)
 .skip
 (.exit 4)))
 (.seq (.block 5 (.reg [⟨(some 93), none, .q (.mv (.t 19))⟩,
 ⟨(some 94), none, .q (.mv (.t 20))⟩,
 ⟨(some 95), none, .q (.mv (.t 21))⟩,
 ⟨(some 96), none, .q (.ixs 1 (.t 94) (.t 95))⟩,
 ⟨(some 97), none, .q (.ld false 1 (.t 96))⟩,
 ⟨(some 98), none, .q (.ixs 1 (.t 93) (.t 97))⟩,
 ⟨(some 99), none, .q (.ld false 1 (.t 98))⟩,
 ⟨(some 100), none, .q (.bin .add (.t 99) (.c (.int .i64 1)))⟩,
 ⟨(some 101), none, .q (.ixs 1 (.t 93) (.t 97))⟩,
 ⟨none, none, .m (.st false 1 (.t 101) (.t 100))⟩]))
 (.reg [⟨(some 91), none, .q (.mv (.t 21))⟩,
 ⟨(some 92), none, .q (.bin .add (.t 91) (.c (.int .i64 1)))⟩,
 ⟨(some 21), none, .q (.mv (.t 92))⟩]))))))
 (.seq (.sch (.take 0 ⟨(some 103), none, .q (.ld true 1 (.t 5))⟩ (.take 1 ⟨(some 104), none, .q (.mv (.t 1))⟩ (.take 3 ⟨(some 106), none, .q (.mv (.t 18))⟩ (.take 6 ⟨(some 109), none, .q (.mv (.t 19))⟩ (.take 7 ⟨(some 110), none, .q (.mv (.t 3))⟩ (.take 8 ⟨(some 111), none, .q (.mv (.t 4))⟩ (.take 9 ⟨(some 112), none, .q (.bin .sub (.t 111) (.c (.int .i64 1)))⟩ (.two ⟨(some 105), none, .c (.call 59 [(.t 104)])⟩ [] (.one ⟨(some 107), none, .m (.bsl 1 [(.t 106)])⟩ [] (.one ⟨(some 108), none, .m (.app 1 8 (.t 105) (.t 107))⟩ [] (.one ⟨(some 113), none, .c (.call 64 [(.t 103), (.t 108), (.t 109), (.t 110), (.t 112)])⟩ [0] (.take 11 ⟨(some 102), none, .q (.mv (.t 113))⟩ (.take 12 ⟨(some 114), none, .q (.ext (.t 102) 0)⟩ (.take 13 ⟨(some 115), none, .q (.ext (.t 102) 1)⟩ (.take 14 ⟨(some 22), none, .q (.mv (.t 114))⟩ (.take 15 ⟨(some 23), none, .q (.mv (.t 115))⟩ .done)))))))) ⟨(some 107), none, .m (.bsl 1 [(.t 106)])⟩ [] (.one ⟨(some 105), none, .c (.call 59 [(.t 104)])⟩ [] (.one ⟨(some 108), none, .m (.app 1 8 (.t 105) (.t 107))⟩ [] (.one ⟨(some 113), none, .c (.call 64 [(.t 103), (.t 108), (.t 109), (.t 110), (.t 112)])⟩ [0] (.take 11 ⟨(some 102), none, .q (.mv (.t 113))⟩ (.take 12 ⟨(some 114), none, .q (.ext (.t 102) 0)⟩ (.take 13 ⟨(some 115), none, .q (.ext (.t 102) 1)⟩ (.take 14 ⟨(some 22), none, .q (.mv (.t 114))⟩ (.take 15 ⟨(some 23), none, .q (.mv (.t 115))⟩ .done)))))))))))))))))
 (.seq (.reg [⟨(some 116), none, .q (.mv (.t 23))⟩])
 (.cond (.t 116)
 (.seq (.reg [⟨(some 117), none, .q (.mv (.t 22))⟩,
 ⟨(some 10), none, .q (.mv (.t 117))⟩,
 ⟨(some 11), none, .q (.mv (.c (.bool true)))⟩])
 .ret)
 .skip))))))
 (.reg [⟨(some 79), none, .q (.mv (.t 18))⟩,
 ⟨(some 80), none, .q (.bin .add (.t 79) (.c (.int .i64 1)))⟩,
 ⟨(some 18), none, .q (.mv (.t 80))⟩]))))))
 (.seq (.reg [⟨(some 10), none, .q (.mv (.c (.slice none 0 0)))⟩,
 ⟨(some 11), none, .q (.mv (.c (.bool false)))⟩])
 .ret)))))))))))⟩
theorem l_spec_l04Cover : lowF PA f_spec_l04Cover 5 [.k [1, 2, 3, 4, 5, 12, 13, 14], .k [1, 2, 3, 4, 5, 16, 18], .s (.take 0 (.take 2 (.take 3 (.take 4 (.one 1 (.one 5 (.take 6 (.take 7 .done)))))))), .k [1, 2, 3, 4, 5, 16, 18, 19, 20, 21], .s (.take 0 (.take 1 (.take 3 (.take 6 (.take 7 (.take 8 (.take 9 (.two 2 (.one 4 (.one 5 (.one 10 (.take 11 (.take 12 (.take 13 (.take 14 (.take 15 .done)))))))) 4 (.one 2 (.one 5 (.one 10 (.take 11 (.take 12 (.take 13 (.take 14 (.take 15 .done))))))))))))))))] = some c_spec_l04Cover := by kernel_rfl
abbrev f_impl_wordCode : FuncId := 65
def c_impl_wordCode : AF := ⟨2, 14, [.t 4],
 (.seq (.reg [⟨(some 2), none, .m (.box (.t 0))⟩,
 ⟨(some 4), none, .q (.mv (.c (.int .i64 0)))⟩])
 (.seq (.block 0 (.seq (.reg [⟨(some 6), none, .q (.ld true 1 (.t 2))⟩,
 ⟨(some 7), none, .c (.call 42 [(.t 6)])⟩,
 ⟨(some 8), none, .q (.un .not (.t 7))⟩,
 ⟨(some 5), none, .q (.mv (.t 8))⟩])
 (.cond (.t 5)
 (.seq (.reg [⟨(some 4), none, .q (.mv (.c (.int .i64 1)))⟩])
 .ret)
 (.seq (.reg [⟨(some 10), none, .q (.ld true 1 (.t 2))⟩,
 ⟨(some 11), none, .q (.mv (.t 1))⟩,
 ⟨(some 12), none, .c (.call 82 [(.t 10), (.t 11)])⟩,
 ⟨(some 13), none, .q (.un .not (.t 12))⟩,
 ⟨(some 9), none, .q (.mv (.t 13))⟩])
 (.cond (.t 9)
 (.seq (.reg [⟨(some 4), none, .q (.mv (.c (.int .i64 2)))⟩])
 .ret)
 .skip)))))
 (.seq (.reg [⟨(some 4), none, .q (.mv (.c (.int .i64 0)))⟩])
 .ret)))⟩
theorem l_impl_wordCode : lowF PA f_impl_wordCode 2 [] = some c_impl_wordCode := by kernel_rfl
abbrev f_impl_isRadius : FuncId := 66
def c_impl_isRadius : AF := ⟨1, 9, [.t 2],
 (.seq (.reg [⟨(some 2), none, .q (.mv (.c (.bool false)))⟩])
 (.seq (.reg [⟨(some 3), none, .q (.mv (.t 0))⟩,
 ⟨(some 4), none, .q (.bin .geq (.t 3) (.c (.int .i64 0)))⟩,
 ⟨(some 5), none, .q (.mv (.t 4))⟩,
 ⟨(some 6), (some (5, true)), .q (.mv (.t 0))⟩,
 ⟨(some 7), (some (5, true)), .q (.bin .leq (.t 6) (.c (.int .i64 8)))⟩,
 ⟨(some 8), none, .q (.pick (.t 5) (.t 7) (.c (.bool false)))⟩,
 ⟨(some 2), none, .q (.mv (.t 8))⟩])
 .ret))⟩
theorem l_impl_isRadius : lowF PA f_impl_isRadius 1 [] = some c_impl_isRadius := by kernel_rfl
abbrev f_impl_digitsOf : FuncId := 67
def c_impl_digitsOf : AF := ⟨2, 34, [.c 4 true 8],
 (.seq (.reg [⟨(some 2), none, .m (.box (.t 0))⟩,
 ⟨(some 4), none, .m (.alloc [(.v (.int .u8 0)), (.v (.int .u8 0)), (.v (.int .u8 0)), (.v (.int .u8 0)), (.v (.int .u8 0)), (.v (.int .u8 0)), (.v (.int .u8 0)), (.v (.int .u8 0))])⟩])
 (.seq (.reg [⟨(some 7), none, .q (.bld [(.v (.int .u8 0)), (.v (.int .u8 0)), (.v (.int .u8 0)), (.v (.int .u8 0)), (.v (.int .u8 0)), (.v (.int .u8 0)), (.v (.int .u8 0)), (.v (.int .u8 0))] [])⟩,
 ⟨(some 5), none, .m (.alloc [(.v (.int .u8 0)), (.v (.int .u8 0)), (.v (.int .u8 0)), (.v (.int .u8 0)), (.v (.int .u8 0)), (.v (.int .u8 0)), (.v (.int .u8 0)), (.v (.int .u8 0))])⟩,
 ⟨none, none, .m (.st true 8 (.t 5) (.t 7))⟩])
 (.seq (.seq (.reg [⟨(some 8), none, .q (.fad 0 (.t 2))⟩,
 ⟨(some 9), none, .q (.ld false 1 (.t 8))⟩,
 ⟨(some 10), none, .q (.len (.t 9))⟩,
 ⟨(some 11), none, .q (.bin .sub (.t 10) (.c (.int .i64 1)))⟩,
 ⟨(some 6), none, .q (.mv (.t 11))⟩])
 (.block 0 (.loop [1, 2, 4, 5, 6] (.seq (.seq (.reg [⟨(some 12), none, .q (.mv (.t 6))⟩,
 ⟨(some 13), none, .q (.bin .geq (.t 12) (.c (.int .i64 0)))⟩])
 (.cond (.t 13)
 .skip
 (.exit 0)))
 (.seq (.block 1 (.seq (.reg [⟨(some 16), none, .q (.mv (.t 6))⟩,
 ⟨(some 17), none, .q (.mv (.t 1))⟩,
 ⟨(some 18), none, .q (.fad 0 (.t 2))⟩,
 ⟨(some 19), none, .q (.ld false 1 (.t 18))⟩,
 ⟨(some 20), none, .q (.mv (.t 6))⟩,
 ⟨(some 21), none, .q (.ixs 1 (.t 19) (.t 20))⟩,
 ⟨(some 22), none, .q (.ld false 1 (.t 21))⟩,
 ⟨(some 23), none, .q (.bin .rem (.t 17) (.t 22))⟩,
 ⟨(some 24), none, .q (.cvt .u8 (.t 23))⟩,
 ⟨(some 25), none, .q (.ixa 8 1 (.t 5) (.t 16))⟩,
 ⟨none, none, .m (.st false 1 (.t 25) (.t 24))⟩])
 (.reg [⟨(some 26), none, .q (.mv (.t 1))⟩,
 ⟨(some 27), none, .q (.fad 0 (.t 2))⟩,
 ⟨(some 28), none, .q (.ld false 1 (.t 27))⟩,
 ⟨(some 29), none, .q (.mv (.t 6))⟩,
 ⟨(some 30), none, .q (.ixs 1 (.t 28) (.t 29))⟩,
 ⟨(some 31), none, .q (.ld false 1 (.t 30))⟩,
 ⟨(some 32), none, .q (.bin .quo (.t 26) (.t 31))⟩,
 ⟨(some 1), none, .q (.mv (.t 32))⟩])))
 (.reg [⟨(some 14), none, .q (.mv (.t 6))⟩,
 ⟨(some 15), none, .q (.bin .sub (.t 14) (.c (.int .i64 1)))⟩,
 ⟨(some 6), none, .q (.mv (.t 15))⟩]))))))
 (.seq (.reg [⟨(some 33), none, .q (.ld true 8 (.t 5))⟩,
 ⟨none, none, .m (.st true 8 (.t 4) (.t 33))⟩])
 .ret))))⟩
theorem l_impl_digitsOf : lowF PA f_impl_digitsOf 2 [.k [1, 2, 4, 5, 6]] = some c_impl_digitsOf := by kernel_rfl
abbrev f_impl_ball_1 : FuncId := 68
def c_impl_ball_1 : AF := ⟨3, 10, [.t 4],
 (.seq (.reg [⟨(some 3), none, .m (.box (.t 0))⟩,
 ⟨(some 4), none, .q (.mv (.c (.bool false)))⟩])
 (.seq (.sch (.take 0 ⟨(some 5), none, .q (.ld true 8 (.t 1))⟩ (.take 1 ⟨(some 6), none, .q (.ld true 8 (.t 3))⟩ (.take 3 ⟨(some 8), none, .q (.ld false 1 (.t 2))⟩ (.one ⟨(some 7), none, .c (.call 58 [(.t 5), (.t 6)])⟩ [1, 0] (.take 4 ⟨(some 9), none, .q (.bin .leq (.t 7) (.t 8))⟩ (.take 5 ⟨(some 4), none, .q (.mv (.t 9))⟩ .done)))))))
 .ret))⟩
theorem l_impl_ball_1 : lowF PA f_impl_ball_1 3 [.s (.take 0 (.take 1 (.take 3 (.one 2 (.take 4 (.take 5 .done))))))] = some c_impl_ball_1 := by kernel_rfl
abbrev f_slices_Clone___int64_int64_ : FuncId := 69
def c_slices_Clone___int64_int64_ : AF := ⟨1, 8, [.t 2],
 (.seq (.reg [⟨(some 2), none, .q (.mv (.c (.slice none 0 0)))⟩])
 (.seq (.seq (.reg [⟨(some 3), none, .q (.mv (.t 0))⟩,
 ⟨(some 4), none, .q (.isn false (.t 3))⟩])
 (.cond (.t 4)
 (.seq (.reg [⟨(some 2), none, .q (.mv (.c (.slice none 0 0)))⟩])
 .ret)
 .skip))
 (.seq (.reg [⟨(some 5), none, .m (.bsl 1 [])⟩,
 ⟨(some 6), none, .q (.mv (.t 0))⟩,
 ⟨(some 7), none, .m (.app 1 8 (.t 5) (.t 6))⟩,
 ⟨(some 2), none, .q (.mv (.t 7))⟩])
 .ret)))⟩
theorem l_slices_Clone___int64_int64_ : lowF PA f_slices_Clone___int64_int64_ 1 [] = some c_slices_Clone___int64_int64_ := by kernel_rfl
abbrev f_impl_places : FuncId := 70
def c_impl_places : AF := ⟨1, 6, [.t 2],
 (.seq (.reg [⟨(some 1), none, .m (.box (.t 0))⟩,
 ⟨(some 2), none, .q (.mv (.c (.int .i64 0)))⟩])
 (.seq (.reg [⟨(some 3), none, .q (.fad 0 (.t 1))⟩,
 ⟨(some 4), none, .q (.ld false 1 (.t 3))⟩,
 ⟨(some 5), none, .q (.len (.t 4))⟩,
 ⟨(some 2), none, .q (.mv (.t 5))⟩])
 .ret))⟩
theorem l_impl_places : lowF PA f_impl_places 1 [] = some c_impl_places := by kernel_rfl
abbrev f_spec_l01DrawOf : FuncId := 71
def c_spec_l01DrawOf : AF := ⟨2, 49, [.c 4 true 1],
 (.seq (.reg [⟨(some 4), none, .m (.alloc [(.v (.slice none 0 0))])⟩])
 (.seq (.reg [⟨(some 9), none, .m (.bsl 1 [])⟩,
 ⟨(some 10), none, .q (.bld [(.v (.slice none 0 0))] [(0, (.t 9))])⟩,
 ⟨(some 11), none, .q (.mv (.t 0))⟩,
 ⟨(some 12), none, .m (.bsl 1 [(.c (.int .i64 0)), (.c (.int .i64 2)), (.c (.int .i64 2)), (.c (.int .i64 3)), (.c (.int .i64 3))])⟩,
 ⟨(some 13), none, .c (.call 40 [(.t 11), (.t 12)])⟩,
 ⟨(some 5), none, .m (.alloc [(.v (.slice none 0 0))])⟩,
 ⟨none, none, .m (.st true 1 (.t 5) (.t 10))⟩,
 ⟨(some 6), none, .q (.mv (.t 13))⟩])
 (.seq (.seq (.reg [⟨(some 14), none, .q (.mv (.t 0))⟩,
 ⟨(some 15), none, .c (.call 39 [(.t 14), (.c (.int .i64 8))])⟩,
 ⟨(some 16), none, .q (.bin .add (.c (.int .i64 1)) (.t 15))⟩,
 ⟨(some 7), none, .q (.mv (.t 16))⟩])
 (.block 0 (.loop [0, 1, 4, 5, 6, 7, 49] (.seq (.seq (.reg [⟨(some 17), none, .q (.mv (.t 7))⟩,
 ⟨(some 18), none, .q (.bin .gtr (.t 17) (.c (.int .i64 0)))⟩])
 (.cond (.t 18)
 .skip
 (.exit 0)))
 (.seq (.block 1 (.seq (.reg [⟨(some 21), none, .q (.mv (.t 6))⟩,
 ⟨(some 8), none, .q (.mv (.t 21))⟩])
 (.seq (.seq (.reg [⟨(some 22), none, .q (.mv (.t 6))⟩,
 ⟨(some 23), none, .q (.bin .eql (.t 22) (.c (.int .i64 0)))⟩])
 (.cond (.t 23)
 (.reg [⟨(some 24), none, .q (.mv (.t 0))⟩,
 ⟨(some 25), none, .m (.bsl 1 [(.c (.int .i64 2)), (.c (.int .i64 2)), (.c (.int .i64 3)), (.c (.int .i64 4))])⟩,
 ⟨(some 26), none, .c (.call 40 [(.t 24), (.t 25)])⟩,
 ⟨(some 8), none, .q (.mv (.t 26))⟩])
 .skip))
 (.seq (.seq (.reg [⟨(some 27), none, .q (.ld true 1 (.t 5))⟩,
 ⟨(some 28), none, .c (.call 34 [(.t 27)])⟩,
 ⟨(some 29), none, .q (.mv (.t 8))⟩,
 ⟨(some 30), none, .q (.bin .mul (.t 28) (.t 29))⟩,
 ⟨(some 31), none, .q (.mv (.t 1))⟩,
 ⟨(some 32), none, .q (.bin .gtr (.t 30) (.t 31))⟩])
 (.cond (.t 32)
 (.exit 0)
 .skip))
 (.reg [⟨(some 33), none, .q (.fad 0 (.t 5))⟩,
 ⟨(some 34), none, .q (.ld false 1 (.t 33))⟩,
 ⟨(some 35), none, .q (.mv (.t 8))⟩,
 ⟨(some 36), none, .m (.bsl 1 [(.t 35)])⟩,
 ⟨(some 37), none, .m (.app 1 8 (.t 34) (.t 36))⟩,
 ⟨(some 38), none, .q (.fad 0 (.t 5))⟩,
 ⟨none, none, .m (.st false 1 (.t 38) (.t 37))⟩])))))
 (.reg [⟨(some 19), none, .q (.mv (.t 7))⟩,
 ⟨(some 20), none, .q (.bin .sub (.t 19) (.c (.int .i64 1)))⟩,
 ⟨(some 7), none, .q (.mv (.t 20))⟩]))))))
 (.seq (.seq (.reg [⟨(some 39), none, .q (.fad 0 (.t 5))⟩,
 ⟨(some 40), none, .q (.ld false 1 (.t 39))⟩,
 ⟨(some 41), none, .q (.len (.t 40))⟩,
 ⟨(some 42), none, .q (.bin .eql (.t 41) (.c (.int .i64 0)))⟩])
 (.cond (.t 42)
 (.reg [⟨(some 43), none, .q (.fad 0 (.t 5))⟩,
 ⟨(some 44), none, .q (.ld false 1 (.t 43))⟩,
 ⟨(some 45), none, .m (.bsl 1 [(.c (.int .i64 2))])⟩,
 ⟨(some 46), none, .m (.app 1 8 (.t 44) (.t 45))⟩,
 ⟨(some 47), none, .q (.fad 0 (.t 5))⟩,
 ⟨none, none, .m (.st false 1 (.t 47) (.t 46))⟩])
 .skip))
 (.seq (.reg [⟨(some 48), none, .q (.ld true 1 (.t 5))⟩,
 ⟨none, none, .m (.st true 1 (.t 4) (.t 48))⟩])
 .ret)))))⟩
theorem l_spec_l01DrawOf : lowF PA f_spec_l01DrawOf 2 [.k [0, 1, 4, 5, 6, 7, 49]] = some c_spec_l01DrawOf := by kernel_rfl
abbrev f_slices_IndexFunc___int64_int64_ : FuncId := 72
def c_slices_IndexFunc___int64_int64_ : AF := ⟨2, 19, [.t 4],
 (.seq (.reg [⟨(some 4), none, .q (.mv (.c (.int .i64 0)))⟩])
 (.seq (.seq (.reg [⟨(some 6), none, .q (.mv (.t 0))⟩,
 ⟨(some 7), none, .q (.len (.t 6))⟩,
 ⟨(some 8), none, .q (.mv (.c (.int .i64 0)))⟩])
 (.block 0 (.loop [0, 1, 7, 8] (.seq (.reg [⟨(some 9), none, .q (.bin .lss (.t 8) (.t 7))⟩])
 (.seq (.cond (.t 9)
 .skip
 (.exit 0))
 (.seq (.block 1 (.seq (.reg [⟨(some 10), none, .q (.mv (.t 8))⟩,
 ⟨(some 5), none, .q (.mv (.t 10))⟩])
 (.seq (.reg [⟨(some 11), none, .q (.mv (.t 1))⟩,
 ⟨(some 12), none, .q (.mv (.t 0))⟩,
 ⟨(some 13), none, .q (.mv (.t 5))⟩,
 ⟨(some 14), none, .q (.ixs 1 (.t 12) (.t 13))⟩,
 ⟨(some 15), none, .q (.ld false 1 (.t 14))⟩,
 ⟨(some 16), none, .c (.cav (.t 11) [(.t 15)])⟩])
 (.cond (.t 16)
 (.seq (.reg [⟨(some 17), none, .q (.mv (.t 5))⟩,
 ⟨(some 4), none, .q (.mv (.t 17))⟩])
 .ret)
 .skip))))
 (.reg [⟨(some 18), none, .q (.bin .add (.t 8) (.c (.int .i64 1)))⟩,
 ⟨(some 8), none, .q (.mv (.t 18))⟩])))))))
 (.seq (.reg [⟨(some 4), none, .q (.mv (.c (.int .i64 (-1))))⟩])
 .ret)))⟩
theorem l_slices_IndexFunc___int64_int64_ : lowF PA f_slices_IndexFunc___int64_int64_ 2 [.k [0, 1, 7, 8]] = some c_slices_IndexFunc___int64_int64_ := by kernel_rfl
abbrev f_impl_codeCode : FuncId := 73
def c_impl_codeCode : AF := ⟨3, 18, [.t 6],
 (.seq (.reg [⟨(some 3), none, .m (.box (.t 0))⟩,
 ⟨(some 6), none, .q (.mv (.c (.int .i64 0)))⟩])
 (.seq (.seq (.reg [⟨(some 8), none, .q (.ld true 1 (.t 3))⟩,
 ⟨(some 9), none, .q (.mv (.t 2))⟩,
 ⟨(some 10), none, .c (.call 65 [(.t 8), (.t 9)])⟩,
 ⟨(some 7), none, .q (.mv (.t 10))⟩])
 (.seq (.reg [⟨(some 11), none, .q (.mv (.t 7))⟩,
 ⟨(some 12), none, .q (.bin .neq (.t 11) (.c (.int .i64 0)))⟩])
 (.cond (.t 12)
 (.seq (.reg [⟨(some 13), none, .q (.mv (.t 7))⟩,
 ⟨(some 6), none, .q (.mv (.t 13))⟩])
 .ret)
 .skip)))
 (.seq (.seq (.reg [⟨(some 14), none, .q (.ld true 1 (.t 3))⟩,
 ⟨(some 15), none, .q (.mv (.t 1))⟩,
 ⟨(some 16), none, .c (.call 83 [(.t 14), (.t 15)])⟩,
 ⟨(some 17), none, .q (.un .not (.t 16))⟩])
 (.cond (.t 17)
 (.seq (.reg [⟨(some 6), none, .q (.mv (.c (.int .i64 2)))⟩])
 .ret)
 .skip))
 (.seq (.reg [⟨(some 6), none, .q (.mv (.c (.int .i64 0)))⟩])
 .ret))))⟩
theorem l_impl_codeCode : lowF PA f_impl_codeCode 3 [] = some c_impl_codeCode := by kernel_rfl
abbrev f_slices_Max___int64_int64_ : FuncId := 74
def c_slices_Max___int64_int64_ : AF := ⟨1, 25, [.t 2],
 (.seq (.reg [⟨(some 2), none, .q (.mv (.c (.int .i64 0)))⟩])
 (.seq (.seq (.reg [⟨(some 5), none, .q (.mv (.t 0))⟩,
 ⟨(some 6), none, .q (.len (.t 5))⟩,
 ⟨(some 7), none, .q (.bin .lss (.t 6) (.c (.int .i64 1)))⟩])
 (.cond (.t 7)
 .bad
 .skip))
 (.seq (.reg [⟨(some 9), none, .q (.mv (.t 0))⟩,
 ⟨(some 10), none, .q (.ixs 1 (.t 9) (.c (.int .i64 0)))⟩,
 ⟨(some 11), none, .q (.ld false 1 (.t 10))⟩,
 ⟨(some 3), none, .q (.mv (.t 11))⟩])
 (.seq (.seq (.reg [⟨(some 4), none, .q (.mv (.c (.int .i64 1)))⟩])
 (.block 0 (.loop [0, 3, 4] (.seq (.seq (.reg [⟨(some 12), none, .q (.mv (.t 4))⟩,
 ⟨(some 13), none, .q (.mv (.t 0))⟩,
 ⟨(some 14), none, .q (.len (.t 13))⟩,
 ⟨(some 15), none, .q (.bin .lss (.t 12) (.t 14))⟩])
 (.cond (.t 15)
 .skip
 (.exit 0)))
 (.seq (.block 1 (.reg [⟨(some 18), none, .q (.mv (.t 3))⟩,
 ⟨(some 19), none, .q (.mv (.t 0))⟩,
 ⟨(some 20), none, .q (.mv (.t 4))⟩,
 ⟨(some 21), none, .q (.ixs 1 (.t 19) (.t 20))⟩,
 ⟨(some 22), none, .q (.ld false 1 (.t 21))⟩,
 ⟨(some 23), none, .q (.mx (.t 18) (.t 22))⟩,
 ⟨(some 3), none, .q (.mv (.t 23))⟩]))
 (.reg [⟨(some 16), none, .q (.mv (.t 4))⟩,
 ⟨(some 17), none, .q (.bin .add (.t 16) (.c (.int .i64 1)))⟩,
 ⟨(some 4), none, .q (.mv (.t 17))⟩]))))))
 (.seq (.reg [⟨(some 24), none, .q (.mv (.t 3))⟩,
 ⟨(some 2), none, .q (.mv (.t 24))⟩])
 .ret)))))⟩
theorem l_slices_Max___int64_int64_ : lowF PA f_slices_Max___int64_int64_ 1 [.x 2, .k [0, 3, 4]] = some c_slices_Max___int64_int64_ := by kernel_rfl
abbrev f_impl_farness : FuncId := 75
def c_impl_farness : AF := ⟨2, 41, [.t 4],
 (.seq (.reg [⟨(some 2), none, .m (.box (.t 0))⟩,
 ⟨(some 4), none, .q (.mv (.c (.slice none 0 0)))⟩])
 (.seq (.reg [⟨(some 12), none, .q (.ld true 1 (.t 2))⟩,
 ⟨(some 13), none, .q (.mv (.t 1))⟩,
 ⟨(some 14), none, .c (.call 84 [(.t 12), (.t 13)])⟩,
 ⟨(some 15), none, .m (.bsl 1 [])⟩,
 ⟨(some 5), none, .q (.mv (.t 14))⟩,
 ⟨(some 6), none, .q (.mv (.t 15))⟩])
 (.seq (.seq (.reg [⟨(some 16), none, .q (.ld true 1 (.t 2))⟩,
 ⟨(some 17), none, .c (.call 55 [(.t 16)])⟩,
 ⟨(some 18), none, .q (.len (.t 17))⟩,
 ⟨(some 19), none, .q (.mv (.c (.int .i64 0)))⟩])
 (.block 0 (.loop [5, 6, 17, 18, 19] (.seq (.reg [⟨(some 20), none, .q (.bin .lss (.t 19) (.t 18))⟩])
 (.seq (.cond (.t 20)
 .skip
 (.exit 0))
 (.seq (.block 1 (.seq (.reg [⟨(some 21), none, .q (.ixs 8 (.t 17) (.t 19))⟩,
 ⟨(some 22), none, .q (.ld true 8 (.t 21))⟩,
 ⟨(some 8), none, .m (.alloc [(.v (.int .u8 0)), (.v (.int .u8 0)), (.v (.int .u8 0)), (.v (.int .u8 0)), (.v (.int .u8 0)), (.v (.int .u8 0)), (.v (.int .u8 0)), (.v (.int .u8 0))])⟩,
 ⟨none, none, .m (.st true 8 (.t 8) (.t 22))⟩])
 (.seq (.reg [⟨(some 9), none, .q (.mv (.c (.int .i64 8)))⟩])
 (.seq (.seq (.reg [⟨(some 23), none, .q (.mv (.t 5))⟩,
 ⟨(some 24), none, .q (.len (.t 23))⟩,
 ⟨(some 25), none, .q (.mv (.c (.int .i64 0)))⟩])
 (.block 2 (.loop [5, 6, 8, 9, 17, 18, 19, 23, 24, 25] (.seq (.reg [⟨(some 26), none, .q (.bin .lss (.t 25) (.t 24))⟩])
 (.seq (.cond (.t 26)
 .skip
 (.exit 2))
 (.seq (.block 3 (.seq (.reg [⟨(some 27), none, .q (.ixs 8 (.t 23) (.t 25))⟩,
 ⟨(some 28), none, .q (.ld true 8 (.t 27))⟩,
 ⟨(some 11), none, .m (.alloc [(.v (.int .u8 0)), (.v (.int .u8 0)), (.v (.int .u8 0)), (.v (.int .u8 0)), (.v (.int .u8 0)), (.v (.int .u8 0)), (.v (.int .u8 0)), (.v (.int .u8 0))])⟩,
 ⟨none, none, .m (.st true 8 (.t 11) (.t 28))⟩])
 (.reg [⟨(some 29), none, .q (.mv (.t 9))⟩,
 ⟨(some 30), none, .q (.ld true 8 (.t 8))⟩,
 ⟨(some 31), none, .q (.ld true 8 (.t 11))⟩,
 ⟨(some 32), none, .c (.call 58 [(.t 30), (.t 31)])⟩,
 ⟨(some 33), none, .q (.mn (.t 29) (.t 32))⟩,
 ⟨(some 9), none, .q (.mv (.t 33))⟩])))
 (.reg [⟨(some 34), none, .q (.bin .add (.t 25) (.c (.int .i64 1)))⟩,
 ⟨(some 25), none, .q (.mv (.t 34))⟩])))))))
 (.reg [⟨(some 35), none, .q (.mv (.t 6))⟩,
 ⟨(some 36), none, .q (.mv (.t 9))⟩,
 ⟨(some 37), none, .m (.bsl 1 [(.t 36)])⟩,
 ⟨(some 38), none, .m (.app 1 8 (.t 35) (.t 37))⟩,
 ⟨(some 6), none, .q (.mv (.t 38))⟩])))))
 (.reg [⟨(some 39), none, .q (.bin .add (.t 19) (.c (.int .i64 1)))⟩,
 ⟨(some 19), none, .q (.mv (.t 39))⟩])))))))
 (.seq (.reg [⟨(some 40), none, .q (.mv (.t 6))⟩,
 ⟨(some 4), none, .q (.mv (.t 40))⟩])
 .ret))))⟩
theorem l_impl_farness : lowF PA f_impl_farness 2 [.k [5, 6, 17, 18, 19], .k [5, 6, 8, 9, 17, 18, 19, 23, 24, 25]] = some c_impl_farness := by kernel_rfl
abbrev f_slices_Contains___int64_int64_ : FuncId := 76
def c_slices_Contains___int64_int64_ : AF := ⟨2, 9, [.t 4],
 (.seq (.reg [⟨(some 4), none, .q (.mv (.c (.bool false)))⟩])
 (.seq (.reg [⟨(some 5), none, .q (.mv (.t 0))⟩,
 ⟨(some 6), none, .q (.mv (.t 1))⟩,
 ⟨(some 7), none, .c (.call 85 [(.t 5), (.t 6)])⟩,
 ⟨(some 8), none, .q (.bin .geq (.t 7) (.c (.int .i64 0)))⟩,
 ⟨(some 4), none, .q (.mv (.t 8))⟩])
 .ret))⟩
theorem l_slices_Contains___int64_int64_ : lowF PA f_slices_Contains___int64_int64_ 2 [] = some c_slices_Contains___int64_int64_ := by kernel_rfl
abbrev f_impl_times : FuncId := 77
def c_impl_times : AF := ⟨3, 48, [.t 6],
 (.seq (.reg [⟨(some 3), none, .m (.box (.t 0))⟩,
 ⟨(some 6), none, .q (.mv (.c (.slice none 0 0)))⟩])
 (.seq (.sch (.take 0 ⟨(some 13), none, .q (.ld true 1 (.t 3))⟩ (.take 2 ⟨(some 15), none, .q (.ld true 1 (.t 3))⟩ (.one ⟨(some 14), none, .c (.call 55 [(.t 13)])⟩ [0] (.one ⟨(some 16), none, .c (.call 30 [(.t 15)])⟩ [2] (.take 5 ⟨(some 7), none, .q (.mv (.t 14))⟩ (.one ⟨(some 17), none, .m (.mks 1 (.v (.int .i64 0)) 8 (.t 16) (.t 16))⟩ [] (.take 6 ⟨(some 8), none, .q (.mv (.t 17))⟩ .done))))))))
 (.seq (.seq (.reg [⟨(some 18), none, .q (.mv (.t 1))⟩,
 ⟨(some 19), none, .q (.len (.t 18))⟩,
 ⟨(some 20), none, .q (.mv (.c (.int .i64 0)))⟩])
 (.block 0 (.loop [2, 7, 8, 18, 19, 20] (.seq (.reg [⟨(some 21), none, .q (.bin .lss (.t 20) (.t 19))⟩])
 (.seq (.cond (.t 21)
 .skip
 (.exit 0))
 (.seq (.block 1 (.seq (.reg [⟨(some 22), none, .q (.ixs 1 (.t 18) (.t 20))⟩,
 ⟨(some 23), none, .q (.ld false 1 (.t 22))⟩,
 ⟨(some 10), none, .q (.mv (.t 23))⟩])
 (.seq (.reg [⟨(some 24), none, .q (.mv (.t 7))⟩,
 ⟨(some 25), none, .q (.len (.t 24))⟩,
 ⟨(some 26), none, .q (.mv (.c (.int .i64 0)))⟩])
 (.block 2 (.loop [2, 7, 8, 10, 18, 19, 20, 24, 25, 26] (.seq (.reg [⟨(some 27), none, .q (.bin .lss (.t 26) (.t 25))⟩])
 (.seq (.cond (.t 27)
 .skip
 (.exit 2))
 (.seq (.block 3 (.seq (.reg [⟨(some 28), none, .q (.mv (.t 26))⟩,
 ⟨(some 29), none, .q (.ixs 8 (.t 24) (.t 26))⟩,
 ⟨(some 30), none, .q (.ld true 8 (.t 29))⟩,
 ⟨(some 12), none, .m (.alloc [(.v (.int .u8 0)), (.v (.int .u8 0)), (.v (.int .u8 0)), (.v (.int .u8 0)), (.v (.int .u8 0)), (.v (.int .u8 0)), (.v (.int .u8 0)), (.v (.int .u8 0))])⟩,
 ⟨(some 11), none, .q (.mv (.t 28))⟩,
 ⟨none, none, .m (.st true 8 (.t 12) (.t 30))⟩])
 (.seq (.sch (.take 0 ⟨(some 31), none, .q (.mv (.t 7))⟩ (.take 1 ⟨(some 32), none, .q (.mv (.t 10))⟩ (.take 2 ⟨(some 33), none, .q (.ixs 8 (.t 31) (.t 32))⟩ (.take 3 ⟨(some 34), none, .q (.ld true 8 (.t 33))⟩ (.take 4 ⟨(some 35), none, .q (.ld true 8 (.t 12))⟩ (.take 6 ⟨(some 37), none, .q (.mv (.t 2))⟩ (.one ⟨(some 36), none, .c (.call 58 [(.t 34), (.t 35)])⟩ [4, 3] (.take 7 ⟨(some 38), none, .q (.bin .leq (.t 36) (.t 37))⟩ .done)))))))))
 (.cond (.t 38)
 (.reg [⟨(some 39), none, .q (.mv (.t 8))⟩,
 ⟨(some 40), none, .q (.mv (.t 11))⟩,
 ⟨(some 41), none, .q (.ixs 1 (.t 39) (.t 40))⟩,
 ⟨(some 42), none, .q (.ld false 1 (.t 41))⟩,
 ⟨(some 43), none, .q (.bin .add (.t 42) (.c (.int .i64 1)))⟩,
 ⟨(some 44), none, .q (.ixs 1 (.t 39) (.t 40))⟩,
 ⟨none, none, .m (.st false 1 (.t 44) (.t 43))⟩])
 .skip))))
 (.reg [⟨(some 45), none, .q (.bin .add (.t 26) (.c (.int .i64 1)))⟩,
 ⟨(some 26), none, .q (.mv (.t 45))⟩])))))))))
 (.reg [⟨(some 46), none, .q (.bin .add (.t 20) (.c (.int .i64 1)))⟩,
 ⟨(some 20), none, .q (.mv (.t 46))⟩])))))))
 (.seq (.reg [⟨(some 47), none, .q (.mv (.t 8))⟩,
 ⟨(some 6), none, .q (.mv (.t 47))⟩])
 .ret))))⟩
theorem l_impl_times : lowF PA f_impl_times 3 [.s (.take 0 (.take 2 (.one 1 (.one 3 (.take 5 (.one 4 (.take 6 .done))))))), .k [2, 7, 8, 18, 19, 20], .k [2, 7, 8, 10, 18, 19, 20, 24, 25, 26], .s (.take 0 (.take 1 (.take 2 (.take 3 (.take 4 (.take 6 (.one 5 (.take 7 .done))))))))] = some c_impl_times := by kernel_rfl
abbrev f_math_bits_Mul : FuncId := 78
def c_math_bits_Mul : AF := ⟨2, 30, [.t 4, .t 5],
 (.seq (.reg [⟨(some 4), none, .q (.mv (.c (.int .u64 0)))⟩,
 ⟨(some 5), none, .q (.mv (.c (.int .u64 0)))⟩])
 (.seq (.cond (.c (.bool false))
 (.seq (.reg [⟨(some 11), none, .q (.mv (.t 0))⟩,
 ⟨(some 12), none, .q (.cvt .u32 (.t 11))⟩,
 ⟨(some 13), none, .q (.mv (.t 1))⟩,
 ⟨(some 14), none, .q (.cvt .u32 (.t 13))⟩,
 ⟨(some 15), none, .c (.call 86 [(.t 12), (.t 14)])⟩,
 ⟨(some 10), none, .q (.mv (.t 15))⟩,
 ⟨(some 16), none, .q (.ext (.t 10) 0)⟩,
 ⟨(some 17), none, .q (.ext (.t 10) 1)⟩,
 ⟨(some 6), none, .q (.mv (.t 16))⟩,
 ⟨(some 7), none, .q (.mv (.t 17))⟩])
 (.seq (.reg [⟨(some 18), none, .q (.mv (.t 6))⟩,
 ⟨(some 19), none, .q (.cvt .u64 (.t 18))⟩,
 ⟨(some 20), none, .q (.mv (.t 7))⟩,
 ⟨(some 21), none, .q (.cvt .u64 (.t 20))⟩,
 ⟨(some 4), none, .q (.mv (.t 19))⟩,
 ⟨(some 5), none, .q (.mv (.t 21))⟩])
 .ret))
 .skip)
 (.seq (.reg [⟨(some 23), none, .q (.mv (.t 0))⟩,
 ⟨(some 24), none, .q (.mv (.t 1))⟩,
 ⟨(some 25), none, .c (.call 87 [(.t 23), (.t 24)])⟩,
 ⟨(some 22), none, .q (.mv (.t 25))⟩,
 ⟨(some 26), none, .q (.ext (.t 22) 0)⟩,
 ⟨(some 27), none, .q (.ext (.t 22) 1)⟩,
 ⟨(some 8), none, .q (.mv (.t 26))⟩,
 ⟨(some 9), none, .q (.mv (.t 27))⟩])
 (.seq (.reg [⟨(some 28), none, .q (.mv (.t 8))⟩,
 ⟨(some 29), none, .q (.mv (.t 9))⟩,
 ⟨(some 4), none, .q (.mv (.t 28))⟩,
 ⟨(some 5), none, .q (.mv (.t 29))⟩])
 .ret))))⟩
theorem l_math_bits_Mul : lowF PA f_math_bits_Mul 2 [] = some c_math_bits_Mul := by kernel_rfl
abbrev f_slices_pdqsortOrdered_int64_ : FuncId := 79
def c_slices_pdqsortOrdered_int64_ : AF := ⟨4, 134, [],
 (.seq (.reg [⟨(some 8), none, .q (.mv (.c (.bool true)))⟩])
 (.seq (.reg [⟨(some 9), none, .q (.mv (.c (.bool true)))⟩])
 (.block 0 (.loop [0, 1, 2, 3, 8, 9, 134] (.block 1 (.seq (.reg [⟨(some 19), none, .q (.mv (.t 2))⟩,
 ⟨(some 20), none, .q (.mv (.t 1))⟩,
 ⟨(some 21), none, .q (.bin .sub (.t 19) (.t 20))⟩,
 ⟨(some 10), none, .q (.mv (.t 21))⟩])
 (.seq (.seq (.reg [⟨(some 22), none, .q (.mv (.t 10))⟩,
 ⟨(some 23), none, .q (.bin .leq (.t 22) (.c (.int .i64 12)))⟩])
 (.cond (.t 23)
 (.seq (.reg [⟨(some 24), none, .q (.mv (.t 0))⟩,
 ⟨(some 25), none, .q (.mv (.t 1))⟩,
 ⟨(some 26), none, .q (.mv (.t 2))⟩,
 ⟨(some 27), none, .c (.call 88 [(.t 24), (.t 25), (.t 26)])⟩])
 .ret)
 .skip))
 (.seq (.seq (.reg [⟨(some 28), none, .q (.mv (.t 3))⟩,
 ⟨(some 29), none, .q (.bin .eql (.t 28) (.c (.int .i64 0)))⟩])
 (.cond (.t 29)
 (.seq (.reg [⟨(some 30), none, .q (.mv (.t 0))⟩,
 ⟨(some 31), none, .q (.mv (.t 1))⟩,
 ⟨(some 32), none, .q (.mv (.t 2))⟩,
 ⟨(some 33), none, .c (.call 89 [(.t 30), (.t 31), (.t 32)])⟩])
 .ret)
 .skip))
 (.seq (.seq (.reg [⟨(some 34), none, .q (.mv (.t 8))⟩,
 ⟨(some 35), none, .q (.un .not (.t 34))⟩])
 (.cond (.t 35)
 (.seq (.reg [⟨(some 36), none, .q (.mv (.t 0))⟩,
 ⟨(some 37), none, .q (.mv (.t 1))⟩,
 ⟨(some 38), none, .q (.mv (.t 2))⟩,
 ⟨(some 39), none, .c (.call 90 [(.t 36), (.t 37), (.t 38)])⟩])
 (.reg [⟨(some 40), none, .q (.mv (.t 3))⟩,
 ⟨(some 41), none, .q (.bin .sub (.t 40) (.c (.int .i64 1)))⟩,
 ⟨(some 3), none, .q (.mv (.t 41))⟩]))
 .skip))
 (.seq (.reg [⟨(some 43), none, .q (.mv (.t 0))⟩,
 ⟨(some 44), none, .q (.mv (.t 1))⟩,
 ⟨(some 45), none, .q (.mv (.t 2))⟩,
 ⟨(some 46), none, .c (.call 91 [(.t 43), (.t 44), (.t 45)])⟩,
 ⟨(some 42), none, .q (.mv (.t 46))⟩,
 ⟨(some 47), none, .q (.ext (.t 42) 0)⟩,
 ⟨(some 48), none, .q (.ext (.t 42) 1)⟩,
 ⟨(some 11), none, .q (.mv (.t 47))⟩,
 ⟨(some 12), none, .q (.mv (.t 48))⟩])
 (.seq (.seq (.reg [⟨(some 49), none, .q (.mv (.t 12))⟩,
 ⟨(some 50), none, .q (.bin .eql (.t 49) (.c (.int .i64 2)))⟩])
 (.cond (.t 50)
 (.seq (.reg [⟨(some 51), none, .q (.mv (.t 0))⟩,
 ⟨(some 52), none, .q (.mv (.t 1))⟩,
 ⟨(some 53), none, .q (.mv (.t 2))⟩,
 ⟨(some 54), none, .c (.call 92 [(.t 51), (.t 52), (.t 53)])⟩])
 (.seq (.reg [⟨(some 55), none, .q (.mv (.t 2))⟩,
 ⟨(some 56), none, .q (.bin .sub (.t 55) (.c (.int .i64 1)))⟩,
 ⟨(some 57), none, .q (.mv (.t 11))⟩,
 ⟨(some 58), none, .q (.mv (.t 1))⟩,
 ⟨(some 59), none, .q (.bin .sub (.t 57) (.t 58))⟩,
 ⟨(some 60), none, .q (.bin .sub (.t 56) (.t 59))⟩,
 ⟨(some 11), none, .q (.mv (.t 60))⟩])
 (.reg [⟨(some 12), none, .q (.mv (.c (.int .i64 1)))⟩])))
 .skip))
 (.seq (.seq (.reg [⟨(some 61), none, .q (.mv (.t 8))⟩,
 ⟨(some 62), none, .q (.mv (.t 61))⟩,
 ⟨(some 63), (some (62, true)), .q (.mv (.t 9))⟩,
 ⟨(some 64), none, .q (.pick (.t 62) (.t 63) (.c (.bool false)))⟩,
 ⟨(some 65), none, .q (.mv (.t 64))⟩,
 ⟨(some 66), (some (65, true)), .q (.mv (.t 12))⟩,
 ⟨(some 67), (some (65, true)), .q (.bin .eql (.t 66) (.c (.int .i64 1)))⟩,
 ⟨(some 68), none, .q (.pick (.t 65) (.t 67) (.c (.bool false)))⟩])
 (.cond (.t 68)
 (.seq (.reg [⟨(some 69), none, .q (.mv (.t 0))⟩,
 ⟨(some 70), none, .q (.mv (.t 1))⟩,
 ⟨(some 71), none, .q (.mv (.t 2))⟩,
 ⟨(some 72), none, .c (.call 93 [(.t 69), (.t 70), (.t 71)])⟩])
 (.cond (.t 72)
 .ret
 .skip))
 .skip))
 (.seq (.seq (.sch (.take 0 ⟨(some 73), none, .q (.mv (.t 1))⟩ (.take 1 ⟨(some 74), none, .q (.bin .gtr (.t 73) (.c (.int .i64 0)))⟩ (.take 2 ⟨(some 75), none, .q (.mv (.t 74))⟩ (.take 3 ⟨(some 76), (some (75, true)), .q (.mv (.t 0))⟩ (.take 4 ⟨(some 77), (some (75, true)), .q (.mv (.t 1))⟩ (.take 5 ⟨(some 78), (some (75, true)), .q (.bin .sub (.t 77) (.c (.int .i64 1)))⟩ (.take 6 ⟨(some 79), (some (75, true)), .q (.ixs 1 (.t 76) (.t 78))⟩ (.take 7 ⟨(some 80), (some (75, true)), .q (.ld false 1 (.t 79))⟩ (.take 8 ⟨(some 81), (some (75, true)), .q (.mv (.t 0))⟩ (.take 9 ⟨(some 82), (some (75, true)), .q (.mv (.t 11))⟩ (.take 10 ⟨(some 83), (some (75, true)), .q (.ixs 1 (.t 81) (.t 82))⟩ (.take 11 ⟨(some 84), (some (75, true)), .q (.ld false 1 (.t 83))⟩ (.one ⟨(some 85), (some (75, true)), .c (.call 94 [(.t 80), (.t 84)])⟩ [11, 7] (.take 13 ⟨(some 86), (some (75, true)), .q (.un .not (.t 85))⟩ (.take 14 ⟨(some 87), none, .q (.pick (.t 75) (.t 86) (.c (.bool false)))⟩ .done))))))))))))))))
 (.cond (.t 87)
 (.seq (.reg [⟨(some 88), none, .q (.mv (.t 0))⟩,
 ⟨(some 89), none, .q (.mv (.t 1))⟩,
 ⟨(some 90), none, .q (.mv (.t 2))⟩,
 ⟨(some 91), none, .q (.mv (.t 11))⟩,
 ⟨(some 92), none, .c (.call 95 [(.t 88), (.t 89), (.t 90), (.t 91)])⟩,
 ⟨(some 13), none, .q (.mv (.t 92))⟩])
 (.seq (.reg [⟨(some 93), none, .q (.mv (.t 13))⟩,
 ⟨(some 1), none, .q (.mv (.t 93))⟩])
 (.exit 1)))
 .skip))
 (.seq (.reg [⟨(some 95), none, .q (.mv (.t 0))⟩,
 ⟨(some 96), none, .q (.mv (.t 1))⟩,
 ⟨(some 97), none, .q (.mv (.t 2))⟩,
 ⟨(some 98), none, .q (.mv (.t 11))⟩,
 ⟨(some 99), none, .c (.call 96 [(.t 95), (.t 96), (.t 97), (.t 98)])⟩,
 ⟨(some 94), none, .q (.mv (.t 99))⟩,
 ⟨(some 100), none, .q (.ext (.t 94) 0)⟩,
 ⟨(some 101), none, .q (.ext (.t 94) 1)⟩,
 ⟨(some 14), none, .q (.mv (.t 100))⟩,
 ⟨(some 15), none, .q (.mv (.t 101))⟩])
 (.seq (.reg [⟨(some 102), none, .q (.mv (.t 15))⟩,
 ⟨(some 9), none, .q (.mv (.t 102))⟩])
 (.seq (.reg [⟨(some 103), none, .q (.mv (.t 14))⟩,
 ⟨(some 104), none, .q (.mv (.t 1))⟩,
 ⟨(some 105), none, .q (.bin .sub (.t 103) (.t 104))⟩,
 ⟨(some 106), none, .q (.mv (.t 2))⟩,
 ⟨(some 107), none, .q (.mv (.t 14))⟩,
 ⟨(some 108), none, .q (.bin .sub (.t 106) (.t 107))⟩,
 ⟨(some 16), none, .q (.mv (.t 105))⟩,
 ⟨(some 17), none, .q (.mv (.t 108))⟩])
 (.seq (.reg [⟨(some 109), none, .q (.mv (.t 10))⟩,
 ⟨(some 110), none, .q (.bin .quo (.t 109) (.c (.int .i64 8)))⟩,
 ⟨(some 18), none, .q (.mv (.t 110))⟩])
 (.seq (.reg [⟨(some 111), none, .q (.mv (.t 16))⟩,
 ⟨(some 112), none, .q (.mv (.t 17))⟩,
 ⟨(some 113), none, .q (.bin .lss (.t 111) (.t 112))⟩])
 (.cond (.t 113)
 (.seq (.reg [⟨(some 114), none, .q (.mv (.t 16))⟩,
 ⟨(some 115), none, .q (.mv (.t 18))⟩,
 ⟨(some 116), none, .q (.bin .geq (.t 114) (.t 115))⟩,
 ⟨(some 8), none, .q (.mv (.t 116))⟩])
 (.seq (.reg [⟨(some 117), none, .q (.mv (.t 0))⟩,
 ⟨(some 118), none, .q (.mv (.t 1))⟩,
 ⟨(some 119), none, .q (.mv (.t 14))⟩,
 ⟨(some 120), none, .q (.mv (.t 3))⟩,
 ⟨(some 121), none, .c (.call 79 [(.t 117), (.t 118), (.t 119), (.t 120)])⟩])
 (.reg [⟨(some 122), none, .q (.mv (.t 14))⟩,
 ⟨(some 123), none, .q (.bin .add (.t 122) (.c (.int .i64 1)))⟩,
 ⟨(some 1), none, .q (.mv (.t 123))⟩])))
 (.seq (.reg [⟨(some 124), none, .q (.mv (.t 17))⟩,
 ⟨(some 125), none, .q (.mv (.t 18))⟩,
 ⟨(some 126), none, .q (.bin .geq (.t 124) (.t 125))⟩,
 ⟨(some 8), none, .q (.mv (.t 126))⟩])
 (.seq (.reg [⟨(some 127), none, .q (.mv (.t 0))⟩,
 ⟨(some 128), none, .q (.mv (.t 14))⟩,
 ⟨(some 129), none, .q (.bin .add (.t 128) (.c (.int .i64 1)))⟩,
 ⟨(some 130), none, .q (.mv (.t 2))⟩,
 ⟨(some 131), none, .q (.mv (.t 3))⟩,
 ⟨(some 132), none, .c (.call 79 [(.t 127), (.t 129), (.t 130), (.t 131)])⟩])
 (.reg [⟨(some 133), none, .q (.mv (.t 14))⟩,
 ⟨(some 2), none, .q (.mv (.t 133))⟩]))))))))))))))))))))))⟩
theorem l_slices_pdqsortOrdered_int64_ : lowF PA f_slices_pdqsortOrdered_int64_ 4 [.k [0, 1, 2, 3, 8, 9, 134], .s (.take 0 (.take 1 (.take 2 (.take 3 (.take 4 (.take 5 (.take 6 (.take 7 (.take 8 (.take 9 (.take 10 (.take 11 (.one 12 (.take 13 (.take 14 .done)))))))))))))))] = some c_slices_pdqsortOrdered_int64_ := by kernel_rfl
abbrev f_math_bits_Len : FuncId := 80
def c_math_bits_Len : AF := ⟨1, 8, [.t 2],
 (.seq (.reg [⟨(some 2), none, .q (.mv (.c (.int .i64 0)))⟩])
 (.seq (.cond (.c (.bool false))
 (.seq (.reg [⟨(some 3), none, .q (.mv (.t 0))⟩,
 ⟨(some 4), none, .q (.cvt .u32 (.t 3))⟩,
 ⟨(some 5), none, .c (.call 97 [(.t 4)])⟩,
 ⟨(some 2), none, .q (.mv (.t 5))⟩])
 .ret)
 .skip)
 (.seq (.reg [⟨(some 6), none, .q (.mv (.t 0))⟩,
 ⟨(some 7), none, .c (.call 98 [(.t 6)])⟩,
 ⟨(some 2), none, .q (.mv (.t 7))⟩])
 .ret)))⟩
theorem l_math_bits_Len : lowF PA f_math_bits_Len 1 [] = some c_math_bits_Len := by kernel_rfl
abbrev f_spec_l01Ball : FuncId := 81
def c_spec_l01Ball : AF := ⟨3, 27, [.t 6],
 (.seq (.reg [⟨(some 3), none, .m (.box (.t 0))⟩,
 ⟨(some 6), none, .q (.mv (.c (.slice none 0 0)))⟩])
 (.seq (.reg [⟨(some 9), none, .m (.bsl 1 [])⟩,
 ⟨(some 7), none, .q (.mv (.t 9))⟩])
 (.seq (.seq (.reg [⟨(some 8), none, .q (.mv (.c (.int .i64 0)))⟩])
 (.block 0 (.loop [1, 2, 3, 7, 8] (.seq (.seq (.reg [⟨(some 10), none, .q (.mv (.t 8))⟩,
 ⟨(some 11), none, .q (.ld true 1 (.t 3))⟩,
 ⟨(some 12), none, .c (.call 34 [(.t 11)])⟩,
 ⟨(some 13), none, .q (.bin .lss (.t 10) (.t 12))⟩])
 (.cond (.t 13)
 .skip
 (.exit 0)))
 (.seq (.block 1 (.seq (.reg [⟨(some 16), none, .q (.ld true 1 (.t 3))⟩,
 ⟨(some 17), none, .q (.mv (.t 8))⟩,
 ⟨(some 18), none, .q (.mv (.t 1))⟩,
 ⟨(some 19), none, .c (.call 99 [(.t 16), (.t 17), (.t 18)])⟩,
 ⟨(some 20), none, .q (.mv (.t 2))⟩,
 ⟨(some 21), none, .q (.bin .leq (.t 19) (.t 20))⟩])
 (.cond (.t 21)
 (.reg [⟨(some 22), none, .q (.mv (.t 7))⟩,
 ⟨(some 23), none, .q (.mv (.t 8))⟩,
 ⟨(some 24), none, .m (.bsl 1 [(.t 23)])⟩,
 ⟨(some 25), none, .m (.app 1 8 (.t 22) (.t 24))⟩,
 ⟨(some 7), none, .q (.mv (.t 25))⟩])
 .skip)))
 (.reg [⟨(some 14), none, .q (.mv (.t 8))⟩,
 ⟨(some 15), none, .q (.bin .add (.t 14) (.c (.int .i64 1)))⟩,
 ⟨(some 8), none, .q (.mv (.t 15))⟩]))))))
 (.seq (.reg [⟨(some 26), none, .q (.mv (.t 7))⟩,
 ⟨(some 6), none, .q (.mv (.t 26))⟩])
 .ret))))⟩
theorem l_spec_l01Ball : lowF PA f_spec_l01Ball 3 [.k [1, 2, 3, 7, 8]] = some c_spec_l01Ball := by kernel_rfl
abbrev f_impl_areWords : FuncId := 82
def c_impl_areWords : AF := ⟨2, 24, [.t 4],
 (.seq (.reg [⟨(some 2), none, .m (.box (.t 0))⟩,
 ⟨(some 4), none, .q (.mv (.c (.bool false)))⟩])
 (.seq (.reg [⟨(some 8), none, .q (.ld true 1 (.t 2))⟩,
 ⟨(some 9), none, .c (.call 30 [(.t 8)])⟩,
 ⟨(some 5), none, .q (.mv (.t 9))⟩])
 (.seq (.seq (.reg [⟨(some 10), none, .q (.mv (.t 1))⟩,
 ⟨(some 11), none, .q (.len (.t 10))⟩,
 ⟨(some 12), none, .q (.mv (.c (.int .i64 0)))⟩])
 (.block 0 (.loop [5, 10, 11, 12] (.seq (.reg [⟨(some 13), none, .q (.bin .lss (.t 12) (.t 11))⟩])
 (.seq (.cond (.t 13)
 .skip
 (.exit 0))
 (.seq (.block 1 (.seq (.reg [⟨(some 14), none, .q (.ixs 1 (.t 10) (.t 12))⟩,
 ⟨(some 15), none, .q (.ld false 1 (.t 14))⟩,
 ⟨(some 7), none, .q (.mv (.t 15))⟩])
 (.seq (.reg [⟨(some 16), none, .q (.mv (.t 7))⟩,
 ⟨(some 17), none, .q (.bin .lss (.t 16) (.c (.int .i64 0)))⟩,
 ⟨(some 18), none, .q (.mv (.t 17))⟩,
 ⟨(some 19), (some (18, false)), .q (.mv (.t 7))⟩,
 ⟨(some 20), (some (18, false)), .q (.mv (.t 5))⟩,
 ⟨(some 21), (some (18, false)), .q (.bin .geq (.t 19) (.t 20))⟩,
 ⟨(some 22), none, .q (.pick (.t 18) (.c (.bool true)) (.t 21))⟩])
 (.cond (.t 22)
 (.seq (.reg [⟨(some 4), none, .q (.mv (.c (.bool false)))⟩])
 .ret)
 .skip))))
 (.reg [⟨(some 23), none, .q (.bin .add (.t 12) (.c (.int .i64 1)))⟩,
 ⟨(some 12), none, .q (.mv (.t 23))⟩])))))))
 (.seq (.reg [⟨(some 4), none, .q (.mv (.c (.bool true)))⟩])
 .ret))))⟩
theorem l_impl_areWords : lowF PA f_impl_areWords 2 [.k [5, 10, 11, 12]] = some c_impl_areWords := by kernel_rfl
abbrev f_impl_isCode : FuncId := 83
def c_impl_isCode : AF := ⟨2, 33, [.t 4],
 (.seq (.reg [⟨(some 2), none, .m (.box (.t 0))⟩,
 ⟨(some 4), none, .q (.mv (.c (.bool false)))⟩])
 (.seq (.seq (.reg [⟨(some 6), none, .q (.mv (.t 1))⟩,
 ⟨(some 7), none, .q (.len (.t 6))⟩,
 ⟨(some 8), none, .q (.ld true 1 (.t 2))⟩,
 ⟨(some 9), none, .c (.call 30 [(.t 8)])⟩,
 ⟨(some 10), none, .q (.bin .gtr (.t 7) (.t 9))⟩,
 ⟨(some 11), none, .q (.mv (.t 10))⟩,
 ⟨(some 12), (some (11, false)), .q (.ld true 1 (.t 2))⟩,
 ⟨(some 13), (some (11, false)), .q (.mv (.t 1))⟩,
 ⟨(some 14), (some (11, false)), .c (.call 82 [(.t 12), (.t 13)])⟩,
 ⟨(some 15), (some (11, false)), .q (.un .not (.t 14))⟩,
 ⟨(some 16), none, .q (.pick (.t 11) (.c (.bool true)) (.t 15))⟩])
 (.cond (.t 16)
 (.seq (.reg [⟨(some 4), none, .q (.mv (.c (.bool false)))⟩])
 .ret)
 .skip))
 (.seq (.seq (.reg [⟨(some 5), none, .q (.mv (.c (.int .i64 1)))⟩])
 (.block 0 (.loop [1, 5] (.seq (.seq (.reg [⟨(some 17), none, .q (.mv (.t 5))⟩,
 ⟨(some 18), none, .q (.mv (.t 1))⟩,
 ⟨(some 19), none, .q (.len (.t 18))⟩,
 ⟨(some 20), none, .q (.bin .lss (.t 17) (.t 19))⟩])
 (.cond (.t 20)
 .skip
 (.exit 0)))
 (.seq (.block 1 (.seq (.sch (.take 0 ⟨(some 23), none, .q (.mv (.t 1))⟩ (.take 1 ⟨(some 24), none, .q (.mv (.t 5))⟩ (.take 2 ⟨(some 25), none, .q (.ixs 1 (.t 23) (.t 24))⟩ (.take 3 ⟨(some 26), none, .q (.ld false 1 (.t 25))⟩ (.take 4 ⟨(some 27), none, .q (.mv (.t 1))⟩ (.take 5 ⟨(some 28), none, .q (.mv (.t 5))⟩ (.take 6 ⟨(some 29), none, .q (.bin .sub (.t 28) (.c (.int .i64 1)))⟩ (.take 7 ⟨(some 30), none, .q (.ixs 1 (.t 27) (.t 29))⟩ (.take 8 ⟨(some 31), none, .q (.ld false 1 (.t 30))⟩ (.take 9 ⟨(some 32), none, .q (.bin .leq (.t 26) (.t 31))⟩ .done)))))))))))
 (.cond (.t 32)
 (.seq (.reg [⟨(some 4), none, .q (.mv (.c (.bool false)))⟩])
 .ret)
 .skip)))
 (.reg [⟨(some 21), none, .q (.mv (.t 5))⟩,
 ⟨(some 22), none, .q (.bin .add (.t 21) (.c (.int .i64 1)))⟩,
 ⟨(some 5), none, .q (.mv (.t 22))⟩]))))))
 (.seq (.reg [⟨(some 4), none, .q (.mv (.c (.bool true)))⟩])
 .ret))))⟩
theorem l_impl_isCode : lowF PA f_impl_isCode 2 [.k [1, 5], .s (.take 0 (.take 1 (.take 2 (.take 3 (.take 4 (.take 5 (.take 6 (.take 7 (.take 8 (.take 9 .done))))))))))] = some c_impl_isCode := by kernel_rfl
abbrev f_impl_digitsOfAll : FuncId := 84
def c_impl_digitsOfAll : AF := ⟨2, 23, [.t 4],
 (.seq (.reg [⟨(some 2), none, .m (.box (.t 0))⟩,
 ⟨(some 4), none, .q (.mv (.c (.slice none 0 0)))⟩])
 (.seq (.reg [⟨(some 8), none, .m (.bsl 8 [])⟩,
 ⟨(some 5), none, .q (.mv (.t 8))⟩])
 (.seq (.seq (.reg [⟨(some 9), none, .q (.mv (.t 1))⟩,
 ⟨(some 10), none, .q (.len (.t 9))⟩,
 ⟨(some 11), none, .q (.mv (.c (.int .i64 0)))⟩])
 (.block 0 (.loop [2, 5, 9, 10, 11] (.seq (.reg [⟨(some 12), none, .q (.bin .lss (.t 11) (.t 10))⟩])
 (.seq (.cond (.t 12)
 .skip
 (.exit 0))
 (.seq (.block 1 (.seq (.reg [⟨(some 13), none, .q (.ixs 1 (.t 9) (.t 11))⟩,
 ⟨(some 14), none, .q (.ld false 1 (.t 13))⟩,
 ⟨(some 7), none, .q (.mv (.t 14))⟩])
 (.reg [⟨(some 15), none, .q (.mv (.t 5))⟩,
 ⟨(some 16), none, .q (.ld true 1 (.t 2))⟩,
 ⟨(some 17), none, .q (.mv (.t 7))⟩,
 ⟨(some 18), none, .c (.call 67 [(.t 16), (.t 17)])⟩,
 ⟨(some 19), none, .m (.bsl 8 [(.t 18)])⟩,
 ⟨(some 20), none, .m (.app 8 8 (.t 15) (.t 19))⟩,
 ⟨(some 5), none, .q (.mv (.t 20))⟩])))
 (.reg [⟨(some 21), none, .q (.bin .add (.t 11) (.c (.int .i64 1)))⟩,
 ⟨(some 11), none, .q (.mv (.t 21))⟩])))))))
 (.seq (.reg [⟨(some 22), none, .q (.mv (.t 5))⟩,
 ⟨(some 4), none, .q (.mv (.t 22))⟩])
 .ret))))⟩
theorem l_impl_digitsOfAll : lowF PA f_impl_digitsOfAll 2 [.k [2, 5, 9, 10, 11]] = some c_impl_digitsOfAll := by kernel_rfl
abbrev f_slices_Index___int64_int64_ : FuncId := 85
def c_slices_Index___int64_int64_ : AF := ⟨2, 19, [.t 4],
 (.seq (.reg [⟨(some 4), none, .q (.mv (.c (.int .i64 0)))⟩])
 (.seq (.seq (.reg [⟨(some 6), none, .q (.mv (.t 0))⟩,
 ⟨(some 7), none, .q (.len (.t 6))⟩,
 ⟨(some 8), none, .q (.mv (.c (.int .i64 0)))⟩])
 (.block 0 (.loop [0, 1, 7, 8] (.seq (.reg [⟨(some 9), none, .q (.bin .lss (.t 8) (.t 7))⟩])
 (.seq (.cond (.t 9)
 .skip
 (.exit 0))
 (.seq (.block 1 (.seq (.reg [⟨(some 10), none, .q (.mv (.t 8))⟩,
 ⟨(some 5), none, .q (.mv (.t 10))⟩])
 (.seq (.reg [⟨(some 11), none, .q (.mv (.t 1))⟩,
 ⟨(some 12), none, .q (.mv (.t 0))⟩,
 ⟨(some 13), none, .q (.mv (.t 5))⟩,
 ⟨(some 14), none, .q (.ixs 1 (.t 12) (.t 13))⟩,
 ⟨(some 15), none, .q (.ld false 1 (.t 14))⟩,
 ⟨(some 16), none, .q (.bin .eql (.t 11) (.t 15))⟩])
 (.cond (.t 16)
 (.seq (.reg [⟨(some 17), none, .q (.mv (.t 5))⟩,
 ⟨(some 4), none, .q (.mv (.t 17))⟩])
 .ret)
 .skip))))
 (.reg [⟨(some 18), none, .q (.bin .add (.t 8) (.c (.int .i64 1)))⟩,
 ⟨(some 8), none, .q (.mv (.t 18))⟩])))))))
 (.seq (.reg [⟨(some 4), none, .q (.mv (.c (.int .i64 (-1))))⟩])
 .ret)))⟩
theorem l_slices_Index___int64_int64_ : lowF PA f_slices_Index___int64_int64_ 2 [.k [0, 1, 7, 8]] = some c_slices_Index___int64_int64_ := by kernel_rfl
abbrev f_math_bits_Mul32 : FuncId := 86
abbrev f_math_bits_Mul64 : FuncId := 87
def c_math_bits_Mul64 : AF := ⟨2, 51, [.t 4, .t 5],
 (.seq (.reg [⟨(some 4), none, .q (.mv (.c (.int .u64 0)))⟩,
 ⟨(some 5), none, .q (.mv (.c (.int .u64 0)))⟩])
 (.seq (.reg [⟨(some 14), none, .q (.mv (.t 0))⟩,
 ⟨(some 15), none, .q (.bin .and (.t 14) (.c (.int .u64 4294967295)))⟩,
 ⟨(some 6), none, .q (.mv (.t 15))⟩])
 (.seq (.reg [⟨(some 16), none, .q (.mv (.t 0))⟩,
 ⟨(some 17), none, .q (.bin .shr (.t 16) (.c (.int .u64 32)))⟩,
 ⟨(some 7), none, .q (.mv (.t 17))⟩])
 (.seq (.reg [⟨(some 18), none, .q (.mv (.t 1))⟩,
 ⟨(some 19), none, .q (.bin .and (.t 18) (.c (.int .u64 4294967295)))⟩,
 ⟨(some 8), none, .q (.mv (.t 19))⟩])
 (.seq (.reg [⟨(some 20), none, .q (.mv (.t 1))⟩,
 ⟨(some 21), none, .q (.bin .shr (.t 20) (.c (.int .u64 32)))⟩,
 ⟨(some 9), none, .q (.mv (.t 21))⟩])
 (.seq (.reg [⟨(some 22), none, .q (.mv (.t 6))⟩,
 ⟨(some 23), none, .q (.mv (.t 8))⟩,
 ⟨(some 24), none, .q (.bin .mul (.t 22) (.t 23))⟩,
 ⟨(some 10), none, .q (.mv (.t 24))⟩])
 (.seq (.reg [⟨(some 25), none, .q (.mv (.t 7))⟩,
 ⟨(some 26), none, .q (.mv (.t 8))⟩,
 ⟨(some 27), none, .q (.bin .mul (.t 25) (.t 26))⟩,
 ⟨(some 28), none, .q (.mv (.t 10))⟩,
 ⟨(some 29), none, .q (.bin .shr (.t 28) (.c (.int .u64 32)))⟩,
 ⟨(some 30), none, .q (.bin .add (.t 27) (.t 29))⟩,
 ⟨(some 11), none, .q (.mv (.t 30))⟩])
 (.seq (.reg [⟨(some 31), none, .q (.mv (.t 11))⟩,
 ⟨(some 32), none, .q (.bin .and (.t 31) (.c (.int .u64 4294967295)))⟩,
 ⟨(some 12), none, .q (.mv (.t 32))⟩])
 (.seq (.reg [⟨(some 33), none, .q (.mv (.t 11))⟩,
 ⟨(some 34), none, .q (.bin .shr (.t 33) (.c (.int .u64 32)))⟩,
 ⟨(some 13), none, .q (.mv (.t 34))⟩])
 (.seq (.reg [⟨(some 35), none, .q (.mv (.t 12))⟩,
 ⟨(some 36), none, .q (.mv (.t 6))⟩,
 ⟨(some 37), none, .q (.mv (.t 9))⟩,
 ⟨(some 38), none, .q (.bin .mul (.t 36) (.t 37))⟩,
 ⟨(some 39), none, .q (.bin .add (.t 35) (.t 38))⟩,
 ⟨(some 12), none, .q (.mv (.t 39))⟩])
 (.seq (.reg [⟨(some 40), none, .q (.mv (.t 7))⟩,
 ⟨(some 41), none, .q (.mv (.t 9))⟩,
 ⟨(some 42), none, .q (.bin .mul (.t 40) (.t 41))⟩,
 ⟨(some 43), none, .q (.mv (.t 13))⟩,
 ⟨(some 44), none, .q (.bin .add (.t 42) (.t 43))⟩,
 ⟨(some 45), none, .q (.mv (.t 12))⟩,
 ⟨(some 46), none, .q (.bin .shr (.t 45) (.c (.int .u64 32)))⟩,
 ⟨(some 47), none, .q (.bin .add (.t 44) (.t 46))⟩,
 ⟨(some 4), none, .q (.mv (.t 47))⟩])
 (.seq (.reg [⟨(some 48), none, .q (.mv (.t 0))⟩,
 ⟨(some 49), none, .q (.mv (.t 1))⟩,
 ⟨(some 50), none, .q (.bin .mul (.t 48) (.t 49))⟩,
 ⟨(some 5), none, .q (.mv (.t 50))⟩])
 .ret))))))))))))⟩
theorem l_math_bits_Mul64 : lowF PA f_math_bits_Mul64 2 [] = some c_math_bits_Mul64 := by kernel_rfl
abbrev f_slices_insertionSortOrdered_int64_ : FuncId := 88
def c_slices_insertionSortOrdered_int64_ : AF := ⟨3, 49, [],
 (.seq (.reg [⟨(some 8), none, .q (.mv (.t 1))⟩,
 ⟨(some 9), none, .q (.bin .add (.t 8) (.c (.int .i64 1)))⟩,
 ⟨(some 6), none, .q (.mv (.t 9))⟩])
 (.block 0 (.loop [0, 1, 2, 6, 49] (.seq (.seq (.reg [⟨(some 10), none, .q (.mv (.t 6))⟩,
 ⟨(some 11), none, .q (.mv (.t 2))⟩,
 ⟨(some 12), none, .q (.bin .lss (.t 10) (.t 11))⟩])
 (.cond (.t 12)
 .skip
 (.exit 0)))
 (.seq (.block 1 (.seq (.reg [⟨(some 15), none, .q (.mv (.t 6))⟩,
 ⟨(some 7), none, .q (.mv (.t 15))⟩])
 (.block 2 (.loop [0, 1, 2, 6, 7, 49] (.seq (.seq (.sch (.take 0 ⟨(some 16), none, .q (.mv (.t 7))⟩ (.take 1 ⟨(some 17), none, .q (.mv (.t 1))⟩ (.take 2 ⟨(some 18), none, .q (.bin .gtr (.t 16) (.t 17))⟩ (.take 3 ⟨(some 19), none, .q (.mv (.t 18))⟩ (.take 4 ⟨(some 20), (some (19, true)), .q (.mv (.t 0))⟩ (.take 5 ⟨(some 21), (some (19, true)), .q (.mv (.t 7))⟩ (.take 6 ⟨(some 22), (some (19, true)), .q (.ixs 1 (.t 20) (.t 21))⟩ (.take 7 ⟨(some 23), (some (19, true)), .q (.ld false 1 (.t 22))⟩ (.take 8 ⟨(some 24), (some (19, true)), .q (.mv (.t 0))⟩ (.take 9 ⟨(some 25), (some (19, true)), .q (.mv (.t 7))⟩ (.take 10 ⟨(some 26), (some (19, true)), .q (.bin .sub (.t 25) (.c (.int .i64 1)))⟩ (.take 11 ⟨(some 27), (some (19, true)), .q (.ixs 1 (.t 24) (.t 26))⟩ (.take 12 ⟨(some 28), (some (19, true)), .q (.ld false 1 (.t 27))⟩ (.one ⟨(some 29), (some (19, true)), .c (.call 94 [(.t 23), (.t 28)])⟩ [12, 7] (.take 14 ⟨(some 30), none, .q (.pick (.t 19) (.t 29) (.c (.bool false)))⟩ .done))))))))))))))))
 (.cond (.t 30)
 .skip
 (.exit 2)))
 (.seq (.block 3 (.sch (.take 0 ⟨(some 33), none, .q (.mv (.t 0))⟩ (.take 1 ⟨(some 34), none, .q (.mv (.t 7))⟩ (.take 2 ⟨(some 35), none, .q (.mv (.t 0))⟩ (.take 3 ⟨(some 36), none, .q (.mv (.t 7))⟩ (.take 4 ⟨(some 37), none, .q (.bin .sub (.t 36) (.c (.int .i64 1)))⟩ (.take 5 ⟨(some 38), none, .q (.mv (.t 0))⟩ (.take 6 ⟨(some 39), none, .q (.mv (.t 7))⟩ (.take 7 ⟨(some 40), none, .q (.bin .sub (.t 39) (.c (.int .i64 1)))⟩ (.take 8 ⟨(some 41), none, .q (.ixs 1 (.t 38) (.t 40))⟩ (.take 9 ⟨(some 42), none, .q (.ld false 1 (.t 41))⟩ (.take 10 ⟨(some 43), none, .q (.mv (.t 0))⟩ (.take 11 ⟨(some 44), none, .q (.mv (.t 7))⟩ (.take 12 ⟨(some 45), none, .q (.ixs 1 (.t 43) (.t 44))⟩ (.take 13 ⟨(some 46), none, .q (.ld false 1 (.t 45))⟩ (.take 14 ⟨(some 47), none, .q (.ixs 1 (.t 33) (.t 34))⟩ (.one ⟨none, none, .m (.st false 1 (.t 47) (.t 42))⟩ [13, 9] (.take 16 ⟨(some 48), none, .q (.ixs 1 (.t 35) (.t 37))⟩ (.one ⟨none, none, .m (.st false 1 (.t 48) (.t 46))⟩ [13, 9] .done))))))))))))))))))))
 (.reg [⟨(some 31), none, .q (.mv (.t 7))⟩,
 ⟨(some 32), none, .q (.bin .sub (.t 31) (.c (.int .i64 1)))⟩,
 ⟨(some 7), none, .q (.mv (.t 32))⟩])))))))
 (.reg [⟨(some 13), none, .q (.mv (.t 6))⟩,
 ⟨(some 14), none, .q (.bin .add (.t 13) (.c (.int .i64 1)))⟩,
 ⟨(some 6), none, .q (.mv (.t 14))⟩]))))))⟩
theorem l_slices_insertionSortOrdered_int64_ : lowF PA f_slices_insertionSortOrdered_int64_ 3 [.k [0, 1, 2, 6, 49], .k [0, 1, 2, 6, 7, 49], .s (.take 0 (.take 1 (.take 2 (.take 3 (.take 4 (.take 5 (.take 6 (.take 7 (.take 8 (.take 9 (.take 10 (.take 11 (.take 12 (.one 13 (.take 14 .done))))))))))))))), .s (.take 0 (.take 1 (.take 2 (.take 3 (.take 4 (.take 5 (.take 6 (.take 7 (.take 8 (.take 9 (.take 10 (.take 11 (.take 12 (.take 13 (.take 14 (.one 15 (.take 16 (.one 17 .done))))))))))))))))))] = some c_slices_insertionSortOrdered_int64_ := by kernel_rfl
abbrev f_slices_heapSortOrdered_int64_ : FuncId := 89
abbrev f_slices_breakPatternsOrdered_int64_ : FuncId := 90
abbrev f_slices_choosePivotOrdered_int64_ : FuncId := 91
abbrev f_slices_reverseRangeOrdered_int64_ : FuncId := 92
abbrev f_slices_partialInsertionSortOrdered_int64_ : FuncId := 93
abbrev f_cmp_Less_int64_ : FuncId := 94
def c_cmp_Less_int64_ : AF := ⟨2, 17, [.t 4],
 (.seq (.reg [⟨(some 4), none, .q (.mv (.c (.bool false)))⟩])
 (.seq (.reg [⟨(some 5), none, .q (.mv (.t 0))⟩,
 ⟨(some 6), none, .c (.call 105 [(.t 5)])⟩,
 ⟨(some 7), none, .q (.mv (.t 6))⟩,
 ⟨(some 8), (some (7, true)), .q (.mv (.t 1))⟩,
 ⟨(some 9), (some (7, true)), .c (.call 105 [(.t 8)])⟩,
 ⟨(some 10), (some (7, true)), .q (.un .not (.t 9))⟩,
 ⟨(some 11), none, .q (.pick (.t 7) (.t 10) (.c (.bool false)))⟩,
 ⟨(some 12), none, .q (.mv (.t 11))⟩,
 ⟨(some 13), (some (12, false)), .q (.mv (.t 0))⟩,
 ⟨(some 14), (some (12, false)), .q (.mv (.t 1))⟩,
 ⟨(some 15), (some (12, false)), .q (.bin .lss (.t 13) (.t 14))⟩,
 ⟨(some 16), none, .q (.pick (.t 12) (.c (.bool true)) (.t 15))⟩,
 ⟨(some 4), none, .q (.mv (.t 16))⟩])
 .ret))⟩
theorem l_cmp_Less_int64_ : lowF PA f_cmp_Less_int64_ 2 [] = some c_cmp_Less_int64_ := by kernel_rfl
abbrev f_slices_partitionEqualOrdered_int64_ : FuncId := 95
abbrev f_slices_partitionOrdered_int64_ : FuncId := 96
abbrev f_math_bits_Len32 : FuncId := 97
abbrev f_math_bits_Len64 : FuncId := 98
def c_math_bits_Len64 : AF := ⟨1, 25, [.t 2],
 (.seq (.reg [⟨(some 2), none, .q (.mv (.c (.int .i64 0)))⟩])
 (.seq (.seq (.reg [⟨(some 3), none, .q (.mv (.t 0))⟩,
 ⟨(some 4), none, .q (.bin .geq (.t 3) (.c (.int .u64 4294967296)))⟩])
 (.cond (.t 4)
 (.seq (.reg [⟨(some 5), none, .q (.mv (.t 0))⟩,
 ⟨(some 6), none, .q (.bin .shr (.t 5) (.c (.int .u64 32)))⟩,
 ⟨(some 0), none, .q (.mv (.t 6))⟩])
 (.reg [⟨(some 2), none, .q (.mv (.c (.int .i64 32)))⟩]))
 .skip))
 (.seq (.seq (.reg [⟨(some 7), none, .q (.mv (.t 0))⟩,
 ⟨(some 8), none, .q (.bin .geq (.t 7) (.c (.int .u64 65536)))⟩])
 (.cond (.t 8)
 (.seq (.reg [⟨(some 9), none, .q (.mv (.t 0))⟩,
 ⟨(some 10), none, .q (.bin .shr (.t 9) (.c (.int .u64 16)))⟩,
 ⟨(some 0), none, .q (.mv (.t 10))⟩])
 (.reg [⟨(some 11), none, .q (.mv (.t 2))⟩,
 ⟨(some 12), none, .q (.bin .add (.t 11) (.c (.int .i64 16)))⟩,
 ⟨(some 2), none, .q (.mv (.t 12))⟩]))
 .skip))
 (.seq (.seq (.reg [⟨(some 13), none, .q (.mv (.t 0))⟩,
 ⟨(some 14), none, .q (.bin .geq (.t 13) (.c (.int .u64 256)))⟩])
 (.cond (.t 14)
 (.seq (.reg [⟨(some 15), none, .q (.mv (.t 0))⟩,
 ⟨(some 16), none, .q (.bin .shr (.t 15) (.c (.int .u64 8)))⟩,
 ⟨(some 0), none, .q (.mv (.t 16))⟩])
 (.reg [⟨(some 17), none, .q (.mv (.t 2))⟩,
 ⟨(some 18), none, .q (.bin .add (.t 17) (.c (.int .i64 8)))⟩,
 ⟨(some 2), none, .q (.mv (.t 18))⟩]))
 .skip))
 (.seq (.reg [⟨(some 19), none, .q (.mv (.t 2))⟩,
 ⟨(some 20), none, .q (.mv (.t 0))⟩,
 ⟨(some 21), none, .q (.cvt .u8 (.t 20))⟩,
 ⟨(some 22), none, .q (.ixt (.c (.string ⟨#[0, 1, 2, 2, 3, 3, 3, 3, 4, 4, 4, 4, 4, 4, 4, 4, 5, 5, 5, 5, 5, 5, 5, 5, 5, 5, 5, 5, 5, 5, 5, 5, 6, 6, 6, 6, 6, 6, 6, 6, 6, 6, 6, 6, 6, 6, 6, 6, 6, 6, 6, 6, 6, 6, 6, 6, 6, 6, 6, 6, 6, 6, 6, 6, 7, 7, 7, 7, 7, 7, 7, 7, 7, 7, 7, 7, 7, 7, 7, 7, 7, 7, 7, 7, 7, 7, 7, 7, 7, 7, 7, 7, 7, 7, 7, 7, 7, 7, 7, 7, 7, 7, 7, 7, 7, 7, 7, 7, 7, 7, 7, 7, 7, 7, 7, 7, 7, 7, 7, 7, 7, 7, 7, 7, 7, 7, 7, 7, 8, 8, 8, 8, 8, 8, 8, 8, 8, 8, 8, 8, 8, 8, 8, 8, 8, 8, 8, 8, 8, 8, 8, 8, 8, 8, 8, 8, 8, 8, 8, 8, 8, 8, 8, 8, 8, 8, 8, 8, 8, 8, 8, 8, 8, 8, 8, 8, 8, 8, 8, 8, 8, 8, 8, 8, 8, 8, 8, 8, 8, 8, 8, 8, 8, 8, 8, 8, 8, 8, 8, 8, 8, 8, 8, 8, 8, 8, 8, 8, 8, 8, 8, 8, 8, 8, 8, 8, 8, 8, 8, 8, 8, 8, 8, 8, 8, 8, 8, 8, 8, 8, 8, 8, 8, 8, 8, 8, 8, 8, 8, 8, 8, 8, 8, 8, 8, 8, 8, 8, 8, 8, 8, 8, 8, 8, 8, 8]⟩)) (.t 21))⟩,
 ⟨(some 23), none, .q (.cvt .i64 (.t 22))⟩,
 ⟨(some 24), none, .q (.bin .add (.t 19) (.t 23))⟩,
 ⟨(some 2), none, .q (.mv (.t 24))⟩])
 .ret)))))⟩
theorem l_math_bits_Len64 : lowF PA f_math_bits_Len64 1 [] = some c_math_bits_Len64 := by kernel_rfl
abbrev f_spec_l01Distance : FuncId := 99
def c_spec_l01Distance : AF := ⟨3, 49, [.t 6],
 (.seq (.reg [⟨(some 3), none, .m (.box (.t 0))⟩,
 ⟨(some 6), none, .q (.mv (.c (.int .i64 0)))⟩])
 (.seq (.reg [⟨(some 7), none, .q (.mv (.c (.int .i64 0)))⟩])
 (.seq (.seq (.reg [⟨(some 9), none, .q (.fad 0 (.t 3))⟩,
 ⟨(some 10), none, .q (.ld false 1 (.t 9))⟩,
 ⟨(some 11), none, .q (.len (.t 10))⟩,
 ⟨(some 12), none, .q (.bin .sub (.t 11) (.c (.int .i64 1)))⟩,
 ⟨(some 8), none, .q (.mv (.t 12))⟩])
 (.block 0 (.loop [1, 2, 3, 7, 8] (.seq (.seq (.reg [⟨(some 13), none, .q (.mv (.t 8))⟩,
 ⟨(some 14), none, .q (.bin .geq (.t 13) (.c (.int .i64 0)))⟩])
 (.cond (.t 14)
 .skip
 (.exit 0)))
 (.seq (.block 1 (.seq (.seq (.sch (.take 0 ⟨(some 17), none, .q (.mv (.t 1))⟩ (.take 1 ⟨(some 18), none, .q (.fad 0 (.t 3))⟩ (.take 2 ⟨(some 19), none, .q (.ld false 1 (.t 18))⟩ (.take 3 ⟨(some 20), none, .q (.mv (.t 8))⟩ (.take 4 ⟨(some 21), none, .q (.ixs 1 (.t 19) (.t 20))⟩ (.take 5 ⟨(some 22), none, .q (.ld false 1 (.t 21))⟩ (.take 6 ⟨(some 23), none, .q (.bin .rem (.t 17) (.t 22))⟩ (.take 7 ⟨(some 24), none, .q (.mv (.t 2))⟩ (.take 8 ⟨(some 25), none, .q (.fad 0 (.t 3))⟩ (.take 9 ⟨(some 26), none, .q (.ld false 1 (.t 25))⟩ (.take 10 ⟨(some 27), none, .q (.mv (.t 8))⟩ (.take 11 ⟨(some 28), none, .q (.ixs 1 (.t 26) (.t 27))⟩ (.take 12 ⟨(some 29), none, .q (.ld false 1 (.t 28))⟩ (.take 13 ⟨(some 30), none, .q (.bin .rem (.t 24) (.t 29))⟩ (.take 14 ⟨(some 31), none, .q (.bin .neq (.t 23) (.t 30))⟩ .done))))))))))))))))
 (.cond (.t 31)
 (.reg [⟨(some 32), none, .q (.mv (.t 7))⟩,
 ⟨(some 33), none, .q (.bin .add (.t 32) (.c (.int .i64 1)))⟩,
 ⟨(some 7), none, .q (.mv (.t 33))⟩])
 .skip))
 (.seq (.reg [⟨(some 34), none, .q (.mv (.t 1))⟩,
 ⟨(some 35), none, .q (.fad 0 (.t 3))⟩,
 ⟨(some 36), none, .q (.ld false 1 (.t 35))⟩,
 ⟨(some 37), none, .q (.mv (.t 8))⟩,
 ⟨(some 38), none, .q (.ixs 1 (.t 36) (.t 37))⟩,
 ⟨(some 39), none, .q (.ld false 1 (.t 38))⟩,
 ⟨(some 40), none, .q (.bin .quo (.t 34) (.t 39))⟩,
 ⟨(some 1), none, .q (.mv (.t 40))⟩])
 (.reg [⟨(some 41), none, .q (.mv (.t 2))⟩,
 ⟨(some 42), none, .q (.fad 0 (.t 3))⟩,
 ⟨(some 43), none, .q (.ld false 1 (.t 42))⟩,
 ⟨(some 44), none, .q (.mv (.t 8))⟩,
 ⟨(some 45), none, .q (.ixs 1 (.t 43) (.t 44))⟩,
 ⟨(some 46), none, .q (.ld false 1 (.t 45))⟩,
 ⟨(some 47), none, .q (.bin .quo (.t 41) (.t 46))⟩,
 ⟨(some 2), none, .q (.mv (.t 47))⟩]))))
 (.reg [⟨(some 15), none, .q (.mv (.t 8))⟩,
 ⟨(some 16), none, .q (.bin .sub (.t 15) (.c (.int .i64 1)))⟩,
 ⟨(some 8), none, .q (.mv (.t 16))⟩]))))))
 (.seq (.reg [⟨(some 48), none, .q (.mv (.t 7))⟩,
 ⟨(some 6), none, .q (.mv (.t 48))⟩])
 .ret))))⟩
theorem l_spec_l01Distance : lowF PA f_spec_l01Distance 3 [.k [1, 2, 3, 7, 8], .s (.take 0 (.take 1 (.take 2 (.take 3 (.take 4 (.take 5 (.take 6 (.take 7 (.take 8 (.take 9 (.take 10 (.take 11 (.take 12 (.take 13 (.take 14 .done)))))))))))))))] = some c_spec_l01Distance := by kernel_rfl
abbrev f_slices_siftDownOrdered_int64_ : FuncId := 100
abbrev f_slices_nextPowerOfTwo : FuncId := 101
abbrev f___slices_xorshift__Next : FuncId := 102
abbrev f_slices_medianAdjacentOrdered_int64_ : FuncId := 103
abbrev f_slices_medianOrdered_int64_ : FuncId := 104
abbrev f_cmp_isNaN_int64_ : FuncId := 105
def c_cmp_isNaN_int64_ : AF := ⟨1, 6, [.t 2],
 (.seq (.reg [⟨(some 2), none, .q (.mv (.c (.bool false)))⟩])
 (.seq (.reg [⟨(some 3), none, .q (.mv (.t 0))⟩,
 ⟨(some 4), none, .q (.mv (.t 0))⟩,
 ⟨(some 5), none, .q (.bin .neq (.t 3) (.t 4))⟩,
 ⟨(some 2), none, .q (.mv (.t 5))⟩])
 .ret))⟩
theorem l_cmp_isNaN_int64_ : lowF PA f_cmp_isNaN_int64_ 1 [] = some c_cmp_isNaN_int64_ := by kernel_rfl
abbrev f_slices_order2Ordered_int64_ : FuncId := 106
def sort_ren : Go.Shelf.Ren := ⟨fun | 5 => 57 | 8 => 80 | 7 => 79 | 19 => 97 | 20 => 98 | 10 => 88 | 11 => 89 | 12 => 90 | 13 => 91 | 14 => 92 | 15 => 93 | 16 => 94 | 17 => 95 | 18 => 96 | 30 => 100 | 31 => 101 | 32 => 102 | 33 => 103 | 34 => 104 | 35 => 105 | 40 => 106 | n => n, fun | 23 => 24 | 25 => 2 | 3 => 3 | 32 => 87 | 22 => 24 | 0 => 0 | 44 => 101 | 46 => 77 | 4 => 4 | 36 => 108 | 35 => 107 | 41 => 113 | 5 => 5 | 9 => 9 | 53 => 116 | 57 => 120 | 63 => 122 | 64 => 123 | n => n, fun | n => n⟩
theorem sort_lay : Go.Proofs.SlLaysM.n5 Tryz.prog sort_ren := {
  mixed := by kernel_rfl
  f5 := ⟨Tryz.f57.name, by decide, Tryz.func57.trans (congrArg some (by kernel_rfl))⟩
  f7 := ⟨Tryz.f79.name, by decide, Tryz.func79.trans (congrArg some (by kernel_rfl))⟩
  f8 := Tryz.func80.trans (congrArg some (by kernel_rfl))
  f10 := ⟨Tryz.f88.name, by decide, Tryz.func88.trans (congrArg some (by kernel_rfl))⟩
  f11 := ⟨Tryz.f89.name, by decide, Tryz.func89.trans (congrArg some (by kernel_rfl))⟩
  f12 := ⟨Tryz.f90.name, by decide, Tryz.func90.trans (congrArg some (by kernel_rfl))⟩
  f13 := ⟨Tryz.f91.name, by decide, Tryz.func91.trans (congrArg some (by kernel_rfl))⟩
  f14 := ⟨Tryz.f92.name, by decide, Tryz.func92.trans (congrArg some (by kernel_rfl))⟩
  f15 := ⟨Tryz.f93.name, by decide, Tryz.func93.trans (congrArg some (by kernel_rfl))⟩
  f16 := ⟨Tryz.f94.name, by decide, Tryz.func94.trans (congrArg some (by kernel_rfl))⟩
  f17 := ⟨Tryz.f95.name, by decide, Tryz.func95.trans (congrArg some (by kernel_rfl))⟩
  f18 := ⟨Tryz.f96.name, by decide, Tryz.func96.trans (congrArg some (by kernel_rfl))⟩
  f19 := Tryz.func97.trans (congrArg some (by kernel_rfl))
  f20 := Tryz.func98.trans (congrArg some (by kernel_rfl))
  f30 := ⟨Tryz.f100.name, by decide, Tryz.func100.trans (congrArg some (by kernel_rfl))⟩
  f31 := Tryz.func101.trans (congrArg some (by kernel_rfl))
  f32 := Tryz.func102.trans (congrArg some (by kernel_rfl))
  f33 := ⟨Tryz.f103.name, by decide, Tryz.func103.trans (congrArg some (by kernel_rfl))⟩
  f34 := ⟨Tryz.f104.name, by decide, Tryz.func104.trans (congrArg some (by kernel_rfl))⟩
  f35 := ⟨Tryz.f105.name, by decide, Tryz.func105.trans (congrArg some (by kernel_rfl))⟩
  f40 := ⟨Tryz.f106.name, by decide, Tryz.func106.trans (congrArg some (by kernel_rfl))⟩
  t0 := Tryz.underlying0
  a0 := Tryz.isAgg0
  z0 := Tryz.sizeOf0
  v0 := Tryz.zeroValue0
  t3 := Tryz.underlying3
  a3 := Tryz.isAgg3
  z3 := Tryz.sizeOf3
  v3 := Tryz.zeroValue3
  t4 := Tryz.underlying4
  a4 := Tryz.isAgg4
  z4 := Tryz.sizeOf4
  v4 := Tryz.zeroValue4
  t5 := Tryz.underlying5
  a5 := Tryz.isAgg5
  z5 := Tryz.sizeOf5
  v5 := Tryz.zeroValue5
  t9 := Tryz.underlying9
  a9 := Tryz.isAgg9
  z9 := Tryz.sizeOf9
  v9 := Tryz.zeroValue9
  t22 := Tryz.underlying24
  a22 := Tryz.isAgg24
  z22 := Tryz.sizeOf24
  v22 := Tryz.zeroValue24
  t23 := Tryz.underlying24
  a23 := Tryz.isAgg24
  z23 := Tryz.sizeOf24
  v23 := Tryz.zeroValue24
  t25 := Tryz.underlying2
  a25 := Tryz.isAgg2
  z25 := Tryz.sizeOf2
  v25 := Tryz.zeroValue2
  t32 := Tryz.underlying87
  a32 := Tryz.isAgg87
  z32 := Tryz.sizeOf87
  v32 := Tryz.zeroValue87
  t35 := Tryz.underlying107
  a35 := Tryz.isAgg107
  z35 := Tryz.sizeOf107
  v35 := Tryz.zeroValue107
  t36 := Tryz.underlying108
  a36 := Tryz.isAgg108
  z36 := Tryz.sizeOf108
  v36 := Tryz.zeroValue108
  t41 := Tryz.underlying113
  a41 := Tryz.isAgg113
  z41 := Tryz.sizeOf113
  v41 := Tryz.zeroValue113
  t44 := Tryz.underlying101
  a44 := Tryz.isAgg101
  z44 := Tryz.sizeOf101
  v44 := Tryz.zeroValue101
  t46 := Tryz.underlying77
  a46 := Tryz.isAgg77
  z46 := Tryz.sizeOf77
  v46 := Tryz.zeroValue77
  t53 := Tryz.underlying116
  a53 := Tryz.isAgg116
  z53 := Tryz.sizeOf116
  v53 := Tryz.zeroValue116
  t57 := Tryz.underlying120
  a57 := Tryz.isAgg120
  z57 := Tryz.sizeOf120
  v57 := Tryz.zeroValue120
  t63 := Tryz.underlying122
  a63 := Tryz.isAgg122
  z63 := Tryz.sizeOf122
  v63 := Tryz.zeroValue122
  t64 := Tryz.underlying123
  a64 := Tryz.isAgg123
  z64 := Tryz.sizeOf123
  v64 := Tryz.zeroValue123 }
theorem sort_calls : SortCalls PA f_slices_Sort___int64_int64_ := fun blk off cap zs w h1 h2 h3 => AnyM.slices_Sort_int sort_lay blk off cap zs w h1 h2 h3
end Go.Proofs.YtfgjfjgkoabfjacGreat.Va
