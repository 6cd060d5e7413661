/- The code of the functions that FnApart reaches, laid out for a walk: each is what the lowering makes of the program's own text. Condition: none. -/
import Derived.Test.YtgmocipfgfnolaaGreatDoorVa2
import Derived.Test.YtgmocipfgfnolaaGreatDoorProg
import Derived.KernelRfl
set_option linter.all false
set_option linter.unusedSimpArgs false
set_option linter.unusedVariables false
namespace Go.Proofs.YtgmocipfgfnolaaGreatDoor.Va
open Go
noncomputable abbrev PA : Program := Go.Proofs.Tryz.prog
abbrev g_math_bits_deBruijn64tab : Nat := 0
abbrev f_laws_FnApart : FuncId := 3
def c_laws_FnApart : AF := ⟨1, 363, [.t 2],
 (.seq (.reg [⟨(some 2), none, .q (.mv (.c (.bool false)))⟩])
 (.seq (.seq (.reg [⟨(some 52), none, .q (.mv (.t 0))⟩,
 ⟨(some 53), none, .c (.call 4 [(.t 52)])⟩])
 (.cond (.t 53)
 (.seq (.reg [⟨(some 2), none, .q (.mv (.c (.bool true)))⟩])
 .ret)
 .skip))
 (.seq (.reg [⟨(some 55), none, .q (.mv (.t 0))⟩,
 ⟨(some 56), none, .c (.call 5 [(.t 55)])⟩,
 ⟨(some 54), none, .q (.mv (.t 56))⟩,
 ⟨(some 57), none, .q (.ext (.t 54) 0)⟩,
 ⟨(some 58), none, .q (.ext (.t 54) 1)⟩,
 ⟨(some 3), none, .m (.alloc [(.v (.slice none 0 0))])⟩,
 ⟨none, none, .m (.st true 1 (.t 3) (.t 57))⟩,
 ⟨(some 4), none, .q (.mv (.t 58))⟩])
 (.seq (.reg [⟨(some 60), none, .q (.ld true 1 (.t 3))⟩,
 ⟨(some 61), none, .q (.mv (.t 4))⟩,
 ⟨(some 62), none, .c (.call 6 [(.t 60), (.t 61)])⟩,
 ⟨(some 59), none, .q (.mv (.t 62))⟩,
 ⟨(some 63), none, .q (.ext (.t 59) 0)⟩,
 ⟨(some 64), none, .q (.ext (.t 59) 1)⟩,
 ⟨(some 5), none, .q (.mv (.t 63))⟩,
 ⟨(some 6), none, .q (.mv (.t 64))⟩])
 (.seq (.seq (.reg [⟨(some 66), none, .q (.ld true 1 (.t 3))⟩,
 ⟨(some 67), none, .q (.mv (.t 4))⟩,
 ⟨(some 68), none, .c (.call 7 [(.t 66), (.t 67)])⟩,
 ⟨(some 65), none, .q (.mv (.t 68))⟩,
 ⟨(some 69), none, .q (.ext (.t 65) 0)⟩,
 ⟨(some 70), none, .q (.ext (.t 65) 1)⟩,
 ⟨(some 7), none, .q (.mv (.t 69))⟩,
 ⟨(some 8), none, .q (.mv (.t 70))⟩])
 (.seq (.reg [⟨(some 71), none, .q (.mv (.t 6))⟩,
 ⟨(some 72), none, .q (.mv (.t 8))⟩,
 ⟨(some 73), none, .q (.bin .neq (.t 71) (.t 72))⟩,
 ⟨(some 74), none, .q (.mv (.t 73))⟩,
 ⟨(some 75), (some (74, false)), .q (.mv (.t 5))⟩,
 ⟨(some 76), (some (74, false)), .q (.mv (.t 7))⟩,
 ⟨(some 77), (some (74, false)), .c (.call 8 [(.t 75), (.t 76)])⟩,
 ⟨(some 78), (some (74, false)), .q (.un .not (.t 77))⟩,
 ⟨(some 79), none, .q (.pick (.t 74) (.c (.bool true)) (.t 78))⟩])
 (.cond (.t 79)
 (.seq (.reg [⟨(some 2), none, .q (.mv (.c (.bool false)))⟩])
 .ret)
 .skip)))
 (.seq (.reg [⟨(some 81), none, .q (.ld true 1 (.t 3))⟩,
 ⟨(some 82), none, .q (.mv (.t 4))⟩,
 ⟨(some 83), none, .c (.call 9 [(.t 81), (.t 82)])⟩,
 ⟨(some 80), none, .q (.mv (.t 83))⟩,
 ⟨(some 84), none, .q (.ext (.t 80) 0)⟩,
 ⟨(some 85), none, .q (.ext (.t 80) 1)⟩,
 ⟨(some 9), none, .q (.mv (.t 84))⟩,
 ⟨(some 10), none, .q (.mv (.t 85))⟩])
 (.seq (.seq (.reg [⟨(some 87), none, .q (.ld true 1 (.t 3))⟩,
 ⟨(some 88), none, .q (.mv (.t 4))⟩,
 ⟨(some 89), none, .c (.call 10 [(.t 87), (.t 88)])⟩,
 ⟨(some 86), none, .q (.mv (.t 89))⟩,
 ⟨(some 90), none, .q (.ext (.t 86) 0)⟩,
 ⟨(some 91), none, .q (.ext (.t 86) 1)⟩,
 ⟨(some 11), none, .q (.mv (.t 90))⟩,
 ⟨(some 12), none, .q (.mv (.t 91))⟩])
 (.seq (.reg [⟨(some 92), none, .q (.mv (.t 10))⟩,
 ⟨(some 93), none, .q (.mv (.t 12))⟩,
 ⟨(some 94), none, .q (.bin .neq (.t 92) (.t 93))⟩,
 ⟨(some 95), none, .q (.mv (.t 94))⟩,
 ⟨(some 96), (some (95, false)), .q (.mv (.t 9))⟩,
 ⟨(some 97), (some (95, false)), .q (.mv (.t 11))⟩,
 ⟨(some 98), (some (95, false)), .q (.bin .neq (.t 96) (.t 97))⟩,
 ⟨(some 99), none, .q (.pick (.t 95) (.c (.bool true)) (.t 98))⟩])
 (.cond (.t 99)
 (.seq (.reg [⟨(some 2), none, .q (.mv (.c (.bool false)))⟩])
 .ret)
 .skip)))
 (.seq (.reg [⟨(some 101), none, .q (.mv (.t 0))⟩,
 ⟨(some 102), none, .c (.call 11 [(.t 101)])⟩,
 ⟨(some 100), none, .q (.mv (.t 102))⟩,
 ⟨(some 103), none, .q (.ext (.t 100) 0)⟩,
 ⟨(some 104), none, .q (.ext (.t 100) 1)⟩,
 ⟨(some 13), none, .m (.alloc [(.v (.slice none 0 0))])⟩,
 ⟨none, none, .m (.st true 1 (.t 13) (.t 103))⟩,
 ⟨(some 14), none, .q (.mv (.t 104))⟩])
 (.seq (.reg [⟨(some 106), none, .q (.ld true 1 (.t 13))⟩,
 ⟨(some 107), none, .q (.mv (.t 14))⟩,
 ⟨(some 108), none, .c (.call 12 [(.t 106), (.t 107)])⟩,
 ⟨(some 105), none, .q (.mv (.t 108))⟩,
 ⟨(some 109), none, .q (.ext (.t 105) 0)⟩,
 ⟨(some 110), none, .q (.ext (.t 105) 1)⟩,
 ⟨(some 15), none, .q (.mv (.t 109))⟩,
 ⟨(some 16), none, .q (.mv (.t 110))⟩])
 (.seq (.seq (.reg [⟨(some 112), none, .q (.ld true 1 (.t 13))⟩,
 ⟨(some 113), none, .q (.mv (.t 14))⟩,
 ⟨(some 114), none, .c (.call 13 [(.t 112), (.t 113)])⟩,
 ⟨(some 111), none, .q (.mv (.t 114))⟩,
 ⟨(some 115), none, .q (.ext (.t 111) 0)⟩,
 ⟨(some 116), none, .q (.ext (.t 111) 1)⟩,
 ⟨(some 17), none, .q (.mv (.t 115))⟩,
 ⟨(some 18), none, .q (.mv (.t 116))⟩])
 (.seq (.reg [⟨(some 117), none, .q (.mv (.t 16))⟩,
 ⟨(some 118), none, .q (.mv (.t 18))⟩,
 ⟨(some 119), none, .q (.bin .neq (.t 117) (.t 118))⟩,
 ⟨(some 120), none, .q (.mv (.t 119))⟩,
 ⟨(some 121), (some (120, false)), .q (.mv (.t 15))⟩,
 ⟨(some 122), (some (120, false)), .q (.mv (.t 17))⟩,
 ⟨(some 123), (some (120, false)), .c (.call 8 [(.t 121), (.t 122)])⟩,
 ⟨(some 124), (some (120, false)), .q (.un .not (.t 123))⟩,
 ⟨(some 125), none, .q (.pick (.t 120) (.c (.bool true)) (.t 124))⟩])
 (.cond (.t 125)
 (.seq (.reg [⟨(some 2), none, .q (.mv (.c (.bool false)))⟩])
 .ret)
 .skip)))
 (.seq (.reg [⟨(some 127), none, .q (.ld true 1 (.t 13))⟩,
 ⟨(some 128), none, .q (.mv (.t 14))⟩,
 ⟨(some 129), none, .c (.call 14 [(.t 127), (.t 128)])⟩,
 ⟨(some 126), none, .q (.mv (.t 129))⟩,
 ⟨(some 130), none, .q (.ext (.t 126) 0)⟩,
 ⟨(some 131), none, .q (.ext (.t 126) 1)⟩,
 ⟨(some 19), none, .q (.mv (.t 130))⟩,
 ⟨(some 20), none, .q (.mv (.t 131))⟩])
 (.seq (.seq (.reg [⟨(some 133), none, .q (.ld true 1 (.t 13))⟩,
 ⟨(some 134), none, .q (.mv (.t 14))⟩,
 ⟨(some 135), none, .c (.call 15 [(.t 133), (.t 134)])⟩,
 ⟨(some 132), none, .q (.mv (.t 135))⟩,
 ⟨(some 136), none, .q (.ext (.t 132) 0)⟩,
 ⟨(some 137), none, .q (.ext (.t 132) 1)⟩,
 ⟨(some 21), none, .q (.mv (.t 136))⟩,
 ⟨(some 22), none, .q (.mv (.t 137))⟩])
 (.seq (.reg [⟨(some 138), none, .q (.mv (.t 20))⟩,
 ⟨(some 139), none, .q (.mv (.t 22))⟩,
 ⟨(some 140), none, .q (.bin .neq (.t 138) (.t 139))⟩,
 ⟨(some 141), none, .q (.mv (.t 140))⟩,
 ⟨(some 142), (some (141, false)), .q (.mv (.t 19))⟩,
 ⟨(some 143), (some (141, false)), .q (.mv (.t 21))⟩,
 ⟨(some 144), (some (141, false)), .q (.bin .neq (.t 142) (.t 143))⟩,
 ⟨(some 145), none, .q (.pick (.t 141) (.c (.bool true)) (.t 144))⟩])
 (.cond (.t 145)
 (.seq (.reg [⟨(some 2), none, .q (.mv (.c (.bool false)))⟩])
 .ret)
 .skip)))
 (.seq (.reg [⟨(some 147), none, .q (.ld true 1 (.t 13))⟩,
 ⟨(some 148), none, .q (.mv (.t 14))⟩,
 ⟨(some 149), none, .c (.call 16 [(.t 147), (.t 148)])⟩,
 ⟨(some 146), none, .q (.mv (.t 149))⟩,
 ⟨(some 150), none, .q (.ext (.t 146) 0)⟩,
 ⟨(some 151), none, .q (.ext (.t 146) 1)⟩,
 ⟨(some 23), none, .q (.mv (.t 150))⟩,
 ⟨(some 24), none, .q (.mv (.t 151))⟩])
 (.seq (.seq (.reg [⟨(some 153), none, .q (.ld true 1 (.t 13))⟩,
 ⟨(some 154), none, .q (.mv (.t 14))⟩,
 ⟨(some 155), none, .c (.call 17 [(.t 153), (.t 154)])⟩,
 ⟨(some 152), none, .q (.mv (.t 155))⟩,
 ⟨(some 156), none, .q (.ext (.t 152) 0)⟩,
 ⟨(some 157), none, .q (.ext (.t 152) 1)⟩,
 ⟨(some 25), none, .q (.mv (.t 156))⟩,
 ⟨(some 26), none, .q (.mv (.t 157))⟩])
 (.seq (.reg [⟨(some 158), none, .q (.mv (.t 24))⟩,
 ⟨(some 159), none, .q (.mv (.t 26))⟩,
 ⟨(some 160), none, .q (.bin .neq (.t 158) (.t 159))⟩,
 ⟨(some 161), none, .q (.mv (.t 160))⟩,
 ⟨(some 162), (some (161, false)), .q (.mv (.t 23))⟩,
 ⟨(some 163), (some (161, false)), .q (.mv (.t 25))⟩,
 ⟨(some 164), (some (161, false)), .q (.bin .neq (.t 162) (.t 163))⟩,
 ⟨(some 165), none, .q (.pick (.t 161) (.c (.bool true)) (.t 164))⟩])
 (.cond (.t 165)
 (.seq (.reg [⟨(some 2), none, .q (.mv (.c (.bool false)))⟩])
 .ret)
 .skip)))
 (.seq (.reg [⟨(some 167), none, .q (.mv (.t 0))⟩,
 ⟨(some 168), none, .c (.call 18 [(.t 167)])⟩,
 ⟨(some 166), none, .q (.mv (.t 168))⟩,
 ⟨(some 169), none, .q (.ext (.t 166) 0)⟩,
 ⟨(some 170), none, .q (.ext (.t 166) 1)⟩,
 ⟨(some 171), none, .q (.ext (.t 166) 2)⟩,
 ⟨(some 27), none, .m (.alloc [(.v (.slice none 0 0))])⟩,
 ⟨none, none, .m (.st true 1 (.t 27) (.t 169))⟩,
 ⟨(some 28), none, .q (.mv (.t 170))⟩,
 ⟨(some 29), none, .q (.mv (.t 171))⟩])
 (.seq (.reg [⟨(some 173), none, .q (.ld true 1 (.t 27))⟩,
 ⟨(some 174), none, .q (.mv (.t 28))⟩,
 ⟨(some 175), none, .q (.mv (.t 29))⟩,
 ⟨(some 176), none, .c (.call 19 [(.t 173), (.t 174), (.t 175)])⟩,
 ⟨(some 172), none, .q (.mv (.t 176))⟩,
 ⟨(some 177), none, .q (.ext (.t 172) 0)⟩,
 ⟨(some 178), none, .q (.ext (.t 172) 1)⟩,
 ⟨(some 30), none, .q (.mv (.t 177))⟩,
 ⟨(some 31), none, .q (.mv (.t 178))⟩])
 (.seq (.seq (.reg [⟨(some 180), none, .q (.ld true 1 (.t 27))⟩,
 ⟨(some 181), none, .q (.mv (.t 28))⟩,
 ⟨(some 182), none, .q (.mv (.t 29))⟩,
 ⟨(some 183), none, .c (.call 20 [(.t 180), (.t 181), (.t 182)])⟩,
 ⟨(some 179), none, .q (.mv (.t 183))⟩,
 ⟨(some 184), none, .q (.ext (.t 179) 0)⟩,
 ⟨(some 185), none, .q (.ext (.t 179) 1)⟩,
 ⟨(some 32), none, .q (.mv (.t 184))⟩,
 ⟨(some 33), none, .q (.mv (.t 185))⟩])
 (.seq (.reg [⟨(some 186), none, .q (.mv (.t 31))⟩,
 ⟨(some 187), none, .q (.mv (.t 33))⟩,
 ⟨(some 188), none, .q (.bin .neq (.t 186) (.t 187))⟩,
 ⟨(some 189), none, .q (.mv (.t 188))⟩,
 ⟨(some 190), (some (189, false)), .q (.mv (.t 30))⟩,
 ⟨(some 191), (some (189, false)), .q (.mv (.t 32))⟩,
 ⟨(some 192), (some (189, false)), .q (.eqb true (.t 190) (.t 191))⟩,
 ⟨(some 193), none, .q (.pick (.t 189) (.c (.bool true)) (.t 192))⟩])
 (.cond (.t 193)
 (.seq (.reg [⟨(some 2), none, .q (.mv (.c (.bool false)))⟩])
 .ret)
 .skip)))
 (.seq (.reg [⟨(some 195), none, .q (.ld true 1 (.t 27))⟩,
 ⟨(some 196), none, .q (.mv (.t 28))⟩,
 ⟨(some 197), none, .q (.mv (.t 29))⟩,
 ⟨(some 198), none, .c (.call 21 [(.t 195), (.t 196), (.t 197)])⟩,
 ⟨(some 194), none, .q (.mv (.t 198))⟩,
 ⟨(some 199), none, .q (.ext (.t 194) 0)⟩,
 ⟨(some 200), none, .q (.ext (.t 194) 1)⟩,
 ⟨(some 34), none, .q (.mv (.t 199))⟩,
 ⟨(some 35), none, .q (.mv (.t 200))⟩])
 (.seq (.seq (.reg [⟨(some 202), none, .q (.ld true 1 (.t 27))⟩,
 ⟨(some 203), none, .q (.mv (.t 28))⟩,
 ⟨(some 204), none, .q (.mv (.t 29))⟩,
 ⟨(some 205), none, .c (.call 22 [(.t 202), (.t 203), (.t 204)])⟩,
 ⟨(some 201), none, .q (.mv (.t 205))⟩,
 ⟨(some 206), none, .q (.ext (.t 201) 0)⟩,
 ⟨(some 207), none, .q (.ext (.t 201) 1)⟩,
 ⟨(some 36), none, .q (.mv (.t 206))⟩,
 ⟨(some 37), none, .q (.mv (.t 207))⟩])
 (.seq (.reg [⟨(some 208), none, .q (.mv (.t 35))⟩,
 ⟨(some 209), none, .q (.mv (.t 37))⟩,
 ⟨(some 210), none, .q (.bin .neq (.t 208) (.t 209))⟩,
 ⟨(some 211), none, .q (.mv (.t 210))⟩,
 ⟨(some 212), (some (211, false)), .q (.mv (.t 34))⟩,
 ⟨(some 213), (some (211, false)), .q (.mv (.t 36))⟩,
 ⟨(some 214), (some (211, false)), .q (.eqb true (.t 212) (.t 213))⟩,
 ⟨(some 215), none, .q (.pick (.t 211) (.c (.bool true)) (.t 214))⟩])
 (.cond (.t 215)
 (.seq (.reg [⟨(some 2), none, .q (.mv (.c (.bool false)))⟩])
 .ret)
 .skip)))
 (.seq (.seq (.reg [⟨(some 216), none, .q (.mv (.t 31))⟩,
 ⟨(some 217), none, .q (.bin .eql (.t 216) (.c (.int .i64 0)))⟩,
 ⟨(some 218), none, .q (.mv (.t 217))⟩,
 ⟨(some 219), (some (218, true)), .q (.mv (.t 30))⟩,
 ⟨(some 220), (some (218, true)), .q (.un .not (.t 219))⟩,
 ⟨(some 221), none, .q (.pick (.t 218) (.t 220) (.c (.bool false)))⟩])
 (.cond (.t 221)
 (.seq (.reg [⟨(some 223), none, .q (.ld true 1 (.t 27))⟩,
 ⟨(some 224), none, .q (.mv (.t 28))⟩,
 ⟨(some 225), none, .q (.mv (.t 29))⟩,
 ⟨(some 226), none, .q (.bin .sub (.t 225) (.c (.int .i64 1)))⟩,
 ⟨(some 227), none, .c (.call 23 [(.t 223), (.t 224), (.t 226)])⟩,
 ⟨(some 222), none, .q (.mv (.t 227))⟩,
 ⟨(some 228), none, .q (.ext (.t 222) 0)⟩,
 ⟨(some 229), none, .q (.ext (.t 222) 1)⟩,
 ⟨(some 38), none, .q (.mv (.t 228))⟩,
 ⟨(some 39), none, .q (.mv (.t 229))⟩])
 (.seq (.reg [⟨(some 230), none, .q (.mv (.t 39))⟩,
 ⟨(some 231), none, .q (.bin .neq (.t 230) (.c (.int .i64 0)))⟩,
 ⟨(some 232), none, .q (.mv (.t 231))⟩,
 ⟨(some 233), (some (232, false)), .q (.mv (.t 38))⟩,
 ⟨(some 234), (some (232, false)), .q (.un .not (.t 233))⟩,
 ⟨(some 235), none, .q (.pick (.t 232) (.c (.bool true)) (.t 234))⟩])
 (.cond (.t 235)
 (.seq (.reg [⟨(some 2), none, .q (.mv (.c (.bool false)))⟩])
 .ret)
 .skip)))
 .skip))
 (.seq (.seq (.reg [⟨(some 236), none, .q (.mv (.t 16))⟩,
 ⟨(some 237), none, .q (.bin .eql (.t 236) (.c (.int .i64 0)))⟩])
 (.cond (.t 237)
 (.seq (.reg [⟨(some 239), none, .q (.ld true 1 (.t 13))⟩,
 ⟨(some 240), none, .q (.mv (.t 15))⟩,
 ⟨(some 241), none, .q (.mv (.t 14))⟩,
 ⟨(some 242), none, .c (.call 21 [(.t 239), (.t 240), (.t 241)])⟩,
 ⟨(some 238), none, .q (.mv (.t 242))⟩,
 ⟨(some 243), none, .q (.ext (.t 238) 0)⟩,
 ⟨(some 244), none, .q (.ext (.t 238) 1)⟩,
 ⟨(some 40), none, .q (.mv (.t 243))⟩,
 ⟨(some 41), none, .q (.mv (.t 244))⟩])
 (.seq (.reg [⟨(some 246), none, .q (.ld true 1 (.t 13))⟩,
 ⟨(some 247), none, .q (.mv (.t 15))⟩,
 ⟨(some 248), none, .q (.mv (.t 14))⟩,
 ⟨(some 249), none, .c (.call 19 [(.t 246), (.t 247), (.t 248)])⟩,
 ⟨(some 245), none, .q (.mv (.t 249))⟩,
 ⟨(some 250), none, .q (.ext (.t 245) 0)⟩,
 ⟨(some 251), none, .q (.ext (.t 245) 1)⟩,
 ⟨(some 42), none, .q (.mv (.t 250))⟩,
 ⟨(some 43), none, .q (.mv (.t 251))⟩])
 (.seq (.reg [⟨(some 252), none, .q (.mv (.t 41))⟩,
 ⟨(some 253), none, .q (.bin .neq (.t 252) (.c (.int .i64 0)))⟩,
 ⟨(some 254), none, .q (.mv (.t 253))⟩,
 ⟨(some 255), (some (254, false)), .q (.mv (.t 40))⟩,
 ⟨(some 256), (some (254, false)), .q (.un .not (.t 255))⟩,
 ⟨(some 257), none, .q (.pick (.t 254) (.c (.bool true)) (.t 256))⟩,
 ⟨(some 258), none, .q (.mv (.t 257))⟩,
 ⟨(some 259), (some (258, false)), .q (.mv (.t 43))⟩,
 ⟨(some 260), (some (258, false)), .q (.bin .neq (.t 259) (.c (.int .i64 0)))⟩,
 ⟨(some 261), none, .q (.pick (.t 258) (.c (.bool true)) (.t 260))⟩,
 ⟨(some 262), none, .q (.mv (.t 261))⟩,
 ⟨(some 263), (some (262, false)), .q (.mv (.t 42))⟩,
 ⟨(some 264), none, .q (.pick (.t 262) (.c (.bool true)) (.t 263))⟩,
 ⟨(some 265), none, .q (.mv (.t 264))⟩,
 ⟨(some 266), (some (265, false)), .q (.mv (.t 20))⟩,
 ⟨(some 267), (some (265, false)), .q (.bin .neq (.t 266) (.c (.int .i64 0)))⟩,
 ⟨(some 268), none, .q (.pick (.t 265) (.c (.bool true)) (.t 267))⟩,
 ⟨(some 269), none, .q (.mv (.t 268))⟩,
 ⟨(some 270), (some (269, false)), .q (.mv (.t 24))⟩,
 ⟨(some 271), (some (269, false)), .q (.bin .neq (.t 270) (.c (.int .i64 0)))⟩,
 ⟨(some 272), none, .q (.pick (.t 269) (.c (.bool true)) (.t 271))⟩,
 ⟨(some 273), none, .q (.mv (.t 272))⟩,
 ⟨(some 274), (some (273, false)), .q (.mv (.t 15))⟩,
 ⟨(some 275), (some (273, false)), .q (.len (.t 274))⟩,
 ⟨(some 276), (some (273, false)), .q (.mv (.t 19))⟩,
 ⟨(some 277), (some (273, false)), .q (.bin .gtr (.t 275) (.t 276))⟩,
 ⟨(some 278), none, .q (.pick (.t 273) (.c (.bool true)) (.t 277))⟩,
 ⟨(some 279), none, .q (.mv (.t 278))⟩,
 ⟨(some 280), (some (279, false)), .q (.mv (.t 15))⟩,
 ⟨(some 281), (some (279, false)), .q (.len (.t 280))⟩,
 ⟨(some 282), (some (279, false)), .q (.mv (.t 23))⟩,
 ⟨(some 283), (some (279, false)), .q (.bin .gtr (.t 281) (.t 282))⟩,
 ⟨(some 284), none, .q (.pick (.t 279) (.c (.bool true)) (.t 283))⟩])
 (.cond (.t 284)
 (.seq (.reg [⟨(some 2), none, .q (.mv (.c (.bool false)))⟩])
 .ret)
 .skip))))
 .skip))
 (.seq (.seq (.reg [⟨(some 285), none, .q (.mv (.t 6))⟩,
 ⟨(some 286), none, .q (.bin .neq (.t 285) (.c (.int .i64 0)))⟩])
 (.cond (.t 286)
 (.seq (.reg [⟨(some 287), none, .q (.mv (.t 5))⟩,
 ⟨(some 288), none, .q (.len (.t 287))⟩,
 ⟨(some 289), none, .q (.bin .eql (.t 288) (.c (.int .i64 0)))⟩,
 ⟨(some 290), none, .q (.mv (.t 289))⟩,
 ⟨(some 291), (some (290, true)), .q (.mv (.t 10))⟩,
 ⟨(some 292), (some (290, true)), .q (.mv (.t 6))⟩,
 ⟨(some 293), (some (290, true)), .q (.bin .eql (.t 291) (.t 292))⟩,
 ⟨(some 294), none, .q (.pick (.t 290) (.t 293) (.c (.bool false)))⟩,
 ⟨(some 2), none, .q (.mv (.t 294))⟩])
 .ret)
 .skip))
 (.seq (.reg [⟨(some 296), none, .q (.ld true 1 (.t 3))⟩,
 ⟨(some 297), none, .q (.mv (.t 5))⟩,
 ⟨(some 298), none, .q (.mv (.t 4))⟩,
 ⟨(some 299), none, .c (.call 21 [(.t 296), (.t 297), (.t 298)])⟩,
 ⟨(some 295), none, .q (.mv (.t 299))⟩,
 ⟨(some 300), none, .q (.ext (.t 295) 0)⟩,
 ⟨(some 301), none, .q (.ext (.t 295) 1)⟩,
 ⟨(some 44), none, .q (.mv (.t 300))⟩,
 ⟨(some 45), none, .q (.mv (.t 301))⟩])
 (.seq (.reg [⟨(some 303), none, .q (.ld true 1 (.t 3))⟩,
 ⟨(some 304), none, .q (.mv (.t 4))⟩,
 ⟨(some 305), none, .c (.call 12 [(.t 303), (.t 304)])⟩,
 ⟨(some 302), none, .q (.mv (.t 305))⟩,
 ⟨(some 306), none, .q (.ext (.t 302) 0)⟩,
 ⟨(some 307), none, .q (.ext (.t 302) 1)⟩,
 ⟨(some 46), none, .q (.mv (.t 306))⟩,
 ⟨(some 47), none, .q (.mv (.t 307))⟩])
 (.seq (.reg [⟨(some 309), none, .q (.ld true 1 (.t 3))⟩,
 ⟨(some 310), none, .q (.mv (.t 4))⟩,
 ⟨(some 311), none, .c (.call 14 [(.t 309), (.t 310)])⟩,
 ⟨(some 308), none, .q (.mv (.t 311))⟩,
 ⟨(some 312), none, .q (.ext (.t 308) 0)⟩,
 ⟨(some 313), none, .q (.ext (.t 308) 1)⟩,
 ⟨(some 48), none, .q (.mv (.t 312))⟩,
 ⟨(some 49), none, .q (.mv (.t 313))⟩])
 (.seq (.reg [⟨(some 315), none, .q (.ld true 1 (.t 3))⟩,
 ⟨(some 316), none, .q (.mv (.t 4))⟩,
 ⟨(some 317), none, .c (.call 16 [(.t 315), (.t 316)])⟩,
 ⟨(some 314), none, .q (.mv (.t 317))⟩,
 ⟨(some 318), none, .q (.ext (.t 314) 0)⟩,
 ⟨(some 319), none, .q (.ext (.t 314) 1)⟩,
 ⟨(some 50), none, .q (.mv (.t 318))⟩,
 ⟨(some 51), none, .q (.mv (.t 319))⟩])
 (.seq (.reg [⟨(some 320), none, .q (.mv (.t 10))⟩,
 ⟨(some 321), none, .q (.bin .eql (.t 320) (.c (.int .i64 0)))⟩,
 ⟨(some 322), none, .q (.mv (.t 321))⟩,
 ⟨(some 323), (some (322, true)), .q (.mv (.t 5))⟩,
 ⟨(some 324), (some (322, true)), .q (.len (.t 323))⟩,
 ⟨(some 325), (some (322, true)), .q (.mv (.t 9))⟩,
 ⟨(some 326), (some (322, true)), .q (.bin .eql (.t 324) (.t 325))⟩,
 ⟨(some 327), none, .q (.pick (.t 322) (.t 326) (.c (.bool false)))⟩,
 ⟨(some 328), none, .q (.mv (.t 327))⟩,
 ⟨(some 329), (some (328, true)), .q (.mv (.t 45))⟩,
 ⟨(some 330), (some (328, true)), .q (.bin .eql (.t 329) (.c (.int .i64 0)))⟩,
 ⟨(some 331), none, .q (.pick (.t 328) (.t 330) (.c (.bool false)))⟩,
 ⟨(some 332), none, .q (.mv (.t 331))⟩,
 ⟨(some 333), (some (332, true)), .q (.mv (.t 44))⟩,
 ⟨(some 334), none, .q (.pick (.t 332) (.t 333) (.c (.bool false)))⟩,
 ⟨(some 335), none, .q (.mv (.t 334))⟩,
 ⟨(some 336), (some (335, true)), .q (.mv (.t 47))⟩,
 ⟨(some 337), (some (335, true)), .q (.bin .eql (.t 336) (.c (.int .i64 0)))⟩,
 ⟨(some 338), none, .q (.pick (.t 335) (.t 337) (.c (.bool false)))⟩,
 ⟨(some 339), none, .q (.mv (.t 338))⟩,
 ⟨(some 340), (some (339, true)), .q (.mv (.t 46))⟩,
 ⟨(some 341), (some (339, true)), .q (.len (.t 340))⟩,
 ⟨(some 342), (some (339, true)), .q (.mv (.t 9))⟩,
 ⟨(some 343), (some (339, true)), .q (.bin .leq (.t 341) (.t 342))⟩,
 ⟨(some 344), none, .q (.pick (.t 339) (.t 343) (.c (.bool false)))⟩,
 ⟨(some 345), none, .q (.mv (.t 344))⟩,
 ⟨(some 346), (some (345, true)), .q (.mv (.t 49))⟩,
 ⟨(some 347), (some (345, true)), .q (.bin .eql (.t 346) (.c (.int .i64 0)))⟩,
 ⟨(some 348), none, .q (.pick (.t 345) (.t 347) (.c (.bool false)))⟩,
 ⟨(some 349), none, .q (.mv (.t 348))⟩,
 ⟨(some 350), (some (349, true)), .q (.mv (.t 9))⟩,
 ⟨(some 351), (some (349, true)), .q (.mv (.t 48))⟩,
 ⟨(some 352), (some (349, true)), .q (.bin .leq (.t 350) (.t 351))⟩,
 ⟨(some 353), none, .q (.pick (.t 349) (.t 352) (.c (.bool false)))⟩,
 ⟨(some 354), none, .q (.mv (.t 353))⟩,
 ⟨(some 355), (some (354, true)), .q (.mv (.t 51))⟩,
 ⟨(some 356), (some (354, true)), .q (.bin .eql (.t 355) (.c (.int .i64 0)))⟩,
 ⟨(some 357), none, .q (.pick (.t 354) (.t 356) (.c (.bool false)))⟩,
 ⟨(some 358), none, .q (.mv (.t 357))⟩,
 ⟨(some 359), (some (358, true)), .q (.mv (.t 9))⟩,
 ⟨(some 360), (some (358, true)), .q (.mv (.t 50))⟩,
 ⟨(some 361), (some (358, true)), .q (.bin .leq (.t 359) (.t 360))⟩,
 ⟨(some 362), none, .q (.pick (.t 358) (.t 361) (.c (.bool false)))⟩,
 ⟨(some 2), none, .q (.mv (.t 362))⟩])
 .ret)))))))))))))))))))))))))))⟩
theorem l_laws_FnApart : lowF PA f_laws_FnApart 1 [] = some c_laws_FnApart := by kernel_rfl
abbrev f_laws_big : FuncId := 4
def c_laws_big : AF := ⟨1, 6, [.t 2],
 (.seq (.reg [⟨(some 2), none, .q (.mv (.c (.bool false)))⟩])
 (.seq (.reg [⟨(some 3), none, .q (.mv (.t 0))⟩,
 ⟨(some 4), none, .q (.len (.t 3))⟩,
 ⟨(some 5), none, .q (.bin .gtr (.t 4) (.c (.int .i64 4096)))⟩,
 ⟨(some 2), none, .q (.mv (.t 5))⟩])
 .ret))⟩
theorem l_laws_big : lowF PA f_laws_big 1 [] = some c_laws_big := by kernel_rfl
abbrev f_spec_DrawFirstApart : FuncId := 5
def c_spec_DrawFirstApart : AF := ⟨1, 8, [.c 2 true 1, .t 3],
 (.seq (.reg [⟨(some 2), none, .m (.alloc [(.v (.slice none 0 0))])⟩,
 ⟨(some 3), none, .q (.mv (.c (.int .i64 0)))⟩])
 (.seq (.reg [⟨(some 4), none, .q (.mv (.t 0))⟩,
 ⟨(some 5), none, .c (.call 24 [(.t 4), (.c (.int .i64 2)), (.c (.int .i64 9))])⟩,
 ⟨(some 6), none, .q (.ext (.t 5) 0)⟩,
 ⟨(some 7), none, .q (.ext (.t 5) 1)⟩,
 ⟨none, none, .m (.st true 1 (.t 2) (.t 6))⟩,
 ⟨(some 3), none, .q (.mv (.t 7))⟩])
 .ret))⟩
theorem l_spec_DrawFirstApart : lowF PA f_spec_DrawFirstApart 1 [] = some c_spec_DrawFirstApart := by kernel_rfl
abbrev f_impl_FirstApart : FuncId := 6
def c_impl_FirstApart : AF := ⟨2, 16, [.t 4, .t 5],
 (.seq (.reg [⟨(some 2), none, .m (.box (.t 0))⟩,
 ⟨(some 4), none, .q (.mv (.c (.slice none 0 0)))⟩,
 ⟨(some 5), none, .q (.mv (.c (.int .i64 0)))⟩])
 (.seq (.seq (.reg [⟨(some 7), none, .q (.ld true 1 (.t 2))⟩,
 ⟨(some 8), none, .q (.mv (.t 1))⟩,
 ⟨(some 9), none, .c (.call 25 [(.t 7), (.t 8), (.c (.int .i64 2)), (.c (.int .i64 9))])⟩,
 ⟨(some 6), none, .q (.mv (.t 9))⟩])
 (.seq (.reg [⟨(some 10), none, .q (.mv (.t 6))⟩,
 ⟨(some 11), none, .q (.bin .neq (.t 10) (.c (.int .i64 0)))⟩])
 (.cond (.t 11)
 (.seq (.reg [⟨(some 12), none, .q (.mv (.t 6))⟩,
 ⟨(some 4), none, .q (.mv (.c (.slice none 0 0)))⟩,
 ⟨(some 5), none, .q (.mv (.t 12))⟩])
 .ret)
 .skip)))
 (.seq (.reg [⟨(some 13), none, .q (.ld true 1 (.t 2))⟩,
 ⟨(some 14), none, .q (.mv (.t 1))⟩,
 ⟨(some 15), none, .c (.call 26 [(.t 13), (.t 14)])⟩,
 ⟨(some 4), none, .q (.mv (.t 15))⟩,
 ⟨(some 5), none, .q (.mv (.c (.int .i64 0)))⟩])
 .ret)))⟩
theorem l_impl_FirstApart : lowF PA f_impl_FirstApart 2 [] = some c_impl_FirstApart := by kernel_rfl
abbrev f_spec_FirstApart : FuncId := 7
def c_spec_FirstApart : AF := ⟨2, 16, [.t 4, .t 5],
 (.seq (.reg [⟨(some 2), none, .m (.box (.t 0))⟩,
 ⟨(some 4), none, .q (.mv (.c (.slice none 0 0)))⟩,
 ⟨(some 5), none, .q (.mv (.c (.int .i64 0)))⟩])
 (.seq (.seq (.reg [⟨(some 7), none, .q (.ld true 1 (.t 2))⟩,
 ⟨(some 8), none, .q (.mv (.t 1))⟩,
 ⟨(some 9), none, .c (.call 27 [(.t 7), (.t 8), (.c (.int .i64 2)), (.c (.int .i64 9))])⟩,
 ⟨(some 6), none, .q (.mv (.t 9))⟩])
 (.seq (.reg [⟨(some 10), none, .q (.mv (.t 6))⟩,
 ⟨(some 11), none, .q (.bin .neq (.t 10) (.c (.int .i64 0)))⟩])
 (.cond (.t 11)
 (.seq (.reg [⟨(some 12), none, .q (.mv (.t 6))⟩,
 ⟨(some 4), none, .q (.mv (.c (.slice none 0 0)))⟩,
 ⟨(some 5), none, .q (.mv (.t 12))⟩])
 .ret)
 .skip)))
 (.seq (.reg [⟨(some 13), none, .q (.ld true 1 (.t 2))⟩,
 ⟨(some 14), none, .q (.mv (.t 1))⟩,
 ⟨(some 15), none, .c (.call 28 [(.t 13), (.t 14)])⟩,
 ⟨(some 4), none, .q (.mv (.t 15))⟩,
 ⟨(some 5), none, .q (.mv (.c (.int .i64 0)))⟩])
 .ret)))⟩
theorem l_spec_FirstApart : lowF PA f_spec_FirstApart 2 [] = some c_spec_FirstApart := by kernel_rfl
abbrev f_laws_likeInts : FuncId := 8
def c_laws_likeInts : AF := ⟨2, 26, [.t 4],
 (.seq (.reg [⟨(some 4), none, .q (.mv (.c (.bool false)))⟩])
 (.seq (.seq (.reg [⟨(some 6), none, .q (.mv (.t 0))⟩,
 ⟨(some 7), none, .q (.len (.t 6))⟩,
 ⟨(some 8), none, .q (.mv (.t 1))⟩,
 ⟨(some 9), none, .q (.len (.t 8))⟩,
 ⟨(some 10), none, .q (.bin .neq (.t 7) (.t 9))⟩])
 (.cond (.t 10)
 (.seq (.reg [⟨(some 4), none, .q (.mv (.c (.bool false)))⟩])
 .ret)
 .skip))
 (.seq (.seq (.reg [⟨(some 5), none, .q (.mv (.c (.int .i64 0)))⟩])
 (.block 0 (.loop [0, 1, 5] (.seq (.seq (.reg [⟨(some 11), none, .q (.mv (.t 5))⟩,
 ⟨(some 12), none, .q (.mv (.t 0))⟩,
 ⟨(some 13), none, .q (.len (.t 12))⟩,
 ⟨(some 14), none, .q (.bin .lss (.t 11) (.t 13))⟩])
 (.cond (.t 14)
 .skip
 (.exit 0)))
 (.seq (.block 1 (.seq (.sch (.take 0 ⟨(some 17), none, .q (.mv (.t 0))⟩ (.take 1 ⟨(some 18), none, .q (.mv (.t 5))⟩ (.take 2 ⟨(some 19), none, .q (.ixs 1 (.t 17) (.t 18))⟩ (.take 3 ⟨(some 20), none, .q (.ld false 1 (.t 19))⟩ (.take 4 ⟨(some 21), none, .q (.mv (.t 1))⟩ (.take 5 ⟨(some 22), none, .q (.mv (.t 5))⟩ (.take 6 ⟨(some 23), none, .q (.ixs 1 (.t 21) (.t 22))⟩ (.take 7 ⟨(some 24), none, .q (.ld false 1 (.t 23))⟩ (.take 8 ⟨(some 25), none, .q (.bin .neq (.t 20) (.t 24))⟩ .done))))))))))
 (.cond (.t 25)
 (.seq (.reg [⟨(some 4), none, .q (.mv (.c (.bool false)))⟩])
 .ret)
 .skip)))
 (.reg [⟨(some 15), none, .q (.mv (.t 5))⟩,
 ⟨(some 16), none, .q (.bin .add (.t 15) (.c (.int .i64 1)))⟩,
 ⟨(some 5), none, .q (.mv (.t 16))⟩]))))))
 (.seq (.reg [⟨(some 4), none, .q (.mv (.c (.bool true)))⟩])
 .ret))))⟩
theorem l_laws_likeInts : lowF PA f_laws_likeInts 2 [.k [0, 1, 5], .s (.take 0 (.take 1 (.take 2 (.take 3 (.take 4 (.take 5 (.take 6 (.take 7 (.take 8 .done)))))))))] = some c_laws_likeInts := by kernel_rfl
abbrev f_impl_GreatestNumber : FuncId := 9
def c_impl_GreatestNumber : AF := ⟨2, 17, [.t 4, .t 5],
 (.seq (.reg [⟨(some 2), none, .m (.box (.t 0))⟩,
 ⟨(some 4), none, .q (.mv (.c (.int .i64 0)))⟩,
 ⟨(some 5), none, .q (.mv (.c (.int .i64 0)))⟩])
 (.seq (.seq (.reg [⟨(some 7), none, .q (.ld true 1 (.t 2))⟩,
 ⟨(some 8), none, .q (.mv (.t 1))⟩,
 ⟨(some 9), none, .c (.call 25 [(.t 7), (.t 8), (.c (.int .i64 2)), (.c (.int .i64 9))])⟩,
 ⟨(some 6), none, .q (.mv (.t 9))⟩])
 (.seq (.reg [⟨(some 10), none, .q (.mv (.t 6))⟩,
 ⟨(some 11), none, .q (.bin .neq (.t 10) (.c (.int .i64 0)))⟩])
 (.cond (.t 11)
 (.seq (.reg [⟨(some 12), none, .q (.mv (.t 6))⟩,
 ⟨(some 4), none, .q (.mv (.c (.int .i64 0)))⟩,
 ⟨(some 5), none, .q (.mv (.t 12))⟩])
 .ret)
 .skip)))
 (.seq (.reg [⟨(some 13), none, .q (.ld true 1 (.t 2))⟩,
 ⟨(some 14), none, .q (.mv (.t 1))⟩,
 ⟨(some 15), none, .c (.call 26 [(.t 13), (.t 14)])⟩,
 ⟨(some 16), none, .q (.len (.t 15))⟩,
 ⟨(some 4), none, .q (.mv (.t 16))⟩,
 ⟨(some 5), none, .q (.mv (.c (.int .i64 0)))⟩])
 .ret)))⟩
theorem l_impl_GreatestNumber : lowF PA f_impl_GreatestNumber 2 [] = some c_impl_GreatestNumber := by kernel_rfl
abbrev f_spec_GreatestNumber : FuncId := 10
def c_spec_GreatestNumber : AF := ⟨2, 17, [.t 4, .t 5],
 (.seq (.reg [⟨(some 2), none, .m (.box (.t 0))⟩,
 ⟨(some 4), none, .q (.mv (.c (.int .i64 0)))⟩,
 ⟨(some 5), none, .q (.mv (.c (.int .i64 0)))⟩])
 (.seq (.seq (.reg [⟨(some 7), none, .q (.ld true 1 (.t 2))⟩,
 ⟨(some 8), none, .q (.mv (.t 1))⟩,
 ⟨(some 9), none, .c (.call 27 [(.t 7), (.t 8), (.c (.int .i64 2)), (.c (.int .i64 9))])⟩,
 ⟨(some 6), none, .q (.mv (.t 9))⟩])
 (.seq (.reg [⟨(some 10), none, .q (.mv (.t 6))⟩,
 ⟨(some 11), none, .q (.bin .neq (.t 10) (.c (.int .i64 0)))⟩])
 (.cond (.t 11)
 (.seq (.reg [⟨(some 12), none, .q (.mv (.t 6))⟩,
 ⟨(some 4), none, .q (.mv (.c (.int .i64 0)))⟩,
 ⟨(some 5), none, .q (.mv (.t 12))⟩])
 .ret)
 .skip)))
 (.seq (.reg [⟨(some 13), none, .q (.ld true 1 (.t 2))⟩,
 ⟨(some 14), none, .q (.mv (.t 1))⟩,
 ⟨(some 15), none, .c (.call 28 [(.t 13), (.t 14)])⟩,
 ⟨(some 16), none, .q (.len (.t 15))⟩,
 ⟨(some 4), none, .q (.mv (.t 16))⟩,
 ⟨(some 5), none, .q (.mv (.c (.int .i64 0)))⟩])
 .ret)))⟩
theorem l_spec_GreatestNumber : lowF PA f_spec_GreatestNumber 2 [] = some c_spec_GreatestNumber := by kernel_rfl
abbrev f_spec_DrawGreedyApart : FuncId := 11
def c_spec_DrawGreedyApart : AF := ⟨1, 8, [.c 2 true 1, .t 3],
 (.seq (.reg [⟨(some 2), none, .m (.alloc [(.v (.slice none 0 0))])⟩,
 ⟨(some 3), none, .q (.mv (.c (.int .i64 0)))⟩])
 (.seq (.reg [⟨(some 4), none, .q (.mv (.t 0))⟩,
 ⟨(some 5), none, .c (.call 29 [(.t 4), (.c (.int .i64 1)), (.c (.int .i64 9))])⟩,
 ⟨(some 6), none, .q (.ext (.t 5) 0)⟩,
 ⟨(some 7), none, .q (.ext (.t 5) 1)⟩,
 ⟨none, none, .m (.st true 1 (.t 2) (.t 6))⟩,
 ⟨(some 3), none, .q (.mv (.t 7))⟩])
 .ret))⟩
theorem l_spec_DrawGreedyApart : lowF PA f_spec_DrawGreedyApart 1 [] = some c_spec_DrawGreedyApart := by kernel_rfl
abbrev f_impl_GreedyApart : FuncId := 12
def c_impl_GreedyApart : AF := ⟨2, 41, [.t 4, .t 5],
 (.seq (.reg [⟨(some 2), none, .m (.box (.t 0))⟩,
 ⟨(some 3), none, .m (.box (.t 1))⟩,
 ⟨(some 4), none, .q (.mv (.c (.slice none 0 0)))⟩,
 ⟨(some 5), none, .q (.mv (.c (.int .i64 0)))⟩])
 (.seq (.seq (.reg [⟨(some 11), none, .q (.ld true 1 (.t 2))⟩,
 ⟨(some 12), none, .q (.ld false 1 (.t 3))⟩,
 ⟨(some 13), none, .c (.call 30 [(.t 11), (.t 12)])⟩,
 ⟨(some 6), none, .q (.mv (.t 13))⟩])
 (.seq (.reg [⟨(some 14), none, .q (.mv (.t 6))⟩,
 ⟨(some 15), none, .q (.bin .neq (.t 14) (.c (.int .i64 0)))⟩])
 (.cond (.t 15)
 (.seq (.reg [⟨(some 16), none, .q (.mv (.t 6))⟩,
 ⟨(some 4), none, .q (.mv (.c (.slice none 0 0)))⟩,
 ⟨(some 5), none, .q (.mv (.t 16))⟩])
 .ret)
 .skip)))
 (.seq (.reg [⟨(some 17), none, .m (.bsl 1 [])⟩,
 ⟨(some 18), none, .m (.bsl 8 [])⟩,
 ⟨(some 7), none, .q (.mv (.t 17))⟩,
 ⟨(some 8), none, .q (.mv (.t 18))⟩])
 (.seq (.seq (.reg [⟨(some 19), none, .q (.ld true 1 (.t 2))⟩,
 ⟨(some 20), none, .c (.call 31 [(.t 19)])⟩,
 ⟨(some 21), none, .q (.len (.t 20))⟩,
 ⟨(some 22), none, .q (.mv (.c (.int .i64 0)))⟩])
 (.block 0 (.loop [3, 7, 8, 20, 21, 22] (.seq (.reg [⟨(some 23), none, .q (.bin .lss (.t 22) (.t 21))⟩])
 (.seq (.cond (.t 23)
 .skip
 (.exit 0))
 (.seq (.block 1 (.seq (.reg [⟨(some 24), none, .q (.mv (.t 22))⟩,
 ⟨(some 25), none, .q (.ixs 8 (.t 20) (.t 22))⟩,
 ⟨(some 26), none, .q (.ld true 8 (.t 25))⟩,
 ⟨(some 10), none, .m (.alloc [(.v (.int .u8 0)), (.v (.int .u8 0)), (.v (.int .u8 0)), (.v (.int .u8 0)), (.v (.int .u8 0)), (.v (.int .u8 0)), (.v (.int .u8 0)), (.v (.int .u8 0))])⟩,
 ⟨(some 9), none, .q (.mv (.t 24))⟩,
 ⟨none, none, .m (.st true 8 (.t 10) (.t 26))⟩])
 (.seq (.reg [⟨(some 27), none, .q (.mv (.t 8))⟩,
 ⟨(some 28), none, .q (.mkf 33 [(.t 10), (.t 3)])⟩,
 ⟨(some 29), none, .c (.call 32 [(.t 27), (.t 28)])⟩,
 ⟨(some 30), none, .q (.un .not (.t 29))⟩])
 (.cond (.t 30)
 (.seq (.reg [⟨(some 31), none, .q (.mv (.t 7))⟩,
 ⟨(some 32), none, .q (.mv (.t 9))⟩,
 ⟨(some 33), none, .m (.bsl 1 [(.t 32)])⟩,
 ⟨(some 34), none, .m (.app 1 8 (.t 31) (.t 33))⟩,
 ⟨(some 7), none, .q (.mv (.t 34))⟩])
 (.reg [⟨(some 35), none, .q (.mv (.t 8))⟩,
 ⟨(some 36), none, .q (.ld true 8 (.t 10))⟩,
 ⟨(some 37), none, .m (.bsl 8 [(.t 36)])⟩,
 ⟨(some 38), none, .m (.app 8 8 (.t 35) (.t 37))⟩,
 ⟨(some 8), none, .q (.mv (.t 38))⟩]))
 .skip))))
 (.reg [⟨(some 39), none, .q (.bin .add (.t 22) (.c (.int .i64 1)))⟩,
 ⟨(some 22), none, .q (.mv (.t 39))⟩])))))))
 (.seq (.reg [⟨(some 40), none, .q (.mv (.t 7))⟩,
 ⟨(some 4), none, .q (.mv (.t 40))⟩,
 ⟨(some 5), none, .q (.mv (.c (.int .i64 0)))⟩])
 .ret)))))⟩
theorem l_impl_GreedyApart : lowF PA f_impl_GreedyApart 2 [.k [3, 7, 8, 20, 21, 22]] = some c_impl_GreedyApart := by kernel_rfl
abbrev f_spec_GreedyApart : FuncId := 13
def c_spec_GreedyApart : AF := ⟨2, 32, [.t 4, .t 5],
 (.seq (.reg [⟨(some 2), none, .m (.box (.t 0))⟩,
 ⟨(some 4), none, .q (.mv (.c (.slice none 0 0)))⟩,
 ⟨(some 5), none, .q (.mv (.c (.int .i64 0)))⟩])
 (.seq (.seq (.reg [⟨(some 9), none, .q (.ld true 1 (.t 2))⟩,
 ⟨(some 10), none, .q (.mv (.t 1))⟩,
 ⟨(some 11), none, .c (.call 35 [(.t 9), (.t 10), (.c (.int .i64 1)), (.c (.int .i64 9))])⟩,
 ⟨(some 6), none, .q (.mv (.t 11))⟩])
 (.seq (.reg [⟨(some 12), none, .q (.mv (.t 6))⟩,
 ⟨(some 13), none, .q (.bin .neq (.t 12) (.c (.int .i64 0)))⟩])
 (.cond (.t 13)
 (.seq (.reg [⟨(some 14), none, .q (.mv (.t 6))⟩,
 ⟨(some 4), none, .q (.mv (.c (.slice none 0 0)))⟩,
 ⟨(some 5), none, .q (.mv (.t 14))⟩])
 .ret)
 .skip)))
 (.seq (.reg [⟨(some 15), none, .m (.bsl 1 [])⟩,
 ⟨(some 7), none, .q (.mv (.t 15))⟩])
 (.seq (.seq (.reg [⟨(some 8), none, .q (.mv (.c (.int .i64 0)))⟩])
 (.block 0 (.loop [1, 2, 7, 8] (.seq (.seq (.reg [⟨(some 16), none, .q (.mv (.t 8))⟩,
 ⟨(some 17), none, .q (.ld true 1 (.t 2))⟩,
 ⟨(some 18), none, .c (.call 36 [(.t 17)])⟩,
 ⟨(some 19), none, .q (.bin .lss (.t 16) (.t 18))⟩])
 (.cond (.t 19)
 .skip
 (.exit 0)))
 (.seq (.block 1 (.seq (.reg [⟨(some 22), none, .q (.ld true 1 (.t 2))⟩,
 ⟨(some 23), none, .q (.mv (.t 7))⟩,
 ⟨(some 24), none, .q (.mv (.t 8))⟩,
 ⟨(some 25), none, .q (.mv (.t 1))⟩,
 ⟨(some 26), none, .c (.call 37 [(.t 22), (.t 23), (.t 24), (.t 25)])⟩])
 (.cond (.t 26)
 (.reg [⟨(some 27), none, .q (.mv (.t 7))⟩,
 ⟨(some 28), none, .q (.mv (.t 8))⟩,
 ⟨(some 29), none, .m (.bsl 1 [(.t 28)])⟩,
 ⟨(some 30), none, .m (.app 1 8 (.t 27) (.t 29))⟩,
 ⟨(some 7), none, .q (.mv (.t 30))⟩])
 .skip)))
 (.reg [⟨(some 20), none, .q (.mv (.t 8))⟩,
 ⟨(some 21), none, .q (.bin .add (.t 20) (.c (.int .i64 1)))⟩,
 ⟨(some 8), none, .q (.mv (.t 21))⟩]))))))
 (.seq (.reg [⟨(some 31), none, .q (.mv (.t 7))⟩,
 ⟨(some 4), none, .q (.mv (.t 31))⟩,
 ⟨(some 5), none, .q (.mv (.c (.int .i64 0)))⟩])
 .ret)))))⟩
theorem l_spec_GreedyApart : lowF PA f_spec_GreedyApart 2 [.k [1, 2, 7, 8]] = some c_spec_GreedyApart := by kernel_rfl
abbrev f_impl_PackingBound : FuncId := 14
def c_impl_PackingBound : AF := ⟨2, 22, [.t 4, .t 5],
 (.seq (.reg [⟨(some 2), none, .m (.box (.t 0))⟩,
 ⟨(some 4), none, .q (.mv (.c (.int .i64 0)))⟩,
 ⟨(some 5), none, .q (.mv (.c (.int .i64 0)))⟩])
 (.seq (.seq (.reg [⟨(some 7), none, .q (.ld true 1 (.t 2))⟩,
 ⟨(some 8), none, .q (.mv (.t 1))⟩,
 ⟨(some 9), none, .c (.call 30 [(.t 7), (.t 8)])⟩,
 ⟨(some 6), none, .q (.mv (.t 9))⟩])
 (.seq (.reg [⟨(some 10), none, .q (.mv (.t 6))⟩,
 ⟨(some 11), none, .q (.bin .neq (.t 10) (.c (.int .i64 0)))⟩])
 (.cond (.t 11)
 (.seq (.reg [⟨(some 12), none, .q (.mv (.t 6))⟩,
 ⟨(some 4), none, .q (.mv (.c (.int .i64 0)))⟩,
 ⟨(some 5), none, .q (.mv (.t 12))⟩])
 .ret)
 .skip)))
 (.seq (.sch (.take 0 ⟨(some 13), none, .q (.ld true 1 (.t 2))⟩ (.take 2 ⟨(some 15), none, .q (.ld true 1 (.t 2))⟩ (.take 3 ⟨(some 16), none, .q (.mv (.t 1))⟩ (.take 4 ⟨(some 17), none, .q (.bin .sub (.t 16) (.c (.int .i64 1)))⟩ (.take 5 ⟨(some 18), none, .q (.bin .quo (.t 17) (.c (.int .i64 2)))⟩ (.one ⟨(some 14), none, .c (.call 38 [(.t 13)])⟩ [0] (.one ⟨(some 19), none, .c (.call 39 [(.t 15), (.c (.int .i64 0)), (.t 18)])⟩ [2] (.take 7 ⟨(some 20), none, .q (.len (.t 19))⟩ (.take 8 ⟨(some 21), none, .q (.bin .quo (.t 14) (.t 20))⟩ (.take 9 ⟨(some 4), none, .q (.mv (.t 21))⟩ (.take 10 ⟨(some 5), none, .q (.mv (.c (.int .i64 0)))⟩ .done))))))))))))
 .ret)))⟩
theorem l_impl_PackingBound : lowF PA f_impl_PackingBound 2 [.s (.take 0 (.take 2 (.take 3 (.take 4 (.take 5 (.one 1 (.one 6 (.take 7 (.take 8 (.take 9 (.take 10 .done)))))))))))] = some c_impl_PackingBound := by kernel_rfl
abbrev f_spec_PackingBound : FuncId := 15
def c_spec_PackingBound : AF := ⟨2, 21, [.t 4, .t 5],
 (.seq (.reg [⟨(some 2), none, .m (.box (.t 0))⟩,
 ⟨(some 4), none, .q (.mv (.c (.int .i64 0)))⟩,
 ⟨(some 5), none, .q (.mv (.c (.int .i64 0)))⟩])
 (.seq (.seq (.reg [⟨(some 7), none, .q (.ld true 1 (.t 2))⟩,
 ⟨(some 8), none, .q (.mv (.t 1))⟩,
 ⟨(some 9), none, .c (.call 35 [(.t 7), (.t 8), (.c (.int .i64 1)), (.c (.int .i64 9))])⟩,
 ⟨(some 6), none, .q (.mv (.t 9))⟩])
 (.seq (.reg [⟨(some 10), none, .q (.mv (.t 6))⟩,
 ⟨(some 11), none, .q (.bin .neq (.t 10) (.c (.int .i64 0)))⟩])
 (.cond (.t 11)
 (.seq (.reg [⟨(some 12), none, .q (.mv (.t 6))⟩,
 ⟨(some 4), none, .q (.mv (.c (.int .i64 0)))⟩,
 ⟨(some 5), none, .q (.mv (.t 12))⟩])
 .ret)
 .skip)))
 (.seq (.sch (.take 0 ⟨(some 13), none, .q (.ld true 1 (.t 2))⟩ (.take 2 ⟨(some 15), none, .q (.ld true 1 (.t 2))⟩ (.take 3 ⟨(some 16), none, .q (.mv (.t 1))⟩ (.take 4 ⟨(some 17), none, .q (.bin .sub (.t 16) (.c (.int .i64 1)))⟩ (.take 5 ⟨(some 18), none, .q (.bin .quo (.t 17) (.c (.int .i64 2)))⟩ (.one ⟨(some 14), none, .c (.call 36 [(.t 13)])⟩ [0] (.one ⟨(some 19), none, .c (.call 40 [(.t 15), (.t 18)])⟩ [2] (.take 7 ⟨(some 20), none, .q (.bin .quo (.t 14) (.t 19))⟩ (.take 8 ⟨(some 4), none, .q (.mv (.t 20))⟩ (.take 9 ⟨(some 5), none, .q (.mv (.c (.int .i64 0)))⟩ .done)))))))))))
 .ret)))⟩
theorem l_spec_PackingBound : lowF PA f_spec_PackingBound 2 [.s (.take 0 (.take 2 (.take 3 (.take 4 (.take 5 (.one 1 (.one 6 (.take 7 (.take 8 (.take 9 .done))))))))))] = some c_spec_PackingBound := by kernel_rfl
abbrev f_impl_PlaceBound : FuncId := 16
def c_impl_PlaceBound : AF := ⟨2, 17, [.t 4, .t 5],
 (.seq (.reg [⟨(some 2), none, .m (.box (.t 0))⟩,
 ⟨(some 4), none, .q (.mv (.c (.int .i64 0)))⟩,
 ⟨(some 5), none, .q (.mv (.c (.int .i64 0)))⟩])
 (.seq (.seq (.reg [⟨(some 7), none, .q (.ld true 1 (.t 2))⟩,
 ⟨(some 8), none, .q (.mv (.t 1))⟩,
 ⟨(some 9), none, .c (.call 30 [(.t 7), (.t 8)])⟩,
 ⟨(some 6), none, .q (.mv (.t 9))⟩])
 (.seq (.reg [⟨(some 10), none, .q (.mv (.t 6))⟩,
 ⟨(some 11), none, .q (.bin .neq (.t 10) (.c (.int .i64 0)))⟩])
 (.cond (.t 11)
 (.seq (.reg [⟨(some 12), none, .q (.mv (.t 6))⟩,
 ⟨(some 4), none, .q (.mv (.c (.int .i64 0)))⟩,
 ⟨(some 5), none, .q (.mv (.t 12))⟩])
 .ret)
 .skip)))
 (.seq (.reg [⟨(some 13), none, .q (.ld true 1 (.t 2))⟩,
 ⟨(some 14), none, .q (.mv (.t 1))⟩,
 ⟨(some 15), none, .q (.bin .sub (.t 14) (.c (.int .i64 1)))⟩,
 ⟨(some 16), none, .c (.call 41 [(.t 13), (.t 15)])⟩,
 ⟨(some 4), none, .q (.mv (.t 16))⟩,
 ⟨(some 5), none, .q (.mv (.c (.int .i64 0)))⟩])
 .ret)))⟩
theorem l_impl_PlaceBound : lowF PA f_impl_PlaceBound 2 [] = some c_impl_PlaceBound := by kernel_rfl
abbrev f_spec_PlaceBound : FuncId := 17
def c_spec_PlaceBound : AF := ⟨2, 17, [.t 4, .t 5],
 (.seq (.reg [⟨(some 2), none, .m (.box (.t 0))⟩,
 ⟨(some 4), none, .q (.mv (.c (.int .i64 0)))⟩,
 ⟨(some 5), none, .q (.mv (.c (.int .i64 0)))⟩])
 (.seq (.seq (.reg [⟨(some 7), none, .q (.ld true 1 (.t 2))⟩,
 ⟨(some 8), none, .q (.mv (.t 1))⟩,
 ⟨(some 9), none, .c (.call 35 [(.t 7), (.t 8), (.c (.int .i64 1)), (.c (.int .i64 9))])⟩,
 ⟨(some 6), none, .q (.mv (.t 9))⟩])
 (.seq (.reg [⟨(some 10), none, .q (.mv (.t 6))⟩,
 ⟨(some 11), none, .q (.bin .neq (.t 10) (.c (.int .i64 0)))⟩])
 (.cond (.t 11)
 (.seq (.reg [⟨(some 12), none, .q (.mv (.t 6))⟩,
 ⟨(some 4), none, .q (.mv (.c (.int .i64 0)))⟩,
 ⟨(some 5), none, .q (.mv (.t 12))⟩])
 .ret)
 .skip)))
 (.seq (.reg [⟨(some 13), none, .q (.ld true 1 (.t 2))⟩,
 ⟨(some 14), none, .q (.mv (.t 1))⟩,
 ⟨(some 15), none, .q (.bin .sub (.t 14) (.c (.int .i64 1)))⟩,
 ⟨(some 16), none, .c (.call 42 [(.t 13), (.t 15)])⟩,
 ⟨(some 4), none, .q (.mv (.t 16))⟩,
 ⟨(some 5), none, .q (.mv (.c (.int .i64 0)))⟩])
 .ret)))⟩
theorem l_spec_PlaceBound : lowF PA f_spec_PlaceBound 2 [] = some c_spec_PlaceBound := by kernel_rfl
abbrev f_spec_DrawCanGrow : FuncId := 18
def c_spec_DrawCanGrow : AF := ⟨1, 10, [.c 2 true 1, .t 3, .t 4],
 (.seq (.reg [⟨(some 2), none, .m (.alloc [(.v (.slice none 0 0))])⟩,
 ⟨(some 3), none, .q (.mv (.c (.slice none 0 0)))⟩,
 ⟨(some 4), none, .q (.mv (.c (.int .i64 0)))⟩])
 (.seq (.reg [⟨(some 5), none, .q (.mv (.t 0))⟩,
 ⟨(some 6), none, .c (.call 43 [(.t 5)])⟩,
 ⟨(some 7), none, .q (.ext (.t 6) 0)⟩,
 ⟨(some 8), none, .q (.ext (.t 6) 1)⟩,
 ⟨(some 9), none, .q (.ext (.t 6) 2)⟩,
 ⟨none, none, .m (.st true 1 (.t 2) (.t 7))⟩,
 ⟨(some 3), none, .q (.mv (.t 8))⟩,
 ⟨(some 4), none, .q (.mv (.t 9))⟩])
 .ret))⟩
theorem l_spec_DrawCanGrow : lowF PA f_spec_DrawCanGrow 1 [] = some c_spec_DrawCanGrow := by kernel_rfl
abbrev f_impl_CanGrow : FuncId := 19
def c_impl_CanGrow : AF := ⟨3, 42, [.t 6, .t 7],
 (.seq (.reg [⟨(some 3), none, .m (.box (.t 0))⟩,
 ⟨(some 6), none, .q (.mv (.c (.bool false)))⟩,
 ⟨(some 7), none, .q (.mv (.c (.int .i64 0)))⟩])
 (.seq (.seq (.reg [⟨(some 12), none, .q (.ld true 1 (.t 3))⟩,
 ⟨(some 13), none, .q (.mv (.t 1))⟩,
 ⟨(some 14), none, .q (.mv (.t 2))⟩,
 ⟨(some 15), none, .c (.call 44 [(.t 12), (.t 13), (.t 14)])⟩,
 ⟨(some 8), none, .q (.mv (.t 15))⟩])
 (.seq (.reg [⟨(some 16), none, .q (.mv (.t 8))⟩,
 ⟨(some 17), none, .q (.bin .neq (.t 16) (.c (.int .i64 0)))⟩])
 (.cond (.t 17)
 (.seq (.reg [⟨(some 18), none, .q (.mv (.t 8))⟩,
 ⟨(some 6), none, .q (.mv (.c (.bool false)))⟩,
 ⟨(some 7), none, .q (.mv (.t 18))⟩])
 .ret)
 .skip)))
 (.seq (.reg [⟨(some 19), none, .q (.ld true 1 (.t 3))⟩,
 ⟨(some 20), none, .q (.mv (.t 1))⟩,
 ⟨(some 21), none, .c (.call 45 [(.t 19), (.t 20)])⟩,
 ⟨(some 9), none, .q (.mv (.t 21))⟩])
 (.seq (.seq (.reg [⟨(some 22), none, .q (.ld true 1 (.t 3))⟩,
 ⟨(some 23), none, .q (.mv (.t 1))⟩,
 ⟨(some 24), none, .c (.call 46 [(.t 22), (.t 23)])⟩,
 ⟨(some 25), none, .q (.len (.t 24))⟩,
 ⟨(some 26), none, .q (.mv (.c (.int .i64 0)))⟩])
 (.block 0 (.loop [2, 9, 24, 25, 26] (.seq (.reg [⟨(some 27), none, .q (.bin .lss (.t 26) (.t 25))⟩])
 (.seq (.cond (.t 27)
 .skip
 (.exit 0))
 (.seq (.block 1 (.seq (.reg [⟨(some 28), none, .q (.mv (.t 26))⟩,
 ⟨(some 29), none, .q (.ixs 1 (.t 24) (.t 26))⟩,
 ⟨(some 30), none, .q (.ld false 1 (.t 29))⟩,
 ⟨(some 10), none, .q (.mv (.t 28))⟩,
 ⟨(some 11), none, .q (.mv (.t 30))⟩])
 (.seq (.reg [⟨(some 31), none, .q (.mv (.t 9))⟩,
 ⟨(some 32), none, .q (.mv (.t 10))⟩,
 ⟨(some 33), none, .q (.ixs 1 (.t 31) (.t 32))⟩,
 ⟨(some 34), none, .q (.ld false 1 (.t 33))⟩,
 ⟨(some 35), none, .q (.un .not (.t 34))⟩,
 ⟨(some 36), none, .q (.mv (.t 35))⟩,
 ⟨(some 37), (some (36, true)), .q (.mv (.t 11))⟩,
 ⟨(some 38), (some (36, true)), .q (.mv (.t 2))⟩,
 ⟨(some 39), (some (36, true)), .q (.bin .geq (.t 37) (.t 38))⟩,
 ⟨(some 40), none, .q (.pick (.t 36) (.t 39) (.c (.bool false)))⟩])
 (.cond (.t 40)
 (.seq (.reg [⟨(some 6), none, .q (.mv (.c (.bool true)))⟩,
 ⟨(some 7), none, .q (.mv (.c (.int .i64 0)))⟩])
 .ret)
 .skip))))
 (.reg [⟨(some 41), none, .q (.bin .add (.t 26) (.c (.int .i64 1)))⟩,
 ⟨(some 26), none, .q (.mv (.t 41))⟩])))))))
 (.seq (.reg [⟨(some 6), none, .q (.mv (.c (.bool false)))⟩,
 ⟨(some 7), none, .q (.mv (.c (.int .i64 0)))⟩])
 .ret)))))⟩
theorem l_impl_CanGrow : lowF PA f_impl_CanGrow 3 [.k [2, 9, 24, 25, 26]] = some c_impl_CanGrow := by kernel_rfl
abbrev f_spec_CanGrow : FuncId := 20
def c_spec_CanGrow : AF := ⟨3, 34, [.t 6, .t 7],
 (.seq (.reg [⟨(some 3), none, .m (.box (.t 0))⟩,
 ⟨(some 6), none, .q (.mv (.c (.bool false)))⟩,
 ⟨(some 7), none, .q (.mv (.c (.int .i64 0)))⟩])
 (.seq (.seq (.reg [⟨(some 10), none, .q (.ld true 1 (.t 3))⟩,
 ⟨(some 11), none, .q (.mv (.t 1))⟩,
 ⟨(some 12), none, .q (.mv (.t 2))⟩,
 ⟨(some 13), none, .c (.call 47 [(.t 10), (.t 11), (.t 12)])⟩,
 ⟨(some 8), none, .q (.mv (.t 13))⟩])
 (.seq (.reg [⟨(some 14), none, .q (.mv (.t 8))⟩,
 ⟨(some 15), none, .q (.bin .neq (.t 14) (.c (.int .i64 0)))⟩])
 (.cond (.t 15)
 (.seq (.reg [⟨(some 16), none, .q (.mv (.t 8))⟩,
 ⟨(some 6), none, .q (.mv (.c (.bool false)))⟩,
 ⟨(some 7), none, .q (.mv (.t 16))⟩])
 .ret)
 .skip)))
 (.seq (.seq (.reg [⟨(some 9), none, .q (.mv (.c (.int .i64 0)))⟩])
 (.block 0 (.loop [1, 2, 3, 9] (.seq (.seq (.reg [⟨(some 17), none, .q (.mv (.t 9))⟩,
 ⟨(some 18), none, .q (.ld true 1 (.t 3))⟩,
 ⟨(some 19), none, .c (.call 36 [(.t 18)])⟩,
 ⟨(some 20), none, .q (.bin .lss (.t 17) (.t 19))⟩])
 (.cond (.t 20)
 .skip
 (.exit 0)))
 (.seq (.block 1 (.seq (.reg [⟨(some 23), none, .q (.mv (.t 1))⟩,
 ⟨(some 24), none, .q (.mv (.t 9))⟩,
 ⟨(some 25), none, .c (.call 48 [(.t 23), (.t 24)])⟩,
 ⟨(some 26), none, .q (.un .not (.t 25))⟩,
 ⟨(some 27), none, .q (.mv (.t 26))⟩,
 ⟨(some 28), (some (27, true)), .q (.ld true 1 (.t 3))⟩,
 ⟨(some 29), (some (27, true)), .q (.mv (.t 1))⟩,
 ⟨(some 30), (some (27, true)), .q (.mv (.t 9))⟩,
 ⟨(some 31), (some (27, true)), .q (.mv (.t 2))⟩,
 ⟨(some 32), (some (27, true)), .c (.call 37 [(.t 28), (.t 29), (.t 30), (.t 31)])⟩,
 ⟨(some 33), none, .q (.pick (.t 27) (.t 32) (.c (.bool false)))⟩])
 (.cond (.t 33)
 (.seq (.reg [⟨(some 6), none, .q (.mv (.c (.bool true)))⟩,
 ⟨(some 7), none, .q (.mv (.c (.int .i64 0)))⟩])
 .ret)
 .skip)))
 (.reg [⟨(some 21), none, .q (.mv (.t 9))⟩,
 ⟨(some 22), none, .q (.bin .add (.t 21) (.c (.int .i64 1)))⟩,
 ⟨(some 9), none, .q (.mv (.t 22))⟩]))))))
 (.seq (.reg [⟨(some 6), none, .q (.mv (.c (.bool false)))⟩,
 ⟨(some 7), none, .q (.mv (.c (.int .i64 0)))⟩])
 .ret))))⟩
theorem l_spec_CanGrow : lowF PA f_spec_CanGrow 3 [.k [1, 2, 3, 9]] = some c_spec_CanGrow := by kernel_rfl
abbrev f_impl_AreApart : FuncId := 21
def c_impl_AreApart : AF := ⟨3, 26, [.t 6, .t 7],
 (.seq (.reg [⟨(some 3), none, .m (.box (.t 0))⟩,
 ⟨(some 6), none, .q (.mv (.c (.bool false)))⟩,
 ⟨(some 7), none, .q (.mv (.c (.int .i64 0)))⟩])
 (.seq (.seq (.reg [⟨(some 9), none, .q (.ld true 1 (.t 3))⟩,
 ⟨(some 10), none, .q (.mv (.t 1))⟩,
 ⟨(some 11), none, .q (.mv (.t 2))⟩,
 ⟨(some 12), none, .c (.call 44 [(.t 9), (.t 10), (.t 11)])⟩,
 ⟨(some 8), none, .q (.mv (.t 12))⟩])
 (.seq (.reg [⟨(some 13), none, .q (.mv (.t 8))⟩,
 ⟨(some 14), none, .q (.bin .neq (.t 13) (.c (.int .i64 0)))⟩])
 (.cond (.t 14)
 (.seq (.reg [⟨(some 15), none, .q (.mv (.t 8))⟩,
 ⟨(some 6), none, .q (.mv (.c (.bool false)))⟩,
 ⟨(some 7), none, .q (.mv (.t 15))⟩])
 .ret)
 .skip)))
 (.seq (.reg [⟨(some 16), none, .q (.mv (.t 1))⟩,
 ⟨(some 17), none, .q (.len (.t 16))⟩,
 ⟨(some 18), none, .q (.bin .lss (.t 17) (.c (.int .i64 2)))⟩,
 ⟨(some 19), none, .q (.mv (.t 18))⟩,
 ⟨(some 20), (some (19, false)), .q (.ld true 1 (.t 3))⟩,
 ⟨(some 21), (some (19, false)), .q (.mv (.t 1))⟩,
 ⟨(some 22), (some (19, false)), .c (.call 49 [(.t 20), (.t 21)])⟩,
 ⟨(some 23), (some (19, false)), .q (.mv (.t 2))⟩,
 ⟨(some 24), (some (19, false)), .q (.bin .geq (.t 22) (.t 23))⟩,
 ⟨(some 25), none, .q (.pick (.t 19) (.c (.bool true)) (.t 24))⟩,
 ⟨(some 6), none, .q (.mv (.t 25))⟩,
 ⟨(some 7), none, .q (.mv (.c (.int .i64 0)))⟩])
 .ret)))⟩
theorem l_impl_AreApart : lowF PA f_impl_AreApart 3 [] = some c_impl_AreApart := by kernel_rfl
abbrev f_spec_AreApart : FuncId := 22
def c_spec_AreApart : AF := ⟨3, 34, [.t 6, .t 7],
 (.seq (.reg [⟨(some 3), none, .m (.box (.t 0))⟩,
 ⟨(some 6), none, .q (.mv (.c (.bool false)))⟩,
 ⟨(some 7), none, .q (.mv (.c (.int .i64 0)))⟩])
 (.seq (.seq (.reg [⟨(some 10), none, .q (.ld true 1 (.t 3))⟩,
 ⟨(some 11), none, .q (.mv (.t 1))⟩,
 ⟨(some 12), none, .q (.mv (.t 2))⟩,
 ⟨(some 13), none, .c (.call 47 [(.t 10), (.t 11), (.t 12)])⟩,
 ⟨(some 8), none, .q (.mv (.t 13))⟩])
 (.seq (.reg [⟨(some 14), none, .q (.mv (.t 8))⟩,
 ⟨(some 15), none, .q (.bin .neq (.t 14) (.c (.int .i64 0)))⟩])
 (.cond (.t 15)
 (.seq (.reg [⟨(some 16), none, .q (.mv (.t 8))⟩,
 ⟨(some 6), none, .q (.mv (.c (.bool false)))⟩,
 ⟨(some 7), none, .q (.mv (.t 16))⟩])
 .ret)
 .skip)))
 (.seq (.seq (.reg [⟨(some 9), none, .q (.mv (.c (.int .i64 0)))⟩])
 (.block 0 (.loop [1, 2, 3, 9] (.seq (.seq (.reg [⟨(some 17), none, .q (.mv (.t 9))⟩,
 ⟨(some 18), none, .q (.mv (.t 1))⟩,
 ⟨(some 19), none, .q (.len (.t 18))⟩,
 ⟨(some 20), none, .q (.bin .lss (.t 17) (.t 19))⟩])
 (.cond (.t 20)
 .skip
 (.exit 0)))
 (.seq (.block 1 (.seq (.sch (.take 0 ⟨(some 23), none, .q (.ld true 1 (.t 3))⟩ (.take 1 ⟨(some 24), none, .q (.mv (.t 1))⟩ (.take 2 ⟨(some 25), none, .q (.mv (.t 9))⟩ (.take 3 ⟨(some 26), none, .q (.slc 1 (.t 24) none (some (.t 25)))⟩ (.take 4 ⟨(some 27), none, .q (.mv (.t 1))⟩ (.take 5 ⟨(some 28), none, .q (.mv (.t 9))⟩ (.take 6 ⟨(some 29), none, .q (.ixs 1 (.t 27) (.t 28))⟩ (.take 7 ⟨(some 30), none, .q (.ld false 1 (.t 29))⟩ (.take 8 ⟨(some 31), none, .q (.mv (.t 2))⟩ (.one ⟨(some 32), none, .c (.call 37 [(.t 23), (.t 26), (.t 30), (.t 31)])⟩ [7, 0] (.take 10 ⟨(some 33), none, .q (.un .not (.t 32))⟩ .done))))))))))))
 (.cond (.t 33)
 (.seq (.reg [⟨(some 6), none, .q (.mv (.c (.bool false)))⟩,
 ⟨(some 7), none, .q (.mv (.c (.int .i64 0)))⟩])
 .ret)
 .skip)))
 (.reg [⟨(some 21), none, .q (.mv (.t 9))⟩,
 ⟨(some 22), none, .q (.bin .add (.t 21) (.c (.int .i64 1)))⟩,
 ⟨(some 9), none, .q (.mv (.t 22))⟩]))))))
 (.seq (.reg [⟨(some 6), none, .q (.mv (.c (.bool true)))⟩,
 ⟨(some 7), none, .q (.mv (.c (.int .i64 0)))⟩])
 .ret))))⟩
theorem l_spec_AreApart : lowF PA f_spec_AreApart 3 [.k [1, 2, 3, 9], .s (.take 0 (.take 1 (.take 2 (.take 3 (.take 4 (.take 5 (.take 6 (.take 7 (.take 8 (.one 9 (.take 10 .done)))))))))))] = some c_spec_AreApart := by kernel_rfl
abbrev f_impl_CoversSpace : FuncId := 23
def c_impl_CoversSpace : AF := ⟨3, 20, [.t 6, .t 7],
 (.seq (.reg [⟨(some 3), none, .m (.box (.t 0))⟩,
 ⟨(some 6), none, .q (.mv (.c (.bool false)))⟩,
 ⟨(some 7), none, .q (.mv (.c (.int .i64 0)))⟩])
 (.seq (.seq (.reg [⟨(some 9), none, .q (.ld true 1 (.t 3))⟩,
 ⟨(some 10), none, .q (.mv (.t 1))⟩,
 ⟨(some 11), none, .q (.mv (.t 2))⟩,
 ⟨(some 12), none, .c (.call 50 [(.t 9), (.t 10), (.t 11)])⟩,
 ⟨(some 8), none, .q (.mv (.t 12))⟩])
 (.seq (.reg [⟨(some 13), none, .q (.mv (.t 8))⟩,
 ⟨(some 14), none, .q (.bin .neq (.t 13) (.c (.int .i64 0)))⟩])
 (.cond (.t 14)
 (.seq (.reg [⟨(some 15), none, .q (.mv (.t 8))⟩,
 ⟨(some 6), none, .q (.mv (.c (.bool false)))⟩,
 ⟨(some 7), none, .q (.mv (.t 15))⟩])
 .ret)
 .skip)))
 (.seq (.reg [⟨(some 16), none, .q (.ld true 1 (.t 3))⟩,
 ⟨(some 17), none, .q (.mv (.t 1))⟩,
 ⟨(some 18), none, .q (.mv (.t 2))⟩,
 ⟨(some 19), none, .c (.call 51 [(.t 16), (.t 17), (.t 18)])⟩,
 ⟨(some 6), none, .q (.mv (.t 19))⟩,
 ⟨(some 7), none, .q (.mv (.c (.int .i64 0)))⟩])
 .ret)))⟩
theorem l_impl_CoversSpace : lowF PA f_impl_CoversSpace 3 [] = some c_impl_CoversSpace := by kernel_rfl
abbrev f_spec_l04Few : FuncId := 24
def c_spec_l04Few : AF := ⟨3, 57, [.c 6 true 1, .t 7],
 (.seq (.reg [⟨(some 6), none, .m (.alloc [(.v (.slice none 0 0))])⟩,
 ⟨(some 7), none, .q (.mv (.c (.int .i64 0)))⟩])
 (.seq (.reg [⟨(some 11), none, .q (.mv (.t 0))⟩,
 ⟨(some 12), none, .c (.call 52 [(.t 11)])⟩,
 ⟨(some 8), none, .q (.mv (.t 12))⟩])
 (.seq (.reg [⟨(some 13), none, .m (.bsl 1 [(.c (.int .i64 2))])⟩,
 ⟨(some 14), none, .m (.bsl 1 [(.c (.int .i64 3))])⟩,
 ⟨(some 15), none, .m (.bsl 1 [(.c (.int .i64 2)), (.c (.int .i64 2))])⟩,
 ⟨(some 16), none, .m (.bsl 1 [(.c (.int .i64 2)), (.c (.int .i64 3))])⟩,
 ⟨(some 17), none, .m (.bsl 1 [(.c (.int .i64 3)), (.c (.int .i64 3))])⟩,
 ⟨(some 18), none, .m (.bsl 1 [(.c (.int .i64 4)), (.c (.int .i64 3))])⟩,
 ⟨(some 19), none, .m (.bsl 1 [(.c (.int .i64 2)), (.c (.int .i64 2)), (.c (.int .i64 2))])⟩,
 ⟨(some 20), none, .m (.bsl 1 [(.c (.int .i64 2)), (.c (.int .i64 2)), (.c (.int .i64 3))])⟩,
 ⟨(some 21), none, .m (.bsl 1 [(.c (.int .i64 2)), (.c (.int .i64 3)), (.c (.int .i64 3))])⟩,
 ⟨(some 22), none, .m (.bsl 1 [(.c (.int .i64 3)), (.c (.int .i64 3)), (.c (.int .i64 3))])⟩,
 ⟨(some 23), none, .m (.bsl 1 [(.c (.int .i64 2)), (.c (.int .i64 2)), (.c (.int .i64 2)), (.c (.int .i64 2))])⟩,
 ⟨(some 24), none, .m (.bsl 1 [(.c (.int .i64 4)), (.c (.int .i64 4))])⟩,
 ⟨(some 25), none, .m (.bsl 1 [(.c (.int .i64 2)), (.c (.int .i64 3)), (.c (.int .i64 4))])⟩,
 ⟨(some 26), none, .m (.bsl 1 [(.c (.int .i64 2)), (.c (.int .i64 2)), (.c (.int .i64 4))])⟩,
 ⟨(some 27), none, .m (.bsl 1 [(.c (.int .i64 4)), (.c (.int .i64 2)), (.c (.int .i64 3))])⟩,
 ⟨(some 28), none, .m (.bsl 1 [(.c (.int .i64 3)), (.c (.int .i64 2)), (.c (.int .i64 2)), (.c (.int .i64 2))])⟩,
 ⟨(some 29), none, .m (.bsl 1 [(.t 13), (.t 14), (.t 15), (.t 16), (.t 17), (.t 18), (.t 19), (.t 20), (.t 21), (.t 22), (.t 23), (.t 24), (.t 25), (.t 26), (.t 27), (.t 28)])⟩,
 ⟨(some 9), none, .q (.mv (.t 29))⟩])
 (.seq (.reg [⟨(some 30), none, .q (.mv (.t 9))⟩,
 ⟨(some 31), none, .q (.mv (.t 8))⟩,
 ⟨(some 32), none, .c (.call 54 [(.t 31), (.c (.int .i64 16))])⟩,
 ⟨(some 33), none, .q (.ixs 1 (.t 30) (.t 32))⟩,
 ⟨(some 34), none, .q (.ld false 1 (.t 33))⟩,
 ⟨(some 35), none, .c (.call 53 [(.t 34)])⟩,
 ⟨(some 36), none, .q (.bld [(.v (.slice none 0 0))] [(0, (.t 35))])⟩,
 ⟨(some 10), none, .m (.alloc [(.v (.slice none 0 0))])⟩,
 ⟨none, none, .m (.st true 1 (.t 10) (.t 36))⟩])
 (.seq (.seq (.reg [⟨(some 37), none, .q (.mv (.t 8))⟩,
 ⟨(some 38), none, .c (.call 54 [(.t 37), (.c (.int .i64 20))])⟩,
 ⟨(some 39), none, .q (.bin .eql (.t 38) (.c (.int .i64 0)))⟩])
 (.cond (.t 39)
 (.reg [⟨(some 40), none, .q (.mv (.t 8))⟩,
 ⟨(some 41), none, .c (.call 55 [(.t 40)])⟩,
 ⟨none, none, .m (.st true 1 (.t 10) (.t 41))⟩])
 .skip))
 (.seq (.reg [⟨(some 42), none, .q (.mv (.t 8))⟩,
 ⟨(some 43), none, .q (.ld true 1 (.t 10))⟩,
 ⟨(some 44), none, .c (.call 56 [(.t 42), (.t 43)])⟩,
 ⟨(some 45), none, .q (.mv (.t 8))⟩,
 ⟨(some 46), none, .q (.mv (.t 1))⟩,
 ⟨(some 47), none, .q (.mv (.t 1))⟩,
 ⟨(some 48), none, .q (.mv (.t 1))⟩,
 ⟨(some 49), none, .q (.bin .add (.t 48) (.c (.int .i64 1)))⟩,
 ⟨(some 50), none, .q (.mv (.t 1))⟩,
 ⟨(some 51), none, .q (.bin .add (.t 50) (.c (.int .i64 2)))⟩,
 ⟨(some 52), none, .q (.mv (.t 8))⟩,
 ⟨(some 53), none, .q (.mv (.t 2))⟩,
 ⟨(some 54), none, .c (.call 58 [(.t 52), (.t 53)])⟩,
 ⟨(some 55), none, .m (.bsl 1 [(.t 46), (.t 47), (.t 49), (.t 51), (.t 54)])⟩,
 ⟨(some 56), none, .c (.call 57 [(.t 45), (.t 55)])⟩,
 ⟨none, none, .m (.st true 1 (.t 6) (.t 44))⟩,
 ⟨(some 7), none, .q (.mv (.t 56))⟩])
 .ret))))))⟩
theorem l_spec_l04Few : lowF PA f_spec_l04Few 3 [] = some c_spec_l04Few := by kernel_rfl
abbrev f_impl_soughtCode : FuncId := 25
def c_impl_soughtCode : AF := ⟨4, 26, [.t 8],
 (.seq (.reg [⟨(some 4), none, .m (.box (.t 0))⟩,
 ⟨(some 8), none, .q (.mv (.c (.int .i64 0)))⟩])
 (.seq (.block 0 (.seq (.reg [⟨(some 10), none, .q (.ld true 1 (.t 4))⟩,
 ⟨(some 11), none, .c (.call 59 [(.t 10)])⟩,
 ⟨(some 12), none, .q (.un .not (.t 11))⟩,
 ⟨(some 9), none, .q (.mv (.t 12))⟩])
 (.cond (.t 9)
 (.seq (.reg [⟨(some 8), none, .q (.mv (.c (.int .i64 1)))⟩])
 .ret)
 (.seq (.reg [⟨(some 14), none, .q (.mv (.t 1))⟩,
 ⟨(some 15), none, .q (.mv (.t 2))⟩,
 ⟨(some 16), none, .q (.bin .lss (.t 14) (.t 15))⟩,
 ⟨(some 17), none, .q (.mv (.t 16))⟩,
 ⟨(some 18), (some (17, false)), .q (.mv (.t 1))⟩,
 ⟨(some 19), (some (17, false)), .q (.mv (.t 3))⟩,
 ⟨(some 20), (some (17, false)), .q (.bin .gtr (.t 18) (.t 19))⟩,
 ⟨(some 21), none, .q (.pick (.t 17) (.c (.bool true)) (.t 20))⟩,
 ⟨(some 13), none, .q (.mv (.t 21))⟩])
 (.cond (.t 13)
 (.seq (.reg [⟨(some 8), none, .q (.mv (.c (.int .i64 2)))⟩])
 .ret)
 (.seq (.reg [⟨(some 23), none, .q (.ld true 1 (.t 4))⟩,
 ⟨(some 24), none, .c (.call 38 [(.t 23)])⟩,
 ⟨(some 25), none, .q (.bin .gtr (.t 24) (.c (.int .i64 27)))⟩,
 ⟨(some 22), none, .q (.mv (.t 25))⟩])
 (.cond (.t 22)
 (.seq (.reg [⟨(some 8), none, .q (.mv (.c (.int .i64 3)))⟩])
 .ret)
 .skip)))))))
 (.seq (.reg [⟨(some 8), none, .q (.mv (.c (.int .i64 0)))⟩])
 .ret)))⟩
theorem l_impl_soughtCode : lowF PA f_impl_soughtCode 4 [] = some c_impl_soughtCode := by kernel_rfl
abbrev f_impl_firstApart : FuncId := 26
def c_impl_firstApart : AF := ⟨2, 30, [.t 4],
 (.seq (.reg [⟨(some 2), none, .m (.box (.t 0))⟩,
 ⟨(some 4), none, .q (.mv (.c (.slice none 0 0)))⟩])
 (.seq (.reg [⟨(some 9), none, .q (.ld true 1 (.t 2))⟩,
 ⟨(some 10), none, .q (.mv (.t 1))⟩,
 ⟨(some 11), none, .q (.bin .sub (.t 10) (.c (.int .i64 1)))⟩,
 ⟨(some 12), none, .q (.mn (.t 11) (.c (.int .i64 8)))⟩,
 ⟨(some 13), none, .c (.call 60 [(.t 9), (.t 12)])⟩,
 ⟨(some 5), none, .m (.alloc [(.v (.slice none 0 0))])⟩,
 ⟨none, none, .m (.st false 1 (.t 5) (.t 13))⟩])
 (.seq (.reg [⟨(some 14), none, .q (.ld true 1 (.t 2))⟩,
 ⟨(some 15), none, .q (.mv (.t 1))⟩,
 ⟨(some 16), none, .q (.bin .sub (.t 15) (.c (.int .i64 1)))⟩,
 ⟨(some 17), none, .c (.call 41 [(.t 14), (.t 16)])⟩,
 ⟨(some 6), none, .m (.alloc [(.v (.int .i64 0))])⟩,
 ⟨none, none, .m (.st false 1 (.t 6) (.t 17))⟩])
 (.block 0 (.loop [5, 6, 32] (.seq (.block 1 (.seq (.reg [⟨(some 20), none, .m (.bsl 1 [])⟩,
 ⟨(some 7), none, .m (.alloc [(.v (.slice none 0 0))])⟩,
 ⟨none, none, .m (.st false 1 (.t 7) (.t 20))⟩])
 (.seq (.reg [⟨(some 8), none, .m (.alloc [(.v .nilFunc)])⟩])
 (.seq (.reg [⟨(some 21), none, .q (.mkf 61 [(.t 6), (.t 7), (.t 8), (.t 5)])⟩,
 ⟨none, none, .m (.st false 1 (.t 8) (.t 21))⟩])
 (.seq (.sch (.take 0 ⟨(some 22), none, .q (.ld false 1 (.t 8))⟩ (.take 1 ⟨(some 23), none, .q (.ld false 1 (.t 5))⟩ (.take 2 ⟨(some 24), none, .q (.len (.t 23))⟩ (.take 3 ⟨(some 25), none, .q (.bin .shl (.c (.int .u64 1)) (.t 24))⟩ (.take 4 ⟨(some 26), none, .q (.bin .sub (.t 25) (.c (.int .u64 1)))⟩ (.one ⟨(some 27), none, .c (.cav (.t 22) [(.t 26)])⟩ [0] .done)))))))
 (.cond (.t 27)
 (.seq (.reg [⟨(some 28), none, .q (.ld false 1 (.t 7))⟩,
 ⟨(some 4), none, .q (.mv (.t 28))⟩])
 .ret)
 .skip))))))
 (.seq (.seq (.reg [⟨(some 29), none, .q (.ld false 1 (.t 6))⟩])
 (.reg [⟨(some 6), none, .m (.alloc [(.v (.int .i64 0))])⟩,
 ⟨none, none, .m (.st false 1 (.t 6) (.t 29))⟩]))
 (.reg [⟨(some 18), none, .q (.ld false 1 (.t 6))⟩,
 ⟨(some 19), none, .q (.bin .sub (.t 18) (.c (.int .i64 1)))⟩,
 ⟨none, none, .m (.st false 1 (.t 6) (.t 19))⟩]))))))))⟩
theorem l_impl_firstApart : lowF PA f_impl_firstApart 2 [.k [5, 6, 32], .s (.take 0 (.take 1 (.take 2 (.take 3 (.take 4 (.one 5 .done))))))] = some c_impl_firstApart := by kernel_rfl
abbrev f_spec_l04Sought : FuncId := 27
def c_spec_l04Sought : AF := ⟨4, 23, [.t 8],
 (.seq (.reg [⟨(some 4), none, .m (.box (.t 0))⟩,
 ⟨(some 8), none, .q (.mv (.c (.int .i64 0)))⟩])
 (.seq (.reg [⟨(some 10), none, .q (.ld true 1 (.t 4))⟩,
 ⟨(some 11), none, .q (.mv (.t 1))⟩,
 ⟨(some 12), none, .q (.mv (.t 2))⟩,
 ⟨(some 13), none, .q (.mv (.t 3))⟩,
 ⟨(some 14), none, .c (.call 35 [(.t 10), (.t 11), (.t 12), (.t 13)])⟩,
 ⟨(some 9), none, .q (.mv (.t 14))⟩])
 (.seq (.seq (.reg [⟨(some 15), none, .q (.mv (.t 9))⟩,
 ⟨(some 16), none, .q (.bin .eql (.t 15) (.c (.int .i64 0)))⟩,
 ⟨(some 17), none, .q (.mv (.t 16))⟩,
 ⟨(some 18), (some (17, true)), .q (.ld true 1 (.t 4))⟩,
 ⟨(some 19), (some (17, true)), .c (.call 36 [(.t 18)])⟩,
 ⟨(some 20), (some (17, true)), .q (.bin .gtr (.t 19) (.c (.int .i64 27)))⟩,
 ⟨(some 21), none, .q (.pick (.t 17) (.t 20) (.c (.bool false)))⟩])
 (.cond (.t 21)
 (.reg [⟨(some 9), none, .q (.mv (.c (.int .i64 3)))⟩])
 .skip))
 (.seq (.reg [⟨(some 22), none, .q (.mv (.t 9))⟩,
 ⟨(some 8), none, .q (.mv (.t 22))⟩])
 .ret))))⟩
theorem l_spec_l04Sought : lowF PA f_spec_l04Sought 4 [] = some c_spec_l04Sought := by kernel_rfl
abbrev f_spec_l04Most : FuncId := 28
def c_spec_l04Most : AF := ⟨2, 29, [.t 4],
 (.seq (.reg [⟨(some 2), none, .m (.box (.t 0))⟩,
 ⟨(some 4), none, .q (.mv (.c (.slice none 0 0)))⟩])
 (.seq (.reg [⟨(some 9), none, .m (.bsl 1 [])⟩,
 ⟨(some 5), none, .q (.mv (.t 9))⟩])
 (.seq (.seq (.reg [⟨(some 6), none, .q (.mv (.c (.int .i64 0)))⟩])
 (.block 0 (.loop [1, 2, 5, 6] (.seq (.seq (.reg [⟨(some 10), none, .q (.mv (.t 6))⟩,
 ⟨(some 11), none, .q (.ld true 1 (.t 2))⟩,
 ⟨(some 12), none, .c (.call 36 [(.t 11)])⟩,
 ⟨(some 13), none, .q (.bin .lss (.t 10) (.t 12))⟩])
 (.cond (.t 13)
 .skip
 (.exit 0)))
 (.seq (.block 1 (.reg [⟨(some 16), none, .q (.mv (.t 5))⟩,
 ⟨(some 17), none, .q (.mv (.t 6))⟩,
 ⟨(some 18), none, .m (.bsl 1 [(.t 17)])⟩,
 ⟨(some 19), none, .m (.app 1 8 (.t 16) (.t 18))⟩,
 ⟨(some 5), none, .q (.mv (.t 19))⟩]))
 (.reg [⟨(some 14), none, .q (.mv (.t 6))⟩,
 ⟨(some 15), none, .q (.bin .add (.t 14) (.c (.int .i64 1)))⟩,
 ⟨(some 6), none, .q (.mv (.t 15))⟩]))))))
 (.seq (.reg [⟨(some 21), none, .q (.ld true 1 (.t 2))⟩,
 ⟨(some 22), none, .m (.bsl 1 [])⟩,
 ⟨(some 23), none, .q (.mv (.t 5))⟩,
 ⟨(some 24), none, .q (.mv (.t 1))⟩,
 ⟨(some 25), none, .c (.call 64 [(.t 21), (.t 22), (.t 23), (.t 24), (.c (.int .i64 0))])⟩,
 ⟨(some 20), none, .q (.mv (.t 25))⟩,
 ⟨(some 26), none, .q (.ext (.t 20) 0)⟩,
 ⟨(some 27), none, .q (.ext (.t 20) 1)⟩,
 ⟨(some 7), none, .q (.mv (.t 26))⟩,
 ⟨(some 8), none, .q (.mv (.t 27))⟩])
 (.seq (.reg [⟨(some 28), none, .q (.mv (.t 7))⟩,
 ⟨(some 4), none, .q (.mv (.t 28))⟩])
 .ret)))))⟩
theorem l_spec_l04Most : lowF PA f_spec_l04Most 2 [.k [1, 2, 5, 6]] = some c_spec_l04Most := by kernel_rfl
abbrev f_spec_l04Draw : FuncId := 29
def c_spec_l04Draw : AF := ⟨3, 28, [.c 6 true 1, .t 7],
 (.seq (.reg [⟨(some 6), none, .m (.alloc [(.v (.slice none 0 0))])⟩,
 ⟨(some 7), none, .q (.mv (.c (.int .i64 0)))⟩])
 (.seq (.reg [⟨(some 10), none, .q (.mv (.t 0))⟩,
 ⟨(some 11), none, .c (.call 52 [(.t 10)])⟩,
 ⟨(some 8), none, .q (.mv (.t 11))⟩])
 (.seq (.reg [⟨(some 12), none, .q (.mv (.t 8))⟩,
 ⟨(some 13), none, .c (.call 55 [(.t 12)])⟩,
 ⟨(some 9), none, .m (.alloc [(.v (.slice none 0 0))])⟩,
 ⟨none, none, .m (.st true 1 (.t 9) (.t 13))⟩])
 (.seq (.reg [⟨(some 14), none, .q (.mv (.t 8))⟩,
 ⟨(some 15), none, .q (.ld true 1 (.t 9))⟩,
 ⟨(some 16), none, .c (.call 56 [(.t 14), (.t 15)])⟩,
 ⟨(some 17), none, .q (.mv (.t 8))⟩,
 ⟨(some 18), none, .q (.mv (.t 1))⟩,
 ⟨(some 19), none, .q (.mv (.t 1))⟩,
 ⟨(some 20), none, .q (.bin .add (.t 19) (.c (.int .i64 1)))⟩,
 ⟨(some 21), none, .q (.mv (.t 1))⟩,
 ⟨(some 22), none, .q (.bin .add (.t 21) (.c (.int .i64 2)))⟩,
 ⟨(some 23), none, .q (.mv (.t 8))⟩,
 ⟨(some 24), none, .q (.mv (.t 2))⟩,
 ⟨(some 25), none, .c (.call 58 [(.t 23), (.t 24)])⟩,
 ⟨(some 26), none, .m (.bsl 1 [(.t 18), (.t 20), (.t 22), (.t 25)])⟩,
 ⟨(some 27), none, .c (.call 57 [(.t 17), (.t 26)])⟩,
 ⟨none, none, .m (.st true 1 (.t 6) (.t 16))⟩,
 ⟨(some 7), none, .q (.mv (.t 27))⟩])
 .ret))))⟩
theorem l_spec_l04Draw : lowF PA f_spec_l04Draw 3 [] = some c_spec_l04Draw := by kernel_rfl
abbrev f_impl_boundCode : FuncId := 30
def c_impl_boundCode : AF := ⟨2, 16, [.t 4],
 (.seq (.reg [⟨(some 2), none, .m (.box (.t 0))⟩,
 ⟨(some 4), none, .q (.mv (.c (.int .i64 0)))⟩])
 (.seq (.block 0 (.seq (.reg [⟨(some 6), none, .q (.ld true 1 (.t 2))⟩,
 ⟨(some 7), none, .c (.call 59 [(.t 6)])⟩,
 ⟨(some 8), none, .q (.un .not (.t 7))⟩,
 ⟨(some 5), none, .q (.mv (.t 8))⟩])
 (.cond (.t 5)
 (.seq (.reg [⟨(some 4), none, .q (.mv (.c (.int .i64 1)))⟩])
 .ret)
 (.seq (.reg [⟨(some 10), none, .q (.mv (.t 1))⟩,
 ⟨(some 11), none, .q (.bin .lss (.t 10) (.c (.int .i64 1)))⟩,
 ⟨(some 12), none, .q (.mv (.t 11))⟩,
 ⟨(some 13), (some (12, false)), .q (.mv (.t 1))⟩,
 ⟨(some 14), (some (12, false)), .q (.bin .gtr (.t 13) (.c (.int .i64 9)))⟩,
 ⟨(some 15), none, .q (.pick (.t 12) (.c (.bool true)) (.t 14))⟩,
 ⟨(some 9), none, .q (.mv (.t 15))⟩])
 (.cond (.t 9)
 (.seq (.reg [⟨(some 4), none, .q (.mv (.c (.int .i64 2)))⟩])
 .ret)
 .skip)))))
 (.seq (.reg [⟨(some 4), none, .q (.mv (.c (.int .i64 0)))⟩])
 .ret)))⟩
theorem l_impl_boundCode : lowF PA f_impl_boundCode 2 [] = some c_impl_boundCode := by kernel_rfl
abbrev f_impl_allDigits : FuncId := 31
def c_impl_allDigits : AF := ⟨1, 19, [.t 2],
 (.seq (.reg [⟨(some 1), none, .m (.box (.t 0))⟩,
 ⟨(some 2), none, .q (.mv (.c (.slice none 0 0)))⟩])
 (.seq (.reg [⟨(some 5), none, .m (.bsl 8 [])⟩,
 ⟨(some 3), none, .q (.mv (.t 5))⟩])
 (.seq (.seq (.reg [⟨(some 6), none, .q (.ld true 1 (.t 1))⟩,
 ⟨(some 7), none, .c (.call 38 [(.t 6)])⟩,
 ⟨(some 8), none, .q (.mv (.c (.int .i64 0)))⟩])
 (.block 0 (.loop [1, 3, 7, 8] (.seq (.reg [⟨(some 9), none, .q (.bin .lss (.t 8) (.t 7))⟩])
 (.seq (.cond (.t 9)
 .skip
 (.exit 0))
 (.seq (.block 1 (.seq (.reg [⟨(some 10), none, .q (.mv (.t 8))⟩,
 ⟨(some 4), none, .q (.mv (.t 10))⟩])
 (.reg [⟨(some 11), none, .q (.mv (.t 3))⟩,
 ⟨(some 12), none, .q (.ld true 1 (.t 1))⟩,
 ⟨(some 13), none, .q (.mv (.t 4))⟩,
 ⟨(some 14), none, .c (.call 65 [(.t 12), (.t 13)])⟩,
 ⟨(some 15), none, .m (.bsl 8 [(.t 14)])⟩,
 ⟨(some 16), none, .m (.app 8 8 (.t 11) (.t 15))⟩,
 ⟨(some 3), none, .q (.mv (.t 16))⟩])))
 (.reg [⟨(some 17), none, .q (.bin .add (.t 8) (.c (.int .i64 1)))⟩,
 ⟨(some 8), none, .q (.mv (.t 17))⟩])))))))
 (.seq (.reg [⟨(some 18), none, .q (.mv (.t 3))⟩,
 ⟨(some 2), none, .q (.mv (.t 18))⟩])
 .ret))))⟩
theorem l_impl_allDigits : lowF PA f_impl_allDigits 1 [.k [1, 3, 7, 8]] = some c_impl_allDigits := by kernel_rfl
abbrev f_slices_ContainsFunc___impl_digits_impl_digits_ : FuncId := 32
def c_slices_ContainsFunc___impl_digits_impl_digits_ : AF := ⟨2, 9, [.t 4],
 (.seq (.reg [⟨(some 4), none, .q (.mv (.c (.bool false)))⟩])
 (.seq (.reg [⟨(some 5), none, .q (.mv (.t 0))⟩,
 ⟨(some 6), none, .q (.mv (.t 1))⟩,
 ⟨(some 7), none, .c (.call 66 [(.t 5), (.t 6)])⟩,
 ⟨(some 8), none, .q (.bin .geq (.t 7) (.c (.int .i64 0)))⟩,
 ⟨(some 4), none, .q (.mv (.t 8))⟩])
 .ret))⟩
theorem l_slices_ContainsFunc___impl_digits_impl_digits_ : lowF PA f_slices_ContainsFunc___impl_digits_impl_digits_ 2 [] = some c_slices_ContainsFunc___impl_digits_impl_digits_ := by kernel_rfl
abbrev f_impl_GreedyApart_1 : FuncId := 33
def c_impl_GreedyApart_1 : AF := ⟨3, 10, [.t 4],
 (.seq (.reg [⟨(some 3), none, .m (.box (.t 0))⟩,
 ⟨(some 4), none, .q (.mv (.c (.bool false)))⟩])
 (.seq (.sch (.take 0 ⟨(some 5), none, .q (.ld true 8 (.t 3))⟩ (.take 1 ⟨(some 6), none, .q (.ld true 8 (.t 1))⟩ (.take 3 ⟨(some 8), none, .q (.ld false 1 (.t 2))⟩ (.one ⟨(some 7), none, .c (.call 34 [(.t 5), (.t 6)])⟩ [1, 0] (.take 4 ⟨(some 9), none, .q (.bin .lss (.t 7) (.t 8))⟩ (.take 5 ⟨(some 4), none, .q (.mv (.t 9))⟩ .done)))))))
 .ret))⟩
theorem l_impl_GreedyApart_1 : lowF PA f_impl_GreedyApart_1 3 [.s (.take 0 (.take 1 (.take 3 (.one 2 (.take 4 (.take 5 .done))))))] = some c_impl_GreedyApart_1 := by kernel_rfl
abbrev f_impl_far : FuncId := 34
def c_impl_far : AF := ⟨2, 22, [.t 4],
 (.seq (.reg [⟨(some 2), none, .m (.box (.t 0))⟩,
 ⟨(some 3), none, .m (.box (.t 1))⟩,
 ⟨(some 4), none, .q (.mv (.c (.int .i64 0)))⟩])
 (.seq (.reg [⟨(some 5), none, .q (.mv (.c (.int .i64 0)))⟩])
 (.seq (.seq (.reg [⟨(some 8), none, .q (.ld true 8 (.t 2))⟩,
 ⟨(some 9), none, .q (.mv (.c (.int .i64 0)))⟩])
 (.block 0 (.loop [3, 5, 8, 9] (.seq (.reg [⟨(some 10), none, .q (.bin .lss (.t 9) (.c (.int .i64 8)))⟩])
 (.seq (.cond (.t 10)
 .skip
 (.exit 0))
 (.seq (.block 1 (.seq (.reg [⟨(some 11), none, .q (.mv (.t 9))⟩,
 ⟨(some 12), none, .q (.ixv 8 (.t 8) (.t 9))⟩,
 ⟨(some 6), none, .q (.mv (.t 11))⟩,
 ⟨(some 7), none, .q (.mv (.t 12))⟩])
 (.seq (.reg [⟨(some 13), none, .q (.mv (.t 7))⟩,
 ⟨(some 14), none, .q (.mv (.t 6))⟩,
 ⟨(some 15), none, .q (.ixa 8 1 (.t 3) (.t 14))⟩,
 ⟨(some 16), none, .q (.ld false 1 (.t 15))⟩,
 ⟨(some 17), none, .q (.bin .neq (.t 13) (.t 16))⟩])
 (.cond (.t 17)
 (.reg [⟨(some 18), none, .q (.mv (.t 5))⟩,
 ⟨(some 19), none, .q (.bin .add (.t 18) (.c (.int .i64 1)))⟩,
 ⟨(some 5), none, .q (.mv (.t 19))⟩])
 .skip))))
 (.reg [⟨(some 20), none, .q (.bin .add (.t 9) (.c (.int .i64 1)))⟩,
 ⟨(some 9), none, .q (.mv (.t 20))⟩])))))))
 (.seq (.reg [⟨(some 21), none, .q (.mv (.t 5))⟩,
 ⟨(some 4), none, .q (.mv (.t 21))⟩])
 .ret))))⟩
theorem l_impl_far : lowF PA f_impl_far 2 [.k [3, 5, 8, 9]] = some c_impl_far := by kernel_rfl
abbrev f_spec_l04Code : FuncId := 35
def c_spec_l04Code : AF := ⟨4, 19, [.t 8],
 (.seq (.reg [⟨(some 4), none, .m (.box (.t 0))⟩,
 ⟨(some 8), none, .q (.mv (.c (.int .i64 0)))⟩])
 (.seq (.block 0 (.seq (.reg [⟨(some 10), none, .q (.ld true 1 (.t 4))⟩,
 ⟨(some 11), none, .c (.call 67 [(.t 10)])⟩,
 ⟨(some 12), none, .q (.un .not (.t 11))⟩,
 ⟨(some 9), none, .q (.mv (.t 12))⟩])
 (.cond (.t 9)
 (.seq (.reg [⟨(some 8), none, .q (.mv (.c (.int .i64 1)))⟩])
 .ret)
 (.seq (.reg [⟨(some 14), none, .q (.mv (.t 1))⟩,
 ⟨(some 15), none, .q (.mv (.t 2))⟩,
 ⟨(some 16), none, .q (.mv (.t 3))⟩,
 ⟨(some 17), none, .c (.call 68 [(.t 14), (.t 15), (.t 16)])⟩,
 ⟨(some 18), none, .q (.un .not (.t 17))⟩,
 ⟨(some 13), none, .q (.mv (.t 18))⟩])
 (.cond (.t 13)
 (.seq (.reg [⟨(some 8), none, .q (.mv (.c (.int .i64 2)))⟩])
 .ret)
 .skip)))))
 (.seq (.reg [⟨(some 8), none, .q (.mv (.c (.int .i64 0)))⟩])
 .ret)))⟩
theorem l_spec_l04Code : lowF PA f_spec_l04Code 4 [] = some c_spec_l04Code := by kernel_rfl
abbrev f_spec_l01N : FuncId := 36
def c_spec_l01N : AF := ⟨1, 20, [.t 2],
 (.seq (.reg [⟨(some 1), none, .m (.box (.t 0))⟩,
 ⟨(some 2), none, .q (.mv (.c (.int .i64 0)))⟩])
 (.seq (.reg [⟨(some 3), none, .q (.mv (.c (.int .i64 1)))⟩])
 (.seq (.seq (.reg [⟨(some 4), none, .q (.mv (.c (.int .i64 0)))⟩])
 (.block 0 (.loop [1, 3, 4] (.seq (.seq (.reg [⟨(some 5), none, .q (.mv (.t 4))⟩,
 ⟨(some 6), none, .q (.fad 0 (.t 1))⟩,
 ⟨(some 7), none, .q (.ld false 1 (.t 6))⟩,
 ⟨(some 8), none, .q (.len (.t 7))⟩,
 ⟨(some 9), none, .q (.bin .lss (.t 5) (.t 8))⟩])
 (.cond (.t 9)
 .skip
 (.exit 0)))
 (.seq (.block 1 (.reg [⟨(some 12), none, .q (.mv (.t 3))⟩,
 ⟨(some 13), none, .q (.fad 0 (.t 1))⟩,
 ⟨(some 14), none, .q (.ld false 1 (.t 13))⟩,
 ⟨(some 15), none, .q (.mv (.t 4))⟩,
 ⟨(some 16), none, .q (.ixs 1 (.t 14) (.t 15))⟩,
 ⟨(some 17), none, .q (.ld false 1 (.t 16))⟩,
 ⟨(some 18), none, .q (.bin .mul (.t 12) (.t 17))⟩,
 ⟨(some 3), none, .q (.mv (.t 18))⟩]))
 (.reg [⟨(some 10), none, .q (.mv (.t 4))⟩,
 ⟨(some 11), none, .q (.bin .add (.t 10) (.c (.int .i64 1)))⟩,
 ⟨(some 4), none, .q (.mv (.t 11))⟩]))))))
 (.seq (.reg [⟨(some 19), none, .q (.mv (.t 3))⟩,
 ⟨(some 2), none, .q (.mv (.t 19))⟩])
 .ret))))⟩
theorem l_spec_l01N : lowF PA f_spec_l01N 1 [.k [1, 3, 4]] = some c_spec_l01N := by kernel_rfl
abbrev f_spec_l04Far : FuncId := 37
def c_spec_l04Far : AF := ⟨4, 25, [.t 8],
 (.seq (.reg [⟨(some 4), none, .m (.box (.t 0))⟩,
 ⟨(some 8), none, .q (.mv (.c (.bool false)))⟩])
 (.seq (.seq (.reg [⟨(some 9), none, .q (.mv (.c (.int .i64 0)))⟩])
 (.block 0 (.loop [1, 2, 3, 4, 9] (.seq (.seq (.reg [⟨(some 10), none, .q (.mv (.t 9))⟩,
 ⟨(some 11), none, .q (.mv (.t 1))⟩,
 ⟨(some 12), none, .q (.len (.t 11))⟩,
 ⟨(some 13), none, .q (.bin .lss (.t 10) (.t 12))⟩])
 (.cond (.t 13)
 .skip
 (.exit 0)))
 (.seq (.block 1 (.seq (.sch (.take 0 ⟨(some 16), none, .q (.ld true 1 (.t 4))⟩ (.take 1 ⟨(some 17), none, .q (.mv (.t 1))⟩ (.take 2 ⟨(some 18), none, .q (.mv (.t 9))⟩ (.take 3 ⟨(some 19), none, .q (.ixs 1 (.t 17) (.t 18))⟩ (.take 4 ⟨(some 20), none, .q (.ld false 1 (.t 19))⟩ (.take 5 ⟨(some 21), none, .q (.mv (.t 2))⟩ (.take 7 ⟨(some 23), none, .q (.mv (.t 3))⟩ (.one ⟨(some 22), none, .c (.call 69 [(.t 16), (.t 20), (.t 21)])⟩ [4, 0] (.take 8 ⟨(some 24), none, .q (.bin .lss (.t 22) (.t 23))⟩ .done))))))))))
 (.cond (.t 24)
 (.seq (.reg [⟨(some 8), none, .q (.mv (.c (.bool false)))⟩])
 .ret)
 .skip)))
 (.reg [⟨(some 14), none, .q (.mv (.t 9))⟩,
 ⟨(some 15), none, .q (.bin .add (.t 14) (.c (.int .i64 1)))⟩,
 ⟨(some 9), none, .q (.mv (.t 15))⟩]))))))
 (.seq (.reg [⟨(some 8), none, .q (.mv (.c (.bool true)))⟩])
 .ret)))⟩
theorem l_spec_l04Far : lowF PA f_spec_l04Far 4 [.k [1, 2, 3, 4, 9], .s (.take 0 (.take 1 (.take 2 (.take 3 (.take 4 (.take 5 (.take 7 (.one 6 (.take 8 .done)))))))))] = some c_spec_l04Far := by kernel_rfl
abbrev f_impl_count : FuncId := 38
def c_impl_count : AF := ⟨1, 18, [.t 2],
 (.seq (.reg [⟨(some 1), none, .m (.box (.t 0))⟩,
 ⟨(some 2), none, .q (.mv (.c (.int .i64 0)))⟩])
 (.seq (.reg [⟨(some 3), none, .q (.mv (.c (.int .i64 1)))⟩])
 (.seq (.seq (.reg [⟨(some 6), none, .q (.fad 0 (.t 1))⟩,
 ⟨(some 7), none, .q (.ld false 1 (.t 6))⟩,
 ⟨(some 8), none, .q (.len (.t 7))⟩,
 ⟨(some 9), none, .q (.mv (.c (.int .i64 0)))⟩])
 (.block 0 (.loop [3, 7, 8, 9] (.seq (.reg [⟨(some 10), none, .q (.bin .lss (.t 9) (.t 8))⟩])
 (.seq (.cond (.t 10)
 .skip
 (.exit 0))
 (.seq (.block 1 (.seq (.reg [⟨(some 11), none, .q (.ixs 1 (.t 7) (.t 9))⟩,
 ⟨(some 12), none, .q (.ld false 1 (.t 11))⟩,
 ⟨(some 5), none, .q (.mv (.t 12))⟩])
 (.reg [⟨(some 13), none, .q (.mv (.t 3))⟩,
 ⟨(some 14), none, .q (.mv (.t 5))⟩,
 ⟨(some 15), none, .q (.bin .mul (.t 13) (.t 14))⟩,
 ⟨(some 3), none, .q (.mv (.t 15))⟩])))
 (.reg [⟨(some 16), none, .q (.bin .add (.t 9) (.c (.int .i64 1)))⟩,
 ⟨(some 9), none, .q (.mv (.t 16))⟩])))))))
 (.seq (.reg [⟨(some 17), none, .q (.mv (.t 3))⟩,
 ⟨(some 2), none, .q (.mv (.t 17))⟩])
 .ret))))⟩
theorem l_impl_count : lowF PA f_impl_count 1 [.k [3, 7, 8, 9]] = some c_impl_count := by kernel_rfl
abbrev f_impl_ball : FuncId := 39
def c_impl_ball : AF := ⟨3, 14, [.t 6],
 (.seq (.reg [⟨(some 3), none, .m (.box (.t 0))⟩,
 ⟨(some 5), none, .m (.box (.t 2))⟩,
 ⟨(some 6), none, .q (.mv (.c (.slice none 0 0)))⟩])
 (.seq (.reg [⟨(some 8), none, .q (.ld true 1 (.t 3))⟩,
 ⟨(some 9), none, .q (.mv (.t 1))⟩,
 ⟨(some 10), none, .c (.call 65 [(.t 8), (.t 9)])⟩,
 ⟨(some 7), none, .m (.alloc [(.v (.int .u8 0)), (.v (.int .u8 0)), (.v (.int .u8 0)), (.v (.int .u8 0)), (.v (.int .u8 0)), (.v (.int .u8 0)), (.v (.int .u8 0)), (.v (.int .u8 0))])⟩,
 ⟨none, none, .m (.st true 8 (.t 7) (.t 10))⟩])
 (.seq (.reg [⟨(some 11), none, .q (.ld true 1 (.t 3))⟩,
 ⟨(some 12), none, .q (.mkf 71 [(.t 7), (.t 5)])⟩,
 ⟨(some 13), none, .c (.call 70 [(.t 11), (.t 12)])⟩,
 ⟨(some 6), none, .q (.mv (.t 13))⟩])
 .ret)))⟩
theorem l_impl_ball : lowF PA f_impl_ball 3 [] = some c_impl_ball := by kernel_rfl
abbrev f_spec_l01Size : FuncId := 40
def c_spec_l01Size : AF := ⟨2, 68, [.t 4],
 (.seq (.reg [⟨(some 2), none, .m (.box (.t 0))⟩,
 ⟨(some 4), none, .q (.mv (.c (.int .i64 0)))⟩])
 (.seq (.reg [⟨(some 10), none, .q (.fad 0 (.t 2))⟩,
 ⟨(some 11), none, .q (.ld false 1 (.t 10))⟩,
 ⟨(some 12), none, .q (.len (.t 11))⟩,
 ⟨(some 13), none, .q (.bin .add (.t 12) (.c (.int .i64 1)))⟩,
 ⟨(some 14), none, .m (.mks 1 (.v (.int .i64 0)) 8 (.t 13) (.t 13))⟩,
 ⟨(some 5), none, .q (.mv (.t 14))⟩])
 (.seq (.reg [⟨(some 15), none, .q (.mv (.t 5))⟩,
 ⟨(some 16), none, .q (.ixs 1 (.t 15) (.c (.int .i64 0)))⟩,
 ⟨none, none, .m (.st false 1 (.t 16) (.c (.int .i64 1)))⟩])
 (.seq (.seq (.reg [⟨(some 6), none, .q (.mv (.c (.int .i64 0)))⟩])
 (.block 0 (.loop [1, 2, 5, 6] (.seq (.seq (.reg [⟨(some 17), none, .q (.mv (.t 6))⟩,
 ⟨(some 18), none, .q (.fad 0 (.t 2))⟩,
 ⟨(some 19), none, .q (.ld false 1 (.t 18))⟩,
 ⟨(some 20), none, .q (.len (.t 19))⟩,
 ⟨(some 21), none, .q (.bin .lss (.t 17) (.t 20))⟩])
 (.cond (.t 21)
 .skip
 (.exit 0)))
 (.seq (.block 1 (.seq (.reg [⟨(some 24), none, .q (.mv (.t 6))⟩,
 ⟨(some 25), none, .q (.bin .add (.t 24) (.c (.int .i64 1)))⟩,
 ⟨(some 7), none, .q (.mv (.t 25))⟩])
 (.block 2 (.loop [1, 2, 5, 6, 7] (.seq (.seq (.reg [⟨(some 26), none, .q (.mv (.t 7))⟩,
 ⟨(some 27), none, .q (.bin .gtr (.t 26) (.c (.int .i64 0)))⟩])
 (.cond (.t 27)
 .skip
 (.exit 2)))
 (.seq (.block 3 (.sch (.take 0 ⟨(some 30), none, .q (.mv (.t 5))⟩ (.take 1 ⟨(some 31), none, .q (.mv (.t 7))⟩ (.take 2 ⟨(some 32), none, .q (.mv (.t 5))⟩ (.take 3 ⟨(some 33), none, .q (.mv (.t 7))⟩ (.take 4 ⟨(some 34), none, .q (.ixs 1 (.t 32) (.t 33))⟩ (.take 5 ⟨(some 35), none, .q (.ld false 1 (.t 34))⟩ (.take 6 ⟨(some 36), none, .q (.mv (.t 5))⟩ (.take 7 ⟨(some 37), none, .q (.mv (.t 7))⟩ (.take 8 ⟨(some 38), none, .q (.bin .sub (.t 37) (.c (.int .i64 1)))⟩ (.take 9 ⟨(some 39), none, .q (.ixs 1 (.t 36) (.t 38))⟩ (.take 10 ⟨(some 40), none, .q (.ld false 1 (.t 39))⟩ (.take 11 ⟨(some 41), none, .q (.fad 0 (.t 2))⟩ (.take 12 ⟨(some 42), none, .q (.ld false 1 (.t 41))⟩ (.take 13 ⟨(some 43), none, .q (.mv (.t 6))⟩ (.take 14 ⟨(some 44), none, .q (.ixs 1 (.t 42) (.t 43))⟩ (.take 15 ⟨(some 45), none, .q (.ld false 1 (.t 44))⟩ (.take 16 ⟨(some 46), none, .q (.bin .sub (.t 45) (.c (.int .i64 1)))⟩ (.take 17 ⟨(some 47), none, .q (.bin .mul (.t 40) (.t 46))⟩ (.take 18 ⟨(some 48), none, .q (.bin .add (.t 35) (.t 47))⟩ (.take 19 ⟨(some 49), none, .q (.ixs 1 (.t 30) (.t 31))⟩ (.one ⟨none, none, .m (.st false 1 (.t 49) (.t 48))⟩ [15, 12, 10, 5] .done)))))))))))))))))))))))
 (.reg [⟨(some 28), none, .q (.mv (.t 7))⟩,
 ⟨(some 29), none, .q (.bin .sub (.t 28) (.c (.int .i64 1)))⟩,
 ⟨(some 7), none, .q (.mv (.t 29))⟩])))))))
 (.reg [⟨(some 22), none, .q (.mv (.t 6))⟩,
 ⟨(some 23), none, .q (.bin .add (.t 22) (.c (.int .i64 1)))⟩,
 ⟨(some 6), none, .q (.mv (.t 23))⟩]))))))
 (.seq (.reg [⟨(some 8), none, .q (.mv (.c (.int .i64 0)))⟩])
 (.seq (.seq (.reg [⟨(some 9), none, .q (.mv (.c (.int .i64 0)))⟩])
 (.block 4 (.loop [1, 5, 8, 9] (.seq (.seq (.reg [⟨(some 50), none, .q (.mv (.t 9))⟩,
 ⟨(some 51), none, .q (.mv (.t 5))⟩,
 ⟨(some 52), none, .q (.len (.t 51))⟩,
 ⟨(some 53), none, .q (.bin .lss (.t 50) (.t 52))⟩,
 ⟨(some 54), none, .q (.mv (.t 53))⟩,
 ⟨(some 55), (some (54, true)), .q (.mv (.t 9))⟩,
 ⟨(some 56), (some (54, true)), .q (.mv (.t 1))⟩,
 ⟨(some 57), (some (54, true)), .q (.bin .leq (.t 55) (.t 56))⟩,
 ⟨(some 58), none, .q (.pick (.t 54) (.t 57) (.c (.bool false)))⟩])
 (.cond (.t 58)
 .skip
 (.exit 4)))
 (.seq (.block 5 (.reg [⟨(some 61), none, .q (.mv (.t 8))⟩,
 ⟨(some 62), none, .q (.mv (.t 5))⟩,
 ⟨(some 63), none, .q (.mv (.t 9))⟩,
 ⟨(some 64), none, .q (.ixs 1 (.t 62) (.t 63))⟩,
 ⟨(some 65), none, .q (.ld false 1 (.t 64))⟩,
 ⟨(some 66), none, .q (.bin .add (.t 61) (.t 65))⟩,
 ⟨(some 8), none, .q (.mv (.t 66))⟩]))
 (.reg [⟨(some 59), none, .q (.mv (.t 9))⟩,
 ⟨(some 60), none, .q (.bin .add (.t 59) (.c (.int .i64 1)))⟩,
 ⟨(some 9), none, .q (.mv (.t 60))⟩]))))))
 (.seq (.reg [⟨(some 67), none, .q (.mv (.t 8))⟩,
 ⟨(some 4), none, .q (.mv (.t 67))⟩])
 .ret)))))))⟩
theorem l_spec_l01Size : lowF PA f_spec_l01Size 2 [.k [1, 2, 5, 6], .k [1, 2, 5, 6, 7], .s (.take 0 (.take 1 (.take 2 (.take 3 (.take 4 (.take 5 (.take 6 (.take 7 (.take 8 (.take 9 (.take 10 (.take 11 (.take 12 (.take 13 (.take 14 (.take 15 (.take 16 (.take 17 (.take 18 (.take 19 (.one 20 .done))))))))))))))))))))), .k [1, 5, 8, 9]] = some c_spec_l01Size := by kernel_rfl
abbrev f_impl_dividedBy : FuncId := 41
def c_impl_dividedBy : AF := ⟨2, 31, [.t 4],
 (.seq (.reg [⟨(some 2), none, .m (.box (.t 0))⟩,
 ⟨(some 4), none, .q (.mv (.c (.int .i64 0)))⟩])
 (.seq (.reg [⟨(some 9), none, .q (.fad 0 (.t 2))⟩,
 ⟨(some 10), none, .q (.ld false 1 (.t 9))⟩,
 ⟨(some 11), none, .c (.call 72 [(.t 10)])⟩,
 ⟨(some 5), none, .q (.mv (.t 11))⟩])
 (.seq (.reg [⟨(some 12), none, .q (.mv (.t 5))⟩,
 ⟨(some 13), none, .c (.call 73 [(.t 12)])⟩])
 (.seq (.reg [⟨(some 6), none, .q (.mv (.c (.int .i64 1)))⟩])
 (.seq (.seq (.reg [⟨(some 14), none, .q (.mv (.t 5))⟩,
 ⟨(some 15), none, .q (.ld true 1 (.t 2))⟩,
 ⟨(some 16), none, .c (.call 74 [(.t 15)])⟩,
 ⟨(some 17), none, .q (.mv (.t 1))⟩,
 ⟨(some 18), none, .q (.bin .sub (.t 16) (.t 17))⟩,
 ⟨(some 19), none, .q (.mx (.t 18) (.c (.int .i64 0)))⟩,
 ⟨(some 20), none, .q (.slc 1 (.t 14) none (some (.t 19)))⟩,
 ⟨(some 21), none, .q (.len (.t 20))⟩,
 ⟨(some 22), none, .q (.mv (.c (.int .i64 0)))⟩])
 (.block 0 (.loop [6, 20, 21, 22] (.seq (.reg [⟨(some 23), none, .q (.bin .lss (.t 22) (.t 21))⟩])
 (.seq (.cond (.t 23)
 .skip
 (.exit 0))
 (.seq (.block 1 (.seq (.reg [⟨(some 24), none, .q (.ixs 1 (.t 20) (.t 22))⟩,
 ⟨(some 25), none, .q (.ld false 1 (.t 24))⟩,
 ⟨(some 8), none, .q (.mv (.t 25))⟩])
 (.reg [⟨(some 26), none, .q (.mv (.t 6))⟩,
 ⟨(some 27), none, .q (.mv (.t 8))⟩,
 ⟨(some 28), none, .q (.bin .mul (.t 26) (.t 27))⟩,
 ⟨(some 6), none, .q (.mv (.t 28))⟩])))
 (.reg [⟨(some 29), none, .q (.bin .add (.t 22) (.c (.int .i64 1)))⟩,
 ⟨(some 22), none, .q (.mv (.t 29))⟩])))))))
 (.seq (.reg [⟨(some 30), none, .q (.mv (.t 6))⟩,
 ⟨(some 4), none, .q (.mv (.t 30))⟩])
 .ret))))))⟩
theorem l_impl_dividedBy : lowF PA f_impl_dividedBy 2 [.k [6, 20, 21, 22]] = some c_impl_dividedBy := by kernel_rfl
abbrev f_spec_l04Over : FuncId := 42
def c_spec_l04Over : AF := ⟨2, 81, [.t 4],
 (.seq (.reg [⟨(some 2), none, .m (.box (.t 0))⟩,
 ⟨(some 4), none, .q (.mv (.c (.int .i64 0)))⟩])
 (.seq (.reg [⟨(some 10), none, .m (.bsl 1 [])⟩,
 ⟨(some 11), none, .q (.ld true 1 (.t 2))⟩,
 ⟨(some 12), none, .c (.call 36 [(.t 11)])⟩,
 ⟨(some 5), none, .q (.mv (.t 10))⟩,
 ⟨(some 6), none, .q (.mv (.t 12))⟩])
 (.seq (.seq (.reg [⟨(some 7), none, .q (.mv (.c (.int .i64 0)))⟩])
 (.block 0 (.loop [1, 2, 5, 6, 7] (.seq (.seq (.reg [⟨(some 13), none, .q (.mv (.t 7))⟩,
 ⟨(some 14), none, .q (.fad 0 (.t 2))⟩,
 ⟨(some 15), none, .q (.ld false 1 (.t 14))⟩,
 ⟨(some 16), none, .q (.len (.t 15))⟩,
 ⟨(some 17), none, .q (.bin .lss (.t 13) (.t 16))⟩])
 (.cond (.t 17)
 .skip
 (.exit 0)))
 (.seq (.block 1 (.seq (.reg [⟨(some 20), none, .q (.mv (.t 5))⟩,
 ⟨(some 21), none, .q (.len (.t 20))⟩,
 ⟨(some 8), none, .q (.mv (.t 21))⟩])
 (.seq (.reg [⟨(some 22), none, .q (.mv (.t 5))⟩,
 ⟨(some 23), none, .q (.fad 0 (.t 2))⟩,
 ⟨(some 24), none, .q (.ld false 1 (.t 23))⟩,
 ⟨(some 25), none, .q (.mv (.t 7))⟩,
 ⟨(some 26), none, .q (.ixs 1 (.t 24) (.t 25))⟩,
 ⟨(some 27), none, .q (.ld false 1 (.t 26))⟩,
 ⟨(some 28), none, .m (.bsl 1 [(.t 27)])⟩,
 ⟨(some 29), none, .m (.app 1 8 (.t 22) (.t 28))⟩,
 ⟨(some 5), none, .q (.mv (.t 29))⟩])
 (.seq (.block 2 (.loop [1, 2, 5, 6, 7, 8] (.seq (.seq (.sch (.take 0 ⟨(some 30), none, .q (.mv (.t 8))⟩ (.take 1 ⟨(some 31), none, .q (.bin .gtr (.t 30) (.c (.int .i64 0)))⟩ (.take 2 ⟨(some 32), none, .q (.mv (.t 31))⟩ (.take 3 ⟨(some 33), (some (32, true)), .q (.mv (.t 5))⟩ (.take 4 ⟨(some 34), (some (32, true)), .q (.mv (.t 8))⟩ (.take 5 ⟨(some 35), (some (32, true)), .q (.bin .sub (.t 34) (.c (.int .i64 1)))⟩ (.take 6 ⟨(some 36), (some (32, true)), .q (.ixs 1 (.t 33) (.t 35))⟩ (.take 7 ⟨(some 37), (some (32, true)), .q (.ld false 1 (.t 36))⟩ (.take 8 ⟨(some 38), (some (32, true)), .q (.fad 0 (.t 2))⟩ (.take 9 ⟨(some 39), (some (32, true)), .q (.ld false 1 (.t 38))⟩ (.take 10 ⟨(some 40), (some (32, true)), .q (.mv (.t 7))⟩ (.take 11 ⟨(some 41), (some (32, true)), .q (.ixs 1 (.t 39) (.t 40))⟩ (.take 12 ⟨(some 42), (some (32, true)), .q (.ld false 1 (.t 41))⟩ (.take 13 ⟨(some 43), (some (32, true)), .q (.bin .lss (.t 37) (.t 42))⟩ (.take 14 ⟨(some 44), none, .q (.pick (.t 32) (.t 43) (.c (.bool false)))⟩ .done))))))))))))))))
 (.cond (.t 44)
 .skip
 (.exit 2)))
 (.block 3 (.seq (.reg [⟨(some 45), none, .q (.mv (.t 5))⟩,
 ⟨(some 46), none, .q (.mv (.t 8))⟩,
 ⟨(some 47), none, .q (.mv (.t 5))⟩,
 ⟨(some 48), none, .q (.mv (.t 8))⟩,
 ⟨(some 49), none, .q (.bin .sub (.t 48) (.c (.int .i64 1)))⟩,
 ⟨(some 50), none, .q (.ixs 1 (.t 47) (.t 49))⟩,
 ⟨(some 51), none, .q (.ld false 1 (.t 50))⟩,
 ⟨(some 52), none, .q (.ixs 1 (.t 45) (.t 46))⟩,
 ⟨none, none, .m (.st false 1 (.t 52) (.t 51))⟩])
 (.reg [⟨(some 53), none, .q (.mv (.t 8))⟩,
 ⟨(some 54), none, .q (.bin .sub (.t 53) (.c (.int .i64 1)))⟩,
 ⟨(some 8), none, .q (.mv (.t 54))⟩]))))))
 (.reg [⟨(some 55), none, .q (.mv (.t 5))⟩,
 ⟨(some 56), none, .q (.mv (.t 8))⟩,
 ⟨(some 57), none, .q (.fad 0 (.t 2))⟩,
 ⟨(some 58), none, .q (.ld false 1 (.t 57))⟩,
 ⟨(some 59), none, .q (.mv (.t 7))⟩,
 ⟨(some 60), none, .q (.ixs 1 (.t 58) (.t 59))⟩,
 ⟨(some 61), none, .q (.ld false 1 (.t 60))⟩,
 ⟨(some 62), none, .q (.ixs 1 (.t 55) (.t 56))⟩,
 ⟨none, none, .m (.st false 1 (.t 62) (.t 61))⟩])))))
 (.reg [⟨(some 18), none, .q (.mv (.t 7))⟩,
 ⟨(some 19), none, .q (.bin .add (.t 18) (.c (.int .i64 1)))⟩,
 ⟨(some 7), none, .q (.mv (.t 19))⟩]))))))
 (.seq (.seq (.reg [⟨(some 9), none, .q (.mv (.c (.int .i64 0)))⟩])
 (.block 4 (.loop [1, 5, 6, 9] (.seq (.seq (.reg [⟨(some 63), none, .q (.mv (.t 9))⟩,
 ⟨(some 64), none, .q (.mv (.t 1))⟩,
 ⟨(some 65), none, .q (.bin .lss (.t 63) (.t 64))⟩,
 ⟨(some 66), none, .q (.mv (.t 65))⟩,
 ⟨(some 67), (some (66, true)), .q (.mv (.t 9))⟩,
 ⟨(some 68), (some (66, true)), .q (.mv (.t 5))⟩,
 ⟨(some 69), (some (66, true)), .q (.len (.t 68))⟩,
 ⟨(some 70), (some (66, true)), .q (.bin .lss (.t 67) (.t 69))⟩,
 ⟨(some 71), none, .q (.pick (.t 66) (.t 70) (.c (.bool false)))⟩])
 (.cond (.t 71)
 .skip
 (.exit 4)))
 (.seq (.block 5 (.reg [⟨(some 74), none, .q (.mv (.t 6))⟩,
 ⟨(some 75), none, .q (.mv (.t 5))⟩,
 ⟨(some 76), none, .q (.mv (.t 9))⟩,
 ⟨(some 77), none, .q (.ixs 1 (.t 75) (.t 76))⟩,
 ⟨(some 78), none, .q (.ld false 1 (.t 77))⟩,
 ⟨(some 79), none, .q (.bin .quo (.t 74) (.t 78))⟩,
 ⟨(some 6), none, .q (.mv (.t 79))⟩]))
 (.reg [⟨(some 72), none, .q (.mv (.t 9))⟩,
 ⟨(some 73), none, .q (.bin .add (.t 72) (.c (.int .i64 1)))⟩,
 ⟨(some 9), none, .q (.mv (.t 73))⟩]))))))
 (.seq (.reg [⟨(some 80), none, .q (.mv (.t 6))⟩,
 ⟨(some 4), none, .q (.mv (.t 80))⟩])
 .ret)))))⟩
theorem l_spec_l04Over : lowF PA f_spec_l04Over 2 [.k [1, 2, 5, 6, 7], .k [1, 2, 5, 6, 7, 8], .s (.take 0 (.take 1 (.take 2 (.take 3 (.take 4 (.take 5 (.take 6 (.take 7 (.take 8 (.take 9 (.take 10 (.take 11 (.take 12 (.take 13 (.take 14 .done))))))))))))))), .k [1, 5, 6, 9]] = some c_spec_l04Over := by kernel_rfl
abbrev f_spec_l04DrawApart : FuncId := 43
def c_spec_l04DrawApart : AF := ⟨1, 53, [.c 2 true 1, .t 3, .t 4],
 (.seq (.reg [⟨(some 2), none, .m (.alloc [(.v (.slice none 0 0))])⟩,
 ⟨(some 3), none, .q (.mv (.c (.slice none 0 0)))⟩,
 ⟨(some 4), none, .q (.mv (.c (.int .i64 0)))⟩])
 (.seq (.reg [⟨(some 9), none, .q (.mv (.t 0))⟩,
 ⟨(some 10), none, .c (.call 52 [(.t 9)])⟩,
 ⟨(some 5), none, .q (.mv (.t 10))⟩])
 (.seq (.reg [⟨(some 11), none, .q (.mv (.t 5))⟩,
 ⟨(some 12), none, .c (.call 75 [(.t 11)])⟩,
 ⟨(some 6), none, .m (.alloc [(.v (.slice none 0 0))])⟩,
 ⟨none, none, .m (.st true 1 (.t 6) (.t 12))⟩])
 (.seq (.reg [⟨(some 13), none, .q (.mv (.t 5))⟩,
 ⟨(some 14), none, .q (.ld true 1 (.t 6))⟩,
 ⟨(some 15), none, .c (.call 76 [(.t 13), (.t 14)])⟩,
 ⟨(some 16), none, .q (.mv (.t 5))⟩,
 ⟨(some 17), none, .q (.mv (.t 5))⟩,
 ⟨(some 18), none, .c (.call 58 [(.t 17), (.c (.int .i64 9))])⟩,
 ⟨(some 19), none, .m (.bsl 1 [(.c (.int .i64 1)), (.c (.int .i64 2)), (.c (.int .i64 3)), (.t 18)])⟩,
 ⟨(some 20), none, .c (.call 57 [(.t 16), (.t 19)])⟩,
 ⟨(some 7), none, .q (.mv (.t 15))⟩,
 ⟨(some 8), none, .q (.mv (.t 20))⟩])
 (.seq (.seq (.reg [⟨(some 21), none, .q (.mv (.t 5))⟩,
 ⟨(some 22), none, .c (.call 54 [(.t 21), (.c (.int .i64 2))])⟩,
 ⟨(some 23), none, .q (.bin .eql (.t 22) (.c (.int .i64 0)))⟩])
 (.cond (.t 23)
 (.seq (.reg [⟨(some 25), none, .q (.ld true 1 (.t 6))⟩,
 ⟨(some 26), none, .q (.mv (.t 8))⟩,
 ⟨(some 27), none, .q (.mn (.t 26) (.c (.int .i64 9)))⟩,
 ⟨(some 28), none, .q (.mx (.t 27) (.c (.int .i64 1)))⟩,
 ⟨(some 29), none, .c (.call 13 [(.t 25), (.t 28)])⟩,
 ⟨(some 24), none, .q (.mv (.t 29))⟩,
 ⟨(some 30), none, .q (.ext (.t 24) 0)⟩,
 ⟨(some 31), none, .q (.ext (.t 24) 1)⟩,
 ⟨(some 7), none, .q (.mv (.t 30))⟩])
 (.seq (.reg [⟨(some 32), none, .q (.mv (.t 7))⟩,
 ⟨(some 33), none, .q (.len (.t 32))⟩,
 ⟨(some 34), none, .q (.bin .gtr (.t 33) (.c (.int .i64 0)))⟩,
 ⟨(some 35), none, .q (.mv (.t 34))⟩,
 ⟨(some 36), (some (35, true)), .q (.mv (.t 5))⟩,
 ⟨(some 37), (some (35, true)), .c (.call 54 [(.t 36), (.c (.int .i64 2))])⟩,
 ⟨(some 38), (some (35, true)), .q (.bin .eql (.t 37) (.c (.int .i64 0)))⟩,
 ⟨(some 39), none, .q (.pick (.t 35) (.t 38) (.c (.bool false)))⟩])
 (.cond (.t 39)
 (.reg [⟨(some 40), none, .q (.mv (.t 7))⟩,
 ⟨(some 41), none, .q (.mv (.t 7))⟩,
 ⟨(some 42), none, .q (.len (.t 41))⟩,
 ⟨(some 43), none, .q (.bin .sub (.t 42) (.c (.int .i64 1)))⟩,
 ⟨(some 44), none, .q (.slc 1 (.t 40) none (some (.t 43)))⟩,
 ⟨(some 7), none, .q (.mv (.t 44))⟩])
 .skip)))
 .skip))
 (.seq (.sch (.take 0 ⟨(some 45), none, .q (.mv (.t 5))⟩ (.take 1 ⟨(some 46), none, .q (.ld true 1 (.t 6))⟩ (.take 3 ⟨(some 48), none, .q (.mv (.t 5))⟩ (.take 4 ⟨(some 49), none, .q (.ld true 1 (.t 6))⟩ (.take 5 ⟨(some 50), none, .q (.mv (.t 7))⟩ (.take 7 ⟨(some 52), none, .q (.mv (.t 8))⟩ (.one ⟨(some 47), none, .c (.call 56 [(.t 45), (.t 46)])⟩ [1] (.one ⟨(some 51), none, .c (.call 77 [(.t 48), (.t 49), (.t 50)])⟩ [4] (.one ⟨none, none, .m (.st true 1 (.t 2) (.t 47))⟩ [1] (.take 9 ⟨(some 3), none, .q (.mv (.t 51))⟩ (.take 10 ⟨(some 4), none, .q (.mv (.t 52))⟩ .done))))))))))))
 .ret))))))⟩
theorem l_spec_l04DrawApart : lowF PA f_spec_l04DrawApart 1 [.s (.take 0 (.take 1 (.take 3 (.take 4 (.take 5 (.take 7 (.one 2 (.one 6 (.one 8 (.take 9 (.take 10 .done)))))))))))] = some c_spec_l04DrawApart := by kernel_rfl
abbrev f_impl_apartCode : FuncId := 44
def c_impl_apartCode : AF := ⟨3, 17, [.t 6],
 (.seq (.reg [⟨(some 3), none, .m (.box (.t 0))⟩,
 ⟨(some 6), none, .q (.mv (.c (.int .i64 0)))⟩])
 (.seq (.seq (.reg [⟨(some 8), none, .q (.ld true 1 (.t 3))⟩,
 ⟨(some 9), none, .q (.mv (.t 1))⟩,
 ⟨(some 10), none, .c (.call 78 [(.t 8), (.t 9), (.c (.slice none 0 0))])⟩,
 ⟨(some 7), none, .q (.mv (.t 10))⟩])
 (.seq (.reg [⟨(some 11), none, .q (.mv (.t 7))⟩,
 ⟨(some 12), none, .q (.bin .neq (.t 11) (.c (.int .i64 0)))⟩])
 (.cond (.t 12)
 (.seq (.reg [⟨(some 13), none, .q (.mv (.t 7))⟩,
 ⟨(some 6), none, .q (.mv (.t 13))⟩])
 .ret)
 .skip)))
 (.seq (.reg [⟨(some 14), none, .q (.ld true 1 (.t 3))⟩,
 ⟨(some 15), none, .q (.mv (.t 2))⟩,
 ⟨(some 16), none, .c (.call 30 [(.t 14), (.t 15)])⟩,
 ⟨(some 6), none, .q (.mv (.t 16))⟩])
 .ret)))⟩
theorem l_impl_apartCode : lowF PA f_impl_apartCode 3 [] = some c_impl_apartCode := by kernel_rfl
abbrev f_impl_marks : FuncId := 45
def c_impl_marks : AF := ⟨2, 22, [.t 4],
 (.seq (.reg [⟨(some 2), none, .m (.box (.t 0))⟩,
 ⟨(some 4), none, .q (.mv (.c (.slice none 0 0)))⟩])
 (.seq (.reg [⟨(some 8), none, .q (.ld true 1 (.t 2))⟩,
 ⟨(some 9), none, .c (.call 38 [(.t 8)])⟩,
 ⟨(some 10), none, .m (.mks 1 (.v (.bool false)) 1 (.t 9) (.t 9))⟩,
 ⟨(some 5), none, .q (.mv (.t 10))⟩])
 (.seq (.seq (.reg [⟨(some 11), none, .q (.mv (.t 1))⟩,
 ⟨(some 12), none, .q (.len (.t 11))⟩,
 ⟨(some 13), none, .q (.mv (.c (.int .i64 0)))⟩])
 (.block 0 (.loop [5, 11, 12, 13] (.seq (.reg [⟨(some 14), none, .q (.bin .lss (.t 13) (.t 12))⟩])
 (.seq (.cond (.t 14)
 .skip
 (.exit 0))
 (.seq (.block 1 (.seq (.reg [⟨(some 15), none, .q (.ixs 1 (.t 11) (.t 13))⟩,
 ⟨(some 16), none, .q (.ld false 1 (.t 15))⟩,
 ⟨(some 7), none, .q (.mv (.t 16))⟩])
 (.reg [⟨(some 17), none, .q (.mv (.t 5))⟩,
 ⟨(some 18), none, .q (.mv (.t 7))⟩,
 ⟨(some 19), none, .q (.ixs 1 (.t 17) (.t 18))⟩,
 ⟨none, none, .m (.st false 1 (.t 19) (.c (.bool true)))⟩])))
 (.reg [⟨(some 20), none, .q (.bin .add (.t 13) (.c (.int .i64 1)))⟩,
 ⟨(some 13), none, .q (.mv (.t 20))⟩])))))))
 (.seq (.reg [⟨(some 21), none, .q (.mv (.t 5))⟩,
 ⟨(some 4), none, .q (.mv (.t 21))⟩])
 .ret))))⟩
theorem l_impl_marks : lowF PA f_impl_marks 2 [.k [5, 11, 12, 13]] = some c_impl_marks := by kernel_rfl
abbrev f_impl_fartherness : FuncId := 46
def c_impl_fartherness : AF := ⟨2, 15, [.t 4],
 (.seq (.reg [⟨(some 2), none, .m (.box (.t 0))⟩,
 ⟨(some 4), none, .q (.mv (.c (.slice none 0 0)))⟩])
 (.seq (.seq (.reg [⟨(some 5), none, .q (.mv (.t 1))⟩,
 ⟨(some 6), none, .q (.len (.t 5))⟩,
 ⟨(some 7), none, .q (.bin .eql (.t 6) (.c (.int .i64 0)))⟩])
 (.cond (.t 7)
 (.seq (.reg [⟨(some 8), none, .m (.bsl 1 [(.c (.int .i64 10))])⟩,
 ⟨(some 9), none, .q (.ld true 1 (.t 2))⟩,
 ⟨(some 10), none, .c (.call 38 [(.t 9)])⟩,
 ⟨(some 11), none, .c (.call 79 [(.t 8), (.t 10)])⟩,
 ⟨(some 4), none, .q (.mv (.t 11))⟩])
 .ret)
 .skip))
 (.seq (.reg [⟨(some 12), none, .q (.ld true 1 (.t 2))⟩,
 ⟨(some 13), none, .q (.mv (.t 1))⟩,
 ⟨(some 14), none, .c (.call 80 [(.t 12), (.t 13)])⟩,
 ⟨(some 4), none, .q (.mv (.t 14))⟩])
 .ret)))⟩
theorem l_impl_fartherness : lowF PA f_impl_fartherness 2 [] = some c_impl_fartherness := by kernel_rfl
abbrev f_spec_l04Given : FuncId := 47
def c_spec_l04Given : AF := ⟨3, 19, [.t 6],
 (.seq (.reg [⟨(some 3), none, .m (.box (.t 0))⟩,
 ⟨(some 6), none, .q (.mv (.c (.int .i64 0)))⟩])
 (.seq (.reg [⟨(some 8), none, .q (.ld true 1 (.t 3))⟩,
 ⟨(some 9), none, .q (.mv (.t 1))⟩,
 ⟨(some 10), none, .c (.call 81 [(.t 8), (.t 9)])⟩,
 ⟨(some 7), none, .q (.mv (.t 10))⟩])
 (.seq (.seq (.reg [⟨(some 11), none, .q (.mv (.t 7))⟩,
 ⟨(some 12), none, .q (.bin .eql (.t 11) (.c (.int .i64 0)))⟩,
 ⟨(some 13), none, .q (.mv (.t 12))⟩,
 ⟨(some 14), (some (13, true)), .q (.mv (.t 2))⟩,
 ⟨(some 15), (some (13, true)), .c (.call 68 [(.t 14), (.c (.int .i64 1)), (.c (.int .i64 9))])⟩,
 ⟨(some 16), (some (13, true)), .q (.un .not (.t 15))⟩,
 ⟨(some 17), none, .q (.pick (.t 13) (.t 16) (.c (.bool false)))⟩])
 (.cond (.t 17)
 (.reg [⟨(some 7), none, .q (.mv (.c (.int .i64 2)))⟩])
 .skip))
 (.seq (.reg [⟨(some 18), none, .q (.mv (.t 7))⟩,
 ⟨(some 6), none, .q (.mv (.t 18))⟩])
 .ret))))⟩
theorem l_spec_l04Given : lowF PA f_spec_l04Given 3 [] = some c_spec_l04Given := by kernel_rfl
abbrev f_spec_l01Has : FuncId := 48
def c_spec_l01Has : AF := ⟨2, 18, [.t 4],
 (.seq (.reg [⟨(some 4), none, .q (.mv (.c (.bool false)))⟩])
 (.seq (.seq (.reg [⟨(some 5), none, .q (.mv (.c (.int .i64 0)))⟩])
 (.block 0 (.loop [0, 1, 5] (.seq (.seq (.reg [⟨(some 6), none, .q (.mv (.t 5))⟩,
 ⟨(some 7), none, .q (.mv (.t 0))⟩,
 ⟨(some 8), none, .q (.len (.t 7))⟩,
 ⟨(some 9), none, .q (.bin .lss (.t 6) (.t 8))⟩])
 (.cond (.t 9)
 .skip
 (.exit 0)))
 (.seq (.block 1 (.seq (.reg [⟨(some 12), none, .q (.mv (.t 0))⟩,
 ⟨(some 13), none, .q (.mv (.t 5))⟩,
 ⟨(some 14), none, .q (.ixs 1 (.t 12) (.t 13))⟩,
 ⟨(some 15), none, .q (.ld false 1 (.t 14))⟩,
 ⟨(some 16), none, .q (.mv (.t 1))⟩,
 ⟨(some 17), none, .q (.bin .eql (.t 15) (.t 16))⟩])
 (.cond (.t 17)
 (.seq (.reg [⟨(some 4), none, .q (.mv (.c (.bool true)))⟩])
 .ret)
 .skip)))
 (.reg [⟨(some 10), none, .q (.mv (.t 5))⟩,
 ⟨(some 11), none, .q (.bin .add (.t 10) (.c (.int .i64 1)))⟩,
 ⟨(some 5), none, .q (.mv (.t 11))⟩]))))))
 (.seq (.reg [⟨(some 4), none, .q (.mv (.c (.bool false)))⟩])
 .ret)))⟩
theorem l_spec_l01Has : lowF PA f_spec_l01Has 2 [.k [0, 1, 5]] = some c_spec_l01Has := by kernel_rfl
abbrev f_impl_leastDistance : FuncId := 49
def c_impl_leastDistance : AF := ⟨2, 37, [.t 4],
 (.seq (.reg [⟨(some 2), none, .m (.box (.t 0))⟩,
 ⟨(some 4), none, .q (.mv (.c (.int .i64 0)))⟩])
 (.seq (.reg [⟨(some 11), none, .q (.ld true 1 (.t 2))⟩,
 ⟨(some 12), none, .q (.mv (.t 1))⟩,
 ⟨(some 13), none, .c (.call 82 [(.t 11), (.t 12)])⟩,
 ⟨(some 5), none, .q (.mv (.t 13))⟩,
 ⟨(some 6), none, .q (.mv (.c (.int .i64 10)))⟩])
 (.seq (.seq (.reg [⟨(some 14), none, .q (.mv (.t 5))⟩,
 ⟨(some 15), none, .q (.len (.t 14))⟩,
 ⟨(some 16), none, .q (.mv (.c (.int .i64 0)))⟩])
 (.block 0 (.loop [5, 6, 14, 15, 16] (.seq (.reg [⟨(some 17), none, .q (.bin .lss (.t 16) (.t 15))⟩])
 (.seq (.cond (.t 17)
 .skip
 (.exit 0))
 (.seq (.block 1 (.seq (.reg [⟨(some 18), none, .q (.mv (.t 16))⟩,
 ⟨(some 19), none, .q (.ixs 8 (.t 14) (.t 16))⟩,
 ⟨(some 20), none, .q (.ld true 8 (.t 19))⟩,
 ⟨(some 8), none, .m (.alloc [(.v (.int .u8 0)), (.v (.int .u8 0)), (.v (.int .u8 0)), (.v (.int .u8 0)), (.v (.int .u8 0)), (.v (.int .u8 0)), (.v (.int .u8 0)), (.v (.int .u8 0))])⟩,
 ⟨(some 7), none, .q (.mv (.t 18))⟩,
 ⟨none, none, .m (.st true 8 (.t 8) (.t 20))⟩])
 (.seq (.reg [⟨(some 21), none, .q (.mv (.t 5))⟩,
 ⟨(some 22), none, .q (.mv (.t 7))⟩,
 ⟨(some 23), none, .q (.slc 8 (.t 21) none (some (.t 22)))⟩,
 ⟨(some 24), none, .q (.len (.t 23))⟩,
 ⟨(some 25), none, .q (.mv (.c (.int .i64 0)))⟩])
 (.block 2 (.loop [5, 6, 8, 14, 15, 16, 23, 24, 25] (.seq (.reg [⟨(some 26), none, .q (.bin .lss (.t 25) (.t 24))⟩])
 (.seq (.cond (.t 26)
 .skip
 (.exit 2))
 (.seq (.block 3 (.seq (.reg [⟨(some 27), none, .q (.ixs 8 (.t 23) (.t 25))⟩,
 ⟨(some 28), none, .q (.ld true 8 (.t 27))⟩,
 ⟨(some 10), none, .m (.alloc [(.v (.int .u8 0)), (.v (.int .u8 0)), (.v (.int .u8 0)), (.v (.int .u8 0)), (.v (.int .u8 0)), (.v (.int .u8 0)), (.v (.int .u8 0)), (.v (.int .u8 0))])⟩,
 ⟨none, none, .m (.st true 8 (.t 10) (.t 28))⟩])
 (.reg [⟨(some 29), none, .q (.mv (.t 6))⟩,
 ⟨(some 30), none, .q (.ld true 8 (.t 8))⟩,
 ⟨(some 31), none, .q (.ld true 8 (.t 10))⟩,
 ⟨(some 32), none, .c (.call 34 [(.t 30), (.t 31)])⟩,
 ⟨(some 33), none, .q (.mn (.t 29) (.t 32))⟩,
 ⟨(some 6), none, .q (.mv (.t 33))⟩])))
 (.reg [⟨(some 34), none, .q (.bin .add (.t 25) (.c (.int .i64 1)))⟩,
 ⟨(some 25), none, .q (.mv (.t 34))⟩])))))))))
 (.reg [⟨(some 35), none, .q (.bin .add (.t 16) (.c (.int .i64 1)))⟩,
 ⟨(some 16), none, .q (.mv (.t 35))⟩])))))))
 (.seq (.reg [⟨(some 36), none, .q (.mv (.t 6))⟩,
 ⟨(some 4), none, .q (.mv (.t 36))⟩])
 .ret))))⟩
theorem l_impl_leastDistance : lowF PA f_impl_leastDistance 2 [.k [5, 6, 14, 15, 16], .k [5, 6, 8, 14, 15, 16, 23, 24, 25]] = some c_impl_leastDistance := by kernel_rfl
abbrev f_impl_coverCode : FuncId := 50
def c_impl_coverCode : AF := ⟨3, 17, [.t 6],
 (.seq (.reg [⟨(some 3), none, .m (.box (.t 0))⟩,
 ⟨(some 6), none, .q (.mv (.c (.int .i64 0)))⟩])
 (.seq (.seq (.reg [⟨(some 8), none, .q (.ld true 1 (.t 3))⟩,
 ⟨(some 9), none, .q (.mv (.t 1))⟩,
 ⟨(some 10), none, .c (.call 78 [(.t 8), (.t 9), (.c (.slice none 0 0))])⟩,
 ⟨(some 7), none, .q (.mv (.t 10))⟩])
 (.seq (.reg [⟨(some 11), none, .q (.mv (.t 7))⟩,
 ⟨(some 12), none, .q (.bin .neq (.t 11) (.c (.int .i64 0)))⟩])
 (.cond (.t 12)
 (.seq (.reg [⟨(some 13), none, .q (.mv (.t 7))⟩,
 ⟨(some 6), none, .q (.mv (.t 13))⟩])
 .ret)
 .skip)))
 (.seq (.seq (.reg [⟨(some 14), none, .q (.mv (.t 2))⟩,
 ⟨(some 15), none, .c (.call 83 [(.t 14)])⟩,
 ⟨(some 16), none, .q (.un .not (.t 15))⟩])
 (.cond (.t 16)
 (.seq (.reg [⟨(some 6), none, .q (.mv (.c (.int .i64 2)))⟩])
 .ret)
 .skip))
 (.seq (.reg [⟨(some 6), none, .q (.mv (.c (.int .i64 0)))⟩])
 .ret))))⟩
theorem l_impl_coverCode : lowF PA f_impl_coverCode 3 [] = some c_impl_coverCode := by kernel_rfl
abbrev f_impl_covers : FuncId := 51
def c_impl_covers : AF := ⟨3, 13, [.t 6],
 (.seq (.reg [⟨(some 3), none, .m (.box (.t 0))⟩,
 ⟨(some 6), none, .q (.mv (.c (.bool false)))⟩])
 (.seq (.reg [⟨(some 7), none, .q (.ld true 1 (.t 3))⟩,
 ⟨(some 8), none, .q (.mv (.t 1))⟩,
 ⟨(some 9), none, .q (.mv (.t 2))⟩,
 ⟨(some 10), none, .c (.call 85 [(.t 7), (.t 8), (.t 9)])⟩,
 ⟨(some 11), none, .c (.call 84 [(.t 10), (.c (.int .i64 0))])⟩,
 ⟨(some 12), none, .q (.un .not (.t 11))⟩,
 ⟨(some 6), none, .q (.mv (.t 12))⟩])
 .ret))⟩
theorem l_impl_covers : lowF PA f_impl_covers 3 [] = some c_impl_covers := by kernel_rfl
abbrev f_spec_l01From : FuncId := 52
def c_spec_l01From : AF := ⟨1, 38, [.t 2],
 (.seq (.reg [⟨(some 2), none, .q (.mv (.c (.pointer none)))⟩])
 (.seq (.reg [⟨(some 5), none, .q (.mv (.t 0))⟩,
 ⟨(some 6), none, .q (.mv (.t 0))⟩,
 ⟨(some 7), none, .q (.len (.t 6))⟩,
 ⟨(some 8), none, .q (.cvt .u64 (.t 7))⟩,
 ⟨(some 9), none, .q (.bin .add (.c (.int .u64 14111)) (.t 8))⟩,
 ⟨(some 10), none, .q (.bld [(.v (.slice none 0 0)), (.v (.int .i64 0)), (.v (.int .u64 0))] [(0, (.t 5)), (2, (.t 9))])⟩,
 ⟨(some 11), none, .m (.box (.t 10))⟩,
 ⟨(some 3), none, .q (.mv (.t 11))⟩])
 (.seq (.seq (.reg [⟨(some 4), none, .q (.mv (.c (.int .i64 0)))⟩])
 (.block 0 (.loop [0, 3, 4] (.seq (.seq (.reg [⟨(some 12), none, .q (.mv (.t 4))⟩,
 ⟨(some 13), none, .q (.mv (.t 0))⟩,
 ⟨(some 14), none, .q (.len (.t 13))⟩,
 ⟨(some 15), none, .q (.bin .lss (.t 12) (.t 14))⟩,
 ⟨(some 16), none, .q (.mv (.t 15))⟩,
 ⟨(some 17), (some (16, true)), .q (.mv (.t 4))⟩,
 ⟨(some 18), (some (16, true)), .q (.bin .lss (.t 17) (.c (.int .i64 4096)))⟩,
 ⟨(some 19), none, .q (.pick (.t 16) (.t 18) (.c (.bool false)))⟩])
 (.cond (.t 19)
 .skip
 (.exit 0)))
 (.seq (.block 1 (.sch (.take 0 ⟨(some 22), none, .q (.mv (.t 3))⟩ (.take 1 ⟨(some 23), none, .q (.mv (.t 3))⟩ (.take 2 ⟨(some 24), none, .q (.nlc (.t 23))⟩ (.take 3 ⟨(some 25), none, .q (.fad 2 (.t 24))⟩ (.take 4 ⟨(some 26), none, .q (.ld false 1 (.t 25))⟩ (.take 5 ⟨(some 27), none, .q (.bin .mul (.t 26) (.c (.int .u64 1099511628211)))⟩ (.take 6 ⟨(some 28), none, .q (.mv (.t 0))⟩ (.take 7 ⟨(some 29), none, .q (.mv (.t 4))⟩ (.take 8 ⟨(some 30), none, .q (.ixs 1 (.t 28) (.t 29))⟩ (.take 9 ⟨(some 31), none, .q (.ld false 1 (.t 30))⟩ (.take 10 ⟨(some 32), none, .q (.cvt .u64 (.t 31))⟩ (.take 11 ⟨(some 33), none, .q (.bin .add (.t 27) (.t 32))⟩ (.take 12 ⟨(some 34), none, .q (.bin .add (.t 33) (.c (.int .u64 251)))⟩ (.take 13 ⟨(some 35), none, .q (.nlc (.t 22))⟩ (.take 14 ⟨(some 36), none, .q (.fad 2 (.t 35))⟩ (.one ⟨none, none, .m (.st false 1 (.t 36) (.t 34))⟩ [9, 4] .done))))))))))))))))))
 (.reg [⟨(some 20), none, .q (.mv (.t 4))⟩,
 ⟨(some 21), none, .q (.bin .add (.t 20) (.c (.int .i64 1)))⟩,
 ⟨(some 4), none, .q (.mv (.t 21))⟩]))))))
 (.seq (.reg [⟨(some 37), none, .q (.mv (.t 3))⟩,
 ⟨(some 2), none, .q (.mv (.t 37))⟩])
 .ret))))⟩
theorem l_spec_l01From : lowF PA f_spec_l01From 1 [.k [0, 3, 4], .s (.take 0 (.take 1 (.take 2 (.take 3 (.take 4 (.take 5 (.take 6 (.take 7 (.take 8 (.take 9 (.take 10 (.take 11 (.take 12 (.take 13 (.take 14 (.one 15 .done))))))))))))))))] = some c_spec_l01From := by kernel_rfl
abbrev f_spec_l01Own : FuncId := 53
def c_spec_l01Own : AF := ⟨1, 6, [.t 2],
 (.seq (.reg [⟨(some 2), none, .q (.mv (.c (.slice none 0 0)))⟩])
 (.seq (.reg [⟨(some 3), none, .m (.bsl 1 [])⟩,
 ⟨(some 4), none, .q (.mv (.t 0))⟩,
 ⟨(some 5), none, .m (.app 1 8 (.t 3) (.t 4))⟩,
 ⟨(some 2), none, .q (.mv (.t 5))⟩])
 .ret))⟩
theorem l_spec_l01Own : lowF PA f_spec_l01Own 1 [] = some c_spec_l01Own := by kernel_rfl
abbrev f_spec_l01Next : FuncId := 54
def c_spec_l01Next : AF := ⟨2, 58, [.t 4],
 (.seq (.reg [⟨(some 4), none, .q (.mv (.c (.int .i64 0)))⟩])
 (.seq (.seq (.reg [⟨(some 6), none, .q (.mv (.t 1))⟩,
 ⟨(some 7), none, .q (.bin .lss (.t 6) (.c (.int .i64 1)))⟩])
 (.cond (.t 7)
 (.seq (.reg [⟨(some 4), none, .q (.mv (.c (.int .i64 0)))⟩])
 .ret)
 .skip))
 (.seq (.reg [⟨(some 8), none, .q (.mv (.t 0))⟩,
 ⟨(some 9), none, .q (.mv (.t 0))⟩,
 ⟨(some 10), none, .q (.nlc (.t 9))⟩,
 ⟨(some 11), none, .q (.fad 2 (.t 10))⟩,
 ⟨(some 12), none, .q (.ld false 1 (.t 11))⟩,
 ⟨(some 13), none, .q (.bin .mul (.t 12) (.c (.int .u64 6364136223846793005)))⟩,
 ⟨(some 14), none, .q (.bin .add (.t 13) (.c (.int .u64 1442695040888963407)))⟩,
 ⟨(some 15), none, .q (.nlc (.t 8))⟩,
 ⟨(some 16), none, .q (.fad 2 (.t 15))⟩,
 ⟨none, none, .m (.st false 1 (.t 16) (.t 14))⟩])
 (.seq (.reg [⟨(some 17), none, .q (.mv (.t 0))⟩,
 ⟨(some 18), none, .q (.nlc (.t 17))⟩,
 ⟨(some 19), none, .q (.fad 2 (.t 18))⟩,
 ⟨(some 20), none, .q (.ld false 1 (.t 19))⟩,
 ⟨(some 21), none, .q (.bin .shr (.t 20) (.c (.int .u64 33)))⟩,
 ⟨(some 22), none, .q (.bin .and (.t 21) (.c (.int .u64 16777215)))⟩,
 ⟨(some 23), none, .q (.cvt .i64 (.t 22))⟩,
 ⟨(some 5), none, .q (.mv (.t 23))⟩])
 (.seq (.seq (.sch (.take 0 ⟨(some 24), none, .q (.mv (.t 0))⟩ (.take 1 ⟨(some 25), none, .q (.nlc (.t 24))⟩ (.take 2 ⟨(some 26), none, .q (.fad 1 (.t 25))⟩ (.take 3 ⟨(some 27), none, .q (.ld false 1 (.t 26))⟩ (.take 4 ⟨(some 28), none, .q (.mv (.t 0))⟩ (.take 5 ⟨(some 29), none, .q (.nlc (.t 28))⟩ (.take 6 ⟨(some 30), none, .q (.fad 0 (.t 29))⟩ (.take 7 ⟨(some 31), none, .q (.ld false 1 (.t 30))⟩ (.take 8 ⟨(some 32), none, .q (.len (.t 31))⟩ (.take 9 ⟨(some 33), none, .q (.bin .lss (.t 27) (.t 32))⟩ .done)))))))))))
 (.cond (.t 33)
 (.seq (.sch (.take 0 ⟨(some 34), none, .q (.mv (.t 5))⟩ (.take 1 ⟨(some 35), none, .q (.mv (.t 0))⟩ (.take 2 ⟨(some 36), none, .q (.nlc (.t 35))⟩ (.take 3 ⟨(some 37), none, .q (.fad 0 (.t 36))⟩ (.take 4 ⟨(some 38), none, .q (.ld false 1 (.t 37))⟩ (.take 5 ⟨(some 39), none, .q (.mv (.t 0))⟩ (.take 6 ⟨(some 40), none, .q (.nlc (.t 39))⟩ (.take 7 ⟨(some 41), none, .q (.fad 1 (.t 40))⟩ (.take 8 ⟨(some 42), none, .q (.ld false 1 (.t 41))⟩ (.take 9 ⟨(some 43), none, .q (.ixs 1 (.t 38) (.t 42))⟩ (.take 10 ⟨(some 44), none, .q (.ld false 1 (.t 43))⟩ (.take 11 ⟨(some 45), none, .q (.cvt .i64 (.t 44))⟩ (.take 12 ⟨(some 46), none, .q (.bin .add (.t 34) (.t 45))⟩ (.take 13 ⟨(some 5), none, .q (.mv (.t 46))⟩ .done)))))))))))))))
 (.reg [⟨(some 47), none, .q (.mv (.t 0))⟩,
 ⟨(some 48), none, .q (.mv (.t 0))⟩,
 ⟨(some 49), none, .q (.nlc (.t 48))⟩,
 ⟨(some 50), none, .q (.fad 1 (.t 49))⟩,
 ⟨(some 51), none, .q (.ld false 1 (.t 50))⟩,
 ⟨(some 52), none, .q (.bin .add (.t 51) (.c (.int .i64 1)))⟩,
 ⟨(some 53), none, .q (.nlc (.t 47))⟩,
 ⟨(some 54), none, .q (.fad 1 (.t 53))⟩,
 ⟨none, none, .m (.st false 1 (.t 54) (.t 52))⟩]))
 .skip))
 (.seq (.reg [⟨(some 55), none, .q (.mv (.t 5))⟩,
 ⟨(some 56), none, .q (.mv (.t 1))⟩,
 ⟨(some 57), none, .q (.bin .rem (.t 55) (.t 56))⟩,
 ⟨(some 4), none, .q (.mv (.t 57))⟩])
 .ret))))))⟩
theorem l_spec_l01Next : lowF PA f_spec_l01Next 2 [.s (.take 0 (.take 1 (.take 2 (.take 3 (.take 4 (.take 5 (.take 6 (.take 7 (.take 8 (.take 9 .done)))))))))), .s (.take 0 (.take 1 (.take 2 (.take 3 (.take 4 (.take 5 (.take 6 (.take 7 (.take 8 (.take 9 (.take 10 (.take 11 (.take 12 (.take 13 .done))))))))))))))] = some c_spec_l01Next := by kernel_rfl
abbrev f_spec_l01Draw : FuncId := 55
def c_spec_l01Draw : AF := ⟨1, 8, [.c 2 true 1],
 (.seq (.reg [⟨(some 2), none, .m (.alloc [(.v (.slice none 0 0))])⟩])
 (.seq (.reg [⟨(some 3), none, .q (.mv (.t 0))⟩,
 ⟨(some 4), none, .q (.mv (.t 0))⟩,
 ⟨(some 5), none, .m (.bsl 1 [(.c (.int .i64 16)), (.c (.int .i64 81)), (.c (.int .i64 256)), (.c (.int .i64 256))])⟩,
 ⟨(some 6), none, .c (.call 57 [(.t 4), (.t 5)])⟩,
 ⟨(some 7), none, .c (.call 86 [(.t 3), (.t 6)])⟩,
 ⟨none, none, .m (.st true 1 (.t 2) (.t 7))⟩])
 .ret))⟩
theorem l_spec_l01Draw : lowF PA f_spec_l01Draw 1 [] = some c_spec_l01Draw := by kernel_rfl
abbrev f_spec_l01Bad : FuncId := 56
def c_spec_l01Bad : AF := ⟨2, 42, [.c 4 true 1],
 (.seq (.reg [⟨(some 3), none, .m (.box (.t 1))⟩,
 ⟨(some 4), none, .m (.alloc [(.v (.slice none 0 0))])⟩])
 (.seq (.reg [⟨(some 6), none, .q (.fad 0 (.t 3))⟩,
 ⟨(some 7), none, .q (.ld false 1 (.t 6))⟩,
 ⟨(some 8), none, .c (.call 53 [(.t 7)])⟩,
 ⟨(some 9), none, .q (.bld [(.v (.slice none 0 0))] [(0, (.t 8))])⟩,
 ⟨(some 5), none, .m (.alloc [(.v (.slice none 0 0))])⟩,
 ⟨none, none, .m (.st true 1 (.t 5) (.t 9))⟩])
 (.seq (.seq (.reg [⟨(some 10), none, .q (.mv (.t 0))⟩,
 ⟨(some 11), none, .c (.call 54 [(.t 10), (.c (.int .i64 50))])⟩])
 (.block 0 (.seq (.reg [⟨(some 13), none, .q (.bin .eql (.t 11) (.c (.int .i64 0)))⟩,
 ⟨(some 12), none, .q (.mv (.t 13))⟩])
 (.cond (.t 12)
 (.seq (.reg [⟨(some 14), none, .q (.bld [(.v (.slice none 0 0))] [])⟩,
 ⟨none, none, .m (.st true 1 (.t 4) (.t 14))⟩])
 .ret)
 (.seq (.reg [⟨(some 16), none, .q (.bin .eql (.t 11) (.c (.int .i64 1)))⟩,
 ⟨(some 15), none, .q (.mv (.t 16))⟩])
 (.cond (.t 15)
 (.seq (.sch (.take 0 ⟨(some 17), none, .q (.fad 0 (.t 5))⟩ (.take 1 ⟨(some 18), none, .q (.ld false 1 (.t 17))⟩ (.take 2 ⟨(some 19), none, .q (.mv (.t 0))⟩ (.take 3 ⟨(some 20), none, .q (.fad 0 (.t 5))⟩ (.take 4 ⟨(some 21), none, .q (.ld false 1 (.t 20))⟩ (.take 5 ⟨(some 22), none, .q (.len (.t 21))⟩ (.take 7 ⟨(some 24), none, .q (.mv (.t 0))⟩ (.two ⟨(some 23), none, .c (.call 54 [(.t 19), (.t 22)])⟩ [] (.one ⟨(some 25), none, .m (.bsl 1 [(.c (.int .i64 1)), (.c (.int .i64 5)), (.c (.int .i64 0)), (.c (.int .i64 (-1))), (.c (.int .i64 1099511627776))])⟩ [] (.one ⟨(some 26), none, .c (.call 57 [(.t 24), (.t 25)])⟩ [] (.take 10 ⟨(some 27), none, .q (.ixs 1 (.t 18) (.t 23))⟩ (.one ⟨none, none, .m (.st false 1 (.t 27) (.t 26))⟩ [4, 1] .done)))) ⟨(some 25), none, .m (.bsl 1 [(.c (.int .i64 1)), (.c (.int .i64 5)), (.c (.int .i64 0)), (.c (.int .i64 (-1))), (.c (.int .i64 1099511627776))])⟩ [] (.one ⟨(some 23), none, .c (.call 54 [(.t 19), (.t 22)])⟩ [] (.one ⟨(some 26), none, .c (.call 57 [(.t 24), (.t 25)])⟩ [] (.take 10 ⟨(some 27), none, .q (.ixs 1 (.t 18) (.t 23))⟩ (.one ⟨none, none, .m (.st false 1 (.t 27) (.t 26))⟩ [4, 1] .done)))))))))))))
 (.seq (.reg [⟨(some 28), none, .q (.ld true 1 (.t 5))⟩,
 ⟨none, none, .m (.st true 1 (.t 4) (.t 28))⟩])
 .ret))
 (.seq (.reg [⟨(some 30), none, .q (.bin .eql (.t 11) (.c (.int .i64 2)))⟩,
 ⟨(some 29), none, .q (.mv (.t 30))⟩])
 (.cond (.t 29)
 (.seq (.block 1 (.loop [4, 5, 42] (.seq (.seq (.reg [⟨(some 31), none, .q (.fad 0 (.t 5))⟩,
 ⟨(some 32), none, .q (.ld false 1 (.t 31))⟩,
 ⟨(some 33), none, .q (.len (.t 32))⟩,
 ⟨(some 34), none, .q (.bin .lss (.t 33) (.c (.int .i64 6)))⟩])
 (.cond (.t 34)
 .skip
 (.exit 1)))
 (.block 2 (.reg [⟨(some 35), none, .q (.fad 0 (.t 5))⟩,
 ⟨(some 36), none, .q (.ld false 1 (.t 35))⟩,
 ⟨(some 37), none, .m (.bsl 1 [(.c (.int .i64 4))])⟩,
 ⟨(some 38), none, .m (.app 1 8 (.t 36) (.t 37))⟩,
 ⟨(some 39), none, .q (.fad 0 (.t 5))⟩,
 ⟨none, none, .m (.st false 1 (.t 39) (.t 38))⟩])))))
 (.seq (.reg [⟨(some 40), none, .q (.ld true 1 (.t 5))⟩,
 ⟨none, none, .m (.st true 1 (.t 4) (.t 40))⟩])
 .ret))
 .skip))))))))
 (.seq (.reg [⟨(some 41), none, .q (.ld true 1 (.t 3))⟩,
 ⟨none, none, .m (.st true 1 (.t 4) (.t 41))⟩])
 .ret))))⟩
theorem l_spec_l01Bad : lowF PA f_spec_l01Bad 2 [.s (.take 0 (.take 1 (.take 2 (.take 3 (.take 4 (.take 5 (.take 7 (.two 6 (.one 8 (.one 9 (.take 10 (.one 11 .done)))) 8 (.one 6 (.one 9 (.take 10 (.one 11 .done)))))))))))), .k [4, 5, 42]] = some c_spec_l01Bad := by kernel_rfl
abbrev f_spec_l01Pick : FuncId := 57
def c_spec_l01Pick : AF := ⟨2, 12, [.t 4],
 (.seq (.reg [⟨(some 4), none, .q (.mv (.c (.int .i64 0)))⟩])
 (.seq (.reg [⟨(some 5), none, .q (.mv (.t 1))⟩,
 ⟨(some 6), none, .q (.mv (.t 0))⟩,
 ⟨(some 7), none, .q (.mv (.t 1))⟩,
 ⟨(some 8), none, .q (.len (.t 7))⟩,
 ⟨(some 9), none, .c (.call 54 [(.t 6), (.t 8)])⟩,
 ⟨(some 10), none, .q (.ixs 1 (.t 5) (.t 9))⟩,
 ⟨(some 11), none, .q (.ld false 1 (.t 10))⟩,
 ⟨(some 4), none, .q (.mv (.t 11))⟩])
 .ret))⟩
theorem l_spec_l01Pick : lowF PA f_spec_l01Pick 2 [] = some c_spec_l01Pick := by kernel_rfl
abbrev f_spec_l01Near : FuncId := 58
def c_spec_l01Near : AF := ⟨2, 17, [.t 4],
 (.seq (.reg [⟨(some 4), none, .q (.mv (.c (.int .i64 0)))⟩])
 (.seq (.seq (.reg [⟨(some 5), none, .q (.mv (.t 0))⟩,
 ⟨(some 6), none, .c (.call 54 [(.t 5), (.c (.int .i64 14))])⟩,
 ⟨(some 7), none, .q (.bin .eql (.t 6) (.c (.int .i64 0)))⟩])
 (.cond (.t 7)
 (.seq (.reg [⟨(some 8), none, .q (.mv (.t 0))⟩,
 ⟨(some 9), none, .q (.mv (.t 1))⟩,
 ⟨(some 10), none, .q (.bin .add (.t 9) (.c (.int .i64 1)))⟩,
 ⟨(some 11), none, .m (.bsl 1 [(.c (.int .i64 (-1))), (.t 10), (.c (.int .i64 1099511627776)), (.c (.int .i64 (-4611686018427387904)))])⟩,
 ⟨(some 12), none, .c (.call 57 [(.t 8), (.t 11)])⟩,
 ⟨(some 4), none, .q (.mv (.t 12))⟩])
 .ret)
 .skip))
 (.seq (.reg [⟨(some 13), none, .q (.mv (.t 0))⟩,
 ⟨(some 14), none, .q (.mv (.t 1))⟩,
 ⟨(some 15), none, .q (.bin .add (.t 14) (.c (.int .i64 1)))⟩,
 ⟨(some 16), none, .c (.call 54 [(.t 13), (.t 15)])⟩,
 ⟨(some 4), none, .q (.mv (.t 16))⟩])
 .ret)))⟩
theorem l_spec_l01Near : lowF PA f_spec_l01Near 2 [] = some c_spec_l01Near := by kernel_rfl
abbrev f_impl_IsSpace : FuncId := 59
def c_impl_IsSpace : AF := ⟨1, 35, [.t 2],
 (.seq (.reg [⟨(some 1), none, .m (.box (.t 0))⟩,
 ⟨(some 2), none, .q (.mv (.c (.bool false)))⟩])
 (.seq (.seq (.reg [⟨(some 6), none, .q (.fad 0 (.t 1))⟩,
 ⟨(some 7), none, .q (.ld false 1 (.t 6))⟩,
 ⟨(some 8), none, .q (.len (.t 7))⟩,
 ⟨(some 9), none, .q (.bin .lss (.t 8) (.c (.int .i64 1)))⟩,
 ⟨(some 10), none, .q (.mv (.t 9))⟩,
 ⟨(some 11), (some (10, false)), .q (.fad 0 (.t 1))⟩,
 ⟨(some 12), (some (10, false)), .q (.ld false 1 (.t 11))⟩,
 ⟨(some 13), (some (10, false)), .q (.len (.t 12))⟩,
 ⟨(some 14), (some (10, false)), .q (.bin .gtr (.t 13) (.c (.int .i64 8)))⟩,
 ⟨(some 15), none, .q (.pick (.t 10) (.c (.bool true)) (.t 14))⟩])
 (.cond (.t 15)
 (.seq (.reg [⟨(some 2), none, .q (.mv (.c (.bool false)))⟩])
 .ret)
 .skip))
 (.seq (.reg [⟨(some 3), none, .q (.mv (.c (.int .i64 1)))⟩])
 (.seq (.seq (.reg [⟨(some 16), none, .q (.fad 0 (.t 1))⟩,
 ⟨(some 17), none, .q (.ld false 1 (.t 16))⟩,
 ⟨(some 18), none, .q (.len (.t 17))⟩,
 ⟨(some 19), none, .q (.mv (.c (.int .i64 0)))⟩])
 (.block 0 (.loop [3, 17, 18, 19] (.seq (.reg [⟨(some 20), none, .q (.bin .lss (.t 19) (.t 18))⟩])
 (.seq (.cond (.t 20)
 .skip
 (.exit 0))
 (.seq (.block 1 (.seq (.reg [⟨(some 21), none, .q (.ixs 1 (.t 17) (.t 19))⟩,
 ⟨(some 22), none, .q (.ld false 1 (.t 21))⟩,
 ⟨(some 5), none, .q (.mv (.t 22))⟩])
 (.seq (.seq (.reg [⟨(some 23), none, .q (.mv (.t 5))⟩,
 ⟨(some 24), none, .q (.bin .lss (.t 23) (.c (.int .i64 2)))⟩,
 ⟨(some 25), none, .q (.mv (.t 24))⟩,
 ⟨(some 26), (some (25, false)), .q (.mv (.t 5))⟩,
 ⟨(some 27), (some (25, false)), .q (.bin .gtr (.t 26) (.c (.int .i64 4)))⟩,
 ⟨(some 28), none, .q (.pick (.t 25) (.c (.bool true)) (.t 27))⟩])
 (.cond (.t 28)
 (.seq (.reg [⟨(some 2), none, .q (.mv (.c (.bool false)))⟩])
 .ret)
 .skip))
 (.reg [⟨(some 29), none, .q (.mv (.t 3))⟩,
 ⟨(some 30), none, .q (.mv (.t 5))⟩,
 ⟨(some 31), none, .q (.bin .mul (.t 29) (.t 30))⟩,
 ⟨(some 3), none, .q (.mv (.t 31))⟩]))))
 (.reg [⟨(some 32), none, .q (.bin .add (.t 19) (.c (.int .i64 1)))⟩,
 ⟨(some 19), none, .q (.mv (.t 32))⟩])))))))
 (.seq (.reg [⟨(some 33), none, .q (.mv (.t 3))⟩,
 ⟨(some 34), none, .q (.bin .leq (.t 33) (.c (.int .i64 1024)))⟩,
 ⟨(some 2), none, .q (.mv (.t 34))⟩])
 .ret)))))⟩
theorem l_impl_IsSpace : lowF PA f_impl_IsSpace 1 [.k [3, 17, 18, 19]] = some c_impl_IsSpace := by kernel_rfl
abbrev f_impl_nearSets : FuncId := 60
def c_impl_nearSets : AF := ⟨2, 36, [.t 4],
 (.seq (.reg [⟨(some 2), none, .m (.box (.t 0))⟩,
 ⟨(some 4), none, .q (.mv (.c (.slice none 0 0)))⟩])
 (.seq (.reg [⟨(some 10), none, .m (.bsl 1 [])⟩,
 ⟨(some 5), none, .q (.mv (.t 10))⟩])
 (.seq (.seq (.reg [⟨(some 11), none, .q (.ld true 1 (.t 2))⟩,
 ⟨(some 12), none, .c (.call 38 [(.t 11)])⟩,
 ⟨(some 13), none, .q (.mv (.c (.int .i64 0)))⟩])
 (.block 0 (.loop [1, 2, 5, 12, 13] (.seq (.reg [⟨(some 14), none, .q (.bin .lss (.t 13) (.t 12))⟩])
 (.seq (.cond (.t 14)
 .skip
 (.exit 0))
 (.seq (.block 1 (.seq (.reg [⟨(some 15), none, .q (.mv (.t 13))⟩,
 ⟨(some 6), none, .q (.mv (.t 15))⟩])
 (.seq (.reg [⟨(some 7), none, .q (.mv (.c (.int .u64 0)))⟩])
 (.seq (.seq (.reg [⟨(some 16), none, .q (.ld true 1 (.t 2))⟩,
 ⟨(some 17), none, .q (.mv (.t 6))⟩,
 ⟨(some 18), none, .q (.mv (.t 1))⟩,
 ⟨(some 19), none, .c (.call 39 [(.t 16), (.t 17), (.t 18)])⟩,
 ⟨(some 20), none, .q (.len (.t 19))⟩,
 ⟨(some 21), none, .q (.mv (.c (.int .i64 0)))⟩])
 (.block 2 (.loop [1, 2, 5, 7, 12, 13, 19, 20, 21] (.seq (.reg [⟨(some 22), none, .q (.bin .lss (.t 21) (.t 20))⟩])
 (.seq (.cond (.t 22)
 .skip
 (.exit 2))
 (.seq (.block 3 (.seq (.reg [⟨(some 23), none, .q (.ixs 1 (.t 19) (.t 21))⟩,
 ⟨(some 24), none, .q (.ld false 1 (.t 23))⟩,
 ⟨(some 9), none, .q (.mv (.t 24))⟩])
 (.reg [⟨(some 25), none, .q (.mv (.t 7))⟩,
 ⟨(some 26), none, .q (.mv (.t 9))⟩,
 ⟨(some 27), none, .q (.bin .shl (.c (.int .u64 1)) (.t 26))⟩,
 ⟨(some 28), none, .q (.bin .or (.t 25) (.t 27))⟩,
 ⟨(some 7), none, .q (.mv (.t 28))⟩])))
 (.reg [⟨(some 29), none, .q (.bin .add (.t 21) (.c (.int .i64 1)))⟩,
 ⟨(some 21), none, .q (.mv (.t 29))⟩])))))))
 (.reg [⟨(some 30), none, .q (.mv (.t 5))⟩,
 ⟨(some 31), none, .q (.mv (.t 7))⟩,
 ⟨(some 32), none, .m (.bsl 1 [(.t 31)])⟩,
 ⟨(some 33), none, .m (.app 1 8 (.t 30) (.t 32))⟩,
 ⟨(some 5), none, .q (.mv (.t 33))⟩])))))
 (.reg [⟨(some 34), none, .q (.bin .add (.t 13) (.c (.int .i64 1)))⟩,
 ⟨(some 13), none, .q (.mv (.t 34))⟩])))))))
 (.seq (.reg [⟨(some 35), none, .q (.mv (.t 5))⟩,
 ⟨(some 4), none, .q (.mv (.t 35))⟩])
 .ret))))⟩
theorem l_impl_nearSets : lowF PA f_impl_nearSets 2 [.k [1, 2, 5, 12, 13], .k [1, 2, 5, 7, 12, 13, 19, 20, 21]] = some c_impl_nearSets := by kernel_rfl
abbrev f_impl_firstApart_1 : FuncId := 61
def c_impl_firstApart_1 : AF := ⟨5, 42, [.t 6],
 (.seq (.reg [⟨(some 6), none, .q (.mv (.c (.bool false)))⟩])
 (.seq (.reg [⟨(some 9), none, .q (.ld false 1 (.t 1))⟩,
 ⟨(some 10), none, .q (.ld false 1 (.t 2))⟩,
 ⟨(some 11), none, .q (.len (.t 10))⟩,
 ⟨(some 12), none, .q (.bin .sub (.t 9) (.t 11))⟩,
 ⟨(some 7), none, .q (.mv (.t 12))⟩])
 (.seq (.seq (.reg [⟨(some 13), none, .q (.mv (.t 7))⟩,
 ⟨(some 14), none, .q (.bin .eql (.t 13) (.c (.int .i64 0)))⟩])
 (.cond (.t 14)
 (.seq (.reg [⟨(some 6), none, .q (.mv (.c (.bool true)))⟩])
 .ret)
 .skip))
 (.seq (.block 0 (.loop [0, 2, 3, 4, 7, 43, 44, 45, 46, 47] (.seq (.seq (.reg [⟨(some 15), none, .q (.mv (.t 0))⟩,
 ⟨(some 16), none, .c (.call 62 [(.t 15)])⟩,
 ⟨(some 17), none, .q (.mv (.t 7))⟩,
 ⟨(some 18), none, .q (.bin .geq (.t 16) (.t 17))⟩])
 (.cond (.t 18)
 .skip
 (.exit 0)))
 (.block 1 (.seq (.reg [⟨(some 19), none, .q (.mv (.t 0))⟩,
 ⟨(some 20), none, .c (.call 63 [(.t 19)])⟩,
 ⟨(some 8), none, .q (.mv (.t 20))⟩])
 (.seq (.reg [⟨(some 21), none, .q (.ld false 1 (.t 2))⟩,
 ⟨(some 22), none, .q (.mv (.t 8))⟩,
 ⟨(some 23), none, .m (.bsl 1 [(.t 22)])⟩,
 ⟨(some 24), none, .m (.app 1 8 (.t 21) (.t 23))⟩,
 ⟨none, none, .m (.st false 1 (.t 2) (.t 24))⟩])
 (.seq (.seq (.sch (.take 0 ⟨(some 25), none, .q (.ld false 1 (.t 3))⟩ (.take 1 ⟨(some 26), none, .q (.mv (.t 0))⟩ (.take 2 ⟨(some 27), none, .q (.ld false 1 (.t 4))⟩ (.take 3 ⟨(some 28), none, .q (.mv (.t 8))⟩ (.take 4 ⟨(some 29), none, .q (.ixs 1 (.t 27) (.t 28))⟩ (.take 5 ⟨(some 30), none, .q (.ld false 1 (.t 29))⟩ (.take 6 ⟨(some 31), none, .q (.bin .andNot (.t 26) (.t 30))⟩ (.one ⟨(some 32), none, .c (.cav (.t 25) [(.t 31)])⟩ [0] .done)))))))))
 (.cond (.t 32)
 (.seq (.reg [⟨(some 6), none, .q (.mv (.c (.bool true)))⟩])
 .ret)
 .skip))
 (.seq (.reg [⟨(some 33), none, .q (.ld false 1 (.t 2))⟩,
 ⟨(some 34), none, .q (.ld false 1 (.t 2))⟩,
 ⟨(some 35), none, .q (.len (.t 34))⟩,
 ⟨(some 36), none, .q (.bin .sub (.t 35) (.c (.int .i64 1)))⟩,
 ⟨(some 37), none, .q (.slc 1 (.t 33) none (some (.t 36)))⟩,
 ⟨none, none, .m (.st false 1 (.t 2) (.t 37))⟩])
 (.reg [⟨(some 38), none, .q (.mv (.t 0))⟩,
 ⟨(some 39), none, .q (.mv (.t 8))⟩,
 ⟨(some 40), none, .q (.bin .shl (.c (.int .u64 1)) (.t 39))⟩,
 ⟨(some 41), none, .q (.bin .andNot (.t 38) (.t 40))⟩,
 ⟨(some 0), none, .q (.mv (.t 41))⟩])))))))))
 (.seq (.reg [⟨(some 6), none, .q (.mv (.c (.bool false)))⟩])
 .ret)))))⟩
theorem l_impl_firstApart_1 : lowF PA f_impl_firstApart_1 5 [.k [0, 2, 3, 4, 7, 43, 44, 45, 46, 47], .s (.take 0 (.take 1 (.take 2 (.take 3 (.take 4 (.take 5 (.take 6 (.one 7 .done))))))))] = some c_impl_firstApart_1 := by kernel_rfl
abbrev f_math_bits_OnesCount64 : FuncId := 62
def c_math_bits_OnesCount64 : AF := ⟨1, 35, [.t 2],
 (.seq (.reg [⟨(some 2), none, .q (.mv (.c (.int .i64 0)))⟩])
 (.seq (.reg [⟨(some 3), none, .q (.mv (.t 0))⟩,
 ⟨(some 4), none, .q (.bin .shr (.t 3) (.c (.int .u64 1)))⟩,
 ⟨(some 5), none, .q (.bin .and (.t 4) (.c (.int .u64 6148914691236517205)))⟩,
 ⟨(some 6), none, .q (.mv (.t 0))⟩,
 ⟨(some 7), none, .q (.bin .and (.t 6) (.c (.int .u64 6148914691236517205)))⟩,
 ⟨(some 8), none, .q (.bin .add (.t 5) (.t 7))⟩,
 ⟨(some 0), none, .q (.mv (.t 8))⟩])
 (.seq (.reg [⟨(some 9), none, .q (.mv (.t 0))⟩,
 ⟨(some 10), none, .q (.bin .shr (.t 9) (.c (.int .u64 2)))⟩,
 ⟨(some 11), none, .q (.bin .and (.t 10) (.c (.int .u64 3689348814741910323)))⟩,
 ⟨(some 12), none, .q (.mv (.t 0))⟩,
 ⟨(some 13), none, .q (.bin .and (.t 12) (.c (.int .u64 3689348814741910323)))⟩,
 ⟨(some 14), none, .q (.bin .add (.t 11) (.t 13))⟩,
 ⟨(some 0), none, .q (.mv (.t 14))⟩])
 (.seq (.reg [⟨(some 15), none, .q (.mv (.t 0))⟩,
 ⟨(some 16), none, .q (.bin .shr (.t 15) (.c (.int .u64 4)))⟩,
 ⟨(some 17), none, .q (.mv (.t 0))⟩,
 ⟨(some 18), none, .q (.bin .add (.t 16) (.t 17))⟩,
 ⟨(some 19), none, .q (.bin .and (.t 18) (.c (.int .u64 1085102592571150095)))⟩,
 ⟨(some 0), none, .q (.mv (.t 19))⟩])
 (.seq (.reg [⟨(some 20), none, .q (.mv (.t 0))⟩,
 ⟨(some 21), none, .q (.mv (.t 0))⟩,
 ⟨(some 22), none, .q (.bin .shr (.t 21) (.c (.int .u64 8)))⟩,
 ⟨(some 23), none, .q (.bin .add (.t 20) (.t 22))⟩,
 ⟨(some 0), none, .q (.mv (.t 23))⟩])
 (.seq (.reg [⟨(some 24), none, .q (.mv (.t 0))⟩,
 ⟨(some 25), none, .q (.mv (.t 0))⟩,
 ⟨(some 26), none, .q (.bin .shr (.t 25) (.c (.int .u64 16)))⟩,
 ⟨(some 27), none, .q (.bin .add (.t 24) (.t 26))⟩,
 ⟨(some 0), none, .q (.mv (.t 27))⟩])
 (.seq (.reg [⟨(some 28), none, .q (.mv (.t 0))⟩,
 ⟨(some 29), none, .q (.mv (.t 0))⟩,
 ⟨(some 30), none, .q (.bin .shr (.t 29) (.c (.int .u64 32)))⟩,
 ⟨(some 31), none, .q (.bin .add (.t 28) (.t 30))⟩,
 ⟨(some 0), none, .q (.mv (.t 31))⟩])
 (.seq (.reg [⟨(some 32), none, .q (.mv (.t 0))⟩,
 ⟨(some 33), none, .q (.cvt .i64 (.t 32))⟩,
 ⟨(some 34), none, .q (.bin .and (.t 33) (.c (.int .i64 127)))⟩,
 ⟨(some 2), none, .q (.mv (.t 34))⟩])
 .ret))))))))⟩
theorem l_math_bits_OnesCount64 : lowF PA f_math_bits_OnesCount64 1 [] = some c_math_bits_OnesCount64 := by kernel_rfl
abbrev f_math_bits_TrailingZeros64 : FuncId := 63
def c_math_bits_TrailingZeros64 : AF := ⟨1, 14, [.t 2],
 (.seq (.reg [⟨(some 2), none, .q (.mv (.c (.int .i64 0)))⟩])
 (.seq (.seq (.reg [⟨(some 3), none, .q (.mv (.t 0))⟩,
 ⟨(some 4), none, .q (.bin .eql (.t 3) (.c (.int .u64 0)))⟩])
 (.cond (.t 4)
 (.seq (.reg [⟨(some 2), none, .q (.mv (.c (.int .i64 64)))⟩])
 .ret)
 .skip))
 (.seq (.reg [⟨(some 5), none, .q (.mv (.t 0))⟩,
 ⟨(some 6), none, .q (.mv (.t 0))⟩,
 ⟨(some 7), none, .q (.un .neg (.t 6))⟩,
 ⟨(some 8), none, .q (.bin .and (.t 5) (.t 7))⟩,
 ⟨(some 9), none, .q (.bin .mul (.t 8) (.c (.int .u64 285870213051353865)))⟩,
 ⟨(some 10), none, .q (.bin .shr (.t 9) (.c (.int .u64 58)))⟩,
 ⟨(some 11), none, .q (.ixa 64 1 (.t 1014) (.t 10))⟩,
 ⟨(some 12), none, .q (.ld false 1 (.t 11))⟩,
 ⟨(some 13), none, .q (.cvt .i64 (.t 12))⟩,
 ⟨(some 2), none, .q (.mv (.t 13))⟩])
 .ret)))⟩
theorem l_math_bits_TrailingZeros64 : lowF PA f_math_bits_TrailingZeros64 1 [] = some c_math_bits_TrailingZeros64 := by kernel_rfl
abbrev f_spec_l04Grow : FuncId := 64
def c_spec_l04Grow : AF := ⟨5, 94, [.t 10, .t 11],
 (.seq (.reg [⟨(some 5), none, .m (.box (.t 0))⟩,
 ⟨(some 10), none, .q (.mv (.c (.slice none 0 0)))⟩,
 ⟨(some 11), none, .q (.mv (.c (.bool false)))⟩])
 (.seq (.reg [⟨(some 19), none, .m (.bsl 1 [])⟩,
 ⟨(some 12), none, .q (.mv (.t 19))⟩,
 ⟨(some 13), none, .q (.mv (.c (.bool false)))⟩])
 (.seq (.seq (.reg [⟨(some 20), none, .q (.mv (.t 1))⟩,
 ⟨(some 21), none, .q (.len (.t 20))⟩,
 ⟨(some 22), none, .q (.mv (.t 4))⟩,
 ⟨(some 23), none, .q (.bin .gtr (.t 21) (.t 22))⟩])
 (.cond (.t 23)
 (.seq (.reg [⟨(some 24), none, .q (.mv (.t 1))⟩,
 ⟨(some 12), none, .q (.mv (.t 24))⟩])
 (.seq (.reg [⟨(some 13), none, .q (.mv (.c (.bool true)))⟩])
 (.reg [⟨(some 25), none, .q (.mv (.t 1))⟩,
 ⟨(some 26), none, .q (.len (.t 25))⟩,
 ⟨(some 4), none, .q (.mv (.t 26))⟩])))
 .skip))
 (.seq (.seq (.reg [⟨(some 14), none, .q (.mv (.c (.int .i64 0)))⟩])
 (.block 0 (.loop [1, 2, 3, 4, 5, 12, 13, 14] (.seq (.seq (.reg [⟨(some 27), none, .q (.mv (.t 14))⟩,
 ⟨(some 28), none, .q (.mv (.t 2))⟩,
 ⟨(some 29), none, .q (.len (.t 28))⟩,
 ⟨(some 30), none, .q (.bin .lss (.t 27) (.t 29))⟩,
 ⟨(some 31), none, .q (.mv (.t 30))⟩,
 ⟨(some 32), (some (31, true)), .q (.mv (.t 1))⟩,
 ⟨(some 33), (some (31, true)), .q (.len (.t 32))⟩,
 ⟨(some 34), (some (31, true)), .q (.mv (.t 2))⟩,
 ⟨(some 35), (some (31, true)), .q (.len (.t 34))⟩,
 ⟨(some 36), (some (31, true)), .q (.bin .add (.t 33) (.t 35))⟩,
 ⟨(some 37), (some (31, true)), .q (.mv (.t 14))⟩,
 ⟨(some 38), (some (31, true)), .q (.bin .sub (.t 36) (.t 37))⟩,
 ⟨(some 39), (some (31, true)), .q (.mv (.t 4))⟩,
 ⟨(some 40), (some (31, true)), .q (.bin .gtr (.t 38) (.t 39))⟩,
 ⟨(some 41), none, .q (.pick (.t 31) (.t 40) (.c (.bool false)))⟩])
 (.cond (.t 41)
 .skip
 (.exit 0)))
 (.seq (.block 1 (.seq (.reg [⟨(some 44), none, .m (.bsl 1 [])⟩,
 ⟨(some 15), none, .q (.mv (.t 44))⟩])
 (.seq (.seq (.reg [⟨(some 45), none, .q (.mv (.t 14))⟩,
 ⟨(some 46), none, .q (.bin .add (.t 45) (.c (.int .i64 1)))⟩,
 ⟨(some 16), none, .q (.mv (.t 46))⟩])
 (.block 2 (.loop [1, 2, 3, 4, 5, 12, 13, 14, 15, 16] (.seq (.seq (.reg [⟨(some 47), none, .q (.mv (.t 16))⟩,
 ⟨(some 48), none, .q (.mv (.t 2))⟩,
 ⟨(some 49), none, .q (.len (.t 48))⟩,
 ⟨(some 50), none, .q (.bin .lss (.t 47) (.t 49))⟩])
 (.cond (.t 50)
 .skip
 (.exit 2)))
 (.seq (.block 3 (.seq (.sch (.take 0 ⟨(some 53), none, .q (.ld true 1 (.t 5))⟩ (.take 1 ⟨(some 54), none, .q (.mv (.t 2))⟩ (.take 2 ⟨(some 55), none, .q (.mv (.t 14))⟩ (.take 3 ⟨(some 56), none, .q (.ixs 1 (.t 54) (.t 55))⟩ (.take 4 ⟨(some 57), none, .q (.ld false 1 (.t 56))⟩ (.take 5 ⟨(some 58), none, .q (.mv (.t 2))⟩ (.take 6 ⟨(some 59), none, .q (.mv (.t 16))⟩ (.take 7 ⟨(some 60), none, .q (.ixs 1 (.t 58) (.t 59))⟩ (.take 8 ⟨(some 61), none, .q (.ld false 1 (.t 60))⟩ (.take 10 ⟨(some 63), none, .q (.mv (.t 3))⟩ (.one ⟨(some 62), none, .c (.call 69 [(.t 53), (.t 57), (.t 61)])⟩ [8, 4, 0] (.take 11 ⟨(some 64), none, .q (.bin .geq (.t 62) (.t 63))⟩ .done)))))))))))))
 (.cond (.t 64)
 (.reg [⟨(some 65), none, .q (.mv (.t 15))⟩,
 ⟨(some 66), none, .q (.mv (.t 2))⟩,
 ⟨(some 67), none, .q (.mv (.t 16))⟩,
 ⟨(some 68), none, .q (.ixs 1 (.t 66) (.t 67))⟩,
 ⟨(some 69), none, .q (.ld false 1 (.t 68))⟩,
 ⟨(some 70), none, .m (.bsl 1 [(.t 69)])⟩,
 ⟨(some 71), none, .m (.app 1 8 (.t 65) (.t 70))⟩,
 ⟨(some 15), none, .q (.mv (.t 71))⟩])
 .skip)))
 (.reg [⟨(some 51), none, .q (.mv (.t 16))⟩,
 ⟨(some 52), none, .q (.bin .add (.t 51) (.c (.int .i64 1)))⟩,
 ⟨(some 16), none, .q (.mv (.t 52))⟩]))))))
 (.seq (.sch (.take 0 ⟨(some 73), none, .q (.ld true 1 (.t 5))⟩ (.take 1 ⟨(some 74), none, .q (.mv (.t 1))⟩ (.take 3 ⟨(some 76), none, .q (.mv (.t 2))⟩ (.take 4 ⟨(some 77), none, .q (.mv (.t 14))⟩ (.take 5 ⟨(some 78), none, .q (.ixs 1 (.t 76) (.t 77))⟩ (.take 6 ⟨(some 79), none, .q (.ld false 1 (.t 78))⟩ (.take 9 ⟨(some 82), none, .q (.mv (.t 15))⟩ (.take 10 ⟨(some 83), none, .q (.mv (.t 3))⟩ (.take 11 ⟨(some 84), none, .q (.mv (.t 4))⟩ (.two ⟨(some 75), none, .c (.call 53 [(.t 74)])⟩ [] (.one ⟨(some 80), none, .m (.bsl 1 [(.t 79)])⟩ [6] (.one ⟨(some 81), none, .m (.app 1 8 (.t 75) (.t 80))⟩ [] (.one ⟨(some 85), none, .c (.call 64 [(.t 73), (.t 81), (.t 82), (.t 83), (.t 84)])⟩ [0] (.take 13 ⟨(some 72), none, .q (.mv (.t 85))⟩ (.take 14 ⟨(some 86), none, .q (.ext (.t 72) 0)⟩ (.take 15 ⟨(some 87), none, .q (.ext (.t 72) 1)⟩ (.take 16 ⟨(some 17), none, .q (.mv (.t 86))⟩ (.take 17 ⟨(some 18), none, .q (.mv (.t 87))⟩ .done)))))))) ⟨(some 80), none, .m (.bsl 1 [(.t 79)])⟩ [6] (.one ⟨(some 75), none, .c (.call 53 [(.t 74)])⟩ [] (.one ⟨(some 81), none, .m (.app 1 8 (.t 75) (.t 80))⟩ [] (.one ⟨(some 85), none, .c (.call 64 [(.t 73), (.t 81), (.t 82), (.t 83), (.t 84)])⟩ [0] (.take 13 ⟨(some 72), none, .q (.mv (.t 85))⟩ (.take 14 ⟨(some 86), none, .q (.ext (.t 72) 0)⟩ (.take 15 ⟨(some 87), none, .q (.ext (.t 72) 1)⟩ (.take 16 ⟨(some 17), none, .q (.mv (.t 86))⟩ (.take 17 ⟨(some 18), none, .q (.mv (.t 87))⟩ .done)))))))))))))))))))
 (.seq (.reg [⟨(some 88), none, .q (.mv (.t 18))⟩])
 (.cond (.t 88)
 (.seq (.reg [⟨(some 89), none, .q (.mv (.t 17))⟩,
 ⟨(some 12), none, .q (.mv (.t 89))⟩])
 (.seq (.reg [⟨(some 13), none, .q (.mv (.c (.bool true)))⟩])
 (.reg [⟨(some 90), none, .q (.mv (.t 17))⟩,
 ⟨(some 91), none, .q (.len (.t 90))⟩,
 ⟨(some 4), none, .q (.mv (.t 91))⟩])))
 .skip))))))
 (.reg [⟨(some 42), none, .q (.mv (.t 14))⟩,
 ⟨(some 43), none, .q (.bin .add (.t 42) (.c (.int .i64 1)))⟩,
 ⟨(some 14), none, .q (.mv (.t 43))⟩]))))))
 (.seq (.reg [⟨(some 92), none, .q (.mv (.t 12))⟩,
 ⟨(some 93), none, .q (.mv (.t 13))⟩,
 ⟨(some 10), none, .q (.mv (.t 92))⟩,
 ⟨(some 11), none, .q (.mv (.t 93))⟩])
 .ret)))))⟩
theorem l_spec_l04Grow : lowF PA f_spec_l04Grow 5 [.k [1, 2, 3, 4, 5, 12, 13, 14], .k [1, 2, 3, 4, 5, 12, 13, 14, 15, 16], .s (.take 0 (.take 1 (.take 2 (.take 3 (.take 4 (.take 5 (.take 6 (.take 7 (.take 8 (.take 10 (.one 9 (.take 11 .done)))))))))))), .s (.take 0 (.take 1 (.take 3 (.take 4 (.take 5 (.take 6 (.take 9 (.take 10 (.take 11 (.two 2 (.one 7 (.one 8 (.one 12 (.take 13 (.take 14 (.take 15 (.take 16 (.take 17 .done)))))))) 7 (.one 2 (.one 8 (.one 12 (.take 13 (.take 14 (.take 15 (.take 16 (.take 17 .done))))))))))))))))))] = some c_spec_l04Grow := by kernel_rfl
abbrev f_impl_digitsOf : FuncId := 65
def c_impl_digitsOf : AF := ⟨2, 34, [.c 4 true 8],
 (.seq (.reg [⟨(some 2), none, .m (.box (.t 0))⟩,
 ⟨(some 4), none, .m (.alloc [(.v (.int .u8 0)), (.v (.int .u8 0)), (.v (.int .u8 0)), (.v (.int .u8 0)), (.v (.int .u8 0)), (.v (.int .u8 0)), (.v (.int .u8 0)), (.v (.int .u8 0))])⟩])
 (.seq (.reg [⟨(some 7), none, .q (.bld [(.v (.int .u8 0)), (.v (.int .u8 0)), (.v (.int .u8 0)), (.v (.int .u8 0)), (.v (.int .u8 0)), (.v (.int .u8 0)), (.v (.int .u8 0)), (.v (.int .u8 0))] [])⟩,
 ⟨(some 5), none, .m (.alloc [(.v (.int .u8 0)), (.v (.int .u8 0)), (.v (.int .u8 0)), (.v (.int .u8 0)), (.v (.int .u8 0)), (.v (.int .u8 0)), (.v (.int .u8 0)), (.v (.int .u8 0))])⟩,
 ⟨none, none, .m (.st true 8 (.t 5) (.t 7))⟩])
 (.seq (.seq (.reg [⟨(some 8), none, .q (.fad 0 (.t 2))⟩,
 ⟨(some 9), none, .q (.ld false 1 (.t 8))⟩,
 ⟨(some 10), none, .q (.len (.t 9))⟩,
 ⟨(some 11), none, .q (.bin .sub (.t 10) (.c (.int .i64 1)))⟩,
 ⟨(some 6), none, .q (.mv (.t 11))⟩])
 (.block 0 (.loop [1, 2, 4, 5, 6] (.seq (.seq (.reg [⟨(some 12), none, .q (.mv (.t 6))⟩,
 ⟨(some 13), none, .q (.bin .geq (.t 12) (.c (.int .i64 0)))⟩])
 (.cond (.t 13)
 .skip
 (.exit 0)))
 (.seq (.block 1 (.seq (.reg [⟨(some 16), none, .q (.mv (.t 6))⟩,
 ⟨(some 17), none, .q (.mv (.t 1))⟩,
 ⟨(some 18), none, .q (.fad 0 (.t 2))⟩,
 ⟨(some 19), none, .q (.ld false 1 (.t 18))⟩,
 ⟨(some 20), none, .q (.mv (.t 6))⟩,
 ⟨(some 21), none, .q (.ixs 1 (.t 19) (.t 20))⟩,
 ⟨(some 22), none, .q (.ld false 1 (.t 21))⟩,
 ⟨(some 23), none, .q (.bin .rem (.t 17) (.t 22))⟩,
 ⟨(some 24), none, .q (.cvt .u8 (.t 23))⟩,
 ⟨(some 25), none, .q (.ixa 8 1 (.t 5) (.t 16))⟩,
 ⟨none, none, .m (.st false 1 (.t 25) (.t 24))⟩])
 (.reg [⟨(some 26), none, .q (.mv (.t 1))⟩,
 ⟨(some 27), none, .q (.fad 0 (.t 2))⟩,
 ⟨(some 28), none, .q (.ld false 1 (.t 27))⟩,
 ⟨(some 29), none, .q (.mv (.t 6))⟩,
 ⟨(some 30), none, .q (.ixs 1 (.t 28) (.t 29))⟩,
 ⟨(some 31), none, .q (.ld false 1 (.t 30))⟩,
 ⟨(some 32), none, .q (.bin .quo (.t 26) (.t 31))⟩,
 ⟨(some 1), none, .q (.mv (.t 32))⟩])))
 (.reg [⟨(some 14), none, .q (.mv (.t 6))⟩,
 ⟨(some 15), none, .q (.bin .sub (.t 14) (.c (.int .i64 1)))⟩,
 ⟨(some 6), none, .q (.mv (.t 15))⟩]))))))
 (.seq (.reg [⟨(some 33), none, .q (.ld true 8 (.t 5))⟩,
 ⟨none, none, .m (.st true 8 (.t 4) (.t 33))⟩])
 .ret))))⟩
theorem l_impl_digitsOf : lowF PA f_impl_digitsOf 2 [.k [1, 2, 4, 5, 6]] = some c_impl_digitsOf := by kernel_rfl
abbrev f_slices_IndexFunc___impl_digits_impl_digits_ : FuncId := 66
def c_slices_IndexFunc___impl_digits_impl_digits_ : AF := ⟨2, 19, [.t 4],
 (.seq (.reg [⟨(some 4), none, .q (.mv (.c (.int .i64 0)))⟩])
 (.seq (.seq (.reg [⟨(some 6), none, .q (.mv (.t 0))⟩,
 ⟨(some 7), none, .q (.len (.t 6))⟩,
 ⟨(some 8), none, .q (.mv (.c (.int .i64 0)))⟩])
 (.block 0 (.loop [0, 1, 7, 8] (.seq (.reg [⟨(some 9), none, .q (.bin .lss (.t 8) (.t 7))⟩])
 (.seq (.cond (.t 9)
 .skip
 (.exit 0))
 (.seq (.block 1 (.seq (.reg [⟨(some 10), none, .q (.mv (.t 8))⟩,
 ⟨(some 5), none, .q (.mv (.t 10))⟩])
 (.seq (.reg [⟨(some 11), none, .q (.mv (.t 1))⟩,
 ⟨(some 12), none, .q (.mv (.t 0))⟩,
 ⟨(some 13), none, .q (.mv (.t 5))⟩,
 ⟨(some 14), none, .q (.ixs 8 (.t 12) (.t 13))⟩,
 ⟨(some 15), none, .q (.ld true 8 (.t 14))⟩,
 ⟨(some 16), none, .c (.cav (.t 11) [(.t 15)])⟩])
 (.cond (.t 16)
 (.seq (.reg [⟨(some 17), none, .q (.mv (.t 5))⟩,
 ⟨(some 4), none, .q (.mv (.t 17))⟩])
 .ret)
 .skip))))
 (.reg [⟨(some 18), none, .q (.bin .add (.t 8) (.c (.int .i64 1)))⟩,
 ⟨(some 8), none, .q (.mv (.t 18))⟩])))))))
 (.seq (.reg [⟨(some 4), none, .q (.mv (.c (.int .i64 (-1))))⟩])
 .ret)))⟩
theorem l_slices_IndexFunc___impl_digits_impl_digits_ : lowF PA f_slices_IndexFunc___impl_digits_impl_digits_ 2 [.k [0, 1, 7, 8]] = some c_slices_IndexFunc___impl_digits_impl_digits_ := by kernel_rfl
abbrev f_spec_l01Is : FuncId := 67
def c_spec_l01Is : AF := ⟨1, 26, [.t 2],
 (.seq (.reg [⟨(some 1), none, .m (.box (.t 0))⟩,
 ⟨(some 2), none, .q (.mv (.c (.bool false)))⟩])
 (.seq (.seq (.reg [⟨(some 4), none, .q (.fad 0 (.t 1))⟩,
 ⟨(some 5), none, .q (.ld false 1 (.t 4))⟩,
 ⟨(some 6), none, .q (.len (.t 5))⟩,
 ⟨(some 7), none, .c (.call 68 [(.t 6), (.c (.int .i64 1)), (.c (.int .i64 8))])⟩,
 ⟨(some 8), none, .q (.un .not (.t 7))⟩])
 (.cond (.t 8)
 (.seq (.reg [⟨(some 2), none, .q (.mv (.c (.bool false)))⟩])
 .ret)
 .skip))
 (.seq (.seq (.reg [⟨(some 3), none, .q (.mv (.c (.int .i64 0)))⟩])
 (.block 0 (.loop [1, 3] (.seq (.seq (.reg [⟨(some 9), none, .q (.mv (.t 3))⟩,
 ⟨(some 10), none, .q (.fad 0 (.t 1))⟩,
 ⟨(some 11), none, .q (.ld false 1 (.t 10))⟩,
 ⟨(some 12), none, .q (.len (.t 11))⟩,
 ⟨(some 13), none, .q (.bin .lss (.t 9) (.t 12))⟩])
 (.cond (.t 13)
 .skip
 (.exit 0)))
 (.seq (.block 1 (.seq (.reg [⟨(some 16), none, .q (.fad 0 (.t 1))⟩,
 ⟨(some 17), none, .q (.ld false 1 (.t 16))⟩,
 ⟨(some 18), none, .q (.mv (.t 3))⟩,
 ⟨(some 19), none, .q (.ixs 1 (.t 17) (.t 18))⟩,
 ⟨(some 20), none, .q (.ld false 1 (.t 19))⟩,
 ⟨(some 21), none, .c (.call 68 [(.t 20), (.c (.int .i64 2)), (.c (.int .i64 4))])⟩,
 ⟨(some 22), none, .q (.un .not (.t 21))⟩])
 (.cond (.t 22)
 (.seq (.reg [⟨(some 2), none, .q (.mv (.c (.bool false)))⟩])
 .ret)
 .skip)))
 (.reg [⟨(some 14), none, .q (.mv (.t 3))⟩,
 ⟨(some 15), none, .q (.bin .add (.t 14) (.c (.int .i64 1)))⟩,
 ⟨(some 3), none, .q (.mv (.t 15))⟩]))))))
 (.seq (.reg [⟨(some 23), none, .q (.ld true 1 (.t 1))⟩,
 ⟨(some 24), none, .c (.call 36 [(.t 23)])⟩,
 ⟨(some 25), none, .q (.bin .leq (.t 24) (.c (.int .i64 1024)))⟩,
 ⟨(some 2), none, .q (.mv (.t 25))⟩])
 .ret))))⟩
theorem l_spec_l01Is : lowF PA f_spec_l01Is 1 [.k [1, 3]] = some c_spec_l01Is := by kernel_rfl
abbrev f_spec_l01In : FuncId := 68
def c_spec_l01In : AF := ⟨3, 15, [.t 6],
 (.seq (.reg [⟨(some 6), none, .q (.mv (.c (.bool false)))⟩])
 (.seq (.reg [⟨(some 7), none, .q (.mv (.t 0))⟩,
 ⟨(some 8), none, .q (.mv (.t 1))⟩,
 ⟨(some 9), none, .q (.bin .geq (.t 7) (.t 8))⟩,
 ⟨(some 10), none, .q (.mv (.t 9))⟩,
 ⟨(some 11), (some (10, true)), .q (.mv (.t 0))⟩,
 ⟨(some 12), (some (10, true)), .q (.mv (.t 2))⟩,
 ⟨(some 13), (some (10, true)), .q (.bin .leq (.t 11) (.t 12))⟩,
 ⟨(some 14), none, .q (.pick (.t 10) (.t 13) (.c (.bool false)))⟩,
 ⟨(some 6), none, .q (.mv (.t 14))⟩])
 .ret))⟩
theorem l_spec_l01In : lowF PA f_spec_l01In 3 [] = some c_spec_l01In := by kernel_rfl
abbrev f_spec_l01Distance : FuncId := 69
def c_spec_l01Distance : AF := ⟨3, 49, [.t 6],
 (.seq (.reg [⟨(some 3), none, .m (.box (.t 0))⟩,
 ⟨(some 6), none, .q (.mv (.c (.int .i64 0)))⟩])
 (.seq (.reg [⟨(some 7), none, .q (.mv (.c (.int .i64 0)))⟩])
 (.seq (.seq (.reg [⟨(some 9), none, .q (.fad 0 (.t 3))⟩,
 ⟨(some 10), none, .q (.ld false 1 (.t 9))⟩,
 ⟨(some 11), none, .q (.len (.t 10))⟩,
 ⟨(some 12), none, .q (.bin .sub (.t 11) (.c (.int .i64 1)))⟩,
 ⟨(some 8), none, .q (.mv (.t 12))⟩])
 (.block 0 (.loop [1, 2, 3, 7, 8] (.seq (.seq (.reg [⟨(some 13), none, .q (.mv (.t 8))⟩,
 ⟨(some 14), none, .q (.bin .geq (.t 13) (.c (.int .i64 0)))⟩])
 (.cond (.t 14)
 .skip
 (.exit 0)))
 (.seq (.block 1 (.seq (.seq (.sch (.take 0 ⟨(some 17), none, .q (.mv (.t 1))⟩ (.take 1 ⟨(some 18), none, .q (.fad 0 (.t 3))⟩ (.take 2 ⟨(some 19), none, .q (.ld false 1 (.t 18))⟩ (.take 3 ⟨(some 20), none, .q (.mv (.t 8))⟩ (.take 4 ⟨(some 21), none, .q (.ixs 1 (.t 19) (.t 20))⟩ (.take 5 ⟨(some 22), none, .q (.ld false 1 (.t 21))⟩ (.take 6 ⟨(some 23), none, .q (.bin .rem (.t 17) (.t 22))⟩ (.take 7 ⟨(some 24), none, .q (.mv (.t 2))⟩ (.take 8 ⟨(some 25), none, .q (.fad 0 (.t 3))⟩ (.take 9 ⟨(some 26), none, .q (.ld false 1 (.t 25))⟩ (.take 10 ⟨(some 27), none, .q (.mv (.t 8))⟩ (.take 11 ⟨(some 28), none, .q (.ixs 1 (.t 26) (.t 27))⟩ (.take 12 ⟨(some 29), none, .q (.ld false 1 (.t 28))⟩ (.take 13 ⟨(some 30), none, .q (.bin .rem (.t 24) (.t 29))⟩ (.take 14 ⟨(some 31), none, .q (.bin .neq (.t 23) (.t 30))⟩ .done))))))))))))))))
 (.cond (.t 31)
 (.reg [⟨(some 32), none, .q (.mv (.t 7))⟩,
 ⟨(some 33), none, .q (.bin .add (.t 32) (.c (.int .i64 1)))⟩,
 ⟨(some 7), none, .q (.mv (.t 33))⟩])
 .skip))
 (.seq (.reg [⟨(some 34), none, .q (.mv (.t 1))⟩,
 ⟨(some 35), none, .q (.fad 0 (.t 3))⟩,
 ⟨(some 36), none, .q (.ld false 1 (.t 35))⟩,
 ⟨(some 37), none, .q (.mv (.t 8))⟩,
 ⟨(some 38), none, .q (.ixs 1 (.t 36) (.t 37))⟩,
 ⟨(some 39), none, .q (.ld false 1 (.t 38))⟩,
 ⟨(some 40), none, .q (.bin .quo (.t 34) (.t 39))⟩,
 ⟨(some 1), none, .q (.mv (.t 40))⟩])
 (.reg [⟨(some 41), none, .q (.mv (.t 2))⟩,
 ⟨(some 42), none, .q (.fad 0 (.t 3))⟩,
 ⟨(some 43), none, .q (.ld false 1 (.t 42))⟩,
 ⟨(some 44), none, .q (.mv (.t 8))⟩,
 ⟨(some 45), none, .q (.ixs 1 (.t 43) (.t 44))⟩,
 ⟨(some 46), none, .q (.ld false 1 (.t 45))⟩,
 ⟨(some 47), none, .q (.bin .quo (.t 41) (.t 46))⟩,
 ⟨(some 2), none, .q (.mv (.t 47))⟩]))))
 (.reg [⟨(some 15), none, .q (.mv (.t 8))⟩,
 ⟨(some 16), none, .q (.bin .sub (.t 15) (.c (.int .i64 1)))⟩,
 ⟨(some 8), none, .q (.mv (.t 16))⟩]))))))
 (.seq (.reg [⟨(some 48), none, .q (.mv (.t 7))⟩,
 ⟨(some 6), none, .q (.mv (.t 48))⟩])
 .ret))))⟩
theorem l_spec_l01Distance : lowF PA f_spec_l01Distance 3 [.k [1, 2, 3, 7, 8], .s (.take 0 (.take 1 (.take 2 (.take 3 (.take 4 (.take 5 (.take 6 (.take 7 (.take 8 (.take 9 (.take 10 (.take 11 (.take 12 (.take 13 (.take 14 .done)))))))))))))))] = some c_spec_l01Distance := by kernel_rfl
abbrev f_impl_those : FuncId := 70
def c_impl_those : AF := ⟨2, 26, [.t 4],
 (.seq (.reg [⟨(some 2), none, .m (.box (.t 0))⟩,
 ⟨(some 4), none, .q (.mv (.c (.slice none 0 0)))⟩])
 (.seq (.reg [⟨(some 8), none, .m (.bsl 1 [])⟩,
 ⟨(some 5), none, .q (.mv (.t 8))⟩])
 (.seq (.seq (.reg [⟨(some 9), none, .q (.ld true 1 (.t 2))⟩,
 ⟨(some 10), none, .c (.call 31 [(.t 9)])⟩,
 ⟨(some 11), none, .q (.len (.t 10))⟩,
 ⟨(some 12), none, .q (.mv (.c (.int .i64 0)))⟩])
 (.block 0 (.loop [1, 5, 10, 11, 12] (.seq (.reg [⟨(some 13), none, .q (.bin .lss (.t 12) (.t 11))⟩])
 (.seq (.cond (.t 13)
 .skip
 (.exit 0))
 (.seq (.block 1 (.seq (.reg [⟨(some 14), none, .q (.mv (.t 12))⟩,
 ⟨(some 15), none, .q (.ixs 8 (.t 10) (.t 12))⟩,
 ⟨(some 16), none, .q (.ld true 8 (.t 15))⟩,
 ⟨(some 7), none, .m (.alloc [(.v (.int .u8 0)), (.v (.int .u8 0)), (.v (.int .u8 0)), (.v (.int .u8 0)), (.v (.int .u8 0)), (.v (.int .u8 0)), (.v (.int .u8 0)), (.v (.int .u8 0))])⟩,
 ⟨(some 6), none, .q (.mv (.t 14))⟩,
 ⟨none, none, .m (.st true 8 (.t 7) (.t 16))⟩])
 (.seq (.reg [⟨(some 17), none, .q (.mv (.t 1))⟩,
 ⟨(some 18), none, .q (.ld true 8 (.t 7))⟩,
 ⟨(some 19), none, .c (.cav (.t 17) [(.t 18)])⟩])
 (.cond (.t 19)
 (.reg [⟨(some 20), none, .q (.mv (.t 5))⟩,
 ⟨(some 21), none, .q (.mv (.t 6))⟩,
 ⟨(some 22), none, .m (.bsl 1 [(.t 21)])⟩,
 ⟨(some 23), none, .m (.app 1 8 (.t 20) (.t 22))⟩,
 ⟨(some 5), none, .q (.mv (.t 23))⟩])
 .skip))))
 (.reg [⟨(some 24), none, .q (.bin .add (.t 12) (.c (.int .i64 1)))⟩,
 ⟨(some 12), none, .q (.mv (.t 24))⟩])))))))
 (.seq (.reg [⟨(some 25), none, .q (.mv (.t 5))⟩,
 ⟨(some 4), none, .q (.mv (.t 25))⟩])
 .ret))))⟩
theorem l_impl_those : lowF PA f_impl_those 2 [.k [1, 5, 10, 11, 12]] = some c_impl_those := by kernel_rfl
abbrev f_impl_ball_1 : FuncId := 71
def c_impl_ball_1 : AF := ⟨3, 10, [.t 4],
 (.seq (.reg [⟨(some 3), none, .m (.box (.t 0))⟩,
 ⟨(some 4), none, .q (.mv (.c (.bool false)))⟩])
 (.seq (.sch (.take 0 ⟨(some 5), none, .q (.ld true 8 (.t 1))⟩ (.take 1 ⟨(some 6), none, .q (.ld true 8 (.t 3))⟩ (.take 3 ⟨(some 8), none, .q (.ld false 1 (.t 2))⟩ (.one ⟨(some 7), none, .c (.call 34 [(.t 5), (.t 6)])⟩ [1, 0] (.take 4 ⟨(some 9), none, .q (.bin .leq (.t 7) (.t 8))⟩ (.take 5 ⟨(some 4), none, .q (.mv (.t 9))⟩ .done)))))))
 .ret))⟩
theorem l_impl_ball_1 : lowF PA f_impl_ball_1 3 [.s (.take 0 (.take 1 (.take 3 (.one 2 (.take 4 (.take 5 .done))))))] = some c_impl_ball_1 := by kernel_rfl
abbrev f_slices_Clone___int64_int64_ : FuncId := 72
def c_slices_Clone___int64_int64_ : AF := ⟨1, 8, [.t 2],
 (.seq (.reg [⟨(some 2), none, .q (.mv (.c (.slice none 0 0)))⟩])
 (.seq (.seq (.reg [⟨(some 3), none, .q (.mv (.t 0))⟩,
 ⟨(some 4), none, .q (.isn false (.t 3))⟩])
 (.cond (.t 4)
 (.seq (.reg [⟨(some 2), none, .q (.mv (.c (.slice none 0 0)))⟩])
 .ret)
 .skip))
 (.seq (.reg [⟨(some 5), none, .m (.bsl 1 [])⟩,
 ⟨(some 6), none, .q (.mv (.t 0))⟩,
 ⟨(some 7), none, .m (.app 1 8 (.t 5) (.t 6))⟩,
 ⟨(some 2), none, .q (.mv (.t 7))⟩])
 .ret)))⟩
theorem l_slices_Clone___int64_int64_ : lowF PA f_slices_Clone___int64_int64_ 1 [] = some c_slices_Clone___int64_int64_ := by kernel_rfl
abbrev f_slices_Sort___int64_int64_ : FuncId := 73
def c_slices_Sort___int64_int64_ : AF := ⟨1, 11, [],
 (.seq (.reg [⟨(some 3), none, .q (.mv (.t 0))⟩,
 ⟨(some 4), none, .q (.len (.t 3))⟩,
 ⟨(some 2), none, .q (.mv (.t 4))⟩])
 (.reg [⟨(some 5), none, .q (.mv (.t 0))⟩,
 ⟨(some 6), none, .q (.mv (.t 2))⟩,
 ⟨(some 7), none, .q (.mv (.t 2))⟩,
 ⟨(some 8), none, .q (.cvt .u64 (.t 7))⟩,
 ⟨(some 9), none, .c (.call 88 [(.t 8)])⟩,
 ⟨(some 10), none, .c (.call 87 [(.t 5), (.c (.int .i64 0)), (.t 6), (.t 9)])⟩]))⟩
theorem l_slices_Sort___int64_int64_ : lowF PA f_slices_Sort___int64_int64_ 1 [] = some c_slices_Sort___int64_int64_ := by kernel_rfl
abbrev f_impl_places : FuncId := 74
def c_impl_places : AF := ⟨1, 6, [.t 2],
 (.seq (.reg [⟨(some 1), none, .m (.box (.t 0))⟩,
 ⟨(some 2), none, .q (.mv (.c (.int .i64 0)))⟩])
 (.seq (.reg [⟨(some 3), none, .q (.fad 0 (.t 1))⟩,
 ⟨(some 4), none, .q (.ld false 1 (.t 3))⟩,
 ⟨(some 5), none, .q (.len (.t 4))⟩,
 ⟨(some 2), none, .q (.mv (.t 5))⟩])
 .ret))⟩
theorem l_impl_places : lowF PA f_impl_places 1 [] = some c_impl_places := by kernel_rfl
abbrev f_spec_l01Small : FuncId := 75
def c_spec_l01Small : AF := ⟨1, 8, [.c 2 true 1],
 (.seq (.reg [⟨(some 2), none, .m (.alloc [(.v (.slice none 0 0))])⟩])
 (.seq (.reg [⟨(some 3), none, .q (.mv (.t 0))⟩,
 ⟨(some 4), none, .q (.mv (.t 0))⟩,
 ⟨(some 5), none, .m (.bsl 1 [(.c (.int .i64 8)), (.c (.int .i64 27)), (.c (.int .i64 81))])⟩,
 ⟨(some 6), none, .c (.call 57 [(.t 4), (.t 5)])⟩,
 ⟨(some 7), none, .c (.call 86 [(.t 3), (.t 6)])⟩,
 ⟨none, none, .m (.st true 1 (.t 2) (.t 7))⟩])
 .ret))⟩
theorem l_spec_l01Small : lowF PA f_spec_l01Small 1 [] = some c_spec_l01Small := by kernel_rfl
abbrev f_spec_l01DrawCode : FuncId := 76
def c_spec_l01DrawCode : AF := ⟨2, 109, [.t 4],
 (.seq (.reg [⟨(some 3), none, .m (.box (.t 1))⟩,
 ⟨(some 4), none, .q (.mv (.c (.slice none 0 0)))⟩])
 (.seq (.reg [⟨(some 17), none, .m (.bsl 1 [])⟩,
 ⟨(some 5), none, .q (.mv (.t 17))⟩])
 (.seq (.seq (.reg [⟨(some 18), none, .q (.mv (.t 0))⟩,
 ⟨(some 19), none, .c (.call 54 [(.t 18), (.c (.int .i64 4))])⟩])
 (.block 0 (.seq (.reg [⟨(some 21), none, .q (.bin .eql (.t 19) (.c (.int .i64 0)))⟩,
 ⟨(some 20), none, .q (.mv (.t 21))⟩])
 (.cond (.t 20)
 (.seq (.reg [⟨(some 22), none, .q (.mv (.t 0))⟩,
 ⟨(some 23), none, .m (.bsl 1 [(.c (.int .i64 2)), (.c (.int .i64 2)), (.c (.int .i64 3)), (.c (.int .i64 4))])⟩,
 ⟨(some 24), none, .c (.call 57 [(.t 22), (.t 23)])⟩,
 ⟨(some 25), none, .q (.mv (.t 0))⟩,
 ⟨(some 26), none, .c (.call 54 [(.t 25), (.c (.int .i64 2))])⟩,
 ⟨(some 6), none, .q (.mv (.t 24))⟩,
 ⟨(some 7), none, .q (.mv (.t 26))⟩])
 (.seq (.seq (.reg [⟨(some 8), none, .q (.mv (.c (.int .i64 0)))⟩])
 (.block 1 (.loop [3, 5, 6, 7, 8, 109] (.seq (.seq (.reg [⟨(some 27), none, .q (.mv (.t 8))⟩,
 ⟨(some 28), none, .q (.ld true 1 (.t 3))⟩,
 ⟨(some 29), none, .c (.call 36 [(.t 28)])⟩,
 ⟨(some 30), none, .q (.bin .lss (.t 27) (.t 29))⟩])
 (.cond (.t 30)
 .skip
 (.exit 1)))
 (.seq (.block 2 (.seq (.reg [⟨(some 33), none, .q (.ld true 1 (.t 3))⟩,
 ⟨(some 34), none, .q (.mv (.t 8))⟩,
 ⟨(some 35), none, .c (.call 89 [(.t 33), (.t 34)])⟩,
 ⟨(some 9), none, .q (.mv (.t 35))⟩,
 ⟨(some 10), none, .q (.mv (.c (.int .i64 0)))⟩])
 (.seq (.seq (.reg [⟨(some 36), none, .q (.mv (.t 9))⟩,
 ⟨(some 37), none, .q (.len (.t 36))⟩,
 ⟨(some 38), none, .q (.mv (.c (.int .i64 0)))⟩])
 (.block 3 (.loop [3, 5, 6, 7, 8, 9, 10, 37, 38, 109] (.seq (.reg [⟨(some 39), none, .q (.bin .lss (.t 38) (.t 37))⟩])
 (.seq (.cond (.t 39)
 .skip
 (.exit 3))
 (.seq (.block 4 (.seq (.reg [⟨(some 40), none, .q (.mv (.t 38))⟩,
 ⟨(some 11), none, .q (.mv (.t 40))⟩])
 (.reg [⟨(some 41), none, .q (.mv (.t 10))⟩,
 ⟨(some 42), none, .q (.mv (.t 9))⟩,
 ⟨(some 43), none, .q (.mv (.t 11))⟩,
 ⟨(some 44), none, .q (.ixs 1 (.t 42) (.t 43))⟩,
 ⟨(some 45), none, .q (.ld false 1 (.t 44))⟩,
 ⟨(some 46), none, .q (.bin .add (.t 41) (.t 45))⟩,
 ⟨(some 10), none, .q (.mv (.t 46))⟩])))
 (.reg [⟨(some 47), none, .q (.bin .add (.t 38) (.c (.int .i64 1)))⟩,
 ⟨(some 38), none, .q (.mv (.t 47))⟩])))))))
 (.seq (.reg [⟨(some 48), none, .q (.mv (.t 10))⟩,
 ⟨(some 49), none, .q (.mv (.t 6))⟩,
 ⟨(some 50), none, .q (.bin .rem (.t 48) (.t 49))⟩,
 ⟨(some 51), none, .q (.mv (.t 7))⟩,
 ⟨(some 52), none, .q (.bin .eql (.t 50) (.t 51))⟩])
 (.cond (.t 52)
 (.reg [⟨(some 53), none, .q (.mv (.t 5))⟩,
 ⟨(some 54), none, .q (.mv (.t 8))⟩,
 ⟨(some 55), none, .m (.bsl 1 [(.t 54)])⟩,
 ⟨(some 56), none, .m (.app 1 8 (.t 53) (.t 55))⟩,
 ⟨(some 5), none, .q (.mv (.t 56))⟩])
 .skip)))))
 (.reg [⟨(some 31), none, .q (.mv (.t 8))⟩,
 ⟨(some 32), none, .q (.bin .add (.t 31) (.c (.int .i64 1)))⟩,
 ⟨(some 8), none, .q (.mv (.t 32))⟩]))))))
 (.seq (.reg [⟨(some 57), none, .q (.mv (.t 5))⟩,
 ⟨(some 4), none, .q (.mv (.t 57))⟩])
 .ret)))
 (.seq (.reg [⟨(some 59), none, .q (.bin .eql (.t 19) (.c (.int .i64 1)))⟩,
 ⟨(some 58), none, .q (.mv (.t 59))⟩])
 (.cond (.t 58)
 (.seq (.reg [⟨(some 60), none, .q (.mv (.t 0))⟩,
 ⟨(some 61), none, .m (.bsl 1 [(.c (.int .i64 2)), (.c (.int .i64 3)), (.c (.int .i64 3))])⟩,
 ⟨(some 62), none, .c (.call 57 [(.t 60), (.t 61)])⟩,
 ⟨(some 12), none, .q (.mv (.t 62))⟩])
 (.seq (.seq (.reg [⟨(some 13), none, .q (.mv (.c (.int .i64 0)))⟩])
 (.block 5 (.loop [3, 5, 12, 13, 109] (.seq (.seq (.reg [⟨(some 63), none, .q (.mv (.t 13))⟩,
 ⟨(some 64), none, .q (.ld true 1 (.t 3))⟩,
 ⟨(some 65), none, .c (.call 36 [(.t 64)])⟩,
 ⟨(some 66), none, .q (.bin .lss (.t 63) (.t 65))⟩])
 (.cond (.t 66)
 .skip
 (.exit 5)))
 (.seq (.block 6 (.seq (.reg [⟨(some 14), none, .q (.mv (.c (.bool true)))⟩])
 (.seq (.seq (.reg [⟨(some 69), none, .q (.mv (.t 5))⟩,
 ⟨(some 70), none, .q (.len (.t 69))⟩,
 ⟨(some 71), none, .q (.mv (.c (.int .i64 0)))⟩])
 (.block 7 (.loop [3, 5, 12, 13, 14, 70, 71, 109] (.seq (.reg [⟨(some 72), none, .q (.bin .lss (.t 71) (.t 70))⟩])
 (.seq (.cond (.t 72)
 .skip
 (.exit 7))
 (.seq (.block 8 (.seq (.reg [⟨(some 73), none, .q (.mv (.t 71))⟩,
 ⟨(some 15), none, .q (.mv (.t 73))⟩])
 (.sch (.take 0 ⟨(some 74), none, .q (.mv (.t 14))⟩ (.take 1 ⟨(some 75), none, .q (.mv (.t 74))⟩ (.take 2 ⟨(some 76), (some (75, true)), .q (.ld true 1 (.t 3))⟩ (.take 3 ⟨(some 77), (some (75, true)), .q (.mv (.t 5))⟩ (.take 4 ⟨(some 78), (some (75, true)), .q (.mv (.t 15))⟩ (.take 5 ⟨(some 79), (some (75, true)), .q (.ixs 1 (.t 77) (.t 78))⟩ (.take 6 ⟨(some 80), (some (75, true)), .q (.ld false 1 (.t 79))⟩ (.take 7 ⟨(some 81), (some (75, true)), .q (.mv (.t 13))⟩ (.take 9 ⟨(some 83), (some (75, true)), .q (.mv (.t 12))⟩ (.one ⟨(some 82), (some (75, true)), .c (.call 69 [(.t 76), (.t 80), (.t 81)])⟩ [6, 2] (.take 10 ⟨(some 84), (some (75, true)), .q (.bin .geq (.t 82) (.t 83))⟩ (.take 11 ⟨(some 85), none, .q (.pick (.t 75) (.t 84) (.c (.bool false)))⟩ (.take 12 ⟨(some 14), none, .q (.mv (.t 85))⟩ .done))))))))))))))))
 (.reg [⟨(some 86), none, .q (.bin .add (.t 71) (.c (.int .i64 1)))⟩,
 ⟨(some 71), none, .q (.mv (.t 86))⟩])))))))
 (.seq (.reg [⟨(some 87), none, .q (.mv (.t 14))⟩])
 (.cond (.t 87)
 (.reg [⟨(some 88), none, .q (.mv (.t 5))⟩,
 ⟨(some 89), none, .q (.mv (.t 13))⟩,
 ⟨(some 90), none, .m (.bsl 1 [(.t 89)])⟩,
 ⟨(some 91), none, .m (.app 1 8 (.t 88) (.t 90))⟩,
 ⟨(some 5), none, .q (.mv (.t 91))⟩])
 .skip)))))
 (.reg [⟨(some 67), none, .q (.mv (.t 13))⟩,
 ⟨(some 68), none, .q (.bin .add (.t 67) (.c (.int .i64 1)))⟩,
 ⟨(some 13), none, .q (.mv (.t 68))⟩]))))))
 (.seq (.reg [⟨(some 92), none, .q (.mv (.t 5))⟩,
 ⟨(some 4), none, .q (.mv (.t 92))⟩])
 .ret)))
 .skip))))))
 (.seq (.seq (.reg [⟨(some 93), none, .q (.mv (.t 0))⟩,
 ⟨(some 94), none, .q (.mv (.t 0))⟩,
 ⟨(some 95), none, .m (.bsl 1 [(.c (.int .i64 3)), (.c (.int .i64 8)), (.c (.int .i64 20))])⟩,
 ⟨(some 96), none, .c (.call 57 [(.t 94), (.t 95)])⟩,
 ⟨(some 97), none, .c (.call 54 [(.t 93), (.t 96)])⟩,
 ⟨(some 16), none, .q (.mv (.t 97))⟩])
 (.block 9 (.loop [0, 3, 5, 16, 109] (.seq (.seq (.reg [⟨(some 98), none, .q (.mv (.t 16))⟩,
 ⟨(some 99), none, .q (.bin .gtr (.t 98) (.c (.int .i64 0)))⟩])
 (.cond (.t 99)
 .skip
 (.exit 9)))
 (.seq (.block 10 (.reg [⟨(some 102), none, .q (.mv (.t 5))⟩,
 ⟨(some 103), none, .q (.mv (.t 0))⟩,
 ⟨(some 104), none, .q (.ld true 1 (.t 3))⟩,
 ⟨(some 105), none, .c (.call 36 [(.t 104)])⟩,
 ⟨(some 106), none, .c (.call 54 [(.t 103), (.t 105)])⟩,
 ⟨(some 107), none, .c (.call 90 [(.t 102), (.t 106)])⟩,
 ⟨(some 5), none, .q (.mv (.t 107))⟩]))
 (.reg [⟨(some 100), none, .q (.mv (.t 16))⟩,
 ⟨(some 101), none, .q (.bin .sub (.t 100) (.c (.int .i64 1)))⟩,
 ⟨(some 16), none, .q (.mv (.t 101))⟩]))))))
 (.seq (.reg [⟨(some 108), none, .q (.mv (.t 5))⟩,
 ⟨(some 4), none, .q (.mv (.t 108))⟩])
 .ret)))))⟩
theorem l_spec_l01DrawCode : lowF PA f_spec_l01DrawCode 2 [.k [3, 5, 6, 7, 8, 109], .k [3, 5, 6, 7, 8, 9, 10, 37, 38, 109], .k [3, 5, 12, 13, 109], .k [3, 5, 12, 13, 14, 70, 71, 109], .s (.take 0 (.take 1 (.take 2 (.take 3 (.take 4 (.take 5 (.take 6 (.take 7 (.take 9 (.one 8 (.take 10 (.take 11 (.take 12 .done))))))))))))), .k [0, 3, 5, 16, 109]] = some c_spec_l01DrawCode := by kernel_rfl
abbrev f_spec_l01BadCode : FuncId := 77
def c_spec_l01BadCode : AF := ⟨3, 33, [.t 6],
 (.seq (.reg [⟨(some 4), none, .m (.box (.t 1))⟩,
 ⟨(some 6), none, .q (.mv (.c (.slice none 0 0)))⟩])
 (.seq (.reg [⟨(some 8), none, .q (.mv (.t 2))⟩,
 ⟨(some 9), none, .c (.call 53 [(.t 8)])⟩,
 ⟨(some 7), none, .q (.mv (.t 9))⟩])
 (.seq (.seq (.reg [⟨(some 10), none, .q (.mv (.t 0))⟩,
 ⟨(some 11), none, .c (.call 54 [(.t 10), (.c (.int .i64 30))])⟩])
 (.block 0 (.seq (.reg [⟨(some 13), none, .q (.bin .eql (.t 11) (.c (.int .i64 0)))⟩,
 ⟨(some 12), none, .q (.mv (.t 13))⟩])
 (.cond (.t 12)
 (.seq (.reg [⟨(some 14), none, .q (.mv (.t 7))⟩,
 ⟨(some 15), none, .q (.mv (.t 0))⟩,
 ⟨(some 16), none, .q (.ld true 1 (.t 4))⟩,
 ⟨(some 17), none, .c (.call 36 [(.t 16)])⟩,
 ⟨(some 18), none, .m (.bsl 1 [(.c (.int .i64 (-1))), (.t 17), (.c (.int .i64 0)), (.c (.int .i64 1099511627776))])⟩,
 ⟨(some 19), none, .c (.call 57 [(.t 15), (.t 18)])⟩,
 ⟨(some 20), none, .m (.bsl 1 [(.t 19)])⟩,
 ⟨(some 21), none, .m (.app 1 8 (.t 14) (.t 20))⟩,
 ⟨(some 6), none, .q (.mv (.t 21))⟩])
 .ret)
 (.seq (.reg [⟨(some 23), none, .q (.bin .eql (.t 11) (.c (.int .i64 1)))⟩,
 ⟨(some 22), none, .q (.mv (.t 23))⟩])
 (.cond (.t 22)
 (.seq (.reg [⟨(some 24), none, .q (.mv (.t 7))⟩,
 ⟨(some 25), none, .q (.len (.t 24))⟩,
 ⟨(some 26), none, .q (.bin .gtr (.t 25) (.c (.int .i64 1)))⟩])
 (.cond (.t 26)
 (.reg [⟨(some 27), none, .q (.mv (.t 7))⟩,
 ⟨(some 28), none, .q (.mv (.t 7))⟩,
 ⟨(some 29), none, .q (.ixs 1 (.t 28) (.c (.int .i64 1)))⟩,
 ⟨(some 30), none, .q (.ld false 1 (.t 29))⟩,
 ⟨(some 31), none, .q (.ixs 1 (.t 27) (.c (.int .i64 0)))⟩,
 ⟨none, none, .m (.st false 1 (.t 31) (.t 30))⟩])
 .skip))
 .skip))))))
 (.seq (.reg [⟨(some 32), none, .q (.mv (.t 7))⟩,
 ⟨(some 6), none, .q (.mv (.t 32))⟩])
 .ret))))⟩
theorem l_spec_l01BadCode : lowF PA f_spec_l01BadCode 3 [] = some c_spec_l01BadCode := by kernel_rfl
abbrev f_impl_codeCode : FuncId := 78
def c_impl_codeCode : AF := ⟨3, 18, [.t 6],
 (.seq (.reg [⟨(some 3), none, .m (.box (.t 0))⟩,
 ⟨(some 6), none, .q (.mv (.c (.int .i64 0)))⟩])
 (.seq (.seq (.reg [⟨(some 8), none, .q (.ld true 1 (.t 3))⟩,
 ⟨(some 9), none, .q (.mv (.t 2))⟩,
 ⟨(some 10), none, .c (.call 91 [(.t 8), (.t 9)])⟩,
 ⟨(some 7), none, .q (.mv (.t 10))⟩])
 (.seq (.reg [⟨(some 11), none, .q (.mv (.t 7))⟩,
 ⟨(some 12), none, .q (.bin .neq (.t 11) (.c (.int .i64 0)))⟩])
 (.cond (.t 12)
 (.seq (.reg [⟨(some 13), none, .q (.mv (.t 7))⟩,
 ⟨(some 6), none, .q (.mv (.t 13))⟩])
 .ret)
 .skip)))
 (.seq (.seq (.reg [⟨(some 14), none, .q (.ld true 1 (.t 3))⟩,
 ⟨(some 15), none, .q (.mv (.t 1))⟩,
 ⟨(some 16), none, .c (.call 92 [(.t 14), (.t 15)])⟩,
 ⟨(some 17), none, .q (.un .not (.t 16))⟩])
 (.cond (.t 17)
 (.seq (.reg [⟨(some 6), none, .q (.mv (.c (.int .i64 2)))⟩])
 .ret)
 .skip))
 (.seq (.reg [⟨(some 6), none, .q (.mv (.c (.int .i64 0)))⟩])
 .ret))))⟩
theorem l_impl_codeCode : lowF PA f_impl_codeCode 3 [] = some c_impl_codeCode := by kernel_rfl
abbrev f_slices_Repeat___int64_int64_ : FuncId := 79
def c_slices_Repeat___int64_int64_ : AF := ⟨2, 48, [.t 4],
 (.seq (.reg [⟨(some 4), none, .q (.mv (.c (.slice none 0 0)))⟩])
 (.seq (.seq (.reg [⟨(some 9), none, .q (.mv (.t 1))⟩,
 ⟨(some 10), none, .q (.bin .lss (.t 9) (.c (.int .i64 0)))⟩])
 (.cond (.t 10)
 .bad
 .skip))
 (.seq (.reg [⟨(some 13), none, .q (.mv (.t 0))⟩,
 ⟨(some 14), none, .q (.len (.t 13))⟩,
 ⟨(some 15), none, .q (.cvt .u64 (.t 14))⟩,
 ⟨(some 16), none, .q (.mv (.t 1))⟩,
 ⟨(some 17), none, .q (.cvt .u64 (.t 16))⟩,
 ⟨(some 18), none, .c (.call 93 [(.t 15), (.t 17)])⟩,
 ⟨(some 12), none, .q (.mv (.t 18))⟩,
 ⟨(some 19), none, .q (.ext (.t 12) 0)⟩,
 ⟨(some 20), none, .q (.ext (.t 12) 1)⟩,
 ⟨(some 5), none, .q (.mv (.t 19))⟩,
 ⟨(some 6), none, .q (.mv (.t 20))⟩])
 (.seq (.seq (.reg [⟨(some 21), none, .q (.mv (.t 5))⟩,
 ⟨(some 22), none, .q (.bin .gtr (.t 21) (.c (.int .u64 0)))⟩,
 ⟨(some 23), none, .q (.mv (.t 22))⟩,
 ⟨(some 24), (some (23, false)), .q (.mv (.t 6))⟩,
 ⟨(some 25), (some (23, false)), .q (.bin .gtr (.t 24) (.c (.int .u64 9223372036854775807)))⟩,
 ⟨(some 26), none, .q (.pick (.t 23) (.c (.bool true)) (.t 25))⟩])
 (.cond (.t 26)
 .bad
 .skip))
 (.seq (.reg [⟨(some 28), none, .q (.mv (.t 6))⟩,
 ⟨(some 29), none, .q (.cvt .i64 (.t 28))⟩,
 ⟨(some 30), none, .m (.mks 1 (.v (.int .i64 0)) 8 (.t 29) (.t 29))⟩,
 ⟨(some 7), none, .q (.mv (.t 30))⟩])
 (.seq (.reg [⟨(some 31), none, .q (.mv (.t 7))⟩,
 ⟨(some 32), none, .q (.mv (.t 0))⟩,
 ⟨(some 33), none, .m (.cpy 1 (.t 31) (.t 32))⟩,
 ⟨(some 8), none, .q (.mv (.t 33))⟩])
 (.seq (.block 0 (.loop [7, 8] (.seq (.seq (.reg [⟨(some 34), none, .q (.mv (.t 8))⟩,
 ⟨(some 35), none, .q (.mv (.t 7))⟩,
 ⟨(some 36), none, .q (.len (.t 35))⟩,
 ⟨(some 37), none, .q (.bin .lss (.t 34) (.t 36))⟩])
 (.cond (.t 37)
 .skip
 (.exit 0)))
 (.block 1 (.sch (.take 0 ⟨(some 38), none, .q (.mv (.t 8))⟩ (.take 1 ⟨(some 39), none, .q (.mv (.t 7))⟩ (.take 2 ⟨(some 40), none, .q (.mv (.t 8))⟩ (.take 3 ⟨(some 41), none, .q (.slc 1 (.t 39) (some (.t 40)) none)⟩ (.take 4 ⟨(some 42), none, .q (.mv (.t 7))⟩ (.take 5 ⟨(some 43), none, .q (.mv (.t 8))⟩ (.take 6 ⟨(some 44), none, .q (.slc 1 (.t 42) none (some (.t 43)))⟩ (.one ⟨(some 45), none, .m (.cpy 1 (.t 41) (.t 44))⟩ [] (.take 8 ⟨(some 46), none, .q (.bin .add (.t 38) (.t 45))⟩ (.take 9 ⟨(some 8), none, .q (.mv (.t 46))⟩ .done)))))))))))))))
 (.seq (.reg [⟨(some 47), none, .q (.mv (.t 7))⟩,
 ⟨(some 4), none, .q (.mv (.t 47))⟩])
 .ret))))))))⟩
theorem l_slices_Repeat___int64_int64_ : lowF PA f_slices_Repeat___int64_int64_ 2 [.x 2, .x 5, .k [7, 8], .s (.take 0 (.take 1 (.take 2 (.take 3 (.take 4 (.take 5 (.take 6 (.one 7 (.take 8 (.take 9 .done))))))))))] = some c_slices_Repeat___int64_int64_ := by kernel_rfl
abbrev f_impl_farness : FuncId := 80
def c_impl_farness : AF := ⟨2, 41, [.t 4],
 (.seq (.reg [⟨(some 2), none, .m (.box (.t 0))⟩,
 ⟨(some 4), none, .q (.mv (.c (.slice none 0 0)))⟩])
 (.seq (.reg [⟨(some 12), none, .q (.ld true 1 (.t 2))⟩,
 ⟨(some 13), none, .q (.mv (.t 1))⟩,
 ⟨(some 14), none, .c (.call 82 [(.t 12), (.t 13)])⟩,
 ⟨(some 15), none, .m (.bsl 1 [])⟩,
 ⟨(some 5), none, .q (.mv (.t 14))⟩,
 ⟨(some 6), none, .q (.mv (.t 15))⟩])
 (.seq (.seq (.reg [⟨(some 16), none, .q (.ld true 1 (.t 2))⟩,
 ⟨(some 17), none, .c (.call 31 [(.t 16)])⟩,
 ⟨(some 18), none, .q (.len (.t 17))⟩,
 ⟨(some 19), none, .q (.mv (.c (.int .i64 0)))⟩])
 (.block 0 (.loop [5, 6, 17, 18, 19] (.seq (.reg [⟨(some 20), none, .q (.bin .lss (.t 19) (.t 18))⟩])
 (.seq (.cond (.t 20)
 .skip
 (.exit 0))
 (.seq (.block 1 (.seq (.reg [⟨(some 21), none, .q (.ixs 8 (.t 17) (.t 19))⟩,
 ⟨(some 22), none, .q (.ld true 8 (.t 21))⟩,
 ⟨(some 8), none, .m (.alloc [(.v (.int .u8 0)), (.v (.int .u8 0)), (.v (.int .u8 0)), (.v (.int .u8 0)), (.v (.int .u8 0)), (.v (.int .u8 0)), (.v (.int .u8 0)), (.v (.int .u8 0))])⟩,
 ⟨none, none, .m (.st true 8 (.t 8) (.t 22))⟩])
 (.seq (.reg [⟨(some 9), none, .q (.mv (.c (.int .i64 8)))⟩])
 (.seq (.seq (.reg [⟨(some 23), none, .q (.mv (.t 5))⟩,
 ⟨(some 24), none, .q (.len (.t 23))⟩,
 ⟨(some 25), none, .q (.mv (.c (.int .i64 0)))⟩])
 (.block 2 (.loop [5, 6, 8, 9, 17, 18, 19, 23, 24, 25] (.seq (.reg [⟨(some 26), none, .q (.bin .lss (.t 25) (.t 24))⟩])
 (.seq (.cond (.t 26)
 .skip
 (.exit 2))
 (.seq (.block 3 (.seq (.reg [⟨(some 27), none, .q (.ixs 8 (.t 23) (.t 25))⟩,
 ⟨(some 28), none, .q (.ld true 8 (.t 27))⟩,
 ⟨(some 11), none, .m (.alloc [(.v (.int .u8 0)), (.v (.int .u8 0)), (.v (.int .u8 0)), (.v (.int .u8 0)), (.v (.int .u8 0)), (.v (.int .u8 0)), (.v (.int .u8 0)), (.v (.int .u8 0))])⟩,
 ⟨none, none, .m (.st true 8 (.t 11) (.t 28))⟩])
 (.reg [⟨(some 29), none, .q (.mv (.t 9))⟩,
 ⟨(some 30), none, .q (.ld true 8 (.t 8))⟩,
 ⟨(some 31), none, .q (.ld true 8 (.t 11))⟩,
 ⟨(some 32), none, .c (.call 34 [(.t 30), (.t 31)])⟩,
 ⟨(some 33), none, .q (.mn (.t 29) (.t 32))⟩,
 ⟨(some 9), none, .q (.mv (.t 33))⟩])))
 (.reg [⟨(some 34), none, .q (.bin .add (.t 25) (.c (.int .i64 1)))⟩,
 ⟨(some 25), none, .q (.mv (.t 34))⟩])))))))
 (.reg [⟨(some 35), none, .q (.mv (.t 6))⟩,
 ⟨(some 36), none, .q (.mv (.t 9))⟩,
 ⟨(some 37), none, .m (.bsl 1 [(.t 36)])⟩,
 ⟨(some 38), none, .m (.app 1 8 (.t 35) (.t 37))⟩,
 ⟨(some 6), none, .q (.mv (.t 38))⟩])))))
 (.reg [⟨(some 39), none, .q (.bin .add (.t 19) (.c (.int .i64 1)))⟩,
 ⟨(some 19), none, .q (.mv (.t 39))⟩])))))))
 (.seq (.reg [⟨(some 40), none, .q (.mv (.t 6))⟩,
 ⟨(some 4), none, .q (.mv (.t 40))⟩])
 .ret))))⟩
theorem l_impl_farness : lowF PA f_impl_farness 2 [.k [5, 6, 17, 18, 19], .k [5, 6, 8, 9, 17, 18, 19, 23, 24, 25]] = some c_impl_farness := by kernel_rfl
abbrev f_spec_l01Given : FuncId := 81
def c_spec_l01Given : AF := ⟨2, 14, [.t 4],
 (.seq (.reg [⟨(some 2), none, .m (.box (.t 0))⟩,
 ⟨(some 4), none, .q (.mv (.c (.int .i64 0)))⟩])
 (.seq (.block 0 (.seq (.reg [⟨(some 6), none, .q (.ld true 1 (.t 2))⟩,
 ⟨(some 7), none, .c (.call 67 [(.t 6)])⟩,
 ⟨(some 8), none, .q (.un .not (.t 7))⟩,
 ⟨(some 5), none, .q (.mv (.t 8))⟩])
 (.cond (.t 5)
 (.seq (.reg [⟨(some 4), none, .q (.mv (.c (.int .i64 1)))⟩])
 .ret)
 (.seq (.reg [⟨(some 10), none, .q (.ld true 1 (.t 2))⟩,
 ⟨(some 11), none, .q (.mv (.t 1))⟩,
 ⟨(some 12), none, .c (.call 94 [(.t 10), (.t 11)])⟩,
 ⟨(some 13), none, .q (.un .not (.t 12))⟩,
 ⟨(some 9), none, .q (.mv (.t 13))⟩])
 (.cond (.t 9)
 (.seq (.reg [⟨(some 4), none, .q (.mv (.c (.int .i64 2)))⟩])
 .ret)
 .skip)))))
 (.seq (.reg [⟨(some 4), none, .q (.mv (.c (.int .i64 0)))⟩])
 .ret)))⟩
theorem l_spec_l01Given : lowF PA f_spec_l01Given 2 [] = some c_spec_l01Given := by kernel_rfl
abbrev f_impl_digitsOfAll : FuncId := 82
def c_impl_digitsOfAll : AF := ⟨2, 23, [.t 4],
 (.seq (.reg [⟨(some 2), none, .m (.box (.t 0))⟩,
 ⟨(some 4), none, .q (.mv (.c (.slice none 0 0)))⟩])
 (.seq (.reg [⟨(some 8), none, .m (.bsl 8 [])⟩,
 ⟨(some 5), none, .q (.mv (.t 8))⟩])
 (.seq (.seq (.reg [⟨(some 9), none, .q (.mv (.t 1))⟩,
 ⟨(some 10), none, .q (.len (.t 9))⟩,
 ⟨(some 11), none, .q (.mv (.c (.int .i64 0)))⟩])
 (.block 0 (.loop [2, 5, 9, 10, 11] (.seq (.reg [⟨(some 12), none, .q (.bin .lss (.t 11) (.t 10))⟩])
 (.seq (.cond (.t 12)
 .skip
 (.exit 0))
 (.seq (.block 1 (.seq (.reg [⟨(some 13), none, .q (.ixs 1 (.t 9) (.t 11))⟩,
 ⟨(some 14), none, .q (.ld false 1 (.t 13))⟩,
 ⟨(some 7), none, .q (.mv (.t 14))⟩])
 (.reg [⟨(some 15), none, .q (.mv (.t 5))⟩,
 ⟨(some 16), none, .q (.ld true 1 (.t 2))⟩,
 ⟨(some 17), none, .q (.mv (.t 7))⟩,
 ⟨(some 18), none, .c (.call 65 [(.t 16), (.t 17)])⟩,
 ⟨(some 19), none, .m (.bsl 8 [(.t 18)])⟩,
 ⟨(some 20), none, .m (.app 8 8 (.t 15) (.t 19))⟩,
 ⟨(some 5), none, .q (.mv (.t 20))⟩])))
 (.reg [⟨(some 21), none, .q (.bin .add (.t 11) (.c (.int .i64 1)))⟩,
 ⟨(some 11), none, .q (.mv (.t 21))⟩])))))))
 (.seq (.reg [⟨(some 22), none, .q (.mv (.t 5))⟩,
 ⟨(some 4), none, .q (.mv (.t 22))⟩])
 .ret))))⟩
theorem l_impl_digitsOfAll : lowF PA f_impl_digitsOfAll 2 [.k [2, 5, 9, 10, 11]] = some c_impl_digitsOfAll := by kernel_rfl
abbrev f_impl_isRadius : FuncId := 83
def c_impl_isRadius : AF := ⟨1, 9, [.t 2],
 (.seq (.reg [⟨(some 2), none, .q (.mv (.c (.bool false)))⟩])
 (.seq (.reg [⟨(some 3), none, .q (.mv (.t 0))⟩,
 ⟨(some 4), none, .q (.bin .geq (.t 3) (.c (.int .i64 0)))⟩,
 ⟨(some 5), none, .q (.mv (.t 4))⟩,
 ⟨(some 6), (some (5, true)), .q (.mv (.t 0))⟩,
 ⟨(some 7), (some (5, true)), .q (.bin .leq (.t 6) (.c (.int .i64 8)))⟩,
 ⟨(some 8), none, .q (.pick (.t 5) (.t 7) (.c (.bool false)))⟩,
 ⟨(some 2), none, .q (.mv (.t 8))⟩])
 .ret))⟩
theorem l_impl_isRadius : lowF PA f_impl_isRadius 1 [] = some c_impl_isRadius := by kernel_rfl
abbrev f_slices_Contains___int64_int64_ : FuncId := 84
def c_slices_Contains___int64_int64_ : AF := ⟨2, 9, [.t 4],
 (.seq (.reg [⟨(some 4), none, .q (.mv (.c (.bool false)))⟩])
 (.seq (.reg [⟨(some 5), none, .q (.mv (.t 0))⟩,
 ⟨(some 6), none, .q (.mv (.t 1))⟩,
 ⟨(some 7), none, .c (.call 95 [(.t 5), (.t 6)])⟩,
 ⟨(some 8), none, .q (.bin .geq (.t 7) (.c (.int .i64 0)))⟩,
 ⟨(some 4), none, .q (.mv (.t 8))⟩])
 .ret))⟩
theorem l_slices_Contains___int64_int64_ : lowF PA f_slices_Contains___int64_int64_ 2 [] = some c_slices_Contains___int64_int64_ := by kernel_rfl
abbrev f_impl_times : FuncId := 85
def c_impl_times : AF := ⟨3, 48, [.t 6],
 (.seq (.reg [⟨(some 3), none, .m (.box (.t 0))⟩,
 ⟨(some 6), none, .q (.mv (.c (.slice none 0 0)))⟩])
 (.seq (.sch (.take 0 ⟨(some 13), none, .q (.ld true 1 (.t 3))⟩ (.take 2 ⟨(some 15), none, .q (.ld true 1 (.t 3))⟩ (.one ⟨(some 14), none, .c (.call 31 [(.t 13)])⟩ [0] (.one ⟨(some 16), none, .c (.call 38 [(.t 15)])⟩ [2] (.take 5 ⟨(some 7), none, .q (.mv (.t 14))⟩ (.one ⟨(some 17), none, .m (.mks 1 (.v (.int .i64 0)) 8 (.t 16) (.t 16))⟩ [] (.take 6 ⟨(some 8), none, .q (.mv (.t 17))⟩ .done))))))))
 (.seq (.seq (.reg [⟨(some 18), none, .q (.mv (.t 1))⟩,
 ⟨(some 19), none, .q (.len (.t 18))⟩,
 ⟨(some 20), none, .q (.mv (.c (.int .i64 0)))⟩])
 (.block 0 (.loop [2, 7, 8, 18, 19, 20] (.seq (.reg [⟨(some 21), none, .q (.bin .lss (.t 20) (.t 19))⟩])
 (.seq (.cond (.t 21)
 .skip
 (.exit 0))
 (.seq (.block 1 (.seq (.reg [⟨(some 22), none, .q (.ixs 1 (.t 18) (.t 20))⟩,
 ⟨(some 23), none, .q (.ld false 1 (.t 22))⟩,
 ⟨(some 10), none, .q (.mv (.t 23))⟩])
 (.seq (.reg [⟨(some 24), none, .q (.mv (.t 7))⟩,
 ⟨(some 25), none, .q (.len (.t 24))⟩,
 ⟨(some 26), none, .q (.mv (.c (.int .i64 0)))⟩])
 (.block 2 (.loop [2, 7, 8, 10, 18, 19, 20, 24, 25, 26] (.seq (.reg [⟨(some 27), none, .q (.bin .lss (.t 26) (.t 25))⟩])
 (.seq (.cond (.t 27)
 .skip
 (.exit 2))
 (.seq (.block 3 (.seq (.reg [⟨(some 28), none, .q (.mv (.t 26))⟩,
 ⟨(some 29), none, .q (.ixs 8 (.t 24) (.t 26))⟩,
 ⟨(some 30), none, .q (.ld true 8 (.t 29))⟩,
 ⟨(some 12), none, .m (.alloc [(.v (.int .u8 0)), (.v (.int .u8 0)), (.v (.int .u8 0)), (.v (.int .u8 0)), (.v (.int .u8 0)), (.v (.int .u8 0)), (.v (.int .u8 0)), (.v (.int .u8 0))])⟩,
 ⟨(some 11), none, .q (.mv (.t 28))⟩,
 ⟨none, none, .m (.st true 8 (.t 12) (.t 30))⟩])
 (.seq (.sch (.take 0 ⟨(some 31), none, .q (.mv (.t 7))⟩ (.take 1 ⟨(some 32), none, .q (.mv (.t 10))⟩ (.take 2 ⟨(some 33), none, .q (.ixs 8 (.t 31) (.t 32))⟩ (.take 3 ⟨(some 34), none, .q (.ld true 8 (.t 33))⟩ (.take 4 ⟨(some 35), none, .q (.ld true 8 (.t 12))⟩ (.take 6 ⟨(some 37), none, .q (.mv (.t 2))⟩ (.one ⟨(some 36), none, .c (.call 34 [(.t 34), (.t 35)])⟩ [4, 3] (.take 7 ⟨(some 38), none, .q (.bin .leq (.t 36) (.t 37))⟩ .done)))))))))
 (.cond (.t 38)
 (.reg [⟨(some 39), none, .q (.mv (.t 8))⟩,
 ⟨(some 40), none, .q (.mv (.t 11))⟩,
 ⟨(some 41), none, .q (.ixs 1 (.t 39) (.t 40))⟩,
 ⟨(some 42), none, .q (.ld false 1 (.t 41))⟩,
 ⟨(some 43), none, .q (.bin .add (.t 42) (.c (.int .i64 1)))⟩,
 ⟨(some 44), none, .q (.ixs 1 (.t 39) (.t 40))⟩,
 ⟨none, none, .m (.st false 1 (.t 44) (.t 43))⟩])
 .skip))))
 (.reg [⟨(some 45), none, .q (.bin .add (.t 26) (.c (.int .i64 1)))⟩,
 ⟨(some 26), none, .q (.mv (.t 45))⟩])))))))))
 (.reg [⟨(some 46), none, .q (.bin .add (.t 20) (.c (.int .i64 1)))⟩,
 ⟨(some 20), none, .q (.mv (.t 46))⟩])))))))
 (.seq (.reg [⟨(some 47), none, .q (.mv (.t 8))⟩,
 ⟨(some 6), none, .q (.mv (.t 47))⟩])
 .ret))))⟩
theorem l_impl_times : lowF PA f_impl_times 3 [.s (.take 0 (.take 2 (.one 1 (.one 3 (.take 5 (.one 4 (.take 6 .done))))))), .k [2, 7, 8, 18, 19, 20], .k [2, 7, 8, 10, 18, 19, 20, 24, 25, 26], .s (.take 0 (.take 1 (.take 2 (.take 3 (.take 4 (.take 6 (.one 5 (.take 7 .done))))))))] = some c_impl_times := by kernel_rfl
abbrev f_spec_l01DrawOf : FuncId := 86
def c_spec_l01DrawOf : AF := ⟨2, 49, [.c 4 true 1],
 (.seq (.reg [⟨(some 4), none, .m (.alloc [(.v (.slice none 0 0))])⟩])
 (.seq (.reg [⟨(some 9), none, .m (.bsl 1 [])⟩,
 ⟨(some 10), none, .q (.bld [(.v (.slice none 0 0))] [(0, (.t 9))])⟩,
 ⟨(some 11), none, .q (.mv (.t 0))⟩,
 ⟨(some 12), none, .m (.bsl 1 [(.c (.int .i64 0)), (.c (.int .i64 2)), (.c (.int .i64 2)), (.c (.int .i64 3)), (.c (.int .i64 3))])⟩,
 ⟨(some 13), none, .c (.call 57 [(.t 11), (.t 12)])⟩,
 ⟨(some 5), none, .m (.alloc [(.v (.slice none 0 0))])⟩,
 ⟨none, none, .m (.st true 1 (.t 5) (.t 10))⟩,
 ⟨(some 6), none, .q (.mv (.t 13))⟩])
 (.seq (.seq (.reg [⟨(some 14), none, .q (.mv (.t 0))⟩,
 ⟨(some 15), none, .c (.call 54 [(.t 14), (.c (.int .i64 8))])⟩,
 ⟨(some 16), none, .q (.bin .add (.c (.int .i64 1)) (.t 15))⟩,
 ⟨(some 7), none, .q (.mv (.t 16))⟩])
 (.block 0 (.loop [0, 1, 4, 5, 6, 7, 49] (.seq (.seq (.reg [⟨(some 17), none, .q (.mv (.t 7))⟩,
 ⟨(some 18), none, .q (.bin .gtr (.t 17) (.c (.int .i64 0)))⟩])
 (.cond (.t 18)
 .skip
 (.exit 0)))
 (.seq (.block 1 (.seq (.reg [⟨(some 21), none, .q (.mv (.t 6))⟩,
 ⟨(some 8), none, .q (.mv (.t 21))⟩])
 (.seq (.seq (.reg [⟨(some 22), none, .q (.mv (.t 6))⟩,
 ⟨(some 23), none, .q (.bin .eql (.t 22) (.c (.int .i64 0)))⟩])
 (.cond (.t 23)
 (.reg [⟨(some 24), none, .q (.mv (.t 0))⟩,
 ⟨(some 25), none, .m (.bsl 1 [(.c (.int .i64 2)), (.c (.int .i64 2)), (.c (.int .i64 3)), (.c (.int .i64 4))])⟩,
 ⟨(some 26), none, .c (.call 57 [(.t 24), (.t 25)])⟩,
 ⟨(some 8), none, .q (.mv (.t 26))⟩])
 .skip))
 (.seq (.seq (.reg [⟨(some 27), none, .q (.ld true 1 (.t 5))⟩,
 ⟨(some 28), none, .c (.call 36 [(.t 27)])⟩,
 ⟨(some 29), none, .q (.mv (.t 8))⟩,
 ⟨(some 30), none, .q (.bin .mul (.t 28) (.t 29))⟩,
 ⟨(some 31), none, .q (.mv (.t 1))⟩,
 ⟨(some 32), none, .q (.bin .gtr (.t 30) (.t 31))⟩])
 (.cond (.t 32)
 (.exit 0)
 .skip))
 (.reg [⟨(some 33), none, .q (.fad 0 (.t 5))⟩,
 ⟨(some 34), none, .q (.ld false 1 (.t 33))⟩,
 ⟨(some 35), none, .q (.mv (.t 8))⟩,
 ⟨(some 36), none, .m (.bsl 1 [(.t 35)])⟩,
 ⟨(some 37), none, .m (.app 1 8 (.t 34) (.t 36))⟩,
 ⟨(some 38), none, .q (.fad 0 (.t 5))⟩,
 ⟨none, none, .m (.st false 1 (.t 38) (.t 37))⟩])))))
 (.reg [⟨(some 19), none, .q (.mv (.t 7))⟩,
 ⟨(some 20), none, .q (.bin .sub (.t 19) (.c (.int .i64 1)))⟩,
 ⟨(some 7), none, .q (.mv (.t 20))⟩]))))))
 (.seq (.seq (.reg [⟨(some 39), none, .q (.fad 0 (.t 5))⟩,
 ⟨(some 40), none, .q (.ld false 1 (.t 39))⟩,
 ⟨(some 41), none, .q (.len (.t 40))⟩,
 ⟨(some 42), none, .q (.bin .eql (.t 41) (.c (.int .i64 0)))⟩])
 (.cond (.t 42)
 (.reg [⟨(some 43), none, .q (.fad 0 (.t 5))⟩,
 ⟨(some 44), none, .q (.ld false 1 (.t 43))⟩,
 ⟨(some 45), none, .m (.bsl 1 [(.c (.int .i64 2))])⟩,
 ⟨(some 46), none, .m (.app 1 8 (.t 44) (.t 45))⟩,
 ⟨(some 47), none, .q (.fad 0 (.t 5))⟩,
 ⟨none, none, .m (.st false 1 (.t 47) (.t 46))⟩])
 .skip))
 (.seq (.reg [⟨(some 48), none, .q (.ld true 1 (.t 5))⟩,
 ⟨none, none, .m (.st true 1 (.t 4) (.t 48))⟩])
 .ret)))))⟩
theorem l_spec_l01DrawOf : lowF PA f_spec_l01DrawOf 2 [.k [0, 1, 4, 5, 6, 7, 49]] = some c_spec_l01DrawOf := by kernel_rfl
abbrev f_slices_pdqsortOrdered_int64_ : FuncId := 87
def c_slices_pdqsortOrdered_int64_ : AF := ⟨4, 134, [],
 (.seq (.reg [⟨(some 8), none, .q (.mv (.c (.bool true)))⟩])
 (.seq (.reg [⟨(some 9), none, .q (.mv (.c (.bool true)))⟩])
 (.block 0 (.loop [0, 1, 2, 3, 8, 9, 134] (.block 1 (.seq (.reg [⟨(some 19), none, .q (.mv (.t 2))⟩,
 ⟨(some 20), none, .q (.mv (.t 1))⟩,
 ⟨(some 21), none, .q (.bin .sub (.t 19) (.t 20))⟩,
 ⟨(some 10), none, .q (.mv (.t 21))⟩])
 (.seq (.seq (.reg [⟨(some 22), none, .q (.mv (.t 10))⟩,
 ⟨(some 23), none, .q (.bin .leq (.t 22) (.c (.int .i64 12)))⟩])
 (.cond (.t 23)
 (.seq (.reg [⟨(some 24), none, .q (.mv (.t 0))⟩,
 ⟨(some 25), none, .q (.mv (.t 1))⟩,
 ⟨(some 26), none, .q (.mv (.t 2))⟩,
 ⟨(some 27), none, .c (.call 96 [(.t 24), (.t 25), (.t 26)])⟩])
 .ret)
 .skip))
 (.seq (.seq (.reg [⟨(some 28), none, .q (.mv (.t 3))⟩,
 ⟨(some 29), none, .q (.bin .eql (.t 28) (.c (.int .i64 0)))⟩])
 (.cond (.t 29)
 (.seq (.reg [⟨(some 30), none, .q (.mv (.t 0))⟩,
 ⟨(some 31), none, .q (.mv (.t 1))⟩,
 ⟨(some 32), none, .q (.mv (.t 2))⟩,
 ⟨(some 33), none, .c (.call 97 [(.t 30), (.t 31), (.t 32)])⟩])
 .ret)
 .skip))
 (.seq (.seq (.reg [⟨(some 34), none, .q (.mv (.t 8))⟩,
 ⟨(some 35), none, .q (.un .not (.t 34))⟩])
 (.cond (.t 35)
 (.seq (.reg [⟨(some 36), none, .q (.mv (.t 0))⟩,
 ⟨(some 37), none, .q (.mv (.t 1))⟩,
 ⟨(some 38), none, .q (.mv (.t 2))⟩,
 ⟨(some 39), none, .c (.call 98 [(.t 36), (.t 37), (.t 38)])⟩])
 (.reg [⟨(some 40), none, .q (.mv (.t 3))⟩,
 ⟨(some 41), none, .q (.bin .sub (.t 40) (.c (.int .i64 1)))⟩,
 ⟨(some 3), none, .q (.mv (.t 41))⟩]))
 .skip))
 (.seq (.reg [⟨(some 43), none, .q (.mv (.t 0))⟩,
 ⟨(some 44), none, .q (.mv (.t 1))⟩,
 ⟨(some 45), none, .q (.mv (.t 2))⟩,
 ⟨(some 46), none, .c (.call 99 [(.t 43), (.t 44), (.t 45)])⟩,
 ⟨(some 42), none, .q (.mv (.t 46))⟩,
 ⟨(some 47), none, .q (.ext (.t 42) 0)⟩,
 ⟨(some 48), none, .q (.ext (.t 42) 1)⟩,
 ⟨(some 11), none, .q (.mv (.t 47))⟩,
 ⟨(some 12), none, .q (.mv (.t 48))⟩])
 (.seq (.seq (.reg [⟨(some 49), none, .q (.mv (.t 12))⟩,
 ⟨(some 50), none, .q (.bin .eql (.t 49) (.c (.int .i64 2)))⟩])
 (.cond (.t 50)
 (.seq (.reg [⟨(some 51), none, .q (.mv (.t 0))⟩,
 ⟨(some 52), none, .q (.mv (.t 1))⟩,
 ⟨(some 53), none, .q (.mv (.t 2))⟩,
 ⟨(some 54), none, .c (.call 100 [(.t 51), (.t 52), (.t 53)])⟩])
 (.seq (.reg [⟨(some 55), none, .q (.mv (.t 2))⟩,
 ⟨(some 56), none, .q (.bin .sub (.t 55) (.c (.int .i64 1)))⟩,
 ⟨(some 57), none, .q (.mv (.t 11))⟩,
 ⟨(some 58), none, .q (.mv (.t 1))⟩,
 ⟨(some 59), none, .q (.bin .sub (.t 57) (.t 58))⟩,
 ⟨(some 60), none, .q (.bin .sub (.t 56) (.t 59))⟩,
 ⟨(some 11), none, .q (.mv (.t 60))⟩])
 (.reg [⟨(some 12), none, .q (.mv (.c (.int .i64 1)))⟩])))
 .skip))
 (.seq (.seq (.reg [⟨(some 61), none, .q (.mv (.t 8))⟩,
 ⟨(some 62), none, .q (.mv (.t 61))⟩,
 ⟨(some 63), (some (62, true)), .q (.mv (.t 9))⟩,
 ⟨(some 64), none, .q (.pick (.t 62) (.t 63) (.c (.bool false)))⟩,
 ⟨(some 65), none, .q (.mv (.t 64))⟩,
 ⟨(some 66), (some (65, true)), .q (.mv (.t 12))⟩,
 ⟨(some 67), (some (65, true)), .q (.bin .eql (.t 66) (.c (.int .i64 1)))⟩,
 ⟨(some 68), none, .q (.pick (.t 65) (.t 67) (.c (.bool false)))⟩])
 (.cond (.t 68)
 (.seq (.reg [⟨(some 69), none, .q (.mv (.t 0))⟩,
 ⟨(some 70), none, .q (.mv (.t 1))⟩,
 ⟨(some 71), none, .q (.mv (.t 2))⟩,
 ⟨(some 72), none, .c (.call 101 [(.t 69), (.t 70), (.t 71)])⟩])
 (.cond (.t 72)
 .ret
 .skip))
 .skip))
 (.seq (.seq (.sch (.take 0 ⟨(some 73), none, .q (.mv (.t 1))⟩ (.take 1 ⟨(some 74), none, .q (.bin .gtr (.t 73) (.c (.int .i64 0)))⟩ (.take 2 ⟨(some 75), none, .q (.mv (.t 74))⟩ (.take 3 ⟨(some 76), (some (75, true)), .q (.mv (.t 0))⟩ (.take 4 ⟨(some 77), (some (75, true)), .q (.mv (.t 1))⟩ (.take 5 ⟨(some 78), (some (75, true)), .q (.bin .sub (.t 77) (.c (.int .i64 1)))⟩ (.take 6 ⟨(some 79), (some (75, true)), .q (.ixs 1 (.t 76) (.t 78))⟩ (.take 7 ⟨(some 80), (some (75, true)), .q (.ld false 1 (.t 79))⟩ (.take 8 ⟨(some 81), (some (75, true)), .q (.mv (.t 0))⟩ (.take 9 ⟨(some 82), (some (75, true)), .q (.mv (.t 11))⟩ (.take 10 ⟨(some 83), (some (75, true)), .q (.ixs 1 (.t 81) (.t 82))⟩ (.take 11 ⟨(some 84), (some (75, true)), .q (.ld false 1 (.t 83))⟩ (.one ⟨(some 85), (some (75, true)), .c (.call 102 [(.t 80), (.t 84)])⟩ [11, 7] (.take 13 ⟨(some 86), (some (75, true)), .q (.un .not (.t 85))⟩ (.take 14 ⟨(some 87), none, .q (.pick (.t 75) (.t 86) (.c (.bool false)))⟩ .done))))))))))))))))
 (.cond (.t 87)
 (.seq (.reg [⟨(some 88), none, .q (.mv (.t 0))⟩,
 ⟨(some 89), none, .q (.mv (.t 1))⟩,
 ⟨(some 90), none, .q (.mv (.t 2))⟩,
 ⟨(some 91), none, .q (.mv (.t 11))⟩,
 ⟨(some 92), none, .c (.call 103 [(.t 88), (.t 89), (.t 90), (.t 91)])⟩,
 ⟨(some 13), none, .q (.mv (.t 92))⟩])
 (.seq (.reg [⟨(some 93), none, .q (.mv (.t 13))⟩,
 ⟨(some 1), none, .q (.mv (.t 93))⟩])
 (.exit 1)))
 .skip))
 (.seq (.reg [⟨(some 95), none, .q (.mv (.t 0))⟩,
 ⟨(some 96), none, .q (.mv (.t 1))⟩,
 ⟨(some 97), none, .q (.mv (.t 2))⟩,
 ⟨(some 98), none, .q (.mv (.t 11))⟩,
 ⟨(some 99), none, .c (.call 104 [(.t 95), (.t 96), (.t 97), (.t 98)])⟩,
 ⟨(some 94), none, .q (.mv (.t 99))⟩,
 ⟨(some 100), none, .q (.ext (.t 94) 0)⟩,
 ⟨(some 101), none, .q (.ext (.t 94) 1)⟩,
 ⟨(some 14), none, .q (.mv (.t 100))⟩,
 ⟨(some 15), none, .q (.mv (.t 101))⟩])
 (.seq (.reg [⟨(some 102), none, .q (.mv (.t 15))⟩,
 ⟨(some 9), none, .q (.mv (.t 102))⟩])
 (.seq (.reg [⟨(some 103), none, .q (.mv (.t 14))⟩,
 ⟨(some 104), none, .q (.mv (.t 1))⟩,
 ⟨(some 105), none, .q (.bin .sub (.t 103) (.t 104))⟩,
 ⟨(some 106), none, .q (.mv (.t 2))⟩,
 ⟨(some 107), none, .q (.mv (.t 14))⟩,
 ⟨(some 108), none, .q (.bin .sub (.t 106) (.t 107))⟩,
 ⟨(some 16), none, .q (.mv (.t 105))⟩,
 ⟨(some 17), none, .q (.mv (.t 108))⟩])
 (.seq (.reg [⟨(some 109), none, .q (.mv (.t 10))⟩,
 ⟨(some 110), none, .q (.bin .quo (.t 109) (.c (.int .i64 8)))⟩,
 ⟨(some 18), none, .q (.mv (.t 110))⟩])
 (.seq (.reg [⟨(some 111), none, .q (.mv (.t 16))⟩,
 ⟨(some 112), none, .q (.mv (.t 17))⟩,
 ⟨(some 113), none, .q (.bin .lss (.t 111) (.t 112))⟩])
 (.cond (.t 113)
 (.seq (.reg [⟨(some 114), none, .q (.mv (.t 16))⟩,
 ⟨(some 115), none, .q (.mv (.t 18))⟩,
 ⟨(some 116), none, .q (.bin .geq (.t 114) (.t 115))⟩,
 ⟨(some 8), none, .q (.mv (.t 116))⟩])
 (.seq (.reg [⟨(some 117), none, .q (.mv (.t 0))⟩,
 ⟨(some 118), none, .q (.mv (.t 1))⟩,
 ⟨(some 119), none, .q (.mv (.t 14))⟩,
 ⟨(some 120), none, .q (.mv (.t 3))⟩,
 ⟨(some 121), none, .c (.call 87 [(.t 117), (.t 118), (.t 119), (.t 120)])⟩])
 (.reg [⟨(some 122), none, .q (.mv (.t 14))⟩,
 ⟨(some 123), none, .q (.bin .add (.t 122) (.c (.int .i64 1)))⟩,
 ⟨(some 1), none, .q (.mv (.t 123))⟩])))
 (.seq (.reg [⟨(some 124), none, .q (.mv (.t 17))⟩,
 ⟨(some 125), none, .q (.mv (.t 18))⟩,
 ⟨(some 126), none, .q (.bin .geq (.t 124) (.t 125))⟩,
 ⟨(some 8), none, .q (.mv (.t 126))⟩])
 (.seq (.reg [⟨(some 127), none, .q (.mv (.t 0))⟩,
 ⟨(some 128), none, .q (.mv (.t 14))⟩,
 ⟨(some 129), none, .q (.bin .add (.t 128) (.c (.int .i64 1)))⟩,
 ⟨(some 130), none, .q (.mv (.t 2))⟩,
 ⟨(some 131), none, .q (.mv (.t 3))⟩,
 ⟨(some 132), none, .c (.call 87 [(.t 127), (.t 129), (.t 130), (.t 131)])⟩])
 (.reg [⟨(some 133), none, .q (.mv (.t 14))⟩,
 ⟨(some 2), none, .q (.mv (.t 133))⟩]))))))))))))))))))))))⟩
theorem l_slices_pdqsortOrdered_int64_ : lowF PA f_slices_pdqsortOrdered_int64_ 4 [.k [0, 1, 2, 3, 8, 9, 134], .s (.take 0 (.take 1 (.take 2 (.take 3 (.take 4 (.take 5 (.take 6 (.take 7 (.take 8 (.take 9 (.take 10 (.take 11 (.one 12 (.take 13 (.take 14 .done)))))))))))))))] = some c_slices_pdqsortOrdered_int64_ := by kernel_rfl
abbrev f_math_bits_Len : FuncId := 88
def c_math_bits_Len : AF := ⟨1, 8, [.t 2],
 (.seq (.reg [⟨(some 2), none, .q (.mv (.c (.int .i64 0)))⟩])
 (.seq (.cond (.c (.bool false))
 (.seq (.reg [⟨(some 3), none, .q (.mv (.t 0))⟩,
 ⟨(some 4), none, .q (.cvt .u32 (.t 3))⟩,
 ⟨(some 5), none, .c (.call 105 [(.t 4)])⟩,
 ⟨(some 2), none, .q (.mv (.t 5))⟩])
 .ret)
 .skip)
 (.seq (.reg [⟨(some 6), none, .q (.mv (.t 0))⟩,
 ⟨(some 7), none, .c (.call 106 [(.t 6)])⟩,
 ⟨(some 2), none, .q (.mv (.t 7))⟩])
 .ret)))⟩
theorem l_math_bits_Len : lowF PA f_math_bits_Len 1 [] = some c_math_bits_Len := by kernel_rfl
abbrev f_spec_l01Digits : FuncId := 89
def c_spec_l01Digits : AF := ⟨2, 37, [.t 4],
 (.seq (.reg [⟨(some 2), none, .m (.box (.t 0))⟩,
 ⟨(some 4), none, .q (.mv (.c (.slice none 0 0)))⟩])
 (.seq (.reg [⟨(some 7), none, .q (.fad 0 (.t 2))⟩,
 ⟨(some 8), none, .q (.ld false 1 (.t 7))⟩,
 ⟨(some 9), none, .q (.len (.t 8))⟩,
 ⟨(some 10), none, .m (.mks 1 (.v (.int .i64 0)) 8 (.t 9) (.t 9))⟩,
 ⟨(some 5), none, .q (.mv (.t 10))⟩])
 (.seq (.seq (.reg [⟨(some 11), none, .q (.fad 0 (.t 2))⟩,
 ⟨(some 12), none, .q (.ld false 1 (.t 11))⟩,
 ⟨(some 13), none, .q (.len (.t 12))⟩,
 ⟨(some 14), none, .q (.bin .sub (.t 13) (.c (.int .i64 1)))⟩,
 ⟨(some 6), none, .q (.mv (.t 14))⟩])
 (.block 0 (.loop [1, 2, 5, 6] (.seq (.seq (.reg [⟨(some 15), none, .q (.mv (.t 6))⟩,
 ⟨(some 16), none, .q (.bin .geq (.t 15) (.c (.int .i64 0)))⟩])
 (.cond (.t 16)
 .skip
 (.exit 0)))
 (.seq (.block 1 (.seq (.reg [⟨(some 19), none, .q (.mv (.t 5))⟩,
 ⟨(some 20), none, .q (.mv (.t 6))⟩,
 ⟨(some 21), none, .q (.mv (.t 1))⟩,
 ⟨(some 22), none, .q (.fad 0 (.t 2))⟩,
 ⟨(some 23), none, .q (.ld false 1 (.t 22))⟩,
 ⟨(some 24), none, .q (.mv (.t 6))⟩,
 ⟨(some 25), none, .q (.ixs 1 (.t 23) (.t 24))⟩,
 ⟨(some 26), none, .q (.ld false 1 (.t 25))⟩,
 ⟨(some 27), none, .q (.bin .rem (.t 21) (.t 26))⟩,
 ⟨(some 28), none, .q (.ixs 1 (.t 19) (.t 20))⟩,
 ⟨none, none, .m (.st false 1 (.t 28) (.t 27))⟩])
 (.reg [⟨(some 29), none, .q (.mv (.t 1))⟩,
 ⟨(some 30), none, .q (.fad 0 (.t 2))⟩,
 ⟨(some 31), none, .q (.ld false 1 (.t 30))⟩,
 ⟨(some 32), none, .q (.mv (.t 6))⟩,
 ⟨(some 33), none, .q (.ixs 1 (.t 31) (.t 32))⟩,
 ⟨(some 34), none, .q (.ld false 1 (.t 33))⟩,
 ⟨(some 35), none, .q (.bin .quo (.t 29) (.t 34))⟩,
 ⟨(some 1), none, .q (.mv (.t 35))⟩])))
 (.reg [⟨(some 17), none, .q (.mv (.t 6))⟩,
 ⟨(some 18), none, .q (.bin .sub (.t 17) (.c (.int .i64 1)))⟩,
 ⟨(some 6), none, .q (.mv (.t 18))⟩]))))))
 (.seq (.reg [⟨(some 36), none, .q (.mv (.t 5))⟩,
 ⟨(some 4), none, .q (.mv (.t 36))⟩])
 .ret))))⟩
theorem l_spec_l01Digits : lowF PA f_spec_l01Digits 2 [.k [1, 2, 5, 6]] = some c_spec_l01Digits := by kernel_rfl
abbrev f_spec_l01Put : FuncId := 90
def c_spec_l01Put : AF := ⟨2, 46, [.t 4],
 (.seq (.reg [⟨(some 4), none, .q (.mv (.c (.slice none 0 0)))⟩])
 (.seq (.reg [⟨(some 7), none, .q (.mv (.t 0))⟩,
 ⟨(some 8), none, .q (.len (.t 7))⟩,
 ⟨(some 5), none, .q (.mv (.t 8))⟩])
 (.seq (.block 0 (.loop [0, 1, 5] (.seq (.seq (.reg [⟨(some 9), none, .q (.mv (.t 5))⟩,
 ⟨(some 10), none, .q (.bin .gtr (.t 9) (.c (.int .i64 0)))⟩,
 ⟨(some 11), none, .q (.mv (.t 10))⟩,
 ⟨(some 12), (some (11, true)), .q (.mv (.t 0))⟩,
 ⟨(some 13), (some (11, true)), .q (.mv (.t 5))⟩,
 ⟨(some 14), (some (11, true)), .q (.bin .sub (.t 13) (.c (.int .i64 1)))⟩,
 ⟨(some 15), (some (11, true)), .q (.ixs 1 (.t 12) (.t 14))⟩,
 ⟨(some 16), (some (11, true)), .q (.ld false 1 (.t 15))⟩,
 ⟨(some 17), (some (11, true)), .q (.mv (.t 1))⟩,
 ⟨(some 18), (some (11, true)), .q (.bin .gtr (.t 16) (.t 17))⟩,
 ⟨(some 19), none, .q (.pick (.t 11) (.t 18) (.c (.bool false)))⟩])
 (.cond (.t 19)
 .skip
 (.exit 0)))
 (.block 1 (.reg [⟨(some 20), none, .q (.mv (.t 5))⟩,
 ⟨(some 21), none, .q (.bin .sub (.t 20) (.c (.int .i64 1)))⟩,
 ⟨(some 5), none, .q (.mv (.t 21))⟩])))))
 (.seq (.seq (.reg [⟨(some 22), none, .q (.mv (.t 5))⟩,
 ⟨(some 23), none, .q (.bin .gtr (.t 22) (.c (.int .i64 0)))⟩,
 ⟨(some 24), none, .q (.mv (.t 23))⟩,
 ⟨(some 25), (some (24, true)), .q (.mv (.t 0))⟩,
 ⟨(some 26), (some (24, true)), .q (.mv (.t 5))⟩,
 ⟨(some 27), (some (24, true)), .q (.bin .sub (.t 26) (.c (.int .i64 1)))⟩,
 ⟨(some 28), (some (24, true)), .q (.ixs 1 (.t 25) (.t 27))⟩,
 ⟨(some 29), (some (24, true)), .q (.ld false 1 (.t 28))⟩,
 ⟨(some 30), (some (24, true)), .q (.mv (.t 1))⟩,
 ⟨(some 31), (some (24, true)), .q (.bin .eql (.t 29) (.t 30))⟩,
 ⟨(some 32), none, .q (.pick (.t 24) (.t 31) (.c (.bool false)))⟩])
 (.cond (.t 32)
 (.seq (.reg [⟨(some 33), none, .q (.mv (.t 0))⟩,
 ⟨(some 4), none, .q (.mv (.t 33))⟩])
 .ret)
 .skip))
 (.seq (.reg [⟨(some 34), none, .q (.mv (.t 0))⟩,
 ⟨(some 35), none, .q (.mv (.t 5))⟩,
 ⟨(some 36), none, .q (.slc 1 (.t 34) none (some (.t 35)))⟩,
 ⟨(some 37), none, .c (.call 53 [(.t 36)])⟩,
 ⟨(some 38), none, .q (.mv (.t 1))⟩,
 ⟨(some 39), none, .m (.bsl 1 [(.t 38)])⟩,
 ⟨(some 40), none, .m (.app 1 8 (.t 37) (.t 39))⟩,
 ⟨(some 6), none, .q (.mv (.t 40))⟩])
 (.seq (.reg [⟨(some 41), none, .q (.mv (.t 6))⟩,
 ⟨(some 42), none, .q (.mv (.t 0))⟩,
 ⟨(some 43), none, .q (.mv (.t 5))⟩,
 ⟨(some 44), none, .q (.slc 1 (.t 42) (some (.t 43)) none)⟩,
 ⟨(some 45), none, .m (.app 1 8 (.t 41) (.t 44))⟩,
 ⟨(some 4), none, .q (.mv (.t 45))⟩])
 .ret))))))⟩
theorem l_spec_l01Put : lowF PA f_spec_l01Put 2 [.k [0, 1, 5]] = some c_spec_l01Put := by kernel_rfl
abbrev f_impl_wordCode : FuncId := 91
def c_impl_wordCode : AF := ⟨2, 14, [.t 4],
 (.seq (.reg [⟨(some 2), none, .m (.box (.t 0))⟩,
 ⟨(some 4), none, .q (.mv (.c (.int .i64 0)))⟩])
 (.seq (.block 0 (.seq (.reg [⟨(some 6), none, .q (.ld true 1 (.t 2))⟩,
 ⟨(some 7), none, .c (.call 59 [(.t 6)])⟩,
 ⟨(some 8), none, .q (.un .not (.t 7))⟩,
 ⟨(some 5), none, .q (.mv (.t 8))⟩])
 (.cond (.t 5)
 (.seq (.reg [⟨(some 4), none, .q (.mv (.c (.int .i64 1)))⟩])
 .ret)
 (.seq (.reg [⟨(some 10), none, .q (.ld true 1 (.t 2))⟩,
 ⟨(some 11), none, .q (.mv (.t 1))⟩,
 ⟨(some 12), none, .c (.call 107 [(.t 10), (.t 11)])⟩,
 ⟨(some 13), none, .q (.un .not (.t 12))⟩,
 ⟨(some 9), none, .q (.mv (.t 13))⟩])
 (.cond (.t 9)
 (.seq (.reg [⟨(some 4), none, .q (.mv (.c (.int .i64 2)))⟩])
 .ret)
 .skip)))))
 (.seq (.reg [⟨(some 4), none, .q (.mv (.c (.int .i64 0)))⟩])
 .ret)))⟩
theorem l_impl_wordCode : lowF PA f_impl_wordCode 2 [] = some c_impl_wordCode := by kernel_rfl
abbrev f_impl_isCode : FuncId := 92
def c_impl_isCode : AF := ⟨2, 33, [.t 4],
 (.seq (.reg [⟨(some 2), none, .m (.box (.t 0))⟩,
 ⟨(some 4), none, .q (.mv (.c (.bool false)))⟩])
 (.seq (.seq (.reg [⟨(some 6), none, .q (.mv (.t 1))⟩,
 ⟨(some 7), none, .q (.len (.t 6))⟩,
 ⟨(some 8), none, .q (.ld true 1 (.t 2))⟩,
 ⟨(some 9), none, .c (.call 38 [(.t 8)])⟩,
 ⟨(some 10), none, .q (.bin .gtr (.t 7) (.t 9))⟩,
 ⟨(some 11), none, .q (.mv (.t 10))⟩,
 ⟨(some 12), (some (11, false)), .q (.ld true 1 (.t 2))⟩,
 ⟨(some 13), (some (11, false)), .q (.mv (.t 1))⟩,
 ⟨(some 14), (some (11, false)), .c (.call 107 [(.t 12), (.t 13)])⟩,
 ⟨(some 15), (some (11, false)), .q (.un .not (.t 14))⟩,
 ⟨(some 16), none, .q (.pick (.t 11) (.c (.bool true)) (.t 15))⟩])
 (.cond (.t 16)
 (.seq (.reg [⟨(some 4), none, .q (.mv (.c (.bool false)))⟩])
 .ret)
 .skip))
 (.seq (.seq (.reg [⟨(some 5), none, .q (.mv (.c (.int .i64 1)))⟩])
 (.block 0 (.loop [1, 5] (.seq (.seq (.reg [⟨(some 17), none, .q (.mv (.t 5))⟩,
 ⟨(some 18), none, .q (.mv (.t 1))⟩,
 ⟨(some 19), none, .q (.len (.t 18))⟩,
 ⟨(some 20), none, .q (.bin .lss (.t 17) (.t 19))⟩])
 (.cond (.t 20)
 .skip
 (.exit 0)))
 (.seq (.block 1 (.seq (.sch (.take 0 ⟨(some 23), none, .q (.mv (.t 1))⟩ (.take 1 ⟨(some 24), none, .q (.mv (.t 5))⟩ (.take 2 ⟨(some 25), none, .q (.ixs 1 (.t 23) (.t 24))⟩ (.take 3 ⟨(some 26), none, .q (.ld false 1 (.t 25))⟩ (.take 4 ⟨(some 27), none, .q (.mv (.t 1))⟩ (.take 5 ⟨(some 28), none, .q (.mv (.t 5))⟩ (.take 6 ⟨(some 29), none, .q (.bin .sub (.t 28) (.c (.int .i64 1)))⟩ (.take 7 ⟨(some 30), none, .q (.ixs 1 (.t 27) (.t 29))⟩ (.take 8 ⟨(some 31), none, .q (.ld false 1 (.t 30))⟩ (.take 9 ⟨(some 32), none, .q (.bin .leq (.t 26) (.t 31))⟩ .done)))))))))))
 (.cond (.t 32)
 (.seq (.reg [⟨(some 4), none, .q (.mv (.c (.bool false)))⟩])
 .ret)
 .skip)))
 (.reg [⟨(some 21), none, .q (.mv (.t 5))⟩,
 ⟨(some 22), none, .q (.bin .add (.t 21) (.c (.int .i64 1)))⟩,
 ⟨(some 5), none, .q (.mv (.t 22))⟩]))))))
 (.seq (.reg [⟨(some 4), none, .q (.mv (.c (.bool true)))⟩])
 .ret))))⟩
theorem l_impl_isCode : lowF PA f_impl_isCode 2 [.k [1, 5], .s (.take 0 (.take 1 (.take 2 (.take 3 (.take 4 (.take 5 (.take 6 (.take 7 (.take 8 (.take 9 .done))))))))))] = some c_impl_isCode := by kernel_rfl
abbrev f_math_bits_Mul : FuncId := 93
def c_math_bits_Mul : AF := ⟨2, 30, [.t 4, .t 5],
 (.seq (.reg [⟨(some 4), none, .q (.mv (.c (.int .u64 0)))⟩,
 ⟨(some 5), none, .q (.mv (.c (.int .u64 0)))⟩])
 (.seq (.cond (.c (.bool false))
 (.seq (.reg [⟨(some 11), none, .q (.mv (.t 0))⟩,
 ⟨(some 12), none, .q (.cvt .u32 (.t 11))⟩,
 ⟨(some 13), none, .q (.mv (.t 1))⟩,
 ⟨(some 14), none, .q (.cvt .u32 (.t 13))⟩,
 ⟨(some 15), none, .c (.call 108 [(.t 12), (.t 14)])⟩,
 ⟨(some 10), none, .q (.mv (.t 15))⟩,
 ⟨(some 16), none, .q (.ext (.t 10) 0)⟩,
 ⟨(some 17), none, .q (.ext (.t 10) 1)⟩,
 ⟨(some 6), none, .q (.mv (.t 16))⟩,
 ⟨(some 7), none, .q (.mv (.t 17))⟩])
 (.seq (.reg [⟨(some 18), none, .q (.mv (.t 6))⟩,
 ⟨(some 19), none, .q (.cvt .u64 (.t 18))⟩,
 ⟨(some 20), none, .q (.mv (.t 7))⟩,
 ⟨(some 21), none, .q (.cvt .u64 (.t 20))⟩,
 ⟨(some 4), none, .q (.mv (.t 19))⟩,
 ⟨(some 5), none, .q (.mv (.t 21))⟩])
 .ret))
 .skip)
 (.seq (.reg [⟨(some 23), none, .q (.mv (.t 0))⟩,
 ⟨(some 24), none, .q (.mv (.t 1))⟩,
 ⟨(some 25), none, .c (.call 109 [(.t 23), (.t 24)])⟩,
 ⟨(some 22), none, .q (.mv (.t 25))⟩,
 ⟨(some 26), none, .q (.ext (.t 22) 0)⟩,
 ⟨(some 27), none, .q (.ext (.t 22) 1)⟩,
 ⟨(some 8), none, .q (.mv (.t 26))⟩,
 ⟨(some 9), none, .q (.mv (.t 27))⟩])
 (.seq (.reg [⟨(some 28), none, .q (.mv (.t 8))⟩,
 ⟨(some 29), none, .q (.mv (.t 9))⟩,
 ⟨(some 4), none, .q (.mv (.t 28))⟩,
 ⟨(some 5), none, .q (.mv (.t 29))⟩])
 .ret))))⟩
theorem l_math_bits_Mul : lowF PA f_math_bits_Mul 2 [] = some c_math_bits_Mul := by kernel_rfl
abbrev f_spec_l01Code : FuncId := 94
def c_spec_l01Code : AF := ⟨2, 37, [.t 4],
 (.seq (.reg [⟨(some 2), none, .m (.box (.t 0))⟩,
 ⟨(some 4), none, .q (.mv (.c (.bool false)))⟩])
 (.seq (.seq (.reg [⟨(some 5), none, .q (.mv (.c (.int .i64 0)))⟩])
 (.block 0 (.loop [1, 2, 5] (.seq (.seq (.reg [⟨(some 6), none, .q (.mv (.t 5))⟩,
 ⟨(some 7), none, .q (.mv (.t 1))⟩,
 ⟨(some 8), none, .q (.len (.t 7))⟩,
 ⟨(some 9), none, .q (.bin .lss (.t 6) (.t 8))⟩])
 (.cond (.t 9)
 .skip
 (.exit 0)))
 (.seq (.block 1 (.seq (.sch (.take 0 ⟨(some 12), none, .q (.mv (.t 1))⟩ (.take 1 ⟨(some 13), none, .q (.mv (.t 5))⟩ (.take 2 ⟨(some 14), none, .q (.ixs 1 (.t 12) (.t 13))⟩ (.take 3 ⟨(some 15), none, .q (.ld false 1 (.t 14))⟩ (.take 4 ⟨(some 16), none, .q (.ld true 1 (.t 2))⟩ (.one ⟨(some 17), none, .c (.call 36 [(.t 16)])⟩ [4] (.take 6 ⟨(some 18), none, .q (.bin .sub (.t 17) (.c (.int .i64 1)))⟩ (.one ⟨(some 19), none, .c (.call 68 [(.t 15), (.c (.int .i64 0)), (.t 18)])⟩ [3] (.take 8 ⟨(some 20), none, .q (.un .not (.t 19))⟩ (.take 9 ⟨(some 21), none, .q (.mv (.t 20))⟩ (.take 10 ⟨(some 22), (some (21, false)), .q (.mv (.t 5))⟩ (.take 11 ⟨(some 23), (some (21, false)), .q (.bin .gtr (.t 22) (.c (.int .i64 0)))⟩ (.take 12 ⟨(some 24), (some (21, false)), .q (.mv (.t 23))⟩ (.take 13 ⟨(some 25), (some (24, true)), .q (.mv (.t 1))⟩ (.take 14 ⟨(some 26), (some (24, true)), .q (.mv (.t 5))⟩ (.take 15 ⟨(some 27), (some (24, true)), .q (.ixs 1 (.t 25) (.t 26))⟩ (.take 16 ⟨(some 28), (some (24, true)), .q (.ld false 1 (.t 27))⟩ (.take 17 ⟨(some 29), (some (24, true)), .q (.mv (.t 1))⟩ (.take 18 ⟨(some 30), (some (24, true)), .q (.mv (.t 5))⟩ (.take 19 ⟨(some 31), (some (24, true)), .q (.bin .sub (.t 30) (.c (.int .i64 1)))⟩ (.take 20 ⟨(some 32), (some (24, true)), .q (.ixs 1 (.t 29) (.t 31))⟩ (.take 21 ⟨(some 33), (some (24, true)), .q (.ld false 1 (.t 32))⟩ (.take 22 ⟨(some 34), (some (24, true)), .q (.bin .leq (.t 28) (.t 33))⟩ (.take 23 ⟨(some 35), (some (21, false)), .q (.pick (.t 24) (.t 34) (.c (.bool false)))⟩ (.take 24 ⟨(some 36), none, .q (.pick (.t 21) (.c (.bool true)) (.t 35))⟩ .done))))))))))))))))))))))))))
 (.cond (.t 36)
 (.seq (.reg [⟨(some 4), none, .q (.mv (.c (.bool false)))⟩])
 .ret)
 .skip)))
 (.reg [⟨(some 10), none, .q (.mv (.t 5))⟩,
 ⟨(some 11), none, .q (.bin .add (.t 10) (.c (.int .i64 1)))⟩,
 ⟨(some 5), none, .q (.mv (.t 11))⟩]))))))
 (.seq (.reg [⟨(some 4), none, .q (.mv (.c (.bool true)))⟩])
 .ret)))⟩
theorem l_spec_l01Code : lowF PA f_spec_l01Code 2 [.k [1, 2, 5], .s (.take 0 (.take 1 (.take 2 (.take 3 (.take 4 (.one 5 (.take 6 (.one 7 (.take 8 (.take 9 (.take 10 (.take 11 (.take 12 (.take 13 (.take 14 (.take 15 (.take 16 (.take 17 (.take 18 (.take 19 (.take 20 (.take 21 (.take 22 (.take 23 (.take 24 .done)))))))))))))))))))))))))] = some c_spec_l01Code := by kernel_rfl
abbrev f_slices_Index___int64_int64_ : FuncId := 95
def c_slices_Index___int64_int64_ : AF := ⟨2, 19, [.t 4],
 (.seq (.reg [⟨(some 4), none, .q (.mv (.c (.int .i64 0)))⟩])
 (.seq (.seq (.reg [⟨(some 6), none, .q (.mv (.t 0))⟩,
 ⟨(some 7), none, .q (.len (.t 6))⟩,
 ⟨(some 8), none, .q (.mv (.c (.int .i64 0)))⟩])
 (.block 0 (.loop [0, 1, 7, 8] (.seq (.reg [⟨(some 9), none, .q (.bin .lss (.t 8) (.t 7))⟩])
 (.seq (.cond (.t 9)
 .skip
 (.exit 0))
 (.seq (.block 1 (.seq (.reg [⟨(some 10), none, .q (.mv (.t 8))⟩,
 ⟨(some 5), none, .q (.mv (.t 10))⟩])
 (.seq (.reg [⟨(some 11), none, .q (.mv (.t 1))⟩,
 ⟨(some 12), none, .q (.mv (.t 0))⟩,
 ⟨(some 13), none, .q (.mv (.t 5))⟩,
 ⟨(some 14), none, .q (.ixs 1 (.t 12) (.t 13))⟩,
 ⟨(some 15), none, .q (.ld false 1 (.t 14))⟩,
 ⟨(some 16), none, .q (.bin .eql (.t 11) (.t 15))⟩])
 (.cond (.t 16)
 (.seq (.reg [⟨(some 17), none, .q (.mv (.t 5))⟩,
 ⟨(some 4), none, .q (.mv (.t 17))⟩])
 .ret)
 .skip))))
 (.reg [⟨(some 18), none, .q (.bin .add (.t 8) (.c (.int .i64 1)))⟩,
 ⟨(some 8), none, .q (.mv (.t 18))⟩])))))))
 (.seq (.reg [⟨(some 4), none, .q (.mv (.c (.int .i64 (-1))))⟩])
 .ret)))⟩
theorem l_slices_Index___int64_int64_ : lowF PA f_slices_Index___int64_int64_ 2 [.k [0, 1, 7, 8]] = some c_slices_Index___int64_int64_ := by kernel_rfl
abbrev f_slices_insertionSortOrdered_int64_ : FuncId := 96
def c_slices_insertionSortOrdered_int64_ : AF := ⟨3, 49, [],
 (.seq (.reg [⟨(some 8), none, .q (.mv (.t 1))⟩,
 ⟨(some 9), none, .q (.bin .add (.t 8) (.c (.int .i64 1)))⟩,
 ⟨(some 6), none, .q (.mv (.t 9))⟩])
 (.block 0 (.loop [0, 1, 2, 6, 49] (.seq (.seq (.reg [⟨(some 10), none, .q (.mv (.t 6))⟩,
 ⟨(some 11), none, .q (.mv (.t 2))⟩,
 ⟨(some 12), none, .q (.bin .lss (.t 10) (.t 11))⟩])
 (.cond (.t 12)
 .skip
 (.exit 0)))
 (.seq (.block 1 (.seq (.reg [⟨(some 15), none, .q (.mv (.t 6))⟩,
 ⟨(some 7), none, .q (.mv (.t 15))⟩])
 (.block 2 (.loop [0, 1, 2, 6, 7, 49] (.seq (.seq (.sch (.take 0 ⟨(some 16), none, .q (.mv (.t 7))⟩ (.take 1 ⟨(some 17), none, .q (.mv (.t 1))⟩ (.take 2 ⟨(some 18), none, .q (.bin .gtr (.t 16) (.t 17))⟩ (.take 3 ⟨(some 19), none, .q (.mv (.t 18))⟩ (.take 4 ⟨(some 20), (some (19, true)), .q (.mv (.t 0))⟩ (.take 5 ⟨(some 21), (some (19, true)), .q (.mv (.t 7))⟩ (.take 6 ⟨(some 22), (some (19, true)), .q (.ixs 1 (.t 20) (.t 21))⟩ (.take 7 ⟨(some 23), (some (19, true)), .q (.ld false 1 (.t 22))⟩ (.take 8 ⟨(some 24), (some (19, true)), .q (.mv (.t 0))⟩ (.take 9 ⟨(some 25), (some (19, true)), .q (.mv (.t 7))⟩ (.take 10 ⟨(some 26), (some (19, true)), .q (.bin .sub (.t 25) (.c (.int .i64 1)))⟩ (.take 11 ⟨(some 27), (some (19, true)), .q (.ixs 1 (.t 24) (.t 26))⟩ (.take 12 ⟨(some 28), (some (19, true)), .q (.ld false 1 (.t 27))⟩ (.one ⟨(some 29), (some (19, true)), .c (.call 102 [(.t 23), (.t 28)])⟩ [12, 7] (.take 14 ⟨(some 30), none, .q (.pick (.t 19) (.t 29) (.c (.bool false)))⟩ .done))))))))))))))))
 (.cond (.t 30)
 .skip
 (.exit 2)))
 (.seq (.block 3 (.sch (.take 0 ⟨(some 33), none, .q (.mv (.t 0))⟩ (.take 1 ⟨(some 34), none, .q (.mv (.t 7))⟩ (.take 2 ⟨(some 35), none, .q (.mv (.t 0))⟩ (.take 3 ⟨(some 36), none, .q (.mv (.t 7))⟩ (.take 4 ⟨(some 37), none, .q (.bin .sub (.t 36) (.c (.int .i64 1)))⟩ (.take 5 ⟨(some 38), none, .q (.mv (.t 0))⟩ (.take 6 ⟨(some 39), none, .q (.mv (.t 7))⟩ (.take 7 ⟨(some 40), none, .q (.bin .sub (.t 39) (.c (.int .i64 1)))⟩ (.take 8 ⟨(some 41), none, .q (.ixs 1 (.t 38) (.t 40))⟩ (.take 9 ⟨(some 42), none, .q (.ld false 1 (.t 41))⟩ (.take 10 ⟨(some 43), none, .q (.mv (.t 0))⟩ (.take 11 ⟨(some 44), none, .q (.mv (.t 7))⟩ (.take 12 ⟨(some 45), none, .q (.ixs 1 (.t 43) (.t 44))⟩ (.take 13 ⟨(some 46), none, .q (.ld false 1 (.t 45))⟩ (.take 14 ⟨(some 47), none, .q (.ixs 1 (.t 33) (.t 34))⟩ (.one ⟨none, none, .m (.st false 1 (.t 47) (.t 42))⟩ [13, 9] (.take 16 ⟨(some 48), none, .q (.ixs 1 (.t 35) (.t 37))⟩ (.one ⟨none, none, .m (.st false 1 (.t 48) (.t 46))⟩ [13, 9] .done))))))))))))))))))))
 (.reg [⟨(some 31), none, .q (.mv (.t 7))⟩,
 ⟨(some 32), none, .q (.bin .sub (.t 31) (.c (.int .i64 1)))⟩,
 ⟨(some 7), none, .q (.mv (.t 32))⟩])))))))
 (.reg [⟨(some 13), none, .q (.mv (.t 6))⟩,
 ⟨(some 14), none, .q (.bin .add (.t 13) (.c (.int .i64 1)))⟩,
 ⟨(some 6), none, .q (.mv (.t 14))⟩]))))))⟩
theorem l_slices_insertionSortOrdered_int64_ : lowF PA f_slices_insertionSortOrdered_int64_ 3 [.k [0, 1, 2, 6, 49], .k [0, 1, 2, 6, 7, 49], .s (.take 0 (.take 1 (.take 2 (.take 3 (.take 4 (.take 5 (.take 6 (.take 7 (.take 8 (.take 9 (.take 10 (.take 11 (.take 12 (.one 13 (.take 14 .done))))))))))))))), .s (.take 0 (.take 1 (.take 2 (.take 3 (.take 4 (.take 5 (.take 6 (.take 7 (.take 8 (.take 9 (.take 10 (.take 11 (.take 12 (.take 13 (.take 14 (.one 15 (.take 16 (.one 17 .done))))))))))))))))))] = some c_slices_insertionSortOrdered_int64_ := by kernel_rfl
abbrev f_slices_heapSortOrdered_int64_ : FuncId := 97
abbrev f_slices_breakPatternsOrdered_int64_ : FuncId := 98
abbrev f_slices_choosePivotOrdered_int64_ : FuncId := 99
abbrev f_slices_reverseRangeOrdered_int64_ : FuncId := 100
abbrev f_slices_partialInsertionSortOrdered_int64_ : FuncId := 101
abbrev f_cmp_Less_int64_ : FuncId := 102
def c_cmp_Less_int64_ : AF := ⟨2, 17, [.t 4],
 (.seq (.reg [⟨(some 4), none, .q (.mv (.c (.bool false)))⟩])
 (.seq (.reg [⟨(some 5), none, .q (.mv (.t 0))⟩,
 ⟨(some 6), none, .c (.call 115 [(.t 5)])⟩,
 ⟨(some 7), none, .q (.mv (.t 6))⟩,
 ⟨(some 8), (some (7, true)), .q (.mv (.t 1))⟩,
 ⟨(some 9), (some (7, true)), .c (.call 115 [(.t 8)])⟩,
 ⟨(some 10), (some (7, true)), .q (.un .not (.t 9))⟩,
 ⟨(some 11), none, .q (.pick (.t 7) (.t 10) (.c (.bool false)))⟩,
 ⟨(some 12), none, .q (.mv (.t 11))⟩,
 ⟨(some 13), (some (12, false)), .q (.mv (.t 0))⟩,
 ⟨(some 14), (some (12, false)), .q (.mv (.t 1))⟩,
 ⟨(some 15), (some (12, false)), .q (.bin .lss (.t 13) (.t 14))⟩,
 ⟨(some 16), none, .q (.pick (.t 12) (.c (.bool true)) (.t 15))⟩,
 ⟨(some 4), none, .q (.mv (.t 16))⟩])
 .ret))⟩
theorem l_cmp_Less_int64_ : lowF PA f_cmp_Less_int64_ 2 [] = some c_cmp_Less_int64_ := by kernel_rfl
abbrev f_slices_partitionEqualOrdered_int64_ : FuncId := 103
abbrev f_slices_partitionOrdered_int64_ : FuncId := 104
abbrev f_math_bits_Len32 : FuncId := 105
abbrev f_math_bits_Len64 : FuncId := 106
def c_math_bits_Len64 : AF := ⟨1, 25, [.t 2],
 (.seq (.reg [⟨(some 2), none, .q (.mv (.c (.int .i64 0)))⟩])
 (.seq (.seq (.reg [⟨(some 3), none, .q (.mv (.t 0))⟩,
 ⟨(some 4), none, .q (.bin .geq (.t 3) (.c (.int .u64 4294967296)))⟩])
 (.cond (.t 4)
 (.seq (.reg [⟨(some 5), none, .q (.mv (.t 0))⟩,
 ⟨(some 6), none, .q (.bin .shr (.t 5) (.c (.int .u64 32)))⟩,
 ⟨(some 0), none, .q (.mv (.t 6))⟩])
 (.reg [⟨(some 2), none, .q (.mv (.c (.int .i64 32)))⟩]))
 .skip))
 (.seq (.seq (.reg [⟨(some 7), none, .q (.mv (.t 0))⟩,
 ⟨(some 8), none, .q (.bin .geq (.t 7) (.c (.int .u64 65536)))⟩])
 (.cond (.t 8)
 (.seq (.reg [⟨(some 9), none, .q (.mv (.t 0))⟩,
 ⟨(some 10), none, .q (.bin .shr (.t 9) (.c (.int .u64 16)))⟩,
 ⟨(some 0), none, .q (.mv (.t 10))⟩])
 (.reg [⟨(some 11), none, .q (.mv (.t 2))⟩,
 ⟨(some 12), none, .q (.bin .add (.t 11) (.c (.int .i64 16)))⟩,
 ⟨(some 2), none, .q (.mv (.t 12))⟩]))
 .skip))
 (.seq (.seq (.reg [⟨(some 13), none, .q (.mv (.t 0))⟩,
 ⟨(some 14), none, .q (.bin .geq (.t 13) (.c (.int .u64 256)))⟩])
 (.cond (.t 14)
 (.seq (.reg [⟨(some 15), none, .q (.mv (.t 0))⟩,
 ⟨(some 16), none, .q (.bin .shr (.t 15) (.c (.int .u64 8)))⟩,
 ⟨(some 0), none, .q (.mv (.t 16))⟩])
 (.reg [⟨(some 17), none, .q (.mv (.t 2))⟩,
 ⟨(some 18), none, .q (.bin .add (.t 17) (.c (.int .i64 8)))⟩,
 ⟨(some 2), none, .q (.mv (.t 18))⟩]))
 .skip))
 (.seq (.reg [⟨(some 19), none, .q (.mv (.t 2))⟩,
 ⟨(some 20), none, .q (.mv (.t 0))⟩,
 ⟨(some 21), none, .q (.cvt .u8 (.t 20))⟩,
 ⟨(some 22), none, .q (.ixt (.c (.string ⟨#[0, 1, 2, 2, 3, 3, 3, 3, 4, 4, 4, 4, 4, 4, 4, 4, 5, 5, 5, 5, 5, 5, 5, 5, 5, 5, 5, 5, 5, 5, 5, 5, 6, 6, 6, 6, 6, 6, 6, 6, 6, 6, 6, 6, 6, 6, 6, 6, 6, 6, 6, 6, 6, 6, 6, 6, 6, 6, 6, 6, 6, 6, 6, 6, 7, 7, 7, 7, 7, 7, 7, 7, 7, 7, 7, 7, 7, 7, 7, 7, 7, 7, 7, 7, 7, 7, 7, 7, 7, 7, 7, 7, 7, 7, 7, 7, 7, 7, 7, 7, 7, 7, 7, 7, 7, 7, 7, 7, 7, 7, 7, 7, 7, 7, 7, 7, 7, 7, 7, 7, 7, 7, 7, 7, 7, 7, 7, 7, 8, 8, 8, 8, 8, 8, 8, 8, 8, 8, 8, 8, 8, 8, 8, 8, 8, 8, 8, 8, 8, 8, 8, 8, 8, 8, 8, 8, 8, 8, 8, 8, 8, 8, 8, 8, 8, 8, 8, 8, 8, 8, 8, 8, 8, 8, 8, 8, 8, 8, 8, 8, 8, 8, 8, 8, 8, 8, 8, 8, 8, 8, 8, 8, 8, 8, 8, 8, 8, 8, 8, 8, 8, 8, 8, 8, 8, 8, 8, 8, 8, 8, 8, 8, 8, 8, 8, 8, 8, 8, 8, 8, 8, 8, 8, 8, 8, 8, 8, 8, 8, 8, 8, 8, 8, 8, 8, 8, 8, 8, 8, 8, 8, 8, 8, 8, 8, 8, 8, 8, 8, 8, 8, 8, 8, 8, 8, 8]⟩)) (.t 21))⟩,
 ⟨(some 23), none, .q (.cvt .i64 (.t 22))⟩,
 ⟨(some 24), none, .q (.bin .add (.t 19) (.t 23))⟩,
 ⟨(some 2), none, .q (.mv (.t 24))⟩])
 .ret)))))⟩
theorem l_math_bits_Len64 : lowF PA f_math_bits_Len64 1 [] = some c_math_bits_Len64 := by kernel_rfl
abbrev f_impl_areWords : FuncId := 107
def c_impl_areWords : AF := ⟨2, 24, [.t 4],
 (.seq (.reg [⟨(some 2), none, .m (.box (.t 0))⟩,
 ⟨(some 4), none, .q (.mv (.c (.bool false)))⟩])
 (.seq (.reg [⟨(some 8), none, .q (.ld true 1 (.t 2))⟩,
 ⟨(some 9), none, .c (.call 38 [(.t 8)])⟩,
 ⟨(some 5), none, .q (.mv (.t 9))⟩])
 (.seq (.seq (.reg [⟨(some 10), none, .q (.mv (.t 1))⟩,
 ⟨(some 11), none, .q (.len (.t 10))⟩,
 ⟨(some 12), none, .q (.mv (.c (.int .i64 0)))⟩])
 (.block 0 (.loop [5, 10, 11, 12] (.seq (.reg [⟨(some 13), none, .q (.bin .lss (.t 12) (.t 11))⟩])
 (.seq (.cond (.t 13)
 .skip
 (.exit 0))
 (.seq (.block 1 (.seq (.reg [⟨(some 14), none, .q (.ixs 1 (.t 10) (.t 12))⟩,
 ⟨(some 15), none, .q (.ld false 1 (.t 14))⟩,
 ⟨(some 7), none, .q (.mv (.t 15))⟩])
 (.seq (.reg [⟨(some 16), none, .q (.mv (.t 7))⟩,
 ⟨(some 17), none, .q (.bin .lss (.t 16) (.c (.int .i64 0)))⟩,
 ⟨(some 18), none, .q (.mv (.t 17))⟩,
 ⟨(some 19), (some (18, false)), .q (.mv (.t 7))⟩,
 ⟨(some 20), (some (18, false)), .q (.mv (.t 5))⟩,
 ⟨(some 21), (some (18, false)), .q (.bin .geq (.t 19) (.t 20))⟩,
 ⟨(some 22), none, .q (.pick (.t 18) (.c (.bool true)) (.t 21))⟩])
 (.cond (.t 22)
 (.seq (.reg [⟨(some 4), none, .q (.mv (.c (.bool false)))⟩])
 .ret)
 .skip))))
 (.reg [⟨(some 23), none, .q (.bin .add (.t 12) (.c (.int .i64 1)))⟩,
 ⟨(some 12), none, .q (.mv (.t 23))⟩])))))))
 (.seq (.reg [⟨(some 4), none, .q (.mv (.c (.bool true)))⟩])
 .ret))))⟩
theorem l_impl_areWords : lowF PA f_impl_areWords 2 [.k [5, 10, 11, 12]] = some c_impl_areWords := by kernel_rfl
abbrev f_math_bits_Mul32 : FuncId := 108
abbrev f_math_bits_Mul64 : FuncId := 109
def c_math_bits_Mul64 : AF := ⟨2, 51, [.t 4, .t 5],
 (.seq (.reg [⟨(some 4), none, .q (.mv (.c (.int .u64 0)))⟩,
 ⟨(some 5), none, .q (.mv (.c (.int .u64 0)))⟩])
 (.seq (.reg [⟨(some 14), none, .q (.mv (.t 0))⟩,
 ⟨(some 15), none, .q (.bin .and (.t 14) (.c (.int .u64 4294967295)))⟩,
 ⟨(some 6), none, .q (.mv (.t 15))⟩])
 (.seq (.reg [⟨(some 16), none, .q (.mv (.t 0))⟩,
 ⟨(some 17), none, .q (.bin .shr (.t 16) (.c (.int .u64 32)))⟩,
 ⟨(some 7), none, .q (.mv (.t 17))⟩])
 (.seq (.reg [⟨(some 18), none, .q (.mv (.t 1))⟩,
 ⟨(some 19), none, .q (.bin .and (.t 18) (.c (.int .u64 4294967295)))⟩,
 ⟨(some 8), none, .q (.mv (.t 19))⟩])
 (.seq (.reg [⟨(some 20), none, .q (.mv (.t 1))⟩,
 ⟨(some 21), none, .q (.bin .shr (.t 20) (.c (.int .u64 32)))⟩,
 ⟨(some 9), none, .q (.mv (.t 21))⟩])
 (.seq (.reg [⟨(some 22), none, .q (.mv (.t 6))⟩,
 ⟨(some 23), none, .q (.mv (.t 8))⟩,
 ⟨(some 24), none, .q (.bin .mul (.t 22) (.t 23))⟩,
 ⟨(some 10), none, .q (.mv (.t 24))⟩])
 (.seq (.reg [⟨(some 25), none, .q (.mv (.t 7))⟩,
 ⟨(some 26), none, .q (.mv (.t 8))⟩,
 ⟨(some 27), none, .q (.bin .mul (.t 25) (.t 26))⟩,
 ⟨(some 28), none, .q (.mv (.t 10))⟩,
 ⟨(some 29), none, .q (.bin .shr (.t 28) (.c (.int .u64 32)))⟩,
 ⟨(some 30), none, .q (.bin .add (.t 27) (.t 29))⟩,
 ⟨(some 11), none, .q (.mv (.t 30))⟩])
 (.seq (.reg [⟨(some 31), none, .q (.mv (.t 11))⟩,
 ⟨(some 32), none, .q (.bin .and (.t 31) (.c (.int .u64 4294967295)))⟩,
 ⟨(some 12), none, .q (.mv (.t 32))⟩])
 (.seq (.reg [⟨(some 33), none, .q (.mv (.t 11))⟩,
 ⟨(some 34), none, .q (.bin .shr (.t 33) (.c (.int .u64 32)))⟩,
 ⟨(some 13), none, .q (.mv (.t 34))⟩])
 (.seq (.reg [⟨(some 35), none, .q (.mv (.t 12))⟩,
 ⟨(some 36), none, .q (.mv (.t 6))⟩,
 ⟨(some 37), none, .q (.mv (.t 9))⟩,
 ⟨(some 38), none, .q (.bin .mul (.t 36) (.t 37))⟩,
 ⟨(some 39), none, .q (.bin .add (.t 35) (.t 38))⟩,
 ⟨(some 12), none, .q (.mv (.t 39))⟩])
 (.seq (.reg [⟨(some 40), none, .q (.mv (.t 7))⟩,
 ⟨(some 41), none, .q (.mv (.t 9))⟩,
 ⟨(some 42), none, .q (.bin .mul (.t 40) (.t 41))⟩,
 ⟨(some 43), none, .q (.mv (.t 13))⟩,
 ⟨(some 44), none, .q (.bin .add (.t 42) (.t 43))⟩,
 ⟨(some 45), none, .q (.mv (.t 12))⟩,
 ⟨(some 46), none, .q (.bin .shr (.t 45) (.c (.int .u64 32)))⟩,
 ⟨(some 47), none, .q (.bin .add (.t 44) (.t 46))⟩,
 ⟨(some 4), none, .q (.mv (.t 47))⟩])
 (.seq (.reg [⟨(some 48), none, .q (.mv (.t 0))⟩,
 ⟨(some 49), none, .q (.mv (.t 1))⟩,
 ⟨(some 50), none, .q (.bin .mul (.t 48) (.t 49))⟩,
 ⟨(some 5), none, .q (.mv (.t 50))⟩])
 .ret))))))))))))⟩
theorem l_math_bits_Mul64 : lowF PA f_math_bits_Mul64 2 [] = some c_math_bits_Mul64 := by kernel_rfl
abbrev f_slices_siftDownOrdered_int64_ : FuncId := 110
abbrev f_slices_nextPowerOfTwo : FuncId := 111
abbrev f___slices_xorshift__Next : FuncId := 112
abbrev f_slices_medianAdjacentOrdered_int64_ : FuncId := 113
abbrev f_slices_medianOrdered_int64_ : FuncId := 114
abbrev f_cmp_isNaN_int64_ : FuncId := 115
def c_cmp_isNaN_int64_ : AF := ⟨1, 6, [.t 2],
 (.seq (.reg [⟨(some 2), none, .q (.mv (.c (.bool false)))⟩])
 (.seq (.reg [⟨(some 3), none, .q (.mv (.t 0))⟩,
 ⟨(some 4), none, .q (.mv (.t 0))⟩,
 ⟨(some 5), none, .q (.bin .neq (.t 3) (.t 4))⟩,
 ⟨(some 2), none, .q (.mv (.t 5))⟩])
 .ret))⟩
theorem l_cmp_isNaN_int64_ : lowF PA f_cmp_isNaN_int64_ 1 [] = some c_cmp_isNaN_int64_ := by kernel_rfl
abbrev f_slices_order2Ordered_int64_ : FuncId := 116
end Go.Proofs.YtgmocipfgfnolaaGreatDoor.Va
