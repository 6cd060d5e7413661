/- The code of the functions that FnCoverCounts reaches, laid out for a walk: each is what the lowering makes of the program's own text. Condition: none. -/
import Derived.Shelf.SortM.Plain
import Derived.Test.YtfgjfjgkoabfjabVa2
import Derived.Test.YtfgjfjgkoabfjabProg
import Derived.KernelRfl
set_option linter.all false
set_option linter.unusedSimpArgs false
set_option linter.unusedVariables false
namespace Go.Proofs.Ytfgjfjgkoabfjab.Va
open Go
noncomputable abbrev PA : Program := Go.Proofs.Try.prog
abbrev f_laws_FnCoverCounts : FuncId := 3
def c_laws_FnCoverCounts : AF := ⟨1, 264, [.t 2],
 (.seq (.reg [⟨(some 2), none, .q (.mv (.c (.bool false)))⟩])
 (.seq (.seq (.reg [⟨(some 38), none, .q (.mv (.t 0))⟩,
 ⟨(some 39), none, .c (.call 4 [(.t 38)])⟩])
 (.cond (.t 39)
 (.seq (.reg [⟨(some 2), none, .q (.mv (.c (.bool true)))⟩])
 .ret)
 .skip))
 (.seq (.reg [⟨(some 41), none, .q (.mv (.t 0))⟩,
 ⟨(some 42), none, .c (.call 5 [(.t 41)])⟩,
 ⟨(some 40), none, .q (.mv (.t 42))⟩,
 ⟨(some 43), none, .q (.ext (.t 40) 0)⟩,
 ⟨(some 44), none, .q (.ext (.t 40) 1)⟩,
 ⟨(some 45), none, .q (.ext (.t 40) 2)⟩,
 ⟨(some 3), none, .m (.alloc [(.v (.slice none 0 0))])⟩,
 ⟨none, none, .m (.st true 1 (.t 3) (.t 43))⟩,
 ⟨(some 4), none, .q (.mv (.t 44))⟩,
 ⟨(some 5), none, .q (.mv (.t 45))⟩])
 (.seq (.reg [⟨(some 47), none, .q (.ld true 1 (.t 3))⟩,
 ⟨(some 48), none, .q (.mv (.t 4))⟩,
 ⟨(some 49), none, .q (.mv (.t 5))⟩,
 ⟨(some 50), none, .c (.call 6 [(.t 47), (.t 48), (.t 49)])⟩,
 ⟨(some 46), none, .q (.mv (.t 50))⟩,
 ⟨(some 51), none, .q (.ext (.t 46) 0)⟩,
 ⟨(some 52), none, .q (.ext (.t 46) 1)⟩,
 ⟨(some 6), none, .q (.mv (.t 51))⟩,
 ⟨(some 7), none, .q (.mv (.t 52))⟩])
 (.seq (.seq (.reg [⟨(some 54), none, .q (.ld true 1 (.t 3))⟩,
 ⟨(some 55), none, .q (.mv (.t 4))⟩,
 ⟨(some 56), none, .q (.mv (.t 5))⟩,
 ⟨(some 57), none, .c (.call 7 [(.t 54), (.t 55), (.t 56)])⟩,
 ⟨(some 53), none, .q (.mv (.t 57))⟩,
 ⟨(some 58), none, .q (.ext (.t 53) 0)⟩,
 ⟨(some 59), none, .q (.ext (.t 53) 1)⟩,
 ⟨(some 8), none, .q (.mv (.t 58))⟩,
 ⟨(some 9), none, .q (.mv (.t 59))⟩])
 (.seq (.reg [⟨(some 60), none, .q (.mv (.t 7))⟩,
 ⟨(some 61), none, .q (.mv (.t 9))⟩,
 ⟨(some 62), none, .q (.bin .neq (.t 60) (.t 61))⟩,
 ⟨(some 63), none, .q (.mv (.t 62))⟩,
 ⟨(some 64), (some (63, false)), .q (.mv (.t 6))⟩,
 ⟨(some 65), (some (63, false)), .q (.mv (.t 8))⟩,
 ⟨(some 66), (some (63, false)), .c (.call 8 [(.t 64), (.t 65)])⟩,
 ⟨(some 67), (some (63, false)), .q (.un .not (.t 66))⟩,
 ⟨(some 68), none, .q (.pick (.t 63) (.c (.bool true)) (.t 67))⟩])
 (.cond (.t 68)
 (.seq (.reg [⟨(some 2), none, .q (.mv (.c (.bool false)))⟩])
 .ret)
 .skip)))
 (.seq (.reg [⟨(some 70), none, .q (.ld true 1 (.t 3))⟩,
 ⟨(some 71), none, .q (.mv (.t 4))⟩,
 ⟨(some 72), none, .q (.mv (.t 5))⟩,
 ⟨(some 73), none, .c (.call 9 [(.t 70), (.t 71), (.t 72)])⟩,
 ⟨(some 69), none, .q (.mv (.t 73))⟩,
 ⟨(some 74), none, .q (.ext (.t 69) 0)⟩,
 ⟨(some 75), none, .q (.ext (.t 69) 1)⟩,
 ⟨(some 10), none, .q (.mv (.t 74))⟩,
 ⟨(some 11), none, .q (.mv (.t 75))⟩])
 (.seq (.seq (.reg [⟨(some 77), none, .q (.ld true 1 (.t 3))⟩,
 ⟨(some 78), none, .q (.mv (.t 4))⟩,
 ⟨(some 79), none, .q (.mv (.t 5))⟩,
 ⟨(some 80), none, .c (.call 10 [(.t 77), (.t 78), (.t 79)])⟩,
 ⟨(some 76), none, .q (.mv (.t 80))⟩,
 ⟨(some 81), none, .q (.ext (.t 76) 0)⟩,
 ⟨(some 82), none, .q (.ext (.t 76) 1)⟩,
 ⟨(some 12), none, .q (.mv (.t 81))⟩,
 ⟨(some 13), none, .q (.mv (.t 82))⟩])
 (.seq (.reg [⟨(some 83), none, .q (.mv (.t 11))⟩,
 ⟨(some 84), none, .q (.mv (.t 13))⟩,
 ⟨(some 85), none, .q (.bin .neq (.t 83) (.t 84))⟩,
 ⟨(some 86), none, .q (.mv (.t 85))⟩,
 ⟨(some 87), (some (86, false)), .q (.mv (.t 10))⟩,
 ⟨(some 88), (some (86, false)), .q (.mv (.t 12))⟩,
 ⟨(some 89), (some (86, false)), .q (.bin .neq (.t 87) (.t 88))⟩,
 ⟨(some 90), none, .q (.pick (.t 86) (.c (.bool true)) (.t 89))⟩])
 (.cond (.t 90)
 (.seq (.reg [⟨(some 2), none, .q (.mv (.c (.bool false)))⟩])
 .ret)
 .skip)))
 (.seq (.reg [⟨(some 92), none, .q (.mv (.t 0))⟩,
 ⟨(some 93), none, .c (.call 11 [(.t 92)])⟩,
 ⟨(some 91), none, .q (.mv (.t 93))⟩,
 ⟨(some 94), none, .q (.ext (.t 91) 0)⟩,
 ⟨(some 95), none, .q (.ext (.t 91) 1)⟩,
 ⟨(some 96), none, .q (.ext (.t 91) 2)⟩,
 ⟨(some 97), none, .q (.ext (.t 91) 3)⟩,
 ⟨(some 14), none, .m (.alloc [(.v (.slice none 0 0))])⟩,
 ⟨none, none, .m (.st true 1 (.t 14) (.t 94))⟩,
 ⟨(some 15), none, .q (.mv (.t 95))⟩,
 ⟨(some 16), none, .q (.mv (.t 96))⟩,
 ⟨(some 17), none, .q (.mv (.t 97))⟩])
 (.seq (.reg [⟨(some 99), none, .q (.ld true 1 (.t 14))⟩,
 ⟨(some 100), none, .q (.mv (.t 15))⟩,
 ⟨(some 101), none, .q (.mv (.t 16))⟩,
 ⟨(some 102), none, .q (.mv (.t 17))⟩,
 ⟨(some 103), none, .c (.call 12 [(.t 99), (.t 100), (.t 101), (.t 102)])⟩,
 ⟨(some 98), none, .q (.mv (.t 103))⟩,
 ⟨(some 104), none, .q (.ext (.t 98) 0)⟩,
 ⟨(some 105), none, .q (.ext (.t 98) 1)⟩,
 ⟨(some 18), none, .q (.mv (.t 104))⟩,
 ⟨(some 19), none, .q (.mv (.t 105))⟩])
 (.seq (.seq (.reg [⟨(some 107), none, .q (.ld true 1 (.t 14))⟩,
 ⟨(some 108), none, .q (.mv (.t 15))⟩,
 ⟨(some 109), none, .q (.mv (.t 16))⟩,
 ⟨(some 110), none, .q (.mv (.t 17))⟩,
 ⟨(some 111), none, .c (.call 13 [(.t 107), (.t 108), (.t 109), (.t 110)])⟩,
 ⟨(some 106), none, .q (.mv (.t 111))⟩,
 ⟨(some 112), none, .q (.ext (.t 106) 0)⟩,
 ⟨(some 113), none, .q (.ext (.t 106) 1)⟩,
 ⟨(some 20), none, .q (.mv (.t 112))⟩,
 ⟨(some 21), none, .q (.mv (.t 113))⟩])
 (.seq (.reg [⟨(some 114), none, .q (.mv (.t 19))⟩,
 ⟨(some 115), none, .q (.mv (.t 21))⟩,
 ⟨(some 116), none, .q (.bin .neq (.t 114) (.t 115))⟩,
 ⟨(some 117), none, .q (.mv (.t 116))⟩,
 ⟨(some 118), (some (117, false)), .q (.mv (.t 18))⟩,
 ⟨(some 119), (some (117, false)), .q (.mv (.t 20))⟩,
 ⟨(some 120), (some (117, false)), .q (.bin .neq (.t 118) (.t 119))⟩,
 ⟨(some 121), none, .q (.pick (.t 117) (.c (.bool true)) (.t 120))⟩])
 (.cond (.t 121)
 (.seq (.reg [⟨(some 2), none, .q (.mv (.c (.bool false)))⟩])
 .ret)
 .skip)))
 (.seq (.reg [⟨(some 123), none, .q (.mv (.t 0))⟩,
 ⟨(some 124), none, .c (.call 14 [(.t 123)])⟩,
 ⟨(some 122), none, .q (.mv (.t 124))⟩,
 ⟨(some 125), none, .q (.ext (.t 122) 0)⟩,
 ⟨(some 126), none, .q (.ext (.t 122) 1)⟩,
 ⟨(some 22), none, .m (.alloc [(.v (.slice none 0 0))])⟩,
 ⟨none, none, .m (.st true 1 (.t 22) (.t 125))⟩,
 ⟨(some 23), none, .q (.mv (.t 126))⟩])
 (.seq (.reg [⟨(some 128), none, .q (.ld true 1 (.t 22))⟩,
 ⟨(some 129), none, .q (.mv (.t 23))⟩,
 ⟨(some 130), none, .c (.call 15 [(.t 128), (.t 129)])⟩,
 ⟨(some 127), none, .q (.mv (.t 130))⟩,
 ⟨(some 131), none, .q (.ext (.t 127) 0)⟩,
 ⟨(some 132), none, .q (.ext (.t 127) 1)⟩,
 ⟨(some 24), none, .q (.mv (.t 131))⟩,
 ⟨(some 25), none, .q (.mv (.t 132))⟩])
 (.seq (.seq (.reg [⟨(some 134), none, .q (.ld true 1 (.t 22))⟩,
 ⟨(some 135), none, .q (.mv (.t 23))⟩,
 ⟨(some 136), none, .c (.call 16 [(.t 134), (.t 135)])⟩,
 ⟨(some 133), none, .q (.mv (.t 136))⟩,
 ⟨(some 137), none, .q (.ext (.t 133) 0)⟩,
 ⟨(some 138), none, .q (.ext (.t 133) 1)⟩,
 ⟨(some 26), none, .q (.mv (.t 137))⟩,
 ⟨(some 27), none, .q (.mv (.t 138))⟩])
 (.seq (.reg [⟨(some 139), none, .q (.mv (.t 25))⟩,
 ⟨(some 140), none, .q (.mv (.t 27))⟩,
 ⟨(some 141), none, .q (.bin .neq (.t 139) (.t 140))⟩,
 ⟨(some 142), none, .q (.mv (.t 141))⟩,
 ⟨(some 143), (some (142, false)), .q (.mv (.t 24))⟩,
 ⟨(some 144), (some (142, false)), .q (.mv (.t 26))⟩,
 ⟨(some 145), (some (142, false)), .c (.call 8 [(.t 143), (.t 144)])⟩,
 ⟨(some 146), (some (142, false)), .q (.un .not (.t 145))⟩,
 ⟨(some 147), none, .q (.pick (.t 142) (.c (.bool true)) (.t 146))⟩])
 (.cond (.t 147)
 (.seq (.reg [⟨(some 2), none, .q (.mv (.c (.bool false)))⟩])
 .ret)
 .skip)))
 (.seq (.seq (.reg [⟨(some 148), none, .q (.mv (.t 25))⟩,
 ⟨(some 149), none, .q (.bin .eql (.t 148) (.c (.int .i64 0)))⟩])
 (.cond (.t 149)
 (.seq (.reg [⟨(some 151), none, .q (.ld true 1 (.t 22))⟩,
 ⟨(some 152), none, .q (.mv (.t 24))⟩,
 ⟨(some 153), none, .q (.mv (.t 23))⟩,
 ⟨(some 154), none, .c (.call 17 [(.t 151), (.t 152), (.t 153)])⟩,
 ⟨(some 150), none, .q (.mv (.t 154))⟩,
 ⟨(some 155), none, .q (.ext (.t 150) 0)⟩,
 ⟨(some 156), none, .q (.ext (.t 150) 1)⟩,
 ⟨(some 28), none, .q (.mv (.t 155))⟩,
 ⟨(some 29), none, .q (.mv (.t 156))⟩])
 (.seq (.reg [⟨(some 158), none, .q (.ld true 1 (.t 22))⟩,
 ⟨(some 159), none, .q (.mv (.t 23))⟩,
 ⟨(some 160), none, .c (.call 18 [(.t 158), (.t 159)])⟩,
 ⟨(some 157), none, .q (.mv (.t 160))⟩,
 ⟨(some 161), none, .q (.ext (.t 157) 0)⟩,
 ⟨(some 162), none, .q (.ext (.t 157) 1)⟩,
 ⟨(some 30), none, .q (.mv (.t 161))⟩,
 ⟨(some 31), none, .q (.mv (.t 162))⟩])
 (.seq (.reg [⟨(some 163), none, .q (.mv (.t 29))⟩,
 ⟨(some 164), none, .q (.bin .neq (.t 163) (.c (.int .i64 0)))⟩,
 ⟨(some 165), none, .q (.mv (.t 164))⟩,
 ⟨(some 166), (some (165, false)), .q (.mv (.t 28))⟩,
 ⟨(some 167), (some (165, false)), .q (.un .not (.t 166))⟩,
 ⟨(some 168), none, .q (.pick (.t 165) (.c (.bool true)) (.t 167))⟩,
 ⟨(some 169), none, .q (.mv (.t 168))⟩,
 ⟨(some 170), (some (169, false)), .q (.mv (.t 31))⟩,
 ⟨(some 171), (some (169, false)), .q (.bin .neq (.t 170) (.c (.int .i64 0)))⟩,
 ⟨(some 172), none, .q (.pick (.t 169) (.c (.bool true)) (.t 171))⟩,
 ⟨(some 173), none, .q (.mv (.t 172))⟩,
 ⟨(some 174), (some (173, false)), .q (.mv (.t 24))⟩,
 ⟨(some 175), (some (173, false)), .q (.len (.t 174))⟩,
 ⟨(some 176), (some (173, false)), .q (.mv (.t 30))⟩,
 ⟨(some 177), (some (173, false)), .q (.bin .lss (.t 175) (.t 176))⟩,
 ⟨(some 178), none, .q (.pick (.t 173) (.c (.bool true)) (.t 177))⟩])
 (.cond (.t 178)
 (.seq (.reg [⟨(some 2), none, .q (.mv (.c (.bool false)))⟩])
 .ret)
 .skip))))
 .skip))
 (.seq (.seq (.reg [⟨(some 179), none, .q (.mv (.t 19))⟩,
 ⟨(some 180), none, .q (.bin .eql (.t 179) (.c (.int .i64 0)))⟩,
 ⟨(some 181), none, .q (.mv (.t 180))⟩,
 ⟨(some 182), (some (181, true)), .q (.mv (.t 18))⟩,
 ⟨(some 183), (some (181, true)), .q (.bin .lss (.t 182) (.c (.int .i64 0)))⟩,
 ⟨(some 184), (some (181, true)), .q (.mv (.t 183))⟩,
 ⟨(some 185), (some (184, false)), .q (.mv (.t 18))⟩,
 ⟨(some 186), (some (184, false)), .q (.mv (.t 15))⟩,
 ⟨(some 187), (some (184, false)), .q (.len (.t 186))⟩,
 ⟨(some 188), (some (184, false)), .q (.bin .gtr (.t 185) (.t 187))⟩,
 ⟨(some 189), (some (181, true)), .q (.pick (.t 184) (.c (.bool true)) (.t 188))⟩,
 ⟨(some 190), none, .q (.pick (.t 181) (.t 189) (.c (.bool false)))⟩])
 (.cond (.t 190)
 (.seq (.reg [⟨(some 2), none, .q (.mv (.c (.bool false)))⟩])
 .ret)
 .skip))
 (.seq (.seq (.reg [⟨(some 191), none, .q (.mv (.t 7))⟩,
 ⟨(some 192), none, .q (.bin .neq (.t 191) (.c (.int .i64 0)))⟩])
 (.cond (.t 192)
 (.seq (.reg [⟨(some 193), none, .q (.mv (.t 6))⟩,
 ⟨(some 194), none, .q (.len (.t 193))⟩,
 ⟨(some 195), none, .q (.bin .eql (.t 194) (.c (.int .i64 0)))⟩,
 ⟨(some 196), none, .q (.mv (.t 195))⟩,
 ⟨(some 197), (some (196, true)), .q (.mv (.t 11))⟩,
 ⟨(some 198), (some (196, true)), .q (.mv (.t 7))⟩,
 ⟨(some 199), (some (196, true)), .q (.bin .eql (.t 197) (.t 198))⟩,
 ⟨(some 200), none, .q (.pick (.t 196) (.t 199) (.c (.bool false)))⟩,
 ⟨(some 2), none, .q (.mv (.t 200))⟩])
 .ret)
 .skip))
 (.seq (.reg [⟨(some 202), none, .q (.ld true 1 (.t 3))⟩,
 ⟨(some 203), none, .c (.call 19 [(.t 202)])⟩,
 ⟨(some 201), none, .q (.mv (.t 203))⟩,
 ⟨(some 204), none, .q (.ext (.t 201) 0)⟩,
 ⟨(some 205), none, .q (.ext (.t 201) 1)⟩,
 ⟨(some 32), none, .q (.mv (.t 204))⟩,
 ⟨(some 33), none, .q (.mv (.t 205))⟩])
 (.seq (.reg [⟨(some 207), none, .q (.ld true 1 (.t 3))⟩,
 ⟨(some 208), none, .q (.mv (.t 5))⟩,
 ⟨(some 209), none, .c (.call 20 [(.t 207), (.t 208)])⟩,
 ⟨(some 206), none, .q (.mv (.t 209))⟩,
 ⟨(some 210), none, .q (.ext (.t 206) 0)⟩,
 ⟨(some 211), none, .q (.ext (.t 206) 1)⟩,
 ⟨(some 34), none, .q (.mv (.t 210))⟩,
 ⟨(some 35), none, .q (.mv (.t 211))⟩])
 (.seq (.reg [⟨(some 36), none, .q (.mv (.c (.int .i64 0)))⟩])
 (.seq (.seq (.reg [⟨(some 37), none, .q (.mv (.c (.int .i64 0)))⟩])
 (.block 0 (.loop [4, 6, 10, 11, 32, 33, 34, 35, 36, 37] (.seq (.seq (.reg [⟨(some 212), none, .q (.mv (.t 37))⟩,
 ⟨(some 213), none, .q (.mv (.t 6))⟩,
 ⟨(some 214), none, .q (.len (.t 213))⟩,
 ⟨(some 215), none, .q (.bin .lss (.t 212) (.t 214))⟩])
 (.cond (.t 215)
 .skip
 (.exit 0)))
 (.seq (.block 1 (.reg [⟨(some 218), none, .q (.mv (.t 36))⟩,
 ⟨(some 219), none, .q (.mv (.t 37))⟩,
 ⟨(some 220), none, .q (.mv (.t 6))⟩,
 ⟨(some 221), none, .q (.mv (.t 37))⟩,
 ⟨(some 222), none, .q (.ixs 1 (.t 220) (.t 221))⟩,
 ⟨(some 223), none, .q (.ld false 1 (.t 222))⟩,
 ⟨(some 224), none, .q (.bin .mul (.t 219) (.t 223))⟩,
 ⟨(some 225), none, .q (.bin .add (.t 218) (.t 224))⟩,
 ⟨(some 36), none, .q (.mv (.t 225))⟩]))
 (.reg [⟨(some 216), none, .q (.mv (.t 37))⟩,
 ⟨(some 217), none, .q (.bin .add (.t 216) (.c (.int .i64 1)))⟩,
 ⟨(some 37), none, .q (.mv (.t 217))⟩]))))))
 (.seq (.seq (.reg [⟨(some 226), none, .q (.mv (.t 33))⟩,
 ⟨(some 227), none, .q (.bin .neq (.t 226) (.c (.int .i64 0)))⟩,
 ⟨(some 228), none, .q (.mv (.t 227))⟩,
 ⟨(some 229), (some (228, false)), .q (.mv (.t 35))⟩,
 ⟨(some 230), (some (228, false)), .q (.bin .neq (.t 229) (.c (.int .i64 0)))⟩,
 ⟨(some 231), none, .q (.pick (.t 228) (.c (.bool true)) (.t 230))⟩,
 ⟨(some 232), none, .q (.mv (.t 231))⟩,
 ⟨(some 233), (some (232, false)), .q (.mv (.t 6))⟩,
 ⟨(some 234), (some (232, false)), .c (.call 21 [(.t 233)])⟩,
 ⟨(some 235), (some (232, false)), .q (.mv (.t 32))⟩,
 ⟨(some 236), (some (232, false)), .q (.bin .neq (.t 234) (.t 235))⟩,
 ⟨(some 237), none, .q (.pick (.t 232) (.c (.bool true)) (.t 236))⟩,
 ⟨(some 238), none, .q (.mv (.t 237))⟩,
 ⟨(some 239), (some (238, false)), .q (.mv (.t 36))⟩,
 ⟨(some 240), (some (238, false)), .q (.mv (.t 34))⟩,
 ⟨(some 241), (some (238, false)), .q (.mv (.t 4))⟩,
 ⟨(some 242), (some (238, false)), .q (.len (.t 241))⟩,
 ⟨(some 243), (some (238, false)), .q (.bin .mul (.t 240) (.t 242))⟩,
 ⟨(some 244), (some (238, false)), .q (.bin .neq (.t 239) (.t 243))⟩,
 ⟨(some 245), none, .q (.pick (.t 238) (.c (.bool true)) (.t 244))⟩])
 (.cond (.t 245)
 (.seq (.reg [⟨(some 2), none, .q (.mv (.c (.bool false)))⟩])
 .ret)
 .skip))
 (.seq (.reg [⟨(some 246), none, .q (.mv (.t 11))⟩,
 ⟨(some 247), none, .q (.bin .eql (.t 246) (.c (.int .i64 0)))⟩,
 ⟨(some 248), none, .q (.mv (.t 6))⟩,
 ⟨(some 249), none, .q (.ixs 1 (.t 248) (.c (.int .i64 0)))⟩,
 ⟨(some 250), none, .q (.ld false 1 (.t 249))⟩,
 ⟨(some 251), none, .q (.bin .eql (.t 250) (.c (.int .i64 0)))⟩,
 ⟨(some 252), none, .q (.eqb false (.t 247) (.t 251))⟩,
 ⟨(some 253), none, .q (.mv (.t 252))⟩,
 ⟨(some 254), (some (253, true)), .q (.mv (.t 11))⟩,
 ⟨(some 255), (some (253, true)), .q (.bin .neq (.t 254) (.c (.int .i64 0)))⟩,
 ⟨(some 256), (some (253, true)), .q (.mv (.t 255))⟩,
 ⟨(some 257), (some (256, false)), .q (.mv (.t 10))⟩,
 ⟨(some 258), (some (256, false)), .q (.mv (.t 36))⟩,
 ⟨(some 259), (some (256, false)), .q (.mv (.t 32))⟩,
 ⟨(some 260), (some (256, false)), .q (.bin .sub (.t 258) (.t 259))⟩,
 ⟨(some 261), (some (256, false)), .q (.bin .eql (.t 257) (.t 260))⟩,
 ⟨(some 262), (some (253, true)), .q (.pick (.t 256) (.c (.bool true)) (.t 261))⟩,
 ⟨(some 263), none, .q (.pick (.t 253) (.t 262) (.c (.bool false)))⟩,
 ⟨(some 2), none, .q (.mv (.t 263))⟩])
 .ret))))))))))))))))))))))⟩
theorem l_laws_FnCoverCounts : lowF PA f_laws_FnCoverCounts 1 [.k [4, 6, 10, 11, 32, 33, 34, 35, 36, 37]] = some c_laws_FnCoverCounts := by kernel_rfl
abbrev f_laws_big : FuncId := 4
def c_laws_big : AF := ⟨1, 6, [.t 2],
 (.seq (.reg [⟨(some 2), none, .q (.mv (.c (.bool false)))⟩])
 (.seq (.reg [⟨(some 3), none, .q (.mv (.t 0))⟩,
 ⟨(some 4), none, .q (.len (.t 3))⟩,
 ⟨(some 5), none, .q (.bin .gtr (.t 4) (.c (.int .i64 4096)))⟩,
 ⟨(some 2), none, .q (.mv (.t 5))⟩])
 .ret))⟩
theorem l_laws_big : lowF PA f_laws_big 1 [] = some c_laws_big := by kernel_rfl
abbrev f_spec_DrawCoverCounts : FuncId := 5
def c_spec_DrawCoverCounts : AF := ⟨1, 10, [.c 2 true 1, .t 3, .t 4],
 (.seq (.reg [⟨(some 2), none, .m (.alloc [(.v (.slice none 0 0))])⟩,
 ⟨(some 3), none, .q (.mv (.c (.slice none 0 0)))⟩,
 ⟨(some 4), none, .q (.mv (.c (.int .i64 0)))⟩])
 (.seq (.reg [⟨(some 5), none, .q (.mv (.t 0))⟩,
 ⟨(some 6), none, .c (.call 22 [(.t 5)])⟩,
 ⟨(some 7), none, .q (.ext (.t 6) 0)⟩,
 ⟨(some 8), none, .q (.ext (.t 6) 1)⟩,
 ⟨(some 9), none, .q (.ext (.t 6) 2)⟩,
 ⟨none, none, .m (.st true 1 (.t 2) (.t 7))⟩,
 ⟨(some 3), none, .q (.mv (.t 8))⟩,
 ⟨(some 4), none, .q (.mv (.t 9))⟩])
 .ret))⟩
theorem l_spec_DrawCoverCounts : lowF PA f_spec_DrawCoverCounts 1 [] = some c_spec_DrawCoverCounts := by kernel_rfl
abbrev f_impl_CoverCounts : FuncId := 6
def c_impl_CoverCounts : AF := ⟨3, 40, [.t 6, .t 7],
 (.seq (.reg [⟨(some 3), none, .m (.box (.t 0))⟩,
 ⟨(some 6), none, .q (.mv (.c (.slice none 0 0)))⟩,
 ⟨(some 7), none, .q (.mv (.c (.int .i64 0)))⟩])
 (.seq (.seq (.reg [⟨(some 12), none, .q (.ld true 1 (.t 3))⟩,
 ⟨(some 13), none, .q (.mv (.t 1))⟩,
 ⟨(some 14), none, .q (.mv (.t 2))⟩,
 ⟨(some 15), none, .c (.call 23 [(.t 12), (.t 13), (.t 14)])⟩,
 ⟨(some 8), none, .q (.mv (.t 15))⟩])
 (.seq (.reg [⟨(some 16), none, .q (.mv (.t 8))⟩,
 ⟨(some 17), none, .q (.bin .neq (.t 16) (.c (.int .i64 0)))⟩])
 (.cond (.t 17)
 (.seq (.reg [⟨(some 18), none, .q (.mv (.t 8))⟩,
 ⟨(some 6), none, .q (.mv (.c (.slice none 0 0)))⟩,
 ⟨(some 7), none, .q (.mv (.t 18))⟩])
 .ret)
 .skip)))
 (.seq (.reg [⟨(some 19), none, .q (.mv (.t 1))⟩,
 ⟨(some 20), none, .q (.len (.t 19))⟩,
 ⟨(some 21), none, .q (.bin .add (.t 20) (.c (.int .i64 1)))⟩,
 ⟨(some 22), none, .m (.mks 1 (.v (.int .i64 0)) 8 (.t 21) (.t 21))⟩,
 ⟨(some 9), none, .q (.mv (.t 22))⟩])
 (.seq (.seq (.reg [⟨(some 23), none, .q (.ld true 1 (.t 3))⟩,
 ⟨(some 24), none, .q (.mv (.t 1))⟩,
 ⟨(some 25), none, .q (.mv (.t 2))⟩,
 ⟨(some 26), none, .c (.call 24 [(.t 23), (.t 24), (.t 25)])⟩,
 ⟨(some 27), none, .q (.len (.t 26))⟩,
 ⟨(some 28), none, .q (.mv (.c (.int .i64 0)))⟩])
 (.block 0 (.loop [9, 26, 27, 28] (.seq (.reg [⟨(some 29), none, .q (.bin .lss (.t 28) (.t 27))⟩])
 (.seq (.cond (.t 29)
 .skip
 (.exit 0))
 (.seq (.block 1 (.seq (.reg [⟨(some 30), none, .q (.ixs 1 (.t 26) (.t 28))⟩,
 ⟨(some 31), none, .q (.ld false 1 (.t 30))⟩,
 ⟨(some 11), none, .q (.mv (.t 31))⟩])
 (.reg [⟨(some 32), none, .q (.mv (.t 9))⟩,
 ⟨(some 33), none, .q (.mv (.t 11))⟩,
 ⟨(some 34), none, .q (.ixs 1 (.t 32) (.t 33))⟩,
 ⟨(some 35), none, .q (.ld false 1 (.t 34))⟩,
 ⟨(some 36), none, .q (.bin .add (.t 35) (.c (.int .i64 1)))⟩,
 ⟨(some 37), none, .q (.ixs 1 (.t 32) (.t 33))⟩,
 ⟨none, none, .m (.st false 1 (.t 37) (.t 36))⟩])))
 (.reg [⟨(some 38), none, .q (.bin .add (.t 28) (.c (.int .i64 1)))⟩,
 ⟨(some 28), none, .q (.mv (.t 38))⟩])))))))
 (.seq (.reg [⟨(some 39), none, .q (.mv (.t 9))⟩,
 ⟨(some 6), none, .q (.mv (.t 39))⟩,
 ⟨(some 7), none, .q (.mv (.c (.int .i64 0)))⟩])
 .ret)))))⟩
theorem l_impl_CoverCounts : lowF PA f_impl_CoverCounts 3 [.k [9, 26, 27, 28]] = some c_impl_CoverCounts := by kernel_rfl
abbrev f_spec_CoverCounts : FuncId := 7
def c_spec_CoverCounts : AF := ⟨3, 43, [.t 6, .t 7],
 (.seq (.reg [⟨(some 3), none, .m (.box (.t 0))⟩,
 ⟨(some 6), none, .q (.mv (.c (.slice none 0 0)))⟩,
 ⟨(some 7), none, .q (.mv (.c (.int .i64 0)))⟩])
 (.seq (.seq (.reg [⟨(some 12), none, .q (.ld true 1 (.t 3))⟩,
 ⟨(some 13), none, .q (.mv (.t 1))⟩,
 ⟨(some 14), none, .q (.mv (.t 2))⟩,
 ⟨(some 15), none, .c (.call 25 [(.t 12), (.t 13), (.t 14)])⟩,
 ⟨(some 8), none, .q (.mv (.t 15))⟩])
 (.seq (.reg [⟨(some 16), none, .q (.mv (.t 8))⟩,
 ⟨(some 17), none, .q (.bin .neq (.t 16) (.c (.int .i64 0)))⟩])
 (.cond (.t 17)
 (.seq (.reg [⟨(some 18), none, .q (.mv (.t 8))⟩,
 ⟨(some 6), none, .q (.mv (.c (.slice none 0 0)))⟩,
 ⟨(some 7), none, .q (.mv (.t 18))⟩])
 .ret)
 .skip)))
 (.seq (.sch (.take 0 ⟨(some 19), none, .q (.ld true 1 (.t 3))⟩ (.take 1 ⟨(some 20), none, .q (.mv (.t 1))⟩ (.take 2 ⟨(some 21), none, .q (.mv (.t 2))⟩ (.take 4 ⟨(some 23), none, .q (.mv (.t 1))⟩ (.take 5 ⟨(some 24), none, .q (.len (.t 23))⟩ (.take 6 ⟨(some 25), none, .q (.bin .add (.t 24) (.c (.int .i64 1)))⟩ (.two ⟨(some 22), none, .c (.call 26 [(.t 19), (.t 20), (.t 21)])⟩ [0] (.take 8 ⟨(some 9), none, .q (.mv (.t 22))⟩ (.one ⟨(some 26), none, .m (.mks 1 (.v (.int .i64 0)) 8 (.t 25) (.t 25))⟩ [] (.take 9 ⟨(some 10), none, .q (.mv (.t 26))⟩ .done))) ⟨(some 26), none, .m (.mks 1 (.v (.int .i64 0)) 8 (.t 25) (.t 25))⟩ [] (.one ⟨(some 22), none, .c (.call 26 [(.t 19), (.t 20), (.t 21)])⟩ [0] (.take 8 ⟨(some 9), none, .q (.mv (.t 22))⟩ (.take 9 ⟨(some 10), none, .q (.mv (.t 26))⟩ .done)))))))))))
 (.seq (.seq (.reg [⟨(some 27), none, .q (.mv (.t 9))⟩,
 ⟨(some 28), none, .q (.len (.t 27))⟩,
 ⟨(some 29), none, .q (.mv (.c (.int .i64 0)))⟩])
 (.block 0 (.loop [9, 10, 28, 29] (.seq (.reg [⟨(some 30), none, .q (.bin .lss (.t 29) (.t 28))⟩])
 (.seq (.cond (.t 30)
 .skip
 (.exit 0))
 (.seq (.block 1 (.seq (.reg [⟨(some 31), none, .q (.mv (.t 29))⟩,
 ⟨(some 11), none, .q (.mv (.t 31))⟩])
 (.reg [⟨(some 32), none, .q (.mv (.t 10))⟩,
 ⟨(some 33), none, .q (.mv (.t 9))⟩,
 ⟨(some 34), none, .q (.mv (.t 11))⟩,
 ⟨(some 35), none, .q (.ixs 1 (.t 33) (.t 34))⟩,
 ⟨(some 36), none, .q (.ld false 1 (.t 35))⟩,
 ⟨(some 37), none, .q (.ixs 1 (.t 32) (.t 36))⟩,
 ⟨(some 38), none, .q (.ld false 1 (.t 37))⟩,
 ⟨(some 39), none, .q (.bin .add (.t 38) (.c (.int .i64 1)))⟩,
 ⟨(some 40), none, .q (.ixs 1 (.t 32) (.t 36))⟩,
 ⟨none, none, .m (.st false 1 (.t 40) (.t 39))⟩])))
 (.reg [⟨(some 41), none, .q (.bin .add (.t 29) (.c (.int .i64 1)))⟩,
 ⟨(some 29), none, .q (.mv (.t 41))⟩])))))))
 (.seq (.reg [⟨(some 42), none, .q (.mv (.t 10))⟩,
 ⟨(some 6), none, .q (.mv (.t 42))⟩,
 ⟨(some 7), none, .q (.mv (.c (.int .i64 0)))⟩])
 .ret)))))⟩
theorem l_spec_CoverCounts : lowF PA f_spec_CoverCounts 3 [.s (.take 0 (.take 1 (.take 2 (.take 4 (.take 5 (.take 6 (.two 3 (.take 8 (.one 7 (.take 9 .done))) 7 (.one 3 (.take 8 (.take 9 .done)))))))))), .k [9, 10, 28, 29]] = some c_spec_CoverCounts := by kernel_rfl
abbrev f_laws_likeInts : FuncId := 8
def c_laws_likeInts : AF := ⟨2, 26, [.t 4],
 (.seq (.reg [⟨(some 4), none, .q (.mv (.c (.bool false)))⟩])
 (.seq (.seq (.reg [⟨(some 6), none, .q (.mv (.t 0))⟩,
 ⟨(some 7), none, .q (.len (.t 6))⟩,
 ⟨(some 8), none, .q (.mv (.t 1))⟩,
 ⟨(some 9), none, .q (.len (.t 8))⟩,
 ⟨(some 10), none, .q (.bin .neq (.t 7) (.t 9))⟩])
 (.cond (.t 10)
 (.seq (.reg [⟨(some 4), none, .q (.mv (.c (.bool false)))⟩])
 .ret)
 .skip))
 (.seq (.seq (.reg [⟨(some 5), none, .q (.mv (.c (.int .i64 0)))⟩])
 (.block 0 (.loop [0, 1, 5] (.seq (.seq (.reg [⟨(some 11), none, .q (.mv (.t 5))⟩,
 ⟨(some 12), none, .q (.mv (.t 0))⟩,
 ⟨(some 13), none, .q (.len (.t 12))⟩,
 ⟨(some 14), none, .q (.bin .lss (.t 11) (.t 13))⟩])
 (.cond (.t 14)
 .skip
 (.exit 0)))
 (.seq (.block 1 (.seq (.sch (.take 0 ⟨(some 17), none, .q (.mv (.t 0))⟩ (.take 1 ⟨(some 18), none, .q (.mv (.t 5))⟩ (.take 2 ⟨(some 19), none, .q (.ixs 1 (.t 17) (.t 18))⟩ (.take 3 ⟨(some 20), none, .q (.ld false 1 (.t 19))⟩ (.take 4 ⟨(some 21), none, .q (.mv (.t 1))⟩ (.take 5 ⟨(some 22), none, .q (.mv (.t 5))⟩ (.take 6 ⟨(some 23), none, .q (.ixs 1 (.t 21) (.t 22))⟩ (.take 7 ⟨(some 24), none, .q (.ld false 1 (.t 23))⟩ (.take 8 ⟨(some 25), none, .q (.bin .neq (.t 20) (.t 24))⟩ .done))))))))))
 (.cond (.t 25)
 (.seq (.reg [⟨(some 4), none, .q (.mv (.c (.bool false)))⟩])
 .ret)
 .skip)))
 (.reg [⟨(some 15), none, .q (.mv (.t 5))⟩,
 ⟨(some 16), none, .q (.bin .add (.t 15) (.c (.int .i64 1)))⟩,
 ⟨(some 5), none, .q (.mv (.t 16))⟩]))))))
 (.seq (.reg [⟨(some 4), none, .q (.mv (.c (.bool true)))⟩])
 .ret))))⟩
theorem l_laws_likeInts : lowF PA f_laws_likeInts 2 [.k [0, 1, 5], .s (.take 0 (.take 1 (.take 2 (.take 3 (.take 4 (.take 5 (.take 6 (.take 7 (.take 8 .done)))))))))] = some c_laws_likeInts := by kernel_rfl
abbrev f_impl_ExcessOf : FuncId := 9
def c_impl_ExcessOf : AF := ⟨3, 36, [.t 6, .t 7],
 (.seq (.reg [⟨(some 3), none, .m (.box (.t 0))⟩,
 ⟨(some 6), none, .q (.mv (.c (.int .i64 0)))⟩,
 ⟨(some 7), none, .q (.mv (.c (.int .i64 0)))⟩])
 (.seq (.seq (.reg [⟨(some 12), none, .q (.ld true 1 (.t 3))⟩,
 ⟨(some 13), none, .q (.mv (.t 1))⟩,
 ⟨(some 14), none, .q (.mv (.t 2))⟩,
 ⟨(some 15), none, .c (.call 23 [(.t 12), (.t 13), (.t 14)])⟩,
 ⟨(some 8), none, .q (.mv (.t 15))⟩])
 (.seq (.reg [⟨(some 16), none, .q (.mv (.t 8))⟩,
 ⟨(some 17), none, .q (.bin .neq (.t 16) (.c (.int .i64 0)))⟩])
 (.cond (.t 17)
 (.seq (.reg [⟨(some 18), none, .q (.mv (.t 8))⟩,
 ⟨(some 6), none, .q (.mv (.c (.int .i64 0)))⟩,
 ⟨(some 7), none, .q (.mv (.t 18))⟩])
 .ret)
 .skip)))
 (.seq (.reg [⟨(some 9), none, .q (.mv (.c (.int .i64 0)))⟩])
 (.seq (.seq (.reg [⟨(some 19), none, .q (.ld true 1 (.t 3))⟩,
 ⟨(some 20), none, .q (.mv (.t 1))⟩,
 ⟨(some 21), none, .q (.mv (.t 2))⟩,
 ⟨(some 22), none, .c (.call 24 [(.t 19), (.t 20), (.t 21)])⟩,
 ⟨(some 23), none, .q (.len (.t 22))⟩,
 ⟨(some 24), none, .q (.mv (.c (.int .i64 0)))⟩])
 (.block 0 (.loop [9, 22, 23, 24] (.seq (.reg [⟨(some 25), none, .q (.bin .lss (.t 24) (.t 23))⟩])
 (.seq (.cond (.t 25)
 .skip
 (.exit 0))
 (.seq (.block 1 (.seq (.reg [⟨(some 26), none, .q (.ixs 1 (.t 22) (.t 24))⟩,
 ⟨(some 27), none, .q (.ld false 1 (.t 26))⟩,
 ⟨(some 11), none, .q (.mv (.t 27))⟩])
 (.seq (.seq (.reg [⟨(some 28), none, .q (.mv (.t 11))⟩,
 ⟨(some 29), none, .q (.bin .eql (.t 28) (.c (.int .i64 0)))⟩])
 (.cond (.t 29)
 (.seq (.reg [⟨(some 6), none, .q (.mv (.c (.int .i64 0)))⟩,
 ⟨(some 7), none, .q (.mv (.c (.int .i64 5)))⟩])
 .ret)
 .skip))
 (.reg [⟨(some 30), none, .q (.mv (.t 9))⟩,
 ⟨(some 31), none, .q (.mv (.t 11))⟩,
 ⟨(some 32), none, .q (.bin .sub (.t 31) (.c (.int .i64 1)))⟩,
 ⟨(some 33), none, .q (.bin .add (.t 30) (.t 32))⟩,
 ⟨(some 9), none, .q (.mv (.t 33))⟩]))))
 (.reg [⟨(some 34), none, .q (.bin .add (.t 24) (.c (.int .i64 1)))⟩,
 ⟨(some 24), none, .q (.mv (.t 34))⟩])))))))
 (.seq (.reg [⟨(some 35), none, .q (.mv (.t 9))⟩,
 ⟨(some 6), none, .q (.mv (.t 35))⟩,
 ⟨(some 7), none, .q (.mv (.c (.int .i64 0)))⟩])
 .ret)))))⟩
theorem l_impl_ExcessOf : lowF PA f_impl_ExcessOf 3 [.k [9, 22, 23, 24]] = some c_impl_ExcessOf := by kernel_rfl
abbrev f_spec_ExcessOf : FuncId := 10
def c_spec_ExcessOf : AF := ⟨3, 42, [.t 6, .t 7],
 (.seq (.reg [⟨(some 3), none, .m (.box (.t 0))⟩,
 ⟨(some 6), none, .q (.mv (.c (.int .i64 0)))⟩,
 ⟨(some 7), none, .q (.mv (.c (.int .i64 0)))⟩])
 (.seq (.seq (.reg [⟨(some 12), none, .q (.ld true 1 (.t 3))⟩,
 ⟨(some 13), none, .q (.mv (.t 1))⟩,
 ⟨(some 14), none, .q (.mv (.t 2))⟩,
 ⟨(some 15), none, .c (.call 25 [(.t 12), (.t 13), (.t 14)])⟩,
 ⟨(some 8), none, .q (.mv (.t 15))⟩])
 (.seq (.reg [⟨(some 16), none, .q (.mv (.t 8))⟩,
 ⟨(some 17), none, .q (.bin .neq (.t 16) (.c (.int .i64 0)))⟩])
 (.cond (.t 17)
 (.seq (.reg [⟨(some 18), none, .q (.mv (.t 8))⟩,
 ⟨(some 6), none, .q (.mv (.c (.int .i64 0)))⟩,
 ⟨(some 7), none, .q (.mv (.t 18))⟩])
 .ret)
 .skip)))
 (.seq (.reg [⟨(some 19), none, .q (.ld true 1 (.t 3))⟩,
 ⟨(some 20), none, .q (.mv (.t 1))⟩,
 ⟨(some 21), none, .q (.mv (.t 2))⟩,
 ⟨(some 22), none, .c (.call 26 [(.t 19), (.t 20), (.t 21)])⟩,
 ⟨(some 9), none, .q (.mv (.t 22))⟩,
 ⟨(some 10), none, .q (.mv (.c (.int .i64 0)))⟩])
 (.seq (.seq (.reg [⟨(some 23), none, .q (.mv (.t 9))⟩,
 ⟨(some 24), none, .q (.len (.t 23))⟩,
 ⟨(some 25), none, .q (.mv (.c (.int .i64 0)))⟩])
 (.block 0 (.loop [9, 10, 24, 25] (.seq (.reg [⟨(some 26), none, .q (.bin .lss (.t 25) (.t 24))⟩])
 (.seq (.cond (.t 26)
 .skip
 (.exit 0))
 (.seq (.block 1 (.seq (.reg [⟨(some 27), none, .q (.mv (.t 25))⟩,
 ⟨(some 11), none, .q (.mv (.t 27))⟩])
 (.seq (.seq (.reg [⟨(some 28), none, .q (.mv (.t 9))⟩,
 ⟨(some 29), none, .q (.mv (.t 11))⟩,
 ⟨(some 30), none, .q (.ixs 1 (.t 28) (.t 29))⟩,
 ⟨(some 31), none, .q (.ld false 1 (.t 30))⟩,
 ⟨(some 32), none, .q (.bin .eql (.t 31) (.c (.int .i64 0)))⟩])
 (.cond (.t 32)
 (.seq (.reg [⟨(some 6), none, .q (.mv (.c (.int .i64 0)))⟩,
 ⟨(some 7), none, .q (.mv (.c (.int .i64 5)))⟩])
 .ret)
 .skip))
 (.reg [⟨(some 33), none, .q (.mv (.t 10))⟩,
 ⟨(some 34), none, .q (.mv (.t 9))⟩,
 ⟨(some 35), none, .q (.mv (.t 11))⟩,
 ⟨(some 36), none, .q (.ixs 1 (.t 34) (.t 35))⟩,
 ⟨(some 37), none, .q (.ld false 1 (.t 36))⟩,
 ⟨(some 38), none, .q (.bin .add (.t 33) (.t 37))⟩,
 ⟨(some 39), none, .q (.bin .sub (.t 38) (.c (.int .i64 1)))⟩,
 ⟨(some 10), none, .q (.mv (.t 39))⟩]))))
 (.reg [⟨(some 40), none, .q (.bin .add (.t 25) (.c (.int .i64 1)))⟩,
 ⟨(some 25), none, .q (.mv (.t 40))⟩])))))))
 (.seq (.reg [⟨(some 41), none, .q (.mv (.t 10))⟩,
 ⟨(some 6), none, .q (.mv (.t 41))⟩,
 ⟨(some 7), none, .q (.mv (.c (.int .i64 0)))⟩])
 .ret)))))⟩
theorem l_spec_ExcessOf : lowF PA f_spec_ExcessOf 3 [.k [9, 10, 24, 25]] = some c_spec_ExcessOf := by kernel_rfl
abbrev f_spec_DrawTimesCovered : FuncId := 11
def c_spec_DrawTimesCovered : AF := ⟨1, 26, [.c 2 true 1, .t 3, .t 4, .t 5],
 (.seq (.reg [⟨(some 2), none, .m (.alloc [(.v (.slice none 0 0))])⟩,
 ⟨(some 3), none, .q (.mv (.c (.slice none 0 0)))⟩,
 ⟨(some 4), none, .q (.mv (.c (.int .i64 0)))⟩,
 ⟨(some 5), none, .q (.mv (.c (.int .i64 0)))⟩])
 (.seq (.reg [⟨(some 10), none, .q (.mv (.t 0))⟩,
 ⟨(some 11), none, .c (.call 27 [(.t 10)])⟩,
 ⟨(some 6), none, .q (.mv (.t 11))⟩])
 (.seq (.reg [⟨(some 13), none, .q (.mv (.t 0))⟩,
 ⟨(some 14), none, .c (.call 28 [(.t 13)])⟩,
 ⟨(some 12), none, .q (.mv (.t 14))⟩,
 ⟨(some 15), none, .q (.ext (.t 12) 0)⟩,
 ⟨(some 16), none, .q (.ext (.t 12) 1)⟩,
 ⟨(some 17), none, .q (.ext (.t 12) 2)⟩,
 ⟨(some 7), none, .m (.alloc [(.v (.slice none 0 0))])⟩,
 ⟨none, none, .m (.st true 1 (.t 7) (.t 15))⟩,
 ⟨(some 8), none, .q (.mv (.t 16))⟩,
 ⟨(some 9), none, .q (.mv (.t 17))⟩])
 (.seq (.sch (.take 0 ⟨(some 18), none, .q (.ld true 1 (.t 7))⟩ (.take 1 ⟨(some 19), none, .q (.mv (.t 8))⟩ (.take 2 ⟨(some 20), none, .q (.mv (.t 9))⟩ (.take 3 ⟨(some 21), none, .q (.mv (.t 6))⟩ (.take 4 ⟨(some 22), none, .q (.mv (.t 6))⟩ (.one ⟨(some 23), none, .c (.call 30 [(.t 22), (.c (.int .i64 8))])⟩ [] (.one ⟨(some 24), none, .m (.bsl 1 [(.c (.int .i64 0)), (.c (.int .i64 1)), (.c (.int .i64 2)), (.t 23)])⟩ [] (.one ⟨(some 25), none, .c (.call 29 [(.t 21), (.t 24)])⟩ [] (.one ⟨none, none, .m (.st true 1 (.t 2) (.t 18))⟩ [0] (.take 9 ⟨(some 3), none, .q (.mv (.t 19))⟩ (.take 10 ⟨(some 4), none, .q (.mv (.t 20))⟩ (.take 11 ⟨(some 5), none, .q (.mv (.t 25))⟩ .done)))))))))))))
 .ret))))⟩
theorem l_spec_DrawTimesCovered : lowF PA f_spec_DrawTimesCovered 1 [.s (.take 0 (.take 1 (.take 2 (.take 3 (.take 4 (.one 5 (.one 6 (.one 7 (.one 8 (.take 9 (.take 10 (.take 11 .done))))))))))))] = some c_spec_DrawTimesCovered := by kernel_rfl
abbrev f_impl_TimesCovered : FuncId := 12
def c_impl_TimesCovered : AF := ⟨4, 29, [.t 8, .t 9],
 (.seq (.reg [⟨(some 4), none, .m (.box (.t 0))⟩,
 ⟨(some 8), none, .q (.mv (.c (.int .i64 0)))⟩,
 ⟨(some 9), none, .q (.mv (.c (.int .i64 0)))⟩])
 (.seq (.seq (.reg [⟨(some 11), none, .q (.ld true 1 (.t 4))⟩,
 ⟨(some 12), none, .q (.mv (.t 1))⟩,
 ⟨(some 13), none, .q (.mv (.t 2))⟩,
 ⟨(some 14), none, .m (.bsl 1 [(.t 13)])⟩,
 ⟨(some 15), none, .c (.call 31 [(.t 11), (.t 12), (.t 14)])⟩,
 ⟨(some 10), none, .q (.mv (.t 15))⟩])
 (.seq (.reg [⟨(some 16), none, .q (.mv (.t 10))⟩,
 ⟨(some 17), none, .q (.bin .neq (.t 16) (.c (.int .i64 0)))⟩])
 (.cond (.t 17)
 (.seq (.reg [⟨(some 18), none, .q (.mv (.t 10))⟩,
 ⟨(some 8), none, .q (.mv (.c (.int .i64 0)))⟩,
 ⟨(some 9), none, .q (.mv (.t 18))⟩])
 .ret)
 .skip)))
 (.seq (.seq (.reg [⟨(some 19), none, .q (.mv (.t 3))⟩,
 ⟨(some 20), none, .c (.call 32 [(.t 19)])⟩,
 ⟨(some 21), none, .q (.un .not (.t 20))⟩])
 (.cond (.t 21)
 (.seq (.reg [⟨(some 8), none, .q (.mv (.c (.int .i64 0)))⟩,
 ⟨(some 9), none, .q (.mv (.c (.int .i64 2)))⟩])
 .ret)
 .skip))
 (.seq (.reg [⟨(some 22), none, .q (.ld true 1 (.t 4))⟩,
 ⟨(some 23), none, .q (.mv (.t 1))⟩,
 ⟨(some 24), none, .q (.mv (.t 3))⟩,
 ⟨(some 25), none, .c (.call 24 [(.t 22), (.t 23), (.t 24)])⟩,
 ⟨(some 26), none, .q (.mv (.t 2))⟩,
 ⟨(some 27), none, .q (.ixs 1 (.t 25) (.t 26))⟩,
 ⟨(some 28), none, .q (.ld false 1 (.t 27))⟩,
 ⟨(some 8), none, .q (.mv (.t 28))⟩,
 ⟨(some 9), none, .q (.mv (.c (.int .i64 0)))⟩])
 .ret))))⟩
theorem l_impl_TimesCovered : lowF PA f_impl_TimesCovered 4 [] = some c_impl_TimesCovered := by kernel_rfl
abbrev f_spec_TimesCovered : FuncId := 13
def c_spec_TimesCovered : AF := ⟨4, 35, [.t 8, .t 9],
 (.seq (.reg [⟨(some 4), none, .m (.box (.t 0))⟩,
 ⟨(some 8), none, .q (.mv (.c (.int .i64 0)))⟩,
 ⟨(some 9), none, .q (.mv (.c (.int .i64 0)))⟩])
 (.seq (.reg [⟨(some 11), none, .q (.ld true 1 (.t 4))⟩,
 ⟨(some 12), none, .q (.mv (.t 1))⟩,
 ⟨(some 13), none, .q (.mv (.t 3))⟩,
 ⟨(some 14), none, .c (.call 25 [(.t 11), (.t 12), (.t 13)])⟩,
 ⟨(some 10), none, .q (.mv (.t 14))⟩])
 (.seq (.seq (.reg [⟨(some 15), none, .q (.mv (.t 10))⟩,
 ⟨(some 16), none, .q (.bin .eql (.t 15) (.c (.int .i64 0)))⟩,
 ⟨(some 17), none, .q (.mv (.t 16))⟩,
 ⟨(some 18), (some (17, true)), .q (.mv (.t 2))⟩,
 ⟨(some 19), (some (17, true)), .q (.ld true 1 (.t 4))⟩,
 ⟨(some 20), (some (17, true)), .c (.call 34 [(.t 19)])⟩,
 ⟨(some 21), (some (17, true)), .q (.bin .sub (.t 20) (.c (.int .i64 1)))⟩,
 ⟨(some 22), (some (17, true)), .c (.call 33 [(.t 18), (.c (.int .i64 0)), (.t 21)])⟩,
 ⟨(some 23), (some (17, true)), .q (.un .not (.t 22))⟩,
 ⟨(some 24), none, .q (.pick (.t 17) (.t 23) (.c (.bool false)))⟩])
 (.cond (.t 24)
 (.reg [⟨(some 10), none, .q (.mv (.c (.int .i64 2)))⟩])
 .skip))
 (.seq (.seq (.reg [⟨(some 25), none, .q (.mv (.t 10))⟩,
 ⟨(some 26), none, .q (.bin .neq (.t 25) (.c (.int .i64 0)))⟩])
 (.cond (.t 26)
 (.seq (.reg [⟨(some 27), none, .q (.mv (.t 10))⟩,
 ⟨(some 8), none, .q (.mv (.c (.int .i64 0)))⟩,
 ⟨(some 9), none, .q (.mv (.t 27))⟩])
 .ret)
 .skip))
 (.seq (.reg [⟨(some 28), none, .q (.ld true 1 (.t 4))⟩,
 ⟨(some 29), none, .q (.mv (.t 1))⟩,
 ⟨(some 30), none, .q (.mv (.t 3))⟩,
 ⟨(some 31), none, .c (.call 26 [(.t 28), (.t 29), (.t 30)])⟩,
 ⟨(some 32), none, .q (.mv (.t 2))⟩,
 ⟨(some 33), none, .q (.ixs 1 (.t 31) (.t 32))⟩,
 ⟨(some 34), none, .q (.ld false 1 (.t 33))⟩,
 ⟨(some 8), none, .q (.mv (.t 34))⟩,
 ⟨(some 9), none, .q (.mv (.c (.int .i64 0)))⟩])
 .ret)))))⟩
theorem l_spec_TimesCovered : lowF PA f_spec_TimesCovered 4 [] = some c_spec_TimesCovered := by kernel_rfl
abbrev f_spec_DrawGreedyCode : FuncId := 14
def c_spec_DrawGreedyCode : AF := ⟨1, 16, [.c 2 true 1, .t 3],
 (.seq (.reg [⟨(some 2), none, .m (.alloc [(.v (.slice none 0 0))])⟩,
 ⟨(some 3), none, .q (.mv (.c (.int .i64 0)))⟩])
 (.seq (.reg [⟨(some 5), none, .q (.mv (.t 0))⟩,
 ⟨(some 6), none, .c (.call 27 [(.t 5)])⟩,
 ⟨(some 4), none, .q (.mv (.t 6))⟩])
 (.seq (.reg [⟨(some 7), none, .q (.mv (.t 4))⟩,
 ⟨(some 8), none, .q (.mv (.t 4))⟩,
 ⟨(some 9), none, .c (.call 36 [(.t 8)])⟩,
 ⟨(some 10), none, .c (.call 35 [(.t 7), (.t 9)])⟩,
 ⟨(some 11), none, .q (.mv (.t 4))⟩,
 ⟨(some 12), none, .q (.mv (.t 4))⟩,
 ⟨(some 13), none, .c (.call 30 [(.t 12), (.c (.int .i64 8))])⟩,
 ⟨(some 14), none, .m (.bsl 1 [(.c (.int .i64 0)), (.c (.int .i64 1)), (.c (.int .i64 1)), (.c (.int .i64 1)), (.c (.int .i64 2)), (.t 13)])⟩,
 ⟨(some 15), none, .c (.call 29 [(.t 11), (.t 14)])⟩,
 ⟨none, none, .m (.st true 1 (.t 2) (.t 10))⟩,
 ⟨(some 3), none, .q (.mv (.t 15))⟩])
 .ret)))⟩
theorem l_spec_DrawGreedyCode : lowF PA f_spec_DrawGreedyCode 1 [] = some c_spec_DrawGreedyCode := by kernel_rfl
abbrev f_impl_GreedyCode : FuncId := 15
def c_impl_GreedyCode : AF := ⟨2, 112, [.t 4, .t 5],
 (.seq (.reg [⟨(some 2), none, .m (.box (.t 0))⟩,
 ⟨(some 4), none, .q (.mv (.c (.slice none 0 0)))⟩,
 ⟨(some 5), none, .q (.mv (.c (.int .i64 0)))⟩])
 (.seq (.seq (.reg [⟨(some 16), none, .q (.ld true 1 (.t 2))⟩,
 ⟨(some 17), none, .q (.mv (.t 1))⟩,
 ⟨(some 18), none, .c (.call 37 [(.t 16), (.c (.int .i64 0)), (.t 17)])⟩,
 ⟨(some 6), none, .q (.mv (.t 18))⟩])
 (.seq (.reg [⟨(some 19), none, .q (.mv (.t 6))⟩,
 ⟨(some 20), none, .q (.bin .neq (.t 19) (.c (.int .i64 0)))⟩])
 (.cond (.t 20)
 (.seq (.reg [⟨(some 21), none, .q (.mv (.t 6))⟩,
 ⟨(some 4), none, .q (.mv (.c (.slice none 0 0)))⟩,
 ⟨(some 5), none, .q (.mv (.t 21))⟩])
 .ret)
 .skip)))
 (.seq (.reg [⟨(some 22), none, .q (.ld true 1 (.t 2))⟩,
 ⟨(some 23), none, .c (.call 38 [(.t 22)])⟩,
 ⟨(some 24), none, .m (.bsl 1 [])⟩,
 ⟨(some 7), none, .q (.mv (.t 23))⟩,
 ⟨(some 8), none, .q (.mv (.t 24))⟩])
 (.seq (.reg [⟨(some 25), none, .q (.ld true 1 (.t 2))⟩,
 ⟨(some 26), none, .q (.mv (.t 1))⟩,
 ⟨(some 27), none, .c (.call 40 [(.t 25), (.c (.int .i64 0)), (.t 26)])⟩,
 ⟨(some 28), none, .q (.len (.t 27))⟩,
 ⟨(some 29), none, .m (.bsl 1 [(.t 28)])⟩,
 ⟨(some 30), none, .q (.mv (.t 7))⟩,
 ⟨(some 31), none, .q (.len (.t 30))⟩,
 ⟨(some 32), none, .c (.call 39 [(.t 29), (.t 31)])⟩,
 ⟨(some 9), none, .q (.mv (.t 32))⟩])
 (.seq (.reg [⟨(some 33), none, .q (.mv (.t 7))⟩,
 ⟨(some 34), none, .q (.len (.t 33))⟩,
 ⟨(some 35), none, .m (.mks 1 (.v (.bool false)) 1 (.t 34) (.t 34))⟩,
 ⟨(some 10), none, .q (.mv (.t 35))⟩])
 (.block 0 (.loop [1, 7, 8, 9, 10] (.block 1 (.seq (.reg [⟨(some 11), none, .q (.mv (.c (.int .i64 0)))⟩])
 (.seq (.seq (.reg [⟨(some 36), none, .q (.mv (.t 9))⟩,
 ⟨(some 37), none, .q (.len (.t 36))⟩,
 ⟨(some 38), none, .q (.mv (.c (.int .i64 0)))⟩])
 (.block 2 (.loop [1, 7, 8, 9, 10, 11, 36, 37, 38] (.seq (.reg [⟨(some 39), none, .q (.bin .lss (.t 38) (.t 37))⟩])
 (.seq (.cond (.t 39)
 .skip
 (.exit 2))
 (.seq (.block 3 (.seq (.reg [⟨(some 40), none, .q (.mv (.t 38))⟩,
 ⟨(some 41), none, .q (.ixs 1 (.t 36) (.t 38))⟩,
 ⟨(some 42), none, .q (.ld false 1 (.t 41))⟩,
 ⟨(some 12), none, .q (.mv (.t 40))⟩,
 ⟨(some 13), none, .q (.mv (.t 42))⟩])
 (.seq (.reg [⟨(some 43), none, .q (.mv (.t 13))⟩,
 ⟨(some 44), none, .q (.mv (.t 9))⟩,
 ⟨(some 45), none, .q (.mv (.t 11))⟩,
 ⟨(some 46), none, .q (.ixs 1 (.t 44) (.t 45))⟩,
 ⟨(some 47), none, .q (.ld false 1 (.t 46))⟩,
 ⟨(some 48), none, .q (.bin .gtr (.t 43) (.t 47))⟩])
 (.cond (.t 48)
 (.reg [⟨(some 49), none, .q (.mv (.t 12))⟩,
 ⟨(some 11), none, .q (.mv (.t 49))⟩])
 .skip))))
 (.reg [⟨(some 50), none, .q (.bin .add (.t 38) (.c (.int .i64 1)))⟩,
 ⟨(some 38), none, .q (.mv (.t 50))⟩])))))))
 (.seq (.seq (.reg [⟨(some 51), none, .q (.mv (.t 9))⟩,
 ⟨(some 52), none, .q (.mv (.t 11))⟩,
 ⟨(some 53), none, .q (.ixs 1 (.t 51) (.t 52))⟩,
 ⟨(some 54), none, .q (.ld false 1 (.t 53))⟩,
 ⟨(some 55), none, .q (.bin .eql (.t 54) (.c (.int .i64 0)))⟩])
 (.cond (.t 55)
 (.seq (.reg [⟨(some 56), none, .q (.mv (.t 8))⟩,
 ⟨(some 57), none, .c (.call 41 [(.t 56)])⟩])
 (.seq (.reg [⟨(some 58), none, .q (.mv (.t 8))⟩,
 ⟨(some 4), none, .q (.mv (.t 58))⟩,
 ⟨(some 5), none, .q (.mv (.c (.int .i64 0)))⟩])
 .ret))
 .skip))
 (.seq (.reg [⟨(some 59), none, .q (.mv (.t 8))⟩,
 ⟨(some 60), none, .q (.mv (.t 11))⟩,
 ⟨(some 61), none, .m (.bsl 1 [(.t 60)])⟩,
 ⟨(some 62), none, .m (.app 1 8 (.t 59) (.t 61))⟩,
 ⟨(some 8), none, .q (.mv (.t 62))⟩])
 (.seq (.reg [⟨(some 63), none, .q (.mv (.t 7))⟩,
 ⟨(some 64), none, .q (.len (.t 63))⟩,
 ⟨(some 65), none, .q (.mv (.c (.int .i64 0)))⟩])
 (.block 4 (.loop [1, 7, 8, 9, 10, 11, 64, 65] (.seq (.reg [⟨(some 66), none, .q (.bin .lss (.t 65) (.t 64))⟩])
 (.seq (.cond (.t 66)
 .skip
 (.exit 4))
 (.seq (.block 5 (.seq (.reg [⟨(some 67), none, .q (.mv (.t 65))⟩,
 ⟨(some 14), none, .q (.mv (.t 67))⟩])
 (.seq (.seq (.sch (.take 0 ⟨(some 68), none, .q (.mv (.t 10))⟩ (.take 1 ⟨(some 69), none, .q (.mv (.t 14))⟩ (.take 2 ⟨(some 70), none, .q (.ixs 1 (.t 68) (.t 69))⟩ (.take 3 ⟨(some 71), none, .q (.ld false 1 (.t 70))⟩ (.take 4 ⟨(some 72), none, .q (.mv (.t 71))⟩ (.take 5 ⟨(some 73), (some (72, false)), .q (.mv (.t 7))⟩ (.take 6 ⟨(some 74), (some (72, false)), .q (.mv (.t 11))⟩ (.take 7 ⟨(some 75), (some (72, false)), .q (.ixs 8 (.t 73) (.t 74))⟩ (.take 8 ⟨(some 76), (some (72, false)), .q (.ld true 8 (.t 75))⟩ (.take 9 ⟨(some 77), (some (72, false)), .q (.mv (.t 7))⟩ (.take 10 ⟨(some 78), (some (72, false)), .q (.mv (.t 14))⟩ (.take 11 ⟨(some 79), (some (72, false)), .q (.ixs 8 (.t 77) (.t 78))⟩ (.take 12 ⟨(some 80), (some (72, false)), .q (.ld true 8 (.t 79))⟩ (.take 14 ⟨(some 82), (some (72, false)), .q (.mv (.t 1))⟩ (.one ⟨(some 81), (some (72, false)), .c (.call 42 [(.t 76), (.t 80)])⟩ [12, 8] (.take 15 ⟨(some 83), (some (72, false)), .q (.bin .gtr (.t 81) (.t 82))⟩ (.take 16 ⟨(some 84), none, .q (.pick (.t 72) (.c (.bool true)) (.t 83))⟩ .done))))))))))))))))))
 (.cond (.t 84)
 (.exit 5)
 .skip))
 (.seq (.reg [⟨(some 85), none, .q (.mv (.t 10))⟩,
 ⟨(some 86), none, .q (.mv (.t 14))⟩,
 ⟨(some 87), none, .q (.ixs 1 (.t 85) (.t 86))⟩,
 ⟨none, none, .m (.st false 1 (.t 87) (.c (.bool true)))⟩])
 (.seq (.reg [⟨(some 88), none, .q (.mv (.t 9))⟩,
 ⟨(some 89), none, .q (.len (.t 88))⟩,
 ⟨(some 90), none, .q (.mv (.c (.int .i64 0)))⟩])
 (.block 6 (.loop [1, 7, 8, 9, 10, 11, 14, 64, 65, 89, 90] (.seq (.reg [⟨(some 91), none, .q (.bin .lss (.t 90) (.t 89))⟩])
 (.seq (.cond (.t 91)
 .skip
 (.exit 6))
 (.seq (.block 7 (.seq (.reg [⟨(some 92), none, .q (.mv (.t 90))⟩,
 ⟨(some 15), none, .q (.mv (.t 92))⟩])
 (.seq (.sch (.take 0 ⟨(some 93), none, .q (.mv (.t 7))⟩ (.take 1 ⟨(some 94), none, .q (.mv (.t 15))⟩ (.take 2 ⟨(some 95), none, .q (.ixs 8 (.t 93) (.t 94))⟩ (.take 3 ⟨(some 96), none, .q (.ld true 8 (.t 95))⟩ (.take 4 ⟨(some 97), none, .q (.mv (.t 7))⟩ (.take 5 ⟨(some 98), none, .q (.mv (.t 14))⟩ (.take 6 ⟨(some 99), none, .q (.ixs 8 (.t 97) (.t 98))⟩ (.take 7 ⟨(some 100), none, .q (.ld true 8 (.t 99))⟩ (.take 9 ⟨(some 102), none, .q (.mv (.t 1))⟩ (.one ⟨(some 101), none, .c (.call 42 [(.t 96), (.t 100)])⟩ [7, 3] (.take 10 ⟨(some 103), none, .q (.bin .leq (.t 101) (.t 102))⟩ .done))))))))))))
 (.cond (.t 103)
 (.reg [⟨(some 104), none, .q (.mv (.t 9))⟩,
 ⟨(some 105), none, .q (.mv (.t 15))⟩,
 ⟨(some 106), none, .q (.ixs 1 (.t 104) (.t 105))⟩,
 ⟨(some 107), none, .q (.ld false 1 (.t 106))⟩,
 ⟨(some 108), none, .q (.bin .sub (.t 107) (.c (.int .i64 1)))⟩,
 ⟨(some 109), none, .q (.ixs 1 (.t 104) (.t 105))⟩,
 ⟨none, none, .m (.st false 1 (.t 109) (.t 108))⟩])
 .skip))))
 (.reg [⟨(some 110), none, .q (.bin .add (.t 90) (.c (.int .i64 1)))⟩,
 ⟨(some 90), none, .q (.mv (.t 110))⟩])))))))))))
 (.reg [⟨(some 111), none, .q (.bin .add (.t 65) (.c (.int .i64 1)))⟩,
 ⟨(some 65), none, .q (.mv (.t 111))⟩])))))))))))))))))))⟩
theorem l_impl_GreedyCode : lowF PA f_impl_GreedyCode 2 [.k [1, 7, 8, 9, 10], .k [1, 7, 8, 9, 10, 11, 36, 37, 38], .k [1, 7, 8, 9, 10, 11, 64, 65], .s (.take 0 (.take 1 (.take 2 (.take 3 (.take 4 (.take 5 (.take 6 (.take 7 (.take 8 (.take 9 (.take 10 (.take 11 (.take 12 (.take 14 (.one 13 (.take 15 (.take 16 .done))))))))))))))))), .k [1, 7, 8, 9, 10, 11, 14, 64, 65, 89, 90], .s (.take 0 (.take 1 (.take 2 (.take 3 (.take 4 (.take 5 (.take 6 (.take 7 (.take 9 (.one 8 (.take 10 .done)))))))))))] = some c_impl_GreedyCode := by kernel_rfl
abbrev f_spec_GreedyCode : FuncId := 16
def c_spec_GreedyCode : AF := ⟨2, 116, [.t 4, .t 5],
 (.seq (.reg [⟨(some 2), none, .m (.box (.t 0))⟩,
 ⟨(some 4), none, .q (.mv (.c (.slice none 0 0)))⟩,
 ⟨(some 5), none, .q (.mv (.c (.int .i64 0)))⟩])
 (.seq (.block 0 (.seq (.reg [⟨(some 18), none, .q (.ld true 1 (.t 2))⟩,
 ⟨(some 19), none, .c (.call 43 [(.t 18)])⟩,
 ⟨(some 20), none, .q (.un .not (.t 19))⟩,
 ⟨(some 17), none, .q (.mv (.t 20))⟩])
 (.cond (.t 17)
 (.seq (.reg [⟨(some 4), none, .q (.mv (.c (.slice none 0 0)))⟩,
 ⟨(some 5), none, .q (.mv (.c (.int .i64 1)))⟩])
 .ret)
 (.seq (.reg [⟨(some 22), none, .q (.mv (.t 1))⟩,
 ⟨(some 23), none, .c (.call 33 [(.t 22), (.c (.int .i64 0)), (.c (.int .i64 8))])⟩,
 ⟨(some 24), none, .q (.un .not (.t 23))⟩,
 ⟨(some 21), none, .q (.mv (.t 24))⟩])
 (.cond (.t 21)
 (.seq (.reg [⟨(some 4), none, .q (.mv (.c (.slice none 0 0)))⟩,
 ⟨(some 5), none, .q (.mv (.c (.int .i64 2)))⟩])
 .ret)
 .skip)))))
 (.seq (.reg [⟨(some 25), none, .q (.ld true 1 (.t 2))⟩,
 ⟨(some 26), none, .c (.call 34 [(.t 25)])⟩,
 ⟨(some 27), none, .m (.bsl 1 [])⟩,
 ⟨(some 6), none, .q (.mv (.t 26))⟩,
 ⟨(some 7), none, .q (.mv (.t 27))⟩])
 (.seq (.sch (.take 0 ⟨(some 28), none, .q (.mv (.t 6))⟩ (.take 2 ⟨(some 30), none, .q (.mv (.t 6))⟩ (.two ⟨(some 29), none, .m (.mks 1 (.v (.bool false)) 1 (.t 28) (.t 28))⟩ [] (.take 4 ⟨(some 8), none, .q (.mv (.t 29))⟩ (.one ⟨(some 31), none, .m (.mks 1 (.v (.int .i64 0)) 8 (.t 30) (.t 30))⟩ [] (.take 5 ⟨(some 9), none, .q (.mv (.t 31))⟩ .done))) ⟨(some 31), none, .m (.mks 1 (.v (.int .i64 0)) 8 (.t 30) (.t 30))⟩ [] (.one ⟨(some 29), none, .m (.mks 1 (.v (.bool false)) 1 (.t 28) (.t 28))⟩ [] (.take 4 ⟨(some 8), none, .q (.mv (.t 29))⟩ (.take 5 ⟨(some 9), none, .q (.mv (.t 31))⟩ .done)))))))
 (.seq (.seq (.reg [⟨(some 10), none, .q (.mv (.c (.int .i64 0)))⟩])
 (.block 1 (.loop [1, 2, 6, 7, 8, 9, 10] (.seq (.seq (.reg [⟨(some 32), none, .q (.mv (.t 10))⟩,
 ⟨(some 33), none, .q (.mv (.t 6))⟩,
 ⟨(some 34), none, .q (.bin .lss (.t 32) (.t 33))⟩])
 (.cond (.t 34)
 .skip
 (.exit 1)))
 (.seq (.block 2 (.seq (.reg [⟨(some 37), none, .q (.mv (.t 8))⟩,
 ⟨(some 38), none, .q (.mv (.t 10))⟩,
 ⟨(some 39), none, .q (.ixs 1 (.t 37) (.t 38))⟩,
 ⟨none, none, .m (.st false 1 (.t 39) (.c (.bool true)))⟩])
 (.reg [⟨(some 40), none, .q (.mv (.t 9))⟩,
 ⟨(some 41), none, .q (.mv (.t 10))⟩,
 ⟨(some 42), none, .q (.ld true 1 (.t 2))⟩,
 ⟨(some 43), none, .q (.mv (.t 1))⟩,
 ⟨(some 44), none, .c (.call 44 [(.t 42), (.t 43)])⟩,
 ⟨(some 45), none, .q (.ixs 1 (.t 40) (.t 41))⟩,
 ⟨none, none, .m (.st false 1 (.t 45) (.t 44))⟩])))
 (.reg [⟨(some 35), none, .q (.mv (.t 10))⟩,
 ⟨(some 36), none, .q (.bin .add (.t 35) (.c (.int .i64 1)))⟩,
 ⟨(some 10), none, .q (.mv (.t 36))⟩]))))))
 (.block 3 (.loop [1, 2, 6, 7, 8, 9] (.block 4 (.seq (.reg [⟨(some 11), none, .q (.mv (.c (.int .i64 0)))⟩])
 (.seq (.seq (.reg [⟨(some 12), none, .q (.mv (.c (.int .i64 1)))⟩])
 (.block 5 (.loop [1, 2, 6, 7, 8, 9, 11, 12] (.seq (.seq (.reg [⟨(some 46), none, .q (.mv (.t 12))⟩,
 ⟨(some 47), none, .q (.mv (.t 6))⟩,
 ⟨(some 48), none, .q (.bin .lss (.t 46) (.t 47))⟩])
 (.cond (.t 48)
 .skip
 (.exit 5)))
 (.seq (.block 6 (.seq (.sch (.take 0 ⟨(some 51), none, .q (.mv (.t 9))⟩ (.take 1 ⟨(some 52), none, .q (.mv (.t 12))⟩ (.take 2 ⟨(some 53), none, .q (.ixs 1 (.t 51) (.t 52))⟩ (.take 3 ⟨(some 54), none, .q (.ld false 1 (.t 53))⟩ (.take 4 ⟨(some 55), none, .q (.mv (.t 9))⟩ (.take 5 ⟨(some 56), none, .q (.mv (.t 11))⟩ (.take 6 ⟨(some 57), none, .q (.ixs 1 (.t 55) (.t 56))⟩ (.take 7 ⟨(some 58), none, .q (.ld false 1 (.t 57))⟩ (.take 8 ⟨(some 59), none, .q (.bin .gtr (.t 54) (.t 58))⟩ .done))))))))))
 (.cond (.t 59)
 (.reg [⟨(some 60), none, .q (.mv (.t 12))⟩,
 ⟨(some 11), none, .q (.mv (.t 60))⟩])
 .skip)))
 (.reg [⟨(some 49), none, .q (.mv (.t 12))⟩,
 ⟨(some 50), none, .q (.bin .add (.t 49) (.c (.int .i64 1)))⟩,
 ⟨(some 12), none, .q (.mv (.t 50))⟩]))))))
 (.seq (.seq (.reg [⟨(some 61), none, .q (.mv (.t 9))⟩,
 ⟨(some 62), none, .q (.mv (.t 11))⟩,
 ⟨(some 63), none, .q (.ixs 1 (.t 61) (.t 62))⟩,
 ⟨(some 64), none, .q (.ld false 1 (.t 63))⟩,
 ⟨(some 65), none, .q (.bin .eql (.t 64) (.c (.int .i64 0)))⟩])
 (.cond (.t 65)
 (.seq (.reg [⟨(some 66), none, .q (.mv (.t 7))⟩,
 ⟨(some 4), none, .q (.mv (.t 66))⟩,
 ⟨(some 5), none, .q (.mv (.c (.int .i64 0)))⟩])
 .ret)
 .skip))
 (.seq (.reg [⟨(some 67), none, .q (.mv (.t 7))⟩,
 ⟨(some 68), none, .q (.mv (.t 11))⟩,
 ⟨(some 69), none, .c (.call 45 [(.t 67), (.t 68)])⟩,
 ⟨(some 7), none, .q (.mv (.t 69))⟩])
 (.seq (.reg [⟨(some 70), none, .q (.ld true 1 (.t 2))⟩,
 ⟨(some 71), none, .q (.mv (.t 11))⟩,
 ⟨(some 72), none, .q (.mv (.t 1))⟩,
 ⟨(some 73), none, .c (.call 46 [(.t 70), (.t 71), (.t 72)])⟩,
 ⟨(some 13), none, .q (.mv (.t 73))⟩])
 (.seq (.reg [⟨(some 14), none, .q (.mv (.c (.int .i64 0)))⟩])
 (.block 7 (.loop [1, 2, 6, 7, 8, 9, 13, 14] (.seq (.seq (.reg [⟨(some 74), none, .q (.mv (.t 14))⟩,
 ⟨(some 75), none, .q (.mv (.t 13))⟩,
 ⟨(some 76), none, .q (.len (.t 75))⟩,
 ⟨(some 77), none, .q (.bin .lss (.t 74) (.t 76))⟩])
 (.cond (.t 77)
 .skip
 (.exit 7)))
 (.seq (.block 8 (.seq (.seq (.reg [⟨(some 80), none, .q (.mv (.t 8))⟩,
 ⟨(some 81), none, .q (.mv (.t 13))⟩,
 ⟨(some 82), none, .q (.mv (.t 14))⟩,
 ⟨(some 83), none, .q (.ixs 1 (.t 81) (.t 82))⟩,
 ⟨(some 84), none, .q (.ld false 1 (.t 83))⟩,
 ⟨(some 85), none, .q (.ixs 1 (.t 80) (.t 84))⟩,
 ⟨(some 86), none, .q (.ld false 1 (.t 85))⟩,
 ⟨(some 87), none, .q (.un .not (.t 86))⟩])
 (.cond (.t 87)
 (.exit 8)
 .skip))
 (.seq (.reg [⟨(some 88), none, .q (.mv (.t 8))⟩,
 ⟨(some 89), none, .q (.mv (.t 13))⟩,
 ⟨(some 90), none, .q (.mv (.t 14))⟩,
 ⟨(some 91), none, .q (.ixs 1 (.t 89) (.t 90))⟩,
 ⟨(some 92), none, .q (.ld false 1 (.t 91))⟩,
 ⟨(some 93), none, .q (.ixs 1 (.t 88) (.t 92))⟩,
 ⟨none, none, .m (.st false 1 (.t 93) (.c (.bool false)))⟩])
 (.seq (.sch (.take 0 ⟨(some 94), none, .q (.ld true 1 (.t 2))⟩ (.take 1 ⟨(some 95), none, .q (.mv (.t 13))⟩ (.take 2 ⟨(some 96), none, .q (.mv (.t 14))⟩ (.take 3 ⟨(some 97), none, .q (.ixs 1 (.t 95) (.t 96))⟩ (.take 4 ⟨(some 98), none, .q (.ld false 1 (.t 97))⟩ (.take 5 ⟨(some 99), none, .q (.mv (.t 1))⟩ (.one ⟨(some 100), none, .c (.call 46 [(.t 94), (.t 98), (.t 99)])⟩ [4, 0] (.take 7 ⟨(some 15), none, .q (.mv (.t 100))⟩ .done)))))))))
 (.seq (.reg [⟨(some 16), none, .q (.mv (.c (.int .i64 0)))⟩])
 (.block 9 (.loop [1, 2, 6, 7, 8, 9, 13, 14, 15, 16] (.seq (.seq (.reg [⟨(some 101), none, .q (.mv (.t 16))⟩,
 ⟨(some 102), none, .q (.mv (.t 15))⟩,
 ⟨(some 103), none, .q (.len (.t 102))⟩,
 ⟨(some 104), none, .q (.bin .lss (.t 101) (.t 103))⟩])
 (.cond (.t 104)
 .skip
 (.exit 9)))
 (.seq (.block 10 (.reg [⟨(some 107), none, .q (.mv (.t 9))⟩,
 ⟨(some 108), none, .q (.mv (.t 15))⟩,
 ⟨(some 109), none, .q (.mv (.t 16))⟩,
 ⟨(some 110), none, .q (.ixs 1 (.t 108) (.t 109))⟩,
 ⟨(some 111), none, .q (.ld false 1 (.t 110))⟩,
 ⟨(some 112), none, .q (.ixs 1 (.t 107) (.t 111))⟩,
 ⟨(some 113), none, .q (.ld false 1 (.t 112))⟩,
 ⟨(some 114), none, .q (.bin .sub (.t 113) (.c (.int .i64 1)))⟩,
 ⟨(some 115), none, .q (.ixs 1 (.t 107) (.t 111))⟩,
 ⟨none, none, .m (.st false 1 (.t 115) (.t 114))⟩]))
 (.reg [⟨(some 105), none, .q (.mv (.t 16))⟩,
 ⟨(some 106), none, .q (.bin .add (.t 105) (.c (.int .i64 1)))⟩,
 ⟨(some 16), none, .q (.mv (.t 106))⟩]))))))))))
 (.reg [⟨(some 78), none, .q (.mv (.t 14))⟩,
 ⟨(some 79), none, .q (.bin .add (.t 78) (.c (.int .i64 1)))⟩,
 ⟨(some 14), none, .q (.mv (.t 79))⟩])))))))))))))))))))⟩
theorem l_spec_GreedyCode : lowF PA f_spec_GreedyCode 2 [.s (.take 0 (.take 2 (.two 1 (.take 4 (.one 3 (.take 5 .done))) 3 (.one 1 (.take 4 (.take 5 .done)))))), .k [1, 2, 6, 7, 8, 9, 10], .k [1, 2, 6, 7, 8, 9], .k [1, 2, 6, 7, 8, 9, 11, 12], .s (.take 0 (.take 1 (.take 2 (.take 3 (.take 4 (.take 5 (.take 6 (.take 7 (.take 8 .done))))))))), .k [1, 2, 6, 7, 8, 9, 13, 14], .s (.take 0 (.take 1 (.take 2 (.take 3 (.take 4 (.take 5 (.one 6 (.take 7 .done)))))))), .k [1, 2, 6, 7, 8, 9, 13, 14, 15, 16]] = some c_spec_GreedyCode := by kernel_rfl
abbrev f_impl_CoversSpace : FuncId := 17
def c_impl_CoversSpace : AF := ⟨3, 20, [.t 6, .t 7],
 (.seq (.reg [⟨(some 3), none, .m (.box (.t 0))⟩,
 ⟨(some 6), none, .q (.mv (.c (.bool false)))⟩,
 ⟨(some 7), none, .q (.mv (.c (.int .i64 0)))⟩])
 (.seq (.seq (.reg [⟨(some 9), none, .q (.ld true 1 (.t 3))⟩,
 ⟨(some 10), none, .q (.mv (.t 1))⟩,
 ⟨(some 11), none, .q (.mv (.t 2))⟩,
 ⟨(some 12), none, .c (.call 23 [(.t 9), (.t 10), (.t 11)])⟩,
 ⟨(some 8), none, .q (.mv (.t 12))⟩])
 (.seq (.reg [⟨(some 13), none, .q (.mv (.t 8))⟩,
 ⟨(some 14), none, .q (.bin .neq (.t 13) (.c (.int .i64 0)))⟩])
 (.cond (.t 14)
 (.seq (.reg [⟨(some 15), none, .q (.mv (.t 8))⟩,
 ⟨(some 6), none, .q (.mv (.c (.bool false)))⟩,
 ⟨(some 7), none, .q (.mv (.t 15))⟩])
 .ret)
 .skip)))
 (.seq (.reg [⟨(some 16), none, .q (.ld true 1 (.t 3))⟩,
 ⟨(some 17), none, .q (.mv (.t 1))⟩,
 ⟨(some 18), none, .q (.mv (.t 2))⟩,
 ⟨(some 19), none, .c (.call 47 [(.t 16), (.t 17), (.t 18)])⟩,
 ⟨(some 6), none, .q (.mv (.t 19))⟩,
 ⟨(some 7), none, .q (.mv (.c (.int .i64 0)))⟩])
 .ret)))⟩
theorem l_impl_CoversSpace : lowF PA f_impl_CoversSpace 3 [] = some c_impl_CoversSpace := by kernel_rfl
abbrev f_impl_BallBound : FuncId := 18
def c_impl_BallBound : AF := ⟨2, 20, [.t 4, .t 5],
 (.seq (.reg [⟨(some 2), none, .m (.box (.t 0))⟩,
 ⟨(some 4), none, .q (.mv (.c (.int .i64 0)))⟩,
 ⟨(some 5), none, .q (.mv (.c (.int .i64 0)))⟩])
 (.seq (.seq (.reg [⟨(some 7), none, .q (.ld true 1 (.t 2))⟩,
 ⟨(some 8), none, .q (.mv (.t 1))⟩,
 ⟨(some 9), none, .c (.call 37 [(.t 7), (.c (.int .i64 0)), (.t 8)])⟩,
 ⟨(some 6), none, .q (.mv (.t 9))⟩])
 (.seq (.reg [⟨(some 10), none, .q (.mv (.t 6))⟩,
 ⟨(some 11), none, .q (.bin .neq (.t 10) (.c (.int .i64 0)))⟩])
 (.cond (.t 11)
 (.seq (.reg [⟨(some 12), none, .q (.mv (.t 6))⟩,
 ⟨(some 4), none, .q (.mv (.c (.int .i64 0)))⟩,
 ⟨(some 5), none, .q (.mv (.t 12))⟩])
 .ret)
 .skip)))
 (.seq (.sch (.take 0 ⟨(some 13), none, .q (.ld true 1 (.t 2))⟩ (.take 2 ⟨(some 15), none, .q (.ld true 1 (.t 2))⟩ (.take 3 ⟨(some 16), none, .q (.mv (.t 1))⟩ (.one ⟨(some 14), none, .c (.call 49 [(.t 13)])⟩ [0] (.one ⟨(some 17), none, .c (.call 40 [(.t 15), (.c (.int .i64 0)), (.t 16)])⟩ [2] (.take 5 ⟨(some 18), none, .q (.len (.t 17))⟩ (.one ⟨(some 19), none, .c (.call 48 [(.t 14), (.t 18)])⟩ [] (.take 7 ⟨(some 4), none, .q (.mv (.t 19))⟩ (.take 8 ⟨(some 5), none, .q (.mv (.c (.int .i64 0)))⟩ .done))))))))))
 .ret)))⟩
theorem l_impl_BallBound : lowF PA f_impl_BallBound 2 [.s (.take 0 (.take 2 (.take 3 (.one 1 (.one 4 (.take 5 (.one 6 (.take 7 (.take 8 .done)))))))))] = some c_impl_BallBound := by kernel_rfl
abbrev f_impl_CountWords : FuncId := 19
def c_impl_CountWords : AF := ⟨1, 9, [.t 2, .t 3],
 (.seq (.reg [⟨(some 1), none, .m (.box (.t 0))⟩,
 ⟨(some 2), none, .q (.mv (.c (.int .i64 0)))⟩,
 ⟨(some 3), none, .q (.mv (.c (.int .i64 0)))⟩])
 (.seq (.seq (.reg [⟨(some 4), none, .q (.ld true 1 (.t 1))⟩,
 ⟨(some 5), none, .c (.call 50 [(.t 4)])⟩,
 ⟨(some 6), none, .q (.un .not (.t 5))⟩])
 (.cond (.t 6)
 (.seq (.reg [⟨(some 2), none, .q (.mv (.c (.int .i64 0)))⟩,
 ⟨(some 3), none, .q (.mv (.c (.int .i64 1)))⟩])
 .ret)
 .skip))
 (.seq (.reg [⟨(some 7), none, .q (.ld true 1 (.t 1))⟩,
 ⟨(some 8), none, .c (.call 49 [(.t 7)])⟩,
 ⟨(some 2), none, .q (.mv (.t 8))⟩,
 ⟨(some 3), none, .q (.mv (.c (.int .i64 0)))⟩])
 .ret)))⟩
theorem l_impl_CountWords : lowF PA f_impl_CountWords 1 [] = some c_impl_CountWords := by kernel_rfl
abbrev f_impl_BallSize : FuncId := 20
def c_impl_BallSize : AF := ⟨2, 17, [.t 4, .t 5],
 (.seq (.reg [⟨(some 2), none, .m (.box (.t 0))⟩,
 ⟨(some 4), none, .q (.mv (.c (.int .i64 0)))⟩,
 ⟨(some 5), none, .q (.mv (.c (.int .i64 0)))⟩])
 (.seq (.seq (.reg [⟨(some 7), none, .q (.ld true 1 (.t 2))⟩,
 ⟨(some 8), none, .q (.mv (.t 1))⟩,
 ⟨(some 9), none, .c (.call 37 [(.t 7), (.c (.int .i64 0)), (.t 8)])⟩,
 ⟨(some 6), none, .q (.mv (.t 9))⟩])
 (.seq (.reg [⟨(some 10), none, .q (.mv (.t 6))⟩,
 ⟨(some 11), none, .q (.bin .neq (.t 10) (.c (.int .i64 0)))⟩])
 (.cond (.t 11)
 (.seq (.reg [⟨(some 12), none, .q (.mv (.t 6))⟩,
 ⟨(some 4), none, .q (.mv (.c (.int .i64 0)))⟩,
 ⟨(some 5), none, .q (.mv (.t 12))⟩])
 .ret)
 .skip)))
 (.seq (.reg [⟨(some 13), none, .q (.ld true 1 (.t 2))⟩,
 ⟨(some 14), none, .q (.mv (.t 1))⟩,
 ⟨(some 15), none, .c (.call 40 [(.t 13), (.c (.int .i64 0)), (.t 14)])⟩,
 ⟨(some 16), none, .q (.len (.t 15))⟩,
 ⟨(some 4), none, .q (.mv (.t 16))⟩,
 ⟨(some 5), none, .q (.mv (.c (.int .i64 0)))⟩])
 .ret)))⟩
theorem l_impl_BallSize : lowF PA f_impl_BallSize 2 [] = some c_impl_BallSize := by kernel_rfl
abbrev f_laws_sum : FuncId := 21
def c_laws_sum : AF := ⟨1, 18, [.t 2],
 (.seq (.reg [⟨(some 2), none, .q (.mv (.c (.int .i64 0)))⟩])
 (.seq (.reg [⟨(some 3), none, .q (.mv (.c (.int .i64 0)))⟩])
 (.seq (.seq (.reg [⟨(some 4), none, .q (.mv (.c (.int .i64 0)))⟩])
 (.block 0 (.loop [0, 3, 4] (.seq (.seq (.reg [⟨(some 5), none, .q (.mv (.t 4))⟩,
 ⟨(some 6), none, .q (.mv (.t 0))⟩,
 ⟨(some 7), none, .q (.len (.t 6))⟩,
 ⟨(some 8), none, .q (.bin .lss (.t 5) (.t 7))⟩])
 (.cond (.t 8)
 .skip
 (.exit 0)))
 (.seq (.block 1 (.reg [⟨(some 11), none, .q (.mv (.t 3))⟩,
 ⟨(some 12), none, .q (.mv (.t 0))⟩,
 ⟨(some 13), none, .q (.mv (.t 4))⟩,
 ⟨(some 14), none, .q (.ixs 1 (.t 12) (.t 13))⟩,
 ⟨(some 15), none, .q (.ld false 1 (.t 14))⟩,
 ⟨(some 16), none, .q (.bin .add (.t 11) (.t 15))⟩,
 ⟨(some 3), none, .q (.mv (.t 16))⟩]))
 (.reg [⟨(some 9), none, .q (.mv (.t 4))⟩,
 ⟨(some 10), none, .q (.bin .add (.t 9) (.c (.int .i64 1)))⟩,
 ⟨(some 4), none, .q (.mv (.t 10))⟩]))))))
 (.seq (.reg [⟨(some 17), none, .q (.mv (.t 3))⟩,
 ⟨(some 2), none, .q (.mv (.t 17))⟩])
 .ret))))⟩
theorem l_laws_sum : lowF PA f_laws_sum 1 [.k [0, 3, 4]] = some c_laws_sum := by kernel_rfl
abbrev f_spec_l02With : FuncId := 22
def c_spec_l02With : AF := ⟨1, 40, [.c 2 true 1, .t 3, .t 4],
 (.seq (.reg [⟨(some 2), none, .m (.alloc [(.v (.slice none 0 0))])⟩,
 ⟨(some 3), none, .q (.mv (.c (.slice none 0 0)))⟩,
 ⟨(some 4), none, .q (.mv (.c (.int .i64 0)))⟩])
 (.seq (.reg [⟨(some 9), none, .q (.mv (.t 0))⟩,
 ⟨(some 10), none, .c (.call 27 [(.t 9)])⟩,
 ⟨(some 5), none, .q (.mv (.t 10))⟩])
 (.seq (.reg [⟨(some 11), none, .q (.mv (.t 5))⟩,
 ⟨(some 12), none, .c (.call 36 [(.t 11)])⟩,
 ⟨(some 6), none, .m (.alloc [(.v (.slice none 0 0))])⟩,
 ⟨none, none, .m (.st true 1 (.t 6) (.t 12))⟩])
 (.seq (.reg [⟨(some 13), none, .q (.mv (.t 5))⟩,
 ⟨(some 14), none, .q (.ld true 1 (.t 6))⟩,
 ⟨(some 15), none, .c (.call 51 [(.t 13), (.t 14)])⟩,
 ⟨(some 7), none, .q (.mv (.t 15))⟩])
 (.seq (.reg [⟨(some 16), none, .q (.mv (.t 5))⟩,
 ⟨(some 17), none, .q (.mv (.t 5))⟩,
 ⟨(some 18), none, .c (.call 30 [(.t 17), (.c (.int .i64 8))])⟩,
 ⟨(some 19), none, .m (.bsl 1 [(.c (.int .i64 0)), (.c (.int .i64 1)), (.c (.int .i64 1)), (.c (.int .i64 1)), (.c (.int .i64 2)), (.t 18)])⟩,
 ⟨(some 20), none, .c (.call 29 [(.t 16), (.t 19)])⟩,
 ⟨(some 8), none, .q (.mv (.t 20))⟩])
 (.seq (.seq (.reg [⟨(some 21), none, .q (.mv (.t 5))⟩,
 ⟨(some 22), none, .c (.call 52 [(.t 21), (.c (.int .i64 4))])⟩,
 ⟨(some 23), none, .q (.bin .eql (.t 22) (.c (.int .i64 0)))⟩])
 (.cond (.t 23)
 (.reg [⟨(some 25), none, .q (.ld true 1 (.t 6))⟩,
 ⟨(some 26), none, .q (.mv (.t 8))⟩,
 ⟨(some 27), none, .q (.mn (.t 26) (.c (.int .i64 8)))⟩,
 ⟨(some 28), none, .q (.mx (.t 27) (.c (.int .i64 1)))⟩,
 ⟨(some 29), none, .c (.call 16 [(.t 25), (.t 28)])⟩,
 ⟨(some 24), none, .q (.mv (.t 29))⟩,
 ⟨(some 30), none, .q (.ext (.t 24) 0)⟩,
 ⟨(some 31), none, .q (.ext (.t 24) 1)⟩,
 ⟨(some 7), none, .q (.mv (.t 30))⟩])
 .skip))
 (.seq (.sch (.take 0 ⟨(some 32), none, .q (.mv (.t 5))⟩ (.take 1 ⟨(some 33), none, .q (.ld true 1 (.t 6))⟩ (.take 3 ⟨(some 35), none, .q (.mv (.t 5))⟩ (.take 4 ⟨(some 36), none, .q (.ld true 1 (.t 6))⟩ (.take 5 ⟨(some 37), none, .q (.mv (.t 7))⟩ (.take 7 ⟨(some 39), none, .q (.mv (.t 8))⟩ (.one ⟨(some 34), none, .c (.call 35 [(.t 32), (.t 33)])⟩ [1] (.one ⟨(some 38), none, .c (.call 53 [(.t 35), (.t 36), (.t 37)])⟩ [4] (.one ⟨none, none, .m (.st true 1 (.t 2) (.t 34))⟩ [1] (.take 9 ⟨(some 3), none, .q (.mv (.t 38))⟩ (.take 10 ⟨(some 4), none, .q (.mv (.t 39))⟩ .done))))))))))))
 .ret)))))))⟩
theorem l_spec_l02With : lowF PA f_spec_l02With 1 [.s (.take 0 (.take 1 (.take 3 (.take 4 (.take 5 (.take 7 (.one 2 (.one 6 (.one 8 (.take 9 (.take 10 .done)))))))))))] = some c_spec_l02With := by kernel_rfl
abbrev f_impl_coverCode : FuncId := 23
def c_impl_coverCode : AF := ⟨3, 17, [.t 6],
 (.seq (.reg [⟨(some 3), none, .m (.box (.t 0))⟩,
 ⟨(some 6), none, .q (.mv (.c (.int .i64 0)))⟩])
 (.seq (.seq (.reg [⟨(some 8), none, .q (.ld true 1 (.t 3))⟩,
 ⟨(some 9), none, .q (.mv (.t 1))⟩,
 ⟨(some 10), none, .c (.call 31 [(.t 8), (.t 9), (.c (.slice none 0 0))])⟩,
 ⟨(some 7), none, .q (.mv (.t 10))⟩])
 (.seq (.reg [⟨(some 11), none, .q (.mv (.t 7))⟩,
 ⟨(some 12), none, .q (.bin .neq (.t 11) (.c (.int .i64 0)))⟩])
 (.cond (.t 12)
 (.seq (.reg [⟨(some 13), none, .q (.mv (.t 7))⟩,
 ⟨(some 6), none, .q (.mv (.t 13))⟩])
 .ret)
 .skip)))
 (.seq (.seq (.reg [⟨(some 14), none, .q (.mv (.t 2))⟩,
 ⟨(some 15), none, .c (.call 32 [(.t 14)])⟩,
 ⟨(some 16), none, .q (.un .not (.t 15))⟩])
 (.cond (.t 16)
 (.seq (.reg [⟨(some 6), none, .q (.mv (.c (.int .i64 2)))⟩])
 .ret)
 .skip))
 (.seq (.reg [⟨(some 6), none, .q (.mv (.c (.int .i64 0)))⟩])
 .ret))))⟩
theorem l_impl_coverCode : lowF PA f_impl_coverCode 3 [] = some c_impl_coverCode := by kernel_rfl
abbrev f_impl_times : FuncId := 24
def c_impl_times : AF := ⟨3, 48, [.t 6],
 (.seq (.reg [⟨(some 3), none, .m (.box (.t 0))⟩,
 ⟨(some 6), none, .q (.mv (.c (.slice none 0 0)))⟩])
 (.seq (.sch (.take 0 ⟨(some 13), none, .q (.ld true 1 (.t 3))⟩ (.take 2 ⟨(some 15), none, .q (.ld true 1 (.t 3))⟩ (.one ⟨(some 14), none, .c (.call 38 [(.t 13)])⟩ [0] (.one ⟨(some 16), none, .c (.call 49 [(.t 15)])⟩ [2] (.take 5 ⟨(some 7), none, .q (.mv (.t 14))⟩ (.one ⟨(some 17), none, .m (.mks 1 (.v (.int .i64 0)) 8 (.t 16) (.t 16))⟩ [] (.take 6 ⟨(some 8), none, .q (.mv (.t 17))⟩ .done))))))))
 (.seq (.seq (.reg [⟨(some 18), none, .q (.mv (.t 1))⟩,
 ⟨(some 19), none, .q (.len (.t 18))⟩,
 ⟨(some 20), none, .q (.mv (.c (.int .i64 0)))⟩])
 (.block 0 (.loop [2, 7, 8, 18, 19, 20] (.seq (.reg [⟨(some 21), none, .q (.bin .lss (.t 20) (.t 19))⟩])
 (.seq (.cond (.t 21)
 .skip
 (.exit 0))
 (.seq (.block 1 (.seq (.reg [⟨(some 22), none, .q (.ixs 1 (.t 18) (.t 20))⟩,
 ⟨(some 23), none, .q (.ld false 1 (.t 22))⟩,
 ⟨(some 10), none, .q (.mv (.t 23))⟩])
 (.seq (.reg [⟨(some 24), none, .q (.mv (.t 7))⟩,
 ⟨(some 25), none, .q (.len (.t 24))⟩,
 ⟨(some 26), none, .q (.mv (.c (.int .i64 0)))⟩])
 (.block 2 (.loop [2, 7, 8, 10, 18, 19, 20, 24, 25, 26] (.seq (.reg [⟨(some 27), none, .q (.bin .lss (.t 26) (.t 25))⟩])
 (.seq (.cond (.t 27)
 .skip
 (.exit 2))
 (.seq (.block 3 (.seq (.reg [⟨(some 28), none, .q (.mv (.t 26))⟩,
 ⟨(some 29), none, .q (.ixs 8 (.t 24) (.t 26))⟩,
 ⟨(some 30), none, .q (.ld true 8 (.t 29))⟩,
 ⟨(some 12), none, .m (.alloc [(.v (.int .u8 0)), (.v (.int .u8 0)), (.v (.int .u8 0)), (.v (.int .u8 0)), (.v (.int .u8 0)), (.v (.int .u8 0)), (.v (.int .u8 0)), (.v (.int .u8 0))])⟩,
 ⟨(some 11), none, .q (.mv (.t 28))⟩,
 ⟨none, none, .m (.st true 8 (.t 12) (.t 30))⟩])
 (.seq (.sch (.take 0 ⟨(some 31), none, .q (.mv (.t 7))⟩ (.take 1 ⟨(some 32), none, .q (.mv (.t 10))⟩ (.take 2 ⟨(some 33), none, .q (.ixs 8 (.t 31) (.t 32))⟩ (.take 3 ⟨(some 34), none, .q (.ld true 8 (.t 33))⟩ (.take 4 ⟨(some 35), none, .q (.ld true 8 (.t 12))⟩ (.take 6 ⟨(some 37), none, .q (.mv (.t 2))⟩ (.one ⟨(some 36), none, .c (.call 42 [(.t 34), (.t 35)])⟩ [4, 3] (.take 7 ⟨(some 38), none, .q (.bin .leq (.t 36) (.t 37))⟩ .done)))))))))
 (.cond (.t 38)
 (.reg [⟨(some 39), none, .q (.mv (.t 8))⟩,
 ⟨(some 40), none, .q (.mv (.t 11))⟩,
 ⟨(some 41), none, .q (.ixs 1 (.t 39) (.t 40))⟩,
 ⟨(some 42), none, .q (.ld false 1 (.t 41))⟩,
 ⟨(some 43), none, .q (.bin .add (.t 42) (.c (.int .i64 1)))⟩,
 ⟨(some 44), none, .q (.ixs 1 (.t 39) (.t 40))⟩,
 ⟨none, none, .m (.st false 1 (.t 44) (.t 43))⟩])
 .skip))))
 (.reg [⟨(some 45), none, .q (.bin .add (.t 26) (.c (.int .i64 1)))⟩,
 ⟨(some 26), none, .q (.mv (.t 45))⟩])))))))))
 (.reg [⟨(some 46), none, .q (.bin .add (.t 20) (.c (.int .i64 1)))⟩,
 ⟨(some 20), none, .q (.mv (.t 46))⟩])))))))
 (.seq (.reg [⟨(some 47), none, .q (.mv (.t 8))⟩,
 ⟨(some 6), none, .q (.mv (.t 47))⟩])
 .ret))))⟩
theorem l_impl_times : lowF PA f_impl_times 3 [.s (.take 0 (.take 2 (.one 1 (.one 3 (.take 5 (.one 4 (.take 6 .done))))))), .k [2, 7, 8, 18, 19, 20], .k [2, 7, 8, 10, 18, 19, 20, 24, 25, 26], .s (.take 0 (.take 1 (.take 2 (.take 3 (.take 4 (.take 6 (.one 5 (.take 7 .done))))))))] = some c_impl_times := by kernel_rfl
abbrev f_spec_l02Code : FuncId := 25
def c_spec_l02Code : AF := ⟨3, 19, [.t 6],
 (.seq (.reg [⟨(some 3), none, .m (.box (.t 0))⟩,
 ⟨(some 6), none, .q (.mv (.c (.int .i64 0)))⟩])
 (.seq (.reg [⟨(some 8), none, .q (.ld true 1 (.t 3))⟩,
 ⟨(some 9), none, .q (.mv (.t 1))⟩,
 ⟨(some 10), none, .c (.call 54 [(.t 8), (.t 9)])⟩,
 ⟨(some 7), none, .q (.mv (.t 10))⟩])
 (.seq (.seq (.reg [⟨(some 11), none, .q (.mv (.t 7))⟩,
 ⟨(some 12), none, .q (.bin .eql (.t 11) (.c (.int .i64 0)))⟩,
 ⟨(some 13), none, .q (.mv (.t 12))⟩,
 ⟨(some 14), (some (13, true)), .q (.mv (.t 2))⟩,
 ⟨(some 15), (some (13, true)), .c (.call 33 [(.t 14), (.c (.int .i64 0)), (.c (.int .i64 8))])⟩,
 ⟨(some 16), (some (13, true)), .q (.un .not (.t 15))⟩,
 ⟨(some 17), none, .q (.pick (.t 13) (.t 16) (.c (.bool false)))⟩])
 (.cond (.t 17)
 (.reg [⟨(some 7), none, .q (.mv (.c (.int .i64 2)))⟩])
 .skip))
 (.seq (.reg [⟨(some 18), none, .q (.mv (.t 7))⟩,
 ⟨(some 6), none, .q (.mv (.t 18))⟩])
 .ret))))⟩
theorem l_spec_l02Code : lowF PA f_spec_l02Code 3 [] = some c_spec_l02Code := by kernel_rfl
abbrev f_spec_l02Times : FuncId := 26
def c_spec_l02Times : AF := ⟨3, 43, [.t 6],
 (.seq (.reg [⟨(some 3), none, .m (.box (.t 0))⟩,
 ⟨(some 6), none, .q (.mv (.c (.slice none 0 0)))⟩])
 (.seq (.reg [⟨(some 11), none, .q (.ld true 1 (.t 3))⟩,
 ⟨(some 12), none, .c (.call 34 [(.t 11)])⟩,
 ⟨(some 13), none, .m (.mks 1 (.v (.int .i64 0)) 8 (.t 12) (.t 12))⟩,
 ⟨(some 7), none, .q (.mv (.t 13))⟩])
 (.seq (.seq (.reg [⟨(some 8), none, .q (.mv (.c (.int .i64 0)))⟩])
 (.block 0 (.loop [1, 2, 3, 7, 8] (.seq (.seq (.reg [⟨(some 14), none, .q (.mv (.t 8))⟩,
 ⟨(some 15), none, .q (.mv (.t 1))⟩,
 ⟨(some 16), none, .q (.len (.t 15))⟩,
 ⟨(some 17), none, .q (.bin .lss (.t 14) (.t 16))⟩])
 (.cond (.t 17)
 .skip
 (.exit 0)))
 (.seq (.block 1 (.seq (.sch (.take 0 ⟨(some 20), none, .q (.ld true 1 (.t 3))⟩ (.take 1 ⟨(some 21), none, .q (.mv (.t 1))⟩ (.take 2 ⟨(some 22), none, .q (.mv (.t 8))⟩ (.take 3 ⟨(some 23), none, .q (.ixs 1 (.t 21) (.t 22))⟩ (.take 4 ⟨(some 24), none, .q (.ld false 1 (.t 23))⟩ (.take 5 ⟨(some 25), none, .q (.mv (.t 2))⟩ (.one ⟨(some 26), none, .c (.call 46 [(.t 20), (.t 24), (.t 25)])⟩ [4, 0] (.take 7 ⟨(some 9), none, .q (.mv (.t 26))⟩ .done)))))))))
 (.seq (.reg [⟨(some 10), none, .q (.mv (.c (.int .i64 0)))⟩])
 (.block 2 (.loop [1, 2, 3, 7, 8, 9, 10] (.seq (.seq (.reg [⟨(some 27), none, .q (.mv (.t 10))⟩,
 ⟨(some 28), none, .q (.mv (.t 9))⟩,
 ⟨(some 29), none, .q (.len (.t 28))⟩,
 ⟨(some 30), none, .q (.bin .lss (.t 27) (.t 29))⟩])
 (.cond (.t 30)
 .skip
 (.exit 2)))
 (.seq (.block 3 (.reg [⟨(some 33), none, .q (.mv (.t 7))⟩,
 ⟨(some 34), none, .q (.mv (.t 9))⟩,
 ⟨(some 35), none, .q (.mv (.t 10))⟩,
 ⟨(some 36), none, .q (.ixs 1 (.t 34) (.t 35))⟩,
 ⟨(some 37), none, .q (.ld false 1 (.t 36))⟩,
 ⟨(some 38), none, .q (.ixs 1 (.t 33) (.t 37))⟩,
 ⟨(some 39), none, .q (.ld false 1 (.t 38))⟩,
 ⟨(some 40), none, .q (.bin .add (.t 39) (.c (.int .i64 1)))⟩,
 ⟨(some 41), none, .q (.ixs 1 (.t 33) (.t 37))⟩,
 ⟨none, none, .m (.st false 1 (.t 41) (.t 40))⟩]))
 (.reg [⟨(some 31), none, .q (.mv (.t 10))⟩,
 ⟨(some 32), none, .q (.bin .add (.t 31) (.c (.int .i64 1)))⟩,
 ⟨(some 10), none, .q (.mv (.t 32))⟩]))))))))
 (.reg [⟨(some 18), none, .q (.mv (.t 8))⟩,
 ⟨(some 19), none, .q (.bin .add (.t 18) (.c (.int .i64 1)))⟩,
 ⟨(some 8), none, .q (.mv (.t 19))⟩]))))))
 (.seq (.reg [⟨(some 42), none, .q (.mv (.t 7))⟩,
 ⟨(some 6), none, .q (.mv (.t 42))⟩])
 .ret))))⟩
theorem l_spec_l02Times : lowF PA f_spec_l02Times 3 [.k [1, 2, 3, 7, 8], .s (.take 0 (.take 1 (.take 2 (.take 3 (.take 4 (.take 5 (.one 6 (.take 7 .done)))))))), .k [1, 2, 3, 7, 8, 9, 10]] = some c_spec_l02Times := by kernel_rfl
abbrev f_spec_l01From : FuncId := 27
def c_spec_l01From : AF := ⟨1, 38, [.t 2],
 (.seq (.reg [⟨(some 2), none, .q (.mv (.c (.pointer none)))⟩])
 (.seq (.reg [⟨(some 5), none, .q (.mv (.t 0))⟩,
 ⟨(some 6), none, .q (.mv (.t 0))⟩,
 ⟨(some 7), none, .q (.len (.t 6))⟩,
 ⟨(some 8), none, .q (.cvt .u64 (.t 7))⟩,
 ⟨(some 9), none, .q (.bin .add (.c (.int .u64 14111)) (.t 8))⟩,
 ⟨(some 10), none, .q (.bld [(.v (.slice none 0 0)), (.v (.int .i64 0)), (.v (.int .u64 0))] [(0, (.t 5)), (2, (.t 9))])⟩,
 ⟨(some 11), none, .m (.box (.t 10))⟩,
 ⟨(some 3), none, .q (.mv (.t 11))⟩])
 (.seq (.seq (.reg [⟨(some 4), none, .q (.mv (.c (.int .i64 0)))⟩])
 (.block 0 (.loop [0, 3, 4] (.seq (.seq (.reg [⟨(some 12), none, .q (.mv (.t 4))⟩,
 ⟨(some 13), none, .q (.mv (.t 0))⟩,
 ⟨(some 14), none, .q (.len (.t 13))⟩,
 ⟨(some 15), none, .q (.bin .lss (.t 12) (.t 14))⟩,
 ⟨(some 16), none, .q (.mv (.t 15))⟩,
 ⟨(some 17), (some (16, true)), .q (.mv (.t 4))⟩,
 ⟨(some 18), (some (16, true)), .q (.bin .lss (.t 17) (.c (.int .i64 4096)))⟩,
 ⟨(some 19), none, .q (.pick (.t 16) (.t 18) (.c (.bool false)))⟩])
 (.cond (.t 19)
 .skip
 (.exit 0)))
 (.seq (.block 1 (.sch (.take 0 ⟨(some 22), none, .q (.mv (.t 3))⟩ (.take 1 ⟨(some 23), none, .q (.mv (.t 3))⟩ (.take 2 ⟨(some 24), none, .q (.nlc (.t 23))⟩ (.take 3 ⟨(some 25), none, .q (.fad 2 (.t 24))⟩ (.take 4 ⟨(some 26), none, .q (.ld false 1 (.t 25))⟩ (.take 5 ⟨(some 27), none, .q (.bin .mul (.t 26) (.c (.int .u64 1099511628211)))⟩ (.take 6 ⟨(some 28), none, .q (.mv (.t 0))⟩ (.take 7 ⟨(some 29), none, .q (.mv (.t 4))⟩ (.take 8 ⟨(some 30), none, .q (.ixs 1 (.t 28) (.t 29))⟩ (.take 9 ⟨(some 31), none, .q (.ld false 1 (.t 30))⟩ (.take 10 ⟨(some 32), none, .q (.cvt .u64 (.t 31))⟩ (.take 11 ⟨(some 33), none, .q (.bin .add (.t 27) (.t 32))⟩ (.take 12 ⟨(some 34), none, .q (.bin .add (.t 33) (.c (.int .u64 251)))⟩ (.take 13 ⟨(some 35), none, .q (.nlc (.t 22))⟩ (.take 14 ⟨(some 36), none, .q (.fad 2 (.t 35))⟩ (.one ⟨none, none, .m (.st false 1 (.t 36) (.t 34))⟩ [9, 4] .done))))))))))))))))))
 (.reg [⟨(some 20), none, .q (.mv (.t 4))⟩,
 ⟨(some 21), none, .q (.bin .add (.t 20) (.c (.int .i64 1)))⟩,
 ⟨(some 4), none, .q (.mv (.t 21))⟩]))))))
 (.seq (.reg [⟨(some 37), none, .q (.mv (.t 3))⟩,
 ⟨(some 2), none, .q (.mv (.t 37))⟩])
 .ret))))⟩
theorem l_spec_l01From : lowF PA f_spec_l01From 1 [.k [0, 3, 4], .s (.take 0 (.take 1 (.take 2 (.take 3 (.take 4 (.take 5 (.take 6 (.take 7 (.take 8 (.take 9 (.take 10 (.take 11 (.take 12 (.take 13 (.take 14 (.one 15 .done))))))))))))))))] = some c_spec_l01From := by kernel_rfl
abbrev f_spec_l02Word : FuncId := 28
def c_spec_l02Word : AF := ⟨1, 28, [.c 2 true 1, .t 3, .t 4],
 (.seq (.reg [⟨(some 2), none, .m (.alloc [(.v (.slice none 0 0))])⟩,
 ⟨(some 3), none, .q (.mv (.c (.slice none 0 0)))⟩,
 ⟨(some 4), none, .q (.mv (.c (.int .i64 0)))⟩])
 (.seq (.reg [⟨(some 10), none, .q (.mv (.t 0))⟩,
 ⟨(some 11), none, .c (.call 27 [(.t 10)])⟩,
 ⟨(some 5), none, .q (.mv (.t 11))⟩])
 (.seq (.reg [⟨(some 13), none, .q (.mv (.t 0))⟩,
 ⟨(some 14), none, .c (.call 22 [(.t 13)])⟩,
 ⟨(some 12), none, .q (.mv (.t 14))⟩,
 ⟨(some 15), none, .q (.ext (.t 12) 0)⟩,
 ⟨(some 16), none, .q (.ext (.t 12) 1)⟩,
 ⟨(some 17), none, .q (.ext (.t 12) 2)⟩,
 ⟨(some 6), none, .m (.alloc [(.v (.slice none 0 0))])⟩,
 ⟨none, none, .m (.st true 1 (.t 6) (.t 15))⟩,
 ⟨(some 7), none, .q (.mv (.t 16))⟩,
 ⟨(some 8), none, .q (.mv (.t 17))⟩])
 (.seq (.reg [⟨(some 9), none, .q (.mv (.c (.int .i64 3)))⟩])
 (.seq (.seq (.reg [⟨(some 18), none, .q (.ld true 1 (.t 6))⟩,
 ⟨(some 19), none, .c (.call 43 [(.t 18)])⟩])
 (.cond (.t 19)
 (.reg [⟨(some 20), none, .q (.ld true 1 (.t 6))⟩,
 ⟨(some 21), none, .c (.call 34 [(.t 20)])⟩,
 ⟨(some 22), none, .q (.bin .sub (.t 21) (.c (.int .i64 1)))⟩,
 ⟨(some 9), none, .q (.mv (.t 22))⟩])
 .skip))
 (.seq (.sch (.take 0 ⟨(some 23), none, .q (.ld true 1 (.t 6))⟩ (.take 1 ⟨(some 24), none, .q (.mv (.t 7))⟩ (.take 2 ⟨(some 25), none, .q (.mv (.t 5))⟩ (.take 3 ⟨(some 26), none, .q (.mv (.t 9))⟩ (.one ⟨(some 27), none, .c (.call 30 [(.t 25), (.t 26)])⟩ [] (.one ⟨none, none, .m (.st true 1 (.t 2) (.t 23))⟩ [0] (.take 6 ⟨(some 3), none, .q (.mv (.t 24))⟩ (.take 7 ⟨(some 4), none, .q (.mv (.t 27))⟩ .done)))))))))
 .ret))))))⟩
theorem l_spec_l02Word : lowF PA f_spec_l02Word 1 [.s (.take 0 (.take 1 (.take 2 (.take 3 (.one 4 (.one 5 (.take 6 (.take 7 .done))))))))] = some c_spec_l02Word := by kernel_rfl
abbrev f_spec_l01Pick : FuncId := 29
def c_spec_l01Pick : AF := ⟨2, 12, [.t 4],
 (.seq (.reg [⟨(some 4), none, .q (.mv (.c (.int .i64 0)))⟩])
 (.seq (.reg [⟨(some 5), none, .q (.mv (.t 1))⟩,
 ⟨(some 6), none, .q (.mv (.t 0))⟩,
 ⟨(some 7), none, .q (.mv (.t 1))⟩,
 ⟨(some 8), none, .q (.len (.t 7))⟩,
 ⟨(some 9), none, .c (.call 52 [(.t 6), (.t 8)])⟩,
 ⟨(some 10), none, .q (.ixs 1 (.t 5) (.t 9))⟩,
 ⟨(some 11), none, .q (.ld false 1 (.t 10))⟩,
 ⟨(some 4), none, .q (.mv (.t 11))⟩])
 .ret))⟩
theorem l_spec_l01Pick : lowF PA f_spec_l01Pick 2 [] = some c_spec_l01Pick := by kernel_rfl
abbrev f_spec_l01Near : FuncId := 30
def c_spec_l01Near : AF := ⟨2, 17, [.t 4],
 (.seq (.reg [⟨(some 4), none, .q (.mv (.c (.int .i64 0)))⟩])
 (.seq (.seq (.reg [⟨(some 5), none, .q (.mv (.t 0))⟩,
 ⟨(some 6), none, .c (.call 52 [(.t 5), (.c (.int .i64 14))])⟩,
 ⟨(some 7), none, .q (.bin .eql (.t 6) (.c (.int .i64 0)))⟩])
 (.cond (.t 7)
 (.seq (.reg [⟨(some 8), none, .q (.mv (.t 0))⟩,
 ⟨(some 9), none, .q (.mv (.t 1))⟩,
 ⟨(some 10), none, .q (.bin .add (.t 9) (.c (.int .i64 1)))⟩,
 ⟨(some 11), none, .m (.bsl 1 [(.c (.int .i64 (-1))), (.t 10), (.c (.int .i64 1099511627776)), (.c (.int .i64 (-4611686018427387904)))])⟩,
 ⟨(some 12), none, .c (.call 29 [(.t 8), (.t 11)])⟩,
 ⟨(some 4), none, .q (.mv (.t 12))⟩])
 .ret)
 .skip))
 (.seq (.reg [⟨(some 13), none, .q (.mv (.t 0))⟩,
 ⟨(some 14), none, .q (.mv (.t 1))⟩,
 ⟨(some 15), none, .q (.bin .add (.t 14) (.c (.int .i64 1)))⟩,
 ⟨(some 16), none, .c (.call 52 [(.t 13), (.t 15)])⟩,
 ⟨(some 4), none, .q (.mv (.t 16))⟩])
 .ret)))⟩
theorem l_spec_l01Near : lowF PA f_spec_l01Near 2 [] = some c_spec_l01Near := by kernel_rfl
abbrev f_impl_codeCode : FuncId := 31
def c_impl_codeCode : AF := ⟨3, 18, [.t 6],
 (.seq (.reg [⟨(some 3), none, .m (.box (.t 0))⟩,
 ⟨(some 6), none, .q (.mv (.c (.int .i64 0)))⟩])
 (.seq (.seq (.reg [⟨(some 8), none, .q (.ld true 1 (.t 3))⟩,
 ⟨(some 9), none, .q (.mv (.t 2))⟩,
 ⟨(some 10), none, .c (.call 55 [(.t 8), (.t 9)])⟩,
 ⟨(some 7), none, .q (.mv (.t 10))⟩])
 (.seq (.reg [⟨(some 11), none, .q (.mv (.t 7))⟩,
 ⟨(some 12), none, .q (.bin .neq (.t 11) (.c (.int .i64 0)))⟩])
 (.cond (.t 12)
 (.seq (.reg [⟨(some 13), none, .q (.mv (.t 7))⟩,
 ⟨(some 6), none, .q (.mv (.t 13))⟩])
 .ret)
 .skip)))
 (.seq (.seq (.reg [⟨(some 14), none, .q (.ld true 1 (.t 3))⟩,
 ⟨(some 15), none, .q (.mv (.t 1))⟩,
 ⟨(some 16), none, .c (.call 56 [(.t 14), (.t 15)])⟩,
 ⟨(some 17), none, .q (.un .not (.t 16))⟩])
 (.cond (.t 17)
 (.seq (.reg [⟨(some 6), none, .q (.mv (.c (.int .i64 2)))⟩])
 .ret)
 .skip))
 (.seq (.reg [⟨(some 6), none, .q (.mv (.c (.int .i64 0)))⟩])
 .ret))))⟩
theorem l_impl_codeCode : lowF PA f_impl_codeCode 3 [] = some c_impl_codeCode := by kernel_rfl
abbrev f_impl_isRadius : FuncId := 32
def c_impl_isRadius : AF := ⟨1, 9, [.t 2],
 (.seq (.reg [⟨(some 2), none, .q (.mv (.c (.bool false)))⟩])
 (.seq (.reg [⟨(some 3), none, .q (.mv (.t 0))⟩,
 ⟨(some 4), none, .q (.bin .geq (.t 3) (.c (.int .i64 0)))⟩,
 ⟨(some 5), none, .q (.mv (.t 4))⟩,
 ⟨(some 6), (some (5, true)), .q (.mv (.t 0))⟩,
 ⟨(some 7), (some (5, true)), .q (.bin .leq (.t 6) (.c (.int .i64 8)))⟩,
 ⟨(some 8), none, .q (.pick (.t 5) (.t 7) (.c (.bool false)))⟩,
 ⟨(some 2), none, .q (.mv (.t 8))⟩])
 .ret))⟩
theorem l_impl_isRadius : lowF PA f_impl_isRadius 1 [] = some c_impl_isRadius := by kernel_rfl
abbrev f_spec_l01In : FuncId := 33
def c_spec_l01In : AF := ⟨3, 15, [.t 6],
 (.seq (.reg [⟨(some 6), none, .q (.mv (.c (.bool false)))⟩])
 (.seq (.reg [⟨(some 7), none, .q (.mv (.t 0))⟩,
 ⟨(some 8), none, .q (.mv (.t 1))⟩,
 ⟨(some 9), none, .q (.bin .geq (.t 7) (.t 8))⟩,
 ⟨(some 10), none, .q (.mv (.t 9))⟩,
 ⟨(some 11), (some (10, true)), .q (.mv (.t 0))⟩,
 ⟨(some 12), (some (10, true)), .q (.mv (.t 2))⟩,
 ⟨(some 13), (some (10, true)), .q (.bin .leq (.t 11) (.t 12))⟩,
 ⟨(some 14), none, .q (.pick (.t 10) (.t 13) (.c (.bool false)))⟩,
 ⟨(some 6), none, .q (.mv (.t 14))⟩])
 .ret))⟩
theorem l_spec_l01In : lowF PA f_spec_l01In 3 [] = some c_spec_l01In := by kernel_rfl
abbrev f_spec_l01N : FuncId := 34
def c_spec_l01N : AF := ⟨1, 20, [.t 2],
 (.seq (.reg [⟨(some 1), none, .m (.box (.t 0))⟩,
 ⟨(some 2), none, .q (.mv (.c (.int .i64 0)))⟩])
 (.seq (.reg [⟨(some 3), none, .q (.mv (.c (.int .i64 1)))⟩])
 (.seq (.seq (.reg [⟨(some 4), none, .q (.mv (.c (.int .i64 0)))⟩])
 (.block 0 (.loop [1, 3, 4] (.seq (.seq (.reg [⟨(some 5), none, .q (.mv (.t 4))⟩,
 ⟨(some 6), none, .q (.fad 0 (.t 1))⟩,
 ⟨(some 7), none, .q (.ld false 1 (.t 6))⟩,
 ⟨(some 8), none, .q (.len (.t 7))⟩,
 ⟨(some 9), none, .q (.bin .lss (.t 5) (.t 8))⟩])
 (.cond (.t 9)
 .skip
 (.exit 0)))
 (.seq (.block 1 (.reg [⟨(some 12), none, .q (.mv (.t 3))⟩,
 ⟨(some 13), none, .q (.fad 0 (.t 1))⟩,
 ⟨(some 14), none, .q (.ld false 1 (.t 13))⟩,
 ⟨(some 15), none, .q (.mv (.t 4))⟩,
 ⟨(some 16), none, .q (.ixs 1 (.t 14) (.t 15))⟩,
 ⟨(some 17), none, .q (.ld false 1 (.t 16))⟩,
 ⟨(some 18), none, .q (.bin .mul (.t 12) (.t 17))⟩,
 ⟨(some 3), none, .q (.mv (.t 18))⟩]))
 (.reg [⟨(some 10), none, .q (.mv (.t 4))⟩,
 ⟨(some 11), none, .q (.bin .add (.t 10) (.c (.int .i64 1)))⟩,
 ⟨(some 4), none, .q (.mv (.t 11))⟩]))))))
 (.seq (.reg [⟨(some 19), none, .q (.mv (.t 3))⟩,
 ⟨(some 2), none, .q (.mv (.t 19))⟩])
 .ret))))⟩
theorem l_spec_l01N : lowF PA f_spec_l01N 1 [.k [1, 3, 4]] = some c_spec_l01N := by kernel_rfl
abbrev f_spec_l01Bad : FuncId := 35
def c_spec_l01Bad : AF := ⟨2, 42, [.c 4 true 1],
 (.seq (.reg [⟨(some 3), none, .m (.box (.t 1))⟩,
 ⟨(some 4), none, .m (.alloc [(.v (.slice none 0 0))])⟩])
 (.seq (.reg [⟨(some 6), none, .q (.fad 0 (.t 3))⟩,
 ⟨(some 7), none, .q (.ld false 1 (.t 6))⟩,
 ⟨(some 8), none, .c (.call 57 [(.t 7)])⟩,
 ⟨(some 9), none, .q (.bld [(.v (.slice none 0 0))] [(0, (.t 8))])⟩,
 ⟨(some 5), none, .m (.alloc [(.v (.slice none 0 0))])⟩,
 ⟨none, none, .m (.st true 1 (.t 5) (.t 9))⟩])
 (.seq (.seq (.reg [⟨(some 10), none, .q (.mv (.t 0))⟩,
 ⟨(some 11), none, .c (.call 52 [(.t 10), (.c (.int .i64 50))])⟩])
 (.block 0 (.seq (.reg [⟨(some 13), none, .q (.bin .eql (.t 11) (.c (.int .i64 0)))⟩,
 ⟨(some 12), none, .q (.mv (.t 13))⟩])
 (.cond (.t 12)
 (.seq (.reg [⟨(some 14), none, .q (.bld [(.v (.slice none 0 0))] [])⟩,
 ⟨none, none, .m (.st true 1 (.t 4) (.t 14))⟩])
 .ret)
 (.seq (.reg [⟨(some 16), none, .q (.bin .eql (.t 11) (.c (.int .i64 1)))⟩,
 ⟨(some 15), none, .q (.mv (.t 16))⟩])
 (.cond (.t 15)
 (.seq (.sch (.take 0 ⟨(some 17), none, .q (.fad 0 (.t 5))⟩ (.take 1 ⟨(some 18), none, .q (.ld false 1 (.t 17))⟩ (.take 2 ⟨(some 19), none, .q (.mv (.t 0))⟩ (.take 3 ⟨(some 20), none, .q (.fad 0 (.t 5))⟩ (.take 4 ⟨(some 21), none, .q (.ld false 1 (.t 20))⟩ (.take 5 ⟨(some 22), none, .q (.len (.t 21))⟩ (.take 7 ⟨(some 24), none, .q (.mv (.t 0))⟩ (.two ⟨(some 23), none, .c (.call 52 [(.t 19), (.t 22)])⟩ [] (.one ⟨(some 25), none, .m (.bsl 1 [(.c (.int .i64 1)), (.c (.int .i64 5)), (.c (.int .i64 0)), (.c (.int .i64 (-1))), (.c (.int .i64 1099511627776))])⟩ [] (.one ⟨(some 26), none, .c (.call 29 [(.t 24), (.t 25)])⟩ [] (.take 10 ⟨(some 27), none, .q (.ixs 1 (.t 18) (.t 23))⟩ (.one ⟨none, none, .m (.st false 1 (.t 27) (.t 26))⟩ [4, 1] .done)))) ⟨(some 25), none, .m (.bsl 1 [(.c (.int .i64 1)), (.c (.int .i64 5)), (.c (.int .i64 0)), (.c (.int .i64 (-1))), (.c (.int .i64 1099511627776))])⟩ [] (.one ⟨(some 23), none, .c (.call 52 [(.t 19), (.t 22)])⟩ [] (.one ⟨(some 26), none, .c (.call 29 [(.t 24), (.t 25)])⟩ [] (.take 10 ⟨(some 27), none, .q (.ixs 1 (.t 18) (.t 23))⟩ (.one ⟨none, none, .m (.st false 1 (.t 27) (.t 26))⟩ [4, 1] .done)))))))))))))
 (.seq (.reg [⟨(some 28), none, .q (.ld true 1 (.t 5))⟩,
 ⟨none, none, .m (.st true 1 (.t 4) (.t 28))⟩])
 .ret))
 (.seq (.reg [⟨(some 30), none, .q (.bin .eql (.t 11) (.c (.int .i64 2)))⟩,
 ⟨(some 29), none, .q (.mv (.t 30))⟩])
 (.cond (.t 29)
 (.seq (.block 1 (.loop [4, 5, 42] (.seq (.seq (.reg [⟨(some 31), none, .q (.fad 0 (.t 5))⟩,
 ⟨(some 32), none, .q (.ld false 1 (.t 31))⟩,
 ⟨(some 33), none, .q (.len (.t 32))⟩,
 ⟨(some 34), none, .q (.bin .lss (.t 33) (.c (.int .i64 6)))⟩])
 (.cond (.t 34)
 .skip
 (.exit 1)))
 (.block 2 (.reg [⟨(some 35), none, .q (.fad 0 (.t 5))⟩,
 ⟨(some 36), none, .q (.ld false 1 (.t 35))⟩,
 ⟨(some 37), none, .m (.bsl 1 [(.c (.int .i64 4))])⟩,
 ⟨(some 38), none, .m (.app 1 8 (.t 36) (.t 37))⟩,
 ⟨(some 39), none, .q (.fad 0 (.t 5))⟩,
 ⟨none, none, .m (.st false 1 (.t 39) (.t 38))⟩])))))
 (.seq (.reg [⟨(some 40), none, .q (.ld true 1 (.t 5))⟩,
 ⟨none, none, .m (.st true 1 (.t 4) (.t 40))⟩])
 .ret))
 .skip))))))))
 (.seq (.reg [⟨(some 41), none, .q (.ld true 1 (.t 3))⟩,
 ⟨none, none, .m (.st true 1 (.t 4) (.t 41))⟩])
 .ret))))⟩
theorem l_spec_l01Bad : lowF PA f_spec_l01Bad 2 [.s (.take 0 (.take 1 (.take 2 (.take 3 (.take 4 (.take 5 (.take 7 (.two 6 (.one 8 (.one 9 (.take 10 (.one 11 .done)))) 8 (.one 6 (.one 9 (.take 10 (.one 11 .done)))))))))))), .k [4, 5, 42]] = some c_spec_l01Bad := by kernel_rfl
abbrev f_spec_l01Small : FuncId := 36
def c_spec_l01Small : AF := ⟨1, 8, [.c 2 true 1],
 (.seq (.reg [⟨(some 2), none, .m (.alloc [(.v (.slice none 0 0))])⟩])
 (.seq (.reg [⟨(some 3), none, .q (.mv (.t 0))⟩,
 ⟨(some 4), none, .q (.mv (.t 0))⟩,
 ⟨(some 5), none, .m (.bsl 1 [(.c (.int .i64 8)), (.c (.int .i64 27)), (.c (.int .i64 81))])⟩,
 ⟨(some 6), none, .c (.call 29 [(.t 4), (.t 5)])⟩,
 ⟨(some 7), none, .c (.call 58 [(.t 3), (.t 6)])⟩,
 ⟨none, none, .m (.st true 1 (.t 2) (.t 7))⟩])
 .ret))⟩
theorem l_spec_l01Small : lowF PA f_spec_l01Small 1 [] = some c_spec_l01Small := by kernel_rfl
abbrev f_impl_ballCode : FuncId := 37
def c_impl_ballCode : AF := ⟨3, 18, [.t 6],
 (.seq (.reg [⟨(some 3), none, .m (.box (.t 0))⟩,
 ⟨(some 6), none, .q (.mv (.c (.int .i64 0)))⟩])
 (.seq (.seq (.reg [⟨(some 8), none, .q (.ld true 1 (.t 3))⟩,
 ⟨(some 9), none, .q (.mv (.t 1))⟩,
 ⟨(some 10), none, .m (.bsl 1 [(.t 9)])⟩,
 ⟨(some 11), none, .c (.call 55 [(.t 8), (.t 10)])⟩,
 ⟨(some 7), none, .q (.mv (.t 11))⟩])
 (.seq (.reg [⟨(some 12), none, .q (.mv (.t 7))⟩,
 ⟨(some 13), none, .q (.bin .neq (.t 12) (.c (.int .i64 0)))⟩])
 (.cond (.t 13)
 (.seq (.reg [⟨(some 14), none, .q (.mv (.t 7))⟩,
 ⟨(some 6), none, .q (.mv (.t 14))⟩])
 .ret)
 .skip)))
 (.seq (.seq (.reg [⟨(some 15), none, .q (.mv (.t 2))⟩,
 ⟨(some 16), none, .c (.call 32 [(.t 15)])⟩,
 ⟨(some 17), none, .q (.un .not (.t 16))⟩])
 (.cond (.t 17)
 (.seq (.reg [⟨(some 6), none, .q (.mv (.c (.int .i64 2)))⟩])
 .ret)
 .skip))
 (.seq (.reg [⟨(some 6), none, .q (.mv (.c (.int .i64 0)))⟩])
 .ret))))⟩
theorem l_impl_ballCode : lowF PA f_impl_ballCode 3 [] = some c_impl_ballCode := by kernel_rfl
abbrev f_impl_allDigits : FuncId := 38
def c_impl_allDigits : AF := ⟨1, 19, [.t 2],
 (.seq (.reg [⟨(some 1), none, .m (.box (.t 0))⟩,
 ⟨(some 2), none, .q (.mv (.c (.slice none 0 0)))⟩])
 (.seq (.reg [⟨(some 5), none, .m (.bsl 8 [])⟩,
 ⟨(some 3), none, .q (.mv (.t 5))⟩])
 (.seq (.seq (.reg [⟨(some 6), none, .q (.ld true 1 (.t 1))⟩,
 ⟨(some 7), none, .c (.call 49 [(.t 6)])⟩,
 ⟨(some 8), none, .q (.mv (.c (.int .i64 0)))⟩])
 (.block 0 (.loop [1, 3, 7, 8] (.seq (.reg [⟨(some 9), none, .q (.bin .lss (.t 8) (.t 7))⟩])
 (.seq (.cond (.t 9)
 .skip
 (.exit 0))
 (.seq (.block 1 (.seq (.reg [⟨(some 10), none, .q (.mv (.t 8))⟩,
 ⟨(some 4), none, .q (.mv (.t 10))⟩])
 (.reg [⟨(some 11), none, .q (.mv (.t 3))⟩,
 ⟨(some 12), none, .q (.ld true 1 (.t 1))⟩,
 ⟨(some 13), none, .q (.mv (.t 4))⟩,
 ⟨(some 14), none, .c (.call 59 [(.t 12), (.t 13)])⟩,
 ⟨(some 15), none, .m (.bsl 8 [(.t 14)])⟩,
 ⟨(some 16), none, .m (.app 8 8 (.t 11) (.t 15))⟩,
 ⟨(some 3), none, .q (.mv (.t 16))⟩])))
 (.reg [⟨(some 17), none, .q (.bin .add (.t 8) (.c (.int .i64 1)))⟩,
 ⟨(some 8), none, .q (.mv (.t 17))⟩])))))))
 (.seq (.reg [⟨(some 18), none, .q (.mv (.t 3))⟩,
 ⟨(some 2), none, .q (.mv (.t 18))⟩])
 .ret))))⟩
theorem l_impl_allDigits : lowF PA f_impl_allDigits 1 [.k [1, 3, 7, 8]] = some c_impl_allDigits := by kernel_rfl
abbrev f_slices_Repeat___int64_int64_ : FuncId := 39
def c_slices_Repeat___int64_int64_ : AF := ⟨2, 48, [.t 4],
 (.seq (.reg [⟨(some 4), none, .q (.mv (.c (.slice none 0 0)))⟩])
 (.seq (.seq (.reg [⟨(some 9), none, .q (.mv (.t 1))⟩,
 ⟨(some 10), none, .q (.bin .lss (.t 9) (.c (.int .i64 0)))⟩])
 (.cond (.t 10)
 .bad
 .skip))
 (.seq (.reg [⟨(some 13), none, .q (.mv (.t 0))⟩,
 ⟨(some 14), none, .q (.len (.t 13))⟩,
 ⟨(some 15), none, .q (.cvt .u64 (.t 14))⟩,
 ⟨(some 16), none, .q (.mv (.t 1))⟩,
 ⟨(some 17), none, .q (.cvt .u64 (.t 16))⟩,
 ⟨(some 18), none, .c (.call 60 [(.t 15), (.t 17)])⟩,
 ⟨(some 12), none, .q (.mv (.t 18))⟩,
 ⟨(some 19), none, .q (.ext (.t 12) 0)⟩,
 ⟨(some 20), none, .q (.ext (.t 12) 1)⟩,
 ⟨(some 5), none, .q (.mv (.t 19))⟩,
 ⟨(some 6), none, .q (.mv (.t 20))⟩])
 (.seq (.seq (.reg [⟨(some 21), none, .q (.mv (.t 5))⟩,
 ⟨(some 22), none, .q (.bin .gtr (.t 21) (.c (.int .u64 0)))⟩,
 ⟨(some 23), none, .q (.mv (.t 22))⟩,
 ⟨(some 24), (some (23, false)), .q (.mv (.t 6))⟩,
 ⟨(some 25), (some (23, false)), .q (.bin .gtr (.t 24) (.c (.int .u64 9223372036854775807)))⟩,
 ⟨(some 26), none, .q (.pick (.t 23) (.c (.bool true)) (.t 25))⟩])
 (.cond (.t 26)
 .bad
 .skip))
 (.seq (.reg [⟨(some 28), none, .q (.mv (.t 6))⟩,
 ⟨(some 29), none, .q (.cvt .i64 (.t 28))⟩,
 ⟨(some 30), none, .m (.mks 1 (.v (.int .i64 0)) 8 (.t 29) (.t 29))⟩,
 ⟨(some 7), none, .q (.mv (.t 30))⟩])
 (.seq (.reg [⟨(some 31), none, .q (.mv (.t 7))⟩,
 ⟨(some 32), none, .q (.mv (.t 0))⟩,
 ⟨(some 33), none, .m (.cpy 1 (.t 31) (.t 32))⟩,
 ⟨(some 8), none, .q (.mv (.t 33))⟩])
 (.seq (.block 0 (.loop [7, 8] (.seq (.seq (.reg [⟨(some 34), none, .q (.mv (.t 8))⟩,
 ⟨(some 35), none, .q (.mv (.t 7))⟩,
 ⟨(some 36), none, .q (.len (.t 35))⟩,
 ⟨(some 37), none, .q (.bin .lss (.t 34) (.t 36))⟩])
 (.cond (.t 37)
 .skip
 (.exit 0)))
 (.block 1 (.sch (.take 0 ⟨(some 38), none, .q (.mv (.t 8))⟩ (.take 1 ⟨(some 39), none, .q (.mv (.t 7))⟩ (.take 2 ⟨(some 40), none, .q (.mv (.t 8))⟩ (.take 3 ⟨(some 41), none, .q (.slc 1 (.t 39) (some (.t 40)) none)⟩ (.take 4 ⟨(some 42), none, .q (.mv (.t 7))⟩ (.take 5 ⟨(some 43), none, .q (.mv (.t 8))⟩ (.take 6 ⟨(some 44), none, .q (.slc 1 (.t 42) none (some (.t 43)))⟩ (.one ⟨(some 45), none, .m (.cpy 1 (.t 41) (.t 44))⟩ [] (.take 8 ⟨(some 46), none, .q (.bin .add (.t 38) (.t 45))⟩ (.take 9 ⟨(some 8), none, .q (.mv (.t 46))⟩ .done)))))))))))))))
 (.seq (.reg [⟨(some 47), none, .q (.mv (.t 7))⟩,
 ⟨(some 4), none, .q (.mv (.t 47))⟩])
 .ret))))))))⟩
theorem l_slices_Repeat___int64_int64_ : lowF PA f_slices_Repeat___int64_int64_ 2 [.x 2, .x 5, .k [7, 8], .s (.take 0 (.take 1 (.take 2 (.take 3 (.take 4 (.take 5 (.take 6 (.one 7 (.take 8 (.take 9 .done))))))))))] = some c_slices_Repeat___int64_int64_ := by kernel_rfl
abbrev f_impl_ball : FuncId := 40
def c_impl_ball : AF := ⟨3, 14, [.t 6],
 (.seq (.reg [⟨(some 3), none, .m (.box (.t 0))⟩,
 ⟨(some 5), none, .m (.box (.t 2))⟩,
 ⟨(some 6), none, .q (.mv (.c (.slice none 0 0)))⟩])
 (.seq (.reg [⟨(some 8), none, .q (.ld true 1 (.t 3))⟩,
 ⟨(some 9), none, .q (.mv (.t 1))⟩,
 ⟨(some 10), none, .c (.call 59 [(.t 8), (.t 9)])⟩,
 ⟨(some 7), none, .m (.alloc [(.v (.int .u8 0)), (.v (.int .u8 0)), (.v (.int .u8 0)), (.v (.int .u8 0)), (.v (.int .u8 0)), (.v (.int .u8 0)), (.v (.int .u8 0)), (.v (.int .u8 0))])⟩,
 ⟨none, none, .m (.st true 8 (.t 7) (.t 10))⟩])
 (.seq (.reg [⟨(some 11), none, .q (.ld true 1 (.t 3))⟩,
 ⟨(some 12), none, .q (.mkf 62 [(.t 7), (.t 5)])⟩,
 ⟨(some 13), none, .c (.call 61 [(.t 11), (.t 12)])⟩,
 ⟨(some 6), none, .q (.mv (.t 13))⟩])
 .ret)))⟩
theorem l_impl_ball : lowF PA f_impl_ball 3 [] = some c_impl_ball := by kernel_rfl
abbrev f_slices_Sort___int64_int64_ : FuncId := 41
def c_slices_Sort___int64_int64_ : AF := ⟨1, 11, [],
 (.seq (.reg [⟨(some 3), none, .q (.mv (.t 0))⟩,
 ⟨(some 4), none, .q (.len (.t 3))⟩,
 ⟨(some 2), none, .q (.mv (.t 4))⟩])
 (.reg [⟨(some 5), none, .q (.mv (.t 0))⟩,
 ⟨(some 6), none, .q (.mv (.t 2))⟩,
 ⟨(some 7), none, .q (.mv (.t 2))⟩,
 ⟨(some 8), none, .q (.cvt .u64 (.t 7))⟩,
 ⟨(some 9), none, .c (.call 64 [(.t 8)])⟩,
 ⟨(some 10), none, .c (.call 63 [(.t 5), (.c (.int .i64 0)), (.t 6), (.t 9)])⟩]))⟩
theorem l_slices_Sort___int64_int64_ : lowF PA f_slices_Sort___int64_int64_ 1 [] = some c_slices_Sort___int64_int64_ := by kernel_rfl
abbrev f_impl_far : FuncId := 42
def c_impl_far : AF := ⟨2, 22, [.t 4],
 (.seq (.reg [⟨(some 2), none, .m (.box (.t 0))⟩,
 ⟨(some 3), none, .m (.box (.t 1))⟩,
 ⟨(some 4), none, .q (.mv (.c (.int .i64 0)))⟩])
 (.seq (.reg [⟨(some 5), none, .q (.mv (.c (.int .i64 0)))⟩])
 (.seq (.seq (.reg [⟨(some 8), none, .q (.ld true 8 (.t 2))⟩,
 ⟨(some 9), none, .q (.mv (.c (.int .i64 0)))⟩])
 (.block 0 (.loop [3, 5, 8, 9] (.seq (.reg [⟨(some 10), none, .q (.bin .lss (.t 9) (.c (.int .i64 8)))⟩])
 (.seq (.cond (.t 10)
 .skip
 (.exit 0))
 (.seq (.block 1 (.seq (.reg [⟨(some 11), none, .q (.mv (.t 9))⟩,
 ⟨(some 12), none, .q (.ixv 8 (.t 8) (.t 9))⟩,
 ⟨(some 6), none, .q (.mv (.t 11))⟩,
 ⟨(some 7), none, .q (.mv (.t 12))⟩])
 (.seq (.reg [⟨(some 13), none, .q (.mv (.t 7))⟩,
 ⟨(some 14), none, .q (.mv (.t 6))⟩,
 ⟨(some 15), none, .q (.ixa 8 1 (.t 3) (.t 14))⟩,
 ⟨(some 16), none, .q (.ld false 1 (.t 15))⟩,
 ⟨(some 17), none, .q (.bin .neq (.t 13) (.t 16))⟩])
 (.cond (.t 17)
 (.reg [⟨(some 18), none, .q (.mv (.t 5))⟩,
 ⟨(some 19), none, .q (.bin .add (.t 18) (.c (.int .i64 1)))⟩,
 ⟨(some 5), none, .q (.mv (.t 19))⟩])
 .skip))))
 (.reg [⟨(some 20), none, .q (.bin .add (.t 9) (.c (.int .i64 1)))⟩,
 ⟨(some 9), none, .q (.mv (.t 20))⟩])))))))
 (.seq (.reg [⟨(some 21), none, .q (.mv (.t 5))⟩,
 ⟨(some 4), none, .q (.mv (.t 21))⟩])
 .ret))))⟩
theorem l_impl_far : lowF PA f_impl_far 2 [.k [3, 5, 8, 9]] = some c_impl_far := by kernel_rfl
abbrev f_spec_l01Is : FuncId := 43
def c_spec_l01Is : AF := ⟨1, 26, [.t 2],
 (.seq (.reg [⟨(some 1), none, .m (.box (.t 0))⟩,
 ⟨(some 2), none, .q (.mv (.c (.bool false)))⟩])
 (.seq (.seq (.reg [⟨(some 4), none, .q (.fad 0 (.t 1))⟩,
 ⟨(some 5), none, .q (.ld false 1 (.t 4))⟩,
 ⟨(some 6), none, .q (.len (.t 5))⟩,
 ⟨(some 7), none, .c (.call 33 [(.t 6), (.c (.int .i64 1)), (.c (.int .i64 8))])⟩,
 ⟨(some 8), none, .q (.un .not (.t 7))⟩])
 (.cond (.t 8)
 (.seq (.reg [⟨(some 2), none, .q (.mv (.c (.bool false)))⟩])
 .ret)
 .skip))
 (.seq (.seq (.reg [⟨(some 3), none, .q (.mv (.c (.int .i64 0)))⟩])
 (.block 0 (.loop [1, 3] (.seq (.seq (.reg [⟨(some 9), none, .q (.mv (.t 3))⟩,
 ⟨(some 10), none, .q (.fad 0 (.t 1))⟩,
 ⟨(some 11), none, .q (.ld false 1 (.t 10))⟩,
 ⟨(some 12), none, .q (.len (.t 11))⟩,
 ⟨(some 13), none, .q (.bin .lss (.t 9) (.t 12))⟩])
 (.cond (.t 13)
 .skip
 (.exit 0)))
 (.seq (.block 1 (.seq (.reg [⟨(some 16), none, .q (.fad 0 (.t 1))⟩,
 ⟨(some 17), none, .q (.ld false 1 (.t 16))⟩,
 ⟨(some 18), none, .q (.mv (.t 3))⟩,
 ⟨(some 19), none, .q (.ixs 1 (.t 17) (.t 18))⟩,
 ⟨(some 20), none, .q (.ld false 1 (.t 19))⟩,
 ⟨(some 21), none, .c (.call 33 [(.t 20), (.c (.int .i64 2)), (.c (.int .i64 4))])⟩,
 ⟨(some 22), none, .q (.un .not (.t 21))⟩])
 (.cond (.t 22)
 (.seq (.reg [⟨(some 2), none, .q (.mv (.c (.bool false)))⟩])
 .ret)
 .skip)))
 (.reg [⟨(some 14), none, .q (.mv (.t 3))⟩,
 ⟨(some 15), none, .q (.bin .add (.t 14) (.c (.int .i64 1)))⟩,
 ⟨(some 3), none, .q (.mv (.t 15))⟩]))))))
 (.seq (.reg [⟨(some 23), none, .q (.ld true 1 (.t 1))⟩,
 ⟨(some 24), none, .c (.call 34 [(.t 23)])⟩,
 ⟨(some 25), none, .q (.bin .leq (.t 24) (.c (.int .i64 1024)))⟩,
 ⟨(some 2), none, .q (.mv (.t 25))⟩])
 .ret))))⟩
theorem l_spec_l01Is : lowF PA f_spec_l01Is 1 [.k [1, 3]] = some c_spec_l01Is := by kernel_rfl
abbrev f_spec_l01Size : FuncId := 44
def c_spec_l01Size : AF := ⟨2, 68, [.t 4],
 (.seq (.reg [⟨(some 2), none, .m (.box (.t 0))⟩,
 ⟨(some 4), none, .q (.mv (.c (.int .i64 0)))⟩])
 (.seq (.reg [⟨(some 10), none, .q (.fad 0 (.t 2))⟩,
 ⟨(some 11), none, .q (.ld false 1 (.t 10))⟩,
 ⟨(some 12), none, .q (.len (.t 11))⟩,
 ⟨(some 13), none, .q (.bin .add (.t 12) (.c (.int .i64 1)))⟩,
 ⟨(some 14), none, .m (.mks 1 (.v (.int .i64 0)) 8 (.t 13) (.t 13))⟩,
 ⟨(some 5), none, .q (.mv (.t 14))⟩])
 (.seq (.reg [⟨(some 15), none, .q (.mv (.t 5))⟩,
 ⟨(some 16), none, .q (.ixs 1 (.t 15) (.c (.int .i64 0)))⟩,
 ⟨none, none, .m (.st false 1 (.t 16) (.c (.int .i64 1)))⟩])
 (.seq (.seq (.reg [⟨(some 6), none, .q (.mv (.c (.int .i64 0)))⟩])
 (.block 0 (.loop [1, 2, 5, 6] (.seq (.seq (.reg [⟨(some 17), none, .q (.mv (.t 6))⟩,
 ⟨(some 18), none, .q (.fad 0 (.t 2))⟩,
 ⟨(some 19), none, .q (.ld false 1 (.t 18))⟩,
 ⟨(some 20), none, .q (.len (.t 19))⟩,
 ⟨(some 21), none, .q (.bin .lss (.t 17) (.t 20))⟩])
 (.cond (.t 21)
 .skip
 (.exit 0)))
 (.seq (.block 1 (.seq (.reg [⟨(some 24), none, .q (.mv (.t 6))⟩,
 ⟨(some 25), none, .q (.bin .add (.t 24) (.c (.int .i64 1)))⟩,
 ⟨(some 7), none, .q (.mv (.t 25))⟩])
 (.block 2 (.loop [1, 2, 5, 6, 7] (.seq (.seq (.reg [⟨(some 26), none, .q (.mv (.t 7))⟩,
 ⟨(some 27), none, .q (.bin .gtr (.t 26) (.c (.int .i64 0)))⟩])
 (.cond (.t 27)
 .skip
 (.exit 2)))
 (.seq (.block 3 (.sch (.take 0 ⟨(some 30), none, .q (.mv (.t 5))⟩ (.take 1 ⟨(some 31), none, .q (.mv (.t 7))⟩ (.take 2 ⟨(some 32), none, .q (.mv (.t 5))⟩ (.take 3 ⟨(some 33), none, .q (.mv (.t 7))⟩ (.take 4 ⟨(some 34), none, .q (.ixs 1 (.t 32) (.t 33))⟩ (.take 5 ⟨(some 35), none, .q (.ld false 1 (.t 34))⟩ (.take 6 ⟨(some 36), none, .q (.mv (.t 5))⟩ (.take 7 ⟨(some 37), none, .q (.mv (.t 7))⟩ (.take 8 ⟨(some 38), none, .q (.bin .sub (.t 37) (.c (.int .i64 1)))⟩ (.take 9 ⟨(some 39), none, .q (.ixs 1 (.t 36) (.t 38))⟩ (.take 10 ⟨(some 40), none, .q (.ld false 1 (.t 39))⟩ (.take 11 ⟨(some 41), none, .q (.fad 0 (.t 2))⟩ (.take 12 ⟨(some 42), none, .q (.ld false 1 (.t 41))⟩ (.take 13 ⟨(some 43), none, .q (.mv (.t 6))⟩ (.take 14 ⟨(some 44), none, .q (.ixs 1 (.t 42) (.t 43))⟩ (.take 15 ⟨(some 45), none, .q (.ld false 1 (.t 44))⟩ (.take 16 ⟨(some 46), none, .q (.bin .sub (.t 45) (.c (.int .i64 1)))⟩ (.take 17 ⟨(some 47), none, .q (.bin .mul (.t 40) (.t 46))⟩ (.take 18 ⟨(some 48), none, .q (.bin .add (.t 35) (.t 47))⟩ (.take 19 ⟨(some 49), none, .q (.ixs 1 (.t 30) (.t 31))⟩ (.one ⟨none, none, .m (.st false 1 (.t 49) (.t 48))⟩ [15, 12, 10, 5] .done)))))))))))))))))))))))
 (.reg [⟨(some 28), none, .q (.mv (.t 7))⟩,
 ⟨(some 29), none, .q (.bin .sub (.t 28) (.c (.int .i64 1)))⟩,
 ⟨(some 7), none, .q (.mv (.t 29))⟩])))))))
 (.reg [⟨(some 22), none, .q (.mv (.t 6))⟩,
 ⟨(some 23), none, .q (.bin .add (.t 22) (.c (.int .i64 1)))⟩,
 ⟨(some 6), none, .q (.mv (.t 23))⟩]))))))
 (.seq (.reg [⟨(some 8), none, .q (.mv (.c (.int .i64 0)))⟩])
 (.seq (.seq (.reg [⟨(some 9), none, .q (.mv (.c (.int .i64 0)))⟩])
 (.block 4 (.loop [1, 5, 8, 9] (.seq (.seq (.reg [⟨(some 50), none, .q (.mv (.t 9))⟩,
 ⟨(some 51), none, .q (.mv (.t 5))⟩,
 ⟨(some 52), none, .q (.len (.t 51))⟩,
 ⟨(some 53), none, .q (.bin .lss (.t 50) (.t 52))⟩,
 ⟨(some 54), none, .q (.mv (.t 53))⟩,
 ⟨(some 55), (some (54, true)), .q (.mv (.t 9))⟩,
 ⟨(some 56), (some (54, true)), .q (.mv (.t 1))⟩,
 ⟨(some 57), (some (54, true)), .q (.bin .leq (.t 55) (.t 56))⟩,
 ⟨(some 58), none, .q (.pick (.t 54) (.t 57) (.c (.bool false)))⟩])
 (.cond (.t 58)
 .skip
 (.exit 4)))
 (.seq (.block 5 (.reg [⟨(some 61), none, .q (.mv (.t 8))⟩,
 ⟨(some 62), none, .q (.mv (.t 5))⟩,
 ⟨(some 63), none, .q (.mv (.t 9))⟩,
 ⟨(some 64), none, .q (.ixs 1 (.t 62) (.t 63))⟩,
 ⟨(some 65), none, .q (.ld false 1 (.t 64))⟩,
 ⟨(some 66), none, .q (.bin .add (.t 61) (.t 65))⟩,
 ⟨(some 8), none, .q (.mv (.t 66))⟩]))
 (.reg [⟨(some 59), none, .q (.mv (.t 9))⟩,
 ⟨(some 60), none, .q (.bin .add (.t 59) (.c (.int .i64 1)))⟩,
 ⟨(some 9), none, .q (.mv (.t 60))⟩]))))))
 (.seq (.reg [⟨(some 67), none, .q (.mv (.t 8))⟩,
 ⟨(some 4), none, .q (.mv (.t 67))⟩])
 .ret)))))))⟩
theorem l_spec_l01Size : lowF PA f_spec_l01Size 2 [.k [1, 2, 5, 6], .k [1, 2, 5, 6, 7], .s (.take 0 (.take 1 (.take 2 (.take 3 (.take 4 (.take 5 (.take 6 (.take 7 (.take 8 (.take 9 (.take 10 (.take 11 (.take 12 (.take 13 (.take 14 (.take 15 (.take 16 (.take 17 (.take 18 (.take 19 (.one 20 .done))))))))))))))))))))), .k [1, 5, 8, 9]] = some c_spec_l01Size := by kernel_rfl
abbrev f_spec_l01Put : FuncId := 45
def c_spec_l01Put : AF := ⟨2, 46, [.t 4],
 (.seq (.reg [⟨(some 4), none, .q (.mv (.c (.slice none 0 0)))⟩])
 (.seq (.reg [⟨(some 7), none, .q (.mv (.t 0))⟩,
 ⟨(some 8), none, .q (.len (.t 7))⟩,
 ⟨(some 5), none, .q (.mv (.t 8))⟩])
 (.seq (.block 0 (.loop [0, 1, 5] (.seq (.seq (.reg [⟨(some 9), none, .q (.mv (.t 5))⟩,
 ⟨(some 10), none, .q (.bin .gtr (.t 9) (.c (.int .i64 0)))⟩,
 ⟨(some 11), none, .q (.mv (.t 10))⟩,
 ⟨(some 12), (some (11, true)), .q (.mv (.t 0))⟩,
 ⟨(some 13), (some (11, true)), .q (.mv (.t 5))⟩,
 ⟨(some 14), (some (11, true)), .q (.bin .sub (.t 13) (.c (.int .i64 1)))⟩,
 ⟨(some 15), (some (11, true)), .q (.ixs 1 (.t 12) (.t 14))⟩,
 ⟨(some 16), (some (11, true)), .q (.ld false 1 (.t 15))⟩,
 ⟨(some 17), (some (11, true)), .q (.mv (.t 1))⟩,
 ⟨(some 18), (some (11, true)), .q (.bin .gtr (.t 16) (.t 17))⟩,
 ⟨(some 19), none, .q (.pick (.t 11) (.t 18) (.c (.bool false)))⟩])
 (.cond (.t 19)
 .skip
 (.exit 0)))
 (.block 1 (.reg [⟨(some 20), none, .q (.mv (.t 5))⟩,
 ⟨(some 21), none, .q (.bin .sub (.t 20) (.c (.int .i64 1)))⟩,
 ⟨(some 5), none, .q (.mv (.t 21))⟩])))))
 (.seq (.seq (.reg [⟨(some 22), none, .q (.mv (.t 5))⟩,
 ⟨(some 23), none, .q (.bin .gtr (.t 22) (.c (.int .i64 0)))⟩,
 ⟨(some 24), none, .q (.mv (.t 23))⟩,
 ⟨(some 25), (some (24, true)), .q (.mv (.t 0))⟩,
 ⟨(some 26), (some (24, true)), .q (.mv (.t 5))⟩,
 ⟨(some 27), (some (24, true)), .q (.bin .sub (.t 26) (.c (.int .i64 1)))⟩,
 ⟨(some 28), (some (24, true)), .q (.ixs 1 (.t 25) (.t 27))⟩,
 ⟨(some 29), (some (24, true)), .q (.ld false 1 (.t 28))⟩,
 ⟨(some 30), (some (24, true)), .q (.mv (.t 1))⟩,
 ⟨(some 31), (some (24, true)), .q (.bin .eql (.t 29) (.t 30))⟩,
 ⟨(some 32), none, .q (.pick (.t 24) (.t 31) (.c (.bool false)))⟩])
 (.cond (.t 32)
 (.seq (.reg [⟨(some 33), none, .q (.mv (.t 0))⟩,
 ⟨(some 4), none, .q (.mv (.t 33))⟩])
 .ret)
 .skip))
 (.seq (.reg [⟨(some 34), none, .q (.mv (.t 0))⟩,
 ⟨(some 35), none, .q (.mv (.t 5))⟩,
 ⟨(some 36), none, .q (.slc 1 (.t 34) none (some (.t 35)))⟩,
 ⟨(some 37), none, .c (.call 57 [(.t 36)])⟩,
 ⟨(some 38), none, .q (.mv (.t 1))⟩,
 ⟨(some 39), none, .m (.bsl 1 [(.t 38)])⟩,
 ⟨(some 40), none, .m (.app 1 8 (.t 37) (.t 39))⟩,
 ⟨(some 6), none, .q (.mv (.t 40))⟩])
 (.seq (.reg [⟨(some 41), none, .q (.mv (.t 6))⟩,
 ⟨(some 42), none, .q (.mv (.t 0))⟩,
 ⟨(some 43), none, .q (.mv (.t 5))⟩,
 ⟨(some 44), none, .q (.slc 1 (.t 42) (some (.t 43)) none)⟩,
 ⟨(some 45), none, .m (.app 1 8 (.t 41) (.t 44))⟩,
 ⟨(some 4), none, .q (.mv (.t 45))⟩])
 .ret))))))⟩
theorem l_spec_l01Put : lowF PA f_spec_l01Put 2 [.k [0, 1, 5]] = some c_spec_l01Put := by kernel_rfl
abbrev f_spec_l01Ball : FuncId := 46
def c_spec_l01Ball : AF := ⟨3, 27, [.t 6],
 (.seq (.reg [⟨(some 3), none, .m (.box (.t 0))⟩,
 ⟨(some 6), none, .q (.mv (.c (.slice none 0 0)))⟩])
 (.seq (.reg [⟨(some 9), none, .m (.bsl 1 [])⟩,
 ⟨(some 7), none, .q (.mv (.t 9))⟩])
 (.seq (.seq (.reg [⟨(some 8), none, .q (.mv (.c (.int .i64 0)))⟩])
 (.block 0 (.loop [1, 2, 3, 7, 8] (.seq (.seq (.reg [⟨(some 10), none, .q (.mv (.t 8))⟩,
 ⟨(some 11), none, .q (.ld true 1 (.t 3))⟩,
 ⟨(some 12), none, .c (.call 34 [(.t 11)])⟩,
 ⟨(some 13), none, .q (.bin .lss (.t 10) (.t 12))⟩])
 (.cond (.t 13)
 .skip
 (.exit 0)))
 (.seq (.block 1 (.seq (.reg [⟨(some 16), none, .q (.ld true 1 (.t 3))⟩,
 ⟨(some 17), none, .q (.mv (.t 8))⟩,
 ⟨(some 18), none, .q (.mv (.t 1))⟩,
 ⟨(some 19), none, .c (.call 65 [(.t 16), (.t 17), (.t 18)])⟩,
 ⟨(some 20), none, .q (.mv (.t 2))⟩,
 ⟨(some 21), none, .q (.bin .leq (.t 19) (.t 20))⟩])
 (.cond (.t 21)
 (.reg [⟨(some 22), none, .q (.mv (.t 7))⟩,
 ⟨(some 23), none, .q (.mv (.t 8))⟩,
 ⟨(some 24), none, .m (.bsl 1 [(.t 23)])⟩,
 ⟨(some 25), none, .m (.app 1 8 (.t 22) (.t 24))⟩,
 ⟨(some 7), none, .q (.mv (.t 25))⟩])
 .skip)))
 (.reg [⟨(some 14), none, .q (.mv (.t 8))⟩,
 ⟨(some 15), none, .q (.bin .add (.t 14) (.c (.int .i64 1)))⟩,
 ⟨(some 8), none, .q (.mv (.t 15))⟩]))))))
 (.seq (.reg [⟨(some 26), none, .q (.mv (.t 7))⟩,
 ⟨(some 6), none, .q (.mv (.t 26))⟩])
 .ret))))⟩
theorem l_spec_l01Ball : lowF PA f_spec_l01Ball 3 [.k [1, 2, 3, 7, 8]] = some c_spec_l01Ball := by kernel_rfl
abbrev f_impl_covers : FuncId := 47
def c_impl_covers : AF := ⟨3, 13, [.t 6],
 (.seq (.reg [⟨(some 3), none, .m (.box (.t 0))⟩,
 ⟨(some 6), none, .q (.mv (.c (.bool false)))⟩])
 (.seq (.reg [⟨(some 7), none, .q (.ld true 1 (.t 3))⟩,
 ⟨(some 8), none, .q (.mv (.t 1))⟩,
 ⟨(some 9), none, .q (.mv (.t 2))⟩,
 ⟨(some 10), none, .c (.call 24 [(.t 7), (.t 8), (.t 9)])⟩,
 ⟨(some 11), none, .c (.call 66 [(.t 10), (.c (.int .i64 0))])⟩,
 ⟨(some 12), none, .q (.un .not (.t 11))⟩,
 ⟨(some 6), none, .q (.mv (.t 12))⟩])
 .ret))⟩
theorem l_impl_covers : lowF PA f_impl_covers 3 [] = some c_impl_covers := by kernel_rfl
abbrev f_impl_upward : FuncId := 48
def c_impl_upward : AF := ⟨2, 11, [.t 4],
 (.seq (.reg [⟨(some 4), none, .q (.mv (.c (.int .i64 0)))⟩])
 (.seq (.reg [⟨(some 5), none, .q (.mv (.t 0))⟩,
 ⟨(some 6), none, .q (.mv (.t 1))⟩,
 ⟨(some 7), none, .q (.bin .add (.t 5) (.t 6))⟩,
 ⟨(some 8), none, .q (.bin .sub (.t 7) (.c (.int .i64 1)))⟩,
 ⟨(some 9), none, .q (.mv (.t 1))⟩,
 ⟨(some 10), none, .q (.bin .quo (.t 8) (.t 9))⟩,
 ⟨(some 4), none, .q (.mv (.t 10))⟩])
 .ret))⟩
theorem l_impl_upward : lowF PA f_impl_upward 2 [] = some c_impl_upward := by kernel_rfl
abbrev f_impl_count : FuncId := 49
def c_impl_count : AF := ⟨1, 18, [.t 2],
 (.seq (.reg [⟨(some 1), none, .m (.box (.t 0))⟩,
 ⟨(some 2), none, .q (.mv (.c (.int .i64 0)))⟩])
 (.seq (.reg [⟨(some 3), none, .q (.mv (.c (.int .i64 1)))⟩])
 (.seq (.seq (.reg [⟨(some 6), none, .q (.fad 0 (.t 1))⟩,
 ⟨(some 7), none, .q (.ld false 1 (.t 6))⟩,
 ⟨(some 8), none, .q (.len (.t 7))⟩,
 ⟨(some 9), none, .q (.mv (.c (.int .i64 0)))⟩])
 (.block 0 (.loop [3, 7, 8, 9] (.seq (.reg [⟨(some 10), none, .q (.bin .lss (.t 9) (.t 8))⟩])
 (.seq (.cond (.t 10)
 .skip
 (.exit 0))
 (.seq (.block 1 (.seq (.reg [⟨(some 11), none, .q (.ixs 1 (.t 7) (.t 9))⟩,
 ⟨(some 12), none, .q (.ld false 1 (.t 11))⟩,
 ⟨(some 5), none, .q (.mv (.t 12))⟩])
 (.reg [⟨(some 13), none, .q (.mv (.t 3))⟩,
 ⟨(some 14), none, .q (.mv (.t 5))⟩,
 ⟨(some 15), none, .q (.bin .mul (.t 13) (.t 14))⟩,
 ⟨(some 3), none, .q (.mv (.t 15))⟩])))
 (.reg [⟨(some 16), none, .q (.bin .add (.t 9) (.c (.int .i64 1)))⟩,
 ⟨(some 9), none, .q (.mv (.t 16))⟩])))))))
 (.seq (.reg [⟨(some 17), none, .q (.mv (.t 3))⟩,
 ⟨(some 2), none, .q (.mv (.t 17))⟩])
 .ret))))⟩
theorem l_impl_count : lowF PA f_impl_count 1 [.k [3, 7, 8, 9]] = some c_impl_count := by kernel_rfl
abbrev f_impl_IsSpace : FuncId := 50
def c_impl_IsSpace : AF := ⟨1, 35, [.t 2],
 (.seq (.reg [⟨(some 1), none, .m (.box (.t 0))⟩,
 ⟨(some 2), none, .q (.mv (.c (.bool false)))⟩])
 (.seq (.seq (.reg [⟨(some 6), none, .q (.fad 0 (.t 1))⟩,
 ⟨(some 7), none, .q (.ld false 1 (.t 6))⟩,
 ⟨(some 8), none, .q (.len (.t 7))⟩,
 ⟨(some 9), none, .q (.bin .lss (.t 8) (.c (.int .i64 1)))⟩,
 ⟨(some 10), none, .q (.mv (.t 9))⟩,
 ⟨(some 11), (some (10, false)), .q (.fad 0 (.t 1))⟩,
 ⟨(some 12), (some (10, false)), .q (.ld false 1 (.t 11))⟩,
 ⟨(some 13), (some (10, false)), .q (.len (.t 12))⟩,
 ⟨(some 14), (some (10, false)), .q (.bin .gtr (.t 13) (.c (.int .i64 8)))⟩,
 ⟨(some 15), none, .q (.pick (.t 10) (.c (.bool true)) (.t 14))⟩])
 (.cond (.t 15)
 (.seq (.reg [⟨(some 2), none, .q (.mv (.c (.bool false)))⟩])
 .ret)
 .skip))
 (.seq (.reg [⟨(some 3), none, .q (.mv (.c (.int .i64 1)))⟩])
 (.seq (.seq (.reg [⟨(some 16), none, .q (.fad 0 (.t 1))⟩,
 ⟨(some 17), none, .q (.ld false 1 (.t 16))⟩,
 ⟨(some 18), none, .q (.len (.t 17))⟩,
 ⟨(some 19), none, .q (.mv (.c (.int .i64 0)))⟩])
 (.block 0 (.loop [3, 17, 18, 19] (.seq (.reg [⟨(some 20), none, .q (.bin .lss (.t 19) (.t 18))⟩])
 (.seq (.cond (.t 20)
 .skip
 (.exit 0))
 (.seq (.block 1 (.seq (.reg [⟨(some 21), none, .q (.ixs 1 (.t 17) (.t 19))⟩,
 ⟨(some 22), none, .q (.ld false 1 (.t 21))⟩,
 ⟨(some 5), none, .q (.mv (.t 22))⟩])
 (.seq (.seq (.reg [⟨(some 23), none, .q (.mv (.t 5))⟩,
 ⟨(some 24), none, .q (.bin .lss (.t 23) (.c (.int .i64 2)))⟩,
 ⟨(some 25), none, .q (.mv (.t 24))⟩,
 ⟨(some 26), (some (25, false)), .q (.mv (.t 5))⟩,
 ⟨(some 27), (some (25, false)), .q (.bin .gtr (.t 26) (.c (.int .i64 4)))⟩,
 ⟨(some 28), none, .q (.pick (.t 25) (.c (.bool true)) (.t 27))⟩])
 (.cond (.t 28)
 (.seq (.reg [⟨(some 2), none, .q (.mv (.c (.bool false)))⟩])
 .ret)
 .skip))
 (.reg [⟨(some 29), none, .q (.mv (.t 3))⟩,
 ⟨(some 30), none, .q (.mv (.t 5))⟩,
 ⟨(some 31), none, .q (.bin .mul (.t 29) (.t 30))⟩,
 ⟨(some 3), none, .q (.mv (.t 31))⟩]))))
 (.reg [⟨(some 32), none, .q (.bin .add (.t 19) (.c (.int .i64 1)))⟩,
 ⟨(some 19), none, .q (.mv (.t 32))⟩])))))))
 (.seq (.reg [⟨(some 33), none, .q (.mv (.t 3))⟩,
 ⟨(some 34), none, .q (.bin .leq (.t 33) (.c (.int .i64 1024)))⟩,
 ⟨(some 2), none, .q (.mv (.t 34))⟩])
 .ret)))))⟩
theorem l_impl_IsSpace : lowF PA f_impl_IsSpace 1 [.k [3, 17, 18, 19]] = some c_impl_IsSpace := by kernel_rfl
abbrev f_spec_l01DrawCode : FuncId := 51
def c_spec_l01DrawCode : AF := ⟨2, 109, [.t 4],
 (.seq (.reg [⟨(some 3), none, .m (.box (.t 1))⟩,
 ⟨(some 4), none, .q (.mv (.c (.slice none 0 0)))⟩])
 (.seq (.reg [⟨(some 17), none, .m (.bsl 1 [])⟩,
 ⟨(some 5), none, .q (.mv (.t 17))⟩])
 (.seq (.seq (.reg [⟨(some 18), none, .q (.mv (.t 0))⟩,
 ⟨(some 19), none, .c (.call 52 [(.t 18), (.c (.int .i64 4))])⟩])
 (.block 0 (.seq (.reg [⟨(some 21), none, .q (.bin .eql (.t 19) (.c (.int .i64 0)))⟩,
 ⟨(some 20), none, .q (.mv (.t 21))⟩])
 (.cond (.t 20)
 (.seq (.reg [⟨(some 22), none, .q (.mv (.t 0))⟩,
 ⟨(some 23), none, .m (.bsl 1 [(.c (.int .i64 2)), (.c (.int .i64 2)), (.c (.int .i64 3)), (.c (.int .i64 4))])⟩,
 ⟨(some 24), none, .c (.call 29 [(.t 22), (.t 23)])⟩,
 ⟨(some 25), none, .q (.mv (.t 0))⟩,
 ⟨(some 26), none, .c (.call 52 [(.t 25), (.c (.int .i64 2))])⟩,
 ⟨(some 6), none, .q (.mv (.t 24))⟩,
 ⟨(some 7), none, .q (.mv (.t 26))⟩])
 (.seq (.seq (.reg [⟨(some 8), none, .q (.mv (.c (.int .i64 0)))⟩])
 (.block 1 (.loop [3, 5, 6, 7, 8, 109] (.seq (.seq (.reg [⟨(some 27), none, .q (.mv (.t 8))⟩,
 ⟨(some 28), none, .q (.ld true 1 (.t 3))⟩,
 ⟨(some 29), none, .c (.call 34 [(.t 28)])⟩,
 ⟨(some 30), none, .q (.bin .lss (.t 27) (.t 29))⟩])
 (.cond (.t 30)
 .skip
 (.exit 1)))
 (.seq (.block 2 (.seq (.reg [⟨(some 33), none, .q (.ld true 1 (.t 3))⟩,
 ⟨(some 34), none, .q (.mv (.t 8))⟩,
 ⟨(some 35), none, .c (.call 67 [(.t 33), (.t 34)])⟩,
 ⟨(some 9), none, .q (.mv (.t 35))⟩,
 ⟨(some 10), none, .q (.mv (.c (.int .i64 0)))⟩])
 (.seq (.seq (.reg [⟨(some 36), none, .q (.mv (.t 9))⟩,
 ⟨(some 37), none, .q (.len (.t 36))⟩,
 ⟨(some 38), none, .q (.mv (.c (.int .i64 0)))⟩])
 (.block 3 (.loop [3, 5, 6, 7, 8, 9, 10, 37, 38, 109] (.seq (.reg [⟨(some 39), none, .q (.bin .lss (.t 38) (.t 37))⟩])
 (.seq (.cond (.t 39)
 .skip
 (.exit 3))
 (.seq (.block 4 (.seq (.reg [⟨(some 40), none, .q (.mv (.t 38))⟩,
 ⟨(some 11), none, .q (.mv (.t 40))⟩])
 (.reg [⟨(some 41), none, .q (.mv (.t 10))⟩,
 ⟨(some 42), none, .q (.mv (.t 9))⟩,
 ⟨(some 43), none, .q (.mv (.t 11))⟩,
 ⟨(some 44), none, .q (.ixs 1 (.t 42) (.t 43))⟩,
 ⟨(some 45), none, .q (.ld false 1 (.t 44))⟩,
 ⟨(some 46), none, .q (.bin .add (.t 41) (.t 45))⟩,
 ⟨(some 10), none, .q (.mv (.t 46))⟩])))
 (.reg [⟨(some 47), none, .q (.bin .add (.t 38) (.c (.int .i64 1)))⟩,
 ⟨(some 38), none, .q (.mv (.t 47))⟩])))))))
 (.seq (.reg [⟨(some 48), none, .q (.mv (.t 10))⟩,
 ⟨(some 49), none, .q (.mv (.t 6))⟩,
 ⟨(some 50), none, .q (.bin .rem (.t 48) (.t 49))⟩,
 ⟨(some 51), none, .q (.mv (.t 7))⟩,
 ⟨(some 52), none, .q (.bin .eql (.t 50) (.t 51))⟩])
 (.cond (.t 52)
 (.reg [⟨(some 53), none, .q (.mv (.t 5))⟩,
 ⟨(some 54), none, .q (.mv (.t 8))⟩,
 ⟨(some 55), none, .m (.bsl 1 [(.t 54)])⟩,
 ⟨(some 56), none, .m (.app 1 8 (.t 53) (.t 55))⟩,
 ⟨(some 5), none, .q (.mv (.t 56))⟩])
 .skip)))))
 (.reg [⟨(some 31), none, .q (.mv (.t 8))⟩,
 ⟨(some 32), none, .q (.bin .add (.t 31) (.c (.int .i64 1)))⟩,
 ⟨(some 8), none, .q (.mv (.t 32))⟩]))))))
 (.seq (.reg [⟨(some 57), none, .q (.mv (.t 5))⟩,
 ⟨(some 4), none, .q (.mv (.t 57))⟩])
 .ret)))
 (.seq (.reg [⟨(some 59), none, .q (.bin .eql (.t 19) (.c (.int .i64 1)))⟩,
 ⟨(some 58), none, .q (.mv (.t 59))⟩])
 (.cond (.t 58)
 (.seq (.reg [⟨(some 60), none, .q (.mv (.t 0))⟩,
 ⟨(some 61), none, .m (.bsl 1 [(.c (.int .i64 2)), (.c (.int .i64 3)), (.c (.int .i64 3))])⟩,
 ⟨(some 62), none, .c (.call 29 [(.t 60), (.t 61)])⟩,
 ⟨(some 12), none, .q (.mv (.t 62))⟩])
 (.seq (.seq (.reg [⟨(some 13), none, .q (.mv (.c (.int .i64 0)))⟩])
 (.block 5 (.loop [3, 5, 12, 13, 109] (.seq (.seq (.reg [⟨(some 63), none, .q (.mv (.t 13))⟩,
 ⟨(some 64), none, .q (.ld true 1 (.t 3))⟩,
 ⟨(some 65), none, .c (.call 34 [(.t 64)])⟩,
 ⟨(some 66), none, .q (.bin .lss (.t 63) (.t 65))⟩])
 (.cond (.t 66)
 .skip
 (.exit 5)))
 (.seq (.block 6 (.seq (.reg [⟨(some 14), none, .q (.mv (.c (.bool true)))⟩])
 (.seq (.seq (.reg [⟨(some 69), none, .q (.mv (.t 5))⟩,
 ⟨(some 70), none, .q (.len (.t 69))⟩,
 ⟨(some 71), none, .q (.mv (.c (.int .i64 0)))⟩])
 (.block 7 (.loop [3, 5, 12, 13, 14, 70, 71, 109] (.seq (.reg [⟨(some 72), none, .q (.bin .lss (.t 71) (.t 70))⟩])
 (.seq (.cond (.t 72)
 .skip
 (.exit 7))
 (.seq (.block 8 (.seq (.reg [⟨(some 73), none, .q (.mv (.t 71))⟩,
 ⟨(some 15), none, .q (.mv (.t 73))⟩])
 (.sch (.take 0 ⟨(some 74), none, .q (.mv (.t 14))⟩ (.take 1 ⟨(some 75), none, .q (.mv (.t 74))⟩ (.take 2 ⟨(some 76), (some (75, true)), .q (.ld true 1 (.t 3))⟩ (.take 3 ⟨(some 77), (some (75, true)), .q (.mv (.t 5))⟩ (.take 4 ⟨(some 78), (some (75, true)), .q (.mv (.t 15))⟩ (.take 5 ⟨(some 79), (some (75, true)), .q (.ixs 1 (.t 77) (.t 78))⟩ (.take 6 ⟨(some 80), (some (75, true)), .q (.ld false 1 (.t 79))⟩ (.take 7 ⟨(some 81), (some (75, true)), .q (.mv (.t 13))⟩ (.take 9 ⟨(some 83), (some (75, true)), .q (.mv (.t 12))⟩ (.one ⟨(some 82), (some (75, true)), .c (.call 65 [(.t 76), (.t 80), (.t 81)])⟩ [6, 2] (.take 10 ⟨(some 84), (some (75, true)), .q (.bin .geq (.t 82) (.t 83))⟩ (.take 11 ⟨(some 85), none, .q (.pick (.t 75) (.t 84) (.c (.bool false)))⟩ (.take 12 ⟨(some 14), none, .q (.mv (.t 85))⟩ .done))))))))))))))))
 (.reg [⟨(some 86), none, .q (.bin .add (.t 71) (.c (.int .i64 1)))⟩,
 ⟨(some 71), none, .q (.mv (.t 86))⟩])))))))
 (.seq (.reg [⟨(some 87), none, .q (.mv (.t 14))⟩])
 (.cond (.t 87)
 (.reg [⟨(some 88), none, .q (.mv (.t 5))⟩,
 ⟨(some 89), none, .q (.mv (.t 13))⟩,
 ⟨(some 90), none, .m (.bsl 1 [(.t 89)])⟩,
 ⟨(some 91), none, .m (.app 1 8 (.t 88) (.t 90))⟩,
 ⟨(some 5), none, .q (.mv (.t 91))⟩])
 .skip)))))
 (.reg [⟨(some 67), none, .q (.mv (.t 13))⟩,
 ⟨(some 68), none, .q (.bin .add (.t 67) (.c (.int .i64 1)))⟩,
 ⟨(some 13), none, .q (.mv (.t 68))⟩]))))))
 (.seq (.reg [⟨(some 92), none, .q (.mv (.t 5))⟩,
 ⟨(some 4), none, .q (.mv (.t 92))⟩])
 .ret)))
 .skip))))))
 (.seq (.seq (.reg [⟨(some 93), none, .q (.mv (.t 0))⟩,
 ⟨(some 94), none, .q (.mv (.t 0))⟩,
 ⟨(some 95), none, .m (.bsl 1 [(.c (.int .i64 3)), (.c (.int .i64 8)), (.c (.int .i64 20))])⟩,
 ⟨(some 96), none, .c (.call 29 [(.t 94), (.t 95)])⟩,
 ⟨(some 97), none, .c (.call 52 [(.t 93), (.t 96)])⟩,
 ⟨(some 16), none, .q (.mv (.t 97))⟩])
 (.block 9 (.loop [0, 3, 5, 16, 109] (.seq (.seq (.reg [⟨(some 98), none, .q (.mv (.t 16))⟩,
 ⟨(some 99), none, .q (.bin .gtr (.t 98) (.c (.int .i64 0)))⟩])
 (.cond (.t 99)
 .skip
 (.exit 9)))
 (.seq (.block 10 (.reg [⟨(some 102), none, .q (.mv (.t 5))⟩,
 ⟨(some 103), none, .q (.mv (.t 0))⟩,
 ⟨(some 104), none, .q (.ld true 1 (.t 3))⟩,
 ⟨(some 105), none, .c (.call 34 [(.t 104)])⟩,
 ⟨(some 106), none, .c (.call 52 [(.t 103), (.t 105)])⟩,
 ⟨(some 107), none, .c (.call 45 [(.t 102), (.t 106)])⟩,
 ⟨(some 5), none, .q (.mv (.t 107))⟩]))
 (.reg [⟨(some 100), none, .q (.mv (.t 16))⟩,
 ⟨(some 101), none, .q (.bin .sub (.t 100) (.c (.int .i64 1)))⟩,
 ⟨(some 16), none, .q (.mv (.t 101))⟩]))))))
 (.seq (.reg [⟨(some 108), none, .q (.mv (.t 5))⟩,
 ⟨(some 4), none, .q (.mv (.t 108))⟩])
 .ret)))))⟩
theorem l_spec_l01DrawCode : lowF PA f_spec_l01DrawCode 2 [.k [3, 5, 6, 7, 8, 109], .k [3, 5, 6, 7, 8, 9, 10, 37, 38, 109], .k [3, 5, 12, 13, 109], .k [3, 5, 12, 13, 14, 70, 71, 109], .s (.take 0 (.take 1 (.take 2 (.take 3 (.take 4 (.take 5 (.take 6 (.take 7 (.take 9 (.one 8 (.take 10 (.take 11 (.take 12 .done))))))))))))), .k [0, 3, 5, 16, 109]] = some c_spec_l01DrawCode := by kernel_rfl
abbrev f_spec_l01Next : FuncId := 52
def c_spec_l01Next : AF := ⟨2, 58, [.t 4],
 (.seq (.reg [⟨(some 4), none, .q (.mv (.c (.int .i64 0)))⟩])
 (.seq (.seq (.reg [⟨(some 6), none, .q (.mv (.t 1))⟩,
 ⟨(some 7), none, .q (.bin .lss (.t 6) (.c (.int .i64 1)))⟩])
 (.cond (.t 7)
 (.seq (.reg [⟨(some 4), none, .q (.mv (.c (.int .i64 0)))⟩])
 .ret)
 .skip))
 (.seq (.reg [⟨(some 8), none, .q (.mv (.t 0))⟩,
 ⟨(some 9), none, .q (.mv (.t 0))⟩,
 ⟨(some 10), none, .q (.nlc (.t 9))⟩,
 ⟨(some 11), none, .q (.fad 2 (.t 10))⟩,
 ⟨(some 12), none, .q (.ld false 1 (.t 11))⟩,
 ⟨(some 13), none, .q (.bin .mul (.t 12) (.c (.int .u64 6364136223846793005)))⟩,
 ⟨(some 14), none, .q (.bin .add (.t 13) (.c (.int .u64 1442695040888963407)))⟩,
 ⟨(some 15), none, .q (.nlc (.t 8))⟩,
 ⟨(some 16), none, .q (.fad 2 (.t 15))⟩,
 ⟨none, none, .m (.st false 1 (.t 16) (.t 14))⟩])
 (.seq (.reg [⟨(some 17), none, .q (.mv (.t 0))⟩,
 ⟨(some 18), none, .q (.nlc (.t 17))⟩,
 ⟨(some 19), none, .q (.fad 2 (.t 18))⟩,
 ⟨(some 20), none, .q (.ld false 1 (.t 19))⟩,
 ⟨(some 21), none, .q (.bin .shr (.t 20) (.c (.int .u64 33)))⟩,
 ⟨(some 22), none, .q (.bin .and (.t 21) (.c (.int .u64 16777215)))⟩,
 ⟨(some 23), none, .q (.cvt .i64 (.t 22))⟩,
 ⟨(some 5), none, .q (.mv (.t 23))⟩])
 (.seq (.seq (.sch (.take 0 ⟨(some 24), none, .q (.mv (.t 0))⟩ (.take 1 ⟨(some 25), none, .q (.nlc (.t 24))⟩ (.take 2 ⟨(some 26), none, .q (.fad 1 (.t 25))⟩ (.take 3 ⟨(some 27), none, .q (.ld false 1 (.t 26))⟩ (.take 4 ⟨(some 28), none, .q (.mv (.t 0))⟩ (.take 5 ⟨(some 29), none, .q (.nlc (.t 28))⟩ (.take 6 ⟨(some 30), none, .q (.fad 0 (.t 29))⟩ (.take 7 ⟨(some 31), none, .q (.ld false 1 (.t 30))⟩ (.take 8 ⟨(some 32), none, .q (.len (.t 31))⟩ (.take 9 ⟨(some 33), none, .q (.bin .lss (.t 27) (.t 32))⟩ .done)))))))))))
 (.cond (.t 33)
 (.seq (.sch (.take 0 ⟨(some 34), none, .q (.mv (.t 5))⟩ (.take 1 ⟨(some 35), none, .q (.mv (.t 0))⟩ (.take 2 ⟨(some 36), none, .q (.nlc (.t 35))⟩ (.take 3 ⟨(some 37), none, .q (.fad 0 (.t 36))⟩ (.take 4 ⟨(some 38), none, .q (.ld false 1 (.t 37))⟩ (.take 5 ⟨(some 39), none, .q (.mv (.t 0))⟩ (.take 6 ⟨(some 40), none, .q (.nlc (.t 39))⟩ (.take 7 ⟨(some 41), none, .q (.fad 1 (.t 40))⟩ (.take 8 ⟨(some 42), none, .q (.ld false 1 (.t 41))⟩ (.take 9 ⟨(some 43), none, .q (.ixs 1 (.t 38) (.t 42))⟩ (.take 10 ⟨(some 44), none, .q (.ld false 1 (.t 43))⟩ (.take 11 ⟨(some 45), none, .q (.cvt .i64 (.t 44))⟩ (.take 12 ⟨(some 46), none, .q (.bin .add (.t 34) (.t 45))⟩ (.take 13 ⟨(some 5), none, .q (.mv (.t 46))⟩ .done)))))))))))))))
 (.reg [⟨(some 47), none, .q (.mv (.t 0))⟩,
 ⟨(some 48), none, .q (.mv (.t 0))⟩,
 ⟨(some 49), none, .q (.nlc (.t 48))⟩,
 ⟨(some 50), none, .q (.fad 1 (.t 49))⟩,
 ⟨(some 51), none, .q (.ld false 1 (.t 50))⟩,
 ⟨(some 52), none, .q (.bin .add (.t 51) (.c (.int .i64 1)))⟩,
 ⟨(some 53), none, .q (.nlc (.t 47))⟩,
 ⟨(some 54), none, .q (.fad 1 (.t 53))⟩,
 ⟨none, none, .m (.st false 1 (.t 54) (.t 52))⟩]))
 .skip))
 (.seq (.reg [⟨(some 55), none, .q (.mv (.t 5))⟩,
 ⟨(some 56), none, .q (.mv (.t 1))⟩,
 ⟨(some 57), none, .q (.bin .rem (.t 55) (.t 56))⟩,
 ⟨(some 4), none, .q (.mv (.t 57))⟩])
 .ret))))))⟩
theorem l_spec_l01Next : lowF PA f_spec_l01Next 2 [.s (.take 0 (.take 1 (.take 2 (.take 3 (.take 4 (.take 5 (.take 6 (.take 7 (.take 8 (.take 9 .done)))))))))), .s (.take 0 (.take 1 (.take 2 (.take 3 (.take 4 (.take 5 (.take 6 (.take 7 (.take 8 (.take 9 (.take 10 (.take 11 (.take 12 (.take 13 .done))))))))))))))] = some c_spec_l01Next := by kernel_rfl
abbrev f_spec_l01BadCode : FuncId := 53
def c_spec_l01BadCode : AF := ⟨3, 33, [.t 6],
 (.seq (.reg [⟨(some 4), none, .m (.box (.t 1))⟩,
 ⟨(some 6), none, .q (.mv (.c (.slice none 0 0)))⟩])
 (.seq (.reg [⟨(some 8), none, .q (.mv (.t 2))⟩,
 ⟨(some 9), none, .c (.call 57 [(.t 8)])⟩,
 ⟨(some 7), none, .q (.mv (.t 9))⟩])
 (.seq (.seq (.reg [⟨(some 10), none, .q (.mv (.t 0))⟩,
 ⟨(some 11), none, .c (.call 52 [(.t 10), (.c (.int .i64 30))])⟩])
 (.block 0 (.seq (.reg [⟨(some 13), none, .q (.bin .eql (.t 11) (.c (.int .i64 0)))⟩,
 ⟨(some 12), none, .q (.mv (.t 13))⟩])
 (.cond (.t 12)
 (.seq (.reg [⟨(some 14), none, .q (.mv (.t 7))⟩,
 ⟨(some 15), none, .q (.mv (.t 0))⟩,
 ⟨(some 16), none, .q (.ld true 1 (.t 4))⟩,
 ⟨(some 17), none, .c (.call 34 [(.t 16)])⟩,
 ⟨(some 18), none, .m (.bsl 1 [(.c (.int .i64 (-1))), (.t 17), (.c (.int .i64 0)), (.c (.int .i64 1099511627776))])⟩,
 ⟨(some 19), none, .c (.call 29 [(.t 15), (.t 18)])⟩,
 ⟨(some 20), none, .m (.bsl 1 [(.t 19)])⟩,
 ⟨(some 21), none, .m (.app 1 8 (.t 14) (.t 20))⟩,
 ⟨(some 6), none, .q (.mv (.t 21))⟩])
 .ret)
 (.seq (.reg [⟨(some 23), none, .q (.bin .eql (.t 11) (.c (.int .i64 1)))⟩,
 ⟨(some 22), none, .q (.mv (.t 23))⟩])
 (.cond (.t 22)
 (.seq (.reg [⟨(some 24), none, .q (.mv (.t 7))⟩,
 ⟨(some 25), none, .q (.len (.t 24))⟩,
 ⟨(some 26), none, .q (.bin .gtr (.t 25) (.c (.int .i64 1)))⟩])
 (.cond (.t 26)
 (.reg [⟨(some 27), none, .q (.mv (.t 7))⟩,
 ⟨(some 28), none, .q (.mv (.t 7))⟩,
 ⟨(some 29), none, .q (.ixs 1 (.t 28) (.c (.int .i64 1)))⟩,
 ⟨(some 30), none, .q (.ld false 1 (.t 29))⟩,
 ⟨(some 31), none, .q (.ixs 1 (.t 27) (.c (.int .i64 0)))⟩,
 ⟨none, none, .m (.st false 1 (.t 31) (.t 30))⟩])
 .skip))
 .skip))))))
 (.seq (.reg [⟨(some 32), none, .q (.mv (.t 7))⟩,
 ⟨(some 6), none, .q (.mv (.t 32))⟩])
 .ret))))⟩
theorem l_spec_l01BadCode : lowF PA f_spec_l01BadCode 3 [] = some c_spec_l01BadCode := by kernel_rfl
abbrev f_spec_l01Given : FuncId := 54
def c_spec_l01Given : AF := ⟨2, 14, [.t 4],
 (.seq (.reg [⟨(some 2), none, .m (.box (.t 0))⟩,
 ⟨(some 4), none, .q (.mv (.c (.int .i64 0)))⟩])
 (.seq (.block 0 (.seq (.reg [⟨(some 6), none, .q (.ld true 1 (.t 2))⟩,
 ⟨(some 7), none, .c (.call 43 [(.t 6)])⟩,
 ⟨(some 8), none, .q (.un .not (.t 7))⟩,
 ⟨(some 5), none, .q (.mv (.t 8))⟩])
 (.cond (.t 5)
 (.seq (.reg [⟨(some 4), none, .q (.mv (.c (.int .i64 1)))⟩])
 .ret)
 (.seq (.reg [⟨(some 10), none, .q (.ld true 1 (.t 2))⟩,
 ⟨(some 11), none, .q (.mv (.t 1))⟩,
 ⟨(some 12), none, .c (.call 68 [(.t 10), (.t 11)])⟩,
 ⟨(some 13), none, .q (.un .not (.t 12))⟩,
 ⟨(some 9), none, .q (.mv (.t 13))⟩])
 (.cond (.t 9)
 (.seq (.reg [⟨(some 4), none, .q (.mv (.c (.int .i64 2)))⟩])
 .ret)
 .skip)))))
 (.seq (.reg [⟨(some 4), none, .q (.mv (.c (.int .i64 0)))⟩])
 .ret)))⟩
theorem l_spec_l01Given : lowF PA f_spec_l01Given 2 [] = some c_spec_l01Given := by kernel_rfl
abbrev f_impl_wordCode : FuncId := 55
def c_impl_wordCode : AF := ⟨2, 14, [.t 4],
 (.seq (.reg [⟨(some 2), none, .m (.box (.t 0))⟩,
 ⟨(some 4), none, .q (.mv (.c (.int .i64 0)))⟩])
 (.seq (.block 0 (.seq (.reg [⟨(some 6), none, .q (.ld true 1 (.t 2))⟩,
 ⟨(some 7), none, .c (.call 50 [(.t 6)])⟩,
 ⟨(some 8), none, .q (.un .not (.t 7))⟩,
 ⟨(some 5), none, .q (.mv (.t 8))⟩])
 (.cond (.t 5)
 (.seq (.reg [⟨(some 4), none, .q (.mv (.c (.int .i64 1)))⟩])
 .ret)
 (.seq (.reg [⟨(some 10), none, .q (.ld true 1 (.t 2))⟩,
 ⟨(some 11), none, .q (.mv (.t 1))⟩,
 ⟨(some 12), none, .c (.call 69 [(.t 10), (.t 11)])⟩,
 ⟨(some 13), none, .q (.un .not (.t 12))⟩,
 ⟨(some 9), none, .q (.mv (.t 13))⟩])
 (.cond (.t 9)
 (.seq (.reg [⟨(some 4), none, .q (.mv (.c (.int .i64 2)))⟩])
 .ret)
 .skip)))))
 (.seq (.reg [⟨(some 4), none, .q (.mv (.c (.int .i64 0)))⟩])
 .ret)))⟩
theorem l_impl_wordCode : lowF PA f_impl_wordCode 2 [] = some c_impl_wordCode := by kernel_rfl
abbrev f_impl_isCode : FuncId := 56
def c_impl_isCode : AF := ⟨2, 33, [.t 4],
 (.seq (.reg [⟨(some 2), none, .m (.box (.t 0))⟩,
 ⟨(some 4), none, .q (.mv (.c (.bool false)))⟩])
 (.seq (.seq (.reg [⟨(some 6), none, .q (.mv (.t 1))⟩,
 ⟨(some 7), none, .q (.len (.t 6))⟩,
 ⟨(some 8), none, .q (.ld true 1 (.t 2))⟩,
 ⟨(some 9), none, .c (.call 49 [(.t 8)])⟩,
 ⟨(some 10), none, .q (.bin .gtr (.t 7) (.t 9))⟩,
 ⟨(some 11), none, .q (.mv (.t 10))⟩,
 ⟨(some 12), (some (11, false)), .q (.ld true 1 (.t 2))⟩,
 ⟨(some 13), (some (11, false)), .q (.mv (.t 1))⟩,
 ⟨(some 14), (some (11, false)), .c (.call 69 [(.t 12), (.t 13)])⟩,
 ⟨(some 15), (some (11, false)), .q (.un .not (.t 14))⟩,
 ⟨(some 16), none, .q (.pick (.t 11) (.c (.bool true)) (.t 15))⟩])
 (.cond (.t 16)
 (.seq (.reg [⟨(some 4), none, .q (.mv (.c (.bool false)))⟩])
 .ret)
 .skip))
 (.seq (.seq (.reg [⟨(some 5), none, .q (.mv (.c (.int .i64 1)))⟩])
 (.block 0 (.loop [1, 5] (.seq (.seq (.reg [⟨(some 17), none, .q (.mv (.t 5))⟩,
 ⟨(some 18), none, .q (.mv (.t 1))⟩,
 ⟨(some 19), none, .q (.len (.t 18))⟩,
 ⟨(some 20), none, .q (.bin .lss (.t 17) (.t 19))⟩])
 (.cond (.t 20)
 .skip
 (.exit 0)))
 (.seq (.block 1 (.seq (.sch (.take 0 ⟨(some 23), none, .q (.mv (.t 1))⟩ (.take 1 ⟨(some 24), none, .q (.mv (.t 5))⟩ (.take 2 ⟨(some 25), none, .q (.ixs 1 (.t 23) (.t 24))⟩ (.take 3 ⟨(some 26), none, .q (.ld false 1 (.t 25))⟩ (.take 4 ⟨(some 27), none, .q (.mv (.t 1))⟩ (.take 5 ⟨(some 28), none, .q (.mv (.t 5))⟩ (.take 6 ⟨(some 29), none, .q (.bin .sub (.t 28) (.c (.int .i64 1)))⟩ (.take 7 ⟨(some 30), none, .q (.ixs 1 (.t 27) (.t 29))⟩ (.take 8 ⟨(some 31), none, .q (.ld false 1 (.t 30))⟩ (.take 9 ⟨(some 32), none, .q (.bin .leq (.t 26) (.t 31))⟩ .done)))))))))))
 (.cond (.t 32)
 (.seq (.reg [⟨(some 4), none, .q (.mv (.c (.bool false)))⟩])
 .ret)
 .skip)))
 (.reg [⟨(some 21), none, .q (.mv (.t 5))⟩,
 ⟨(some 22), none, .q (.bin .add (.t 21) (.c (.int .i64 1)))⟩,
 ⟨(some 5), none, .q (.mv (.t 22))⟩]))))))
 (.seq (.reg [⟨(some 4), none, .q (.mv (.c (.bool true)))⟩])
 .ret))))⟩
theorem l_impl_isCode : lowF PA f_impl_isCode 2 [.k [1, 5], .s (.take 0 (.take 1 (.take 2 (.take 3 (.take 4 (.take 5 (.take 6 (.take 7 (.take 8 (.take 9 .done))))))))))] = some c_impl_isCode := by kernel_rfl
abbrev f_spec_l01Own : FuncId := 57
def c_spec_l01Own : AF := ⟨1, 6, [.t 2],
 (.seq (.reg [⟨(some 2), none, .q (.mv (.c (.slice none 0 0)))⟩])
 (.seq (.reg [⟨(some 3), none, .m (.bsl 1 [])⟩,
 ⟨(some 4), none, .q (.mv (.t 0))⟩,
 ⟨(some 5), none, .m (.app 1 8 (.t 3) (.t 4))⟩,
 ⟨(some 2), none, .q (.mv (.t 5))⟩])
 .ret))⟩
theorem l_spec_l01Own : lowF PA f_spec_l01Own 1 [] = some c_spec_l01Own := by kernel_rfl
abbrev f_spec_l01DrawOf : FuncId := 58
def c_spec_l01DrawOf : AF := ⟨2, 49, [.c 4 true 1],
 (.seq (.reg [⟨(some 4), none, .m (.alloc [(.v (.slice none 0 0))])⟩])
 (.seq (.reg [⟨(some 9), none, .m (.bsl 1 [])⟩,
 ⟨(some 10), none, .q (.bld [(.v (.slice none 0 0))] [(0, (.t 9))])⟩,
 ⟨(some 11), none, .q (.mv (.t 0))⟩,
 ⟨(some 12), none, .m (.bsl 1 [(.c (.int .i64 0)), (.c (.int .i64 2)), (.c (.int .i64 2)), (.c (.int .i64 3)), (.c (.int .i64 3))])⟩,
 ⟨(some 13), none, .c (.call 29 [(.t 11), (.t 12)])⟩,
 ⟨(some 5), none, .m (.alloc [(.v (.slice none 0 0))])⟩,
 ⟨none, none, .m (.st true 1 (.t 5) (.t 10))⟩,
 ⟨(some 6), none, .q (.mv (.t 13))⟩])
 (.seq (.seq (.reg [⟨(some 14), none, .q (.mv (.t 0))⟩,
 ⟨(some 15), none, .c (.call 52 [(.t 14), (.c (.int .i64 8))])⟩,
 ⟨(some 16), none, .q (.bin .add (.c (.int .i64 1)) (.t 15))⟩,
 ⟨(some 7), none, .q (.mv (.t 16))⟩])
 (.block 0 (.loop [0, 1, 4, 5, 6, 7, 49] (.seq (.seq (.reg [⟨(some 17), none, .q (.mv (.t 7))⟩,
 ⟨(some 18), none, .q (.bin .gtr (.t 17) (.c (.int .i64 0)))⟩])
 (.cond (.t 18)
 .skip
 (.exit 0)))
 (.seq (.block 1 (.seq (.reg [⟨(some 21), none, .q (.mv (.t 6))⟩,
 ⟨(some 8), none, .q (.mv (.t 21))⟩])
 (.seq (.seq (.reg [⟨(some 22), none, .q (.mv (.t 6))⟩,
 ⟨(some 23), none, .q (.bin .eql (.t 22) (.c (.int .i64 0)))⟩])
 (.cond (.t 23)
 (.reg [⟨(some 24), none, .q (.mv (.t 0))⟩,
 ⟨(some 25), none, .m (.bsl 1 [(.c (.int .i64 2)), (.c (.int .i64 2)), (.c (.int .i64 3)), (.c (.int .i64 4))])⟩,
 ⟨(some 26), none, .c (.call 29 [(.t 24), (.t 25)])⟩,
 ⟨(some 8), none, .q (.mv (.t 26))⟩])
 .skip))
 (.seq (.seq (.reg [⟨(some 27), none, .q (.ld true 1 (.t 5))⟩,
 ⟨(some 28), none, .c (.call 34 [(.t 27)])⟩,
 ⟨(some 29), none, .q (.mv (.t 8))⟩,
 ⟨(some 30), none, .q (.bin .mul (.t 28) (.t 29))⟩,
 ⟨(some 31), none, .q (.mv (.t 1))⟩,
 ⟨(some 32), none, .q (.bin .gtr (.t 30) (.t 31))⟩])
 (.cond (.t 32)
 (.exit 0)
 .skip))
 (.reg [⟨(some 33), none, .q (.fad 0 (.t 5))⟩,
 ⟨(some 34), none, .q (.ld false 1 (.t 33))⟩,
 ⟨(some 35), none, .q (.mv (.t 8))⟩,
 ⟨(some 36), none, .m (.bsl 1 [(.t 35)])⟩,
 ⟨(some 37), none, .m (.app 1 8 (.t 34) (.t 36))⟩,
 ⟨(some 38), none, .q (.fad 0 (.t 5))⟩,
 ⟨none, none, .m (.st false 1 (.t 38) (.t 37))⟩])))))
 (.reg [⟨(some 19), none, .q (.mv (.t 7))⟩,
 ⟨(some 20), none, .q (.bin .sub (.t 19) (.c (.int .i64 1)))⟩,
 ⟨(some 7), none, .q (.mv (.t 20))⟩]))))))
 (.seq (.seq (.reg [⟨(some 39), none, .q (.fad 0 (.t 5))⟩,
 ⟨(some 40), none, .q (.ld false 1 (.t 39))⟩,
 ⟨(some 41), none, .q (.len (.t 40))⟩,
 ⟨(some 42), none, .q (.bin .eql (.t 41) (.c (.int .i64 0)))⟩])
 (.cond (.t 42)
 (.reg [⟨(some 43), none, .q (.fad 0 (.t 5))⟩,
 ⟨(some 44), none, .q (.ld false 1 (.t 43))⟩,
 ⟨(some 45), none, .m (.bsl 1 [(.c (.int .i64 2))])⟩,
 ⟨(some 46), none, .m (.app 1 8 (.t 44) (.t 45))⟩,
 ⟨(some 47), none, .q (.fad 0 (.t 5))⟩,
 ⟨none, none, .m (.st false 1 (.t 47) (.t 46))⟩])
 .skip))
 (.seq (.reg [⟨(some 48), none, .q (.ld true 1 (.t 5))⟩,
 ⟨none, none, .m (.st true 1 (.t 4) (.t 48))⟩])
 .ret)))))⟩
theorem l_spec_l01DrawOf : lowF PA f_spec_l01DrawOf 2 [.k [0, 1, 4, 5, 6, 7, 49]] = some c_spec_l01DrawOf := by kernel_rfl
abbrev f_impl_digitsOf : FuncId := 59
def c_impl_digitsOf : AF := ⟨2, 34, [.c 4 true 8],
 (.seq (.reg [⟨(some 2), none, .m (.box (.t 0))⟩,
 ⟨(some 4), none, .m (.alloc [(.v (.int .u8 0)), (.v (.int .u8 0)), (.v (.int .u8 0)), (.v (.int .u8 0)), (.v (.int .u8 0)), (.v (.int .u8 0)), (.v (.int .u8 0)), (.v (.int .u8 0))])⟩])
 (.seq (.reg [⟨(some 7), none, .q (.bld [(.v (.int .u8 0)), (.v (.int .u8 0)), (.v (.int .u8 0)), (.v (.int .u8 0)), (.v (.int .u8 0)), (.v (.int .u8 0)), (.v (.int .u8 0)), (.v (.int .u8 0))] [])⟩,
 ⟨(some 5), none, .m (.alloc [(.v (.int .u8 0)), (.v (.int .u8 0)), (.v (.int .u8 0)), (.v (.int .u8 0)), (.v (.int .u8 0)), (.v (.int .u8 0)), (.v (.int .u8 0)), (.v (.int .u8 0))])⟩,
 ⟨none, none, .m (.st true 8 (.t 5) (.t 7))⟩])
 (.seq (.seq (.reg [⟨(some 8), none, .q (.fad 0 (.t 2))⟩,
 ⟨(some 9), none, .q (.ld false 1 (.t 8))⟩,
 ⟨(some 10), none, .q (.len (.t 9))⟩,
 ⟨(some 11), none, .q (.bin .sub (.t 10) (.c (.int .i64 1)))⟩,
 ⟨(some 6), none, .q (.mv (.t 11))⟩])
 (.block 0 (.loop [1, 2, 4, 5, 6] (.seq (.seq (.reg [⟨(some 12), none, .q (.mv (.t 6))⟩,
 ⟨(some 13), none, .q (.bin .geq (.t 12) (.c (.int .i64 0)))⟩])
 (.cond (.t 13)
 .skip
 (.exit 0)))
 (.seq (.block 1 (.seq (.reg [⟨(some 16), none, .q (.mv (.t 6))⟩,
 ⟨(some 17), none, .q (.mv (.t 1))⟩,
 ⟨(some 18), none, .q (.fad 0 (.t 2))⟩,
 ⟨(some 19), none, .q (.ld false 1 (.t 18))⟩,
 ⟨(some 20), none, .q (.mv (.t 6))⟩,
 ⟨(some 21), none, .q (.ixs 1 (.t 19) (.t 20))⟩,
 ⟨(some 22), none, .q (.ld false 1 (.t 21))⟩,
 ⟨(some 23), none, .q (.bin .rem (.t 17) (.t 22))⟩,
 ⟨(some 24), none, .q (.cvt .u8 (.t 23))⟩,
 ⟨(some 25), none, .q (.ixa 8 1 (.t 5) (.t 16))⟩,
 ⟨none, none, .m (.st false 1 (.t 25) (.t 24))⟩])
 (.reg [⟨(some 26), none, .q (.mv (.t 1))⟩,
 ⟨(some 27), none, .q (.fad 0 (.t 2))⟩,
 ⟨(some 28), none, .q (.ld false 1 (.t 27))⟩,
 ⟨(some 29), none, .q (.mv (.t 6))⟩,
 ⟨(some 30), none, .q (.ixs 1 (.t 28) (.t 29))⟩,
 ⟨(some 31), none, .q (.ld false 1 (.t 30))⟩,
 ⟨(some 32), none, .q (.bin .quo (.t 26) (.t 31))⟩,
 ⟨(some 1), none, .q (.mv (.t 32))⟩])))
 (.reg [⟨(some 14), none, .q (.mv (.t 6))⟩,
 ⟨(some 15), none, .q (.bin .sub (.t 14) (.c (.int .i64 1)))⟩,
 ⟨(some 6), none, .q (.mv (.t 15))⟩]))))))
 (.seq (.reg [⟨(some 33), none, .q (.ld true 8 (.t 5))⟩,
 ⟨none, none, .m (.st true 8 (.t 4) (.t 33))⟩])
 .ret))))⟩
theorem l_impl_digitsOf : lowF PA f_impl_digitsOf 2 [.k [1, 2, 4, 5, 6]] = some c_impl_digitsOf := by kernel_rfl
abbrev f_math_bits_Mul : FuncId := 60
def c_math_bits_Mul : AF := ⟨2, 30, [.t 4, .t 5],
 (.seq (.reg [⟨(some 4), none, .q (.mv (.c (.int .u64 0)))⟩,
 ⟨(some 5), none, .q (.mv (.c (.int .u64 0)))⟩])
 (.seq (.cond (.c (.bool false))
 (.seq (.reg [⟨(some 11), none, .q (.mv (.t 0))⟩,
 ⟨(some 12), none, .q (.cvt .u32 (.t 11))⟩,
 ⟨(some 13), none, .q (.mv (.t 1))⟩,
 ⟨(some 14), none, .q (.cvt .u32 (.t 13))⟩,
 ⟨(some 15), none, .c (.call 70 [(.t 12), (.t 14)])⟩,
 ⟨(some 10), none, .q (.mv (.t 15))⟩,
 ⟨(some 16), none, .q (.ext (.t 10) 0)⟩,
 ⟨(some 17), none, .q (.ext (.t 10) 1)⟩,
 ⟨(some 6), none, .q (.mv (.t 16))⟩,
 ⟨(some 7), none, .q (.mv (.t 17))⟩])
 (.seq (.reg [⟨(some 18), none, .q (.mv (.t 6))⟩,
 ⟨(some 19), none, .q (.cvt .u64 (.t 18))⟩,
 ⟨(some 20), none, .q (.mv (.t 7))⟩,
 ⟨(some 21), none, .q (.cvt .u64 (.t 20))⟩,
 ⟨(some 4), none, .q (.mv (.t 19))⟩,
 ⟨(some 5), none, .q (.mv (.t 21))⟩])
 .ret))
 .skip)
 (.seq (.reg [⟨(some 23), none, .q (.mv (.t 0))⟩,
 ⟨(some 24), none, .q (.mv (.t 1))⟩,
 ⟨(some 25), none, .c (.call 71 [(.t 23), (.t 24)])⟩,
 ⟨(some 22), none, .q (.mv (.t 25))⟩,
 ⟨(some 26), none, .q (.ext (.t 22) 0)⟩,
 ⟨(some 27), none, .q (.ext (.t 22) 1)⟩,
 ⟨(some 8), none, .q (.mv (.t 26))⟩,
 ⟨(some 9), none, .q (.mv (.t 27))⟩])
 (.seq (.reg [⟨(some 28), none, .q (.mv (.t 8))⟩,
 ⟨(some 29), none, .q (.mv (.t 9))⟩,
 ⟨(some 4), none, .q (.mv (.t 28))⟩,
 ⟨(some 5), none, .q (.mv (.t 29))⟩])
 .ret))))⟩
theorem l_math_bits_Mul : lowF PA f_math_bits_Mul 2 [] = some c_math_bits_Mul := by kernel_rfl
abbrev f_impl_those : FuncId := 61
def c_impl_those : AF := ⟨2, 26, [.t 4],
 (.seq (.reg [⟨(some 2), none, .m (.box (.t 0))⟩,
 ⟨(some 4), none, .q (.mv (.c (.slice none 0 0)))⟩])
 (.seq (.reg [⟨(some 8), none, .m (.bsl 1 [])⟩,
 ⟨(some 5), none, .q (.mv (.t 8))⟩])
 (.seq (.seq (.reg [⟨(some 9), none, .q (.ld true 1 (.t 2))⟩,
 ⟨(some 10), none, .c (.call 38 [(.t 9)])⟩,
 ⟨(some 11), none, .q (.len (.t 10))⟩,
 ⟨(some 12), none, .q (.mv (.c (.int .i64 0)))⟩])
 (.block 0 (.loop [1, 5, 10, 11, 12] (.seq (.reg [⟨(some 13), none, .q (.bin .lss (.t 12) (.t 11))⟩])
 (.seq (.cond (.t 13)
 .skip
 (.exit 0))
 (.seq (.block 1 (.seq (.reg [⟨(some 14), none, .q (.mv (.t 12))⟩,
 ⟨(some 15), none, .q (.ixs 8 (.t 10) (.t 12))⟩,
 ⟨(some 16), none, .q (.ld true 8 (.t 15))⟩,
 ⟨(some 7), none, .m (.alloc [(.v (.int .u8 0)), (.v (.int .u8 0)), (.v (.int .u8 0)), (.v (.int .u8 0)), (.v (.int .u8 0)), (.v (.int .u8 0)), (.v (.int .u8 0)), (.v (.int .u8 0))])⟩,
 ⟨(some 6), none, .q (.mv (.t 14))⟩,
 ⟨none, none, .m (.st true 8 (.t 7) (.t 16))⟩])
 (.seq (.reg [⟨(some 17), none, .q (.mv (.t 1))⟩,
 ⟨(some 18), none, .q (.ld true 8 (.t 7))⟩,
 ⟨(some 19), none, .c (.cav (.t 17) [(.t 18)])⟩])
 (.cond (.t 19)
 (.reg [⟨(some 20), none, .q (.mv (.t 5))⟩,
 ⟨(some 21), none, .q (.mv (.t 6))⟩,
 ⟨(some 22), none, .m (.bsl 1 [(.t 21)])⟩,
 ⟨(some 23), none, .m (.app 1 8 (.t 20) (.t 22))⟩,
 ⟨(some 5), none, .q (.mv (.t 23))⟩])
 .skip))))
 (.reg [⟨(some 24), none, .q (.bin .add (.t 12) (.c (.int .i64 1)))⟩,
 ⟨(some 12), none, .q (.mv (.t 24))⟩])))))))
 (.seq (.reg [⟨(some 25), none, .q (.mv (.t 5))⟩,
 ⟨(some 4), none, .q (.mv (.t 25))⟩])
 .ret))))⟩
theorem l_impl_those : lowF PA f_impl_those 2 [.k [1, 5, 10, 11, 12]] = some c_impl_those := by kernel_rfl
abbrev f_impl_ball_1 : FuncId := 62
def c_impl_ball_1 : AF := ⟨3, 10, [.t 4],
 (.seq (.reg [⟨(some 3), none, .m (.box (.t 0))⟩,
 ⟨(some 4), none, .q (.mv (.c (.bool false)))⟩])
 (.seq (.sch (.take 0 ⟨(some 5), none, .q (.ld true 8 (.t 1))⟩ (.take 1 ⟨(some 6), none, .q (.ld true 8 (.t 3))⟩ (.take 3 ⟨(some 8), none, .q (.ld false 1 (.t 2))⟩ (.one ⟨(some 7), none, .c (.call 42 [(.t 5), (.t 6)])⟩ [1, 0] (.take 4 ⟨(some 9), none, .q (.bin .leq (.t 7) (.t 8))⟩ (.take 5 ⟨(some 4), none, .q (.mv (.t 9))⟩ .done)))))))
 .ret))⟩
theorem l_impl_ball_1 : lowF PA f_impl_ball_1 3 [.s (.take 0 (.take 1 (.take 3 (.one 2 (.take 4 (.take 5 .done))))))] = some c_impl_ball_1 := by kernel_rfl
abbrev f_slices_pdqsortOrdered_int64_ : FuncId := 63
abbrev f_math_bits_Len : FuncId := 64
abbrev f_spec_l01Distance : FuncId := 65
def c_spec_l01Distance : AF := ⟨3, 49, [.t 6],
 (.seq (.reg [⟨(some 3), none, .m (.box (.t 0))⟩,
 ⟨(some 6), none, .q (.mv (.c (.int .i64 0)))⟩])
 (.seq (.reg [⟨(some 7), none, .q (.mv (.c (.int .i64 0)))⟩])
 (.seq (.seq (.reg [⟨(some 9), none, .q (.fad 0 (.t 3))⟩,
 ⟨(some 10), none, .q (.ld false 1 (.t 9))⟩,
 ⟨(some 11), none, .q (.len (.t 10))⟩,
 ⟨(some 12), none, .q (.bin .sub (.t 11) (.c (.int .i64 1)))⟩,
 ⟨(some 8), none, .q (.mv (.t 12))⟩])
 (.block 0 (.loop [1, 2, 3, 7, 8] (.seq (.seq (.reg [⟨(some 13), none, .q (.mv (.t 8))⟩,
 ⟨(some 14), none, .q (.bin .geq (.t 13) (.c (.int .i64 0)))⟩])
 (.cond (.t 14)
 .skip
 (.exit 0)))
 (.seq (.block 1 (.seq (.seq (.sch (.take 0 ⟨(some 17), none, .q (.mv (.t 1))⟩ (.take 1 ⟨(some 18), none, .q (.fad 0 (.t 3))⟩ (.take 2 ⟨(some 19), none, .q (.ld false 1 (.t 18))⟩ (.take 3 ⟨(some 20), none, .q (.mv (.t 8))⟩ (.take 4 ⟨(some 21), none, .q (.ixs 1 (.t 19) (.t 20))⟩ (.take 5 ⟨(some 22), none, .q (.ld false 1 (.t 21))⟩ (.take 6 ⟨(some 23), none, .q (.bin .rem (.t 17) (.t 22))⟩ (.take 7 ⟨(some 24), none, .q (.mv (.t 2))⟩ (.take 8 ⟨(some 25), none, .q (.fad 0 (.t 3))⟩ (.take 9 ⟨(some 26), none, .q (.ld false 1 (.t 25))⟩ (.take 10 ⟨(some 27), none, .q (.mv (.t 8))⟩ (.take 11 ⟨(some 28), none, .q (.ixs 1 (.t 26) (.t 27))⟩ (.take 12 ⟨(some 29), none, .q (.ld false 1 (.t 28))⟩ (.take 13 ⟨(some 30), none, .q (.bin .rem (.t 24) (.t 29))⟩ (.take 14 ⟨(some 31), none, .q (.bin .neq (.t 23) (.t 30))⟩ .done))))))))))))))))
 (.cond (.t 31)
 (.reg [⟨(some 32), none, .q (.mv (.t 7))⟩,
 ⟨(some 33), none, .q (.bin .add (.t 32) (.c (.int .i64 1)))⟩,
 ⟨(some 7), none, .q (.mv (.t 33))⟩])
 .skip))
 (.seq (.reg [⟨(some 34), none, .q (.mv (.t 1))⟩,
 ⟨(some 35), none, .q (.fad 0 (.t 3))⟩,
 ⟨(some 36), none, .q (.ld false 1 (.t 35))⟩,
 ⟨(some 37), none, .q (.mv (.t 8))⟩,
 ⟨(some 38), none, .q (.ixs 1 (.t 36) (.t 37))⟩,
 ⟨(some 39), none, .q (.ld false 1 (.t 38))⟩,
 ⟨(some 40), none, .q (.bin .quo (.t 34) (.t 39))⟩,
 ⟨(some 1), none, .q (.mv (.t 40))⟩])
 (.reg [⟨(some 41), none, .q (.mv (.t 2))⟩,
 ⟨(some 42), none, .q (.fad 0 (.t 3))⟩,
 ⟨(some 43), none, .q (.ld false 1 (.t 42))⟩,
 ⟨(some 44), none, .q (.mv (.t 8))⟩,
 ⟨(some 45), none, .q (.ixs 1 (.t 43) (.t 44))⟩,
 ⟨(some 46), none, .q (.ld false 1 (.t 45))⟩,
 ⟨(some 47), none, .q (.bin .quo (.t 41) (.t 46))⟩,
 ⟨(some 2), none, .q (.mv (.t 47))⟩]))))
 (.reg [⟨(some 15), none, .q (.mv (.t 8))⟩,
 ⟨(some 16), none, .q (.bin .sub (.t 15) (.c (.int .i64 1)))⟩,
 ⟨(some 8), none, .q (.mv (.t 16))⟩]))))))
 (.seq (.reg [⟨(some 48), none, .q (.mv (.t 7))⟩,
 ⟨(some 6), none, .q (.mv (.t 48))⟩])
 .ret))))⟩
theorem l_spec_l01Distance : lowF PA f_spec_l01Distance 3 [.k [1, 2, 3, 7, 8], .s (.take 0 (.take 1 (.take 2 (.take 3 (.take 4 (.take 5 (.take 6 (.take 7 (.take 8 (.take 9 (.take 10 (.take 11 (.take 12 (.take 13 (.take 14 .done)))))))))))))))] = some c_spec_l01Distance := by kernel_rfl
abbrev f_slices_Contains___int64_int64_ : FuncId := 66
def c_slices_Contains___int64_int64_ : AF := ⟨2, 9, [.t 4],
 (.seq (.reg [⟨(some 4), none, .q (.mv (.c (.bool false)))⟩])
 (.seq (.reg [⟨(some 5), none, .q (.mv (.t 0))⟩,
 ⟨(some 6), none, .q (.mv (.t 1))⟩,
 ⟨(some 7), none, .c (.call 83 [(.t 5), (.t 6)])⟩,
 ⟨(some 8), none, .q (.bin .geq (.t 7) (.c (.int .i64 0)))⟩,
 ⟨(some 4), none, .q (.mv (.t 8))⟩])
 .ret))⟩
theorem l_slices_Contains___int64_int64_ : lowF PA f_slices_Contains___int64_int64_ 2 [] = some c_slices_Contains___int64_int64_ := by kernel_rfl
abbrev f_spec_l01Digits : FuncId := 67
def c_spec_l01Digits : AF := ⟨2, 37, [.t 4],
 (.seq (.reg [⟨(some 2), none, .m (.box (.t 0))⟩,
 ⟨(some 4), none, .q (.mv (.c (.slice none 0 0)))⟩])
 (.seq (.reg [⟨(some 7), none, .q (.fad 0 (.t 2))⟩,
 ⟨(some 8), none, .q (.ld false 1 (.t 7))⟩,
 ⟨(some 9), none, .q (.len (.t 8))⟩,
 ⟨(some 10), none, .m (.mks 1 (.v (.int .i64 0)) 8 (.t 9) (.t 9))⟩,
 ⟨(some 5), none, .q (.mv (.t 10))⟩])
 (.seq (.seq (.reg [⟨(some 11), none, .q (.fad 0 (.t 2))⟩,
 ⟨(some 12), none, .q (.ld false 1 (.t 11))⟩,
 ⟨(some 13), none, .q (.len (.t 12))⟩,
 ⟨(some 14), none, .q (.bin .sub (.t 13) (.c (.int .i64 1)))⟩,
 ⟨(some 6), none, .q (.mv (.t 14))⟩])
 (.block 0 (.loop [1, 2, 5, 6] (.seq (.seq (.reg [⟨(some 15), none, .q (.mv (.t 6))⟩,
 ⟨(some 16), none, .q (.bin .geq (.t 15) (.c (.int .i64 0)))⟩])
 (.cond (.t 16)
 .skip
 (.exit 0)))
 (.seq (.block 1 (.seq (.reg [⟨(some 19), none, .q (.mv (.t 5))⟩,
 ⟨(some 20), none, .q (.mv (.t 6))⟩,
 ⟨(some 21), none, .q (.mv (.t 1))⟩,
 ⟨(some 22), none, .q (.fad 0 (.t 2))⟩,
 ⟨(some 23), none, .q (.ld false 1 (.t 22))⟩,
 ⟨(some 24), none, .q (.mv (.t 6))⟩,
 ⟨(some 25), none, .q (.ixs 1 (.t 23) (.t 24))⟩,
 ⟨(some 26), none, .q (.ld false 1 (.t 25))⟩,
 ⟨(some 27), none, .q (.bin .rem (.t 21) (.t 26))⟩,
 ⟨(some 28), none, .q (.ixs 1 (.t 19) (.t 20))⟩,
 ⟨none, none, .m (.st false 1 (.t 28) (.t 27))⟩])
 (.reg [⟨(some 29), none, .q (.mv (.t 1))⟩,
 ⟨(some 30), none, .q (.fad 0 (.t 2))⟩,
 ⟨(some 31), none, .q (.ld false 1 (.t 30))⟩,
 ⟨(some 32), none, .q (.mv (.t 6))⟩,
 ⟨(some 33), none, .q (.ixs 1 (.t 31) (.t 32))⟩,
 ⟨(some 34), none, .q (.ld false 1 (.t 33))⟩,
 ⟨(some 35), none, .q (.bin .quo (.t 29) (.t 34))⟩,
 ⟨(some 1), none, .q (.mv (.t 35))⟩])))
 (.reg [⟨(some 17), none, .q (.mv (.t 6))⟩,
 ⟨(some 18), none, .q (.bin .sub (.t 17) (.c (.int .i64 1)))⟩,
 ⟨(some 6), none, .q (.mv (.t 18))⟩]))))))
 (.seq (.reg [⟨(some 36), none, .q (.mv (.t 5))⟩,
 ⟨(some 4), none, .q (.mv (.t 36))⟩])
 .ret))))⟩
theorem l_spec_l01Digits : lowF PA f_spec_l01Digits 2 [.k [1, 2, 5, 6]] = some c_spec_l01Digits := by kernel_rfl
abbrev f_spec_l01Code : FuncId := 68
def c_spec_l01Code : AF := ⟨2, 37, [.t 4],
 (.seq (.reg [⟨(some 2), none, .m (.box (.t 0))⟩,
 ⟨(some 4), none, .q (.mv (.c (.bool false)))⟩])
 (.seq (.seq (.reg [⟨(some 5), none, .q (.mv (.c (.int .i64 0)))⟩])
 (.block 0 (.loop [1, 2, 5] (.seq (.seq (.reg [⟨(some 6), none, .q (.mv (.t 5))⟩,
 ⟨(some 7), none, .q (.mv (.t 1))⟩,
 ⟨(some 8), none, .q (.len (.t 7))⟩,
 ⟨(some 9), none, .q (.bin .lss (.t 6) (.t 8))⟩])
 (.cond (.t 9)
 .skip
 (.exit 0)))
 (.seq (.block 1 (.seq (.sch (.take 0 ⟨(some 12), none, .q (.mv (.t 1))⟩ (.take 1 ⟨(some 13), none, .q (.mv (.t 5))⟩ (.take 2 ⟨(some 14), none, .q (.ixs 1 (.t 12) (.t 13))⟩ (.take 3 ⟨(some 15), none, .q (.ld false 1 (.t 14))⟩ (.take 4 ⟨(some 16), none, .q (.ld true 1 (.t 2))⟩ (.one ⟨(some 17), none, .c (.call 34 [(.t 16)])⟩ [4] (.take 6 ⟨(some 18), none, .q (.bin .sub (.t 17) (.c (.int .i64 1)))⟩ (.one ⟨(some 19), none, .c (.call 33 [(.t 15), (.c (.int .i64 0)), (.t 18)])⟩ [3] (.take 8 ⟨(some 20), none, .q (.un .not (.t 19))⟩ (.take 9 ⟨(some 21), none, .q (.mv (.t 20))⟩ (.take 10 ⟨(some 22), (some (21, false)), .q (.mv (.t 5))⟩ (.take 11 ⟨(some 23), (some (21, false)), .q (.bin .gtr (.t 22) (.c (.int .i64 0)))⟩ (.take 12 ⟨(some 24), (some (21, false)), .q (.mv (.t 23))⟩ (.take 13 ⟨(some 25), (some (24, true)), .q (.mv (.t 1))⟩ (.take 14 ⟨(some 26), (some (24, true)), .q (.mv (.t 5))⟩ (.take 15 ⟨(some 27), (some (24, true)), .q (.ixs 1 (.t 25) (.t 26))⟩ (.take 16 ⟨(some 28), (some (24, true)), .q (.ld false 1 (.t 27))⟩ (.take 17 ⟨(some 29), (some (24, true)), .q (.mv (.t 1))⟩ (.take 18 ⟨(some 30), (some (24, true)), .q (.mv (.t 5))⟩ (.take 19 ⟨(some 31), (some (24, true)), .q (.bin .sub (.t 30) (.c (.int .i64 1)))⟩ (.take 20 ⟨(some 32), (some (24, true)), .q (.ixs 1 (.t 29) (.t 31))⟩ (.take 21 ⟨(some 33), (some (24, true)), .q (.ld false 1 (.t 32))⟩ (.take 22 ⟨(some 34), (some (24, true)), .q (.bin .leq (.t 28) (.t 33))⟩ (.take 23 ⟨(some 35), (some (21, false)), .q (.pick (.t 24) (.t 34) (.c (.bool false)))⟩ (.take 24 ⟨(some 36), none, .q (.pick (.t 21) (.c (.bool true)) (.t 35))⟩ .done))))))))))))))))))))))))))
 (.cond (.t 36)
 (.seq (.reg [⟨(some 4), none, .q (.mv (.c (.bool false)))⟩])
 .ret)
 .skip)))
 (.reg [⟨(some 10), none, .q (.mv (.t 5))⟩,
 ⟨(some 11), none, .q (.bin .add (.t 10) (.c (.int .i64 1)))⟩,
 ⟨(some 5), none, .q (.mv (.t 11))⟩]))))))
 (.seq (.reg [⟨(some 4), none, .q (.mv (.c (.bool true)))⟩])
 .ret)))⟩
theorem l_spec_l01Code : lowF PA f_spec_l01Code 2 [.k [1, 2, 5], .s (.take 0 (.take 1 (.take 2 (.take 3 (.take 4 (.one 5 (.take 6 (.one 7 (.take 8 (.take 9 (.take 10 (.take 11 (.take 12 (.take 13 (.take 14 (.take 15 (.take 16 (.take 17 (.take 18 (.take 19 (.take 20 (.take 21 (.take 22 (.take 23 (.take 24 .done)))))))))))))))))))))))))] = some c_spec_l01Code := by kernel_rfl
abbrev f_impl_areWords : FuncId := 69
def c_impl_areWords : AF := ⟨2, 24, [.t 4],
 (.seq (.reg [⟨(some 2), none, .m (.box (.t 0))⟩,
 ⟨(some 4), none, .q (.mv (.c (.bool false)))⟩])
 (.seq (.reg [⟨(some 8), none, .q (.ld true 1 (.t 2))⟩,
 ⟨(some 9), none, .c (.call 49 [(.t 8)])⟩,
 ⟨(some 5), none, .q (.mv (.t 9))⟩])
 (.seq (.seq (.reg [⟨(some 10), none, .q (.mv (.t 1))⟩,
 ⟨(some 11), none, .q (.len (.t 10))⟩,
 ⟨(some 12), none, .q (.mv (.c (.int .i64 0)))⟩])
 (.block 0 (.loop [5, 10, 11, 12] (.seq (.reg [⟨(some 13), none, .q (.bin .lss (.t 12) (.t 11))⟩])
 (.seq (.cond (.t 13)
 .skip
 (.exit 0))
 (.seq (.block 1 (.seq (.reg [⟨(some 14), none, .q (.ixs 1 (.t 10) (.t 12))⟩,
 ⟨(some 15), none, .q (.ld false 1 (.t 14))⟩,
 ⟨(some 7), none, .q (.mv (.t 15))⟩])
 (.seq (.reg [⟨(some 16), none, .q (.mv (.t 7))⟩,
 ⟨(some 17), none, .q (.bin .lss (.t 16) (.c (.int .i64 0)))⟩,
 ⟨(some 18), none, .q (.mv (.t 17))⟩,
 ⟨(some 19), (some (18, false)), .q (.mv (.t 7))⟩,
 ⟨(some 20), (some (18, false)), .q (.mv (.t 5))⟩,
 ⟨(some 21), (some (18, false)), .q (.bin .geq (.t 19) (.t 20))⟩,
 ⟨(some 22), none, .q (.pick (.t 18) (.c (.bool true)) (.t 21))⟩])
 (.cond (.t 22)
 (.seq (.reg [⟨(some 4), none, .q (.mv (.c (.bool false)))⟩])
 .ret)
 .skip))))
 (.reg [⟨(some 23), none, .q (.bin .add (.t 12) (.c (.int .i64 1)))⟩,
 ⟨(some 12), none, .q (.mv (.t 23))⟩])))))))
 (.seq (.reg [⟨(some 4), none, .q (.mv (.c (.bool true)))⟩])
 .ret))))⟩
theorem l_impl_areWords : lowF PA f_impl_areWords 2 [.k [5, 10, 11, 12]] = some c_impl_areWords := by kernel_rfl
abbrev f_math_bits_Mul32 : FuncId := 70
abbrev f_math_bits_Mul64 : FuncId := 71
def c_math_bits_Mul64 : AF := ⟨2, 51, [.t 4, .t 5],
 (.seq (.reg [⟨(some 4), none, .q (.mv (.c (.int .u64 0)))⟩,
 ⟨(some 5), none, .q (.mv (.c (.int .u64 0)))⟩])
 (.seq (.reg [⟨(some 14), none, .q (.mv (.t 0))⟩,
 ⟨(some 15), none, .q (.bin .and (.t 14) (.c (.int .u64 4294967295)))⟩,
 ⟨(some 6), none, .q (.mv (.t 15))⟩])
 (.seq (.reg [⟨(some 16), none, .q (.mv (.t 0))⟩,
 ⟨(some 17), none, .q (.bin .shr (.t 16) (.c (.int .u64 32)))⟩,
 ⟨(some 7), none, .q (.mv (.t 17))⟩])
 (.seq (.reg [⟨(some 18), none, .q (.mv (.t 1))⟩,
 ⟨(some 19), none, .q (.bin .and (.t 18) (.c (.int .u64 4294967295)))⟩,
 ⟨(some 8), none, .q (.mv (.t 19))⟩])
 (.seq (.reg [⟨(some 20), none, .q (.mv (.t 1))⟩,
 ⟨(some 21), none, .q (.bin .shr (.t 20) (.c (.int .u64 32)))⟩,
 ⟨(some 9), none, .q (.mv (.t 21))⟩])
 (.seq (.reg [⟨(some 22), none, .q (.mv (.t 6))⟩,
 ⟨(some 23), none, .q (.mv (.t 8))⟩,
 ⟨(some 24), none, .q (.bin .mul (.t 22) (.t 23))⟩,
 ⟨(some 10), none, .q (.mv (.t 24))⟩])
 (.seq (.reg [⟨(some 25), none, .q (.mv (.t 7))⟩,
 ⟨(some 26), none, .q (.mv (.t 8))⟩,
 ⟨(some 27), none, .q (.bin .mul (.t 25) (.t 26))⟩,
 ⟨(some 28), none, .q (.mv (.t 10))⟩,
 ⟨(some 29), none, .q (.bin .shr (.t 28) (.c (.int .u64 32)))⟩,
 ⟨(some 30), none, .q (.bin .add (.t 27) (.t 29))⟩,
 ⟨(some 11), none, .q (.mv (.t 30))⟩])
 (.seq (.reg [⟨(some 31), none, .q (.mv (.t 11))⟩,
 ⟨(some 32), none, .q (.bin .and (.t 31) (.c (.int .u64 4294967295)))⟩,
 ⟨(some 12), none, .q (.mv (.t 32))⟩])
 (.seq (.reg [⟨(some 33), none, .q (.mv (.t 11))⟩,
 ⟨(some 34), none, .q (.bin .shr (.t 33) (.c (.int .u64 32)))⟩,
 ⟨(some 13), none, .q (.mv (.t 34))⟩])
 (.seq (.reg [⟨(some 35), none, .q (.mv (.t 12))⟩,
 ⟨(some 36), none, .q (.mv (.t 6))⟩,
 ⟨(some 37), none, .q (.mv (.t 9))⟩,
 ⟨(some 38), none, .q (.bin .mul (.t 36) (.t 37))⟩,
 ⟨(some 39), none, .q (.bin .add (.t 35) (.t 38))⟩,
 ⟨(some 12), none, .q (.mv (.t 39))⟩])
 (.seq (.reg [⟨(some 40), none, .q (.mv (.t 7))⟩,
 ⟨(some 41), none, .q (.mv (.t 9))⟩,
 ⟨(some 42), none, .q (.bin .mul (.t 40) (.t 41))⟩,
 ⟨(some 43), none, .q (.mv (.t 13))⟩,
 ⟨(some 44), none, .q (.bin .add (.t 42) (.t 43))⟩,
 ⟨(some 45), none, .q (.mv (.t 12))⟩,
 ⟨(some 46), none, .q (.bin .shr (.t 45) (.c (.int .u64 32)))⟩,
 ⟨(some 47), none, .q (.bin .add (.t 44) (.t 46))⟩,
 ⟨(some 4), none, .q (.mv (.t 47))⟩])
 (.seq (.reg [⟨(some 48), none, .q (.mv (.t 0))⟩,
 ⟨(some 49), none, .q (.mv (.t 1))⟩,
 ⟨(some 50), none, .q (.bin .mul (.t 48) (.t 49))⟩,
 ⟨(some 5), none, .q (.mv (.t 50))⟩])
 .ret))))))))))))⟩
theorem l_math_bits_Mul64 : lowF PA f_math_bits_Mul64 2 [] = some c_math_bits_Mul64 := by kernel_rfl
abbrev f_slices_insertionSortOrdered_int64_ : FuncId := 72
abbrev f_slices_heapSortOrdered_int64_ : FuncId := 73
abbrev f_slices_breakPatternsOrdered_int64_ : FuncId := 74
abbrev f_slices_choosePivotOrdered_int64_ : FuncId := 75
abbrev f_slices_reverseRangeOrdered_int64_ : FuncId := 76
abbrev f_slices_partialInsertionSortOrdered_int64_ : FuncId := 77
abbrev f_cmp_Less_int64_ : FuncId := 78
abbrev f_slices_partitionEqualOrdered_int64_ : FuncId := 79
abbrev f_slices_partitionOrdered_int64_ : FuncId := 80
abbrev f_math_bits_Len32 : FuncId := 81
abbrev f_math_bits_Len64 : FuncId := 82
abbrev f_slices_Index___int64_int64_ : FuncId := 83
def c_slices_Index___int64_int64_ : AF := ⟨2, 19, [.t 4],
 (.seq (.reg [⟨(some 4), none, .q (.mv (.c (.int .i64 0)))⟩])
 (.seq (.seq (.reg [⟨(some 6), none, .q (.mv (.t 0))⟩,
 ⟨(some 7), none, .q (.len (.t 6))⟩,
 ⟨(some 8), none, .q (.mv (.c (.int .i64 0)))⟩])
 (.block 0 (.loop [0, 1, 7, 8] (.seq (.reg [⟨(some 9), none, .q (.bin .lss (.t 8) (.t 7))⟩])
 (.seq (.cond (.t 9)
 .skip
 (.exit 0))
 (.seq (.block 1 (.seq (.reg [⟨(some 10), none, .q (.mv (.t 8))⟩,
 ⟨(some 5), none, .q (.mv (.t 10))⟩])
 (.seq (.reg [⟨(some 11), none, .q (.mv (.t 1))⟩,
 ⟨(some 12), none, .q (.mv (.t 0))⟩,
 ⟨(some 13), none, .q (.mv (.t 5))⟩,
 ⟨(some 14), none, .q (.ixs 1 (.t 12) (.t 13))⟩,
 ⟨(some 15), none, .q (.ld false 1 (.t 14))⟩,
 ⟨(some 16), none, .q (.bin .eql (.t 11) (.t 15))⟩])
 (.cond (.t 16)
 (.seq (.reg [⟨(some 17), none, .q (.mv (.t 5))⟩,
 ⟨(some 4), none, .q (.mv (.t 17))⟩])
 .ret)
 .skip))))
 (.reg [⟨(some 18), none, .q (.bin .add (.t 8) (.c (.int .i64 1)))⟩,
 ⟨(some 8), none, .q (.mv (.t 18))⟩])))))))
 (.seq (.reg [⟨(some 4), none, .q (.mv (.c (.int .i64 (-1))))⟩])
 .ret)))⟩
theorem l_slices_Index___int64_int64_ : lowF PA f_slices_Index___int64_int64_ 2 [.k [0, 1, 7, 8]] = some c_slices_Index___int64_int64_ := by kernel_rfl
abbrev f_slices_siftDownOrdered_int64_ : FuncId := 84
abbrev f_slices_nextPowerOfTwo : FuncId := 85
abbrev f___slices_xorshift__Next : FuncId := 86
abbrev f_slices_medianAdjacentOrdered_int64_ : FuncId := 87
abbrev f_slices_medianOrdered_int64_ : FuncId := 88
abbrev f_cmp_isNaN_int64_ : FuncId := 89
abbrev f_slices_order2Ordered_int64_ : FuncId := 90
def sort_ren : Go.Shelf.Ren := ⟨fun | 5 => 41 | 8 => 64 | 7 => 63 | 19 => 81 | 20 => 82 | 10 => 72 | 11 => 73 | 12 => 74 | 13 => 75 | 14 => 76 | 15 => 77 | 16 => 78 | 17 => 79 | 18 => 80 | 30 => 84 | 31 => 85 | 32 => 86 | 33 => 87 | 34 => 88 | 35 => 89 | 40 => 90 | n => n, fun | 23 => 24 | 25 => 2 | 3 => 3 | 32 => 83 | 22 => 24 | 0 => 0 | 44 => 93 | 46 => 75 | 4 => 4 | 36 => 100 | 35 => 99 | 41 => 105 | 5 => 5 | 9 => 9 | 53 => 110 | 57 => 114 | 63 => 116 | 64 => 117 | n => n, fun | n => n⟩
theorem sort_lay : Go.Proofs.SlLaysM.n5 Try.prog sort_ren := {
  mixed := by kernel_rfl
  f5 := ⟨Try.f41.name, by decide, Try.func41.trans (congrArg some (by kernel_rfl))⟩
  f7 := ⟨Try.f63.name, by decide, Try.func63.trans (congrArg some (by kernel_rfl))⟩
  f8 := Try.func64.trans (congrArg some (by kernel_rfl))
  f10 := ⟨Try.f72.name, by decide, Try.func72.trans (congrArg some (by kernel_rfl))⟩
  f11 := ⟨Try.f73.name, by decide, Try.func73.trans (congrArg some (by kernel_rfl))⟩
  f12 := ⟨Try.f74.name, by decide, Try.func74.trans (congrArg some (by kernel_rfl))⟩
  f13 := ⟨Try.f75.name, by decide, Try.func75.trans (congrArg some (by kernel_rfl))⟩
  f14 := ⟨Try.f76.name, by decide, Try.func76.trans (congrArg some (by kernel_rfl))⟩
  f15 := ⟨Try.f77.name, by decide, Try.func77.trans (congrArg some (by kernel_rfl))⟩
  f16 := ⟨Try.f78.name, by decide, Try.func78.trans (congrArg some (by kernel_rfl))⟩
  f17 := ⟨Try.f79.name, by decide, Try.func79.trans (congrArg some (by kernel_rfl))⟩
  f18 := ⟨Try.f80.name, by decide, Try.func80.trans (congrArg some (by kernel_rfl))⟩
  f19 := Try.func81.trans (congrArg some (by kernel_rfl))
  f20 := Try.func82.trans (congrArg some (by kernel_rfl))
  f30 := ⟨Try.f84.name, by decide, Try.func84.trans (congrArg some (by kernel_rfl))⟩
  f31 := Try.func85.trans (congrArg some (by kernel_rfl))
  f32 := Try.func86.trans (congrArg some (by kernel_rfl))
  f33 := ⟨Try.f87.name, by decide, Try.func87.trans (congrArg some (by kernel_rfl))⟩
  f34 := ⟨Try.f88.name, by decide, Try.func88.trans (congrArg some (by kernel_rfl))⟩
  f35 := ⟨Try.f89.name, by decide, Try.func89.trans (congrArg some (by kernel_rfl))⟩
  f40 := ⟨Try.f90.name, by decide, Try.func90.trans (congrArg some (by kernel_rfl))⟩
  t0 := Try.underlying0
  a0 := Try.isAgg0
  z0 := Try.sizeOf0
  v0 := Try.zeroValue0
  t3 := Try.underlying3
  a3 := Try.isAgg3
  z3 := Try.sizeOf3
  v3 := Try.zeroValue3
  t4 := Try.underlying4
  a4 := Try.isAgg4
  z4 := Try.sizeOf4
  v4 := Try.zeroValue4
  t5 := Try.underlying5
  a5 := Try.isAgg5
  z5 := Try.sizeOf5
  v5 := Try.zeroValue5
  t9 := Try.underlying9
  a9 := Try.isAgg9
  z9 := Try.sizeOf9
  v9 := Try.zeroValue9
  t22 := Try.underlying24
  a22 := Try.isAgg24
  z22 := Try.sizeOf24
  v22 := Try.zeroValue24
  t23 := Try.underlying24
  a23 := Try.isAgg24
  z23 := Try.sizeOf24
  v23 := Try.zeroValue24
  t25 := Try.underlying2
  a25 := Try.isAgg2
  z25 := Try.sizeOf2
  v25 := Try.zeroValue2
  t32 := Try.underlying83
  a32 := Try.isAgg83
  z32 := Try.sizeOf83
  v32 := Try.zeroValue83
  t35 := Try.underlying99
  a35 := Try.isAgg99
  z35 := Try.sizeOf99
  v35 := Try.zeroValue99
  t36 := Try.underlying100
  a36 := Try.isAgg100
  z36 := Try.sizeOf100
  v36 := Try.zeroValue100
  t41 := Try.underlying105
  a41 := Try.isAgg105
  z41 := Try.sizeOf105
  v41 := Try.zeroValue105
  t44 := Try.underlying93
  a44 := Try.isAgg93
  z44 := Try.sizeOf93
  v44 := Try.zeroValue93
  t46 := Try.underlying75
  a46 := Try.isAgg75
  z46 := Try.sizeOf75
  v46 := Try.zeroValue75
  t53 := Try.underlying110
  a53 := Try.isAgg110
  z53 := Try.sizeOf110
  v53 := Try.zeroValue110
  t57 := Try.underlying114
  a57 := Try.isAgg114
  z57 := Try.sizeOf114
  v57 := Try.zeroValue114
  t63 := Try.underlying116
  a63 := Try.isAgg116
  z63 := Try.sizeOf116
  v63 := Try.zeroValue116
  t64 := Try.underlying117
  a64 := Try.isAgg117
  z64 := Try.sizeOf117
  v64 := Try.zeroValue117 }
theorem sort_calls : SortCalls PA f_slices_Sort___int64_int64_ := fun blk off cap zs w h1 h2 h3 => AnyM.slices_Sort_int sort_lay blk off cap zs w h1 h2 h3
end Go.Proofs.Ytfgjfjgkoabfjab.Va
