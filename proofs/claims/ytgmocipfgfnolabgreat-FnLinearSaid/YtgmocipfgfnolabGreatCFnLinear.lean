/- The code of the functions that FnLinear reaches, laid out for a walk: each is what the lowering makes of the program's own text. Condition: none. -/
import Derived.Shelf.SortM.Plain
import Derived.Test.YtgmocipfgfnolabGreatVa2
import Derived.Test.YtgmocipfgfnolabGreatProg
import Derived.KernelRfl
set_option linter.all false
set_option linter.unusedSimpArgs false
set_option linter.unusedVariables false
namespace Go.Proofs.YtgmocipfgfnolabGreat.Va
open Go
noncomputable abbrev PA : Program := Go.Proofs.Tryz.prog
abbrev Iq (d : Nat) (o : AOp) : AQ := ⟨some d, none, .q o⟩
abbrev Im (d : Nat) (o : AOp) : AQ := ⟨some d, none, .m o⟩
abbrev Ic (d : Nat) (o : AOp) : AQ := ⟨some d, none, .c o⟩
attribute [go_sem] Iq Im Ic
abbrev f_laws_FnLinear : FuncId := 3
def c_laws_FnLinear : AF := ⟨1, 415, [.t 2],
 (.seq (.reg [(Iq 2 (.mv (.c (.bool false))))])
 (.seq (.seq (.reg [(Iq 63 (.mv (.t 0))),
 (Ic 64 (.call 4 [(.t 63)]))])
 (.cond (.t 64)
 (.seq (.reg [(Iq 2 (.mv (.c (.bool true))))])
 .ret)
 .skip))
 (.seq (.reg [(Iq 66 (.mv (.t 0))),
 (Ic 67 (.call 5 [(.t 66)])),
 (Iq 65 (.mv (.t 67))),
 (Iq 68 (.ext (.t 65) 0)),
 (Iq 69 (.ext (.t 65) 1)),
 (Im 3 (.alloc [(.v (.slice none 0 0))])),
 ⟨none, none, .m (.st true 1 (.t 3) (.t 68))⟩,
 (Iq 4 (.mv (.t 69)))])
 (.seq (.reg [(Iq 71 (.ld true 1 (.t 3))),
 (Iq 72 (.mv (.t 4))),
 (Ic 73 (.call 6 [(.t 71), (.t 72)])),
 (Iq 70 (.mv (.t 73))),
 (Iq 74 (.ext (.t 70) 0)),
 (Iq 75 (.ext (.t 70) 1)),
 (Iq 5 (.mv (.t 74))),
 (Iq 6 (.mv (.t 75)))])
 (.seq (.reg [(Iq 77 (.ld true 1 (.t 3))),
 (Iq 78 (.mv (.t 4))),
 (Ic 79 (.call 7 [(.t 77), (.t 78)])),
 (Iq 76 (.mv (.t 79))),
 (Iq 80 (.ext (.t 76) 0)),
 (Iq 81 (.ext (.t 76) 1)),
 (Iq 7 (.mv (.t 80))),
 (Iq 8 (.mv (.t 81)))])
 (.seq (.reg [(Iq 83 (.ld true 1 (.t 3))),
 (Ic 84 (.call 8 [(.t 83)])),
 (Iq 82 (.mv (.t 84))),
 (Iq 85 (.ext (.t 82) 0)),
 (Iq 86 (.ext (.t 82) 1)),
 (Iq 9 (.mv (.t 85))),
 (Iq 10 (.mv (.t 86)))])
 (.seq (.reg [(Iq 88 (.ld true 1 (.t 3))),
 (Ic 89 (.call 9 [(.t 88)])),
 (Iq 87 (.mv (.t 89))),
 (Iq 90 (.ext (.t 87) 0)),
 (Iq 91 (.ext (.t 87) 1)),
 (Iq 11 (.mv (.t 90))),
 (Iq 12 (.mv (.t 91)))])
 (.seq (.seq (.reg [(Iq 92 (.mv (.t 6))),
 (Iq 93 (.mv (.t 8))),
 (Iq 94 (.bin .neq (.t 92) (.t 93))),
 (Iq 95 (.mv (.t 94))),
 ⟨(some 96), (some (95, false)), .q (.mv (.t 5))⟩,
 ⟨(some 97), (some (95, false)), .q (.mv (.t 7))⟩,
 ⟨(some 98), (some (95, false)), .c (.call 10 [(.t 96), (.t 97)])⟩,
 ⟨(some 99), (some (95, false)), .q (.un .not (.t 98))⟩,
 (Iq 100 (.pick (.t 95) (.c (.bool true)) (.t 99))),
 (Iq 101 (.mv (.t 100))),
 ⟨(some 102), (some (101, false)), .q (.mv (.t 10))⟩,
 ⟨(some 103), (some (101, false)), .q (.mv (.t 12))⟩,
 ⟨(some 104), (some (101, false)), .q (.bin .neq (.t 102) (.t 103))⟩,
 (Iq 105 (.pick (.t 101) (.c (.bool true)) (.t 104))),
 (Iq 106 (.mv (.t 105))),
 ⟨(some 107), (some (106, false)), .q (.mv (.t 9))⟩,
 ⟨(some 108), (some (106, false)), .q (.mv (.t 11))⟩,
 ⟨(some 109), (some (106, false)), .q (.eqb true (.t 107) (.t 108))⟩,
 (Iq 110 (.pick (.t 106) (.c (.bool true)) (.t 109)))])
 (.cond (.t 110)
 (.seq (.reg [(Iq 2 (.mv (.c (.bool false))))])
 .ret)
 .skip))
 (.seq (.seq (.reg [(Iq 111 (.mv (.t 6))),
 (Iq 112 (.bin .eql (.t 111) (.c (.int .i64 0))))])
 (.cond (.t 112)
 (.seq (.reg [(Iq 114 (.ld true 1 (.t 3))),
 (Iq 115 (.mv (.t 5))),
 (Ic 116 (.call 11 [(.t 114), (.t 115)])),
 (Iq 113 (.mv (.t 116))),
 (Iq 117 (.ext (.t 113) 0)),
 (Iq 118 (.ext (.t 113) 1)),
 (Iq 13 (.mv (.t 117))),
 (Iq 14 (.mv (.t 118)))])
 (.seq (.reg [(Iq 120 (.ld true 1 (.t 3))),
 (Iq 121 (.mv (.t 5))),
 (Ic 122 (.call 12 [(.t 120), (.t 121)])),
 (Iq 119 (.mv (.t 122))),
 (Iq 123 (.ext (.t 119) 0)),
 (Iq 124 (.ext (.t 119) 1)),
 (Iq 15 (.mv (.t 123))),
 (Iq 16 (.mv (.t 124)))])
 (.seq (.reg [(Iq 126 (.ld true 1 (.t 3))),
 (Iq 127 (.mv (.t 15))),
 (Ic 128 (.call 12 [(.t 126), (.t 127)])),
 (Iq 125 (.mv (.t 128))),
 (Iq 129 (.ext (.t 125) 0)),
 (Iq 130 (.ext (.t 125) 1)),
 (Iq 17 (.mv (.t 129))),
 (Iq 18 (.mv (.t 130)))])
 (.seq (.reg [(Iq 132 (.ld true 1 (.t 3))),
 (Iq 133 (.mv (.t 5))),
 (Ic 134 (.call 13 [(.t 132), (.t 133)])),
 (Iq 131 (.mv (.t 134))),
 (Iq 135 (.ext (.t 131) 0)),
 (Iq 136 (.ext (.t 131) 1)),
 (Iq 19 (.mv (.t 135))),
 (Iq 20 (.mv (.t 136)))])
 (.seq (.reg [(Iq 138 (.ld true 1 (.t 3))),
 (Iq 139 (.mv (.t 19))),
 (Ic 140 (.call 6 [(.t 138), (.t 139)])),
 (Iq 137 (.mv (.t 140))),
 (Iq 141 (.ext (.t 137) 0)),
 (Iq 142 (.ext (.t 137) 1)),
 (Iq 21 (.mv (.t 141))),
 (Iq 22 (.mv (.t 142)))])
 (.seq (.reg [(Iq 144 (.ld true 1 (.t 3))),
 (Iq 145 (.mv (.t 5))),
 (Ic 146 (.call 14 [(.t 144), (.t 145)])),
 (Iq 143 (.mv (.t 146))),
 (Iq 147 (.ext (.t 143) 0)),
 (Iq 148 (.ext (.t 143) 1)),
 (Iq 23 (.mv (.t 147))),
 (Iq 24 (.mv (.t 148)))])
 (.seq (.reg [(Iq 150 (.ld true 1 (.t 3))),
 (Iq 151 (.mv (.t 5))),
 (Ic 152 (.call 15 [(.t 150), (.t 151)])),
 (Iq 149 (.mv (.t 152))),
 (Iq 153 (.ext (.t 149) 0)),
 (Iq 154 (.ext (.t 149) 1)),
 (Iq 25 (.mv (.t 153))),
 (Iq 26 (.mv (.t 154)))])
 (.seq (.reg [(Iq 156 (.ld true 1 (.t 3))),
 (Iq 157 (.mv (.t 15))),
 (Ic 158 (.call 16 [(.t 156), (.t 157)])),
 (Iq 155 (.mv (.t 158))),
 (Iq 159 (.ext (.t 155) 0)),
 (Iq 160 (.ext (.t 155) 1)),
 (Iq 27 (.mv (.t 159))),
 (Iq 28 (.mv (.t 160)))])
 (.seq (.reg [(Iq 162 (.ld true 1 (.t 3))),
 (Ic 163 (.call 17 [(.t 162)])),
 (Iq 161 (.mv (.t 163))),
 (Iq 164 (.ext (.t 161) 0)),
 (Iq 165 (.ext (.t 161) 1)),
 (Iq 29 (.mv (.t 164))),
 (Iq 30 (.mv (.t 165)))])
 (.seq (.seq (.reg [(Iq 166 (.mv (.t 14))),
 (Iq 167 (.bin .neq (.t 166) (.c (.int .i64 0)))),
 (Iq 168 (.mv (.t 167))),
 ⟨(some 169), (some (168, false)), .q (.mv (.t 16))⟩,
 ⟨(some 170), (some (168, false)), .q (.bin .neq (.t 169) (.c (.int .i64 0)))⟩,
 (Iq 171 (.pick (.t 168) (.c (.bool true)) (.t 170))),
 (Iq 172 (.mv (.t 171))),
 ⟨(some 173), (some (172, false)), .q (.mv (.t 18))⟩,
 ⟨(some 174), (some (172, false)), .q (.bin .neq (.t 173) (.c (.int .i64 0)))⟩,
 (Iq 175 (.pick (.t 172) (.c (.bool true)) (.t 174))),
 (Iq 176 (.mv (.t 175))),
 ⟨(some 177), (some (176, false)), .q (.mv (.t 20))⟩,
 ⟨(some 178), (some (176, false)), .q (.bin .neq (.t 177) (.c (.int .i64 0)))⟩,
 (Iq 179 (.pick (.t 176) (.c (.bool true)) (.t 178))),
 (Iq 180 (.mv (.t 179))),
 ⟨(some 181), (some (180, false)), .q (.mv (.t 22))⟩,
 ⟨(some 182), (some (180, false)), .q (.bin .neq (.t 181) (.c (.int .i64 0)))⟩,
 (Iq 183 (.pick (.t 180) (.c (.bool true)) (.t 182))),
 (Iq 184 (.mv (.t 183))),
 ⟨(some 185), (some (184, false)), .q (.mv (.t 24))⟩,
 ⟨(some 186), (some (184, false)), .q (.bin .neq (.t 185) (.c (.int .i64 0)))⟩,
 (Iq 187 (.pick (.t 184) (.c (.bool true)) (.t 186))),
 (Iq 188 (.mv (.t 187))),
 ⟨(some 189), (some (188, false)), .q (.mv (.t 26))⟩,
 ⟨(some 190), (some (188, false)), .q (.bin .neq (.t 189) (.c (.int .i64 0)))⟩,
 (Iq 191 (.pick (.t 188) (.c (.bool true)) (.t 190))),
 (Iq 192 (.mv (.t 191))),
 ⟨(some 193), (some (192, false)), .q (.mv (.t 28))⟩,
 ⟨(some 194), (some (192, false)), .q (.bin .neq (.t 193) (.c (.int .i64 0)))⟩,
 (Iq 195 (.pick (.t 192) (.c (.bool true)) (.t 194))),
 (Iq 196 (.mv (.t 195))),
 ⟨(some 197), (some (196, false)), .q (.mv (.t 30))⟩,
 ⟨(some 198), (some (196, false)), .q (.bin .neq (.t 197) (.c (.int .i64 0)))⟩,
 (Iq 199 (.pick (.t 196) (.c (.bool true)) (.t 198))),
 (Iq 200 (.mv (.t 199))),
 ⟨(some 201), (some (200, false)), .q (.mv (.t 13))⟩,
 ⟨(some 202), (some (200, false)), .q (.un .not (.t 201))⟩,
 (Iq 203 (.pick (.t 200) (.c (.bool true)) (.t 202))),
 (Iq 204 (.mv (.t 203))),
 ⟨(some 205), (some (204, false)), .q (.mv (.t 9))⟩,
 ⟨(some 206), (some (204, false)), .q (.un .not (.t 205))⟩,
 (Iq 207 (.pick (.t 204) (.c (.bool true)) (.t 206))),
 (Iq 208 (.mv (.t 207))),
 ⟨(some 209), (some (208, false)), .q (.mv (.t 17))⟩,
 ⟨(some 210), (some (208, false)), .q (.mv (.t 5))⟩,
 ⟨(some 211), (some (208, false)), .c (.call 10 [(.t 209), (.t 210)])⟩,
 ⟨(some 212), (some (208, false)), .q (.un .not (.t 211))⟩,
 (Iq 213 (.pick (.t 208) (.c (.bool true)) (.t 212))),
 (Iq 214 (.mv (.t 213))),
 ⟨(some 215), (some (214, false)), .q (.mv (.t 21))⟩,
 ⟨(some 216), (some (214, false)), .q (.mv (.t 5))⟩,
 ⟨(some 217), (some (214, false)), .c (.call 10 [(.t 215), (.t 216)])⟩,
 ⟨(some 218), (some (214, false)), .q (.un .not (.t 217))⟩,
 (Iq 219 (.pick (.t 214) (.c (.bool true)) (.t 218))),
 (Iq 220 (.mv (.t 219))),
 ⟨(some 221), (some (220, false)), .q (.mv (.t 19))⟩,
 ⟨(some 222), (some (220, false)), .q (.len (.t 221))⟩,
 ⟨(some 223), (some (220, false)), .q (.mv (.t 23))⟩,
 ⟨(some 224), (some (220, false)), .q (.bin .neq (.t 222) (.t 223))⟩,
 (Iq 225 (.pick (.t 220) (.c (.bool true)) (.t 224))),
 (Iq 226 (.mv (.t 225))),
 ⟨(some 227), (some (226, false)), .q (.mv (.t 25))⟩,
 ⟨(some 228), (some (226, false)), .q (.mv (.t 27))⟩,
 ⟨(some 229), (some (226, false)), .c (.call 10 [(.t 227), (.t 228)])⟩,
 ⟨(some 230), (some (226, false)), .q (.un .not (.t 229))⟩,
 (Iq 231 (.pick (.t 226) (.c (.bool true)) (.t 230))),
 (Iq 232 (.mv (.t 231))),
 ⟨(some 233), (some (232, false)), .q (.mv (.t 5))⟩,
 ⟨(some 234), (some (232, false)), .q (.len (.t 233))⟩,
 ⟨(some 235), (some (232, false)), .q (.mv (.t 15))⟩,
 ⟨(some 236), (some (232, false)), .q (.len (.t 235))⟩,
 ⟨(some 237), (some (232, false)), .q (.bin .mul (.t 234) (.t 236))⟩,
 ⟨(some 238), (some (232, false)), .q (.mv (.t 29))⟩,
 ⟨(some 239), (some (232, false)), .q (.bin .neq (.t 237) (.t 238))⟩,
 (Iq 240 (.pick (.t 232) (.c (.bool true)) (.t 239)))])
 (.cond (.t 240)
 (.seq (.reg [(Iq 2 (.mv (.c (.bool false))))])
 .ret)
 .skip))
 (.seq (.reg [(Iq 241 (.mv (.t 4))),
 (Iq 242 (.len (.t 241))),
 (Iq 243 (.mv (.c (.int .i64 0))))])
 (.block 0 (.loop [0, 3, 4, 5, 15, 242, 243] (.seq (.reg [(Iq 244 (.bin .lss (.t 243) (.t 242)))])
 (.seq (.cond (.t 244)
 .skip
 (.exit 0))
 (.seq (.block 1 (.seq (.reg [(Iq 245 (.mv (.t 243))),
 (Iq 31 (.mv (.t 245)))])
 (.seq (.seq (.reg [(Iq 246 (.mv (.t 5))),
 (Iq 247 (.mv (.t 4))),
 (Iq 248 (.mv (.t 31))),
 (Iq 249 (.ixs 1 (.t 247) (.t 248))),
 (Iq 250 (.ld false 1 (.t 249))),
 (Ic 251 (.call 18 [(.t 246), (.t 250)])),
 (Iq 252 (.un .not (.t 251)))])
 (.cond (.t 252)
 (.seq (.reg [(Iq 2 (.mv (.c (.bool false))))])
 .ret)
 .skip))
 (.seq (.sch (.take 0 (Iq 254 (.ld true 1 (.t 3))) (.take 1 (Iq 255 (.mv (.t 15))) (.take 3 (Iq 257 (.mv (.t 4))) (.take 4 (Iq 258 (.mv (.t 31))) (.take 5 (Iq 259 (.ixs 1 (.t 257) (.t 258))) (.take 6 (Iq 260 (.ld false 1 (.t 259))) (.one (Ic 256 (.call 20 [(.t 255)])) [] (.one (Ic 261 (.call 19 [(.t 254), (.t 256), (.t 260)])) [6, 0] (.take 8 (Iq 253 (.mv (.t 261))) (.take 9 (Iq 262 (.ext (.t 253) 0)) (.take 10 (Iq 263 (.ext (.t 253) 1)) (.take 11 (Iq 32 (.mv (.t 262))) (.take 12 (Iq 33 (.mv (.t 263))) .done))))))))))))))
 (.seq (.reg [(Iq 264 (.mv (.t 33))),
 (Iq 265 (.bin .neq (.t 264) (.c (.int .i64 0)))),
 (Iq 266 (.mv (.t 265))),
 ⟨(some 267), (some (266, false)), .q (.mv (.t 32))⟩,
 ⟨(some 268), (some (266, false)), .c (.call 21 [(.t 267)])⟩,
 ⟨(some 269), (some (266, false)), .q (.bin .neq (.t 268) (.c (.int .i64 0)))⟩,
 (Iq 270 (.pick (.t 266) (.c (.bool true)) (.t 269)))])
 (.cond (.t 270)
 (.seq (.reg [(Iq 2 (.mv (.c (.bool false))))])
 .ret)
 .skip))))))
 (.reg [(Iq 271 (.bin .add (.t 243) (.c (.int .i64 1)))),
 (Iq 243 (.mv (.t 271)))])))))))))))))))))
 .skip))
 (.seq (.reg [(Iq 273 (.mv (.t 0))),
 (Ic 274 (.call 22 [(.t 273)])),
 (Iq 272 (.mv (.t 274))),
 (Iq 275 (.ext (.t 272) 0)),
 (Iq 276 (.ext (.t 272) 1)),
 (Im 34 (.alloc [(.v (.slice none 0 0))])),
 ⟨none, none, .m (.st true 1 (.t 34) (.t 275))⟩,
 (Iq 35 (.mv (.t 276)))])
 (.seq (.reg [(Iq 278 (.ld true 1 (.t 34))),
 (Iq 279 (.mv (.t 35))),
 (Ic 280 (.call 11 [(.t 278), (.t 279)])),
 (Iq 277 (.mv (.t 280))),
 (Iq 281 (.ext (.t 277) 0)),
 (Iq 282 (.ext (.t 277) 1)),
 (Iq 36 (.mv (.t 281))),
 (Iq 37 (.mv (.t 282)))])
 (.seq (.reg [(Iq 284 (.ld true 1 (.t 34))),
 (Iq 285 (.mv (.t 35))),
 (Ic 286 (.call 23 [(.t 284), (.t 285)])),
 (Iq 283 (.mv (.t 286))),
 (Iq 287 (.ext (.t 283) 0)),
 (Iq 288 (.ext (.t 283) 1)),
 (Iq 38 (.mv (.t 287))),
 (Iq 39 (.mv (.t 288)))])
 (.seq (.reg [(Iq 290 (.ld true 1 (.t 34))),
 (Iq 291 (.mv (.t 35))),
 (Ic 292 (.call 13 [(.t 290), (.t 291)])),
 (Iq 289 (.mv (.t 292))),
 (Iq 293 (.ext (.t 289) 0)),
 (Iq 294 (.ext (.t 289) 1)),
 (Iq 40 (.mv (.t 293))),
 (Iq 41 (.mv (.t 294)))])
 (.seq (.reg [(Iq 296 (.ld true 1 (.t 34))),
 (Iq 297 (.mv (.t 35))),
 (Ic 298 (.call 24 [(.t 296), (.t 297)])),
 (Iq 295 (.mv (.t 298))),
 (Iq 299 (.ext (.t 295) 0)),
 (Iq 300 (.ext (.t 295) 1)),
 (Iq 42 (.mv (.t 299))),
 (Iq 43 (.mv (.t 300)))])
 (.seq (.reg [(Iq 302 (.ld true 1 (.t 34))),
 (Iq 303 (.mv (.t 35))),
 (Ic 304 (.call 12 [(.t 302), (.t 303)])),
 (Iq 301 (.mv (.t 304))),
 (Iq 305 (.ext (.t 301) 0)),
 (Iq 306 (.ext (.t 301) 1)),
 (Iq 44 (.mv (.t 305))),
 (Iq 45 (.mv (.t 306)))])
 (.seq (.reg [(Iq 308 (.ld true 1 (.t 34))),
 (Iq 309 (.mv (.t 35))),
 (Ic 310 (.call 25 [(.t 308), (.t 309)])),
 (Iq 307 (.mv (.t 310))),
 (Iq 311 (.ext (.t 307) 0)),
 (Iq 312 (.ext (.t 307) 1)),
 (Iq 46 (.mv (.t 311))),
 (Iq 47 (.mv (.t 312)))])
 (.seq (.reg [(Iq 314 (.ld true 1 (.t 34))),
 (Iq 315 (.mv (.t 35))),
 (Ic 316 (.call 15 [(.t 314), (.t 315)])),
 (Iq 313 (.mv (.t 316))),
 (Iq 317 (.ext (.t 313) 0)),
 (Iq 318 (.ext (.t 313) 1)),
 (Iq 48 (.mv (.t 317))),
 (Iq 49 (.mv (.t 318)))])
 (.seq (.reg [(Iq 320 (.ld true 1 (.t 34))),
 (Iq 321 (.mv (.t 35))),
 (Ic 322 (.call 26 [(.t 320), (.t 321)])),
 (Iq 319 (.mv (.t 322))),
 (Iq 323 (.ext (.t 319) 0)),
 (Iq 324 (.ext (.t 319) 1)),
 (Iq 50 (.mv (.t 323))),
 (Iq 51 (.mv (.t 324)))])
 (.seq (.reg [(Iq 326 (.ld true 1 (.t 34))),
 (Iq 327 (.mv (.t 35))),
 (Ic 328 (.call 14 [(.t 326), (.t 327)])),
 (Iq 325 (.mv (.t 328))),
 (Iq 329 (.ext (.t 325) 0)),
 (Iq 330 (.ext (.t 325) 1)),
 (Iq 52 (.mv (.t 329))),
 (Iq 53 (.mv (.t 330)))])
 (.seq (.reg [(Iq 332 (.ld true 1 (.t 34))),
 (Iq 333 (.mv (.t 35))),
 (Ic 334 (.call 27 [(.t 332), (.t 333)])),
 (Iq 331 (.mv (.t 334))),
 (Iq 335 (.ext (.t 331) 0)),
 (Iq 336 (.ext (.t 331) 1)),
 (Iq 54 (.mv (.t 335))),
 (Iq 55 (.mv (.t 336)))])
 (.seq (.reg [(Iq 338 (.mv (.t 0))),
 (Ic 339 (.call 28 [(.t 338)])),
 (Iq 337 (.mv (.t 339))),
 (Iq 340 (.ext (.t 337) 0)),
 (Iq 341 (.ext (.t 337) 1)),
 (Iq 342 (.ext (.t 337) 2)),
 (Im 56 (.alloc [(.v (.slice none 0 0))])),
 ⟨none, none, .m (.st true 1 (.t 56) (.t 340))⟩,
 (Iq 57 (.mv (.t 341))),
 (Iq 58 (.mv (.t 342)))])
 (.seq (.reg [(Iq 344 (.ld true 1 (.t 56))),
 (Iq 345 (.mv (.t 57))),
 (Iq 346 (.mv (.t 58))),
 (Ic 347 (.call 19 [(.t 344), (.t 345), (.t 346)])),
 (Iq 343 (.mv (.t 347))),
 (Iq 348 (.ext (.t 343) 0)),
 (Iq 349 (.ext (.t 343) 1)),
 (Iq 59 (.mv (.t 348))),
 (Iq 60 (.mv (.t 349)))])
 (.seq (.reg [(Iq 351 (.ld true 1 (.t 56))),
 (Iq 352 (.mv (.t 57))),
 (Iq 353 (.mv (.t 58))),
 (Ic 354 (.call 29 [(.t 351), (.t 352), (.t 353)])),
 (Iq 350 (.mv (.t 354))),
 (Iq 355 (.ext (.t 350) 0)),
 (Iq 356 (.ext (.t 350) 1)),
 (Iq 61 (.mv (.t 355))),
 (Iq 62 (.mv (.t 356)))])
 (.seq (.reg [(Iq 357 (.mv (.t 37))),
 (Iq 358 (.mv (.t 39))),
 (Iq 359 (.bin .eql (.t 357) (.t 358))),
 (Iq 360 (.mv (.t 359))),
 ⟨(some 361), (some (360, true)), .q (.mv (.t 36))⟩,
 ⟨(some 362), (some (360, true)), .q (.mv (.t 38))⟩,
 ⟨(some 363), (some (360, true)), .q (.eqb false (.t 361) (.t 362))⟩,
 (Iq 364 (.pick (.t 360) (.t 363) (.c (.bool false)))),
 (Iq 365 (.mv (.t 364))),
 ⟨(some 366), (some (365, true)), .q (.mv (.t 41))⟩,
 ⟨(some 367), (some (365, true)), .q (.mv (.t 43))⟩,
 ⟨(some 368), (some (365, true)), .q (.bin .eql (.t 366) (.t 367))⟩,
 (Iq 369 (.pick (.t 365) (.t 368) (.c (.bool false)))),
 (Iq 370 (.mv (.t 369))),
 ⟨(some 371), (some (370, true)), .q (.mv (.t 40))⟩,
 ⟨(some 372), (some (370, true)), .q (.mv (.t 42))⟩,
 ⟨(some 373), (some (370, true)), .c (.call 10 [(.t 371), (.t 372)])⟩,
 (Iq 374 (.pick (.t 370) (.t 373) (.c (.bool false)))),
 (Iq 375 (.mv (.t 374))),
 ⟨(some 376), (some (375, true)), .q (.mv (.t 45))⟩,
 ⟨(some 377), (some (375, true)), .q (.mv (.t 47))⟩,
 ⟨(some 378), (some (375, true)), .q (.bin .eql (.t 376) (.t 377))⟩,
 (Iq 379 (.pick (.t 375) (.t 378) (.c (.bool false)))),
 (Iq 380 (.mv (.t 379))),
 ⟨(some 381), (some (380, true)), .q (.mv (.t 44))⟩,
 ⟨(some 382), (some (380, true)), .q (.mv (.t 46))⟩,
 ⟨(some 383), (some (380, true)), .c (.call 10 [(.t 381), (.t 382)])⟩,
 (Iq 384 (.pick (.t 380) (.t 383) (.c (.bool false)))),
 (Iq 385 (.mv (.t 384))),
 ⟨(some 386), (some (385, true)), .q (.mv (.t 49))⟩,
 ⟨(some 387), (some (385, true)), .q (.mv (.t 51))⟩,
 ⟨(some 388), (some (385, true)), .q (.bin .eql (.t 386) (.t 387))⟩,
 (Iq 389 (.pick (.t 385) (.t 388) (.c (.bool false)))),
 (Iq 390 (.mv (.t 389))),
 ⟨(some 391), (some (390, true)), .q (.mv (.t 48))⟩,
 ⟨(some 392), (some (390, true)), .q (.mv (.t 50))⟩,
 ⟨(some 393), (some (390, true)), .c (.call 10 [(.t 391), (.t 392)])⟩,
 (Iq 394 (.pick (.t 390) (.t 393) (.c (.bool false)))),
 (Iq 395 (.mv (.t 394))),
 ⟨(some 396), (some (395, true)), .q (.mv (.t 53))⟩,
 ⟨(some 397), (some (395, true)), .q (.mv (.t 55))⟩,
 ⟨(some 398), (some (395, true)), .q (.bin .eql (.t 396) (.t 397))⟩,
 (Iq 399 (.pick (.t 395) (.t 398) (.c (.bool false)))),
 (Iq 400 (.mv (.t 399))),
 ⟨(some 401), (some (400, true)), .q (.mv (.t 52))⟩,
 ⟨(some 402), (some (400, true)), .q (.mv (.t 54))⟩,
 ⟨(some 403), (some (400, true)), .q (.bin .eql (.t 401) (.t 402))⟩,
 (Iq 404 (.pick (.t 400) (.t 403) (.c (.bool false)))),
 (Iq 405 (.mv (.t 404))),
 ⟨(some 406), (some (405, true)), .q (.mv (.t 60))⟩,
 ⟨(some 407), (some (405, true)), .q (.mv (.t 62))⟩,
 ⟨(some 408), (some (405, true)), .q (.bin .eql (.t 406) (.t 407))⟩,
 (Iq 409 (.pick (.t 405) (.t 408) (.c (.bool false)))),
 (Iq 410 (.mv (.t 409))),
 ⟨(some 411), (some (410, true)), .q (.mv (.t 59))⟩,
 ⟨(some 412), (some (410, true)), .q (.mv (.t 61))⟩,
 ⟨(some 413), (some (410, true)), .c (.call 10 [(.t 411), (.t 412)])⟩,
 (Iq 414 (.pick (.t 410) (.t 413) (.c (.bool false)))),
 (Iq 2 (.mv (.t 414)))])
 .ret))))))))))))))))))))))))⟩
theorem l_laws_FnLinear : lowF PA f_laws_FnLinear 1 [.k [0, 3, 4, 5, 15, 242, 243], .s (.take 0 (.take 1 (.take 3 (.take 4 (.take 5 (.take 6 (.one 2 (.one 7 (.take 8 (.take 9 (.take 10 (.take 11 (.take 12 .done)))))))))))))] = some c_laws_FnLinear := by kernel_rfl
abbrev f_laws_big : FuncId := 4
def c_laws_big : AF := ⟨1, 6, [.t 2],
 (.seq (.reg [(Iq 2 (.mv (.c (.bool false))))])
 (.seq (.reg [(Iq 3 (.mv (.t 0))),
 (Iq 4 (.len (.t 3))),
 (Iq 5 (.bin .gtr (.t 4) (.c (.int .i64 4096)))),
 (Iq 2 (.mv (.t 5)))])
 .ret))⟩
theorem l_laws_big : lowF PA f_laws_big 1 [] = some c_laws_big := by kernel_rfl
abbrev f_spec_DrawSpanOf : FuncId := 5
def c_spec_DrawSpanOf : AF := ⟨1, 29, [.c 2 true 1, .t 3],
 (.seq (.reg [(Im 2 (.alloc [(.v (.slice none 0 0))])),
 (Iq 3 (.mv (.c (.slice none 0 0))))])
 (.seq (.reg [(Iq 7 (.mv (.t 0))),
 (Ic 8 (.call 30 [(.t 7)])),
 (Iq 4 (.mv (.t 8)))])
 (.seq (.reg [(Iq 9 (.mv (.t 4))),
 (Ic 10 (.call 31 [(.t 9)])),
 (Im 5 (.alloc [(.v (.slice none 0 0))])),
 ⟨none, none, .m (.st true 1 (.t 5) (.t 10))⟩])
 (.seq (.reg [(Iq 11 (.mv (.t 4))),
 (Iq 12 (.ld true 1 (.t 5))),
 (Ic 13 (.call 32 [(.t 11), (.t 12)])),
 (Iq 6 (.mv (.t 13)))])
 (.seq (.seq (.reg [(Iq 14 (.mv (.t 4))),
 (Ic 15 (.call 33 [(.t 14), (.c (.int .i64 16))])),
 (Iq 16 (.bin .eql (.t 15) (.c (.int .i64 0))))])
 (.cond (.t 16)
 (.reg [(Iq 17 (.mv (.t 6))),
 (Iq 18 (.mv (.t 4))),
 (Iq 19 (.ld true 1 (.t 5))),
 (Ic 20 (.call 35 [(.t 19)])),
 (Im 21 (.bsl 1 [(.c (.int .i64 (-1))), (.t 20)])),
 (Ic 22 (.call 34 [(.t 18), (.t 21)])),
 (Im 23 (.bsl 1 [(.t 22)])),
 (Im 24 (.app 1 8 (.t 17) (.t 23))),
 (Iq 6 (.mv (.t 24)))])
 .skip))
 (.seq (.reg [(Iq 25 (.mv (.t 4))),
 (Iq 26 (.ld true 1 (.t 5))),
 (Ic 27 (.call 36 [(.t 25), (.t 26)])),
 (Iq 28 (.mv (.t 6))),
 ⟨none, none, .m (.st true 1 (.t 2) (.t 27))⟩,
 (Iq 3 (.mv (.t 28)))])
 .ret))))))⟩
theorem l_spec_DrawSpanOf : lowF PA f_spec_DrawSpanOf 1 [] = some c_spec_DrawSpanOf := by kernel_rfl
abbrev f_impl_SpanOf : FuncId := 6
def c_impl_SpanOf : AF := ⟨2, 54, [.t 4, .t 5],
 (.seq (.reg [(Im 2 (.box (.t 0))),
 (Iq 4 (.mv (.c (.slice none 0 0)))),
 (Iq 5 (.mv (.c (.int .i64 0))))])
 (.seq (.seq (.reg [(Iq 13 (.ld true 1 (.t 2))),
 (Iq 14 (.mv (.t 1))),
 (Ic 15 (.call 37 [(.t 13), (.t 14), (.c (.slice none 0 0))])),
 (Iq 6 (.mv (.t 15)))])
 (.seq (.reg [(Iq 16 (.mv (.t 6))),
 (Iq 17 (.bin .neq (.t 16) (.c (.int .i64 0))))])
 (.cond (.t 17)
 (.seq (.reg [(Iq 18 (.mv (.t 6))),
 (Iq 4 (.mv (.c (.slice none 0 0)))),
 (Iq 5 (.mv (.t 18)))])
 .ret)
 .skip)))
 (.seq (.reg [(Im 19 (.bsl 1 [(.c (.int .i64 0))])),
 (Iq 7 (.mv (.t 19)))])
 (.seq (.seq (.reg [(Iq 20 (.mv (.t 1))),
 (Iq 21 (.len (.t 20))),
 (Iq 22 (.mv (.c (.int .i64 0))))])
 (.block 0 (.loop [2, 7, 20, 21, 22] (.seq (.reg [(Iq 23 (.bin .lss (.t 22) (.t 21)))])
 (.seq (.cond (.t 23)
 .skip
 (.exit 0))
 (.seq (.block 1 (.seq (.reg [(Iq 24 (.ixs 1 (.t 20) (.t 22))),
 (Iq 25 (.ld false 1 (.t 24))),
 (Iq 9 (.mv (.t 25)))])
 (.seq (.seq (.reg [(Iq 27 (.mv (.t 7))),
 (Iq 28 (.mv (.t 9))),
 (Ic 29 (.call 38 [(.t 27), (.t 28)])),
 (Iq 26 (.mv (.t 29))),
 (Iq 30 (.ext (.t 26) 0)),
 (Iq 31 (.ext (.t 26) 1)),
 (Iq 10 (.mv (.t 30))),
 (Iq 11 (.mv (.t 31)))])
 (.seq (.reg [(Iq 32 (.mv (.t 11)))])
 (.cond (.t 32)
 (.exit 1)
 .skip)))
 (.seq (.reg [(Iq 33 (.mv (.t 7))),
 (Iq 12 (.mv (.t 33)))])
 (.seq (.seq (.reg [(Iq 34 (.fad 0 (.t 2))),
 (Iq 35 (.ld false 1 (.t 34))),
 (Iq 36 (.ixs 1 (.t 35) (.c (.int .i64 0)))),
 (Iq 37 (.ld false 1 (.t 36))),
 (Iq 38 (.bin .sub (.t 37) (.c (.int .i64 1)))),
 (Iq 39 (.mv (.c (.int .i64 0))))])
 (.block 2 (.loop [2, 7, 9, 12, 20, 21, 22, 38, 39] (.seq (.reg [(Iq 40 (.bin .lss (.t 39) (.t 38)))])
 (.seq (.cond (.t 40)
 .skip
 (.exit 2))
 (.seq (.block 3 (.seq (.reg [(Iq 41 (.ld true 1 (.t 2))),
 (Iq 42 (.mv (.t 12))),
 (Iq 43 (.mv (.t 9))),
 (Ic 44 (.call 39 [(.t 41), (.t 42), (.t 43)])),
 (Iq 12 (.mv (.t 44)))])
 (.reg [(Iq 45 (.mv (.t 7))),
 (Iq 46 (.mv (.t 12))),
 (Im 47 (.bsl 1 [(.t 45), (.t 46)])),
 (Ic 48 (.call 40 [(.t 47)])),
 (Iq 7 (.mv (.t 48)))])))
 (.reg [(Iq 49 (.bin .add (.t 39) (.c (.int .i64 1)))),
 (Iq 39 (.mv (.t 49)))])))))))
 (.reg [(Iq 50 (.mv (.t 7))),
 (Ic 51 (.call 41 [(.t 50)]))]))))))
 (.reg [(Iq 52 (.bin .add (.t 22) (.c (.int .i64 1)))),
 (Iq 22 (.mv (.t 52)))])))))))
 (.seq (.reg [(Iq 53 (.mv (.t 7))),
 (Iq 4 (.mv (.t 53))),
 (Iq 5 (.mv (.c (.int .i64 0))))])
 .ret)))))⟩
theorem l_impl_SpanOf : lowF PA f_impl_SpanOf 2 [.k [2, 7, 20, 21, 22], .k [2, 7, 9, 12, 20, 21, 22, 38, 39]] = some c_impl_SpanOf := by kernel_rfl
abbrev f_spec_SpanOf : FuncId := 7
def c_spec_SpanOf : AF := ⟨2, 16, [.t 4, .t 5],
 (.seq (.reg [(Im 2 (.box (.t 0))),
 (Iq 4 (.mv (.c (.slice none 0 0)))),
 (Iq 5 (.mv (.c (.int .i64 0))))])
 (.seq (.seq (.reg [(Iq 7 (.ld true 1 (.t 2))),
 (Iq 8 (.mv (.t 1))),
 (Ic 9 (.call 42 [(.t 7), (.t 8)])),
 (Iq 6 (.mv (.t 9)))])
 (.seq (.reg [(Iq 10 (.mv (.t 6))),
 (Iq 11 (.bin .neq (.t 10) (.c (.int .i64 0))))])
 (.cond (.t 11)
 (.seq (.reg [(Iq 12 (.mv (.t 6))),
 (Iq 4 (.mv (.c (.slice none 0 0)))),
 (Iq 5 (.mv (.t 12)))])
 .ret)
 .skip)))
 (.seq (.reg [(Iq 13 (.ld true 1 (.t 2))),
 (Iq 14 (.mv (.t 1))),
 (Ic 15 (.call 43 [(.t 13), (.t 14)])),
 (Iq 4 (.mv (.t 15))),
 (Iq 5 (.mv (.c (.int .i64 0))))])
 .ret)))⟩
theorem l_spec_SpanOf : lowF PA f_spec_SpanOf 2 [] = some c_spec_SpanOf := by kernel_rfl
abbrev f_impl_IsPlain : FuncId := 8
def c_impl_IsPlain : AF := ⟨1, 9, [.t 2, .t 3],
 (.seq (.reg [(Im 1 (.box (.t 0))),
 (Iq 2 (.mv (.c (.bool false)))),
 (Iq 3 (.mv (.c (.int .i64 0))))])
 (.seq (.seq (.reg [(Iq 4 (.ld true 1 (.t 1))),
 (Ic 5 (.call 44 [(.t 4)])),
 (Iq 6 (.un .not (.t 5)))])
 (.cond (.t 6)
 (.seq (.reg [(Iq 2 (.mv (.c (.bool false)))),
 (Iq 3 (.mv (.c (.int .i64 1))))])
 .ret)
 .skip))
 (.seq (.reg [(Iq 7 (.ld true 1 (.t 1))),
 (Ic 8 (.call 45 [(.t 7)])),
 (Iq 2 (.mv (.t 8))),
 (Iq 3 (.mv (.c (.int .i64 0))))])
 .ret)))⟩
theorem l_impl_IsPlain : lowF PA f_impl_IsPlain 1 [] = some c_impl_IsPlain := by kernel_rfl
abbrev f_spec_IsPlain : FuncId := 9
def c_spec_IsPlain : AF := ⟨1, 9, [.t 2, .t 3],
 (.seq (.reg [(Im 1 (.box (.t 0))),
 (Iq 2 (.mv (.c (.bool false)))),
 (Iq 3 (.mv (.c (.int .i64 0))))])
 (.seq (.seq (.reg [(Iq 4 (.ld true 1 (.t 1))),
 (Ic 5 (.call 46 [(.t 4)])),
 (Iq 6 (.un .not (.t 5)))])
 (.cond (.t 6)
 (.seq (.reg [(Iq 2 (.mv (.c (.bool false)))),
 (Iq 3 (.mv (.c (.int .i64 1))))])
 .ret)
 .skip))
 (.seq (.reg [(Iq 7 (.ld true 1 (.t 1))),
 (Ic 8 (.call 47 [(.t 7)])),
 (Iq 2 (.mv (.t 8))),
 (Iq 3 (.mv (.c (.int .i64 0))))])
 .ret)))⟩
theorem l_spec_IsPlain : lowF PA f_spec_IsPlain 1 [] = some c_spec_IsPlain := by kernel_rfl
abbrev f_laws_likeInts : FuncId := 10
def c_laws_likeInts : AF := ⟨2, 26, [.t 4],
 (.seq (.reg [(Iq 4 (.mv (.c (.bool false))))])
 (.seq (.seq (.reg [(Iq 6 (.mv (.t 0))),
 (Iq 7 (.len (.t 6))),
 (Iq 8 (.mv (.t 1))),
 (Iq 9 (.len (.t 8))),
 (Iq 10 (.bin .neq (.t 7) (.t 9)))])
 (.cond (.t 10)
 (.seq (.reg [(Iq 4 (.mv (.c (.bool false))))])
 .ret)
 .skip))
 (.seq (.seq (.reg [(Iq 5 (.mv (.c (.int .i64 0))))])
 (.block 0 (.loop [0, 1, 5] (.seq (.seq (.reg [(Iq 11 (.mv (.t 5))),
 (Iq 12 (.mv (.t 0))),
 (Iq 13 (.len (.t 12))),
 (Iq 14 (.bin .lss (.t 11) (.t 13)))])
 (.cond (.t 14)
 .skip
 (.exit 0)))
 (.seq (.block 1 (.seq (.sch (.take 0 (Iq 17 (.mv (.t 0))) (.take 1 (Iq 18 (.mv (.t 5))) (.take 2 (Iq 19 (.ixs 1 (.t 17) (.t 18))) (.take 3 (Iq 20 (.ld false 1 (.t 19))) (.take 4 (Iq 21 (.mv (.t 1))) (.take 5 (Iq 22 (.mv (.t 5))) (.take 6 (Iq 23 (.ixs 1 (.t 21) (.t 22))) (.take 7 (Iq 24 (.ld false 1 (.t 23))) (.take 8 (Iq 25 (.bin .neq (.t 20) (.t 24))) .done))))))))))
 (.cond (.t 25)
 (.seq (.reg [(Iq 4 (.mv (.c (.bool false))))])
 .ret)
 .skip)))
 (.reg [(Iq 15 (.mv (.t 5))),
 (Iq 16 (.bin .add (.t 15) (.c (.int .i64 1)))),
 (Iq 5 (.mv (.t 16)))]))))))
 (.seq (.reg [(Iq 4 (.mv (.c (.bool true))))])
 .ret))))⟩
theorem l_laws_likeInts : lowF PA f_laws_likeInts 2 [.k [0, 1, 5], .s (.take 0 (.take 1 (.take 2 (.take 3 (.take 4 (.take 5 (.take 6 (.take 7 (.take 8 .done)))))))))] = some c_laws_likeInts := by kernel_rfl
abbrev f_impl_IsLinear : FuncId := 11
def c_impl_IsLinear : AF := ⟨2, 16, [.t 4, .t 5],
 (.seq (.reg [(Im 2 (.box (.t 0))),
 (Iq 4 (.mv (.c (.bool false)))),
 (Iq 5 (.mv (.c (.int .i64 0))))])
 (.seq (.seq (.reg [(Iq 7 (.ld true 1 (.t 2))),
 (Iq 8 (.mv (.t 1))),
 (Ic 9 (.call 48 [(.t 7), (.t 8), (.c (.slice none 0 0))])),
 (Iq 6 (.mv (.t 9)))])
 (.seq (.reg [(Iq 10 (.mv (.t 6))),
 (Iq 11 (.bin .neq (.t 10) (.c (.int .i64 0))))])
 (.cond (.t 11)
 (.seq (.reg [(Iq 12 (.mv (.t 6))),
 (Iq 4 (.mv (.c (.bool false)))),
 (Iq 5 (.mv (.t 12)))])
 .ret)
 .skip)))
 (.seq (.reg [(Iq 13 (.ld true 1 (.t 2))),
 (Iq 14 (.mv (.t 1))),
 (Ic 15 (.call 49 [(.t 13), (.t 14)])),
 (Iq 4 (.mv (.t 15))),
 (Iq 5 (.mv (.c (.int .i64 0))))])
 .ret)))⟩
theorem l_impl_IsLinear : lowF PA f_impl_IsLinear 2 [] = some c_impl_IsLinear := by kernel_rfl
abbrev f_impl_DualCode : FuncId := 12
def c_impl_DualCode : AF := ⟨2, 16, [.t 4, .t 5],
 (.seq (.reg [(Im 2 (.box (.t 0))),
 (Iq 4 (.mv (.c (.slice none 0 0)))),
 (Iq 5 (.mv (.c (.int .i64 0))))])
 (.seq (.seq (.reg [(Iq 7 (.ld true 1 (.t 2))),
 (Iq 8 (.mv (.t 1))),
 (Ic 9 (.call 50 [(.t 7), (.t 8), (.c (.slice none 0 0))])),
 (Iq 6 (.mv (.t 9)))])
 (.seq (.reg [(Iq 10 (.mv (.t 6))),
 (Iq 11 (.bin .neq (.t 10) (.c (.int .i64 0))))])
 (.cond (.t 11)
 (.seq (.reg [(Iq 12 (.mv (.t 6))),
 (Iq 4 (.mv (.c (.slice none 0 0)))),
 (Iq 5 (.mv (.t 12)))])
 .ret)
 .skip)))
 (.seq (.reg [(Iq 13 (.ld true 1 (.t 2))),
 (Iq 14 (.mv (.t 1))),
 (Ic 15 (.call 51 [(.t 13), (.t 14)])),
 (Iq 4 (.mv (.t 15))),
 (Iq 5 (.mv (.c (.int .i64 0))))])
 .ret)))⟩
theorem l_impl_DualCode : lowF PA f_impl_DualCode 2 [] = some c_impl_DualCode := by kernel_rfl
abbrev f_impl_LeastBasis : FuncId := 13
def c_impl_LeastBasis : AF := ⟨2, 16, [.t 4, .t 5],
 (.seq (.reg [(Im 2 (.box (.t 0))),
 (Iq 4 (.mv (.c (.slice none 0 0)))),
 (Iq 5 (.mv (.c (.int .i64 0))))])
 (.seq (.seq (.reg [(Iq 7 (.ld true 1 (.t 2))),
 (Iq 8 (.mv (.t 1))),
 (Ic 9 (.call 50 [(.t 7), (.t 8), (.c (.slice none 0 0))])),
 (Iq 6 (.mv (.t 9)))])
 (.seq (.reg [(Iq 10 (.mv (.t 6))),
 (Iq 11 (.bin .neq (.t 10) (.c (.int .i64 0))))])
 (.cond (.t 11)
 (.seq (.reg [(Iq 12 (.mv (.t 6))),
 (Iq 4 (.mv (.c (.slice none 0 0)))),
 (Iq 5 (.mv (.t 12)))])
 .ret)
 .skip)))
 (.seq (.reg [(Iq 13 (.ld true 1 (.t 2))),
 (Iq 14 (.mv (.t 1))),
 (Ic 15 (.call 52 [(.t 13), (.t 14)])),
 (Iq 4 (.mv (.t 15))),
 (Iq 5 (.mv (.c (.int .i64 0))))])
 .ret)))⟩
theorem l_impl_LeastBasis : lowF PA f_impl_LeastBasis 2 [] = some c_impl_LeastBasis := by kernel_rfl
abbrev f_impl_DimensionOf : FuncId := 14
def c_impl_DimensionOf : AF := ⟨2, 17, [.t 4, .t 5],
 (.seq (.reg [(Im 2 (.box (.t 0))),
 (Iq 4 (.mv (.c (.int .i64 0)))),
 (Iq 5 (.mv (.c (.int .i64 0))))])
 (.seq (.seq (.reg [(Iq 7 (.ld true 1 (.t 2))),
 (Iq 8 (.mv (.t 1))),
 (Ic 9 (.call 50 [(.t 7), (.t 8), (.c (.slice none 0 0))])),
 (Iq 6 (.mv (.t 9)))])
 (.seq (.reg [(Iq 10 (.mv (.t 6))),
 (Iq 11 (.bin .neq (.t 10) (.c (.int .i64 0))))])
 (.cond (.t 11)
 (.seq (.reg [(Iq 12 (.mv (.t 6))),
 (Iq 4 (.mv (.c (.int .i64 0)))),
 (Iq 5 (.mv (.t 12)))])
 .ret)
 .skip)))
 (.seq (.reg [(Iq 13 (.ld true 1 (.t 2))),
 (Iq 14 (.mv (.t 1))),
 (Ic 15 (.call 52 [(.t 13), (.t 14)])),
 (Iq 16 (.len (.t 15))),
 (Iq 4 (.mv (.t 16))),
 (Iq 5 (.mv (.c (.int .i64 0))))])
 .ret)))⟩
theorem l_impl_DimensionOf : lowF PA f_impl_DimensionOf 2 [] = some c_impl_DimensionOf := by kernel_rfl
abbrev f_impl_DualCounts : FuncId := 15
def c_impl_DualCounts : AF := ⟨2, 18, [.t 4, .t 5],
 (.seq (.reg [(Im 2 (.box (.t 0))),
 (Iq 4 (.mv (.c (.slice none 0 0)))),
 (Iq 5 (.mv (.c (.int .i64 0))))])
 (.seq (.seq (.reg [(Iq 7 (.ld true 1 (.t 2))),
 (Iq 8 (.mv (.t 1))),
 (Ic 9 (.call 50 [(.t 7), (.t 8), (.c (.slice none 0 0))])),
 (Iq 6 (.mv (.t 9)))])
 (.seq (.reg [(Iq 10 (.mv (.t 6))),
 (Iq 11 (.bin .neq (.t 10) (.c (.int .i64 0))))])
 (.cond (.t 11)
 (.seq (.reg [(Iq 12 (.mv (.t 6))),
 (Iq 4 (.mv (.c (.slice none 0 0)))),
 (Iq 5 (.mv (.t 12)))])
 .ret)
 .skip)))
 (.seq (.sch (.take 0 (Iq 13 (.ld true 1 (.t 2))) (.take 1 (Iq 14 (.ld true 1 (.t 2))) (.take 2 (Iq 15 (.mv (.t 1))) (.one (Ic 16 (.call 51 [(.t 14), (.t 15)])) [1] (.one (Ic 17 (.call 53 [(.t 13), (.t 16)])) [0] (.take 5 (Iq 4 (.mv (.t 17))) (.take 6 (Iq 5 (.mv (.c (.int .i64 0)))) .done))))))))
 .ret)))⟩
theorem l_impl_DualCounts : lowF PA f_impl_DualCounts 2 [.s (.take 0 (.take 1 (.take 2 (.one 3 (.one 4 (.take 5 (.take 6 .done)))))))] = some c_impl_DualCounts := by kernel_rfl
abbrev f_impl_WeightCounts : FuncId := 16
def c_impl_WeightCounts : AF := ⟨2, 16, [.t 4, .t 5],
 (.seq (.reg [(Im 2 (.box (.t 0))),
 (Iq 4 (.mv (.c (.slice none 0 0)))),
 (Iq 5 (.mv (.c (.int .i64 0))))])
 (.seq (.seq (.reg [(Iq 7 (.ld true 1 (.t 2))),
 (Iq 8 (.mv (.t 1))),
 (Ic 9 (.call 48 [(.t 7), (.t 8), (.c (.slice none 0 0))])),
 (Iq 6 (.mv (.t 9)))])
 (.seq (.reg [(Iq 10 (.mv (.t 6))),
 (Iq 11 (.bin .neq (.t 10) (.c (.int .i64 0))))])
 (.cond (.t 11)
 (.seq (.reg [(Iq 12 (.mv (.t 6))),
 (Iq 4 (.mv (.c (.slice none 0 0)))),
 (Iq 5 (.mv (.t 12)))])
 .ret)
 .skip)))
 (.seq (.reg [(Iq 13 (.ld true 1 (.t 2))),
 (Iq 14 (.mv (.t 1))),
 (Ic 15 (.call 53 [(.t 13), (.t 14)])),
 (Iq 4 (.mv (.t 15))),
 (Iq 5 (.mv (.c (.int .i64 0))))])
 .ret)))⟩
theorem l_impl_WeightCounts : lowF PA f_impl_WeightCounts 2 [] = some c_impl_WeightCounts := by kernel_rfl
abbrev f_impl_CountWords : FuncId := 17
def c_impl_CountWords : AF := ⟨1, 9, [.t 2, .t 3],
 (.seq (.reg [(Im 1 (.box (.t 0))),
 (Iq 2 (.mv (.c (.int .i64 0)))),
 (Iq 3 (.mv (.c (.int .i64 0))))])
 (.seq (.seq (.reg [(Iq 4 (.ld true 1 (.t 1))),
 (Ic 5 (.call 44 [(.t 4)])),
 (Iq 6 (.un .not (.t 5)))])
 (.cond (.t 6)
 (.seq (.reg [(Iq 2 (.mv (.c (.int .i64 0)))),
 (Iq 3 (.mv (.c (.int .i64 1))))])
 .ret)
 .skip))
 (.seq (.reg [(Iq 7 (.ld true 1 (.t 1))),
 (Ic 8 (.call 54 [(.t 7)])),
 (Iq 2 (.mv (.t 8))),
 (Iq 3 (.mv (.c (.int .i64 0))))])
 .ret)))⟩
theorem l_impl_CountWords : lowF PA f_impl_CountWords 1 [] = some c_impl_CountWords := by kernel_rfl
abbrev f_laws_hasInt : FuncId := 18
def c_laws_hasInt : AF := ⟨2, 18, [.t 4],
 (.seq (.reg [(Iq 4 (.mv (.c (.bool false))))])
 (.seq (.seq (.reg [(Iq 5 (.mv (.c (.int .i64 0))))])
 (.block 0 (.loop [0, 1, 5] (.seq (.seq (.reg [(Iq 6 (.mv (.t 5))),
 (Iq 7 (.mv (.t 0))),
 (Iq 8 (.len (.t 7))),
 (Iq 9 (.bin .lss (.t 6) (.t 8)))])
 (.cond (.t 9)
 .skip
 (.exit 0)))
 (.seq (.block 1 (.seq (.reg [(Iq 12 (.mv (.t 0))),
 (Iq 13 (.mv (.t 5))),
 (Iq 14 (.ixs 1 (.t 12) (.t 13))),
 (Iq 15 (.ld false 1 (.t 14))),
 (Iq 16 (.mv (.t 1))),
 (Iq 17 (.bin .eql (.t 15) (.t 16)))])
 (.cond (.t 17)
 (.seq (.reg [(Iq 4 (.mv (.c (.bool true))))])
 .ret)
 .skip)))
 (.reg [(Iq 10 (.mv (.t 5))),
 (Iq 11 (.bin .add (.t 10) (.c (.int .i64 1)))),
 (Iq 5 (.mv (.t 11)))]))))))
 (.seq (.reg [(Iq 4 (.mv (.c (.bool false))))])
 .ret)))⟩
theorem l_laws_hasInt : lowF PA f_laws_hasInt 2 [.k [0, 1, 5]] = some c_laws_hasInt := by kernel_rfl
abbrev f_impl_SyndromeOf : FuncId := 19
def c_impl_SyndromeOf : AF := ⟨3, 40, [.t 6, .t 7],
 (.seq (.reg [(Im 3 (.box (.t 0))),
 (Iq 6 (.mv (.c (.slice none 0 0)))),
 (Iq 7 (.mv (.c (.int .i64 0))))])
 (.seq (.seq (.reg [(Iq 12 (.ld true 1 (.t 3))),
 (Iq 13 (.mv (.t 1))),
 (Iq 14 (.mv (.t 2))),
 (Im 15 (.bsl 1 [(.t 14)])),
 (Ic 16 (.call 37 [(.t 12), (.t 13), (.t 15)])),
 (Iq 8 (.mv (.t 16)))])
 (.seq (.reg [(Iq 17 (.mv (.t 8))),
 (Iq 18 (.bin .neq (.t 17) (.c (.int .i64 0))))])
 (.cond (.t 18)
 (.seq (.reg [(Iq 19 (.mv (.t 8))),
 (Iq 6 (.mv (.c (.slice none 0 0)))),
 (Iq 7 (.mv (.t 19)))])
 .ret)
 .skip)))
 (.seq (.reg [(Im 20 (.bsl 1 [])),
 (Iq 9 (.mv (.t 20)))])
 (.seq (.seq (.reg [(Iq 21 (.ld true 1 (.t 3))),
 (Iq 22 (.mv (.t 1))),
 (Ic 23 (.call 55 [(.t 21), (.t 22)])),
 (Iq 24 (.len (.t 23))),
 (Iq 25 (.mv (.c (.int .i64 0))))])
 (.block 0 (.loop [2, 3, 9, 23, 24, 25] (.seq (.reg [(Iq 26 (.bin .lss (.t 25) (.t 24)))])
 (.seq (.cond (.t 26)
 .skip
 (.exit 0))
 (.seq (.block 1 (.seq (.reg [(Iq 27 (.ixs 8 (.t 23) (.t 25))),
 (Iq 28 (.ld true 8 (.t 27))),
 (Im 11 (.alloc [(.v (.int .u8 0)), (.v (.int .u8 0)), (.v (.int .u8 0)), (.v (.int .u8 0)), (.v (.int .u8 0)), (.v (.int .u8 0)), (.v (.int .u8 0)), (.v (.int .u8 0))])),
 ⟨none, none, .m (.st true 8 (.t 11) (.t 28))⟩])
 (.sch (.take 0 (Iq 29 (.mv (.t 9))) (.take 1 (Iq 30 (.ld true 1 (.t 3))) (.take 2 (Iq 31 (.ld true 1 (.t 3))) (.take 3 (Iq 32 (.mv (.t 2))) (.take 5 (Iq 34 (.ld true 8 (.t 11))) (.one (Ic 33 (.call 57 [(.t 31), (.t 32)])) [2] (.one (Ic 35 (.call 56 [(.t 30), (.t 33), (.t 34)])) [5, 1] (.one (Im 36 (.bsl 1 [(.t 35)])) [] (.one (Im 37 (.app 1 8 (.t 29) (.t 36))) [] (.take 9 (Iq 9 (.mv (.t 37))) .done)))))))))))))
 (.reg [(Iq 38 (.bin .add (.t 25) (.c (.int .i64 1)))),
 (Iq 25 (.mv (.t 38)))])))))))
 (.seq (.reg [(Iq 39 (.mv (.t 9))),
 (Iq 6 (.mv (.t 39))),
 (Iq 7 (.mv (.c (.int .i64 0))))])
 .ret)))))⟩
theorem l_impl_SyndromeOf : lowF PA f_impl_SyndromeOf 3 [.k [2, 3, 9, 23, 24, 25], .s (.take 0 (.take 1 (.take 2 (.take 3 (.take 5 (.one 4 (.one 6 (.one 7 (.one 8 (.take 9 .done))))))))))] = some c_impl_SyndromeOf := by kernel_rfl
abbrev f_laws_checks5 : FuncId := 20
def c_laws_checks5 : AF := ⟨1, 8, [.t 2],
 (.seq (.reg [(Iq 2 (.mv (.c (.slice none 0 0))))])
 (.seq (.reg [(Iq 3 (.mv (.t 0))),
 (Iq 4 (.mv (.t 0))),
 (Iq 5 (.len (.t 4))),
 (Iq 6 (.mn (.t 5) (.c (.int .i64 20)))),
 (Iq 7 (.slc 1 (.t 3) none (some (.t 6)))),
 (Iq 2 (.mv (.t 7)))])
 .ret))⟩
theorem l_laws_checks5 : lowF PA f_laws_checks5 1 [] = some c_laws_checks5 := by kernel_rfl
abbrev f_laws_sum : FuncId := 21
def c_laws_sum : AF := ⟨1, 18, [.t 2],
 (.seq (.reg [(Iq 2 (.mv (.c (.int .i64 0))))])
 (.seq (.reg [(Iq 3 (.mv (.c (.int .i64 0))))])
 (.seq (.seq (.reg [(Iq 4 (.mv (.c (.int .i64 0))))])
 (.block 0 (.loop [0, 3, 4] (.seq (.seq (.reg [(Iq 5 (.mv (.t 4))),
 (Iq 6 (.mv (.t 0))),
 (Iq 7 (.len (.t 6))),
 (Iq 8 (.bin .lss (.t 5) (.t 7)))])
 (.cond (.t 8)
 .skip
 (.exit 0)))
 (.seq (.block 1 (.reg [(Iq 11 (.mv (.t 3))),
 (Iq 12 (.mv (.t 0))),
 (Iq 13 (.mv (.t 4))),
 (Iq 14 (.ixs 1 (.t 12) (.t 13))),
 (Iq 15 (.ld false 1 (.t 14))),
 (Iq 16 (.bin .add (.t 11) (.t 15))),
 (Iq 3 (.mv (.t 16)))]))
 (.reg [(Iq 9 (.mv (.t 4))),
 (Iq 10 (.bin .add (.t 9) (.c (.int .i64 1)))),
 (Iq 4 (.mv (.t 10)))]))))))
 (.seq (.reg [(Iq 17 (.mv (.t 3))),
 (Iq 2 (.mv (.t 17)))])
 .ret))))⟩
theorem l_laws_sum : lowF PA f_laws_sum 1 [.k [0, 3, 4]] = some c_laws_sum := by kernel_rfl
abbrev f_spec_DrawIsLinear : FuncId := 22
def c_spec_DrawIsLinear : AF := ⟨1, 13, [.c 2 true 1, .t 3],
 (.seq (.reg [(Im 2 (.alloc [(.v (.slice none 0 0))])),
 (Iq 3 (.mv (.c (.slice none 0 0))))])
 (.seq (.reg [(Iq 7 (.mv (.t 0))),
 (Ic 8 (.call 58 [(.t 7)])),
 (Iq 6 (.mv (.t 8))),
 (Iq 9 (.ext (.t 6) 0)),
 (Iq 10 (.ext (.t 6) 1)),
 (Im 4 (.alloc [(.v (.slice none 0 0))])),
 ⟨none, none, .m (.st true 1 (.t 4) (.t 9))⟩,
 (Iq 5 (.mv (.t 10)))])
 (.seq (.reg [(Iq 11 (.ld true 1 (.t 4))),
 (Iq 12 (.mv (.t 5))),
 ⟨none, none, .m (.st true 1 (.t 2) (.t 11))⟩,
 (Iq 3 (.mv (.t 12)))])
 .ret)))⟩
theorem l_spec_DrawIsLinear : lowF PA f_spec_DrawIsLinear 1 [] = some c_spec_DrawIsLinear := by kernel_rfl
abbrev f_spec_IsLinear : FuncId := 23
def c_spec_IsLinear : AF := ⟨2, 16, [.t 4, .t 5],
 (.seq (.reg [(Im 2 (.box (.t 0))),
 (Iq 4 (.mv (.c (.bool false)))),
 (Iq 5 (.mv (.c (.int .i64 0))))])
 (.seq (.seq (.reg [(Iq 7 (.ld true 1 (.t 2))),
 (Iq 8 (.mv (.t 1))),
 (Ic 9 (.call 59 [(.t 7), (.t 8)])),
 (Iq 6 (.mv (.t 9)))])
 (.seq (.reg [(Iq 10 (.mv (.t 6))),
 (Iq 11 (.bin .neq (.t 10) (.c (.int .i64 0))))])
 (.cond (.t 11)
 (.seq (.reg [(Iq 12 (.mv (.t 6))),
 (Iq 4 (.mv (.c (.bool false)))),
 (Iq 5 (.mv (.t 12)))])
 .ret)
 .skip)))
 (.seq (.reg [(Iq 13 (.ld true 1 (.t 2))),
 (Iq 14 (.mv (.t 1))),
 (Ic 15 (.call 60 [(.t 13), (.t 14)])),
 (Iq 4 (.mv (.t 15))),
 (Iq 5 (.mv (.c (.int .i64 0))))])
 .ret)))⟩
theorem l_spec_IsLinear : lowF PA f_spec_IsLinear 2 [] = some c_spec_IsLinear := by kernel_rfl
abbrev f_spec_LeastBasis : FuncId := 24
def c_spec_LeastBasis : AF := ⟨2, 118, [.t 4, .t 5],
 (.seq (.reg [(Im 2 (.box (.t 0))),
 (Iq 4 (.mv (.c (.slice none 0 0)))),
 (Iq 5 (.mv (.c (.int .i64 0))))])
 (.seq (.seq (.reg [(Iq 17 (.ld true 1 (.t 2))),
 (Iq 18 (.mv (.t 1))),
 (Ic 19 (.call 61 [(.t 17), (.t 18)])),
 (Iq 6 (.mv (.t 19)))])
 (.seq (.reg [(Iq 20 (.mv (.t 6))),
 (Iq 21 (.bin .neq (.t 20) (.c (.int .i64 0))))])
 (.cond (.t 21)
 (.seq (.reg [(Iq 22 (.mv (.t 6))),
 (Iq 4 (.mv (.c (.slice none 0 0)))),
 (Iq 5 (.mv (.t 22)))])
 .ret)
 .skip)))
 (.seq (.reg [(Iq 23 (.fad 0 (.t 2))),
 (Iq 24 (.ld false 1 (.t 23))),
 (Iq 25 (.len (.t 24))),
 (Im 26 (.mks 1 (.v (.bool false)) 1 (.t 25) (.t 25))),
 (Iq 7 (.mv (.t 26)))])
 (.seq (.seq (.reg [(Iq 27 (.mv (.t 1))),
 (Iq 28 (.len (.t 27))),
 (Iq 29 (.mv (.c (.int .i64 0))))])
 (.block 0 (.loop [1, 2, 7, 28, 29] (.seq (.reg [(Iq 30 (.bin .lss (.t 29) (.t 28)))])
 (.seq (.cond (.t 30)
 .skip
 (.exit 0))
 (.seq (.block 1 (.seq (.reg [(Iq 31 (.mv (.t 29))),
 (Iq 8 (.mv (.t 31)))])
 (.seq (.sch (.take 0 (Iq 32 (.ld true 1 (.t 2))) (.take 1 (Iq 33 (.mv (.t 1))) (.take 2 (Iq 34 (.mv (.t 8))) (.take 3 (Iq 35 (.ixs 1 (.t 33) (.t 34))) (.take 4 (Iq 36 (.ld false 1 (.t 35))) (.one (Ic 37 (.call 62 [(.t 32), (.t 36)])) [4, 0] (.take 6 (Iq 9 (.mv (.t 37))) .done))))))))
 (.seq (.reg [(Iq 38 (.mv (.t 9))),
 (Iq 39 (.len (.t 38))),
 (Iq 40 (.mv (.c (.int .i64 0))))])
 (.block 2 (.loop [1, 2, 7, 9, 28, 29, 39, 40] (.seq (.reg [(Iq 41 (.bin .lss (.t 40) (.t 39)))])
 (.seq (.cond (.t 41)
 .skip
 (.exit 2))
 (.seq (.block 3 (.seq (.reg [(Iq 42 (.mv (.t 40))),
 (Iq 10 (.mv (.t 42)))])
 (.seq (.reg [(Iq 43 (.mv (.t 9))),
 (Iq 44 (.mv (.t 10))),
 (Iq 45 (.ixs 1 (.t 43) (.t 44))),
 (Iq 46 (.ld false 1 (.t 45))),
 (Iq 47 (.bin .neq (.t 46) (.c (.int .i64 0))))])
 (.cond (.t 47)
 (.seq (.reg [(Iq 48 (.mv (.t 7))),
 (Iq 49 (.mv (.t 10))),
 (Iq 50 (.ixs 1 (.t 48) (.t 49))),
 ⟨none, none, .m (.st false 1 (.t 50) (.c (.bool true)))⟩])
 (.exit 2))
 .skip))))
 (.reg [(Iq 51 (.bin .add (.t 40) (.c (.int .i64 1)))),
 (Iq 40 (.mv (.t 51)))]))))))))))
 (.reg [(Iq 52 (.bin .add (.t 29) (.c (.int .i64 1)))),
 (Iq 29 (.mv (.t 52)))])))))))
 (.seq (.reg [(Im 53 (.bsl 1 [])),
 (Iq 11 (.mv (.t 53)))])
 (.seq (.seq (.reg [(Iq 54 (.mv (.t 7))),
 (Iq 55 (.len (.t 54))),
 (Iq 56 (.mv (.c (.int .i64 0))))])
 (.block 4 (.loop [1, 2, 7, 11, 55, 56] (.seq (.reg [(Iq 57 (.bin .lss (.t 56) (.t 55)))])
 (.seq (.cond (.t 57)
 .skip
 (.exit 4))
 (.seq (.block 5 (.seq (.reg [(Iq 58 (.mv (.t 56))),
 (Iq 12 (.mv (.t 58)))])
 (.seq (.seq (.reg [(Iq 59 (.mv (.t 7))),
 (Iq 60 (.mv (.t 12))),
 (Iq 61 (.ixs 1 (.t 59) (.t 60))),
 (Iq 62 (.ld false 1 (.t 61))),
 (Iq 63 (.un .not (.t 62)))])
 (.cond (.t 63)
 (.exit 5)
 .skip))
 (.seq (.reg [(Iq 64 (.mv (.t 1))),
 (Iq 65 (.len (.t 64))),
 (Iq 66 (.mv (.c (.int .i64 0))))])
 (.block 6 (.loop [1, 2, 7, 11, 12, 55, 56, 65, 66] (.seq (.reg [(Iq 67 (.bin .lss (.t 66) (.t 65)))])
 (.seq (.cond (.t 67)
 .skip
 (.exit 6))
 (.seq (.block 7 (.seq (.reg [(Iq 68 (.mv (.t 66))),
 (Iq 13 (.mv (.t 68)))])
 (.seq (.sch (.take 0 (Iq 69 (.ld true 1 (.t 2))) (.take 1 (Iq 70 (.mv (.t 1))) (.take 2 (Iq 71 (.mv (.t 13))) (.take 3 (Iq 72 (.ixs 1 (.t 70) (.t 71))) (.take 4 (Iq 73 (.ld false 1 (.t 72))) (.one (Ic 74 (.call 62 [(.t 69), (.t 73)])) [4, 0] (.take 6 (Iq 14 (.mv (.t 74))) .done))))))))
 (.seq (.reg [(Iq 75 (.mv (.t 14))),
 (Iq 76 (.mv (.t 12))),
 (Iq 77 (.ixs 1 (.t 75) (.t 76))),
 (Iq 78 (.ld false 1 (.t 77))),
 (Iq 79 (.bin .eql (.t 78) (.c (.int .i64 1)))),
 (Iq 15 (.mv (.t 79)))])
 (.seq (.seq (.reg [(Iq 80 (.mv (.t 14))),
 (Iq 81 (.len (.t 80))),
 (Iq 82 (.mv (.c (.int .i64 0))))])
 (.block 8 (.loop [1, 2, 7, 11, 12, 13, 14, 15, 55, 56, 65, 66, 81, 82] (.seq (.reg [(Iq 83 (.bin .lss (.t 82) (.t 81)))])
 (.seq (.cond (.t 83)
 .skip
 (.exit 8))
 (.seq (.block 9 (.seq (.reg [(Iq 84 (.mv (.t 82))),
 (Iq 16 (.mv (.t 84)))])
 (.seq (.reg [(Iq 85 (.mv (.t 16))),
 (Iq 86 (.mv (.t 12))),
 (Iq 87 (.bin .lss (.t 85) (.t 86))),
 (Iq 88 (.mv (.t 87))),
 ⟨(some 89), (some (88, false)), .q (.mv (.t 7))⟩,
 ⟨(some 90), (some (88, false)), .q (.mv (.t 16))⟩,
 ⟨(some 91), (some (88, false)), .q (.ixs 1 (.t 89) (.t 90))⟩,
 ⟨(some 92), (some (88, false)), .q (.ld false 1 (.t 91))⟩,
 ⟨(some 93), (some (88, false)), .q (.mv (.t 92))⟩,
 ⟨(some 94), (some (93, true)), .q (.mv (.t 16))⟩,
 ⟨(some 95), (some (93, true)), .q (.mv (.t 12))⟩,
 ⟨(some 96), (some (93, true)), .q (.bin .neq (.t 94) (.t 95))⟩,
 ⟨(some 97), (some (88, false)), .q (.pick (.t 93) (.t 96) (.c (.bool false)))⟩,
 (Iq 98 (.pick (.t 88) (.c (.bool true)) (.t 97))),
 (Iq 99 (.mv (.t 98))),
 ⟨(some 100), (some (99, true)), .q (.mv (.t 14))⟩,
 ⟨(some 101), (some (99, true)), .q (.mv (.t 16))⟩,
 ⟨(some 102), (some (99, true)), .q (.ixs 1 (.t 100) (.t 101))⟩,
 ⟨(some 103), (some (99, true)), .q (.ld false 1 (.t 102))⟩,
 ⟨(some 104), (some (99, true)), .q (.bin .neq (.t 103) (.c (.int .i64 0)))⟩,
 (Iq 105 (.pick (.t 99) (.t 104) (.c (.bool false))))])
 (.cond (.t 105)
 (.reg [(Iq 15 (.mv (.c (.bool false))))])
 .skip))))
 (.reg [(Iq 106 (.bin .add (.t 82) (.c (.int .i64 1)))),
 (Iq 82 (.mv (.t 106)))])))))))
 (.seq (.reg [(Iq 107 (.mv (.t 15)))])
 (.cond (.t 107)
 (.seq (.reg [(Iq 108 (.mv (.t 11))),
 (Iq 109 (.mv (.t 1))),
 (Iq 110 (.mv (.t 13))),
 (Iq 111 (.ixs 1 (.t 109) (.t 110))),
 (Iq 112 (.ld false 1 (.t 111))),
 (Im 113 (.bsl 1 [(.t 112)])),
 (Im 114 (.app 1 8 (.t 108) (.t 113))),
 (Iq 11 (.mv (.t 114)))])
 (.exit 6))
 .skip)))))))
 (.reg [(Iq 115 (.bin .add (.t 66) (.c (.int .i64 1)))),
 (Iq 66 (.mv (.t 115)))]))))))))))
 (.reg [(Iq 116 (.bin .add (.t 56) (.c (.int .i64 1)))),
 (Iq 56 (.mv (.t 116)))])))))))
 (.seq (.reg [(Iq 117 (.mv (.t 11))),
 (Iq 4 (.mv (.t 117))),
 (Iq 5 (.mv (.c (.int .i64 0))))])
 .ret)))))))⟩
theorem l_spec_LeastBasis : lowF PA f_spec_LeastBasis 2 [.k [1, 2, 7, 28, 29], .s (.take 0 (.take 1 (.take 2 (.take 3 (.take 4 (.one 5 (.take 6 .done))))))), .k [1, 2, 7, 9, 28, 29, 39, 40], .k [1, 2, 7, 11, 55, 56], .k [1, 2, 7, 11, 12, 55, 56, 65, 66], .s (.take 0 (.take 1 (.take 2 (.take 3 (.take 4 (.one 5 (.take 6 .done))))))), .k [1, 2, 7, 11, 12, 13, 14, 15, 55, 56, 65, 66, 81, 82]] = some c_spec_LeastBasis := by kernel_rfl
abbrev f_spec_DualCode : FuncId := 25
def c_spec_DualCode : AF := ⟨2, 16, [.t 4, .t 5],
 (.seq (.reg [(Im 2 (.box (.t 0))),
 (Iq 4 (.mv (.c (.slice none 0 0)))),
 (Iq 5 (.mv (.c (.int .i64 0))))])
 (.seq (.seq (.reg [(Iq 7 (.ld true 1 (.t 2))),
 (Iq 8 (.mv (.t 1))),
 (Ic 9 (.call 61 [(.t 7), (.t 8)])),
 (Iq 6 (.mv (.t 9)))])
 (.seq (.reg [(Iq 10 (.mv (.t 6))),
 (Iq 11 (.bin .neq (.t 10) (.c (.int .i64 0))))])
 (.cond (.t 11)
 (.seq (.reg [(Iq 12 (.mv (.t 6))),
 (Iq 4 (.mv (.c (.slice none 0 0)))),
 (Iq 5 (.mv (.t 12)))])
 .ret)
 .skip)))
 (.seq (.reg [(Iq 13 (.ld true 1 (.t 2))),
 (Iq 14 (.mv (.t 1))),
 (Ic 15 (.call 63 [(.t 13), (.t 14)])),
 (Iq 4 (.mv (.t 15))),
 (Iq 5 (.mv (.c (.int .i64 0))))])
 .ret)))⟩
theorem l_spec_DualCode : lowF PA f_spec_DualCode 2 [] = some c_spec_DualCode := by kernel_rfl
abbrev f_spec_DualCounts : FuncId := 26
def c_spec_DualCounts : AF := ⟨2, 115, [.t 4, .t 5],
 (.seq (.reg [(Im 2 (.box (.t 0))),
 (Iq 4 (.mv (.c (.slice none 0 0)))),
 (Iq 5 (.mv (.c (.int .i64 0))))])
 (.seq (.seq (.reg [(Iq 17 (.ld true 1 (.t 2))),
 (Iq 18 (.mv (.t 1))),
 (Ic 19 (.call 61 [(.t 17), (.t 18)])),
 (Iq 6 (.mv (.t 19)))])
 (.seq (.reg [(Iq 20 (.mv (.t 6))),
 (Iq 21 (.bin .neq (.t 20) (.c (.int .i64 0))))])
 (.cond (.t 21)
 (.seq (.reg [(Iq 22 (.mv (.t 6))),
 (Iq 4 (.mv (.c (.slice none 0 0)))),
 (Iq 5 (.mv (.t 22)))])
 .ret)
 .skip)))
 (.seq (.sch (.take 0 (Iq 23 (.fad 0 (.t 2))) (.take 1 (Iq 24 (.ld false 1 (.t 23))) (.take 2 (Iq 25 (.len (.t 24))) (.take 3 (Iq 26 (.ld true 1 (.t 2))) (.take 4 (Iq 27 (.mv (.t 1))) (.one (Ic 28 (.call 64 [(.t 26), (.t 27)])) [3] (.take 6 (Iq 7 (.mv (.t 25))) (.take 7 (Iq 8 (.mv (.t 28))) .done)))))))))
 (.seq (.reg [(Iq 29 (.mv (.t 7))),
 (Iq 30 (.bin .add (.t 29) (.c (.int .i64 1)))),
 (Im 31 (.mks 1 (.v (.int .i64 0)) 8 (.t 30) (.t 30))),
 (Iq 9 (.mv (.t 31)))])
 (.seq (.seq (.reg [(Iq 10 (.mv (.c (.int .i64 0))))])
 (.block 0 (.loop [1, 2, 7, 8, 9, 10] (.seq (.seq (.reg [(Iq 32 (.mv (.t 10))),
 (Iq 33 (.mv (.t 7))),
 (Iq 34 (.bin .leq (.t 32) (.t 33)))])
 (.cond (.t 34)
 .skip
 (.exit 0)))
 (.seq (.block 1 (.seq (.reg [(Iq 37 (.mv (.t 7))),
 (Iq 38 (.bin .add (.t 37) (.c (.int .i64 1)))),
 (Im 39 (.mks 1 (.v (.int .i64 0)) 8 (.t 38) (.t 38))),
 (Iq 11 (.mv (.t 39)))])
 (.seq (.reg [(Iq 40 (.mv (.t 11))),
 (Iq 41 (.mv (.t 8))),
 (Iq 42 (.mv (.t 10))),
 (Iq 43 (.ixs 1 (.t 41) (.t 42))),
 (Iq 44 (.ld false 1 (.t 43))),
 (Iq 45 (.ixs 1 (.t 40) (.c (.int .i64 0)))),
 ⟨none, none, .m (.st false 1 (.t 45) (.t 44))⟩])
 (.seq (.seq (.reg [(Iq 12 (.mv (.c (.int .i64 0))))])
 (.block 2 (.loop [1, 2, 7, 8, 9, 10, 11, 12] (.seq (.seq (.reg [(Iq 46 (.mv (.t 12))),
 (Iq 47 (.mv (.t 7))),
 (Iq 48 (.bin .lss (.t 46) (.t 47)))])
 (.cond (.t 48)
 .skip
 (.exit 2)))
 (.seq (.block 3 (.seq (.reg [(Iq 51 (.fad 0 (.t 2))),
 (Iq 52 (.ld false 1 (.t 51))),
 (Iq 53 (.ixs 1 (.t 52) (.c (.int .i64 0)))),
 (Iq 54 (.ld false 1 (.t 53))),
 (Iq 55 (.bin .sub (.t 54) (.c (.int .i64 1)))),
 (Iq 13 (.mv (.t 55)))])
 (.seq (.seq (.reg [(Iq 56 (.mv (.t 12))),
 (Iq 57 (.mv (.t 10))),
 (Iq 58 (.bin .lss (.t 56) (.t 57)))])
 (.cond (.t 58)
 (.reg [(Iq 13 (.mv (.c (.int .i64 (-1)))))])
 .skip))
 (.seq (.reg [(Iq 59 (.mv (.t 12))),
 (Iq 60 (.bin .add (.t 59) (.c (.int .i64 1)))),
 (Iq 14 (.mv (.t 60)))])
 (.block 4 (.loop [1, 2, 7, 8, 9, 10, 11, 12, 13, 14] (.seq (.seq (.reg [(Iq 61 (.mv (.t 14))),
 (Iq 62 (.bin .gtr (.t 61) (.c (.int .i64 0))))])
 (.cond (.t 62)
 .skip
 (.exit 4)))
 (.seq (.block 5 (.sch (.take 0 (Iq 65 (.mv (.t 11))) (.take 1 (Iq 66 (.mv (.t 14))) (.take 2 (Iq 67 (.mv (.t 11))) (.take 3 (Iq 68 (.mv (.t 14))) (.take 4 (Iq 69 (.ixs 1 (.t 67) (.t 68))) (.take 5 (Iq 70 (.ld false 1 (.t 69))) (.take 6 (Iq 71 (.mv (.t 13))) (.take 7 (Iq 72 (.mv (.t 11))) (.take 8 (Iq 73 (.mv (.t 14))) (.take 9 (Iq 74 (.bin .sub (.t 73) (.c (.int .i64 1)))) (.take 10 (Iq 75 (.ixs 1 (.t 72) (.t 74))) (.take 11 (Iq 76 (.ld false 1 (.t 75))) (.take 12 (Iq 77 (.bin .mul (.t 71) (.t 76))) (.take 13 (Iq 78 (.bin .add (.t 70) (.t 77))) (.take 14 (Iq 79 (.ixs 1 (.t 65) (.t 66))) (.one ⟨none, none, .m (.st false 1 (.t 79) (.t 78))⟩ [11, 5] .done))))))))))))))))))
 (.reg [(Iq 63 (.mv (.t 14))),
 (Iq 64 (.bin .sub (.t 63) (.c (.int .i64 1)))),
 (Iq 14 (.mv (.t 64)))])))))))))
 (.reg [(Iq 49 (.mv (.t 12))),
 (Iq 50 (.bin .add (.t 49) (.c (.int .i64 1)))),
 (Iq 12 (.mv (.t 50)))]))))))
 (.seq (.reg [(Iq 80 (.mv (.t 9))),
 (Iq 81 (.len (.t 80))),
 (Iq 82 (.mv (.c (.int .i64 0))))])
 (.block 6 (.loop [1, 2, 7, 8, 9, 10, 11, 81, 82] (.seq (.reg [(Iq 83 (.bin .lss (.t 82) (.t 81)))])
 (.seq (.cond (.t 83)
 .skip
 (.exit 6))
 (.seq (.block 7 (.seq (.reg [(Iq 84 (.mv (.t 82))),
 (Iq 15 (.mv (.t 84)))])
 (.sch (.take 0 (Iq 85 (.mv (.t 9))) (.take 1 (Iq 86 (.mv (.t 15))) (.take 2 (Iq 87 (.mv (.t 9))) (.take 3 (Iq 88 (.mv (.t 15))) (.take 4 (Iq 89 (.ixs 1 (.t 87) (.t 88))) (.take 5 (Iq 90 (.ld false 1 (.t 89))) (.take 6 (Iq 91 (.mv (.t 11))) (.take 7 (Iq 92 (.mv (.t 15))) (.take 8 (Iq 93 (.ixs 1 (.t 91) (.t 92))) (.take 9 (Iq 94 (.ld false 1 (.t 93))) (.take 10 (Iq 95 (.bin .add (.t 90) (.t 94))) (.take 11 (Iq 96 (.ixs 1 (.t 85) (.t 86))) (.one ⟨none, none, .m (.st false 1 (.t 96) (.t 95))⟩ [9, 5] .done))))))))))))))))
 (.reg [(Iq 97 (.bin .add (.t 82) (.c (.int .i64 1)))),
 (Iq 82 (.mv (.t 97)))])))))))))))
 (.reg [(Iq 35 (.mv (.t 10))),
 (Iq 36 (.bin .add (.t 35) (.c (.int .i64 1)))),
 (Iq 10 (.mv (.t 36)))]))))))
 (.seq (.seq (.reg [(Iq 98 (.mv (.t 9))),
 (Iq 99 (.len (.t 98))),
 (Iq 100 (.mv (.c (.int .i64 0))))])
 (.block 8 (.loop [1, 9, 99, 100] (.seq (.reg [(Iq 101 (.bin .lss (.t 100) (.t 99)))])
 (.seq (.cond (.t 101)
 .skip
 (.exit 8))
 (.seq (.block 9 (.seq (.reg [(Iq 102 (.mv (.t 100))),
 (Iq 16 (.mv (.t 102)))])
 (.reg [(Iq 103 (.mv (.t 9))),
 (Iq 104 (.mv (.t 16))),
 (Iq 105 (.mv (.t 9))),
 (Iq 106 (.mv (.t 16))),
 (Iq 107 (.ixs 1 (.t 105) (.t 106))),
 (Iq 108 (.ld false 1 (.t 107))),
 (Iq 109 (.mv (.t 1))),
 (Iq 110 (.len (.t 109))),
 (Iq 111 (.bin .quo (.t 108) (.t 110))),
 (Iq 112 (.ixs 1 (.t 103) (.t 104))),
 ⟨none, none, .m (.st false 1 (.t 112) (.t 111))⟩])))
 (.reg [(Iq 113 (.bin .add (.t 100) (.c (.int .i64 1)))),
 (Iq 100 (.mv (.t 113)))])))))))
 (.seq (.reg [(Iq 114 (.mv (.t 9))),
 (Iq 4 (.mv (.t 114))),
 (Iq 5 (.mv (.c (.int .i64 0))))])
 .ret)))))))⟩
theorem l_spec_DualCounts : lowF PA f_spec_DualCounts 2 [.s (.take 0 (.take 1 (.take 2 (.take 3 (.take 4 (.one 5 (.take 6 (.take 7 .done)))))))), .k [1, 2, 7, 8, 9, 10], .k [1, 2, 7, 8, 9, 10, 11, 12], .k [1, 2, 7, 8, 9, 10, 11, 12, 13, 14], .s (.take 0 (.take 1 (.take 2 (.take 3 (.take 4 (.take 5 (.take 6 (.take 7 (.take 8 (.take 9 (.take 10 (.take 11 (.take 12 (.take 13 (.take 14 (.one 15 .done)))))))))))))))), .k [1, 2, 7, 8, 9, 10, 11, 81, 82], .s (.take 0 (.take 1 (.take 2 (.take 3 (.take 4 (.take 5 (.take 6 (.take 7 (.take 8 (.take 9 (.take 10 (.take 11 (.one 12 .done))))))))))))), .k [1, 9, 99, 100]] = some c_spec_DualCounts := by kernel_rfl
abbrev f_spec_DimensionOf : FuncId := 27
def c_spec_DimensionOf : AF := ⟨2, 16, [.t 4, .t 5],
 (.seq (.reg [(Im 2 (.box (.t 0))),
 (Iq 4 (.mv (.c (.int .i64 0)))),
 (Iq 5 (.mv (.c (.int .i64 0))))])
 (.seq (.seq (.reg [(Iq 7 (.ld true 1 (.t 2))),
 (Iq 8 (.mv (.t 1))),
 (Ic 9 (.call 61 [(.t 7), (.t 8)])),
 (Iq 6 (.mv (.t 9)))])
 (.seq (.reg [(Iq 10 (.mv (.t 6))),
 (Iq 11 (.bin .neq (.t 10) (.c (.int .i64 0))))])
 (.cond (.t 11)
 (.seq (.reg [(Iq 12 (.mv (.t 6))),
 (Iq 4 (.mv (.c (.int .i64 0)))),
 (Iq 5 (.mv (.t 12)))])
 .ret)
 .skip)))
 (.seq (.reg [(Iq 13 (.ld true 1 (.t 2))),
 (Iq 14 (.mv (.t 1))),
 (Ic 15 (.call 65 [(.t 13), (.t 14)])),
 (Iq 4 (.mv (.t 15))),
 (Iq 5 (.mv (.c (.int .i64 0))))])
 .ret)))⟩
theorem l_spec_DimensionOf : lowF PA f_spec_DimensionOf 2 [] = some c_spec_DimensionOf := by kernel_rfl
abbrev f_spec_DrawSyndromeOf : FuncId := 28
def c_spec_DrawSyndromeOf : AF := ⟨1, 37, [.c 2 true 1, .t 3, .t 4],
 (.seq (.reg [(Im 2 (.alloc [(.v (.slice none 0 0))])),
 (Iq 3 (.mv (.c (.slice none 0 0)))),
 (Iq 4 (.mv (.c (.int .i64 0))))])
 (.seq (.reg [(Iq 9 (.mv (.t 0))),
 (Ic 10 (.call 30 [(.t 9)])),
 (Iq 5 (.mv (.t 10)))])
 (.seq (.reg [(Iq 11 (.mv (.t 5))),
 (Ic 12 (.call 31 [(.t 11)])),
 (Im 6 (.alloc [(.v (.slice none 0 0))])),
 ⟨none, none, .m (.st true 1 (.t 6) (.t 12))⟩])
 (.seq (.reg [(Iq 13 (.mv (.t 5))),
 (Iq 14 (.ld true 1 (.t 6))),
 (Ic 15 (.call 32 [(.t 13), (.t 14)])),
 (Iq 7 (.mv (.t 15)))])
 (.seq (.seq (.reg [(Iq 16 (.mv (.t 5))),
 (Ic 17 (.call 33 [(.t 16), (.c (.int .i64 16))])),
 (Iq 18 (.bin .eql (.t 17) (.c (.int .i64 0))))])
 (.cond (.t 18)
 (.reg [(Iq 19 (.mv (.t 7))),
 (Iq 20 (.mv (.t 5))),
 (Iq 21 (.ld true 1 (.t 6))),
 (Ic 22 (.call 35 [(.t 21)])),
 (Im 23 (.bsl 1 [(.c (.int .i64 (-1))), (.t 22)])),
 (Ic 24 (.call 34 [(.t 20), (.t 23)])),
 (Im 25 (.bsl 1 [(.t 24)])),
 (Im 26 (.app 1 8 (.t 19) (.t 25))),
 (Iq 7 (.mv (.t 26)))])
 .skip))
 (.seq (.reg [(Iq 27 (.mv (.t 5))),
 (Iq 28 (.ld true 1 (.t 6))),
 (Ic 29 (.call 35 [(.t 28)])),
 (Iq 30 (.bin .sub (.t 29) (.c (.int .i64 1)))),
 (Ic 31 (.call 66 [(.t 27), (.t 30)])),
 (Iq 8 (.mv (.t 31)))])
 (.seq (.reg [(Iq 32 (.mv (.t 5))),
 (Iq 33 (.ld true 1 (.t 6))),
 (Ic 34 (.call 36 [(.t 32), (.t 33)])),
 (Iq 35 (.mv (.t 7))),
 (Iq 36 (.mv (.t 8))),
 ⟨none, none, .m (.st true 1 (.t 2) (.t 34))⟩,
 (Iq 3 (.mv (.t 35))),
 (Iq 4 (.mv (.t 36)))])
 .ret)))))))⟩
theorem l_spec_DrawSyndromeOf : lowF PA f_spec_DrawSyndromeOf 1 [] = some c_spec_DrawSyndromeOf := by kernel_rfl
abbrev f_spec_SyndromeOf : FuncId := 29
def c_spec_SyndromeOf : AF := ⟨3, 41, [.t 6, .t 7],
 (.seq (.reg [(Im 3 (.box (.t 0))),
 (Iq 6 (.mv (.c (.slice none 0 0)))),
 (Iq 7 (.mv (.c (.int .i64 0))))])
 (.seq (.reg [(Iq 11 (.ld true 1 (.t 3))),
 (Iq 12 (.mv (.t 2))),
 (Im 13 (.bsl 1 [(.t 12)])),
 (Ic 14 (.call 67 [(.t 11), (.t 13)])),
 (Iq 8 (.mv (.t 14)))])
 (.seq (.seq (.reg [(Iq 15 (.mv (.t 8))),
 (Iq 16 (.bin .eql (.t 15) (.c (.int .i64 0))))])
 (.cond (.t 16)
 (.reg [(Iq 17 (.ld true 1 (.t 3))),
 (Iq 18 (.mv (.t 1))),
 (Ic 19 (.call 42 [(.t 17), (.t 18)])),
 (Iq 8 (.mv (.t 19)))])
 .skip))
 (.seq (.seq (.reg [(Iq 20 (.mv (.t 8))),
 (Iq 21 (.bin .neq (.t 20) (.c (.int .i64 0))))])
 (.cond (.t 21)
 (.seq (.reg [(Iq 22 (.mv (.t 8))),
 (Iq 6 (.mv (.c (.slice none 0 0)))),
 (Iq 7 (.mv (.t 22)))])
 .ret)
 .skip))
 (.seq (.reg [(Im 23 (.bsl 1 [])),
 (Iq 9 (.mv (.t 23)))])
 (.seq (.seq (.reg [(Iq 24 (.mv (.t 1))),
 (Iq 25 (.len (.t 24))),
 (Iq 26 (.mv (.c (.int .i64 0))))])
 (.block 0 (.loop [1, 2, 3, 9, 25, 26] (.seq (.reg [(Iq 27 (.bin .lss (.t 26) (.t 25)))])
 (.seq (.cond (.t 27)
 .skip
 (.exit 0))
 (.seq (.block 1 (.seq (.reg [(Iq 28 (.mv (.t 26))),
 (Iq 10 (.mv (.t 28)))])
 (.sch (.take 0 (Iq 29 (.mv (.t 9))) (.take 1 (Iq 30 (.ld true 1 (.t 3))) (.take 2 (Iq 31 (.mv (.t 1))) (.take 3 (Iq 32 (.mv (.t 10))) (.take 4 (Iq 33 (.ixs 1 (.t 31) (.t 32))) (.take 5 (Iq 34 (.ld false 1 (.t 33))) (.take 6 (Iq 35 (.mv (.t 2))) (.one (Ic 36 (.call 68 [(.t 30), (.t 34), (.t 35)])) [5, 1] (.one (Im 37 (.bsl 1 [(.t 36)])) [] (.one (Im 38 (.app 1 8 (.t 29) (.t 37))) [] (.take 10 (Iq 9 (.mv (.t 38))) .done))))))))))))))
 (.reg [(Iq 39 (.bin .add (.t 26) (.c (.int .i64 1)))),
 (Iq 26 (.mv (.t 39)))])))))))
 (.seq (.reg [(Iq 40 (.mv (.t 9))),
 (Iq 6 (.mv (.t 40))),
 (Iq 7 (.mv (.c (.int .i64 0))))])
 .ret)))))))⟩
theorem l_spec_SyndromeOf : lowF PA f_spec_SyndromeOf 3 [.k [1, 2, 3, 9, 25, 26], .s (.take 0 (.take 1 (.take 2 (.take 3 (.take 4 (.take 5 (.take 6 (.one 7 (.one 8 (.one 9 (.take 10 .done)))))))))))] = some c_spec_SyndromeOf := by kernel_rfl
abbrev f_spec_l01From : FuncId := 30
def c_spec_l01From : AF := ⟨1, 38, [.t 2],
 (.seq (.reg [(Iq 2 (.mv (.c (.pointer none))))])
 (.seq (.reg [(Iq 5 (.mv (.t 0))),
 (Iq 6 (.mv (.t 0))),
 (Iq 7 (.len (.t 6))),
 (Iq 8 (.cvt .u64 (.t 7))),
 (Iq 9 (.bin .add (.c (.int .u64 14111)) (.t 8))),
 (Iq 10 (.bld [(.v (.slice none 0 0)), (.v (.int .i64 0)), (.v (.int .u64 0))] [(0, (.t 5)), (2, (.t 9))])),
 (Im 11 (.box (.t 10))),
 (Iq 3 (.mv (.t 11)))])
 (.seq (.seq (.reg [(Iq 4 (.mv (.c (.int .i64 0))))])
 (.block 0 (.loop [0, 3, 4] (.seq (.seq (.reg [(Iq 12 (.mv (.t 4))),
 (Iq 13 (.mv (.t 0))),
 (Iq 14 (.len (.t 13))),
 (Iq 15 (.bin .lss (.t 12) (.t 14))),
 (Iq 16 (.mv (.t 15))),
 ⟨(some 17), (some (16, true)), .q (.mv (.t 4))⟩,
 ⟨(some 18), (some (16, true)), .q (.bin .lss (.t 17) (.c (.int .i64 4096)))⟩,
 (Iq 19 (.pick (.t 16) (.t 18) (.c (.bool false))))])
 (.cond (.t 19)
 .skip
 (.exit 0)))
 (.seq (.block 1 (.sch (.take 0 (Iq 22 (.mv (.t 3))) (.take 1 (Iq 23 (.mv (.t 3))) (.take 2 (Iq 24 (.nlc (.t 23))) (.take 3 (Iq 25 (.fad 2 (.t 24))) (.take 4 (Iq 26 (.ld false 1 (.t 25))) (.take 5 (Iq 27 (.bin .mul (.t 26) (.c (.int .u64 1099511628211)))) (.take 6 (Iq 28 (.mv (.t 0))) (.take 7 (Iq 29 (.mv (.t 4))) (.take 8 (Iq 30 (.ixs 1 (.t 28) (.t 29))) (.take 9 (Iq 31 (.ld false 1 (.t 30))) (.take 10 (Iq 32 (.cvt .u64 (.t 31))) (.take 11 (Iq 33 (.bin .add (.t 27) (.t 32))) (.take 12 (Iq 34 (.bin .add (.t 33) (.c (.int .u64 251)))) (.take 13 (Iq 35 (.nlc (.t 22))) (.take 14 (Iq 36 (.fad 2 (.t 35))) (.one ⟨none, none, .m (.st false 1 (.t 36) (.t 34))⟩ [9, 4] .done))))))))))))))))))
 (.reg [(Iq 20 (.mv (.t 4))),
 (Iq 21 (.bin .add (.t 20) (.c (.int .i64 1)))),
 (Iq 4 (.mv (.t 21)))]))))))
 (.seq (.reg [(Iq 37 (.mv (.t 3))),
 (Iq 2 (.mv (.t 37)))])
 .ret))))⟩
theorem l_spec_l01From : lowF PA f_spec_l01From 1 [.k [0, 3, 4], .s (.take 0 (.take 1 (.take 2 (.take 3 (.take 4 (.take 5 (.take 6 (.take 7 (.take 8 (.take 9 (.take 10 (.take 11 (.take 12 (.take 13 (.take 14 (.one 15 .done))))))))))))))))] = some c_spec_l01From := by kernel_rfl
abbrev f_spec_l05Space : FuncId := 31
def c_spec_l05Space : AF := ⟨1, 38, [.c 2 true 1],
 (.seq (.reg [(Im 2 (.alloc [(.v (.slice none 0 0))]))])
 (.seq (.seq (.reg [(Iq 6 (.mv (.t 0))),
 (Ic 7 (.call 33 [(.t 6), (.c (.int .i64 16))])),
 (Iq 8 (.bin .eql (.t 7) (.c (.int .i64 0))))])
 (.cond (.t 8)
 (.seq (.reg [(Iq 9 (.mv (.t 0))),
 (Ic 10 (.call 69 [(.t 9), (.c (.int .i64 81))])),
 ⟨none, none, .m (.st true 1 (.t 2) (.t 10))⟩])
 .ret)
 .skip))
 (.seq (.reg [(Im 11 (.bsl 1 [])),
 (Iq 12 (.bld [(.v (.slice none 0 0))] [(0, (.t 11))])),
 (Iq 13 (.mv (.t 0))),
 (Im 14 (.bsl 1 [(.c (.int .i64 2)), (.c (.int .i64 2)), (.c (.int .i64 3))])),
 (Ic 15 (.call 34 [(.t 13), (.t 14)])),
 (Im 3 (.alloc [(.v (.slice none 0 0))])),
 ⟨none, none, .m (.st true 1 (.t 3) (.t 12))⟩,
 (Iq 4 (.mv (.t 15)))])
 (.seq (.reg [(Iq 16 (.mv (.t 0))),
 (Iq 17 (.mv (.t 0))),
 (Im 18 (.bsl 1 [(.c (.int .i64 3)), (.c (.int .i64 5)), (.c (.int .i64 7))])),
 (Ic 19 (.call 34 [(.t 17), (.t 18)])),
 (Ic 20 (.call 33 [(.t 16), (.t 19)])),
 (Iq 21 (.bin .add (.c (.int .i64 1)) (.t 20))),
 (Iq 5 (.mv (.t 21)))])
 (.seq (.seq (.reg [(Iq 22 (.mv (.t 4))),
 (Iq 23 (.bin .eql (.t 22) (.c (.int .i64 3))))])
 (.cond (.t 23)
 (.reg [(Iq 24 (.mv (.t 0))),
 (Ic 25 (.call 33 [(.t 24), (.c (.int .i64 4))])),
 (Iq 26 (.bin .add (.c (.int .i64 1)) (.t 25))),
 (Iq 5 (.mv (.t 26)))])
 .skip))
 (.seq (.block 0 (.loop [2, 3, 4, 5, 38] (.seq (.seq (.reg [(Iq 27 (.mv (.t 5))),
 (Iq 28 (.bin .gtr (.t 27) (.c (.int .i64 0))))])
 (.cond (.t 28)
 .skip
 (.exit 0)))
 (.seq (.block 1 (.reg [(Iq 31 (.fad 0 (.t 3))),
 (Iq 32 (.ld false 1 (.t 31))),
 (Iq 33 (.mv (.t 4))),
 (Im 34 (.bsl 1 [(.t 33)])),
 (Im 35 (.app 1 8 (.t 32) (.t 34))),
 (Iq 36 (.fad 0 (.t 3))),
 ⟨none, none, .m (.st false 1 (.t 36) (.t 35))⟩]))
 (.reg [(Iq 29 (.mv (.t 5))),
 (Iq 30 (.bin .sub (.t 29) (.c (.int .i64 1)))),
 (Iq 5 (.mv (.t 30)))])))))
 (.seq (.reg [(Iq 37 (.ld true 1 (.t 3))),
 ⟨none, none, .m (.st true 1 (.t 2) (.t 37))⟩])
 .ret)))))))⟩
theorem l_spec_l05Space : lowF PA f_spec_l05Space 1 [.k [2, 3, 4, 5, 38]] = some c_spec_l05Space := by kernel_rfl
abbrev f_spec_l05Some : FuncId := 32
def c_spec_l05Some : AF := ⟨2, 22, [.t 4],
 (.seq (.reg [(Im 3 (.box (.t 1))),
 (Iq 4 (.mv (.c (.slice none 0 0))))])
 (.seq (.reg [(Im 7 (.bsl 1 [])),
 (Iq 5 (.mv (.t 7)))])
 (.seq (.seq (.reg [(Iq 8 (.mv (.t 0))),
 (Ic 9 (.call 33 [(.t 8), (.c (.int .i64 5))])),
 (Iq 6 (.mv (.t 9)))])
 (.block 0 (.loop [0, 3, 5, 6, 22] (.seq (.seq (.reg [(Iq 10 (.mv (.t 6))),
 (Iq 11 (.bin .gtr (.t 10) (.c (.int .i64 0))))])
 (.cond (.t 11)
 .skip
 (.exit 0)))
 (.seq (.block 1 (.reg [(Iq 14 (.mv (.t 5))),
 (Iq 15 (.mv (.t 0))),
 (Iq 16 (.ld true 1 (.t 3))),
 (Ic 17 (.call 35 [(.t 16)])),
 (Ic 18 (.call 33 [(.t 15), (.t 17)])),
 (Im 19 (.bsl 1 [(.t 18)])),
 (Im 20 (.app 1 8 (.t 14) (.t 19))),
 (Iq 5 (.mv (.t 20)))]))
 (.reg [(Iq 12 (.mv (.t 6))),
 (Iq 13 (.bin .sub (.t 12) (.c (.int .i64 1)))),
 (Iq 6 (.mv (.t 13)))]))))))
 (.seq (.reg [(Iq 21 (.mv (.t 5))),
 (Iq 4 (.mv (.t 21)))])
 .ret))))⟩
theorem l_spec_l05Some : lowF PA f_spec_l05Some 2 [.k [0, 3, 5, 6, 22]] = some c_spec_l05Some := by kernel_rfl
abbrev f_spec_l01Next : FuncId := 33
def c_spec_l01Next : AF := ⟨2, 58, [.t 4],
 (.seq (.reg [(Iq 4 (.mv (.c (.int .i64 0))))])
 (.seq (.seq (.reg [(Iq 6 (.mv (.t 1))),
 (Iq 7 (.bin .lss (.t 6) (.c (.int .i64 1))))])
 (.cond (.t 7)
 (.seq (.reg [(Iq 4 (.mv (.c (.int .i64 0))))])
 .ret)
 .skip))
 (.seq (.reg [(Iq 8 (.mv (.t 0))),
 (Iq 9 (.mv (.t 0))),
 (Iq 10 (.nlc (.t 9))),
 (Iq 11 (.fad 2 (.t 10))),
 (Iq 12 (.ld false 1 (.t 11))),
 (Iq 13 (.bin .mul (.t 12) (.c (.int .u64 6364136223846793005)))),
 (Iq 14 (.bin .add (.t 13) (.c (.int .u64 1442695040888963407)))),
 (Iq 15 (.nlc (.t 8))),
 (Iq 16 (.fad 2 (.t 15))),
 ⟨none, none, .m (.st false 1 (.t 16) (.t 14))⟩])
 (.seq (.reg [(Iq 17 (.mv (.t 0))),
 (Iq 18 (.nlc (.t 17))),
 (Iq 19 (.fad 2 (.t 18))),
 (Iq 20 (.ld false 1 (.t 19))),
 (Iq 21 (.bin .shr (.t 20) (.c (.int .u64 33)))),
 (Iq 22 (.bin .and (.t 21) (.c (.int .u64 16777215)))),
 (Iq 23 (.cvt .i64 (.t 22))),
 (Iq 5 (.mv (.t 23)))])
 (.seq (.seq (.sch (.take 0 (Iq 24 (.mv (.t 0))) (.take 1 (Iq 25 (.nlc (.t 24))) (.take 2 (Iq 26 (.fad 1 (.t 25))) (.take 3 (Iq 27 (.ld false 1 (.t 26))) (.take 4 (Iq 28 (.mv (.t 0))) (.take 5 (Iq 29 (.nlc (.t 28))) (.take 6 (Iq 30 (.fad 0 (.t 29))) (.take 7 (Iq 31 (.ld false 1 (.t 30))) (.take 8 (Iq 32 (.len (.t 31))) (.take 9 (Iq 33 (.bin .lss (.t 27) (.t 32))) .done)))))))))))
 (.cond (.t 33)
 (.seq (.sch (.take 0 (Iq 34 (.mv (.t 5))) (.take 1 (Iq 35 (.mv (.t 0))) (.take 2 (Iq 36 (.nlc (.t 35))) (.take 3 (Iq 37 (.fad 0 (.t 36))) (.take 4 (Iq 38 (.ld false 1 (.t 37))) (.take 5 (Iq 39 (.mv (.t 0))) (.take 6 (Iq 40 (.nlc (.t 39))) (.take 7 (Iq 41 (.fad 1 (.t 40))) (.take 8 (Iq 42 (.ld false 1 (.t 41))) (.take 9 (Iq 43 (.ixs 1 (.t 38) (.t 42))) (.take 10 (Iq 44 (.ld false 1 (.t 43))) (.take 11 (Iq 45 (.cvt .i64 (.t 44))) (.take 12 (Iq 46 (.bin .add (.t 34) (.t 45))) (.take 13 (Iq 5 (.mv (.t 46))) .done)))))))))))))))
 (.reg [(Iq 47 (.mv (.t 0))),
 (Iq 48 (.mv (.t 0))),
 (Iq 49 (.nlc (.t 48))),
 (Iq 50 (.fad 1 (.t 49))),
 (Iq 51 (.ld false 1 (.t 50))),
 (Iq 52 (.bin .add (.t 51) (.c (.int .i64 1)))),
 (Iq 53 (.nlc (.t 47))),
 (Iq 54 (.fad 1 (.t 53))),
 ⟨none, none, .m (.st false 1 (.t 54) (.t 52))⟩]))
 .skip))
 (.seq (.reg [(Iq 55 (.mv (.t 5))),
 (Iq 56 (.mv (.t 1))),
 (Iq 57 (.bin .rem (.t 55) (.t 56))),
 (Iq 4 (.mv (.t 57)))])
 .ret))))))⟩
theorem l_spec_l01Next : lowF PA f_spec_l01Next 2 [.s (.take 0 (.take 1 (.take 2 (.take 3 (.take 4 (.take 5 (.take 6 (.take 7 (.take 8 (.take 9 .done)))))))))), .s (.take 0 (.take 1 (.take 2 (.take 3 (.take 4 (.take 5 (.take 6 (.take 7 (.take 8 (.take 9 (.take 10 (.take 11 (.take 12 (.take 13 .done))))))))))))))] = some c_spec_l01Next := by kernel_rfl
abbrev f_spec_l01Pick : FuncId := 34
def c_spec_l01Pick : AF := ⟨2, 12, [.t 4],
 (.seq (.reg [(Iq 4 (.mv (.c (.int .i64 0))))])
 (.seq (.reg [(Iq 5 (.mv (.t 1))),
 (Iq 6 (.mv (.t 0))),
 (Iq 7 (.mv (.t 1))),
 (Iq 8 (.len (.t 7))),
 (Ic 9 (.call 33 [(.t 6), (.t 8)])),
 (Iq 10 (.ixs 1 (.t 5) (.t 9))),
 (Iq 11 (.ld false 1 (.t 10))),
 (Iq 4 (.mv (.t 11)))])
 .ret))⟩
theorem l_spec_l01Pick : lowF PA f_spec_l01Pick 2 [] = some c_spec_l01Pick := by kernel_rfl
abbrev f_spec_l01N : FuncId := 35
def c_spec_l01N : AF := ⟨1, 20, [.t 2],
 (.seq (.reg [(Im 1 (.box (.t 0))),
 (Iq 2 (.mv (.c (.int .i64 0))))])
 (.seq (.reg [(Iq 3 (.mv (.c (.int .i64 1))))])
 (.seq (.seq (.reg [(Iq 4 (.mv (.c (.int .i64 0))))])
 (.block 0 (.loop [1, 3, 4] (.seq (.seq (.reg [(Iq 5 (.mv (.t 4))),
 (Iq 6 (.fad 0 (.t 1))),
 (Iq 7 (.ld false 1 (.t 6))),
 (Iq 8 (.len (.t 7))),
 (Iq 9 (.bin .lss (.t 5) (.t 8)))])
 (.cond (.t 9)
 .skip
 (.exit 0)))
 (.seq (.block 1 (.reg [(Iq 12 (.mv (.t 3))),
 (Iq 13 (.fad 0 (.t 1))),
 (Iq 14 (.ld false 1 (.t 13))),
 (Iq 15 (.mv (.t 4))),
 (Iq 16 (.ixs 1 (.t 14) (.t 15))),
 (Iq 17 (.ld false 1 (.t 16))),
 (Iq 18 (.bin .mul (.t 12) (.t 17))),
 (Iq 3 (.mv (.t 18)))]))
 (.reg [(Iq 10 (.mv (.t 4))),
 (Iq 11 (.bin .add (.t 10) (.c (.int .i64 1)))),
 (Iq 4 (.mv (.t 11)))]))))))
 (.seq (.reg [(Iq 19 (.mv (.t 3))),
 (Iq 2 (.mv (.t 19)))])
 .ret))))⟩
theorem l_spec_l01N : lowF PA f_spec_l01N 1 [.k [1, 3, 4]] = some c_spec_l01N := by kernel_rfl
abbrev f_spec_l01Bad : FuncId := 36
def c_spec_l01Bad : AF := ⟨2, 42, [.c 4 true 1],
 (.seq (.reg [(Im 3 (.box (.t 1))),
 (Im 4 (.alloc [(.v (.slice none 0 0))]))])
 (.seq (.reg [(Iq 6 (.fad 0 (.t 3))),
 (Iq 7 (.ld false 1 (.t 6))),
 (Ic 8 (.call 70 [(.t 7)])),
 (Iq 9 (.bld [(.v (.slice none 0 0))] [(0, (.t 8))])),
 (Im 5 (.alloc [(.v (.slice none 0 0))])),
 ⟨none, none, .m (.st true 1 (.t 5) (.t 9))⟩])
 (.seq (.seq (.reg [(Iq 10 (.mv (.t 0))),
 (Ic 11 (.call 33 [(.t 10), (.c (.int .i64 50))]))])
 (.block 0 (.seq (.reg [(Iq 13 (.bin .eql (.t 11) (.c (.int .i64 0)))),
 (Iq 12 (.mv (.t 13)))])
 (.cond (.t 12)
 (.seq (.reg [(Iq 14 (.bld [(.v (.slice none 0 0))] [])),
 ⟨none, none, .m (.st true 1 (.t 4) (.t 14))⟩])
 .ret)
 (.seq (.reg [(Iq 16 (.bin .eql (.t 11) (.c (.int .i64 1)))),
 (Iq 15 (.mv (.t 16)))])
 (.cond (.t 15)
 (.seq (.sch (.take 0 (Iq 17 (.fad 0 (.t 5))) (.take 1 (Iq 18 (.ld false 1 (.t 17))) (.take 2 (Iq 19 (.mv (.t 0))) (.take 3 (Iq 20 (.fad 0 (.t 5))) (.take 4 (Iq 21 (.ld false 1 (.t 20))) (.take 5 (Iq 22 (.len (.t 21))) (.take 7 (Iq 24 (.mv (.t 0))) (.two (Ic 23 (.call 33 [(.t 19), (.t 22)])) [] (.one (Im 25 (.bsl 1 [(.c (.int .i64 1)), (.c (.int .i64 5)), (.c (.int .i64 0)), (.c (.int .i64 (-1))), (.c (.int .i64 1099511627776))])) [] (.one (Ic 26 (.call 34 [(.t 24), (.t 25)])) [] (.take 10 (Iq 27 (.ixs 1 (.t 18) (.t 23))) (.one ⟨none, none, .m (.st false 1 (.t 27) (.t 26))⟩ [4, 1] .done)))) (Im 25 (.bsl 1 [(.c (.int .i64 1)), (.c (.int .i64 5)), (.c (.int .i64 0)), (.c (.int .i64 (-1))), (.c (.int .i64 1099511627776))])) [] (.one (Ic 23 (.call 33 [(.t 19), (.t 22)])) [] (.one (Ic 26 (.call 34 [(.t 24), (.t 25)])) [] (.take 10 (Iq 27 (.ixs 1 (.t 18) (.t 23))) (.one ⟨none, none, .m (.st false 1 (.t 27) (.t 26))⟩ [4, 1] .done)))))))))))))
 (.seq (.reg [(Iq 28 (.ld true 1 (.t 5))),
 ⟨none, none, .m (.st true 1 (.t 4) (.t 28))⟩])
 .ret))
 (.seq (.reg [(Iq 30 (.bin .eql (.t 11) (.c (.int .i64 2)))),
 (Iq 29 (.mv (.t 30)))])
 (.cond (.t 29)
 (.seq (.block 1 (.loop [4, 5, 42] (.seq (.seq (.reg [(Iq 31 (.fad 0 (.t 5))),
 (Iq 32 (.ld false 1 (.t 31))),
 (Iq 33 (.len (.t 32))),
 (Iq 34 (.bin .lss (.t 33) (.c (.int .i64 6))))])
 (.cond (.t 34)
 .skip
 (.exit 1)))
 (.block 2 (.reg [(Iq 35 (.fad 0 (.t 5))),
 (Iq 36 (.ld false 1 (.t 35))),
 (Im 37 (.bsl 1 [(.c (.int .i64 4))])),
 (Im 38 (.app 1 8 (.t 36) (.t 37))),
 (Iq 39 (.fad 0 (.t 5))),
 ⟨none, none, .m (.st false 1 (.t 39) (.t 38))⟩])))))
 (.seq (.reg [(Iq 40 (.ld true 1 (.t 5))),
 ⟨none, none, .m (.st true 1 (.t 4) (.t 40))⟩])
 .ret))
 .skip))))))))
 (.seq (.reg [(Iq 41 (.ld true 1 (.t 3))),
 ⟨none, none, .m (.st true 1 (.t 4) (.t 41))⟩])
 .ret))))⟩
theorem l_spec_l01Bad : lowF PA f_spec_l01Bad 2 [.s (.take 0 (.take 1 (.take 2 (.take 3 (.take 4 (.take 5 (.take 7 (.two 6 (.one 8 (.one 9 (.take 10 (.one 11 .done)))) 8 (.one 6 (.one 9 (.take 10 (.one 11 .done)))))))))))), .k [4, 5, 42]] = some c_spec_l01Bad := by kernel_rfl
abbrev f_impl_plainCode : FuncId := 37
def c_impl_plainCode : AF := ⟨3, 31, [.t 6],
 (.seq (.reg [(Im 3 (.box (.t 0))),
 (Iq 6 (.mv (.c (.int .i64 0))))])
 (.seq (.block 0 (.seq (.reg [(Iq 8 (.ld true 1 (.t 3))),
 (Ic 9 (.call 44 [(.t 8)])),
 (Iq 10 (.un .not (.t 9))),
 (Iq 7 (.mv (.t 10)))])
 (.cond (.t 7)
 (.seq (.reg [(Iq 6 (.mv (.c (.int .i64 1))))])
 .ret)
 (.seq (.reg [(Iq 12 (.mv (.t 1))),
 (Iq 13 (.len (.t 12))),
 (Iq 14 (.bin .gtr (.t 13) (.c (.int .i64 20)))),
 (Iq 15 (.mv (.t 14))),
 ⟨(some 16), (some (15, false)), .q (.ld true 1 (.t 3))⟩,
 ⟨(some 17), (some (15, false)), .q (.mv (.t 1))⟩,
 ⟨(some 18), (some (15, false)), .c (.call 71 [(.t 16), (.t 17)])⟩,
 ⟨(some 19), (some (15, false)), .q (.un .not (.t 18))⟩,
 (Iq 20 (.pick (.t 15) (.c (.bool true)) (.t 19))),
 (Iq 21 (.mv (.t 20))),
 ⟨(some 22), (some (21, false)), .q (.ld true 1 (.t 3))⟩,
 ⟨(some 23), (some (21, false)), .q (.mv (.t 2))⟩,
 ⟨(some 24), (some (21, false)), .c (.call 71 [(.t 22), (.t 23)])⟩,
 ⟨(some 25), (some (21, false)), .q (.un .not (.t 24))⟩,
 (Iq 26 (.pick (.t 21) (.c (.bool true)) (.t 25))),
 (Iq 11 (.mv (.t 26)))])
 (.cond (.t 11)
 (.seq (.reg [(Iq 6 (.mv (.c (.int .i64 2))))])
 .ret)
 (.seq (.reg [(Iq 28 (.ld true 1 (.t 3))),
 (Ic 29 (.call 45 [(.t 28)])),
 (Iq 30 (.un .not (.t 29))),
 (Iq 27 (.mv (.t 30)))])
 (.cond (.t 27)
 (.seq (.reg [(Iq 6 (.mv (.c (.int .i64 5))))])
 .ret)
 .skip)))))))
 (.seq (.reg [(Iq 6 (.mv (.c (.int .i64 0))))])
 .ret)))⟩
theorem l_impl_plainCode : lowF PA f_impl_plainCode 3 [] = some c_impl_plainCode := by kernel_rfl
abbrev f_slices_BinarySearch___int64_int64_ : FuncId := 38
def c_slices_BinarySearch___int64_int64_ : AF := ⟨2, 54, [.t 4, .t 5],
 (.seq (.reg [(Iq 4 (.mv (.c (.int .i64 0)))),
 (Iq 5 (.mv (.c (.bool false))))])
 (.seq (.reg [(Iq 10 (.mv (.t 0))),
 (Iq 11 (.len (.t 10))),
 (Iq 6 (.mv (.t 11)))])
 (.seq (.reg [(Iq 12 (.mv (.t 6))),
 (Iq 7 (.mv (.c (.int .i64 0)))),
 (Iq 8 (.mv (.t 12)))])
 (.seq (.block 0 (.loop [0, 1, 6, 7, 8] (.seq (.seq (.reg [(Iq 13 (.mv (.t 7))),
 (Iq 14 (.mv (.t 8))),
 (Iq 15 (.bin .lss (.t 13) (.t 14)))])
 (.cond (.t 15)
 .skip
 (.exit 0)))
 (.block 1 (.seq (.reg [(Iq 16 (.mv (.t 7))),
 (Iq 17 (.mv (.t 8))),
 (Iq 18 (.bin .add (.t 16) (.t 17))),
 (Iq 19 (.cvt .u64 (.t 18))),
 (Iq 20 (.bin .shr (.t 19) (.c (.int .u64 1)))),
 (Iq 21 (.cvt .i64 (.t 20))),
 (Iq 9 (.mv (.t 21)))])
 (.seq (.reg [(Iq 22 (.mv (.t 0))),
 (Iq 23 (.mv (.t 9))),
 (Iq 24 (.ixs 1 (.t 22) (.t 23))),
 (Iq 25 (.ld false 1 (.t 24))),
 (Iq 26 (.mv (.t 1))),
 (Ic 27 (.call 72 [(.t 25), (.t 26)]))])
 (.cond (.t 27)
 (.reg [(Iq 28 (.mv (.t 9))),
 (Iq 29 (.bin .add (.t 28) (.c (.int .i64 1)))),
 (Iq 7 (.mv (.t 29)))])
 (.reg [(Iq 30 (.mv (.t 9))),
 (Iq 8 (.mv (.t 30)))]))))))))
 (.seq (.reg [(Iq 31 (.mv (.t 7))),
 (Iq 32 (.mv (.t 7))),
 (Iq 33 (.mv (.t 6))),
 (Iq 34 (.bin .lss (.t 32) (.t 33))),
 (Iq 35 (.mv (.t 34))),
 ⟨(some 36), (some (35, true)), .q (.mv (.t 0))⟩,
 ⟨(some 37), (some (35, true)), .q (.mv (.t 7))⟩,
 ⟨(some 38), (some (35, true)), .q (.ixs 1 (.t 36) (.t 37))⟩,
 ⟨(some 39), (some (35, true)), .q (.ld false 1 (.t 38))⟩,
 ⟨(some 40), (some (35, true)), .q (.mv (.t 1))⟩,
 ⟨(some 41), (some (35, true)), .q (.bin .eql (.t 39) (.t 40))⟩,
 ⟨(some 42), (some (35, true)), .q (.mv (.t 41))⟩,
 ⟨(some 43), (some (42, false)), .q (.mv (.t 0))⟩,
 ⟨(some 44), (some (42, false)), .q (.mv (.t 7))⟩,
 ⟨(some 45), (some (42, false)), .q (.ixs 1 (.t 43) (.t 44))⟩,
 ⟨(some 46), (some (42, false)), .q (.ld false 1 (.t 45))⟩,
 ⟨(some 47), (some (42, false)), .c (.call 73 [(.t 46)])⟩,
 ⟨(some 48), (some (42, false)), .q (.mv (.t 47))⟩,
 ⟨(some 49), (some (48, true)), .q (.mv (.t 1))⟩,
 ⟨(some 50), (some (48, true)), .c (.call 73 [(.t 49)])⟩,
 ⟨(some 51), (some (42, false)), .q (.pick (.t 48) (.t 50) (.c (.bool false)))⟩,
 ⟨(some 52), (some (35, true)), .q (.pick (.t 42) (.c (.bool true)) (.t 51))⟩,
 (Iq 53 (.pick (.t 35) (.t 52) (.c (.bool false)))),
 (Iq 4 (.mv (.t 31))),
 (Iq 5 (.mv (.t 53)))])
 .ret)))))⟩
theorem l_slices_BinarySearch___int64_int64_ : lowF PA f_slices_BinarySearch___int64_int64_ 2 [.k [0, 1, 6, 7, 8]] = some c_slices_BinarySearch___int64_int64_ := by kernel_rfl
abbrev f_impl_shifted : FuncId := 39
def c_impl_shifted : AF := ⟨3, 14, [.t 6],
 (.seq (.reg [(Im 3 (.box (.t 0))),
 (Iq 6 (.mv (.c (.slice none 0 0))))])
 (.seq (.reg [(Iq 8 (.ld true 1 (.t 3))),
 (Iq 9 (.mv (.t 2))),
 (Ic 10 (.call 57 [(.t 8), (.t 9)])),
 (Im 7 (.alloc [(.v (.int .u8 0)), (.v (.int .u8 0)), (.v (.int .u8 0)), (.v (.int .u8 0)), (.v (.int .u8 0)), (.v (.int .u8 0)), (.v (.int .u8 0)), (.v (.int .u8 0))])),
 ⟨none, none, .m (.st true 8 (.t 7) (.t 10))⟩])
 (.seq (.reg [(Iq 11 (.mv (.t 1))),
 (Iq 12 (.mkf 75 [(.t 3), (.t 7)])),
 (Ic 13 (.call 74 [(.t 11), (.t 12)])),
 (Iq 6 (.mv (.t 13)))])
 .ret)))⟩
theorem l_impl_shifted : lowF PA f_impl_shifted 3 [] = some c_impl_shifted := by kernel_rfl
abbrev f_slices_Concat___int64_int64_ : FuncId := 40
def c_slices_Concat___int64_int64_ : AF := ⟨1, 36, [.t 2],
 (.seq (.reg [(Iq 2 (.mv (.c (.slice none 0 0))))])
 (.seq (.reg [(Iq 3 (.mv (.c (.int .i64 0))))])
 (.seq (.seq (.reg [(Iq 9 (.mv (.t 0))),
 (Iq 10 (.len (.t 9))),
 (Iq 11 (.mv (.c (.int .i64 0))))])
 (.block 0 (.loop [0, 3, 9, 10, 11] (.seq (.reg [(Iq 12 (.bin .lss (.t 11) (.t 10)))])
 (.seq (.cond (.t 12)
 .skip
 (.exit 0))
 (.seq (.block 1 (.seq (.reg [(Iq 13 (.ixs 1 (.t 9) (.t 11))),
 (Iq 14 (.ld false 1 (.t 13))),
 (Iq 5 (.mv (.t 14)))])
 (.seq (.reg [(Iq 15 (.mv (.t 3))),
 (Iq 16 (.mv (.t 5))),
 (Iq 17 (.len (.t 16))),
 (Iq 18 (.bin .add (.t 15) (.t 17))),
 (Iq 3 (.mv (.t 18)))])
 (.seq (.reg [(Iq 19 (.mv (.t 3))),
 (Iq 20 (.bin .lss (.t 19) (.c (.int .i64 0))))])
 (.cond (.t 20)
 .bad
 .skip)))))
 (.reg [(Iq 22 (.bin .add (.t 11) (.c (.int .i64 1)))),
 (Iq 11 (.mv (.t 22)))])))))))
 (.seq (.reg [(Iq 23 (.mv (.t 3))),
 (Ic 24 (.call 78 [(.c (.slice none 0 0)), (.t 23)])),
 (Iq 6 (.mv (.t 24)))])
 (.seq (.seq (.reg [(Iq 25 (.mv (.t 0))),
 (Iq 26 (.len (.t 25))),
 (Iq 27 (.mv (.c (.int .i64 0))))])
 (.block 2 (.loop [6, 25, 26, 27] (.seq (.reg [(Iq 28 (.bin .lss (.t 27) (.t 26)))])
 (.seq (.cond (.t 28)
 .skip
 (.exit 2))
 (.seq (.block 3 (.seq (.reg [(Iq 29 (.ixs 1 (.t 25) (.t 27))),
 (Iq 30 (.ld false 1 (.t 29))),
 (Iq 8 (.mv (.t 30)))])
 (.reg [(Iq 31 (.mv (.t 6))),
 (Iq 32 (.mv (.t 8))),
 (Im 33 (.app 1 8 (.t 31) (.t 32))),
 (Iq 6 (.mv (.t 33)))])))
 (.reg [(Iq 34 (.bin .add (.t 27) (.c (.int .i64 1)))),
 (Iq 27 (.mv (.t 34)))])))))))
 (.seq (.reg [(Iq 35 (.mv (.t 6))),
 (Iq 2 (.mv (.t 35)))])
 .ret))))))⟩
theorem l_slices_Concat___int64_int64_ : lowF PA f_slices_Concat___int64_int64_ 1 [.k [0, 3, 9, 10, 11], .x 7, .k [6, 25, 26, 27]] = some c_slices_Concat___int64_int64_ := by kernel_rfl
abbrev f_slices_Sort___int64_int64_ : FuncId := 41
def c_slices_Sort___int64_int64_ : AF := ⟨1, 11, [],
 (.seq (.reg [(Iq 3 (.mv (.t 0))),
 (Iq 4 (.len (.t 3))),
 (Iq 2 (.mv (.t 4)))])
 (.reg [(Iq 5 (.mv (.t 0))),
 (Iq 6 (.mv (.t 2))),
 (Iq 7 (.mv (.t 2))),
 (Iq 8 (.cvt .u64 (.t 7))),
 (Ic 9 (.call 80 [(.t 8)])),
 (Ic 10 (.call 79 [(.t 5), (.c (.int .i64 0)), (.t 6), (.t 9)]))]))⟩
theorem l_slices_Sort___int64_int64_ : lowF PA f_slices_Sort___int64_int64_ 1 [] = some c_slices_Sort___int64_int64_ := by kernel_rfl
abbrev f_spec_l05Words : FuncId := 42
def c_spec_l05Words : AF := ⟨2, 21, [.t 4],
 (.seq (.reg [(Im 2 (.box (.t 0))),
 (Iq 4 (.mv (.c (.int .i64 0))))])
 (.seq (.reg [(Iq 6 (.ld true 1 (.t 2))),
 (Iq 7 (.mv (.t 1))),
 (Ic 8 (.call 67 [(.t 6), (.t 7)])),
 (Iq 5 (.mv (.t 8)))])
 (.seq (.block 0 (.seq (.reg [(Iq 10 (.mv (.t 5))),
 (Iq 11 (.bin .neq (.t 10) (.c (.int .i64 0)))),
 (Iq 9 (.mv (.t 11)))])
 (.cond (.t 9)
 (.seq (.reg [(Iq 12 (.mv (.t 5))),
 (Iq 4 (.mv (.t 12)))])
 .ret)
 (.seq (.reg [(Iq 14 (.mv (.t 1))),
 (Iq 15 (.len (.t 14))),
 (Iq 16 (.bin .gtr (.t 15) (.c (.int .i64 20)))),
 (Iq 13 (.mv (.t 16)))])
 (.cond (.t 13)
 (.seq (.reg [(Iq 4 (.mv (.c (.int .i64 2))))])
 .ret)
 (.seq (.reg [(Iq 18 (.ld true 1 (.t 2))),
 (Ic 19 (.call 47 [(.t 18)])),
 (Iq 20 (.un .not (.t 19))),
 (Iq 17 (.mv (.t 20)))])
 (.cond (.t 17)
 (.seq (.reg [(Iq 4 (.mv (.c (.int .i64 5))))])
 .ret)
 .skip)))))))
 (.seq (.reg [(Iq 4 (.mv (.c (.int .i64 0))))])
 .ret))))⟩
theorem l_spec_l05Words : lowF PA f_spec_l05Words 2 [] = some c_spec_l05Words := by kernel_rfl
abbrev f_spec_l05Span : FuncId := 43
def c_spec_l05Span : AF := ⟨2, 67, [.t 4],
 (.seq (.reg [(Im 2 (.box (.t 0))),
 (Iq 4 (.mv (.c (.slice none 0 0))))])
 (.seq (.reg [(Im 12 (.bsl 1 [(.c (.int .i64 0))])),
 (Iq 5 (.mv (.t 12)))])
 (.seq (.seq (.reg [(Iq 13 (.mv (.t 1))),
 (Iq 14 (.len (.t 13))),
 (Iq 15 (.mv (.c (.int .i64 0))))])
 (.block 0 (.loop [1, 2, 5, 14, 15] (.seq (.reg [(Iq 16 (.bin .lss (.t 15) (.t 14)))])
 (.seq (.cond (.t 16)
 .skip
 (.exit 0))
 (.seq (.block 1 (.seq (.reg [(Iq 17 (.mv (.t 15))),
 (Iq 6 (.mv (.t 17)))])
 (.seq (.seq (.reg [(Iq 18 (.mv (.t 5))),
 (Iq 19 (.mv (.t 1))),
 (Iq 20 (.mv (.t 6))),
 (Iq 21 (.ixs 1 (.t 19) (.t 20))),
 (Iq 22 (.ld false 1 (.t 21))),
 (Ic 23 (.call 81 [(.t 18), (.t 22)]))])
 (.cond (.t 23)
 (.exit 1)
 .skip))
 (.seq (.reg [(Iq 24 (.mv (.t 5))),
 (Ic 25 (.call 70 [(.t 24)])),
 (Iq 7 (.mv (.t 25))),
 (Iq 8 (.mv (.c (.int .i64 0))))])
 (.seq (.seq (.reg [(Iq 9 (.mv (.c (.int .i64 1))))])
 (.block 2 (.loop [1, 2, 5, 6, 7, 8, 9, 14, 15] (.seq (.seq (.reg [(Iq 26 (.mv (.t 9))),
 (Iq 27 (.fad 0 (.t 2))),
 (Iq 28 (.ld false 1 (.t 27))),
 (Iq 29 (.ixs 1 (.t 28) (.c (.int .i64 0)))),
 (Iq 30 (.ld false 1 (.t 29))),
 (Iq 31 (.bin .lss (.t 26) (.t 30)))])
 (.cond (.t 31)
 .skip
 (.exit 2)))
 (.seq (.block 3 (.seq (.sch (.take 0 (Iq 34 (.ld true 1 (.t 2))) (.take 1 (Iq 35 (.mv (.t 8))) (.take 2 (Iq 36 (.mv (.t 1))) (.take 3 (Iq 37 (.mv (.t 6))) (.take 4 (Iq 38 (.ixs 1 (.t 36) (.t 37))) (.take 5 (Iq 39 (.ld false 1 (.t 38))) (.one (Ic 40 (.call 82 [(.t 34), (.t 35), (.t 39)])) [5, 0] (.take 7 (Iq 8 (.mv (.t 40))) .done)))))))))
 (.reg [(Iq 41 (.mv (.t 7))),
 (Iq 42 (.ld true 1 (.t 2))),
 (Iq 43 (.mv (.t 5))),
 (Iq 44 (.mv (.t 8))),
 (Ic 45 (.call 83 [(.t 42), (.t 43), (.t 44)])),
 (Im 46 (.app 1 8 (.t 41) (.t 45))),
 (Iq 7 (.mv (.t 46)))])))
 (.reg [(Iq 32 (.mv (.t 9))),
 (Iq 33 (.bin .add (.t 32) (.c (.int .i64 1)))),
 (Iq 9 (.mv (.t 33)))]))))))
 (.seq (.reg [(Im 47 (.bsl 1 [])),
 (Iq 5 (.mv (.t 47)))])
 (.seq (.reg [(Iq 48 (.ld true 1 (.t 2))),
 (Iq 49 (.mv (.t 7))),
 (Ic 50 (.call 84 [(.t 48), (.t 49)])),
 (Iq 10 (.mv (.t 50)))])
 (.seq (.reg [(Iq 51 (.mv (.t 10))),
 (Iq 52 (.len (.t 51))),
 (Iq 53 (.mv (.c (.int .i64 0))))])
 (.block 4 (.loop [1, 2, 5, 10, 14, 15, 52, 53] (.seq (.reg [(Iq 54 (.bin .lss (.t 53) (.t 52)))])
 (.seq (.cond (.t 54)
 .skip
 (.exit 4))
 (.seq (.block 5 (.seq (.reg [(Iq 55 (.mv (.t 53))),
 (Iq 11 (.mv (.t 55)))])
 (.seq (.reg [(Iq 56 (.mv (.t 10))),
 (Iq 57 (.mv (.t 11))),
 (Iq 58 (.ixs 1 (.t 56) (.t 57))),
 (Iq 59 (.ld false 1 (.t 58)))])
 (.cond (.t 59)
 (.reg [(Iq 60 (.mv (.t 5))),
 (Iq 61 (.mv (.t 11))),
 (Im 62 (.bsl 1 [(.t 61)])),
 (Im 63 (.app 1 8 (.t 60) (.t 62))),
 (Iq 5 (.mv (.t 63)))])
 .skip))))
 (.reg [(Iq 64 (.bin .add (.t 53) (.c (.int .i64 1)))),
 (Iq 53 (.mv (.t 64)))]))))))))))))))
 (.reg [(Iq 65 (.bin .add (.t 15) (.c (.int .i64 1)))),
 (Iq 15 (.mv (.t 65)))])))))))
 (.seq (.reg [(Iq 66 (.mv (.t 5))),
 (Iq 4 (.mv (.t 66)))])
 .ret))))⟩
theorem l_spec_l05Span : lowF PA f_spec_l05Span 2 [.k [1, 2, 5, 14, 15], .k [1, 2, 5, 6, 7, 8, 9, 14, 15], .s (.take 0 (.take 1 (.take 2 (.take 3 (.take 4 (.take 5 (.one 6 (.take 7 .done)))))))), .k [1, 2, 5, 10, 14, 15, 52, 53]] = some c_spec_l05Span := by kernel_rfl
abbrev f_impl_IsSpace : FuncId := 44
def c_impl_IsSpace : AF := ⟨1, 35, [.t 2],
 (.seq (.reg [(Im 1 (.box (.t 0))),
 (Iq 2 (.mv (.c (.bool false))))])
 (.seq (.seq (.reg [(Iq 6 (.fad 0 (.t 1))),
 (Iq 7 (.ld false 1 (.t 6))),
 (Iq 8 (.len (.t 7))),
 (Iq 9 (.bin .lss (.t 8) (.c (.int .i64 1)))),
 (Iq 10 (.mv (.t 9))),
 ⟨(some 11), (some (10, false)), .q (.fad 0 (.t 1))⟩,
 ⟨(some 12), (some (10, false)), .q (.ld false 1 (.t 11))⟩,
 ⟨(some 13), (some (10, false)), .q (.len (.t 12))⟩,
 ⟨(some 14), (some (10, false)), .q (.bin .gtr (.t 13) (.c (.int .i64 8)))⟩,
 (Iq 15 (.pick (.t 10) (.c (.bool true)) (.t 14)))])
 (.cond (.t 15)
 (.seq (.reg [(Iq 2 (.mv (.c (.bool false))))])
 .ret)
 .skip))
 (.seq (.reg [(Iq 3 (.mv (.c (.int .i64 1))))])
 (.seq (.seq (.reg [(Iq 16 (.fad 0 (.t 1))),
 (Iq 17 (.ld false 1 (.t 16))),
 (Iq 18 (.len (.t 17))),
 (Iq 19 (.mv (.c (.int .i64 0))))])
 (.block 0 (.loop [3, 17, 18, 19] (.seq (.reg [(Iq 20 (.bin .lss (.t 19) (.t 18)))])
 (.seq (.cond (.t 20)
 .skip
 (.exit 0))
 (.seq (.block 1 (.seq (.reg [(Iq 21 (.ixs 1 (.t 17) (.t 19))),
 (Iq 22 (.ld false 1 (.t 21))),
 (Iq 5 (.mv (.t 22)))])
 (.seq (.seq (.reg [(Iq 23 (.mv (.t 5))),
 (Iq 24 (.bin .lss (.t 23) (.c (.int .i64 2)))),
 (Iq 25 (.mv (.t 24))),
 ⟨(some 26), (some (25, false)), .q (.mv (.t 5))⟩,
 ⟨(some 27), (some (25, false)), .q (.bin .gtr (.t 26) (.c (.int .i64 4)))⟩,
 (Iq 28 (.pick (.t 25) (.c (.bool true)) (.t 27)))])
 (.cond (.t 28)
 (.seq (.reg [(Iq 2 (.mv (.c (.bool false))))])
 .ret)
 .skip))
 (.reg [(Iq 29 (.mv (.t 3))),
 (Iq 30 (.mv (.t 5))),
 (Iq 31 (.bin .mul (.t 29) (.t 30))),
 (Iq 3 (.mv (.t 31)))]))))
 (.reg [(Iq 32 (.bin .add (.t 19) (.c (.int .i64 1)))),
 (Iq 19 (.mv (.t 32)))])))))))
 (.seq (.reg [(Iq 33 (.mv (.t 3))),
 (Iq 34 (.bin .leq (.t 33) (.c (.int .i64 1024)))),
 (Iq 2 (.mv (.t 34)))])
 .ret)))))⟩
theorem l_impl_IsSpace : lowF PA f_impl_IsSpace 1 [.k [3, 17, 18, 19]] = some c_impl_IsSpace := by kernel_rfl
abbrev f_impl_isPlain : FuncId := 45
def c_impl_isPlain : AF := ⟨1, 17, [.t 2],
 (.seq (.reg [(Im 1 (.box (.t 0))),
 (Iq 2 (.mv (.c (.bool false))))])
 (.seq (.reg [(Iq 4 (.fad 0 (.t 1))),
 (Iq 5 (.ld false 1 (.t 4))),
 (Iq 6 (.ixs 1 (.t 5) (.c (.int .i64 0)))),
 (Iq 7 (.ld false 1 (.t 6))),
 (Im 3 (.alloc [(.v (.int .i64 0))])),
 ⟨none, none, .m (.st false 1 (.t 3) (.t 7))⟩])
 (.seq (.reg [(Iq 8 (.ld false 1 (.t 3))),
 (Iq 9 (.bin .leq (.t 8) (.c (.int .i64 3)))),
 (Iq 10 (.mv (.t 9))),
 ⟨(some 11), (some (10, true)), .q (.fad 0 (.t 1))⟩,
 ⟨(some 12), (some (10, true)), .q (.ld false 1 (.t 11))⟩,
 ⟨(some 13), (some (10, true)), .q (.mkf 86 [(.t 3)])⟩,
 ⟨(some 14), (some (10, true)), .c (.call 85 [(.t 12), (.t 13)])⟩,
 ⟨(some 15), (some (10, true)), .q (.un .not (.t 14))⟩,
 (Iq 16 (.pick (.t 10) (.t 15) (.c (.bool false)))),
 (Iq 2 (.mv (.t 16)))])
 .ret)))⟩
theorem l_impl_isPlain : lowF PA f_impl_isPlain 1 [] = some c_impl_isPlain := by kernel_rfl
abbrev f_spec_l01Is : FuncId := 46
def c_spec_l01Is : AF := ⟨1, 26, [.t 2],
 (.seq (.reg [(Im 1 (.box (.t 0))),
 (Iq 2 (.mv (.c (.bool false))))])
 (.seq (.seq (.reg [(Iq 4 (.fad 0 (.t 1))),
 (Iq 5 (.ld false 1 (.t 4))),
 (Iq 6 (.len (.t 5))),
 (Ic 7 (.call 87 [(.t 6), (.c (.int .i64 1)), (.c (.int .i64 8))])),
 (Iq 8 (.un .not (.t 7)))])
 (.cond (.t 8)
 (.seq (.reg [(Iq 2 (.mv (.c (.bool false))))])
 .ret)
 .skip))
 (.seq (.seq (.reg [(Iq 3 (.mv (.c (.int .i64 0))))])
 (.block 0 (.loop [1, 3] (.seq (.seq (.reg [(Iq 9 (.mv (.t 3))),
 (Iq 10 (.fad 0 (.t 1))),
 (Iq 11 (.ld false 1 (.t 10))),
 (Iq 12 (.len (.t 11))),
 (Iq 13 (.bin .lss (.t 9) (.t 12)))])
 (.cond (.t 13)
 .skip
 (.exit 0)))
 (.seq (.block 1 (.seq (.reg [(Iq 16 (.fad 0 (.t 1))),
 (Iq 17 (.ld false 1 (.t 16))),
 (Iq 18 (.mv (.t 3))),
 (Iq 19 (.ixs 1 (.t 17) (.t 18))),
 (Iq 20 (.ld false 1 (.t 19))),
 (Ic 21 (.call 87 [(.t 20), (.c (.int .i64 2)), (.c (.int .i64 4))])),
 (Iq 22 (.un .not (.t 21)))])
 (.cond (.t 22)
 (.seq (.reg [(Iq 2 (.mv (.c (.bool false))))])
 .ret)
 .skip)))
 (.reg [(Iq 14 (.mv (.t 3))),
 (Iq 15 (.bin .add (.t 14) (.c (.int .i64 1)))),
 (Iq 3 (.mv (.t 15)))]))))))
 (.seq (.reg [(Iq 23 (.ld true 1 (.t 1))),
 (Ic 24 (.call 35 [(.t 23)])),
 (Iq 25 (.bin .leq (.t 24) (.c (.int .i64 1024)))),
 (Iq 2 (.mv (.t 25)))])
 .ret))))⟩
theorem l_spec_l01Is : lowF PA f_spec_l01Is 1 [.k [1, 3]] = some c_spec_l01Is := by kernel_rfl
abbrev f_spec_l05Plain : FuncId := 47
def c_spec_l05Plain : AF := ⟨1, 29, [.t 2],
 (.seq (.reg [(Im 1 (.box (.t 0))),
 (Iq 2 (.mv (.c (.bool false))))])
 (.seq (.seq (.reg [(Iq 4 (.fad 0 (.t 1))),
 (Iq 5 (.ld false 1 (.t 4))),
 (Iq 6 (.len (.t 5))),
 (Iq 7 (.mv (.c (.int .i64 0))))])
 (.block 0 (.loop [1, 6, 7] (.seq (.reg [(Iq 8 (.bin .lss (.t 7) (.t 6)))])
 (.seq (.cond (.t 8)
 .skip
 (.exit 0))
 (.seq (.block 1 (.seq (.reg [(Iq 9 (.mv (.t 7))),
 (Iq 3 (.mv (.t 9)))])
 (.seq (.sch (.take 0 (Iq 10 (.fad 0 (.t 1))) (.take 1 (Iq 11 (.ld false 1 (.t 10))) (.take 2 (Iq 12 (.mv (.t 3))) (.take 3 (Iq 13 (.ixs 1 (.t 11) (.t 12))) (.take 4 (Iq 14 (.ld false 1 (.t 13))) (.take 5 (Iq 15 (.fad 0 (.t 1))) (.take 6 (Iq 16 (.ld false 1 (.t 15))) (.take 7 (Iq 17 (.ixs 1 (.t 16) (.c (.int .i64 0)))) (.take 8 (Iq 18 (.ld false 1 (.t 17))) (.take 9 (Iq 19 (.bin .neq (.t 14) (.t 18))) (.take 10 (Iq 20 (.mv (.t 19))) (.take 11 ⟨(some 21), (some (20, false)), .q (.fad 0 (.t 1))⟩ (.take 12 ⟨(some 22), (some (20, false)), .q (.ld false 1 (.t 21))⟩ (.take 13 ⟨(some 23), (some (20, false)), .q (.mv (.t 3))⟩ (.take 14 ⟨(some 24), (some (20, false)), .q (.ixs 1 (.t 22) (.t 23))⟩ (.take 15 ⟨(some 25), (some (20, false)), .q (.ld false 1 (.t 24))⟩ (.take 16 ⟨(some 26), (some (20, false)), .q (.bin .gtr (.t 25) (.c (.int .i64 3)))⟩ (.take 17 (Iq 27 (.pick (.t 20) (.c (.bool true)) (.t 26))) .done)))))))))))))))))))
 (.cond (.t 27)
 (.seq (.reg [(Iq 2 (.mv (.c (.bool false))))])
 .ret)
 .skip))))
 (.reg [(Iq 28 (.bin .add (.t 7) (.c (.int .i64 1)))),
 (Iq 7 (.mv (.t 28)))])))))))
 (.seq (.reg [(Iq 2 (.mv (.c (.bool true))))])
 .ret)))⟩
theorem l_spec_l05Plain : lowF PA f_spec_l05Plain 1 [.k [1, 6, 7], .s (.take 0 (.take 1 (.take 2 (.take 3 (.take 4 (.take 5 (.take 6 (.take 7 (.take 8 (.take 9 (.take 10 (.take 11 (.take 12 (.take 13 (.take 14 (.take 15 (.take 16 (.take 17 .done))))))))))))))))))] = some c_spec_l05Plain := by kernel_rfl
abbrev f_impl_codeCode : FuncId := 48
def c_impl_codeCode : AF := ⟨3, 18, [.t 6],
 (.seq (.reg [(Im 3 (.box (.t 0))),
 (Iq 6 (.mv (.c (.int .i64 0))))])
 (.seq (.seq (.reg [(Iq 8 (.ld true 1 (.t 3))),
 (Iq 9 (.mv (.t 2))),
 (Ic 10 (.call 88 [(.t 8), (.t 9)])),
 (Iq 7 (.mv (.t 10)))])
 (.seq (.reg [(Iq 11 (.mv (.t 7))),
 (Iq 12 (.bin .neq (.t 11) (.c (.int .i64 0))))])
 (.cond (.t 12)
 (.seq (.reg [(Iq 13 (.mv (.t 7))),
 (Iq 6 (.mv (.t 13)))])
 .ret)
 .skip)))
 (.seq (.seq (.reg [(Iq 14 (.ld true 1 (.t 3))),
 (Iq 15 (.mv (.t 1))),
 (Ic 16 (.call 89 [(.t 14), (.t 15)])),
 (Iq 17 (.un .not (.t 16)))])
 (.cond (.t 17)
 (.seq (.reg [(Iq 6 (.mv (.c (.int .i64 2))))])
 .ret)
 .skip))
 (.seq (.reg [(Iq 6 (.mv (.c (.int .i64 0))))])
 .ret))))⟩
theorem l_impl_codeCode : lowF PA f_impl_codeCode 3 [] = some c_impl_codeCode := by kernel_rfl
abbrev f_impl_isLinear : FuncId := 49
def c_impl_isLinear : AF := ⟨2, 54, [.t 4],
 (.seq (.reg [(Im 2 (.box (.t 0))),
 (Iq 4 (.mv (.c (.bool false))))])
 (.seq (.reg [(Iq 11 (.ld true 1 (.t 2))),
 (Iq 12 (.mv (.t 1))),
 (Ic 13 (.call 90 [(.t 11), (.t 12)])),
 (Iq 5 (.mv (.t 13)))])
 (.seq (.seq (.reg [(Iq 14 (.ld true 1 (.t 2))),
 (Ic 15 (.call 45 [(.t 14)])),
 (Iq 16 (.un .not (.t 15))),
 (Iq 17 (.mv (.t 16))),
 ⟨(some 18), (some (17, false)), .q (.mv (.t 5))⟩,
 ⟨(some 19), (some (17, false)), .q (.ixs 1 (.t 18) (.c (.int .i64 0)))⟩,
 ⟨(some 20), (some (17, false)), .q (.ld false 1 (.t 19))⟩,
 ⟨(some 21), (some (17, false)), .q (.un .not (.t 20))⟩,
 (Iq 22 (.pick (.t 17) (.c (.bool true)) (.t 21)))])
 (.cond (.t 22)
 (.seq (.reg [(Iq 4 (.mv (.c (.bool false))))])
 .ret)
 .skip))
 (.seq (.reg [(Iq 23 (.ld true 1 (.t 2))),
 (Iq 24 (.mv (.t 1))),
 (Ic 25 (.call 55 [(.t 23), (.t 24)])),
 (Iq 6 (.mv (.t 25)))])
 (.seq (.seq (.reg [(Iq 26 (.mv (.t 6))),
 (Iq 27 (.len (.t 26))),
 (Iq 28 (.mv (.c (.int .i64 0))))])
 (.block 0 (.loop [2, 5, 6, 26, 27, 28] (.seq (.reg [(Iq 29 (.bin .lss (.t 28) (.t 27)))])
 (.seq (.cond (.t 29)
 .skip
 (.exit 0))
 (.seq (.block 1 (.seq (.reg [(Iq 30 (.mv (.t 28))),
 (Iq 31 (.ixs 8 (.t 26) (.t 28))),
 (Iq 32 (.ld true 8 (.t 31))),
 (Im 8 (.alloc [(.v (.int .u8 0)), (.v (.int .u8 0)), (.v (.int .u8 0)), (.v (.int .u8 0)), (.v (.int .u8 0)), (.v (.int .u8 0)), (.v (.int .u8 0)), (.v (.int .u8 0))])),
 (Iq 7 (.mv (.t 30))),
 ⟨none, none, .m (.st true 8 (.t 8) (.t 32))⟩])
 (.seq (.reg [(Iq 33 (.mv (.t 6))),
 (Iq 34 (.mv (.t 7))),
 (Iq 35 (.bin .add (.t 34) (.c (.int .i64 1)))),
 (Iq 36 (.slc 8 (.t 33) none (some (.t 35)))),
 (Iq 37 (.len (.t 36))),
 (Iq 38 (.mv (.c (.int .i64 0))))])
 (.block 2 (.loop [2, 5, 6, 8, 26, 27, 28, 36, 37, 38] (.seq (.reg [(Iq 39 (.bin .lss (.t 38) (.t 37)))])
 (.seq (.cond (.t 39)
 .skip
 (.exit 2))
 (.seq (.block 3 (.seq (.reg [(Iq 40 (.ixs 8 (.t 36) (.t 38))),
 (Iq 41 (.ld true 8 (.t 40))),
 (Im 10 (.alloc [(.v (.int .u8 0)), (.v (.int .u8 0)), (.v (.int .u8 0)), (.v (.int .u8 0)), (.v (.int .u8 0)), (.v (.int .u8 0)), (.v (.int .u8 0)), (.v (.int .u8 0))])),
 ⟨none, none, .m (.st true 8 (.t 10) (.t 41))⟩])
 (.seq (.sch (.take 0 (Iq 42 (.mv (.t 5))) (.take 1 (Iq 43 (.ld true 1 (.t 2))) (.take 2 (Iq 44 (.ld true 1 (.t 2))) (.take 3 (Iq 45 (.ld true 8 (.t 8))) (.take 4 (Iq 46 (.ld true 8 (.t 10))) (.one (Ic 47 (.call 77 [(.t 44), (.t 45), (.t 46)])) [4, 3, 2] (.one (Ic 48 (.call 76 [(.t 43), (.t 47)])) [1] (.take 7 (Iq 49 (.ixs 1 (.t 42) (.t 48))) (.take 8 (Iq 50 (.ld false 1 (.t 49))) (.take 9 (Iq 51 (.un .not (.t 50))) .done)))))))))))
 (.cond (.t 51)
 (.seq (.reg [(Iq 4 (.mv (.c (.bool false))))])
 .ret)
 .skip))))
 (.reg [(Iq 52 (.bin .add (.t 38) (.c (.int .i64 1)))),
 (Iq 38 (.mv (.t 52)))])))))))))
 (.reg [(Iq 53 (.bin .add (.t 28) (.c (.int .i64 1)))),
 (Iq 28 (.mv (.t 53)))])))))))
 (.seq (.reg [(Iq 4 (.mv (.c (.bool true))))])
 .ret))))))⟩
theorem l_impl_isLinear : lowF PA f_impl_isLinear 2 [.k [2, 5, 6, 26, 27, 28], .k [2, 5, 6, 8, 26, 27, 28, 36, 37, 38], .s (.take 0 (.take 1 (.take 2 (.take 3 (.take 4 (.one 5 (.one 6 (.take 7 (.take 8 (.take 9 .done))))))))))] = some c_impl_isLinear := by kernel_rfl
abbrev f_impl_linearCode : FuncId := 50
def c_impl_linearCode : AF := ⟨3, 19, [.t 6],
 (.seq (.reg [(Im 3 (.box (.t 0))),
 (Iq 6 (.mv (.c (.int .i64 0))))])
 (.seq (.seq (.reg [(Iq 8 (.ld true 1 (.t 3))),
 (Iq 9 (.mv (.t 1))),
 (Iq 10 (.mv (.t 2))),
 (Ic 11 (.call 48 [(.t 8), (.t 9), (.t 10)])),
 (Iq 7 (.mv (.t 11)))])
 (.seq (.reg [(Iq 12 (.mv (.t 7))),
 (Iq 13 (.bin .neq (.t 12) (.c (.int .i64 0))))])
 (.cond (.t 13)
 (.seq (.reg [(Iq 14 (.mv (.t 7))),
 (Iq 6 (.mv (.t 14)))])
 .ret)
 .skip)))
 (.seq (.seq (.reg [(Iq 15 (.ld true 1 (.t 3))),
 (Iq 16 (.mv (.t 1))),
 (Ic 17 (.call 49 [(.t 15), (.t 16)])),
 (Iq 18 (.un .not (.t 17)))])
 (.cond (.t 18)
 (.seq (.reg [(Iq 6 (.mv (.c (.int .i64 5))))])
 .ret)
 .skip))
 (.seq (.reg [(Iq 6 (.mv (.c (.int .i64 0))))])
 .ret))))⟩
theorem l_impl_linearCode : lowF PA f_impl_linearCode 3 [] = some c_impl_linearCode := by kernel_rfl
abbrev f_impl_dual : FuncId := 51
def c_impl_dual : AF := ⟨2, 14, [.t 4],
 (.seq (.reg [(Im 2 (.box (.t 0))),
 (Iq 4 (.mv (.c (.slice none 0 0))))])
 (.seq (.sch (.take 0 (Iq 6 (.ld true 1 (.t 2))) (.take 1 (Iq 7 (.ld true 1 (.t 2))) (.take 2 (Iq 8 (.mv (.t 1))) (.two (Ic 9 (.call 52 [(.t 7), (.t 8)])) [1] (.two (Ic 10 (.call 55 [(.t 6), (.t 9)])) [0] (.one (Im 5 (.alloc [(.v (.slice none 0 0))])) [] (.one ⟨none, none, .m (.st false 1 (.t 5) (.t 10))⟩ [1, 0] .done)) (Im 5 (.alloc [(.v (.slice none 0 0))])) [] (.one (Ic 10 (.call 55 [(.t 6), (.t 9)])) [0] (.one ⟨none, none, .m (.st false 1 (.t 5) (.t 10))⟩ [1, 0] .done))) (Im 5 (.alloc [(.v (.slice none 0 0))])) [] (.one (Ic 9 (.call 52 [(.t 7), (.t 8)])) [1] (.one (Ic 10 (.call 55 [(.t 6), (.t 9)])) [0] (.one ⟨none, none, .m (.st false 1 (.t 5) (.t 10))⟩ [1, 0] .done))))))))
 (.seq (.reg [(Iq 11 (.ld true 1 (.t 2))),
 (Iq 12 (.mkf 92 [(.t 5), (.t 2)])),
 (Ic 13 (.call 91 [(.t 11), (.t 12)])),
 (Iq 4 (.mv (.t 13)))])
 .ret)))⟩
theorem l_impl_dual : lowF PA f_impl_dual 2 [.s (.take 0 (.take 1 (.take 2 (.two 3 (.two 4 (.one 5 (.one 6 .done)) 5 (.one 4 (.one 6 .done))) 5 (.one 3 (.one 4 (.one 6 .done)))))))] = some c_impl_dual := by kernel_rfl
abbrev f_impl_basis : FuncId := 52
def c_impl_basis : AF := ⟨2, 91, [.t 4],
 (.seq (.reg [(Im 2 (.box (.t 0))),
 (Iq 4 (.mv (.c (.slice none 0 0))))])
 (.seq (.reg [(Iq 18 (.bld [(.v (.bool false)), (.v (.bool false)), (.v (.bool false)), (.v (.bool false)), (.v (.bool false)), (.v (.bool false)), (.v (.bool false)), (.v (.bool false))] [])),
 (Im 5 (.alloc [(.v (.bool false)), (.v (.bool false)), (.v (.bool false)), (.v (.bool false)), (.v (.bool false)), (.v (.bool false)), (.v (.bool false)), (.v (.bool false))])),
 ⟨none, none, .m (.st true 8 (.t 5) (.t 18))⟩])
 (.seq (.seq (.reg [(Iq 19 (.ld true 1 (.t 2))),
 (Iq 20 (.mv (.t 1))),
 (Ic 21 (.call 55 [(.t 19), (.t 20)])),
 (Iq 22 (.len (.t 21))),
 (Iq 23 (.mv (.c (.int .i64 0))))])
 (.block 0 (.loop [1, 2, 5, 21, 22, 23] (.seq (.reg [(Iq 24 (.bin .lss (.t 23) (.t 22)))])
 (.seq (.cond (.t 24)
 .skip
 (.exit 0))
 (.seq (.block 1 (.seq (.reg [(Iq 25 (.ixs 8 (.t 21) (.t 23))),
 (Iq 26 (.ld true 8 (.t 25))),
 (Im 7 (.alloc [(.v (.int .u8 0)), (.v (.int .u8 0)), (.v (.int .u8 0)), (.v (.int .u8 0)), (.v (.int .u8 0)), (.v (.int .u8 0)), (.v (.int .u8 0)), (.v (.int .u8 0))])),
 ⟨none, none, .m (.st true 8 (.t 7) (.t 26))⟩])
 (.seq (.reg [(Iq 27 (.ld true 8 (.t 7))),
 (Ic 28 (.call 95 [(.t 27)])),
 (Iq 8 (.mv (.t 28)))])
 (.seq (.reg [(Iq 29 (.mv (.t 8))),
 (Iq 30 (.bin .geq (.t 29) (.c (.int .i64 0))))])
 (.cond (.t 30)
 (.reg [(Iq 31 (.mv (.t 8))),
 (Iq 32 (.ixa 8 1 (.t 5) (.t 31))),
 ⟨none, none, .m (.st false 1 (.t 32) (.c (.bool true)))⟩])
 .skip)))))
 (.reg [(Iq 33 (.bin .add (.t 23) (.c (.int .i64 1)))),
 (Iq 23 (.mv (.t 33)))])))))))
 (.seq (.reg [(Im 34 (.bsl 1 [])),
 (Iq 9 (.mv (.t 34)))])
 (.seq (.seq (.reg [(Iq 35 (.ld true 8 (.t 5))),
 (Iq 36 (.mv (.c (.int .i64 0))))])
 (.block 2 (.loop [1, 2, 5, 9, 35, 36] (.seq (.reg [(Iq 37 (.bin .lss (.t 36) (.c (.int .i64 8))))])
 (.seq (.cond (.t 37)
 .skip
 (.exit 2))
 (.seq (.block 3 (.seq (.reg [(Iq 38 (.mv (.t 36))),
 (Iq 39 (.ixv 8 (.t 35) (.t 36))),
 (Iq 10 (.mv (.t 38))),
 (Iq 11 (.mv (.t 39)))])
 (.seq (.seq (.reg [(Iq 40 (.mv (.t 11))),
 (Iq 41 (.un .not (.t 40)))])
 (.cond (.t 41)
 (.exit 3)
 .skip))
 (.seq (.reg [(Iq 42 (.mv (.t 1))),
 (Iq 43 (.len (.t 42))),
 (Iq 44 (.mv (.c (.int .i64 0))))])
 (.block 4 (.loop [1, 2, 5, 9, 10, 35, 36, 42, 43, 44] (.seq (.reg [(Iq 45 (.bin .lss (.t 44) (.t 43)))])
 (.seq (.cond (.t 45)
 .skip
 (.exit 4))
 (.seq (.block 5 (.seq (.reg [(Iq 46 (.ixs 1 (.t 42) (.t 44))),
 (Iq 47 (.ld false 1 (.t 46))),
 (Iq 13 (.mv (.t 47)))])
 (.seq (.reg [(Iq 48 (.ld true 1 (.t 2))),
 (Iq 49 (.mv (.t 13))),
 (Ic 50 (.call 57 [(.t 48), (.t 49)])),
 (Im 14 (.alloc [(.v (.int .u8 0)), (.v (.int .u8 0)), (.v (.int .u8 0)), (.v (.int .u8 0)), (.v (.int .u8 0)), (.v (.int .u8 0)), (.v (.int .u8 0)), (.v (.int .u8 0))])),
 ⟨none, none, .m (.st true 8 (.t 14) (.t 50))⟩])
 (.seq (.reg [(Iq 51 (.ld true 8 (.t 14))),
 (Ic 52 (.call 95 [(.t 51)])),
 (Iq 53 (.mv (.t 10))),
 (Iq 54 (.bin .eql (.t 52) (.t 53))),
 (Iq 55 (.mv (.t 54))),
 ⟨(some 56), (some (55, true)), .q (.mv (.t 10))⟩,
 ⟨(some 57), (some (55, true)), .q (.ixa 8 1 (.t 14) (.t 56))⟩,
 ⟨(some 58), (some (55, true)), .q (.ld false 1 (.t 57))⟩,
 ⟨(some 59), (some (55, true)), .q (.bin .eql (.t 58) (.c (.int .u8 1)))⟩,
 (Iq 60 (.pick (.t 55) (.t 59) (.c (.bool false)))),
 (Iq 15 (.mv (.t 60)))])
 (.seq (.seq (.reg [(Iq 61 (.ld true 8 (.t 5))),
 (Iq 62 (.mv (.c (.int .i64 0))))])
 (.block 6 (.loop [1, 2, 5, 9, 10, 13, 14, 15, 35, 36, 42, 43, 44, 61, 62] (.seq (.reg [(Iq 63 (.bin .lss (.t 62) (.c (.int .i64 8))))])
 (.seq (.cond (.t 63)
 .skip
 (.exit 6))
 (.seq (.block 7 (.seq (.reg [(Iq 64 (.mv (.t 62))),
 (Iq 65 (.ixv 8 (.t 61) (.t 62))),
 (Iq 16 (.mv (.t 64))),
 (Iq 17 (.mv (.t 65)))])
 (.reg [(Iq 66 (.mv (.t 15))),
 (Iq 67 (.mv (.t 66))),
 ⟨(some 68), (some (67, true)), .q (.mv (.t 17))⟩,
 ⟨(some 69), (some (67, true)), .q (.un .not (.t 68))⟩,
 ⟨(some 70), (some (67, true)), .q (.mv (.t 69))⟩,
 ⟨(some 71), (some (70, false)), .q (.mv (.t 16))⟩,
 ⟨(some 72), (some (70, false)), .q (.mv (.t 10))⟩,
 ⟨(some 73), (some (70, false)), .q (.bin .eql (.t 71) (.t 72))⟩,
 ⟨(some 74), (some (67, true)), .q (.pick (.t 70) (.c (.bool true)) (.t 73))⟩,
 ⟨(some 75), (some (67, true)), .q (.mv (.t 74))⟩,
 ⟨(some 76), (some (75, false)), .q (.mv (.t 16))⟩,
 ⟨(some 77), (some (75, false)), .q (.ixa 8 1 (.t 14) (.t 76))⟩,
 ⟨(some 78), (some (75, false)), .q (.ld false 1 (.t 77))⟩,
 ⟨(some 79), (some (75, false)), .q (.bin .eql (.t 78) (.c (.int .u8 0)))⟩,
 ⟨(some 80), (some (67, true)), .q (.pick (.t 75) (.c (.bool true)) (.t 79))⟩,
 (Iq 81 (.pick (.t 67) (.t 80) (.c (.bool false)))),
 (Iq 15 (.mv (.t 81)))])))
 (.reg [(Iq 82 (.bin .add (.t 62) (.c (.int .i64 1)))),
 (Iq 62 (.mv (.t 82)))])))))))
 (.seq (.reg [(Iq 83 (.mv (.t 15)))])
 (.cond (.t 83)
 (.reg [(Iq 84 (.mv (.t 9))),
 (Iq 85 (.mv (.t 13))),
 (Im 86 (.bsl 1 [(.t 85)])),
 (Im 87 (.app 1 8 (.t 84) (.t 86))),
 (Iq 9 (.mv (.t 87)))])
 .skip)))))))
 (.reg [(Iq 88 (.bin .add (.t 44) (.c (.int .i64 1)))),
 (Iq 44 (.mv (.t 88)))]))))))))))
 (.reg [(Iq 89 (.bin .add (.t 36) (.c (.int .i64 1)))),
 (Iq 36 (.mv (.t 89)))])))))))
 (.seq (.reg [(Iq 90 (.mv (.t 9))),
 (Iq 4 (.mv (.t 90)))])
 .ret))))))⟩
theorem l_impl_basis : lowF PA f_impl_basis 2 [.k [1, 2, 5, 21, 22, 23], .k [1, 2, 5, 9, 35, 36], .k [1, 2, 5, 9, 10, 35, 36, 42, 43, 44], .k [1, 2, 5, 9, 10, 13, 14, 15, 35, 36, 42, 43, 44, 61, 62]] = some c_impl_basis := by kernel_rfl
abbrev f_impl_weightCounts : FuncId := 53
def c_impl_weightCounts : AF := ⟨2, 30, [.t 4],
 (.seq (.reg [(Im 2 (.box (.t 0))),
 (Iq 4 (.mv (.c (.slice none 0 0))))])
 (.seq (.reg [(Iq 8 (.ld true 1 (.t 2))),
 (Ic 9 (.call 96 [(.t 8)])),
 (Iq 10 (.bin .add (.t 9) (.c (.int .i64 1)))),
 (Im 11 (.mks 1 (.v (.int .i64 0)) 8 (.t 10) (.t 10))),
 (Iq 5 (.mv (.t 11)))])
 (.seq (.seq (.reg [(Iq 12 (.ld true 1 (.t 2))),
 (Iq 13 (.mv (.t 1))),
 (Ic 14 (.call 55 [(.t 12), (.t 13)])),
 (Iq 15 (.len (.t 14))),
 (Iq 16 (.mv (.c (.int .i64 0))))])
 (.block 0 (.loop [5, 14, 15, 16] (.seq (.reg [(Iq 17 (.bin .lss (.t 16) (.t 15)))])
 (.seq (.cond (.t 17)
 .skip
 (.exit 0))
 (.seq (.block 1 (.seq (.reg [(Iq 18 (.ixs 8 (.t 14) (.t 16))),
 (Iq 19 (.ld true 8 (.t 18))),
 (Im 7 (.alloc [(.v (.int .u8 0)), (.v (.int .u8 0)), (.v (.int .u8 0)), (.v (.int .u8 0)), (.v (.int .u8 0)), (.v (.int .u8 0)), (.v (.int .u8 0)), (.v (.int .u8 0))])),
 ⟨none, none, .m (.st true 8 (.t 7) (.t 19))⟩])
 (.reg [(Iq 20 (.mv (.t 5))),
 (Iq 21 (.ld true 8 (.t 7))),
 (Iq 22 (.bld [(.v (.int .u8 0)), (.v (.int .u8 0)), (.v (.int .u8 0)), (.v (.int .u8 0)), (.v (.int .u8 0)), (.v (.int .u8 0)), (.v (.int .u8 0)), (.v (.int .u8 0))] [])),
 (Ic 23 (.call 97 [(.t 21), (.t 22)])),
 (Iq 24 (.ixs 1 (.t 20) (.t 23))),
 (Iq 25 (.ld false 1 (.t 24))),
 (Iq 26 (.bin .add (.t 25) (.c (.int .i64 1)))),
 (Iq 27 (.ixs 1 (.t 20) (.t 23))),
 ⟨none, none, .m (.st false 1 (.t 27) (.t 26))⟩])))
 (.reg [(Iq 28 (.bin .add (.t 16) (.c (.int .i64 1)))),
 (Iq 16 (.mv (.t 28)))])))))))
 (.seq (.reg [(Iq 29 (.mv (.t 5))),
 (Iq 4 (.mv (.t 29)))])
 .ret))))⟩
theorem l_impl_weightCounts : lowF PA f_impl_weightCounts 2 [.k [5, 14, 15, 16]] = some c_impl_weightCounts := by kernel_rfl
abbrev f_impl_count : FuncId := 54
def c_impl_count : AF := ⟨1, 18, [.t 2],
 (.seq (.reg [(Im 1 (.box (.t 0))),
 (Iq 2 (.mv (.c (.int .i64 0))))])
 (.seq (.reg [(Iq 3 (.mv (.c (.int .i64 1))))])
 (.seq (.seq (.reg [(Iq 6 (.fad 0 (.t 1))),
 (Iq 7 (.ld false 1 (.t 6))),
 (Iq 8 (.len (.t 7))),
 (Iq 9 (.mv (.c (.int .i64 0))))])
 (.block 0 (.loop [3, 7, 8, 9] (.seq (.reg [(Iq 10 (.bin .lss (.t 9) (.t 8)))])
 (.seq (.cond (.t 10)
 .skip
 (.exit 0))
 (.seq (.block 1 (.seq (.reg [(Iq 11 (.ixs 1 (.t 7) (.t 9))),
 (Iq 12 (.ld false 1 (.t 11))),
 (Iq 5 (.mv (.t 12)))])
 (.reg [(Iq 13 (.mv (.t 3))),
 (Iq 14 (.mv (.t 5))),
 (Iq 15 (.bin .mul (.t 13) (.t 14))),
 (Iq 3 (.mv (.t 15)))])))
 (.reg [(Iq 16 (.bin .add (.t 9) (.c (.int .i64 1)))),
 (Iq 9 (.mv (.t 16)))])))))))
 (.seq (.reg [(Iq 17 (.mv (.t 3))),
 (Iq 2 (.mv (.t 17)))])
 .ret))))⟩
theorem l_impl_count : lowF PA f_impl_count 1 [.k [3, 7, 8, 9]] = some c_impl_count := by kernel_rfl
abbrev f_impl_digitsOfAll : FuncId := 55
def c_impl_digitsOfAll : AF := ⟨2, 23, [.t 4],
 (.seq (.reg [(Im 2 (.box (.t 0))),
 (Iq 4 (.mv (.c (.slice none 0 0))))])
 (.seq (.reg [(Im 8 (.bsl 8 [])),
 (Iq 5 (.mv (.t 8)))])
 (.seq (.seq (.reg [(Iq 9 (.mv (.t 1))),
 (Iq 10 (.len (.t 9))),
 (Iq 11 (.mv (.c (.int .i64 0))))])
 (.block 0 (.loop [2, 5, 9, 10, 11] (.seq (.reg [(Iq 12 (.bin .lss (.t 11) (.t 10)))])
 (.seq (.cond (.t 12)
 .skip
 (.exit 0))
 (.seq (.block 1 (.seq (.reg [(Iq 13 (.ixs 1 (.t 9) (.t 11))),
 (Iq 14 (.ld false 1 (.t 13))),
 (Iq 7 (.mv (.t 14)))])
 (.reg [(Iq 15 (.mv (.t 5))),
 (Iq 16 (.ld true 1 (.t 2))),
 (Iq 17 (.mv (.t 7))),
 (Ic 18 (.call 57 [(.t 16), (.t 17)])),
 (Im 19 (.bsl 8 [(.t 18)])),
 (Im 20 (.app 8 8 (.t 15) (.t 19))),
 (Iq 5 (.mv (.t 20)))])))
 (.reg [(Iq 21 (.bin .add (.t 11) (.c (.int .i64 1)))),
 (Iq 11 (.mv (.t 21)))])))))))
 (.seq (.reg [(Iq 22 (.mv (.t 5))),
 (Iq 4 (.mv (.t 22)))])
 .ret))))⟩
theorem l_impl_digitsOfAll : lowF PA f_impl_digitsOfAll 2 [.k [2, 5, 9, 10, 11]] = some c_impl_digitsOfAll := by kernel_rfl
abbrev f_impl_products : FuncId := 56
def c_impl_products : AF := ⟨3, 31, [.t 6],
 (.seq (.reg [(Im 3 (.box (.t 0))),
 (Im 4 (.box (.t 1))),
 (Im 5 (.box (.t 2))),
 (Iq 6 (.mv (.c (.int .i64 0))))])
 (.seq (.reg [(Iq 7 (.mv (.c (.int .i64 0))))])
 (.seq (.seq (.reg [(Iq 10 (.ld true 8 (.t 4))),
 (Iq 11 (.mv (.c (.int .i64 0))))])
 (.block 0 (.loop [3, 5, 7, 10, 11] (.seq (.reg [(Iq 12 (.bin .lss (.t 11) (.c (.int .i64 8))))])
 (.seq (.cond (.t 12)
 .skip
 (.exit 0))
 (.seq (.block 1 (.seq (.reg [(Iq 13 (.mv (.t 11))),
 (Iq 14 (.ixv 8 (.t 10) (.t 11))),
 (Iq 8 (.mv (.t 13))),
 (Iq 9 (.mv (.t 14)))])
 (.reg [(Iq 15 (.mv (.t 7))),
 (Iq 16 (.mv (.t 9))),
 (Iq 17 (.cvt .i64 (.t 16))),
 (Iq 18 (.mv (.t 8))),
 (Iq 19 (.ixa 8 1 (.t 5) (.t 18))),
 (Iq 20 (.ld false 1 (.t 19))),
 (Iq 21 (.cvt .i64 (.t 20))),
 (Iq 22 (.bin .mul (.t 17) (.t 21))),
 (Iq 23 (.bin .add (.t 15) (.t 22))),
 (Iq 7 (.mv (.t 23)))])))
 (.reg [(Iq 24 (.bin .add (.t 11) (.c (.int .i64 1)))),
 (Iq 11 (.mv (.t 24)))])))))))
 (.seq (.reg [(Iq 25 (.mv (.t 7))),
 (Iq 26 (.fad 0 (.t 3))),
 (Iq 27 (.ld false 1 (.t 26))),
 (Iq 28 (.ixs 1 (.t 27) (.c (.int .i64 0)))),
 (Iq 29 (.ld false 1 (.t 28))),
 (Iq 30 (.bin .rem (.t 25) (.t 29))),
 (Iq 6 (.mv (.t 30)))])
 .ret))))⟩
theorem l_impl_products : lowF PA f_impl_products 3 [.k [3, 5, 7, 10, 11]] = some c_impl_products := by kernel_rfl
abbrev f_impl_digitsOf : FuncId := 57
def c_impl_digitsOf : AF := ⟨2, 34, [.c 4 true 8],
 (.seq (.reg [(Im 2 (.box (.t 0))),
 (Im 4 (.alloc [(.v (.int .u8 0)), (.v (.int .u8 0)), (.v (.int .u8 0)), (.v (.int .u8 0)), (.v (.int .u8 0)), (.v (.int .u8 0)), (.v (.int .u8 0)), (.v (.int .u8 0))]))])
 (.seq (.reg [(Iq 7 (.bld [(.v (.int .u8 0)), (.v (.int .u8 0)), (.v (.int .u8 0)), (.v (.int .u8 0)), (.v (.int .u8 0)), (.v (.int .u8 0)), (.v (.int .u8 0)), (.v (.int .u8 0))] [])),
 (Im 5 (.alloc [(.v (.int .u8 0)), (.v (.int .u8 0)), (.v (.int .u8 0)), (.v (.int .u8 0)), (.v (.int .u8 0)), (.v (.int .u8 0)), (.v (.int .u8 0)), (.v (.int .u8 0))])),
 ⟨none, none, .m (.st true 8 (.t 5) (.t 7))⟩])
 (.seq (.seq (.reg [(Iq 8 (.fad 0 (.t 2))),
 (Iq 9 (.ld false 1 (.t 8))),
 (Iq 10 (.len (.t 9))),
 (Iq 11 (.bin .sub (.t 10) (.c (.int .i64 1)))),
 (Iq 6 (.mv (.t 11)))])
 (.block 0 (.loop [1, 2, 4, 5, 6] (.seq (.seq (.reg [(Iq 12 (.mv (.t 6))),
 (Iq 13 (.bin .geq (.t 12) (.c (.int .i64 0))))])
 (.cond (.t 13)
 .skip
 (.exit 0)))
 (.seq (.block 1 (.seq (.reg [(Iq 16 (.mv (.t 6))),
 (Iq 17 (.mv (.t 1))),
 (Iq 18 (.fad 0 (.t 2))),
 (Iq 19 (.ld false 1 (.t 18))),
 (Iq 20 (.mv (.t 6))),
 (Iq 21 (.ixs 1 (.t 19) (.t 20))),
 (Iq 22 (.ld false 1 (.t 21))),
 (Iq 23 (.bin .rem (.t 17) (.t 22))),
 (Iq 24 (.cvt .u8 (.t 23))),
 (Iq 25 (.ixa 8 1 (.t 5) (.t 16))),
 ⟨none, none, .m (.st false 1 (.t 25) (.t 24))⟩])
 (.reg [(Iq 26 (.mv (.t 1))),
 (Iq 27 (.fad 0 (.t 2))),
 (Iq 28 (.ld false 1 (.t 27))),
 (Iq 29 (.mv (.t 6))),
 (Iq 30 (.ixs 1 (.t 28) (.t 29))),
 (Iq 31 (.ld false 1 (.t 30))),
 (Iq 32 (.bin .quo (.t 26) (.t 31))),
 (Iq 1 (.mv (.t 32)))])))
 (.reg [(Iq 14 (.mv (.t 6))),
 (Iq 15 (.bin .sub (.t 14) (.c (.int .i64 1)))),
 (Iq 6 (.mv (.t 15)))]))))))
 (.seq (.reg [(Iq 33 (.ld true 8 (.t 5))),
 ⟨none, none, .m (.st true 8 (.t 4) (.t 33))⟩])
 .ret))))⟩
theorem l_impl_digitsOf : lowF PA f_impl_digitsOf 2 [.k [1, 2, 4, 5, 6]] = some c_impl_digitsOf := by kernel_rfl
abbrev f_spec_l05Coded : FuncId := 58
def c_spec_l05Coded : AF := ⟨1, 21, [.c 2 true 1, .t 3],
 (.seq (.reg [(Im 2 (.alloc [(.v (.slice none 0 0))])),
 (Iq 3 (.mv (.c (.slice none 0 0))))])
 (.seq (.reg [(Iq 7 (.mv (.t 0))),
 (Ic 8 (.call 30 [(.t 7)])),
 (Iq 4 (.mv (.t 8)))])
 (.seq (.reg [(Iq 10 (.mv (.t 4))),
 (Ic 11 (.call 98 [(.t 10)])),
 (Iq 9 (.mv (.t 11))),
 (Iq 12 (.ext (.t 9) 0)),
 (Iq 13 (.ext (.t 9) 1)),
 (Im 5 (.alloc [(.v (.slice none 0 0))])),
 ⟨none, none, .m (.st true 1 (.t 5) (.t 12))⟩,
 (Iq 6 (.mv (.t 13)))])
 (.seq (.sch (.take 0 (Iq 14 (.mv (.t 4))) (.take 1 (Iq 15 (.ld true 1 (.t 5))) (.take 3 (Iq 17 (.mv (.t 4))) (.take 4 (Iq 18 (.ld true 1 (.t 5))) (.take 5 (Iq 19 (.mv (.t 6))) (.one (Ic 16 (.call 36 [(.t 14), (.t 15)])) [1] (.one (Ic 20 (.call 99 [(.t 17), (.t 18), (.t 19)])) [4] (.one ⟨none, none, .m (.st true 1 (.t 2) (.t 16))⟩ [1] (.take 8 (Iq 3 (.mv (.t 20))) .done))))))))))
 .ret))))⟩
theorem l_spec_l05Coded : lowF PA f_spec_l05Coded 1 [.s (.take 0 (.take 1 (.take 3 (.take 4 (.take 5 (.one 2 (.one 6 (.one 7 (.take 8 .done)))))))))] = some c_spec_l05Coded := by kernel_rfl
abbrev f_spec_l01Given : FuncId := 59
def c_spec_l01Given : AF := ⟨2, 14, [.t 4],
 (.seq (.reg [(Im 2 (.box (.t 0))),
 (Iq 4 (.mv (.c (.int .i64 0))))])
 (.seq (.block 0 (.seq (.reg [(Iq 6 (.ld true 1 (.t 2))),
 (Ic 7 (.call 46 [(.t 6)])),
 (Iq 8 (.un .not (.t 7))),
 (Iq 5 (.mv (.t 8)))])
 (.cond (.t 5)
 (.seq (.reg [(Iq 4 (.mv (.c (.int .i64 1))))])
 .ret)
 (.seq (.reg [(Iq 10 (.ld true 1 (.t 2))),
 (Iq 11 (.mv (.t 1))),
 (Ic 12 (.call 100 [(.t 10), (.t 11)])),
 (Iq 13 (.un .not (.t 12))),
 (Iq 9 (.mv (.t 13)))])
 (.cond (.t 9)
 (.seq (.reg [(Iq 4 (.mv (.c (.int .i64 2))))])
 .ret)
 .skip)))))
 (.seq (.reg [(Iq 4 (.mv (.c (.int .i64 0))))])
 .ret)))⟩
theorem l_spec_l01Given : lowF PA f_spec_l01Given 2 [] = some c_spec_l01Given := by kernel_rfl
abbrev f_spec_l05Linear : FuncId := 60
def c_spec_l05Linear : AF := ⟨2, 50, [.t 4],
 (.seq (.reg [(Im 2 (.box (.t 0))),
 (Iq 4 (.mv (.c (.bool false))))])
 (.seq (.seq (.reg [(Iq 8 (.ld true 1 (.t 2))),
 (Ic 9 (.call 47 [(.t 8)])),
 (Iq 10 (.un .not (.t 9))),
 (Iq 11 (.mv (.t 10))),
 ⟨(some 12), (some (11, false)), .q (.mv (.t 1))⟩,
 ⟨(some 13), (some (11, false)), .q (.len (.t 12))⟩,
 ⟨(some 14), (some (11, false)), .q (.bin .eql (.t 13) (.c (.int .i64 0)))⟩,
 (Iq 15 (.pick (.t 11) (.c (.bool true)) (.t 14))),
 (Iq 16 (.mv (.t 15))),
 ⟨(some 17), (some (16, false)), .q (.mv (.t 1))⟩,
 ⟨(some 18), (some (16, false)), .q (.ixs 1 (.t 17) (.c (.int .i64 0)))⟩,
 ⟨(some 19), (some (16, false)), .q (.ld false 1 (.t 18))⟩,
 ⟨(some 20), (some (16, false)), .q (.bin .neq (.t 19) (.c (.int .i64 0)))⟩,
 (Iq 21 (.pick (.t 16) (.c (.bool true)) (.t 20)))])
 (.cond (.t 21)
 (.seq (.reg [(Iq 4 (.mv (.c (.bool false))))])
 .ret)
 .skip))
 (.seq (.reg [(Iq 22 (.ld true 1 (.t 2))),
 (Iq 23 (.mv (.t 1))),
 (Ic 24 (.call 84 [(.t 22), (.t 23)])),
 (Iq 5 (.mv (.t 24)))])
 (.seq (.seq (.reg [(Iq 25 (.mv (.t 1))),
 (Iq 26 (.len (.t 25))),
 (Iq 27 (.mv (.c (.int .i64 0))))])
 (.block 0 (.loop [1, 2, 5, 26, 27] (.seq (.reg [(Iq 28 (.bin .lss (.t 27) (.t 26)))])
 (.seq (.cond (.t 28)
 .skip
 (.exit 0))
 (.seq (.block 1 (.seq (.reg [(Iq 29 (.mv (.t 27))),
 (Iq 6 (.mv (.t 29)))])
 (.seq (.reg [(Iq 7 (.mv (.c (.int .i64 0))))])
 (.block 2 (.loop [1, 2, 5, 6, 7, 26, 27] (.seq (.seq (.reg [(Iq 30 (.mv (.t 7))),
 (Iq 31 (.mv (.t 6))),
 (Iq 32 (.bin .leq (.t 30) (.t 31)))])
 (.cond (.t 32)
 .skip
 (.exit 2)))
 (.seq (.block 3 (.seq (.sch (.take 0 (Iq 35 (.mv (.t 5))) (.take 1 (Iq 36 (.ld true 1 (.t 2))) (.take 2 (Iq 37 (.mv (.t 1))) (.take 3 (Iq 38 (.mv (.t 6))) (.take 4 (Iq 39 (.ixs 1 (.t 37) (.t 38))) (.take 5 (Iq 40 (.ld false 1 (.t 39))) (.take 6 (Iq 41 (.mv (.t 1))) (.take 7 (Iq 42 (.mv (.t 7))) (.take 8 (Iq 43 (.ixs 1 (.t 41) (.t 42))) (.take 9 (Iq 44 (.ld false 1 (.t 43))) (.one (Ic 45 (.call 82 [(.t 36), (.t 40), (.t 44)])) [9, 5, 1] (.take 11 (Iq 46 (.ixs 1 (.t 35) (.t 45))) (.take 12 (Iq 47 (.ld false 1 (.t 46))) (.take 13 (Iq 48 (.un .not (.t 47))) .done)))))))))))))))
 (.cond (.t 48)
 (.seq (.reg [(Iq 4 (.mv (.c (.bool false))))])
 .ret)
 .skip)))
 (.reg [(Iq 33 (.mv (.t 7))),
 (Iq 34 (.bin .add (.t 33) (.c (.int .i64 1)))),
 (Iq 7 (.mv (.t 34)))]))))))))
 (.reg [(Iq 49 (.bin .add (.t 27) (.c (.int .i64 1)))),
 (Iq 27 (.mv (.t 49)))])))))))
 (.seq (.reg [(Iq 4 (.mv (.c (.bool true))))])
 .ret)))))⟩
theorem l_spec_l05Linear : lowF PA f_spec_l05Linear 2 [.k [1, 2, 5, 26, 27], .k [1, 2, 5, 6, 7, 26, 27], .s (.take 0 (.take 1 (.take 2 (.take 3 (.take 4 (.take 5 (.take 6 (.take 7 (.take 8 (.take 9 (.one 10 (.take 11 (.take 12 (.take 13 .done))))))))))))))] = some c_spec_l05Linear := by kernel_rfl
abbrev f_spec_l05Given : FuncId := 61
def c_spec_l05Given : AF := ⟨2, 18, [.t 4],
 (.seq (.reg [(Im 2 (.box (.t 0))),
 (Iq 4 (.mv (.c (.int .i64 0))))])
 (.seq (.reg [(Iq 6 (.ld true 1 (.t 2))),
 (Iq 7 (.mv (.t 1))),
 (Ic 8 (.call 59 [(.t 6), (.t 7)])),
 (Iq 5 (.mv (.t 8)))])
 (.seq (.seq (.reg [(Iq 9 (.mv (.t 5))),
 (Iq 10 (.bin .eql (.t 9) (.c (.int .i64 0)))),
 (Iq 11 (.mv (.t 10))),
 ⟨(some 12), (some (11, true)), .q (.ld true 1 (.t 2))⟩,
 ⟨(some 13), (some (11, true)), .q (.mv (.t 1))⟩,
 ⟨(some 14), (some (11, true)), .c (.call 60 [(.t 12), (.t 13)])⟩,
 ⟨(some 15), (some (11, true)), .q (.un .not (.t 14))⟩,
 (Iq 16 (.pick (.t 11) (.t 15) (.c (.bool false))))])
 (.cond (.t 16)
 (.seq (.reg [(Iq 4 (.mv (.c (.int .i64 5))))])
 .ret)
 .skip))
 (.seq (.reg [(Iq 17 (.mv (.t 5))),
 (Iq 4 (.mv (.t 17)))])
 .ret))))⟩
theorem l_spec_l05Given : lowF PA f_spec_l05Given 2 [] = some c_spec_l05Given := by kernel_rfl
abbrev f_spec_l01Digits : FuncId := 62
def c_spec_l01Digits : AF := ⟨2, 37, [.t 4],
 (.seq (.reg [(Im 2 (.box (.t 0))),
 (Iq 4 (.mv (.c (.slice none 0 0))))])
 (.seq (.reg [(Iq 7 (.fad 0 (.t 2))),
 (Iq 8 (.ld false 1 (.t 7))),
 (Iq 9 (.len (.t 8))),
 (Im 10 (.mks 1 (.v (.int .i64 0)) 8 (.t 9) (.t 9))),
 (Iq 5 (.mv (.t 10)))])
 (.seq (.seq (.reg [(Iq 11 (.fad 0 (.t 2))),
 (Iq 12 (.ld false 1 (.t 11))),
 (Iq 13 (.len (.t 12))),
 (Iq 14 (.bin .sub (.t 13) (.c (.int .i64 1)))),
 (Iq 6 (.mv (.t 14)))])
 (.block 0 (.loop [1, 2, 5, 6] (.seq (.seq (.reg [(Iq 15 (.mv (.t 6))),
 (Iq 16 (.bin .geq (.t 15) (.c (.int .i64 0))))])
 (.cond (.t 16)
 .skip
 (.exit 0)))
 (.seq (.block 1 (.seq (.reg [(Iq 19 (.mv (.t 5))),
 (Iq 20 (.mv (.t 6))),
 (Iq 21 (.mv (.t 1))),
 (Iq 22 (.fad 0 (.t 2))),
 (Iq 23 (.ld false 1 (.t 22))),
 (Iq 24 (.mv (.t 6))),
 (Iq 25 (.ixs 1 (.t 23) (.t 24))),
 (Iq 26 (.ld false 1 (.t 25))),
 (Iq 27 (.bin .rem (.t 21) (.t 26))),
 (Iq 28 (.ixs 1 (.t 19) (.t 20))),
 ⟨none, none, .m (.st false 1 (.t 28) (.t 27))⟩])
 (.reg [(Iq 29 (.mv (.t 1))),
 (Iq 30 (.fad 0 (.t 2))),
 (Iq 31 (.ld false 1 (.t 30))),
 (Iq 32 (.mv (.t 6))),
 (Iq 33 (.ixs 1 (.t 31) (.t 32))),
 (Iq 34 (.ld false 1 (.t 33))),
 (Iq 35 (.bin .quo (.t 29) (.t 34))),
 (Iq 1 (.mv (.t 35)))])))
 (.reg [(Iq 17 (.mv (.t 6))),
 (Iq 18 (.bin .sub (.t 17) (.c (.int .i64 1)))),
 (Iq 6 (.mv (.t 18)))]))))))
 (.seq (.reg [(Iq 36 (.mv (.t 5))),
 (Iq 4 (.mv (.t 36)))])
 .ret))))⟩
theorem l_spec_l01Digits : lowF PA f_spec_l01Digits 2 [.k [1, 2, 5, 6]] = some c_spec_l01Digits := by kernel_rfl
abbrev f_spec_l05Dual : FuncId := 63
def c_spec_l05Dual : AF := ⟨2, 39, [.t 4],
 (.seq (.reg [(Im 2 (.box (.t 0))),
 (Iq 4 (.mv (.c (.slice none 0 0))))])
 (.seq (.reg [(Im 9 (.bsl 1 [])),
 (Iq 5 (.mv (.t 9)))])
 (.seq (.seq (.reg [(Iq 6 (.mv (.c (.int .i64 0))))])
 (.block 0 (.loop [1, 2, 5, 6] (.seq (.seq (.reg [(Iq 10 (.mv (.t 6))),
 (Iq 11 (.ld true 1 (.t 2))),
 (Ic 12 (.call 35 [(.t 11)])),
 (Iq 13 (.bin .lss (.t 10) (.t 12)))])
 (.cond (.t 13)
 .skip
 (.exit 0)))
 (.seq (.block 1 (.seq (.reg [(Iq 7 (.mv (.c (.bool true))))])
 (.seq (.seq (.reg [(Iq 8 (.mv (.c (.int .i64 0))))])
 (.block 2 (.loop [1, 2, 5, 6, 7, 8] (.seq (.seq (.reg [(Iq 16 (.mv (.t 8))),
 (Iq 17 (.mv (.t 1))),
 (Iq 18 (.len (.t 17))),
 (Iq 19 (.bin .lss (.t 16) (.t 18))),
 (Iq 20 (.mv (.t 19))),
 ⟨(some 21), (some (20, true)), .q (.mv (.t 7))⟩,
 (Iq 22 (.pick (.t 20) (.t 21) (.c (.bool false))))])
 (.cond (.t 22)
 .skip
 (.exit 2)))
 (.seq (.block 3 (.sch (.take 0 (Iq 25 (.ld true 1 (.t 2))) (.take 1 (Iq 26 (.mv (.t 1))) (.take 2 (Iq 27 (.mv (.t 8))) (.take 3 (Iq 28 (.ixs 1 (.t 26) (.t 27))) (.take 4 (Iq 29 (.ld false 1 (.t 28))) (.take 5 (Iq 30 (.mv (.t 6))) (.one (Ic 31 (.call 68 [(.t 25), (.t 29), (.t 30)])) [4, 0] (.take 7 (Iq 32 (.bin .eql (.t 31) (.c (.int .i64 0)))) (.take 8 (Iq 7 (.mv (.t 32))) .done)))))))))))
 (.reg [(Iq 23 (.mv (.t 8))),
 (Iq 24 (.bin .add (.t 23) (.c (.int .i64 1)))),
 (Iq 8 (.mv (.t 24)))]))))))
 (.seq (.reg [(Iq 33 (.mv (.t 7)))])
 (.cond (.t 33)
 (.reg [(Iq 34 (.mv (.t 5))),
 (Iq 35 (.mv (.t 6))),
 (Im 36 (.bsl 1 [(.t 35)])),
 (Im 37 (.app 1 8 (.t 34) (.t 36))),
 (Iq 5 (.mv (.t 37)))])
 .skip)))))
 (.reg [(Iq 14 (.mv (.t 6))),
 (Iq 15 (.bin .add (.t 14) (.c (.int .i64 1)))),
 (Iq 6 (.mv (.t 15)))]))))))
 (.seq (.reg [(Iq 38 (.mv (.t 5))),
 (Iq 4 (.mv (.t 38)))])
 .ret))))⟩
theorem l_spec_l05Dual : lowF PA f_spec_l05Dual 2 [.k [1, 2, 5, 6], .k [1, 2, 5, 6, 7, 8], .s (.take 0 (.take 1 (.take 2 (.take 3 (.take 4 (.take 5 (.one 6 (.take 7 (.take 8 .done)))))))))] = some c_spec_l05Dual := by kernel_rfl
abbrev f_spec_l05Counts : FuncId := 64
def c_spec_l05Counts : AF := ⟨2, 30, [.t 4],
 (.seq (.reg [(Im 2 (.box (.t 0))),
 (Iq 4 (.mv (.c (.slice none 0 0))))])
 (.seq (.reg [(Iq 7 (.fad 0 (.t 2))),
 (Iq 8 (.ld false 1 (.t 7))),
 (Iq 9 (.len (.t 8))),
 (Iq 10 (.bin .add (.t 9) (.c (.int .i64 1)))),
 (Im 11 (.mks 1 (.v (.int .i64 0)) 8 (.t 10) (.t 10))),
 (Iq 5 (.mv (.t 11)))])
 (.seq (.seq (.reg [(Iq 12 (.mv (.t 1))),
 (Iq 13 (.len (.t 12))),
 (Iq 14 (.mv (.c (.int .i64 0))))])
 (.block 0 (.loop [1, 2, 5, 13, 14] (.seq (.reg [(Iq 15 (.bin .lss (.t 14) (.t 13)))])
 (.seq (.cond (.t 15)
 .skip
 (.exit 0))
 (.seq (.block 1 (.seq (.reg [(Iq 16 (.mv (.t 14))),
 (Iq 6 (.mv (.t 16)))])
 (.sch (.take 0 (Iq 17 (.mv (.t 5))) (.take 1 (Iq 18 (.ld true 1 (.t 2))) (.take 2 (Iq 19 (.mv (.t 1))) (.take 3 (Iq 20 (.mv (.t 6))) (.take 4 (Iq 21 (.ixs 1 (.t 19) (.t 20))) (.take 5 (Iq 22 (.ld false 1 (.t 21))) (.one (Ic 23 (.call 101 [(.t 18), (.c (.int .i64 0)), (.t 22)])) [5, 1] (.take 7 (Iq 24 (.ixs 1 (.t 17) (.t 23))) (.take 8 (Iq 25 (.ld false 1 (.t 24))) (.take 9 (Iq 26 (.bin .add (.t 25) (.c (.int .i64 1)))) (.take 10 (Iq 27 (.ixs 1 (.t 17) (.t 23))) (.one ⟨none, none, .m (.st false 1 (.t 27) (.t 26))⟩ [8, 5, 1] .done)))))))))))))))
 (.reg [(Iq 28 (.bin .add (.t 14) (.c (.int .i64 1)))),
 (Iq 14 (.mv (.t 28)))])))))))
 (.seq (.reg [(Iq 29 (.mv (.t 5))),
 (Iq 4 (.mv (.t 29)))])
 .ret))))⟩
theorem l_spec_l05Counts : lowF PA f_spec_l05Counts 2 [.k [1, 2, 5, 13, 14], .s (.take 0 (.take 1 (.take 2 (.take 3 (.take 4 (.take 5 (.one 6 (.take 7 (.take 8 (.take 9 (.take 10 (.one 11 .done))))))))))))] = some c_spec_l05Counts := by kernel_rfl
abbrev f_spec_l05Dimension : FuncId := 65
def c_spec_l05Dimension : AF := ⟨2, 20, [.t 4],
 (.seq (.reg [(Im 2 (.box (.t 0))),
 (Iq 4 (.mv (.c (.int .i64 0))))])
 (.seq (.reg [(Iq 5 (.mv (.c (.int .i64 0)))),
 (Iq 6 (.mv (.c (.int .i64 1))))])
 (.seq (.block 0 (.loop [1, 2, 5, 6] (.seq (.seq (.reg [(Iq 7 (.mv (.t 6))),
 (Iq 8 (.mv (.t 1))),
 (Iq 9 (.len (.t 8))),
 (Iq 10 (.bin .lss (.t 7) (.t 9)))])
 (.cond (.t 10)
 .skip
 (.exit 0)))
 (.block 1 (.seq (.reg [(Iq 11 (.mv (.t 6))),
 (Iq 12 (.fad 0 (.t 2))),
 (Iq 13 (.ld false 1 (.t 12))),
 (Iq 14 (.ixs 1 (.t 13) (.c (.int .i64 0)))),
 (Iq 15 (.ld false 1 (.t 14))),
 (Iq 16 (.bin .mul (.t 11) (.t 15))),
 (Iq 6 (.mv (.t 16)))])
 (.reg [(Iq 17 (.mv (.t 5))),
 (Iq 18 (.bin .add (.t 17) (.c (.int .i64 1)))),
 (Iq 5 (.mv (.t 18)))]))))))
 (.seq (.reg [(Iq 19 (.mv (.t 5))),
 (Iq 4 (.mv (.t 19)))])
 .ret))))⟩
theorem l_spec_l05Dimension : lowF PA f_spec_l05Dimension 2 [.k [1, 2, 5, 6]] = some c_spec_l05Dimension := by kernel_rfl
abbrev f_spec_l01Near : FuncId := 66
def c_spec_l01Near : AF := ⟨2, 17, [.t 4],
 (.seq (.reg [(Iq 4 (.mv (.c (.int .i64 0))))])
 (.seq (.seq (.reg [(Iq 5 (.mv (.t 0))),
 (Ic 6 (.call 33 [(.t 5), (.c (.int .i64 14))])),
 (Iq 7 (.bin .eql (.t 6) (.c (.int .i64 0))))])
 (.cond (.t 7)
 (.seq (.reg [(Iq 8 (.mv (.t 0))),
 (Iq 9 (.mv (.t 1))),
 (Iq 10 (.bin .add (.t 9) (.c (.int .i64 1)))),
 (Im 11 (.bsl 1 [(.c (.int .i64 (-1))), (.t 10), (.c (.int .i64 1099511627776)), (.c (.int .i64 (-4611686018427387904)))])),
 (Ic 12 (.call 34 [(.t 8), (.t 11)])),
 (Iq 4 (.mv (.t 12)))])
 .ret)
 .skip))
 (.seq (.reg [(Iq 13 (.mv (.t 0))),
 (Iq 14 (.mv (.t 1))),
 (Iq 15 (.bin .add (.t 14) (.c (.int .i64 1)))),
 (Ic 16 (.call 33 [(.t 13), (.t 15)])),
 (Iq 4 (.mv (.t 16)))])
 .ret)))⟩
theorem l_spec_l01Near : lowF PA f_spec_l01Near 2 [] = some c_spec_l01Near := by kernel_rfl
abbrev f_spec_l01Words : FuncId := 67
def c_spec_l01Words : AF := ⟨2, 24, [.t 4],
 (.seq (.reg [(Im 2 (.box (.t 0))),
 (Iq 4 (.mv (.c (.int .i64 0))))])
 (.seq (.seq (.reg [(Iq 6 (.ld true 1 (.t 2))),
 (Ic 7 (.call 46 [(.t 6)])),
 (Iq 8 (.un .not (.t 7)))])
 (.cond (.t 8)
 (.seq (.reg [(Iq 4 (.mv (.c (.int .i64 1))))])
 .ret)
 .skip))
 (.seq (.seq (.reg [(Iq 5 (.mv (.c (.int .i64 0))))])
 (.block 0 (.loop [1, 2, 5] (.seq (.seq (.reg [(Iq 9 (.mv (.t 5))),
 (Iq 10 (.mv (.t 1))),
 (Iq 11 (.len (.t 10))),
 (Iq 12 (.bin .lss (.t 9) (.t 11)))])
 (.cond (.t 12)
 .skip
 (.exit 0)))
 (.seq (.block 1 (.seq (.sch (.take 0 (Iq 15 (.mv (.t 1))) (.take 1 (Iq 16 (.mv (.t 5))) (.take 2 (Iq 17 (.ixs 1 (.t 15) (.t 16))) (.take 3 (Iq 18 (.ld false 1 (.t 17))) (.take 4 (Iq 19 (.ld true 1 (.t 2))) (.one (Ic 20 (.call 35 [(.t 19)])) [4] (.take 6 (Iq 21 (.bin .sub (.t 20) (.c (.int .i64 1)))) (.one (Ic 22 (.call 87 [(.t 18), (.c (.int .i64 0)), (.t 21)])) [3] (.take 8 (Iq 23 (.un .not (.t 22))) .done))))))))))
 (.cond (.t 23)
 (.seq (.reg [(Iq 4 (.mv (.c (.int .i64 2))))])
 .ret)
 .skip)))
 (.reg [(Iq 13 (.mv (.t 5))),
 (Iq 14 (.bin .add (.t 13) (.c (.int .i64 1)))),
 (Iq 5 (.mv (.t 14)))]))))))
 (.seq (.reg [(Iq 4 (.mv (.c (.int .i64 0))))])
 .ret))))⟩
theorem l_spec_l01Words : lowF PA f_spec_l01Words 2 [.k [1, 2, 5], .s (.take 0 (.take 1 (.take 2 (.take 3 (.take 4 (.one 5 (.take 6 (.one 7 (.take 8 .done)))))))))] = some c_spec_l01Words := by kernel_rfl
abbrev f_spec_l05Product : FuncId := 68
def c_spec_l05Product : AF := ⟨3, 40, [.t 6],
 (.seq (.reg [(Im 3 (.box (.t 0))),
 (Iq 6 (.mv (.c (.int .i64 0))))])
 (.seq (.sch (.take 0 (Iq 11 (.ld true 1 (.t 3))) (.take 1 (Iq 12 (.mv (.t 1))) (.take 3 (Iq 14 (.ld true 1 (.t 3))) (.take 4 (Iq 15 (.mv (.t 2))) (.one (Ic 13 (.call 62 [(.t 11), (.t 12)])) [0] (.one (Ic 16 (.call 62 [(.t 14), (.t 15)])) [3] (.take 6 (Iq 7 (.mv (.t 13))) (.take 7 (Iq 8 (.mv (.t 16))) (.take 8 (Iq 9 (.mv (.c (.int .i64 0)))) .done))))))))))
 (.seq (.seq (.reg [(Iq 17 (.mv (.t 7))),
 (Iq 18 (.len (.t 17))),
 (Iq 19 (.mv (.c (.int .i64 0))))])
 (.block 0 (.loop [3, 7, 8, 9, 18, 19] (.seq (.reg [(Iq 20 (.bin .lss (.t 19) (.t 18)))])
 (.seq (.cond (.t 20)
 .skip
 (.exit 0))
 (.seq (.block 1 (.seq (.reg [(Iq 21 (.mv (.t 19))),
 (Iq 10 (.mv (.t 21)))])
 (.sch (.take 0 (Iq 22 (.mv (.t 9))) (.take 1 (Iq 23 (.mv (.t 7))) (.take 2 (Iq 24 (.mv (.t 10))) (.take 3 (Iq 25 (.ixs 1 (.t 23) (.t 24))) (.take 4 (Iq 26 (.ld false 1 (.t 25))) (.take 5 (Iq 27 (.mv (.t 8))) (.take 6 (Iq 28 (.mv (.t 10))) (.take 7 (Iq 29 (.ixs 1 (.t 27) (.t 28))) (.take 8 (Iq 30 (.ld false 1 (.t 29))) (.take 9 (Iq 31 (.bin .mul (.t 26) (.t 30))) (.take 10 (Iq 32 (.bin .add (.t 22) (.t 31))) (.take 11 (Iq 9 (.mv (.t 32))) .done)))))))))))))))
 (.reg [(Iq 33 (.bin .add (.t 19) (.c (.int .i64 1)))),
 (Iq 19 (.mv (.t 33)))])))))))
 (.seq (.reg [(Iq 34 (.mv (.t 9))),
 (Iq 35 (.fad 0 (.t 3))),
 (Iq 36 (.ld false 1 (.t 35))),
 (Iq 37 (.ixs 1 (.t 36) (.c (.int .i64 0)))),
 (Iq 38 (.ld false 1 (.t 37))),
 (Iq 39 (.bin .rem (.t 34) (.t 38))),
 (Iq 6 (.mv (.t 39)))])
 .ret))))⟩
theorem l_spec_l05Product : lowF PA f_spec_l05Product 3 [.s (.take 0 (.take 1 (.take 3 (.take 4 (.one 2 (.one 5 (.take 6 (.take 7 (.take 8 .done))))))))), .k [3, 7, 8, 9, 18, 19], .s (.take 0 (.take 1 (.take 2 (.take 3 (.take 4 (.take 5 (.take 6 (.take 7 (.take 8 (.take 9 (.take 10 (.take 11 .done))))))))))))] = some c_spec_l05Product := by kernel_rfl
abbrev f_spec_l01DrawOf : FuncId := 69
def c_spec_l01DrawOf : AF := ⟨2, 49, [.c 4 true 1],
 (.seq (.reg [(Im 4 (.alloc [(.v (.slice none 0 0))]))])
 (.seq (.reg [(Im 9 (.bsl 1 [])),
 (Iq 10 (.bld [(.v (.slice none 0 0))] [(0, (.t 9))])),
 (Iq 11 (.mv (.t 0))),
 (Im 12 (.bsl 1 [(.c (.int .i64 0)), (.c (.int .i64 2)), (.c (.int .i64 2)), (.c (.int .i64 3)), (.c (.int .i64 3))])),
 (Ic 13 (.call 34 [(.t 11), (.t 12)])),
 (Im 5 (.alloc [(.v (.slice none 0 0))])),
 ⟨none, none, .m (.st true 1 (.t 5) (.t 10))⟩,
 (Iq 6 (.mv (.t 13)))])
 (.seq (.seq (.reg [(Iq 14 (.mv (.t 0))),
 (Ic 15 (.call 33 [(.t 14), (.c (.int .i64 8))])),
 (Iq 16 (.bin .add (.c (.int .i64 1)) (.t 15))),
 (Iq 7 (.mv (.t 16)))])
 (.block 0 (.loop [0, 1, 4, 5, 6, 7, 49] (.seq (.seq (.reg [(Iq 17 (.mv (.t 7))),
 (Iq 18 (.bin .gtr (.t 17) (.c (.int .i64 0))))])
 (.cond (.t 18)
 .skip
 (.exit 0)))
 (.seq (.block 1 (.seq (.reg [(Iq 21 (.mv (.t 6))),
 (Iq 8 (.mv (.t 21)))])
 (.seq (.seq (.reg [(Iq 22 (.mv (.t 6))),
 (Iq 23 (.bin .eql (.t 22) (.c (.int .i64 0))))])
 (.cond (.t 23)
 (.reg [(Iq 24 (.mv (.t 0))),
 (Im 25 (.bsl 1 [(.c (.int .i64 2)), (.c (.int .i64 2)), (.c (.int .i64 3)), (.c (.int .i64 4))])),
 (Ic 26 (.call 34 [(.t 24), (.t 25)])),
 (Iq 8 (.mv (.t 26)))])
 .skip))
 (.seq (.seq (.reg [(Iq 27 (.ld true 1 (.t 5))),
 (Ic 28 (.call 35 [(.t 27)])),
 (Iq 29 (.mv (.t 8))),
 (Iq 30 (.bin .mul (.t 28) (.t 29))),
 (Iq 31 (.mv (.t 1))),
 (Iq 32 (.bin .gtr (.t 30) (.t 31)))])
 (.cond (.t 32)
 (.exit 0)
 .skip))
 (.reg [(Iq 33 (.fad 0 (.t 5))),
 (Iq 34 (.ld false 1 (.t 33))),
 (Iq 35 (.mv (.t 8))),
 (Im 36 (.bsl 1 [(.t 35)])),
 (Im 37 (.app 1 8 (.t 34) (.t 36))),
 (Iq 38 (.fad 0 (.t 5))),
 ⟨none, none, .m (.st false 1 (.t 38) (.t 37))⟩])))))
 (.reg [(Iq 19 (.mv (.t 7))),
 (Iq 20 (.bin .sub (.t 19) (.c (.int .i64 1)))),
 (Iq 7 (.mv (.t 20)))]))))))
 (.seq (.seq (.reg [(Iq 39 (.fad 0 (.t 5))),
 (Iq 40 (.ld false 1 (.t 39))),
 (Iq 41 (.len (.t 40))),
 (Iq 42 (.bin .eql (.t 41) (.c (.int .i64 0))))])
 (.cond (.t 42)
 (.reg [(Iq 43 (.fad 0 (.t 5))),
 (Iq 44 (.ld false 1 (.t 43))),
 (Im 45 (.bsl 1 [(.c (.int .i64 2))])),
 (Im 46 (.app 1 8 (.t 44) (.t 45))),
 (Iq 47 (.fad 0 (.t 5))),
 ⟨none, none, .m (.st false 1 (.t 47) (.t 46))⟩])
 .skip))
 (.seq (.reg [(Iq 48 (.ld true 1 (.t 5))),
 ⟨none, none, .m (.st true 1 (.t 4) (.t 48))⟩])
 .ret)))))⟩
theorem l_spec_l01DrawOf : lowF PA f_spec_l01DrawOf 2 [.k [0, 1, 4, 5, 6, 7, 49]] = some c_spec_l01DrawOf := by kernel_rfl
abbrev f_spec_l01Own : FuncId := 70
def c_spec_l01Own : AF := ⟨1, 6, [.t 2],
 (.seq (.reg [(Iq 2 (.mv (.c (.slice none 0 0))))])
 (.seq (.reg [(Im 3 (.bsl 1 [])),
 (Iq 4 (.mv (.t 0))),
 (Im 5 (.app 1 8 (.t 3) (.t 4))),
 (Iq 2 (.mv (.t 5)))])
 .ret))⟩
theorem l_spec_l01Own : lowF PA f_spec_l01Own 1 [] = some c_spec_l01Own := by kernel_rfl
abbrev f_impl_areWords : FuncId := 71
def c_impl_areWords : AF := ⟨2, 24, [.t 4],
 (.seq (.reg [(Im 2 (.box (.t 0))),
 (Iq 4 (.mv (.c (.bool false))))])
 (.seq (.reg [(Iq 8 (.ld true 1 (.t 2))),
 (Ic 9 (.call 54 [(.t 8)])),
 (Iq 5 (.mv (.t 9)))])
 (.seq (.seq (.reg [(Iq 10 (.mv (.t 1))),
 (Iq 11 (.len (.t 10))),
 (Iq 12 (.mv (.c (.int .i64 0))))])
 (.block 0 (.loop [5, 10, 11, 12] (.seq (.reg [(Iq 13 (.bin .lss (.t 12) (.t 11)))])
 (.seq (.cond (.t 13)
 .skip
 (.exit 0))
 (.seq (.block 1 (.seq (.reg [(Iq 14 (.ixs 1 (.t 10) (.t 12))),
 (Iq 15 (.ld false 1 (.t 14))),
 (Iq 7 (.mv (.t 15)))])
 (.seq (.reg [(Iq 16 (.mv (.t 7))),
 (Iq 17 (.bin .lss (.t 16) (.c (.int .i64 0)))),
 (Iq 18 (.mv (.t 17))),
 ⟨(some 19), (some (18, false)), .q (.mv (.t 7))⟩,
 ⟨(some 20), (some (18, false)), .q (.mv (.t 5))⟩,
 ⟨(some 21), (some (18, false)), .q (.bin .geq (.t 19) (.t 20))⟩,
 (Iq 22 (.pick (.t 18) (.c (.bool true)) (.t 21)))])
 (.cond (.t 22)
 (.seq (.reg [(Iq 4 (.mv (.c (.bool false))))])
 .ret)
 .skip))))
 (.reg [(Iq 23 (.bin .add (.t 12) (.c (.int .i64 1)))),
 (Iq 12 (.mv (.t 23)))])))))))
 (.seq (.reg [(Iq 4 (.mv (.c (.bool true))))])
 .ret))))⟩
theorem l_impl_areWords : lowF PA f_impl_areWords 2 [.k [5, 10, 11, 12]] = some c_impl_areWords := by kernel_rfl
abbrev f_cmp_Less_int64_ : FuncId := 72
def c_cmp_Less_int64_ : AF := ⟨2, 17, [.t 4],
 (.seq (.reg [(Iq 4 (.mv (.c (.bool false))))])
 (.seq (.reg [(Iq 5 (.mv (.t 0))),
 (Ic 6 (.call 102 [(.t 5)])),
 (Iq 7 (.mv (.t 6))),
 ⟨(some 8), (some (7, true)), .q (.mv (.t 1))⟩,
 ⟨(some 9), (some (7, true)), .c (.call 102 [(.t 8)])⟩,
 ⟨(some 10), (some (7, true)), .q (.un .not (.t 9))⟩,
 (Iq 11 (.pick (.t 7) (.t 10) (.c (.bool false)))),
 (Iq 12 (.mv (.t 11))),
 ⟨(some 13), (some (12, false)), .q (.mv (.t 0))⟩,
 ⟨(some 14), (some (12, false)), .q (.mv (.t 1))⟩,
 ⟨(some 15), (some (12, false)), .q (.bin .lss (.t 13) (.t 14))⟩,
 (Iq 16 (.pick (.t 12) (.c (.bool true)) (.t 15))),
 (Iq 4 (.mv (.t 16)))])
 .ret))⟩
theorem l_cmp_Less_int64_ : lowF PA f_cmp_Less_int64_ 2 [] = some c_cmp_Less_int64_ := by kernel_rfl
abbrev f_slices_isNaN_int64_ : FuncId := 73
def c_slices_isNaN_int64_ : AF := ⟨1, 6, [.t 2],
 (.seq (.reg [(Iq 2 (.mv (.c (.bool false))))])
 (.seq (.reg [(Iq 3 (.mv (.t 0))),
 (Iq 4 (.mv (.t 0))),
 (Iq 5 (.bin .neq (.t 3) (.t 4))),
 (Iq 2 (.mv (.t 5)))])
 .ret))⟩
theorem l_slices_isNaN_int64_ : lowF PA f_slices_isNaN_int64_ 1 [] = some c_slices_isNaN_int64_ := by kernel_rfl
abbrev f_impl_mapped : FuncId := 74
def c_impl_mapped : AF := ⟨2, 26, [.t 4],
 (.seq (.reg [(Iq 4 (.mv (.c (.slice none 0 0))))])
 (.seq (.reg [(Im 8 (.bsl 1 [])),
 (Iq 5 (.mv (.t 8)))])
 (.seq (.seq (.reg [(Iq 9 (.mv (.t 0))),
 (Iq 10 (.len (.t 9))),
 (Iq 11 (.mv (.c (.int .i64 0))))])
 (.block 0 (.loop [1, 5, 9, 10, 11, 26] (.seq (.reg [(Iq 12 (.bin .lss (.t 11) (.t 10)))])
 (.seq (.cond (.t 12)
 .skip
 (.exit 0))
 (.seq (.block 1 (.seq (.reg [(Iq 13 (.ixs 1 (.t 9) (.t 11))),
 (Iq 14 (.ld false 1 (.t 13))),
 (Iq 7 (.mv (.t 14)))])
 (.reg [(Iq 15 (.mv (.t 5))),
 (Iq 16 (.mv (.t 1))),
 (Iq 17 (.mv (.t 7))),
 (Ic 18 (.cav (.t 16) [(.t 17)])),
 (Im 19 (.bsl 1 [(.t 18)])),
 (Im 20 (.app 1 8 (.t 15) (.t 19))),
 (Iq 5 (.mv (.t 20)))])))
 (.reg [(Iq 21 (.bin .add (.t 11) (.c (.int .i64 1)))),
 (Iq 11 (.mv (.t 21)))])))))))
 (.seq (.reg [(Iq 22 (.mv (.t 5))),
 (Ic 23 (.call 41 [(.t 22)]))])
 (.seq (.reg [(Iq 24 (.mv (.t 5))),
 (Ic 25 (.call 103 [(.t 24)])),
 (Iq 4 (.mv (.t 25)))])
 .ret)))))⟩
theorem l_impl_mapped : lowF PA f_impl_mapped 2 [.k [1, 5, 9, 10, 11, 26]] = some c_impl_mapped := by kernel_rfl
abbrev f_impl_shifted_1 : FuncId := 75
def c_impl_shifted_1 : AF := ⟨3, 13, [.t 4],
 (.seq (.reg [(Iq 4 (.mv (.c (.int .i64 0))))])
 (.seq (.sch (.take 0 (Iq 5 (.ld true 1 (.t 1))) (.take 1 (Iq 6 (.ld true 1 (.t 1))) (.take 2 (Iq 7 (.ld true 1 (.t 1))) (.take 3 (Iq 8 (.mv (.t 0))) (.take 5 (Iq 10 (.ld true 8 (.t 2))) (.one (Ic 9 (.call 57 [(.t 7), (.t 8)])) [2] (.one (Ic 11 (.call 77 [(.t 6), (.t 9), (.t 10)])) [5, 1] (.one (Ic 12 (.call 76 [(.t 5), (.t 11)])) [0] (.take 8 (Iq 4 (.mv (.t 12))) .done))))))))))
 .ret))⟩
theorem l_impl_shifted_1 : lowF PA f_impl_shifted_1 3 [.s (.take 0 (.take 1 (.take 2 (.take 3 (.take 5 (.one 4 (.one 6 (.one 7 (.take 8 .done)))))))))] = some c_impl_shifted_1 := by kernel_rfl
abbrev f_impl_wordOf : FuncId := 76
def c_impl_wordOf : AF := ⟨2, 26, [.t 4],
 (.seq (.reg [(Im 2 (.box (.t 0))),
 (Im 3 (.box (.t 1))),
 (Iq 4 (.mv (.c (.int .i64 0))))])
 (.seq (.reg [(Iq 5 (.mv (.c (.int .i64 0))))])
 (.seq (.seq (.reg [(Iq 8 (.fad 0 (.t 2))),
 (Iq 9 (.ld false 1 (.t 8))),
 (Iq 10 (.len (.t 9))),
 (Iq 11 (.mv (.c (.int .i64 0))))])
 (.block 0 (.loop [3, 5, 9, 10, 11] (.seq (.reg [(Iq 12 (.bin .lss (.t 11) (.t 10)))])
 (.seq (.cond (.t 12)
 .skip
 (.exit 0))
 (.seq (.block 1 (.seq (.reg [(Iq 13 (.mv (.t 11))),
 (Iq 14 (.ixs 1 (.t 9) (.t 11))),
 (Iq 15 (.ld false 1 (.t 14))),
 (Iq 6 (.mv (.t 13))),
 (Iq 7 (.mv (.t 15)))])
 (.reg [(Iq 16 (.mv (.t 5))),
 (Iq 17 (.mv (.t 7))),
 (Iq 18 (.bin .mul (.t 16) (.t 17))),
 (Iq 19 (.mv (.t 6))),
 (Iq 20 (.ixa 8 1 (.t 3) (.t 19))),
 (Iq 21 (.ld false 1 (.t 20))),
 (Iq 22 (.cvt .i64 (.t 21))),
 (Iq 23 (.bin .add (.t 18) (.t 22))),
 (Iq 5 (.mv (.t 23)))])))
 (.reg [(Iq 24 (.bin .add (.t 11) (.c (.int .i64 1)))),
 (Iq 11 (.mv (.t 24)))])))))))
 (.seq (.reg [(Iq 25 (.mv (.t 5))),
 (Iq 4 (.mv (.t 25)))])
 .ret))))⟩
theorem l_impl_wordOf : lowF PA f_impl_wordOf 2 [.k [3, 5, 9, 10, 11]] = some c_impl_wordOf := by kernel_rfl
abbrev f_impl_sumOf : FuncId := 77
def c_impl_sumOf : AF := ⟨3, 35, [.c 6 true 8],
 (.seq (.reg [(Im 3 (.box (.t 0))),
 (Im 4 (.box (.t 1))),
 (Im 5 (.box (.t 2))),
 (Im 6 (.alloc [(.v (.int .u8 0)), (.v (.int .u8 0)), (.v (.int .u8 0)), (.v (.int .u8 0)), (.v (.int .u8 0)), (.v (.int .u8 0)), (.v (.int .u8 0)), (.v (.int .u8 0))]))])
 (.seq (.reg [(Iq 10 (.bld [(.v (.int .u8 0)), (.v (.int .u8 0)), (.v (.int .u8 0)), (.v (.int .u8 0)), (.v (.int .u8 0)), (.v (.int .u8 0)), (.v (.int .u8 0)), (.v (.int .u8 0))] [])),
 (Im 7 (.alloc [(.v (.int .u8 0)), (.v (.int .u8 0)), (.v (.int .u8 0)), (.v (.int .u8 0)), (.v (.int .u8 0)), (.v (.int .u8 0)), (.v (.int .u8 0)), (.v (.int .u8 0))])),
 ⟨none, none, .m (.st true 8 (.t 7) (.t 10))⟩])
 (.seq (.seq (.reg [(Iq 11 (.fad 0 (.t 3))),
 (Iq 12 (.ld false 1 (.t 11))),
 (Iq 13 (.len (.t 12))),
 (Iq 14 (.mv (.c (.int .i64 0))))])
 (.block 0 (.loop [4, 5, 6, 7, 12, 13, 14] (.seq (.reg [(Iq 15 (.bin .lss (.t 14) (.t 13)))])
 (.seq (.cond (.t 15)
 .skip
 (.exit 0))
 (.seq (.block 1 (.seq (.reg [(Iq 16 (.mv (.t 14))),
 (Iq 17 (.ixs 1 (.t 12) (.t 14))),
 (Iq 18 (.ld false 1 (.t 17))),
 (Iq 8 (.mv (.t 16))),
 (Iq 9 (.mv (.t 18)))])
 (.sch (.take 0 (Iq 19 (.mv (.t 8))) (.take 1 (Iq 20 (.mv (.t 8))) (.take 2 (Iq 21 (.ixa 8 1 (.t 4) (.t 20))) (.take 3 (Iq 22 (.ld false 1 (.t 21))) (.take 4 (Iq 23 (.cvt .i64 (.t 22))) (.take 5 (Iq 24 (.mv (.t 8))) (.take 6 (Iq 25 (.ixa 8 1 (.t 5) (.t 24))) (.take 7 (Iq 26 (.ld false 1 (.t 25))) (.take 8 (Iq 27 (.cvt .i64 (.t 26))) (.take 9 (Iq 28 (.bin .add (.t 23) (.t 27))) (.take 10 (Iq 29 (.mv (.t 9))) (.take 11 (Iq 30 (.bin .rem (.t 28) (.t 29))) (.take 12 (Iq 31 (.cvt .u8 (.t 30))) (.take 13 (Iq 32 (.ixa 8 1 (.t 7) (.t 19))) (.one ⟨none, none, .m (.st false 1 (.t 32) (.t 31))⟩ [7, 3] .done))))))))))))))))))
 (.reg [(Iq 33 (.bin .add (.t 14) (.c (.int .i64 1)))),
 (Iq 14 (.mv (.t 33)))])))))))
 (.seq (.reg [(Iq 34 (.ld true 8 (.t 7))),
 ⟨none, none, .m (.st true 8 (.t 6) (.t 34))⟩])
 .ret))))⟩
theorem l_impl_sumOf : lowF PA f_impl_sumOf 3 [.k [4, 5, 6, 7, 12, 13, 14], .s (.take 0 (.take 1 (.take 2 (.take 3 (.take 4 (.take 5 (.take 6 (.take 7 (.take 8 (.take 9 (.take 10 (.take 11 (.take 12 (.take 13 (.one 14 .done)))))))))))))))] = some c_impl_sumOf := by kernel_rfl
abbrev f_slices_Grow___int64_int64_ : FuncId := 78
def c_slices_Grow___int64_int64_ : AF := ⟨2, 27, [.t 4],
 (.seq (.reg [(Iq 4 (.mv (.c (.slice none 0 0))))])
 (.seq (.seq (.reg [(Iq 5 (.mv (.t 1))),
 (Iq 6 (.bin .lss (.t 5) (.c (.int .i64 0))))])
 (.cond (.t 6)
 .bad
 .skip))
 (.seq (.seq (.reg [(Iq 8 (.mv (.t 1))),
 (Iq 9 (.mv (.t 0))),
 (Iq 10 (.cap (.t 9))),
 (Iq 11 (.mv (.t 0))),
 (Iq 12 (.len (.t 11))),
 (Iq 13 (.bin .sub (.t 10) (.t 12))),
 (Iq 14 (.bin .sub (.t 8) (.t 13))),
 (Iq 1 (.mv (.t 14)))])
 (.seq (.reg [(Iq 15 (.mv (.t 1))),
 (Iq 16 (.bin .gtr (.t 15) (.c (.int .i64 0))))])
 (.cond (.t 16)
 (.reg [(Iq 17 (.mv (.t 0))),
 (Iq 18 (.mv (.t 0))),
 (Iq 19 (.cap (.t 18))),
 (Iq 20 (.slc 1 (.t 17) none (some (.t 19)))),
 (Iq 21 (.mv (.t 1))),
 (Im 22 (.apm 1 (.v (.int .i64 0)) 8 (.t 20) (.t 21))),
 (Iq 23 (.mv (.t 0))),
 (Iq 24 (.len (.t 23))),
 (Iq 25 (.slc 1 (.t 22) none (some (.t 24)))),
 (Iq 0 (.mv (.t 25)))])
 .skip)))
 (.seq (.reg [(Iq 26 (.mv (.t 0))),
 (Iq 4 (.mv (.t 26)))])
 .ret))))⟩
theorem l_slices_Grow___int64_int64_ : lowF PA f_slices_Grow___int64_int64_ 2 [.x 2] = some c_slices_Grow___int64_int64_ := by kernel_rfl
abbrev f_slices_pdqsortOrdered_int64_ : FuncId := 79
abbrev f_math_bits_Len : FuncId := 80
abbrev f_spec_l01Has : FuncId := 81
def c_spec_l01Has : AF := ⟨2, 18, [.t 4],
 (.seq (.reg [(Iq 4 (.mv (.c (.bool false))))])
 (.seq (.seq (.reg [(Iq 5 (.mv (.c (.int .i64 0))))])
 (.block 0 (.loop [0, 1, 5] (.seq (.seq (.reg [(Iq 6 (.mv (.t 5))),
 (Iq 7 (.mv (.t 0))),
 (Iq 8 (.len (.t 7))),
 (Iq 9 (.bin .lss (.t 6) (.t 8)))])
 (.cond (.t 9)
 .skip
 (.exit 0)))
 (.seq (.block 1 (.seq (.reg [(Iq 12 (.mv (.t 0))),
 (Iq 13 (.mv (.t 5))),
 (Iq 14 (.ixs 1 (.t 12) (.t 13))),
 (Iq 15 (.ld false 1 (.t 14))),
 (Iq 16 (.mv (.t 1))),
 (Iq 17 (.bin .eql (.t 15) (.t 16)))])
 (.cond (.t 17)
 (.seq (.reg [(Iq 4 (.mv (.c (.bool true))))])
 .ret)
 .skip)))
 (.reg [(Iq 10 (.mv (.t 5))),
 (Iq 11 (.bin .add (.t 10) (.c (.int .i64 1)))),
 (Iq 5 (.mv (.t 11)))]))))))
 (.seq (.reg [(Iq 4 (.mv (.c (.bool false))))])
 .ret)))⟩
theorem l_spec_l01Has : lowF PA f_spec_l01Has 2 [.k [0, 1, 5]] = some c_spec_l01Has := by kernel_rfl
abbrev f_spec_l01Sum : FuncId := 82
def c_spec_l01Sum : AF := ⟨3, 43, [.t 6],
 (.seq (.reg [(Im 3 (.box (.t 0))),
 (Iq 6 (.mv (.c (.int .i64 0))))])
 (.seq (.sch (.take 0 (Iq 10 (.ld true 1 (.t 3))) (.take 1 (Iq 11 (.mv (.t 1))) (.take 3 (Iq 13 (.ld true 1 (.t 3))) (.take 4 (Iq 14 (.mv (.t 2))) (.one (Ic 12 (.call 62 [(.t 10), (.t 11)])) [0] (.one (Ic 15 (.call 62 [(.t 13), (.t 14)])) [3] (.take 6 (Iq 7 (.mv (.t 12))) (.take 7 (Iq 8 (.mv (.t 15))) .done)))))))))
 (.seq (.seq (.reg [(Iq 16 (.mv (.t 7))),
 (Iq 17 (.len (.t 16))),
 (Iq 18 (.mv (.c (.int .i64 0))))])
 (.block 0 (.loop [3, 7, 8, 17, 18] (.seq (.reg [(Iq 19 (.bin .lss (.t 18) (.t 17)))])
 (.seq (.cond (.t 19)
 .skip
 (.exit 0))
 (.seq (.block 1 (.seq (.reg [(Iq 20 (.mv (.t 18))),
 (Iq 9 (.mv (.t 20)))])
 (.sch (.take 0 (Iq 21 (.mv (.t 7))) (.take 1 (Iq 22 (.mv (.t 9))) (.take 2 (Iq 23 (.mv (.t 7))) (.take 3 (Iq 24 (.mv (.t 9))) (.take 4 (Iq 25 (.ixs 1 (.t 23) (.t 24))) (.take 5 (Iq 26 (.ld false 1 (.t 25))) (.take 6 (Iq 27 (.mv (.t 8))) (.take 7 (Iq 28 (.mv (.t 9))) (.take 8 (Iq 29 (.ixs 1 (.t 27) (.t 28))) (.take 9 (Iq 30 (.ld false 1 (.t 29))) (.take 10 (Iq 31 (.bin .add (.t 26) (.t 30))) (.take 11 (Iq 32 (.fad 0 (.t 3))) (.take 12 (Iq 33 (.ld false 1 (.t 32))) (.take 13 (Iq 34 (.mv (.t 9))) (.take 14 (Iq 35 (.ixs 1 (.t 33) (.t 34))) (.take 15 (Iq 36 (.ld false 1 (.t 35))) (.take 16 (Iq 37 (.bin .rem (.t 31) (.t 36))) (.take 17 (Iq 38 (.ixs 1 (.t 21) (.t 22))) (.one ⟨none, none, .m (.st false 1 (.t 38) (.t 37))⟩ [15, 12, 9, 5] .done))))))))))))))))))))))
 (.reg [(Iq 39 (.bin .add (.t 18) (.c (.int .i64 1)))),
 (Iq 18 (.mv (.t 39)))])))))))
 (.seq (.reg [(Iq 40 (.ld true 1 (.t 3))),
 (Iq 41 (.mv (.t 7))),
 (Ic 42 (.call 114 [(.t 40), (.t 41)])),
 (Iq 6 (.mv (.t 42)))])
 .ret))))⟩
theorem l_spec_l01Sum : lowF PA f_spec_l01Sum 3 [.s (.take 0 (.take 1 (.take 3 (.take 4 (.one 2 (.one 5 (.take 6 (.take 7 .done)))))))), .k [3, 7, 8, 17, 18], .s (.take 0 (.take 1 (.take 2 (.take 3 (.take 4 (.take 5 (.take 6 (.take 7 (.take 8 (.take 9 (.take 10 (.take 11 (.take 12 (.take 13 (.take 14 (.take 15 (.take 16 (.take 17 (.one 18 .done)))))))))))))))))))] = some c_spec_l01Sum := by kernel_rfl
abbrev f_spec_l01Shifted : FuncId := 83
def c_spec_l01Shifted : AF := ⟨3, 26, [.t 6],
 (.seq (.reg [(Im 3 (.box (.t 0))),
 (Iq 6 (.mv (.c (.slice none 0 0))))])
 (.seq (.reg [(Im 9 (.bsl 1 [])),
 (Iq 7 (.mv (.t 9)))])
 (.seq (.seq (.reg [(Iq 10 (.mv (.t 1))),
 (Iq 11 (.len (.t 10))),
 (Iq 12 (.mv (.c (.int .i64 0))))])
 (.block 0 (.loop [1, 2, 3, 7, 11, 12] (.seq (.reg [(Iq 13 (.bin .lss (.t 12) (.t 11)))])
 (.seq (.cond (.t 13)
 .skip
 (.exit 0))
 (.seq (.block 1 (.seq (.reg [(Iq 14 (.mv (.t 12))),
 (Iq 8 (.mv (.t 14)))])
 (.sch (.take 0 (Iq 15 (.mv (.t 7))) (.take 1 (Iq 16 (.ld true 1 (.t 3))) (.take 2 (Iq 17 (.mv (.t 1))) (.take 3 (Iq 18 (.mv (.t 8))) (.take 4 (Iq 19 (.ixs 1 (.t 17) (.t 18))) (.take 5 (Iq 20 (.ld false 1 (.t 19))) (.take 6 (Iq 21 (.mv (.t 2))) (.one (Ic 22 (.call 82 [(.t 16), (.t 20), (.t 21)])) [5, 1] (.one (Ic 23 (.call 115 [(.t 15), (.t 22)])) [] (.take 9 (Iq 7 (.mv (.t 23))) .done)))))))))))))
 (.reg [(Iq 24 (.bin .add (.t 12) (.c (.int .i64 1)))),
 (Iq 12 (.mv (.t 24)))])))))))
 (.seq (.reg [(Iq 25 (.mv (.t 7))),
 (Iq 6 (.mv (.t 25)))])
 .ret))))⟩
theorem l_spec_l01Shifted : lowF PA f_spec_l01Shifted 3 [.k [1, 2, 3, 7, 11, 12], .s (.take 0 (.take 1 (.take 2 (.take 3 (.take 4 (.take 5 (.take 6 (.one 7 (.one 8 (.take 9 .done))))))))))] = some c_spec_l01Shifted := by kernel_rfl
abbrev f_spec_l05Set : FuncId := 84
def c_spec_l05Set : AF := ⟨2, 23, [.t 4],
 (.seq (.reg [(Im 2 (.box (.t 0))),
 (Iq 4 (.mv (.c (.slice none 0 0))))])
 (.seq (.reg [(Iq 7 (.ld true 1 (.t 2))),
 (Ic 8 (.call 35 [(.t 7)])),
 (Im 9 (.mks 1 (.v (.bool false)) 1 (.t 8) (.t 8))),
 (Iq 5 (.mv (.t 9)))])
 (.seq (.seq (.reg [(Iq 10 (.mv (.t 1))),
 (Iq 11 (.len (.t 10))),
 (Iq 12 (.mv (.c (.int .i64 0))))])
 (.block 0 (.loop [1, 5, 11, 12] (.seq (.reg [(Iq 13 (.bin .lss (.t 12) (.t 11)))])
 (.seq (.cond (.t 13)
 .skip
 (.exit 0))
 (.seq (.block 1 (.seq (.reg [(Iq 14 (.mv (.t 12))),
 (Iq 6 (.mv (.t 14)))])
 (.reg [(Iq 15 (.mv (.t 5))),
 (Iq 16 (.mv (.t 1))),
 (Iq 17 (.mv (.t 6))),
 (Iq 18 (.ixs 1 (.t 16) (.t 17))),
 (Iq 19 (.ld false 1 (.t 18))),
 (Iq 20 (.ixs 1 (.t 15) (.t 19))),
 ⟨none, none, .m (.st false 1 (.t 20) (.c (.bool true)))⟩])))
 (.reg [(Iq 21 (.bin .add (.t 12) (.c (.int .i64 1)))),
 (Iq 12 (.mv (.t 21)))])))))))
 (.seq (.reg [(Iq 22 (.mv (.t 5))),
 (Iq 4 (.mv (.t 22)))])
 .ret))))⟩
theorem l_spec_l05Set : lowF PA f_spec_l05Set 2 [.k [1, 5, 11, 12]] = some c_spec_l05Set := by kernel_rfl
abbrev f_slices_ContainsFunc___int64_int64_ : FuncId := 85
def c_slices_ContainsFunc___int64_int64_ : AF := ⟨2, 9, [.t 4],
 (.seq (.reg [(Iq 4 (.mv (.c (.bool false))))])
 (.seq (.reg [(Iq 5 (.mv (.t 0))),
 (Iq 6 (.mv (.t 1))),
 (Ic 7 (.call 116 [(.t 5), (.t 6)])),
 (Iq 8 (.bin .geq (.t 7) (.c (.int .i64 0)))),
 (Iq 4 (.mv (.t 8)))])
 .ret))⟩
theorem l_slices_ContainsFunc___int64_int64_ : lowF PA f_slices_ContainsFunc___int64_int64_ 2 [] = some c_slices_ContainsFunc___int64_int64_ := by kernel_rfl
abbrev f_impl_isPlain_1 : FuncId := 86
def c_impl_isPlain_1 : AF := ⟨2, 7, [.t 3],
 (.seq (.reg [(Iq 3 (.mv (.c (.bool false))))])
 (.seq (.reg [(Iq 4 (.mv (.t 0))),
 (Iq 5 (.ld false 1 (.t 1))),
 (Iq 6 (.bin .neq (.t 4) (.t 5))),
 (Iq 3 (.mv (.t 6)))])
 .ret))⟩
theorem l_impl_isPlain_1 : lowF PA f_impl_isPlain_1 2 [] = some c_impl_isPlain_1 := by kernel_rfl
abbrev f_spec_l01In : FuncId := 87
def c_spec_l01In : AF := ⟨3, 15, [.t 6],
 (.seq (.reg [(Iq 6 (.mv (.c (.bool false))))])
 (.seq (.reg [(Iq 7 (.mv (.t 0))),
 (Iq 8 (.mv (.t 1))),
 (Iq 9 (.bin .geq (.t 7) (.t 8))),
 (Iq 10 (.mv (.t 9))),
 ⟨(some 11), (some (10, true)), .q (.mv (.t 0))⟩,
 ⟨(some 12), (some (10, true)), .q (.mv (.t 2))⟩,
 ⟨(some 13), (some (10, true)), .q (.bin .leq (.t 11) (.t 12))⟩,
 (Iq 14 (.pick (.t 10) (.t 13) (.c (.bool false)))),
 (Iq 6 (.mv (.t 14)))])
 .ret))⟩
theorem l_spec_l01In : lowF PA f_spec_l01In 3 [] = some c_spec_l01In := by kernel_rfl
abbrev f_impl_wordCode : FuncId := 88
def c_impl_wordCode : AF := ⟨2, 14, [.t 4],
 (.seq (.reg [(Im 2 (.box (.t 0))),
 (Iq 4 (.mv (.c (.int .i64 0))))])
 (.seq (.block 0 (.seq (.reg [(Iq 6 (.ld true 1 (.t 2))),
 (Ic 7 (.call 44 [(.t 6)])),
 (Iq 8 (.un .not (.t 7))),
 (Iq 5 (.mv (.t 8)))])
 (.cond (.t 5)
 (.seq (.reg [(Iq 4 (.mv (.c (.int .i64 1))))])
 .ret)
 (.seq (.reg [(Iq 10 (.ld true 1 (.t 2))),
 (Iq 11 (.mv (.t 1))),
 (Ic 12 (.call 71 [(.t 10), (.t 11)])),
 (Iq 13 (.un .not (.t 12))),
 (Iq 9 (.mv (.t 13)))])
 (.cond (.t 9)
 (.seq (.reg [(Iq 4 (.mv (.c (.int .i64 2))))])
 .ret)
 .skip)))))
 (.seq (.reg [(Iq 4 (.mv (.c (.int .i64 0))))])
 .ret)))⟩
theorem l_impl_wordCode : lowF PA f_impl_wordCode 2 [] = some c_impl_wordCode := by kernel_rfl
abbrev f_impl_isCode : FuncId := 89
def c_impl_isCode : AF := ⟨2, 33, [.t 4],
 (.seq (.reg [(Im 2 (.box (.t 0))),
 (Iq 4 (.mv (.c (.bool false))))])
 (.seq (.seq (.reg [(Iq 6 (.mv (.t 1))),
 (Iq 7 (.len (.t 6))),
 (Iq 8 (.ld true 1 (.t 2))),
 (Ic 9 (.call 54 [(.t 8)])),
 (Iq 10 (.bin .gtr (.t 7) (.t 9))),
 (Iq 11 (.mv (.t 10))),
 ⟨(some 12), (some (11, false)), .q (.ld true 1 (.t 2))⟩,
 ⟨(some 13), (some (11, false)), .q (.mv (.t 1))⟩,
 ⟨(some 14), (some (11, false)), .c (.call 71 [(.t 12), (.t 13)])⟩,
 ⟨(some 15), (some (11, false)), .q (.un .not (.t 14))⟩,
 (Iq 16 (.pick (.t 11) (.c (.bool true)) (.t 15)))])
 (.cond (.t 16)
 (.seq (.reg [(Iq 4 (.mv (.c (.bool false))))])
 .ret)
 .skip))
 (.seq (.seq (.reg [(Iq 5 (.mv (.c (.int .i64 1))))])
 (.block 0 (.loop [1, 5] (.seq (.seq (.reg [(Iq 17 (.mv (.t 5))),
 (Iq 18 (.mv (.t 1))),
 (Iq 19 (.len (.t 18))),
 (Iq 20 (.bin .lss (.t 17) (.t 19)))])
 (.cond (.t 20)
 .skip
 (.exit 0)))
 (.seq (.block 1 (.seq (.sch (.take 0 (Iq 23 (.mv (.t 1))) (.take 1 (Iq 24 (.mv (.t 5))) (.take 2 (Iq 25 (.ixs 1 (.t 23) (.t 24))) (.take 3 (Iq 26 (.ld false 1 (.t 25))) (.take 4 (Iq 27 (.mv (.t 1))) (.take 5 (Iq 28 (.mv (.t 5))) (.take 6 (Iq 29 (.bin .sub (.t 28) (.c (.int .i64 1)))) (.take 7 (Iq 30 (.ixs 1 (.t 27) (.t 29))) (.take 8 (Iq 31 (.ld false 1 (.t 30))) (.take 9 (Iq 32 (.bin .leq (.t 26) (.t 31))) .done)))))))))))
 (.cond (.t 32)
 (.seq (.reg [(Iq 4 (.mv (.c (.bool false))))])
 .ret)
 .skip)))
 (.reg [(Iq 21 (.mv (.t 5))),
 (Iq 22 (.bin .add (.t 21) (.c (.int .i64 1)))),
 (Iq 5 (.mv (.t 22)))]))))))
 (.seq (.reg [(Iq 4 (.mv (.c (.bool true))))])
 .ret))))⟩
theorem l_impl_isCode : lowF PA f_impl_isCode 2 [.k [1, 5], .s (.take 0 (.take 1 (.take 2 (.take 3 (.take 4 (.take 5 (.take 6 (.take 7 (.take 8 (.take 9 .done))))))))))] = some c_impl_isCode := by kernel_rfl
abbrev f_impl_marks : FuncId := 90
def c_impl_marks : AF := ⟨2, 22, [.t 4],
 (.seq (.reg [(Im 2 (.box (.t 0))),
 (Iq 4 (.mv (.c (.slice none 0 0))))])
 (.seq (.reg [(Iq 8 (.ld true 1 (.t 2))),
 (Ic 9 (.call 54 [(.t 8)])),
 (Im 10 (.mks 1 (.v (.bool false)) 1 (.t 9) (.t 9))),
 (Iq 5 (.mv (.t 10)))])
 (.seq (.seq (.reg [(Iq 11 (.mv (.t 1))),
 (Iq 12 (.len (.t 11))),
 (Iq 13 (.mv (.c (.int .i64 0))))])
 (.block 0 (.loop [5, 11, 12, 13] (.seq (.reg [(Iq 14 (.bin .lss (.t 13) (.t 12)))])
 (.seq (.cond (.t 14)
 .skip
 (.exit 0))
 (.seq (.block 1 (.seq (.reg [(Iq 15 (.ixs 1 (.t 11) (.t 13))),
 (Iq 16 (.ld false 1 (.t 15))),
 (Iq 7 (.mv (.t 16)))])
 (.reg [(Iq 17 (.mv (.t 5))),
 (Iq 18 (.mv (.t 7))),
 (Iq 19 (.ixs 1 (.t 17) (.t 18))),
 ⟨none, none, .m (.st false 1 (.t 19) (.c (.bool true)))⟩])))
 (.reg [(Iq 20 (.bin .add (.t 13) (.c (.int .i64 1)))),
 (Iq 13 (.mv (.t 20)))])))))))
 (.seq (.reg [(Iq 21 (.mv (.t 5))),
 (Iq 4 (.mv (.t 21)))])
 .ret))))⟩
theorem l_impl_marks : lowF PA f_impl_marks 2 [.k [5, 11, 12, 13]] = some c_impl_marks := by kernel_rfl
abbrev f_impl_those : FuncId := 91
def c_impl_those : AF := ⟨2, 26, [.t 4],
 (.seq (.reg [(Im 2 (.box (.t 0))),
 (Iq 4 (.mv (.c (.slice none 0 0))))])
 (.seq (.reg [(Im 8 (.bsl 1 [])),
 (Iq 5 (.mv (.t 8)))])
 (.seq (.seq (.reg [(Iq 9 (.ld true 1 (.t 2))),
 (Ic 10 (.call 117 [(.t 9)])),
 (Iq 11 (.len (.t 10))),
 (Iq 12 (.mv (.c (.int .i64 0))))])
 (.block 0 (.loop [1, 5, 10, 11, 12] (.seq (.reg [(Iq 13 (.bin .lss (.t 12) (.t 11)))])
 (.seq (.cond (.t 13)
 .skip
 (.exit 0))
 (.seq (.block 1 (.seq (.reg [(Iq 14 (.mv (.t 12))),
 (Iq 15 (.ixs 8 (.t 10) (.t 12))),
 (Iq 16 (.ld true 8 (.t 15))),
 (Im 7 (.alloc [(.v (.int .u8 0)), (.v (.int .u8 0)), (.v (.int .u8 0)), (.v (.int .u8 0)), (.v (.int .u8 0)), (.v (.int .u8 0)), (.v (.int .u8 0)), (.v (.int .u8 0))])),
 (Iq 6 (.mv (.t 14))),
 ⟨none, none, .m (.st true 8 (.t 7) (.t 16))⟩])
 (.seq (.reg [(Iq 17 (.mv (.t 1))),
 (Iq 18 (.ld true 8 (.t 7))),
 (Ic 19 (.cav (.t 17) [(.t 18)]))])
 (.cond (.t 19)
 (.reg [(Iq 20 (.mv (.t 5))),
 (Iq 21 (.mv (.t 6))),
 (Im 22 (.bsl 1 [(.t 21)])),
 (Im 23 (.app 1 8 (.t 20) (.t 22))),
 (Iq 5 (.mv (.t 23)))])
 .skip))))
 (.reg [(Iq 24 (.bin .add (.t 12) (.c (.int .i64 1)))),
 (Iq 12 (.mv (.t 24)))])))))))
 (.seq (.reg [(Iq 25 (.mv (.t 5))),
 (Iq 4 (.mv (.t 25)))])
 .ret))))⟩
theorem l_impl_those : lowF PA f_impl_those 2 [.k [1, 5, 10, 11, 12]] = some c_impl_those := by kernel_rfl
abbrev f_impl_dual_1 : FuncId := 92
def c_impl_dual_1 : AF := ⟨3, 9, [.t 4],
 (.seq (.reg [(Im 3 (.box (.t 0))),
 (Iq 4 (.mv (.c (.bool false))))])
 (.seq (.reg [(Iq 5 (.ld false 1 (.t 1))),
 (Iq 6 (.mkf 94 [(.t 2), (.t 3)])),
 (Ic 7 (.call 93 [(.t 5), (.t 6)])),
 (Iq 8 (.un .not (.t 7))),
 (Iq 4 (.mv (.t 8)))])
 .ret))⟩
theorem l_impl_dual_1 : lowF PA f_impl_dual_1 3 [] = some c_impl_dual_1 := by kernel_rfl
abbrev f_slices_ContainsFunc___impl_digits_impl_digits_ : FuncId := 93
def c_slices_ContainsFunc___impl_digits_impl_digits_ : AF := ⟨2, 9, [.t 4],
 (.seq (.reg [(Iq 4 (.mv (.c (.bool false))))])
 (.seq (.reg [(Iq 5 (.mv (.t 0))),
 (Iq 6 (.mv (.t 1))),
 (Ic 7 (.call 118 [(.t 5), (.t 6)])),
 (Iq 8 (.bin .geq (.t 7) (.c (.int .i64 0)))),
 (Iq 4 (.mv (.t 8)))])
 .ret))⟩
theorem l_slices_ContainsFunc___impl_digits_impl_digits_ : lowF PA f_slices_ContainsFunc___impl_digits_impl_digits_ 2 [] = some c_slices_ContainsFunc___impl_digits_impl_digits_ := by kernel_rfl
abbrev f_impl_dual_1_1 : FuncId := 94
def c_impl_dual_1_1 : AF := ⟨3, 10, [.t 4],
 (.seq (.reg [(Im 3 (.box (.t 0))),
 (Iq 4 (.mv (.c (.bool false))))])
 (.seq (.reg [(Iq 5 (.ld true 1 (.t 1))),
 (Iq 6 (.ld true 8 (.t 2))),
 (Iq 7 (.ld true 8 (.t 3))),
 (Ic 8 (.call 56 [(.t 5), (.t 6), (.t 7)])),
 (Iq 9 (.bin .neq (.t 8) (.c (.int .i64 0)))),
 (Iq 4 (.mv (.t 9)))])
 .ret))⟩
theorem l_impl_dual_1_1 : lowF PA f_impl_dual_1_1 3 [] = some c_impl_dual_1_1 := by kernel_rfl
abbrev f_impl_firstDigit : FuncId := 95
def c_impl_firstDigit : AF := ⟨1, 5, [.t 2],
 (.seq (.reg [(Im 1 (.box (.t 0))),
 (Iq 2 (.mv (.c (.int .i64 0))))])
 (.seq (.reg [(Im 3 (.sla 8 1 (.t 1))),
 (Ic 4 (.call 119 [(.t 3), (.f 120)])),
 (Iq 2 (.mv (.t 4)))])
 .ret))⟩
theorem l_impl_firstDigit : lowF PA f_impl_firstDigit 1 [] = some c_impl_firstDigit := by kernel_rfl
abbrev f_impl_places : FuncId := 96
def c_impl_places : AF := ⟨1, 6, [.t 2],
 (.seq (.reg [(Im 1 (.box (.t 0))),
 (Iq 2 (.mv (.c (.int .i64 0))))])
 (.seq (.reg [(Iq 3 (.fad 0 (.t 1))),
 (Iq 4 (.ld false 1 (.t 3))),
 (Iq 5 (.len (.t 4))),
 (Iq 2 (.mv (.t 5)))])
 .ret))⟩
theorem l_impl_places : lowF PA f_impl_places 1 [] = some c_impl_places := by kernel_rfl
abbrev f_impl_far : FuncId := 97
def c_impl_far : AF := ⟨2, 22, [.t 4],
 (.seq (.reg [(Im 2 (.box (.t 0))),
 (Im 3 (.box (.t 1))),
 (Iq 4 (.mv (.c (.int .i64 0))))])
 (.seq (.reg [(Iq 5 (.mv (.c (.int .i64 0))))])
 (.seq (.seq (.reg [(Iq 8 (.ld true 8 (.t 2))),
 (Iq 9 (.mv (.c (.int .i64 0))))])
 (.block 0 (.loop [3, 5, 8, 9] (.seq (.reg [(Iq 10 (.bin .lss (.t 9) (.c (.int .i64 8))))])
 (.seq (.cond (.t 10)
 .skip
 (.exit 0))
 (.seq (.block 1 (.seq (.reg [(Iq 11 (.mv (.t 9))),
 (Iq 12 (.ixv 8 (.t 8) (.t 9))),
 (Iq 6 (.mv (.t 11))),
 (Iq 7 (.mv (.t 12)))])
 (.seq (.reg [(Iq 13 (.mv (.t 7))),
 (Iq 14 (.mv (.t 6))),
 (Iq 15 (.ixa 8 1 (.t 3) (.t 14))),
 (Iq 16 (.ld false 1 (.t 15))),
 (Iq 17 (.bin .neq (.t 13) (.t 16)))])
 (.cond (.t 17)
 (.reg [(Iq 18 (.mv (.t 5))),
 (Iq 19 (.bin .add (.t 18) (.c (.int .i64 1)))),
 (Iq 5 (.mv (.t 19)))])
 .skip))))
 (.reg [(Iq 20 (.bin .add (.t 9) (.c (.int .i64 1)))),
 (Iq 9 (.mv (.t 20)))])))))))
 (.seq (.reg [(Iq 21 (.mv (.t 5))),
 (Iq 4 (.mv (.t 21)))])
 .ret))))⟩
theorem l_impl_far : lowF PA f_impl_far 2 [.k [3, 5, 8, 9]] = some c_impl_far := by kernel_rfl
abbrev f_spec_l05Draw : FuncId := 98
def c_spec_l05Draw : AF := ⟨1, 37, [.c 2 true 1, .t 3],
 (.seq (.reg [(Im 2 (.alloc [(.v (.slice none 0 0))])),
 (Iq 3 (.mv (.c (.slice none 0 0))))])
 (.seq (.reg [(Iq 6 (.mv (.t 0))),
 (Ic 7 (.call 31 [(.t 6)])),
 (Im 4 (.alloc [(.v (.slice none 0 0))])),
 ⟨none, none, .m (.st true 1 (.t 4) (.t 7))⟩])
 (.seq (.seq (.reg [(Iq 8 (.ld true 1 (.t 4))),
 (Ic 9 (.call 47 [(.t 8)])),
 (Iq 10 (.un .not (.t 9)))])
 (.cond (.t 10)
 (.seq (.sch (.take 0 (Iq 11 (.ld true 1 (.t 4))) (.take 1 (Iq 12 (.mv (.t 0))) (.take 2 (Iq 13 (.ld true 1 (.t 4))) (.one (Ic 14 (.call 121 [(.t 12), (.t 13)])) [2] (.one ⟨none, none, .m (.st true 1 (.t 2) (.t 11))⟩ [0] (.take 5 (Iq 3 (.mv (.t 14))) .done)))))))
 .ret)
 .skip))
 (.seq (.sch (.take 0 (Iq 15 (.ld true 1 (.t 4))) (.take 1 (Iq 16 (.mv (.t 0))) (.take 2 (Iq 17 (.ld true 1 (.t 4))) (.one (Ic 18 (.call 32 [(.t 16), (.t 17)])) [2] (.one (Ic 19 (.call 43 [(.t 15), (.t 18)])) [0] (.take 5 (Iq 5 (.mv (.t 19))) .done)))))))
 (.seq (.seq (.reg [(Iq 20 (.mv (.t 0))),
 (Ic 21 (.call 33 [(.t 20), (.c (.int .i64 12))]))])
 (.block 0 (.seq (.reg [(Iq 23 (.bin .eql (.t 21) (.c (.int .i64 0)))),
 (Iq 22 (.mv (.t 23)))])
 (.cond (.t 22)
 (.reg [(Iq 24 (.mv (.t 0))),
 (Iq 25 (.ld true 1 (.t 4))),
 (Ic 26 (.call 121 [(.t 24), (.t 25)])),
 (Iq 5 (.mv (.t 26)))])
 (.seq (.reg [(Iq 28 (.bin .eql (.t 21) (.c (.int .i64 1)))),
 (Iq 27 (.mv (.t 28)))])
 (.cond (.t 27)
 (.reg [(Iq 29 (.mv (.t 5))),
 (Iq 30 (.mv (.t 0))),
 (Iq 31 (.ld true 1 (.t 4))),
 (Ic 32 (.call 35 [(.t 31)])),
 (Ic 33 (.call 33 [(.t 30), (.t 32)])),
 (Ic 34 (.call 115 [(.t 29), (.t 33)])),
 (Iq 5 (.mv (.t 34)))])
 .skip))))))
 (.seq (.reg [(Iq 35 (.ld true 1 (.t 4))),
 (Iq 36 (.mv (.t 5))),
 ⟨none, none, .m (.st true 1 (.t 2) (.t 35))⟩,
 (Iq 3 (.mv (.t 36)))])
 .ret))))))⟩
theorem l_spec_l05Draw : lowF PA f_spec_l05Draw 1 [.s (.take 0 (.take 1 (.take 2 (.one 3 (.one 4 (.take 5 .done)))))), .s (.take 0 (.take 1 (.take 2 (.one 3 (.one 4 (.take 5 .done))))))] = some c_spec_l05Draw := by kernel_rfl
abbrev f_spec_l01BadCode : FuncId := 99
def c_spec_l01BadCode : AF := ⟨3, 33, [.t 6],
 (.seq (.reg [(Im 4 (.box (.t 1))),
 (Iq 6 (.mv (.c (.slice none 0 0))))])
 (.seq (.reg [(Iq 8 (.mv (.t 2))),
 (Ic 9 (.call 70 [(.t 8)])),
 (Iq 7 (.mv (.t 9)))])
 (.seq (.seq (.reg [(Iq 10 (.mv (.t 0))),
 (Ic 11 (.call 33 [(.t 10), (.c (.int .i64 30))]))])
 (.block 0 (.seq (.reg [(Iq 13 (.bin .eql (.t 11) (.c (.int .i64 0)))),
 (Iq 12 (.mv (.t 13)))])
 (.cond (.t 12)
 (.seq (.reg [(Iq 14 (.mv (.t 7))),
 (Iq 15 (.mv (.t 0))),
 (Iq 16 (.ld true 1 (.t 4))),
 (Ic 17 (.call 35 [(.t 16)])),
 (Im 18 (.bsl 1 [(.c (.int .i64 (-1))), (.t 17), (.c (.int .i64 0)), (.c (.int .i64 1099511627776))])),
 (Ic 19 (.call 34 [(.t 15), (.t 18)])),
 (Im 20 (.bsl 1 [(.t 19)])),
 (Im 21 (.app 1 8 (.t 14) (.t 20))),
 (Iq 6 (.mv (.t 21)))])
 .ret)
 (.seq (.reg [(Iq 23 (.bin .eql (.t 11) (.c (.int .i64 1)))),
 (Iq 22 (.mv (.t 23)))])
 (.cond (.t 22)
 (.seq (.reg [(Iq 24 (.mv (.t 7))),
 (Iq 25 (.len (.t 24))),
 (Iq 26 (.bin .gtr (.t 25) (.c (.int .i64 1))))])
 (.cond (.t 26)
 (.reg [(Iq 27 (.mv (.t 7))),
 (Iq 28 (.mv (.t 7))),
 (Iq 29 (.ixs 1 (.t 28) (.c (.int .i64 1)))),
 (Iq 30 (.ld false 1 (.t 29))),
 (Iq 31 (.ixs 1 (.t 27) (.c (.int .i64 0)))),
 ⟨none, none, .m (.st false 1 (.t 31) (.t 30))⟩])
 .skip))
 .skip))))))
 (.seq (.reg [(Iq 32 (.mv (.t 7))),
 (Iq 6 (.mv (.t 32)))])
 .ret))))⟩
theorem l_spec_l01BadCode : lowF PA f_spec_l01BadCode 3 [] = some c_spec_l01BadCode := by kernel_rfl
abbrev f_spec_l01Code : FuncId := 100
def c_spec_l01Code : AF := ⟨2, 37, [.t 4],
 (.seq (.reg [(Im 2 (.box (.t 0))),
 (Iq 4 (.mv (.c (.bool false))))])
 (.seq (.seq (.reg [(Iq 5 (.mv (.c (.int .i64 0))))])
 (.block 0 (.loop [1, 2, 5] (.seq (.seq (.reg [(Iq 6 (.mv (.t 5))),
 (Iq 7 (.mv (.t 1))),
 (Iq 8 (.len (.t 7))),
 (Iq 9 (.bin .lss (.t 6) (.t 8)))])
 (.cond (.t 9)
 .skip
 (.exit 0)))
 (.seq (.block 1 (.seq (.sch (.take 0 (Iq 12 (.mv (.t 1))) (.take 1 (Iq 13 (.mv (.t 5))) (.take 2 (Iq 14 (.ixs 1 (.t 12) (.t 13))) (.take 3 (Iq 15 (.ld false 1 (.t 14))) (.take 4 (Iq 16 (.ld true 1 (.t 2))) (.one (Ic 17 (.call 35 [(.t 16)])) [4] (.take 6 (Iq 18 (.bin .sub (.t 17) (.c (.int .i64 1)))) (.one (Ic 19 (.call 87 [(.t 15), (.c (.int .i64 0)), (.t 18)])) [3] (.take 8 (Iq 20 (.un .not (.t 19))) (.take 9 (Iq 21 (.mv (.t 20))) (.take 10 ⟨(some 22), (some (21, false)), .q (.mv (.t 5))⟩ (.take 11 ⟨(some 23), (some (21, false)), .q (.bin .gtr (.t 22) (.c (.int .i64 0)))⟩ (.take 12 ⟨(some 24), (some (21, false)), .q (.mv (.t 23))⟩ (.take 13 ⟨(some 25), (some (24, true)), .q (.mv (.t 1))⟩ (.take 14 ⟨(some 26), (some (24, true)), .q (.mv (.t 5))⟩ (.take 15 ⟨(some 27), (some (24, true)), .q (.ixs 1 (.t 25) (.t 26))⟩ (.take 16 ⟨(some 28), (some (24, true)), .q (.ld false 1 (.t 27))⟩ (.take 17 ⟨(some 29), (some (24, true)), .q (.mv (.t 1))⟩ (.take 18 ⟨(some 30), (some (24, true)), .q (.mv (.t 5))⟩ (.take 19 ⟨(some 31), (some (24, true)), .q (.bin .sub (.t 30) (.c (.int .i64 1)))⟩ (.take 20 ⟨(some 32), (some (24, true)), .q (.ixs 1 (.t 29) (.t 31))⟩ (.take 21 ⟨(some 33), (some (24, true)), .q (.ld false 1 (.t 32))⟩ (.take 22 ⟨(some 34), (some (24, true)), .q (.bin .leq (.t 28) (.t 33))⟩ (.take 23 ⟨(some 35), (some (21, false)), .q (.pick (.t 24) (.t 34) (.c (.bool false)))⟩ (.take 24 (Iq 36 (.pick (.t 21) (.c (.bool true)) (.t 35))) .done))))))))))))))))))))))))))
 (.cond (.t 36)
 (.seq (.reg [(Iq 4 (.mv (.c (.bool false))))])
 .ret)
 .skip)))
 (.reg [(Iq 10 (.mv (.t 5))),
 (Iq 11 (.bin .add (.t 10) (.c (.int .i64 1)))),
 (Iq 5 (.mv (.t 11)))]))))))
 (.seq (.reg [(Iq 4 (.mv (.c (.bool true))))])
 .ret)))⟩
theorem l_spec_l01Code : lowF PA f_spec_l01Code 2 [.k [1, 2, 5], .s (.take 0 (.take 1 (.take 2 (.take 3 (.take 4 (.one 5 (.take 6 (.one 7 (.take 8 (.take 9 (.take 10 (.take 11 (.take 12 (.take 13 (.take 14 (.take 15 (.take 16 (.take 17 (.take 18 (.take 19 (.take 20 (.take 21 (.take 22 (.take 23 (.take 24 .done)))))))))))))))))))))))))] = some c_spec_l01Code := by kernel_rfl
abbrev f_spec_l01Distance : FuncId := 101
def c_spec_l01Distance : AF := ⟨3, 49, [.t 6],
 (.seq (.reg [(Im 3 (.box (.t 0))),
 (Iq 6 (.mv (.c (.int .i64 0))))])
 (.seq (.reg [(Iq 7 (.mv (.c (.int .i64 0))))])
 (.seq (.seq (.reg [(Iq 9 (.fad 0 (.t 3))),
 (Iq 10 (.ld false 1 (.t 9))),
 (Iq 11 (.len (.t 10))),
 (Iq 12 (.bin .sub (.t 11) (.c (.int .i64 1)))),
 (Iq 8 (.mv (.t 12)))])
 (.block 0 (.loop [1, 2, 3, 7, 8] (.seq (.seq (.reg [(Iq 13 (.mv (.t 8))),
 (Iq 14 (.bin .geq (.t 13) (.c (.int .i64 0))))])
 (.cond (.t 14)
 .skip
 (.exit 0)))
 (.seq (.block 1 (.seq (.seq (.sch (.take 0 (Iq 17 (.mv (.t 1))) (.take 1 (Iq 18 (.fad 0 (.t 3))) (.take 2 (Iq 19 (.ld false 1 (.t 18))) (.take 3 (Iq 20 (.mv (.t 8))) (.take 4 (Iq 21 (.ixs 1 (.t 19) (.t 20))) (.take 5 (Iq 22 (.ld false 1 (.t 21))) (.take 6 (Iq 23 (.bin .rem (.t 17) (.t 22))) (.take 7 (Iq 24 (.mv (.t 2))) (.take 8 (Iq 25 (.fad 0 (.t 3))) (.take 9 (Iq 26 (.ld false 1 (.t 25))) (.take 10 (Iq 27 (.mv (.t 8))) (.take 11 (Iq 28 (.ixs 1 (.t 26) (.t 27))) (.take 12 (Iq 29 (.ld false 1 (.t 28))) (.take 13 (Iq 30 (.bin .rem (.t 24) (.t 29))) (.take 14 (Iq 31 (.bin .neq (.t 23) (.t 30))) .done))))))))))))))))
 (.cond (.t 31)
 (.reg [(Iq 32 (.mv (.t 7))),
 (Iq 33 (.bin .add (.t 32) (.c (.int .i64 1)))),
 (Iq 7 (.mv (.t 33)))])
 .skip))
 (.seq (.reg [(Iq 34 (.mv (.t 1))),
 (Iq 35 (.fad 0 (.t 3))),
 (Iq 36 (.ld false 1 (.t 35))),
 (Iq 37 (.mv (.t 8))),
 (Iq 38 (.ixs 1 (.t 36) (.t 37))),
 (Iq 39 (.ld false 1 (.t 38))),
 (Iq 40 (.bin .quo (.t 34) (.t 39))),
 (Iq 1 (.mv (.t 40)))])
 (.reg [(Iq 41 (.mv (.t 2))),
 (Iq 42 (.fad 0 (.t 3))),
 (Iq 43 (.ld false 1 (.t 42))),
 (Iq 44 (.mv (.t 8))),
 (Iq 45 (.ixs 1 (.t 43) (.t 44))),
 (Iq 46 (.ld false 1 (.t 45))),
 (Iq 47 (.bin .quo (.t 41) (.t 46))),
 (Iq 2 (.mv (.t 47)))]))))
 (.reg [(Iq 15 (.mv (.t 8))),
 (Iq 16 (.bin .sub (.t 15) (.c (.int .i64 1)))),
 (Iq 8 (.mv (.t 16)))]))))))
 (.seq (.reg [(Iq 48 (.mv (.t 7))),
 (Iq 6 (.mv (.t 48)))])
 .ret))))⟩
theorem l_spec_l01Distance : lowF PA f_spec_l01Distance 3 [.k [1, 2, 3, 7, 8], .s (.take 0 (.take 1 (.take 2 (.take 3 (.take 4 (.take 5 (.take 6 (.take 7 (.take 8 (.take 9 (.take 10 (.take 11 (.take 12 (.take 13 (.take 14 .done)))))))))))))))] = some c_spec_l01Distance := by kernel_rfl
abbrev f_cmp_isNaN_int64_ : FuncId := 102
def c_cmp_isNaN_int64_ : AF := ⟨1, 6, [.t 2],
 (.seq (.reg [(Iq 2 (.mv (.c (.bool false))))])
 (.seq (.reg [(Iq 3 (.mv (.t 0))),
 (Iq 4 (.mv (.t 0))),
 (Iq 5 (.bin .neq (.t 3) (.t 4))),
 (Iq 2 (.mv (.t 5)))])
 .ret))⟩
theorem l_cmp_isNaN_int64_ : lowF PA f_cmp_isNaN_int64_ 1 [] = some c_cmp_isNaN_int64_ := by kernel_rfl
abbrev f_slices_Compact___int64_int64_ : FuncId := 103
def c_slices_Compact___int64_int64_ : AF := ⟨1, 61, [.t 2],
 (.seq (.reg [(Iq 2 (.mv (.c (.slice none 0 0))))])
 (.seq (.seq (.reg [(Iq 6 (.mv (.t 0))),
 (Iq 7 (.len (.t 6))),
 (Iq 8 (.bin .lss (.t 7) (.c (.int .i64 2))))])
 (.cond (.t 8)
 (.seq (.reg [(Iq 9 (.mv (.t 0))),
 (Iq 2 (.mv (.t 9)))])
 .ret)
 .skip))
 (.seq (.seq (.reg [(Iq 3 (.mv (.c (.int .i64 1))))])
 (.block 0 (.loop [0, 3, 61] (.seq (.seq (.reg [(Iq 10 (.mv (.t 3))),
 (Iq 11 (.mv (.t 0))),
 (Iq 12 (.len (.t 11))),
 (Iq 13 (.bin .lss (.t 10) (.t 12)))])
 (.cond (.t 13)
 .skip
 (.exit 0)))
 (.seq (.block 1 (.seq (.sch (.take 0 (Iq 16 (.mv (.t 0))) (.take 1 (Iq 17 (.mv (.t 3))) (.take 2 (Iq 18 (.ixs 1 (.t 16) (.t 17))) (.take 3 (Iq 19 (.ld false 1 (.t 18))) (.take 4 (Iq 20 (.mv (.t 0))) (.take 5 (Iq 21 (.mv (.t 3))) (.take 6 (Iq 22 (.bin .sub (.t 21) (.c (.int .i64 1)))) (.take 7 (Iq 23 (.ixs 1 (.t 20) (.t 22))) (.take 8 (Iq 24 (.ld false 1 (.t 23))) (.take 9 (Iq 25 (.bin .eql (.t 19) (.t 24))) .done)))))))))))
 (.cond (.t 25)
 (.seq (.reg [(Iq 26 (.mv (.t 0))),
 (Iq 27 (.mv (.t 3))),
 (Iq 28 (.slc 1 (.t 26) (some (.t 27)) none)),
 (Iq 4 (.mv (.t 28)))])
 (.seq (.seq (.reg [(Iq 5 (.mv (.c (.int .i64 1))))])
 (.block 2 (.loop [0, 3, 4, 5, 61] (.seq (.seq (.reg [(Iq 29 (.mv (.t 5))),
 (Iq 30 (.mv (.t 4))),
 (Iq 31 (.len (.t 30))),
 (Iq 32 (.bin .lss (.t 29) (.t 31)))])
 (.cond (.t 32)
 .skip
 (.exit 2)))
 (.seq (.block 3 (.seq (.sch (.take 0 (Iq 35 (.mv (.t 4))) (.take 1 (Iq 36 (.mv (.t 5))) (.take 2 (Iq 37 (.ixs 1 (.t 35) (.t 36))) (.take 3 (Iq 38 (.ld false 1 (.t 37))) (.take 4 (Iq 39 (.mv (.t 4))) (.take 5 (Iq 40 (.mv (.t 5))) (.take 6 (Iq 41 (.bin .sub (.t 40) (.c (.int .i64 1)))) (.take 7 (Iq 42 (.ixs 1 (.t 39) (.t 41))) (.take 8 (Iq 43 (.ld false 1 (.t 42))) (.take 9 (Iq 44 (.bin .neq (.t 38) (.t 43))) .done)))))))))))
 (.cond (.t 44)
 (.seq (.reg [(Iq 45 (.mv (.t 0))),
 (Iq 46 (.mv (.t 3))),
 (Iq 47 (.mv (.t 4))),
 (Iq 48 (.mv (.t 5))),
 (Iq 49 (.ixs 1 (.t 47) (.t 48))),
 (Iq 50 (.ld false 1 (.t 49))),
 (Iq 51 (.ixs 1 (.t 45) (.t 46))),
 ⟨none, none, .m (.st false 1 (.t 51) (.t 50))⟩])
 (.reg [(Iq 52 (.mv (.t 3))),
 (Iq 53 (.bin .add (.t 52) (.c (.int .i64 1)))),
 (Iq 3 (.mv (.t 53)))]))
 .skip)))
 (.reg [(Iq 33 (.mv (.t 5))),
 (Iq 34 (.bin .add (.t 33) (.c (.int .i64 1)))),
 (Iq 5 (.mv (.t 34)))]))))))
 (.seq (.reg [(Iq 54 (.mv (.t 0))),
 (Iq 55 (.mv (.t 3))),
 (Iq 56 (.slc 1 (.t 54) (some (.t 55)) none)),
 ⟨none, none, .m (.clr 1 (.v (.int .i64 0)) (.t 56))⟩])
 (.seq (.reg [(Iq 57 (.mv (.t 0))),
 (Iq 58 (.mv (.t 3))),
 (Iq 59 (.slc 1 (.t 57) none (some (.t 58)))),
 (Iq 2 (.mv (.t 59)))])
 .ret))))
 .skip)))
 (.reg [(Iq 14 (.mv (.t 3))),
 (Iq 15 (.bin .add (.t 14) (.c (.int .i64 1)))),
 (Iq 3 (.mv (.t 15)))]))))))
 (.seq (.reg [(Iq 60 (.mv (.t 0))),
 (Iq 2 (.mv (.t 60)))])
 .ret))))⟩
theorem l_slices_Compact___int64_int64_ : lowF PA f_slices_Compact___int64_int64_ 1 [.k [0, 3, 61], .s (.take 0 (.take 1 (.take 2 (.take 3 (.take 4 (.take 5 (.take 6 (.take 7 (.take 8 (.take 9 .done)))))))))), .k [0, 3, 4, 5, 61], .s (.take 0 (.take 1 (.take 2 (.take 3 (.take 4 (.take 5 (.take 6 (.take 7 (.take 8 (.take 9 .done))))))))))] = some c_slices_Compact___int64_int64_ := by kernel_rfl
abbrev f_slices_insertionSortOrdered_int64_ : FuncId := 104
abbrev f_slices_heapSortOrdered_int64_ : FuncId := 105
abbrev f_slices_breakPatternsOrdered_int64_ : FuncId := 106
abbrev f_slices_choosePivotOrdered_int64_ : FuncId := 107
abbrev f_slices_reverseRangeOrdered_int64_ : FuncId := 108
abbrev f_slices_partialInsertionSortOrdered_int64_ : FuncId := 109
abbrev f_slices_partitionEqualOrdered_int64_ : FuncId := 110
abbrev f_slices_partitionOrdered_int64_ : FuncId := 111
abbrev f_math_bits_Len32 : FuncId := 112
abbrev f_math_bits_Len64 : FuncId := 113
abbrev f_spec_l01Word : FuncId := 114
def c_spec_l01Word : AF := ⟨2, 26, [.t 4],
 (.seq (.reg [(Im 2 (.box (.t 0))),
 (Iq 4 (.mv (.c (.int .i64 0))))])
 (.seq (.reg [(Iq 5 (.mv (.c (.int .i64 0))))])
 (.seq (.seq (.reg [(Iq 6 (.mv (.c (.int .i64 0))))])
 (.block 0 (.loop [1, 2, 5, 6] (.seq (.seq (.reg [(Iq 7 (.mv (.t 6))),
 (Iq 8 (.mv (.t 1))),
 (Iq 9 (.len (.t 8))),
 (Iq 10 (.bin .lss (.t 7) (.t 9)))])
 (.cond (.t 10)
 .skip
 (.exit 0)))
 (.seq (.block 1 (.sch (.take 0 (Iq 13 (.mv (.t 5))) (.take 1 (Iq 14 (.fad 0 (.t 2))) (.take 2 (Iq 15 (.ld false 1 (.t 14))) (.take 3 (Iq 16 (.mv (.t 6))) (.take 4 (Iq 17 (.ixs 1 (.t 15) (.t 16))) (.take 5 (Iq 18 (.ld false 1 (.t 17))) (.take 6 (Iq 19 (.bin .mul (.t 13) (.t 18))) (.take 7 (Iq 20 (.mv (.t 1))) (.take 8 (Iq 21 (.mv (.t 6))) (.take 9 (Iq 22 (.ixs 1 (.t 20) (.t 21))) (.take 10 (Iq 23 (.ld false 1 (.t 22))) (.take 11 (Iq 24 (.bin .add (.t 19) (.t 23))) (.take 12 (Iq 5 (.mv (.t 24))) .done)))))))))))))))
 (.reg [(Iq 11 (.mv (.t 6))),
 (Iq 12 (.bin .add (.t 11) (.c (.int .i64 1)))),
 (Iq 6 (.mv (.t 12)))]))))))
 (.seq (.reg [(Iq 25 (.mv (.t 5))),
 (Iq 4 (.mv (.t 25)))])
 .ret))))⟩
theorem l_spec_l01Word : lowF PA f_spec_l01Word 2 [.k [1, 2, 5, 6], .s (.take 0 (.take 1 (.take 2 (.take 3 (.take 4 (.take 5 (.take 6 (.take 7 (.take 8 (.take 9 (.take 10 (.take 11 (.take 12 .done)))))))))))))] = some c_spec_l01Word := by kernel_rfl
abbrev f_spec_l01Put : FuncId := 115
def c_spec_l01Put : AF := ⟨2, 46, [.t 4],
 (.seq (.reg [(Iq 4 (.mv (.c (.slice none 0 0))))])
 (.seq (.reg [(Iq 7 (.mv (.t 0))),
 (Iq 8 (.len (.t 7))),
 (Iq 5 (.mv (.t 8)))])
 (.seq (.block 0 (.loop [0, 1, 5] (.seq (.seq (.reg [(Iq 9 (.mv (.t 5))),
 (Iq 10 (.bin .gtr (.t 9) (.c (.int .i64 0)))),
 (Iq 11 (.mv (.t 10))),
 ⟨(some 12), (some (11, true)), .q (.mv (.t 0))⟩,
 ⟨(some 13), (some (11, true)), .q (.mv (.t 5))⟩,
 ⟨(some 14), (some (11, true)), .q (.bin .sub (.t 13) (.c (.int .i64 1)))⟩,
 ⟨(some 15), (some (11, true)), .q (.ixs 1 (.t 12) (.t 14))⟩,
 ⟨(some 16), (some (11, true)), .q (.ld false 1 (.t 15))⟩,
 ⟨(some 17), (some (11, true)), .q (.mv (.t 1))⟩,
 ⟨(some 18), (some (11, true)), .q (.bin .gtr (.t 16) (.t 17))⟩,
 (Iq 19 (.pick (.t 11) (.t 18) (.c (.bool false))))])
 (.cond (.t 19)
 .skip
 (.exit 0)))
 (.block 1 (.reg [(Iq 20 (.mv (.t 5))),
 (Iq 21 (.bin .sub (.t 20) (.c (.int .i64 1)))),
 (Iq 5 (.mv (.t 21)))])))))
 (.seq (.seq (.reg [(Iq 22 (.mv (.t 5))),
 (Iq 23 (.bin .gtr (.t 22) (.c (.int .i64 0)))),
 (Iq 24 (.mv (.t 23))),
 ⟨(some 25), (some (24, true)), .q (.mv (.t 0))⟩,
 ⟨(some 26), (some (24, true)), .q (.mv (.t 5))⟩,
 ⟨(some 27), (some (24, true)), .q (.bin .sub (.t 26) (.c (.int .i64 1)))⟩,
 ⟨(some 28), (some (24, true)), .q (.ixs 1 (.t 25) (.t 27))⟩,
 ⟨(some 29), (some (24, true)), .q (.ld false 1 (.t 28))⟩,
 ⟨(some 30), (some (24, true)), .q (.mv (.t 1))⟩,
 ⟨(some 31), (some (24, true)), .q (.bin .eql (.t 29) (.t 30))⟩,
 (Iq 32 (.pick (.t 24) (.t 31) (.c (.bool false))))])
 (.cond (.t 32)
 (.seq (.reg [(Iq 33 (.mv (.t 0))),
 (Iq 4 (.mv (.t 33)))])
 .ret)
 .skip))
 (.seq (.reg [(Iq 34 (.mv (.t 0))),
 (Iq 35 (.mv (.t 5))),
 (Iq 36 (.slc 1 (.t 34) none (some (.t 35)))),
 (Ic 37 (.call 70 [(.t 36)])),
 (Iq 38 (.mv (.t 1))),
 (Im 39 (.bsl 1 [(.t 38)])),
 (Im 40 (.app 1 8 (.t 37) (.t 39))),
 (Iq 6 (.mv (.t 40)))])
 (.seq (.reg [(Iq 41 (.mv (.t 6))),
 (Iq 42 (.mv (.t 0))),
 (Iq 43 (.mv (.t 5))),
 (Iq 44 (.slc 1 (.t 42) (some (.t 43)) none)),
 (Im 45 (.app 1 8 (.t 41) (.t 44))),
 (Iq 4 (.mv (.t 45)))])
 .ret))))))⟩
theorem l_spec_l01Put : lowF PA f_spec_l01Put 2 [.k [0, 1, 5]] = some c_spec_l01Put := by kernel_rfl
abbrev f_slices_IndexFunc___int64_int64_ : FuncId := 116
def c_slices_IndexFunc___int64_int64_ : AF := ⟨2, 19, [.t 4],
 (.seq (.reg [(Iq 4 (.mv (.c (.int .i64 0))))])
 (.seq (.seq (.reg [(Iq 6 (.mv (.t 0))),
 (Iq 7 (.len (.t 6))),
 (Iq 8 (.mv (.c (.int .i64 0))))])
 (.block 0 (.loop [0, 1, 7, 8] (.seq (.reg [(Iq 9 (.bin .lss (.t 8) (.t 7)))])
 (.seq (.cond (.t 9)
 .skip
 (.exit 0))
 (.seq (.block 1 (.seq (.reg [(Iq 10 (.mv (.t 8))),
 (Iq 5 (.mv (.t 10)))])
 (.seq (.reg [(Iq 11 (.mv (.t 1))),
 (Iq 12 (.mv (.t 0))),
 (Iq 13 (.mv (.t 5))),
 (Iq 14 (.ixs 1 (.t 12) (.t 13))),
 (Iq 15 (.ld false 1 (.t 14))),
 (Ic 16 (.cav (.t 11) [(.t 15)]))])
 (.cond (.t 16)
 (.seq (.reg [(Iq 17 (.mv (.t 5))),
 (Iq 4 (.mv (.t 17)))])
 .ret)
 .skip))))
 (.reg [(Iq 18 (.bin .add (.t 8) (.c (.int .i64 1)))),
 (Iq 8 (.mv (.t 18)))])))))))
 (.seq (.reg [(Iq 4 (.mv (.c (.int .i64 (-1)))))])
 .ret)))⟩
theorem l_slices_IndexFunc___int64_int64_ : lowF PA f_slices_IndexFunc___int64_int64_ 2 [.k [0, 1, 7, 8]] = some c_slices_IndexFunc___int64_int64_ := by kernel_rfl
abbrev f_impl_allDigits : FuncId := 117
def c_impl_allDigits : AF := ⟨1, 19, [.t 2],
 (.seq (.reg [(Im 1 (.box (.t 0))),
 (Iq 2 (.mv (.c (.slice none 0 0))))])
 (.seq (.reg [(Im 5 (.bsl 8 [])),
 (Iq 3 (.mv (.t 5)))])
 (.seq (.seq (.reg [(Iq 6 (.ld true 1 (.t 1))),
 (Ic 7 (.call 54 [(.t 6)])),
 (Iq 8 (.mv (.c (.int .i64 0))))])
 (.block 0 (.loop [1, 3, 7, 8] (.seq (.reg [(Iq 9 (.bin .lss (.t 8) (.t 7)))])
 (.seq (.cond (.t 9)
 .skip
 (.exit 0))
 (.seq (.block 1 (.seq (.reg [(Iq 10 (.mv (.t 8))),
 (Iq 4 (.mv (.t 10)))])
 (.reg [(Iq 11 (.mv (.t 3))),
 (Iq 12 (.ld true 1 (.t 1))),
 (Iq 13 (.mv (.t 4))),
 (Ic 14 (.call 57 [(.t 12), (.t 13)])),
 (Im 15 (.bsl 8 [(.t 14)])),
 (Im 16 (.app 8 8 (.t 11) (.t 15))),
 (Iq 3 (.mv (.t 16)))])))
 (.reg [(Iq 17 (.bin .add (.t 8) (.c (.int .i64 1)))),
 (Iq 8 (.mv (.t 17)))])))))))
 (.seq (.reg [(Iq 18 (.mv (.t 3))),
 (Iq 2 (.mv (.t 18)))])
 .ret))))⟩
theorem l_impl_allDigits : lowF PA f_impl_allDigits 1 [.k [1, 3, 7, 8]] = some c_impl_allDigits := by kernel_rfl
abbrev f_slices_IndexFunc___impl_digits_impl_digits_ : FuncId := 118
def c_slices_IndexFunc___impl_digits_impl_digits_ : AF := ⟨2, 19, [.t 4],
 (.seq (.reg [(Iq 4 (.mv (.c (.int .i64 0))))])
 (.seq (.seq (.reg [(Iq 6 (.mv (.t 0))),
 (Iq 7 (.len (.t 6))),
 (Iq 8 (.mv (.c (.int .i64 0))))])
 (.block 0 (.loop [0, 1, 7, 8] (.seq (.reg [(Iq 9 (.bin .lss (.t 8) (.t 7)))])
 (.seq (.cond (.t 9)
 .skip
 (.exit 0))
 (.seq (.block 1 (.seq (.reg [(Iq 10 (.mv (.t 8))),
 (Iq 5 (.mv (.t 10)))])
 (.seq (.reg [(Iq 11 (.mv (.t 1))),
 (Iq 12 (.mv (.t 0))),
 (Iq 13 (.mv (.t 5))),
 (Iq 14 (.ixs 8 (.t 12) (.t 13))),
 (Iq 15 (.ld true 8 (.t 14))),
 (Ic 16 (.cav (.t 11) [(.t 15)]))])
 (.cond (.t 16)
 (.seq (.reg [(Iq 17 (.mv (.t 5))),
 (Iq 4 (.mv (.t 17)))])
 .ret)
 .skip))))
 (.reg [(Iq 18 (.bin .add (.t 8) (.c (.int .i64 1)))),
 (Iq 8 (.mv (.t 18)))])))))))
 (.seq (.reg [(Iq 4 (.mv (.c (.int .i64 (-1)))))])
 .ret)))⟩
theorem l_slices_IndexFunc___impl_digits_impl_digits_ : lowF PA f_slices_IndexFunc___impl_digits_impl_digits_ 2 [.k [0, 1, 7, 8]] = some c_slices_IndexFunc___impl_digits_impl_digits_ := by kernel_rfl
abbrev f_slices_IndexFunc___byte_byte_ : FuncId := 119
def c_slices_IndexFunc___byte_byte_ : AF := ⟨2, 19, [.t 4],
 (.seq (.reg [(Iq 4 (.mv (.c (.int .i64 0))))])
 (.seq (.seq (.reg [(Iq 6 (.mv (.t 0))),
 (Iq 7 (.len (.t 6))),
 (Iq 8 (.mv (.c (.int .i64 0))))])
 (.block 0 (.loop [0, 1, 7, 8] (.seq (.reg [(Iq 9 (.bin .lss (.t 8) (.t 7)))])
 (.seq (.cond (.t 9)
 .skip
 (.exit 0))
 (.seq (.block 1 (.seq (.reg [(Iq 10 (.mv (.t 8))),
 (Iq 5 (.mv (.t 10)))])
 (.seq (.reg [(Iq 11 (.mv (.t 1))),
 (Iq 12 (.mv (.t 0))),
 (Iq 13 (.mv (.t 5))),
 (Iq 14 (.ixs 1 (.t 12) (.t 13))),
 (Iq 15 (.ld false 1 (.t 14))),
 (Ic 16 (.cav (.t 11) [(.t 15)]))])
 (.cond (.t 16)
 (.seq (.reg [(Iq 17 (.mv (.t 5))),
 (Iq 4 (.mv (.t 17)))])
 .ret)
 .skip))))
 (.reg [(Iq 18 (.bin .add (.t 8) (.c (.int .i64 1)))),
 (Iq 8 (.mv (.t 18)))])))))))
 (.seq (.reg [(Iq 4 (.mv (.c (.int .i64 (-1)))))])
 .ret)))⟩
theorem l_slices_IndexFunc___byte_byte_ : lowF PA f_slices_IndexFunc___byte_byte_ 2 [.k [0, 1, 7, 8]] = some c_slices_IndexFunc___byte_byte_ := by kernel_rfl
abbrev f_impl_firstDigit_1 : FuncId := 120
def c_impl_firstDigit_1 : AF := ⟨1, 5, [.t 2],
 (.seq (.reg [(Iq 2 (.mv (.c (.bool false))))])
 (.seq (.reg [(Iq 3 (.mv (.t 0))),
 (Iq 4 (.bin .neq (.t 3) (.c (.int .u8 0)))),
 (Iq 2 (.mv (.t 4)))])
 .ret))⟩
theorem l_impl_firstDigit_1 : lowF PA f_impl_firstDigit_1 1 [] = some c_impl_firstDigit_1 := by kernel_rfl
abbrev f_spec_l01DrawCode : FuncId := 121
def c_spec_l01DrawCode : AF := ⟨2, 109, [.t 4],
 (.seq (.reg [(Im 3 (.box (.t 1))),
 (Iq 4 (.mv (.c (.slice none 0 0))))])
 (.seq (.reg [(Im 17 (.bsl 1 [])),
 (Iq 5 (.mv (.t 17)))])
 (.seq (.seq (.reg [(Iq 18 (.mv (.t 0))),
 (Ic 19 (.call 33 [(.t 18), (.c (.int .i64 4))]))])
 (.block 0 (.seq (.reg [(Iq 21 (.bin .eql (.t 19) (.c (.int .i64 0)))),
 (Iq 20 (.mv (.t 21)))])
 (.cond (.t 20)
 (.seq (.reg [(Iq 22 (.mv (.t 0))),
 (Im 23 (.bsl 1 [(.c (.int .i64 2)), (.c (.int .i64 2)), (.c (.int .i64 3)), (.c (.int .i64 4))])),
 (Ic 24 (.call 34 [(.t 22), (.t 23)])),
 (Iq 25 (.mv (.t 0))),
 (Ic 26 (.call 33 [(.t 25), (.c (.int .i64 2))])),
 (Iq 6 (.mv (.t 24))),
 (Iq 7 (.mv (.t 26)))])
 (.seq (.seq (.reg [(Iq 8 (.mv (.c (.int .i64 0))))])
 (.block 1 (.loop [3, 5, 6, 7, 8, 109] (.seq (.seq (.reg [(Iq 27 (.mv (.t 8))),
 (Iq 28 (.ld true 1 (.t 3))),
 (Ic 29 (.call 35 [(.t 28)])),
 (Iq 30 (.bin .lss (.t 27) (.t 29)))])
 (.cond (.t 30)
 .skip
 (.exit 1)))
 (.seq (.block 2 (.seq (.reg [(Iq 33 (.ld true 1 (.t 3))),
 (Iq 34 (.mv (.t 8))),
 (Ic 35 (.call 62 [(.t 33), (.t 34)])),
 (Iq 9 (.mv (.t 35))),
 (Iq 10 (.mv (.c (.int .i64 0))))])
 (.seq (.seq (.reg [(Iq 36 (.mv (.t 9))),
 (Iq 37 (.len (.t 36))),
 (Iq 38 (.mv (.c (.int .i64 0))))])
 (.block 3 (.loop [3, 5, 6, 7, 8, 9, 10, 37, 38, 109] (.seq (.reg [(Iq 39 (.bin .lss (.t 38) (.t 37)))])
 (.seq (.cond (.t 39)
 .skip
 (.exit 3))
 (.seq (.block 4 (.seq (.reg [(Iq 40 (.mv (.t 38))),
 (Iq 11 (.mv (.t 40)))])
 (.reg [(Iq 41 (.mv (.t 10))),
 (Iq 42 (.mv (.t 9))),
 (Iq 43 (.mv (.t 11))),
 (Iq 44 (.ixs 1 (.t 42) (.t 43))),
 (Iq 45 (.ld false 1 (.t 44))),
 (Iq 46 (.bin .add (.t 41) (.t 45))),
 (Iq 10 (.mv (.t 46)))])))
 (.reg [(Iq 47 (.bin .add (.t 38) (.c (.int .i64 1)))),
 (Iq 38 (.mv (.t 47)))])))))))
 (.seq (.reg [(Iq 48 (.mv (.t 10))),
 (Iq 49 (.mv (.t 6))),
 (Iq 50 (.bin .rem (.t 48) (.t 49))),
 (Iq 51 (.mv (.t 7))),
 (Iq 52 (.bin .eql (.t 50) (.t 51)))])
 (.cond (.t 52)
 (.reg [(Iq 53 (.mv (.t 5))),
 (Iq 54 (.mv (.t 8))),
 (Im 55 (.bsl 1 [(.t 54)])),
 (Im 56 (.app 1 8 (.t 53) (.t 55))),
 (Iq 5 (.mv (.t 56)))])
 .skip)))))
 (.reg [(Iq 31 (.mv (.t 8))),
 (Iq 32 (.bin .add (.t 31) (.c (.int .i64 1)))),
 (Iq 8 (.mv (.t 32)))]))))))
 (.seq (.reg [(Iq 57 (.mv (.t 5))),
 (Iq 4 (.mv (.t 57)))])
 .ret)))
 (.seq (.reg [(Iq 59 (.bin .eql (.t 19) (.c (.int .i64 1)))),
 (Iq 58 (.mv (.t 59)))])
 (.cond (.t 58)
 (.seq (.reg [(Iq 60 (.mv (.t 0))),
 (Im 61 (.bsl 1 [(.c (.int .i64 2)), (.c (.int .i64 3)), (.c (.int .i64 3))])),
 (Ic 62 (.call 34 [(.t 60), (.t 61)])),
 (Iq 12 (.mv (.t 62)))])
 (.seq (.seq (.reg [(Iq 13 (.mv (.c (.int .i64 0))))])
 (.block 5 (.loop [3, 5, 12, 13, 109] (.seq (.seq (.reg [(Iq 63 (.mv (.t 13))),
 (Iq 64 (.ld true 1 (.t 3))),
 (Ic 65 (.call 35 [(.t 64)])),
 (Iq 66 (.bin .lss (.t 63) (.t 65)))])
 (.cond (.t 66)
 .skip
 (.exit 5)))
 (.seq (.block 6 (.seq (.reg [(Iq 14 (.mv (.c (.bool true))))])
 (.seq (.seq (.reg [(Iq 69 (.mv (.t 5))),
 (Iq 70 (.len (.t 69))),
 (Iq 71 (.mv (.c (.int .i64 0))))])
 (.block 7 (.loop [3, 5, 12, 13, 14, 70, 71, 109] (.seq (.reg [(Iq 72 (.bin .lss (.t 71) (.t 70)))])
 (.seq (.cond (.t 72)
 .skip
 (.exit 7))
 (.seq (.block 8 (.seq (.reg [(Iq 73 (.mv (.t 71))),
 (Iq 15 (.mv (.t 73)))])
 (.sch (.take 0 (Iq 74 (.mv (.t 14))) (.take 1 (Iq 75 (.mv (.t 74))) (.take 2 ⟨(some 76), (some (75, true)), .q (.ld true 1 (.t 3))⟩ (.take 3 ⟨(some 77), (some (75, true)), .q (.mv (.t 5))⟩ (.take 4 ⟨(some 78), (some (75, true)), .q (.mv (.t 15))⟩ (.take 5 ⟨(some 79), (some (75, true)), .q (.ixs 1 (.t 77) (.t 78))⟩ (.take 6 ⟨(some 80), (some (75, true)), .q (.ld false 1 (.t 79))⟩ (.take 7 ⟨(some 81), (some (75, true)), .q (.mv (.t 13))⟩ (.take 9 ⟨(some 83), (some (75, true)), .q (.mv (.t 12))⟩ (.one ⟨(some 82), (some (75, true)), .c (.call 101 [(.t 76), (.t 80), (.t 81)])⟩ [6, 2] (.take 10 ⟨(some 84), (some (75, true)), .q (.bin .geq (.t 82) (.t 83))⟩ (.take 11 (Iq 85 (.pick (.t 75) (.t 84) (.c (.bool false)))) (.take 12 (Iq 14 (.mv (.t 85))) .done))))))))))))))))
 (.reg [(Iq 86 (.bin .add (.t 71) (.c (.int .i64 1)))),
 (Iq 71 (.mv (.t 86)))])))))))
 (.seq (.reg [(Iq 87 (.mv (.t 14)))])
 (.cond (.t 87)
 (.reg [(Iq 88 (.mv (.t 5))),
 (Iq 89 (.mv (.t 13))),
 (Im 90 (.bsl 1 [(.t 89)])),
 (Im 91 (.app 1 8 (.t 88) (.t 90))),
 (Iq 5 (.mv (.t 91)))])
 .skip)))))
 (.reg [(Iq 67 (.mv (.t 13))),
 (Iq 68 (.bin .add (.t 67) (.c (.int .i64 1)))),
 (Iq 13 (.mv (.t 68)))]))))))
 (.seq (.reg [(Iq 92 (.mv (.t 5))),
 (Iq 4 (.mv (.t 92)))])
 .ret)))
 .skip))))))
 (.seq (.seq (.reg [(Iq 93 (.mv (.t 0))),
 (Iq 94 (.mv (.t 0))),
 (Im 95 (.bsl 1 [(.c (.int .i64 3)), (.c (.int .i64 8)), (.c (.int .i64 20))])),
 (Ic 96 (.call 34 [(.t 94), (.t 95)])),
 (Ic 97 (.call 33 [(.t 93), (.t 96)])),
 (Iq 16 (.mv (.t 97)))])
 (.block 9 (.loop [0, 3, 5, 16, 109] (.seq (.seq (.reg [(Iq 98 (.mv (.t 16))),
 (Iq 99 (.bin .gtr (.t 98) (.c (.int .i64 0))))])
 (.cond (.t 99)
 .skip
 (.exit 9)))
 (.seq (.block 10 (.reg [(Iq 102 (.mv (.t 5))),
 (Iq 103 (.mv (.t 0))),
 (Iq 104 (.ld true 1 (.t 3))),
 (Ic 105 (.call 35 [(.t 104)])),
 (Ic 106 (.call 33 [(.t 103), (.t 105)])),
 (Ic 107 (.call 115 [(.t 102), (.t 106)])),
 (Iq 5 (.mv (.t 107)))]))
 (.reg [(Iq 100 (.mv (.t 16))),
 (Iq 101 (.bin .sub (.t 100) (.c (.int .i64 1)))),
 (Iq 16 (.mv (.t 101)))]))))))
 (.seq (.reg [(Iq 108 (.mv (.t 5))),
 (Iq 4 (.mv (.t 108)))])
 .ret)))))⟩
theorem l_spec_l01DrawCode : lowF PA f_spec_l01DrawCode 2 [.k [3, 5, 6, 7, 8, 109], .k [3, 5, 6, 7, 8, 9, 10, 37, 38, 109], .k [3, 5, 12, 13, 109], .k [3, 5, 12, 13, 14, 70, 71, 109], .s (.take 0 (.take 1 (.take 2 (.take 3 (.take 4 (.take 5 (.take 6 (.take 7 (.take 9 (.one 8 (.take 10 (.take 11 (.take 12 .done))))))))))))), .k [0, 3, 5, 16, 109]] = some c_spec_l01DrawCode := by kernel_rfl
abbrev f_slices_siftDownOrdered_int64_ : FuncId := 122
abbrev f_slices_nextPowerOfTwo : FuncId := 123
abbrev f___slices_xorshift__Next : FuncId := 124
abbrev f_slices_medianAdjacentOrdered_int64_ : FuncId := 125
abbrev f_slices_medianOrdered_int64_ : FuncId := 126
abbrev f_slices_order2Ordered_int64_ : FuncId := 127
def sort_ren : Go.Shelf.Ren := ⟨fun | 5 => 41 | 8 => 80 | 7 => 79 | 19 => 112 | 20 => 113 | 10 => 104 | 11 => 105 | 12 => 106 | 13 => 107 | 14 => 108 | 15 => 109 | 16 => 72 | 17 => 110 | 18 => 111 | 30 => 122 | 31 => 123 | 32 => 124 | 33 => 125 | 34 => 126 | 35 => 102 | 40 => 127 | n => n, fun | 23 => 24 | 25 => 2 | 3 => 3 | 32 => 76 | 22 => 24 | 0 => 0 | 44 => 107 | 46 => 72 | 4 => 4 | 36 => 101 | 35 => 100 | 41 => 53 | 5 => 5 | 9 => 9 | 53 => 115 | 57 => 119 | 63 => 121 | 64 => 122 | n => n, fun | n => n⟩
theorem sort_lay : Go.Proofs.SlLaysM.n5 Tryz.prog sort_ren := {
  mixed := by kernel_rfl
  f5 := ⟨Tryz.f41.name, by decide, Tryz.func41.trans (congrArg some (by kernel_rfl))⟩
  f7 := ⟨Tryz.f79.name, by decide, Tryz.func79.trans (congrArg some (by kernel_rfl))⟩
  f8 := Tryz.func80.trans (congrArg some (by kernel_rfl))
  f10 := ⟨Tryz.f104.name, by decide, Tryz.func104.trans (congrArg some (by kernel_rfl))⟩
  f11 := ⟨Tryz.f105.name, by decide, Tryz.func105.trans (congrArg some (by kernel_rfl))⟩
  f12 := ⟨Tryz.f106.name, by decide, Tryz.func106.trans (congrArg some (by kernel_rfl))⟩
  f13 := ⟨Tryz.f107.name, by decide, Tryz.func107.trans (congrArg some (by kernel_rfl))⟩
  f14 := ⟨Tryz.f108.name, by decide, Tryz.func108.trans (congrArg some (by kernel_rfl))⟩
  f15 := ⟨Tryz.f109.name, by decide, Tryz.func109.trans (congrArg some (by kernel_rfl))⟩
  f16 := ⟨Tryz.f72.name, by decide, Tryz.func72.trans (congrArg some (by kernel_rfl))⟩
  f17 := ⟨Tryz.f110.name, by decide, Tryz.func110.trans (congrArg some (by kernel_rfl))⟩
  f18 := ⟨Tryz.f111.name, by decide, Tryz.func111.trans (congrArg some (by kernel_rfl))⟩
  f19 := Tryz.func112.trans (congrArg some (by kernel_rfl))
  f20 := Tryz.func113.trans (congrArg some (by kernel_rfl))
  f30 := ⟨Tryz.f122.name, by decide, Tryz.func122.trans (congrArg some (by kernel_rfl))⟩
  f31 := Tryz.func123.trans (congrArg some (by kernel_rfl))
  f32 := Tryz.func124.trans (congrArg some (by kernel_rfl))
  f33 := ⟨Tryz.f125.name, by decide, Tryz.func125.trans (congrArg some (by kernel_rfl))⟩
  f34 := ⟨Tryz.f126.name, by decide, Tryz.func126.trans (congrArg some (by kernel_rfl))⟩
  f35 := ⟨Tryz.f102.name, by decide, Tryz.func102.trans (congrArg some (by kernel_rfl))⟩
  f40 := ⟨Tryz.f127.name, by decide, Tryz.func127.trans (congrArg some (by kernel_rfl))⟩
  t0 := Tryz.underlying0
  a0 := Tryz.isAgg0
  z0 := Tryz.sizeOf0
  v0 := Tryz.zeroValue0
  t3 := Tryz.underlying3
  a3 := Tryz.isAgg3
  z3 := Tryz.sizeOf3
  v3 := Tryz.zeroValue3
  t4 := Tryz.underlying4
  a4 := Tryz.isAgg4
  z4 := Tryz.sizeOf4
  v4 := Tryz.zeroValue4
  t5 := Tryz.underlying5
  a5 := Tryz.isAgg5
  z5 := Tryz.sizeOf5
  v5 := Tryz.zeroValue5
  t9 := Tryz.underlying9
  a9 := Tryz.isAgg9
  z9 := Tryz.sizeOf9
  v9 := Tryz.zeroValue9
  t22 := Tryz.underlying24
  a22 := Tryz.isAgg24
  z22 := Tryz.sizeOf24
  v22 := Tryz.zeroValue24
  t23 := Tryz.underlying24
  a23 := Tryz.isAgg24
  z23 := Tryz.sizeOf24
  v23 := Tryz.zeroValue24
  t25 := Tryz.underlying2
  a25 := Tryz.isAgg2
  z25 := Tryz.sizeOf2
  v25 := Tryz.zeroValue2
  t32 := Tryz.underlying76
  a32 := Tryz.isAgg76
  z32 := Tryz.sizeOf76
  v32 := Tryz.zeroValue76
  t35 := Tryz.underlying100
  a35 := Tryz.isAgg100
  z35 := Tryz.sizeOf100
  v35 := Tryz.zeroValue100
  t36 := Tryz.underlying101
  a36 := Tryz.isAgg101
  z36 := Tryz.sizeOf101
  v36 := Tryz.zeroValue101
  t41 := Tryz.underlying53
  a41 := Tryz.isAgg53
  z41 := Tryz.sizeOf53
  v41 := Tryz.zeroValue53
  t44 := Tryz.underlying107
  a44 := Tryz.isAgg107
  z44 := Tryz.sizeOf107
  v44 := Tryz.zeroValue107
  t46 := Tryz.underlying72
  a46 := Tryz.isAgg72
  z46 := Tryz.sizeOf72
  v46 := Tryz.zeroValue72
  t53 := Tryz.underlying115
  a53 := Tryz.isAgg115
  z53 := Tryz.sizeOf115
  v53 := Tryz.zeroValue115
  t57 := Tryz.underlying119
  a57 := Tryz.isAgg119
  z57 := Tryz.sizeOf119
  v57 := Tryz.zeroValue119
  t63 := Tryz.underlying121
  a63 := Tryz.isAgg121
  z63 := Tryz.sizeOf121
  v63 := Tryz.zeroValue121
  t64 := Tryz.underlying122
  a64 := Tryz.isAgg122
  z64 := Tryz.sizeOf122
  v64 := Tryz.zeroValue122 }
theorem sort_calls : SortCalls PA f_slices_Sort___int64_int64_ := fun blk off cap zs w h1 h2 h3 => AnyM.slices_Sort_int sort_lay blk off cap zs w h1 h2 h3
end Go.Proofs.YtgmocipfgfnolabGreat.Va
