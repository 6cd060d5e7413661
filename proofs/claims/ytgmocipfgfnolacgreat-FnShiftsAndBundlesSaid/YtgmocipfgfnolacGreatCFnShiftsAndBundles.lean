/- The code of the functions that FnShiftsAndBundles reaches, laid out for a walk: each is what the lowering makes of the program's own text. Condition: none. -/
import Derived.Shelf.SortM.Plain
import Derived.Test.YtgmocipfgfnolacGreatVa2
import Derived.Test.YtgmocipfgfnolacGreatProg
import Derived.KernelRfl
set_option linter.all false
set_option linter.unusedSimpArgs false
set_option linter.unusedVariables false
namespace Go.Proofs.YtgmocipfgfnolacGreat.Va
open Go
noncomputable abbrev PA : Program := Go.Proofs.Tryz.prog
abbrev Iq (d : Nat) (o : AOp) : AQ := ⟨some d, none, .q o⟩
abbrev Im (d : Nat) (o : AOp) : AQ := ⟨some d, none, .m o⟩
abbrev Ic (d : Nat) (o : AOp) : AQ := ⟨some d, none, .c o⟩
attribute [go_sem] Iq Im Ic
abbrev f_laws_FnShiftsAndBundles : FuncId := 3
def c_laws_FnShiftsAndBundles : AF := ⟨1, 293, [.t 2],
 (.seq (.reg [(Iq 2 (.mv (.c (.bool false))))])
 (.seq (.seq (.reg [(Iq 46 (.mv (.t 0))),
 (Ic 47 (.call 4 [(.t 46)]))])
 (.cond (.t 47)
 (.seq (.reg [(Iq 2 (.mv (.c (.bool true))))])
 .ret)
 .skip))
 (.seq (.reg [(Iq 49 (.mv (.t 0))),
 (Ic 50 (.call 5 [(.t 49)])),
 (Iq 48 (.mv (.t 50))),
 (Iq 51 (.ext (.t 48) 0)),
 (Iq 52 (.ext (.t 48) 1)),
 (Im 3 (.alloc [(.v (.slice none 0 0))])),
 ⟨none, none, .m (.st true 1 (.t 3) (.t 51))⟩,
 (Iq 4 (.mv (.t 52)))])
 (.seq (.reg [(Iq 54 (.ld true 1 (.t 3))),
 (Iq 55 (.mv (.t 4))),
 (Ic 56 (.call 6 [(.t 54), (.t 55)])),
 (Iq 53 (.mv (.t 56))),
 (Iq 57 (.ext (.t 53) 0)),
 (Iq 58 (.ext (.t 53) 1)),
 (Iq 5 (.mv (.t 57))),
 (Iq 6 (.mv (.t 58)))])
 (.seq (.seq (.reg [(Iq 60 (.ld true 1 (.t 3))),
 (Iq 61 (.mv (.t 4))),
 (Ic 62 (.call 7 [(.t 60), (.t 61)])),
 (Iq 59 (.mv (.t 62))),
 (Iq 63 (.ext (.t 59) 0)),
 (Iq 64 (.ext (.t 59) 1)),
 (Iq 7 (.mv (.t 63))),
 (Iq 8 (.mv (.t 64)))])
 (.seq (.reg [(Iq 65 (.mv (.t 6))),
 (Iq 66 (.mv (.t 8))),
 (Iq 67 (.bin .neq (.t 65) (.t 66))),
 (Iq 68 (.mv (.t 67))),
 ⟨(some 69), (some (68, false)), .q (.mv (.t 5))⟩,
 ⟨(some 70), (some (68, false)), .q (.mv (.t 7))⟩,
 ⟨(some 71), (some (68, false)), .c (.call 8 [(.t 69), (.t 70)])⟩,
 ⟨(some 72), (some (68, false)), .q (.un .not (.t 71))⟩,
 (Iq 73 (.pick (.t 68) (.c (.bool true)) (.t 72)))])
 (.cond (.t 73)
 (.seq (.reg [(Iq 2 (.mv (.c (.bool false))))])
 .ret)
 .skip)))
 (.seq (.reg [(Iq 75 (.mv (.t 0))),
 (Ic 76 (.call 9 [(.t 75)])),
 (Iq 74 (.mv (.t 76))),
 (Iq 77 (.ext (.t 74) 0)),
 (Iq 78 (.ext (.t 74) 1)),
 (Iq 79 (.ext (.t 74) 2)),
 (Im 9 (.alloc [(.v (.slice none 0 0))])),
 ⟨none, none, .m (.st true 1 (.t 9) (.t 77))⟩,
 (Iq 10 (.mv (.t 78))),
 (Iq 11 (.mv (.t 79)))])
 (.seq (.reg [(Iq 81 (.ld true 1 (.t 9))),
 (Iq 82 (.mv (.t 10))),
 (Iq 83 (.mv (.t 11))),
 (Ic 84 (.call 10 [(.t 81), (.t 82), (.t 83)])),
 (Iq 80 (.mv (.t 84))),
 (Iq 85 (.ext (.t 80) 0)),
 (Iq 86 (.ext (.t 80) 1)),
 (Iq 12 (.mv (.t 85))),
 (Iq 13 (.mv (.t 86)))])
 (.seq (.seq (.reg [(Iq 88 (.ld true 1 (.t 9))),
 (Iq 89 (.mv (.t 10))),
 (Iq 90 (.mv (.t 11))),
 (Ic 91 (.call 11 [(.t 88), (.t 89), (.t 90)])),
 (Iq 87 (.mv (.t 91))),
 (Iq 92 (.ext (.t 87) 0)),
 (Iq 93 (.ext (.t 87) 1)),
 (Iq 14 (.mv (.t 92))),
 (Iq 15 (.mv (.t 93)))])
 (.seq (.reg [(Iq 94 (.mv (.t 13))),
 (Iq 95 (.mv (.t 15))),
 (Iq 96 (.bin .neq (.t 94) (.t 95))),
 (Iq 97 (.mv (.t 96))),
 ⟨(some 98), (some (97, false)), .q (.mv (.t 12))⟩,
 ⟨(some 99), (some (97, false)), .q (.mv (.t 14))⟩,
 ⟨(some 100), (some (97, false)), .q (.eqb true (.t 98) (.t 99))⟩,
 (Iq 101 (.pick (.t 97) (.c (.bool true)) (.t 100)))])
 (.cond (.t 101)
 (.seq (.reg [(Iq 2 (.mv (.c (.bool false))))])
 .ret)
 .skip)))
 (.seq (.reg [(Iq 103 (.mv (.t 0))),
 (Ic 104 (.call 12 [(.t 103)])),
 (Iq 102 (.mv (.t 104))),
 (Iq 105 (.ext (.t 102) 0)),
 (Iq 106 (.ext (.t 102) 1)),
 (Im 16 (.alloc [(.v (.slice none 0 0))])),
 ⟨none, none, .m (.st true 1 (.t 16) (.t 105))⟩,
 (Iq 17 (.mv (.t 106)))])
 (.seq (.reg [(Iq 108 (.ld true 1 (.t 16))),
 (Iq 109 (.mv (.t 17))),
 (Ic 110 (.call 13 [(.t 108), (.t 109)])),
 (Iq 107 (.mv (.t 110))),
 (Iq 111 (.ext (.t 107) 0)),
 (Iq 112 (.ext (.t 107) 1)),
 (Iq 18 (.mv (.t 111))),
 (Iq 19 (.mv (.t 112)))])
 (.seq (.seq (.reg [(Iq 114 (.ld true 1 (.t 16))),
 (Iq 115 (.mv (.t 17))),
 (Ic 116 (.call 14 [(.t 114), (.t 115)])),
 (Iq 113 (.mv (.t 116))),
 (Iq 117 (.ext (.t 113) 0)),
 (Iq 118 (.ext (.t 113) 1)),
 (Iq 20 (.mv (.t 117))),
 (Iq 21 (.mv (.t 118)))])
 (.seq (.reg [(Iq 119 (.mv (.t 19))),
 (Iq 120 (.mv (.t 21))),
 (Iq 121 (.bin .neq (.t 119) (.t 120))),
 (Iq 122 (.mv (.t 121))),
 ⟨(some 123), (some (122, false)), .q (.mv (.t 18))⟩,
 ⟨(some 124), (some (122, false)), .q (.mv (.t 20))⟩,
 ⟨(some 125), (some (122, false)), .c (.call 8 [(.t 123), (.t 124)])⟩,
 ⟨(some 126), (some (122, false)), .q (.un .not (.t 125))⟩,
 (Iq 127 (.pick (.t 122) (.c (.bool true)) (.t 126)))])
 (.cond (.t 127)
 (.seq (.reg [(Iq 2 (.mv (.c (.bool false))))])
 .ret)
 .skip)))
 (.seq (.reg [(Iq 129 (.ld true 1 (.t 16))),
 (Iq 130 (.mv (.t 17))),
 (Ic 131 (.call 15 [(.t 129), (.t 130)])),
 (Iq 128 (.mv (.t 131))),
 (Iq 132 (.ext (.t 128) 0)),
 (Iq 133 (.ext (.t 128) 1)),
 (Iq 22 (.mv (.t 132))),
 (Iq 23 (.mv (.t 133)))])
 (.seq (.seq (.reg [(Iq 135 (.ld true 1 (.t 16))),
 (Iq 136 (.mv (.t 17))),
 (Ic 137 (.call 16 [(.t 135), (.t 136)])),
 (Iq 134 (.mv (.t 137))),
 (Iq 138 (.ext (.t 134) 0)),
 (Iq 139 (.ext (.t 134) 1)),
 (Iq 24 (.mv (.t 138))),
 (Iq 25 (.mv (.t 139)))])
 (.seq (.reg [(Iq 140 (.mv (.t 23))),
 (Iq 141 (.mv (.t 25))),
 (Iq 142 (.bin .neq (.t 140) (.t 141))),
 (Iq 143 (.mv (.t 142))),
 ⟨(some 144), (some (143, false)), .q (.mv (.t 22))⟩,
 ⟨(some 145), (some (143, false)), .q (.mv (.t 24))⟩,
 ⟨(some 146), (some (143, false)), .q (.bin .neq (.t 144) (.t 145))⟩,
 (Iq 147 (.pick (.t 143) (.c (.bool true)) (.t 146)))])
 (.cond (.t 147)
 (.seq (.reg [(Iq 2 (.mv (.c (.bool false))))])
 .ret)
 .skip)))
 (.seq (.reg [(Iq 149 (.mv (.t 0))),
 (Ic 150 (.call 17 [(.t 149)])),
 (Iq 148 (.mv (.t 150))),
 (Iq 151 (.ext (.t 148) 0)),
 (Iq 152 (.ext (.t 148) 1)),
 (Iq 153 (.ext (.t 148) 2)),
 (Iq 154 (.ext (.t 148) 3)),
 (Im 26 (.alloc [(.v (.slice none 0 0))])),
 ⟨none, none, .m (.st true 1 (.t 26) (.t 151))⟩,
 (Iq 27 (.mv (.t 152))),
 (Iq 28 (.mv (.t 153))),
 (Iq 29 (.mv (.t 154)))])
 (.seq (.reg [(Iq 156 (.ld true 1 (.t 26))),
 (Iq 157 (.mv (.t 27))),
 (Iq 158 (.mv (.t 28))),
 (Iq 159 (.mv (.t 29))),
 (Ic 160 (.call 18 [(.t 156), (.t 157), (.t 158), (.t 159)])),
 (Iq 155 (.mv (.t 160))),
 (Iq 161 (.ext (.t 155) 0)),
 (Iq 162 (.ext (.t 155) 1)),
 (Iq 30 (.mv (.t 161))),
 (Iq 31 (.mv (.t 162)))])
 (.seq (.seq (.reg [(Iq 164 (.ld true 1 (.t 26))),
 (Iq 165 (.mv (.t 27))),
 (Iq 166 (.mv (.t 28))),
 (Iq 167 (.mv (.t 29))),
 (Ic 168 (.call 19 [(.t 164), (.t 165), (.t 166), (.t 167)])),
 (Iq 163 (.mv (.t 168))),
 (Iq 169 (.ext (.t 163) 0)),
 (Iq 170 (.ext (.t 163) 1)),
 (Iq 32 (.mv (.t 169))),
 (Iq 33 (.mv (.t 170)))])
 (.seq (.reg [(Iq 171 (.mv (.t 31))),
 (Iq 172 (.mv (.t 33))),
 (Iq 173 (.bin .neq (.t 171) (.t 172))),
 (Iq 174 (.mv (.t 173))),
 ⟨(some 175), (some (174, false)), .q (.mv (.t 30))⟩,
 ⟨(some 176), (some (174, false)), .q (.mv (.t 32))⟩,
 ⟨(some 177), (some (174, false)), .c (.call 8 [(.t 175), (.t 176)])⟩,
 ⟨(some 178), (some (174, false)), .q (.un .not (.t 177))⟩,
 (Iq 179 (.pick (.t 174) (.c (.bool true)) (.t 178)))])
 (.cond (.t 179)
 (.seq (.reg [(Iq 2 (.mv (.c (.bool false))))])
 .ret)
 .skip)))
 (.seq (.reg [(Iq 181 (.ld true 1 (.t 26))),
 (Iq 182 (.mv (.t 27))),
 (Iq 183 (.mv (.t 28))),
 (Iq 184 (.mv (.t 29))),
 (Ic 185 (.call 20 [(.t 181), (.t 182), (.t 183), (.t 184)])),
 (Iq 180 (.mv (.t 185))),
 (Iq 186 (.ext (.t 180) 0)),
 (Iq 187 (.ext (.t 180) 1)),
 (Iq 34 (.mv (.t 186))),
 (Iq 35 (.mv (.t 187)))])
 (.seq (.seq (.reg [(Iq 189 (.ld true 1 (.t 26))),
 (Iq 190 (.mv (.t 27))),
 (Iq 191 (.mv (.t 28))),
 (Iq 192 (.mv (.t 29))),
 (Ic 193 (.call 21 [(.t 189), (.t 190), (.t 191), (.t 192)])),
 (Iq 188 (.mv (.t 193))),
 (Iq 194 (.ext (.t 188) 0)),
 (Iq 195 (.ext (.t 188) 1)),
 (Iq 36 (.mv (.t 194))),
 (Iq 37 (.mv (.t 195)))])
 (.seq (.reg [(Iq 196 (.mv (.t 35))),
 (Iq 197 (.mv (.t 37))),
 (Iq 198 (.bin .neq (.t 196) (.t 197))),
 (Iq 199 (.mv (.t 198))),
 ⟨(some 200), (some (199, false)), .q (.mv (.t 34))⟩,
 ⟨(some 201), (some (199, false)), .q (.mv (.t 36))⟩,
 ⟨(some 202), (some (199, false)), .c (.call 8 [(.t 200), (.t 201)])⟩,
 ⟨(some 203), (some (199, false)), .q (.un .not (.t 202))⟩,
 (Iq 204 (.pick (.t 199) (.c (.bool true)) (.t 203)))])
 (.cond (.t 204)
 (.seq (.reg [(Iq 2 (.mv (.c (.bool false))))])
 .ret)
 .skip)))
 (.seq (.seq (.reg [(Iq 205 (.mv (.t 35))),
 (Iq 206 (.bin .eql (.t 205) (.c (.int .i64 0))))])
 (.cond (.t 206)
 (.seq (.reg [(Iq 208 (.ld true 1 (.t 26))),
 (Iq 209 (.mv (.t 34))),
 (Ic 210 (.call 22 [(.t 208), (.t 209), (.c (.int .i64 1))])),
 (Iq 207 (.mv (.t 210))),
 (Iq 211 (.ext (.t 207) 0)),
 (Iq 212 (.ext (.t 207) 1)),
 (Iq 38 (.mv (.t 211))),
 (Iq 39 (.mv (.t 212)))])
 (.seq (.reg [(Iq 213 (.mv (.t 31))),
 (Iq 214 (.bin .neq (.t 213) (.c (.int .i64 0)))),
 (Iq 215 (.mv (.t 214))),
 ⟨(some 216), (some (215, false)), .q (.mv (.t 30))⟩,
 ⟨(some 217), (some (215, false)), .q (.mv (.t 28))⟩,
 ⟨(some 218), (some (215, false)), .c (.call 23 [(.t 216), (.t 217)])⟩,
 ⟨(some 219), (some (215, false)), .q (.un .not (.t 218))⟩,
 (Iq 220 (.pick (.t 215) (.c (.bool true)) (.t 219))),
 (Iq 221 (.mv (.t 220))),
 ⟨(some 222), (some (221, false)), .q (.mv (.t 39))⟩,
 ⟨(some 223), (some (221, false)), .q (.bin .neq (.t 222) (.c (.int .i64 0)))⟩,
 (Iq 224 (.pick (.t 221) (.c (.bool true)) (.t 223))),
 (Iq 225 (.mv (.t 224))),
 ⟨(some 226), (some (225, false)), .q (.mv (.t 38))⟩,
 ⟨(some 227), (some (225, false)), .q (.un .not (.t 226))⟩,
 (Iq 228 (.pick (.t 225) (.c (.bool true)) (.t 227))),
 (Iq 229 (.mv (.t 228))),
 ⟨(some 230), (some (229, false)), .q (.mv (.t 34))⟩,
 ⟨(some 231), (some (229, false)), .q (.len (.t 230))⟩,
 ⟨(some 232), (some (229, false)), .q (.mv (.t 27))⟩,
 ⟨(some 233), (some (229, false)), .q (.len (.t 232))⟩,
 ⟨(some 234), (some (229, false)), .q (.bin .neq (.t 231) (.t 233))⟩,
 (Iq 235 (.pick (.t 229) (.c (.bool true)) (.t 234)))])
 (.cond (.t 235)
 (.seq (.reg [(Iq 2 (.mv (.c (.bool false))))])
 .ret)
 .skip)))
 .skip))
 (.seq (.seq (.reg [(Iq 236 (.mv (.t 23))),
 (Iq 237 (.bin .eql (.t 236) (.c (.int .i64 0))))])
 (.cond (.t 237)
 (.seq (.seq (.reg [(Iq 238 (.mv (.t 19))),
 (Iq 239 (.bin .eql (.t 238) (.c (.int .i64 0)))),
 (Iq 240 (.mv (.t 22))),
 (Iq 241 (.bin .gtr (.t 240) (.c (.int .i64 0)))),
 (Iq 242 (.eqb true (.t 239) (.t 241)))])
 (.cond (.t 242)
 (.seq (.reg [(Iq 2 (.mv (.c (.bool false))))])
 .ret)
 .skip))
 (.seq (.reg [(Iq 243 (.mv (.t 19))),
 (Iq 244 (.bin .eql (.t 243) (.c (.int .i64 0))))])
 (.cond (.t 244)
 (.seq (.reg [(Iq 246 (.ld true 1 (.t 16))),
 (Iq 247 (.mv (.t 18))),
 (Iq 248 (.mv (.t 17))),
 (Ic 249 (.call 22 [(.t 246), (.t 247), (.t 248)])),
 (Iq 245 (.mv (.t 249))),
 (Iq 250 (.ext (.t 245) 0)),
 (Iq 251 (.ext (.t 245) 1)),
 (Iq 40 (.mv (.t 250))),
 (Iq 41 (.mv (.t 251)))])
 (.seq (.reg [(Iq 252 (.mv (.t 41))),
 (Iq 253 (.bin .neq (.t 252) (.c (.int .i64 0)))),
 (Iq 254 (.mv (.t 253))),
 ⟨(some 255), (some (254, false)), .q (.mv (.t 40))⟩,
 ⟨(some 256), (some (254, false)), .q (.un .not (.t 255))⟩,
 (Iq 257 (.pick (.t 254) (.c (.bool true)) (.t 256)))])
 (.cond (.t 257)
 (.seq (.reg [(Iq 2 (.mv (.c (.bool false))))])
 .ret)
 .skip)))
 .skip)))
 .skip))
 (.seq (.seq (.reg [(Iq 258 (.mv (.t 6))),
 (Iq 259 (.bin .neq (.t 258) (.c (.int .i64 0))))])
 (.cond (.t 259)
 (.seq (.reg [(Iq 260 (.mv (.t 5))),
 (Iq 261 (.len (.t 260))),
 (Iq 262 (.bin .eql (.t 261) (.c (.int .i64 0)))),
 (Iq 2 (.mv (.t 262)))])
 .ret)
 .skip))
 (.seq (.reg [(Iq 264 (.ld true 1 (.t 3))),
 (Iq 265 (.mv (.t 4))),
 (Iq 266 (.mv (.t 5))),
 (Ic 267 (.call 10 [(.t 264), (.t 265), (.t 266)])),
 (Iq 263 (.mv (.t 267))),
 (Iq 268 (.ext (.t 263) 0)),
 (Iq 269 (.ext (.t 263) 1)),
 (Iq 42 (.mv (.t 268))),
 (Iq 43 (.mv (.t 269)))])
 (.seq (.reg [(Iq 271 (.ld true 1 (.t 3))),
 (Ic 272 (.call 24 [(.t 271)])),
 (Iq 270 (.mv (.t 272))),
 (Iq 273 (.ext (.t 270) 0)),
 (Iq 274 (.ext (.t 270) 1)),
 (Iq 44 (.mv (.t 273))),
 (Iq 45 (.mv (.t 274)))])
 (.seq (.reg [(Iq 275 (.mv (.t 43))),
 (Iq 276 (.bin .eql (.t 275) (.c (.int .i64 0)))),
 (Iq 277 (.mv (.t 276))),
 ⟨(some 278), (some (277, true)), .q (.mv (.t 42))⟩,
 (Iq 279 (.pick (.t 277) (.t 278) (.c (.bool false)))),
 (Iq 280 (.mv (.t 279))),
 ⟨(some 281), (some (280, true)), .q (.mv (.t 45))⟩,
 ⟨(some 282), (some (280, true)), .q (.bin .eql (.t 281) (.c (.int .i64 0)))⟩,
 (Iq 283 (.pick (.t 280) (.t 282) (.c (.bool false)))),
 (Iq 284 (.mv (.t 283))),
 ⟨(some 285), (some (284, true)), .q (.mv (.t 5))⟩,
 ⟨(some 286), (some (284, true)), .q (.len (.t 285))⟩,
 ⟨(some 287), (some (284, true)), .q (.mv (.t 4))⟩,
 ⟨(some 288), (some (284, true)), .q (.len (.t 287))⟩,
 ⟨(some 289), (some (284, true)), .q (.bin .mul (.t 286) (.t 288))⟩,
 ⟨(some 290), (some (284, true)), .q (.mv (.t 44))⟩,
 ⟨(some 291), (some (284, true)), .q (.bin .eql (.t 289) (.t 290))⟩,
 (Iq 292 (.pick (.t 284) (.t 291) (.c (.bool false)))),
 (Iq 2 (.mv (.t 292)))])
 .ret))))))))))))))))))))))))⟩
theorem l_laws_FnShiftsAndBundles : lowF PA f_laws_FnShiftsAndBundles 1 [] = some c_laws_FnShiftsAndBundles := by kernel_rfl
abbrev f_laws_big : FuncId := 4
def c_laws_big : AF := ⟨1, 6, [.t 2],
 (.seq (.reg [(Iq 2 (.mv (.c (.bool false))))])
 (.seq (.reg [(Iq 3 (.mv (.t 0))),
 (Iq 4 (.len (.t 3))),
 (Iq 5 (.bin .gtr (.t 4) (.c (.int .i64 4096)))),
 (Iq 2 (.mv (.t 5)))])
 .ret))⟩
theorem l_laws_big : lowF PA f_laws_big 1 [] = some c_laws_big := by kernel_rfl
abbrev f_spec_DrawFirstShifts : FuncId := 5
def c_spec_DrawFirstShifts : AF := ⟨1, 8, [.c 2 true 1, .t 3],
 (.seq (.reg [(Im 2 (.alloc [(.v (.slice none 0 0))])),
 (Iq 3 (.mv (.c (.slice none 0 0))))])
 (.seq (.reg [(Iq 4 (.mv (.t 0))),
 (Ic 5 (.call 25 [(.t 4)])),
 (Iq 6 (.ext (.t 5) 0)),
 (Iq 7 (.ext (.t 5) 1)),
 ⟨none, none, .m (.st true 1 (.t 2) (.t 6))⟩,
 (Iq 3 (.mv (.t 7)))])
 .ret))⟩
theorem l_spec_DrawFirstShifts : lowF PA f_spec_DrawFirstShifts 1 [] = some c_spec_DrawFirstShifts := by kernel_rfl
abbrev f_impl_FirstShifts : FuncId := 6
def c_impl_FirstShifts : AF := ⟨2, 60, [.t 4, .t 5],
 (.seq (.reg [(Im 2 (.box (.t 0))),
 (Im 3 (.box (.t 1))),
 (Iq 4 (.mv (.c (.slice none 0 0)))),
 (Iq 5 (.mv (.c (.int .i64 0))))])
 (.seq (.seq (.reg [(Iq 14 (.ld true 1 (.t 2))),
 (Iq 15 (.ld false 1 (.t 3))),
 (Ic 16 (.call 26 [(.t 14), (.t 15), (.c (.slice none 0 0))])),
 (Iq 6 (.mv (.t 16)))])
 (.seq (.reg [(Iq 17 (.mv (.t 6))),
 (Iq 18 (.bin .neq (.t 17) (.c (.int .i64 0))))])
 (.cond (.t 18)
 (.seq (.reg [(Iq 19 (.mv (.t 6))),
 (Iq 4 (.mv (.c (.slice none 0 0)))),
 (Iq 5 (.mv (.t 19)))])
 .ret)
 .skip)))
 (.seq (.reg [(Iq 20 (.ld true 1 (.t 2))),
 (Ic 21 (.call 27 [(.t 20)])),
 (Im 22 (.mks 1 (.v (.bool false)) 1 (.t 21) (.t 21))),
 (Im 23 (.bsl 1 [])),
 (Im 7 (.alloc [(.v (.slice none 0 0))])),
 ⟨none, none, .m (.st false 1 (.t 7) (.t 22))⟩,
 (Iq 8 (.mv (.t 23)))])
 (.block 0 (.loop [2, 3, 7, 8] (.block 1 (.seq (.reg [(Iq 24 (.ld false 1 (.t 7))),
 (Ic 25 (.call 28 [(.t 24), (.c (.bool false))])),
 (Im 9 (.alloc [(.v (.int .i64 0))])),
 ⟨none, none, .m (.st false 1 (.t 9) (.t 25))⟩])
 (.seq (.seq (.reg [(Iq 26 (.ld false 1 (.t 9))),
 (Iq 27 (.bin .lss (.t 26) (.c (.int .i64 0))))])
 (.cond (.t 27)
 (.seq (.reg [(Iq 28 (.mv (.t 8))),
 (Iq 4 (.mv (.t 28))),
 (Iq 5 (.mv (.c (.int .i64 0))))])
 .ret)
 .skip))
 (.seq (.reg [(Iq 29 (.ld false 1 (.t 3))),
 (Iq 30 (.mkf 30 [(.t 2), (.t 9)])),
 (Ic 31 (.call 29 [(.t 29), (.t 30)])),
 (Iq 10 (.mv (.t 31)))])
 (.seq (.reg [(Iq 32 (.mv (.t 10))),
 (Iq 33 (.mkf 36 [(.t 2), (.t 3), (.t 7)])),
 (Ic 34 (.call 35 [(.t 32), (.t 33)])),
 (Iq 11 (.mv (.t 34)))])
 (.seq (.seq (.reg [(Iq 35 (.mv (.t 11))),
 (Iq 36 (.bin .lss (.t 35) (.c (.int .i64 0))))])
 (.cond (.t 36)
 (.seq (.reg [(Iq 4 (.mv (.c (.slice none 0 0)))),
 (Iq 5 (.mv (.c (.int .i64 4))))])
 .ret)
 .skip))
 (.seq (.reg [(Iq 37 (.mv (.t 8))),
 (Iq 38 (.mv (.t 10))),
 (Iq 39 (.mv (.t 11))),
 (Iq 40 (.ixs 1 (.t 38) (.t 39))),
 (Iq 41 (.ld false 1 (.t 40))),
 (Im 42 (.bsl 1 [(.t 41)])),
 (Im 43 (.app 1 8 (.t 37) (.t 42))),
 (Iq 8 (.mv (.t 43)))])
 (.seq (.sch (.take 0 (Iq 44 (.ld true 1 (.t 2))) (.take 1 (Iq 45 (.ld false 1 (.t 3))) (.take 2 (Iq 46 (.mv (.t 10))) (.take 3 (Iq 47 (.mv (.t 11))) (.take 4 (Iq 48 (.ixs 1 (.t 46) (.t 47))) (.take 5 (Iq 49 (.ld false 1 (.t 48))) (.take 8 (Iq 52 (.mv (.c (.int .i64 0)))) (.one (Ic 50 (.call 38 [(.t 44), (.t 45), (.t 49)])) [5, 1, 0] (.take 7 (Iq 51 (.len (.t 50))) .done))))))))))
 (.block 2 (.loop [2, 3, 7, 8, 50, 51, 52] (.seq (.reg [(Iq 53 (.bin .lss (.t 52) (.t 51)))])
 (.seq (.cond (.t 53)
 .skip
 (.exit 2))
 (.seq (.block 3 (.seq (.reg [(Iq 54 (.ixs 1 (.t 50) (.t 52))),
 (Iq 55 (.ld false 1 (.t 54))),
 (Iq 13 (.mv (.t 55)))])
 (.reg [(Iq 56 (.ld false 1 (.t 7))),
 (Iq 57 (.mv (.t 13))),
 (Iq 58 (.ixs 1 (.t 56) (.t 57))),
 ⟨none, none, .m (.st false 1 (.t 58) (.c (.bool true)))⟩])))
 (.reg [(Iq 59 (.bin .add (.t 52) (.c (.int .i64 1)))),
 (Iq 52 (.mv (.t 59)))])))))))))))))))))))⟩
theorem l_impl_FirstShifts : lowF PA f_impl_FirstShifts 2 [.k [2, 3, 7, 8], .s (.take 0 (.take 1 (.take 2 (.take 3 (.take 4 (.take 5 (.take 8 (.one 6 (.take 7 .done))))))))), .k [2, 3, 7, 8, 50, 51, 52]] = some c_impl_FirstShifts := by kernel_rfl
abbrev f_spec_FirstShifts : FuncId := 7
def c_spec_FirstShifts : AF := ⟨2, 62, [.t 4, .t 5],
 (.seq (.reg [(Im 2 (.box (.t 0))),
 (Iq 4 (.mv (.c (.slice none 0 0)))),
 (Iq 5 (.mv (.c (.int .i64 0))))])
 (.seq (.seq (.reg [(Iq 12 (.ld true 1 (.t 2))),
 (Iq 13 (.mv (.t 1))),
 (Ic 14 (.call 40 [(.t 12), (.t 13)])),
 (Iq 6 (.mv (.t 14)))])
 (.seq (.reg [(Iq 15 (.mv (.t 6))),
 (Iq 16 (.bin .neq (.t 15) (.c (.int .i64 0))))])
 (.cond (.t 16)
 (.seq (.reg [(Iq 17 (.mv (.t 6))),
 (Iq 4 (.mv (.c (.slice none 0 0)))),
 (Iq 5 (.mv (.t 17)))])
 .ret)
 .skip)))
 (.seq (.reg [(Iq 18 (.ld true 1 (.t 2))),
 (Ic 19 (.call 41 [(.t 18)])),
 (Im 20 (.mks 1 (.v (.bool false)) 1 (.t 19) (.t 19))),
 (Im 21 (.bsl 1 [])),
 (Iq 7 (.mv (.t 20))),
 (Iq 8 (.mv (.t 21)))])
 (.seq (.seq (.reg [(Iq 22 (.mv (.t 7))),
 (Iq 23 (.len (.t 22))),
 (Iq 24 (.mv (.c (.int .i64 0))))])
 (.block 0 (.loop [1, 2, 7, 8, 23, 24] (.seq (.reg [(Iq 25 (.bin .lss (.t 24) (.t 23)))])
 (.seq (.cond (.t 25)
 .skip
 (.exit 0))
 (.seq (.block 1 (.seq (.reg [(Iq 26 (.mv (.t 24))),
 (Iq 9 (.mv (.t 26)))])
 (.seq (.seq (.reg [(Iq 27 (.mv (.t 7))),
 (Iq 28 (.mv (.t 9))),
 (Iq 29 (.ixs 1 (.t 27) (.t 28))),
 (Iq 30 (.ld false 1 (.t 29)))])
 (.cond (.t 30)
 (.exit 1)
 .skip))
 (.seq (.reg [(Iq 10 (.mv (.c (.bool false))))])
 (.seq (.seq (.reg [(Iq 11 (.mv (.c (.int .i64 0))))])
 (.block 2 (.loop [1, 2, 7, 8, 9, 10, 11, 23, 24] (.seq (.seq (.reg [(Iq 31 (.mv (.t 11))),
 (Iq 32 (.ld true 1 (.t 2))),
 (Ic 33 (.call 41 [(.t 32)])),
 (Iq 34 (.bin .lss (.t 31) (.t 33))),
 (Iq 35 (.mv (.t 34))),
 ⟨(some 36), (some (35, true)), .q (.mv (.t 10))⟩,
 ⟨(some 37), (some (35, true)), .q (.un .not (.t 36))⟩,
 (Iq 38 (.pick (.t 35) (.t 37) (.c (.bool false))))])
 (.cond (.t 38)
 .skip
 (.exit 2)))
 (.seq (.block 3 (.seq (.reg [(Iq 41 (.ld true 1 (.t 2))),
 (Iq 42 (.mv (.t 1))),
 (Iq 43 (.mv (.t 11))),
 (Ic 44 (.call 43 [(.t 41), (.t 42), (.t 43)])),
 (Iq 45 (.mv (.t 9))),
 (Ic 46 (.call 42 [(.t 44), (.t 45)])),
 (Iq 47 (.mv (.t 46))),
 ⟨(some 48), (some (47, true)), .q (.ld true 1 (.t 2))⟩,
 ⟨(some 49), (some (47, true)), .q (.mv (.t 1))⟩,
 ⟨(some 50), (some (47, true)), .q (.mv (.t 11))⟩,
 ⟨(some 51), (some (47, true)), .q (.mv (.t 7))⟩,
 ⟨(some 52), (some (47, true)), .c (.call 44 [(.t 48), (.t 49), (.t 50), (.t 51)])⟩,
 (Iq 53 (.pick (.t 47) (.t 52) (.c (.bool false))))])
 (.cond (.t 53)
 (.seq (.reg [(Iq 54 (.mv (.t 8))),
 (Iq 55 (.mv (.t 11))),
 (Im 56 (.bsl 1 [(.t 55)])),
 (Im 57 (.app 1 8 (.t 54) (.t 56))),
 (Iq 8 (.mv (.t 57)))])
 (.reg [(Iq 10 (.mv (.c (.bool true))))]))
 .skip)))
 (.reg [(Iq 39 (.mv (.t 11))),
 (Iq 40 (.bin .add (.t 39) (.c (.int .i64 1)))),
 (Iq 11 (.mv (.t 40)))]))))))
 (.seq (.reg [(Iq 58 (.mv (.t 10))),
 (Iq 59 (.un .not (.t 58)))])
 (.cond (.t 59)
 (.seq (.reg [(Iq 4 (.mv (.c (.slice none 0 0)))),
 (Iq 5 (.mv (.c (.int .i64 4))))])
 .ret)
 .skip)))))))
 (.reg [(Iq 60 (.bin .add (.t 24) (.c (.int .i64 1)))),
 (Iq 24 (.mv (.t 60)))])))))))
 (.seq (.reg [(Iq 61 (.mv (.t 8))),
 (Iq 4 (.mv (.t 61))),
 (Iq 5 (.mv (.c (.int .i64 0))))])
 .ret)))))⟩
theorem l_spec_FirstShifts : lowF PA f_spec_FirstShifts 2 [.k [1, 2, 7, 8, 23, 24], .k [1, 2, 7, 8, 9, 10, 11, 23, 24]] = some c_spec_FirstShifts := by kernel_rfl
abbrev f_laws_likeInts : FuncId := 8
def c_laws_likeInts : AF := ⟨2, 26, [.t 4],
 (.seq (.reg [(Iq 4 (.mv (.c (.bool false))))])
 (.seq (.seq (.reg [(Iq 6 (.mv (.t 0))),
 (Iq 7 (.len (.t 6))),
 (Iq 8 (.mv (.t 1))),
 (Iq 9 (.len (.t 8))),
 (Iq 10 (.bin .neq (.t 7) (.t 9)))])
 (.cond (.t 10)
 (.seq (.reg [(Iq 4 (.mv (.c (.bool false))))])
 .ret)
 .skip))
 (.seq (.seq (.reg [(Iq 5 (.mv (.c (.int .i64 0))))])
 (.block 0 (.loop [0, 1, 5] (.seq (.seq (.reg [(Iq 11 (.mv (.t 5))),
 (Iq 12 (.mv (.t 0))),
 (Iq 13 (.len (.t 12))),
 (Iq 14 (.bin .lss (.t 11) (.t 13)))])
 (.cond (.t 14)
 .skip
 (.exit 0)))
 (.seq (.block 1 (.seq (.sch (.take 0 (Iq 17 (.mv (.t 0))) (.take 1 (Iq 18 (.mv (.t 5))) (.take 2 (Iq 19 (.ixs 1 (.t 17) (.t 18))) (.take 3 (Iq 20 (.ld false 1 (.t 19))) (.take 4 (Iq 21 (.mv (.t 1))) (.take 5 (Iq 22 (.mv (.t 5))) (.take 6 (Iq 23 (.ixs 1 (.t 21) (.t 22))) (.take 7 (Iq 24 (.ld false 1 (.t 23))) (.take 8 (Iq 25 (.bin .neq (.t 20) (.t 24))) .done))))))))))
 (.cond (.t 25)
 (.seq (.reg [(Iq 4 (.mv (.c (.bool false))))])
 .ret)
 .skip)))
 (.reg [(Iq 15 (.mv (.t 5))),
 (Iq 16 (.bin .add (.t 15) (.c (.int .i64 1)))),
 (Iq 5 (.mv (.t 16)))]))))))
 (.seq (.reg [(Iq 4 (.mv (.c (.bool true))))])
 .ret))))⟩
theorem l_laws_likeInts : lowF PA f_laws_likeInts 2 [.k [0, 1, 5], .s (.take 0 (.take 1 (.take 2 (.take 3 (.take 4 (.take 5 (.take 6 (.take 7 (.take 8 .done)))))))))] = some c_laws_likeInts := by kernel_rfl
abbrev f_spec_DrawDoPart : FuncId := 9
def c_spec_DrawDoPart : AF := ⟨1, 53, [.c 2 true 1, .t 3, .t 4],
 (.seq (.reg [(Im 2 (.alloc [(.v (.slice none 0 0))])),
 (Iq 3 (.mv (.c (.slice none 0 0)))),
 (Iq 4 (.mv (.c (.slice none 0 0))))])
 (.seq (.reg [(Iq 11 (.mv (.t 0))),
 (Ic 12 (.call 45 [(.t 11)])),
 (Iq 5 (.mv (.t 12)))])
 (.seq (.reg [(Iq 14 (.mv (.t 0))),
 (Ic 15 (.call 25 [(.t 14)])),
 (Iq 13 (.mv (.t 15))),
 (Iq 16 (.ext (.t 13) 0)),
 (Iq 17 (.ext (.t 13) 1)),
 (Im 6 (.alloc [(.v (.slice none 0 0))])),
 ⟨none, none, .m (.st true 1 (.t 6) (.t 16))⟩,
 (Iq 7 (.mv (.t 17)))])
 (.seq (.reg [(Im 18 (.bsl 1 [])),
 (Iq 8 (.mv (.t 18)))])
 (.seq (.seq (.reg [(Iq 20 (.ld true 1 (.t 6))),
 (Iq 21 (.mv (.t 7))),
 (Ic 22 (.call 7 [(.t 20), (.t 21)])),
 (Iq 19 (.mv (.t 22))),
 (Iq 23 (.ext (.t 19) 0)),
 (Iq 24 (.ext (.t 19) 1)),
 (Iq 9 (.mv (.t 23))),
 (Iq 10 (.mv (.t 24)))])
 (.seq (.reg [(Iq 25 (.mv (.t 10))),
 (Iq 26 (.bin .eql (.t 25) (.c (.int .i64 0)))),
 (Iq 27 (.mv (.t 26))),
 ⟨(some 28), (some (27, true)), .q (.mv (.t 5))⟩,
 ⟨(some 29), (some (27, true)), .c (.call 46 [(.t 28), (.c (.int .i64 4))])⟩,
 ⟨(some 30), (some (27, true)), .q (.bin .gtr (.t 29) (.c (.int .i64 0)))⟩,
 (Iq 31 (.pick (.t 27) (.t 30) (.c (.bool false))))])
 (.cond (.t 31)
 (.reg [(Iq 32 (.mv (.t 9))),
 (Iq 8 (.mv (.t 32)))])
 .skip)))
 (.seq (.seq (.reg [(Iq 33 (.mv (.t 5))),
 (Ic 34 (.call 46 [(.t 33), (.c (.int .i64 8))]))])
 (.block 0 (.seq (.reg [(Iq 36 (.bin .eql (.t 34) (.c (.int .i64 0)))),
 (Iq 35 (.mv (.t 36)))])
 (.cond (.t 35)
 (.reg [(Iq 37 (.mv (.t 8))),
 (Iq 38 (.mv (.t 5))),
 (Im 39 (.bsl 1 [(.c (.int .i64 (-1))), (.c (.int .i64 0)), (.c (.int .i64 1024))])),
 (Ic 40 (.call 47 [(.t 38), (.t 39)])),
 (Im 41 (.bsl 1 [(.t 40)])),
 (Im 42 (.app 1 8 (.t 37) (.t 41))),
 (Iq 8 (.mv (.t 42)))])
 (.seq (.reg [(Iq 44 (.bin .eql (.t 34) (.c (.int .i64 1)))),
 (Iq 43 (.mv (.t 44)))])
 (.cond (.t 43)
 (.seq (.reg [(Iq 45 (.mv (.t 8))),
 (Iq 46 (.len (.t 45))),
 (Iq 47 (.bin .gtr (.t 46) (.c (.int .i64 0))))])
 (.cond (.t 47)
 (.reg [(Iq 48 (.mv (.t 8))),
 (Iq 49 (.slc 1 (.t 48) (some (.c (.int .i64 1))) none)),
 (Iq 8 (.mv (.t 49)))])
 .skip))
 .skip))))))
 (.seq (.reg [(Iq 50 (.ld true 1 (.t 6))),
 (Iq 51 (.mv (.t 7))),
 (Iq 52 (.mv (.t 8))),
 ⟨none, none, .m (.st true 1 (.t 2) (.t 50))⟩,
 (Iq 3 (.mv (.t 51))),
 (Iq 4 (.mv (.t 52)))])
 .ret)))))))⟩
theorem l_spec_DrawDoPart : lowF PA f_spec_DrawDoPart 1 [] = some c_spec_DrawDoPart := by kernel_rfl
abbrev f_impl_DoPart : FuncId := 10
def c_impl_DoPart : AF := ⟨3, 51, [.t 6, .t 7],
 (.seq (.reg [(Im 3 (.box (.t 0))),
 (Iq 6 (.mv (.c (.bool false)))),
 (Iq 7 (.mv (.c (.int .i64 0))))])
 (.seq (.seq (.reg [(Iq 14 (.ld true 1 (.t 3))),
 (Iq 15 (.mv (.t 1))),
 (Iq 16 (.mv (.t 2))),
 (Ic 17 (.call 26 [(.t 14), (.t 15), (.t 16)])),
 (Iq 8 (.mv (.t 17)))])
 (.seq (.reg [(Iq 18 (.mv (.t 8))),
 (Iq 19 (.bin .neq (.t 18) (.c (.int .i64 0))))])
 (.cond (.t 19)
 (.seq (.reg [(Iq 20 (.mv (.t 8))),
 (Iq 6 (.mv (.c (.bool false)))),
 (Iq 7 (.mv (.t 20)))])
 .ret)
 .skip)))
 (.seq (.reg [(Iq 21 (.ld true 1 (.t 3))),
 (Ic 22 (.call 27 [(.t 21)])),
 (Im 23 (.mks 1 (.v (.bool false)) 1 (.t 22) (.t 22))),
 (Iq 9 (.mv (.t 23)))])
 (.seq (.seq (.reg [(Iq 24 (.mv (.t 2))),
 (Iq 25 (.len (.t 24))),
 (Iq 26 (.mv (.c (.int .i64 0))))])
 (.block 0 (.loop [1, 3, 9, 24, 25, 26] (.seq (.reg [(Iq 27 (.bin .lss (.t 26) (.t 25)))])
 (.seq (.cond (.t 27)
 .skip
 (.exit 0))
 (.seq (.block 1 (.seq (.reg [(Iq 28 (.ixs 1 (.t 24) (.t 26))),
 (Iq 29 (.ld false 1 (.t 28))),
 (Iq 11 (.mv (.t 29)))])
 (.seq (.reg [(Iq 30 (.ld true 1 (.t 3))),
 (Iq 31 (.mv (.t 1))),
 (Iq 32 (.mv (.t 11))),
 (Ic 33 (.call 38 [(.t 30), (.t 31), (.t 32)])),
 (Iq 34 (.len (.t 33))),
 (Iq 35 (.mv (.c (.int .i64 0))))])
 (.block 2 (.loop [1, 3, 9, 24, 25, 26, 33, 34, 35] (.seq (.reg [(Iq 36 (.bin .lss (.t 35) (.t 34)))])
 (.seq (.cond (.t 36)
 .skip
 (.exit 2))
 (.seq (.block 3 (.seq (.reg [(Iq 37 (.ixs 1 (.t 33) (.t 35))),
 (Iq 38 (.ld false 1 (.t 37))),
 (Iq 13 (.mv (.t 38)))])
 (.seq (.seq (.reg [(Iq 39 (.mv (.t 9))),
 (Iq 40 (.mv (.t 13))),
 (Iq 41 (.ixs 1 (.t 39) (.t 40))),
 (Iq 42 (.ld false 1 (.t 41)))])
 (.cond (.t 42)
 (.seq (.reg [(Iq 6 (.mv (.c (.bool false)))),
 (Iq 7 (.mv (.c (.int .i64 0))))])
 .ret)
 .skip))
 (.reg [(Iq 43 (.mv (.t 9))),
 (Iq 44 (.mv (.t 13))),
 (Iq 45 (.ixs 1 (.t 43) (.t 44))),
 ⟨none, none, .m (.st false 1 (.t 45) (.c (.bool true)))⟩]))))
 (.reg [(Iq 46 (.bin .add (.t 35) (.c (.int .i64 1)))),
 (Iq 35 (.mv (.t 46)))])))))))))
 (.reg [(Iq 47 (.bin .add (.t 26) (.c (.int .i64 1)))),
 (Iq 26 (.mv (.t 47)))])))))))
 (.seq (.reg [(Iq 48 (.mv (.t 9))),
 (Ic 49 (.call 48 [(.t 48), (.c (.bool false))])),
 (Iq 50 (.un .not (.t 49))),
 (Iq 6 (.mv (.t 50))),
 (Iq 7 (.mv (.c (.int .i64 0))))])
 .ret)))))⟩
theorem l_impl_DoPart : lowF PA f_impl_DoPart 3 [.k [1, 3, 9, 24, 25, 26], .k [1, 3, 9, 24, 25, 26, 33, 34, 35]] = some c_impl_DoPart := by kernel_rfl
abbrev f_spec_DoPart : FuncId := 11
def c_spec_DoPart : AF := ⟨3, 65, [.t 6, .t 7],
 (.seq (.reg [(Im 3 (.box (.t 0))),
 (Iq 6 (.mv (.c (.bool false)))),
 (Iq 7 (.mv (.c (.int .i64 0))))])
 (.seq (.reg [(Iq 12 (.ld true 1 (.t 3))),
 (Iq 13 (.mv (.t 1))),
 (Ic 14 (.call 40 [(.t 12), (.t 13)])),
 (Iq 8 (.mv (.t 14)))])
 (.seq (.seq (.reg [(Iq 15 (.mv (.t 8))),
 (Iq 16 (.bin .eql (.t 15) (.c (.int .i64 0)))),
 (Iq 17 (.mv (.t 16))),
 ⟨(some 18), (some (17, false)), .q (.mv (.t 8))⟩,
 ⟨(some 19), (some (17, false)), .q (.bin .eql (.t 18) (.c (.int .i64 5)))⟩,
 (Iq 20 (.pick (.t 17) (.c (.bool true)) (.t 19)))])
 (.cond (.t 20)
 (.seq (.reg [(Iq 9 (.mv (.c (.int .i64 0))))])
 (.block 0 (.loop [1, 2, 3, 8, 9] (.seq (.seq (.reg [(Iq 21 (.mv (.t 9))),
 (Iq 22 (.mv (.t 2))),
 (Iq 23 (.len (.t 22))),
 (Iq 24 (.bin .lss (.t 21) (.t 23)))])
 (.cond (.t 24)
 .skip
 (.exit 0)))
 (.seq (.block 1 (.seq (.sch (.take 0 (Iq 27 (.mv (.t 2))) (.take 1 (Iq 28 (.mv (.t 9))) (.take 2 (Iq 29 (.ixs 1 (.t 27) (.t 28))) (.take 3 (Iq 30 (.ld false 1 (.t 29))) (.take 4 (Iq 31 (.ld true 1 (.t 3))) (.one (Ic 32 (.call 41 [(.t 31)])) [4] (.take 6 (Iq 33 (.bin .sub (.t 32) (.c (.int .i64 1)))) (.one (Ic 34 (.call 49 [(.t 30), (.c (.int .i64 0)), (.t 33)])) [3] (.take 8 (Iq 35 (.un .not (.t 34))) .done))))))))))
 (.cond (.t 35)
 (.reg [(Iq 8 (.mv (.c (.int .i64 2))))])
 .skip)))
 (.reg [(Iq 25 (.mv (.t 9))),
 (Iq 26 (.bin .add (.t 25) (.c (.int .i64 1)))),
 (Iq 9 (.mv (.t 26)))]))))))
 .skip))
 (.seq (.seq (.reg [(Iq 36 (.mv (.t 8))),
 (Iq 37 (.bin .neq (.t 36) (.c (.int .i64 0))))])
 (.cond (.t 37)
 (.seq (.reg [(Iq 38 (.mv (.t 8))),
 (Iq 6 (.mv (.c (.bool false)))),
 (Iq 7 (.mv (.t 38)))])
 .ret)
 .skip))
 (.seq (.reg [(Iq 39 (.ld true 1 (.t 3))),
 (Ic 40 (.call 41 [(.t 39)])),
 (Im 41 (.mks 1 (.v (.bool false)) 1 (.t 40) (.t 40))),
 (Iq 10 (.mv (.t 41)))])
 (.seq (.seq (.reg [(Iq 11 (.mv (.c (.int .i64 0))))])
 (.block 2 (.loop [1, 2, 3, 10, 11] (.seq (.seq (.reg [(Iq 42 (.mv (.t 11))),
 (Iq 43 (.mv (.t 2))),
 (Iq 44 (.len (.t 43))),
 (Iq 45 (.bin .lss (.t 42) (.t 44)))])
 (.cond (.t 45)
 .skip
 (.exit 2)))
 (.seq (.block 3 (.seq (.sch (.take 0 (Iq 48 (.ld true 1 (.t 3))) (.take 1 (Iq 49 (.mv (.t 1))) (.take 2 (Iq 50 (.mv (.t 2))) (.take 3 (Iq 51 (.mv (.t 11))) (.take 4 (Iq 52 (.ixs 1 (.t 50) (.t 51))) (.take 5 (Iq 53 (.ld false 1 (.t 52))) (.take 6 (Iq 54 (.mv (.t 10))) (.one (Ic 55 (.call 44 [(.t 48), (.t 49), (.t 53), (.t 54)])) [5, 0] (.take 8 (Iq 56 (.un .not (.t 55))) .done))))))))))
 (.cond (.t 56)
 (.seq (.reg [(Iq 6 (.mv (.c (.bool false)))),
 (Iq 7 (.mv (.c (.int .i64 0))))])
 .ret)
 .skip)))
 (.reg [(Iq 46 (.mv (.t 11))),
 (Iq 47 (.bin .add (.t 46) (.c (.int .i64 1)))),
 (Iq 11 (.mv (.t 47)))]))))))
 (.seq (.reg [(Iq 57 (.mv (.t 2))),
 (Iq 58 (.len (.t 57))),
 (Iq 59 (.mv (.t 1))),
 (Iq 60 (.len (.t 59))),
 (Iq 61 (.bin .mul (.t 58) (.t 60))),
 (Iq 62 (.ld true 1 (.t 3))),
 (Ic 63 (.call 41 [(.t 62)])),
 (Iq 64 (.bin .eql (.t 61) (.t 63))),
 (Iq 6 (.mv (.t 64))),
 (Iq 7 (.mv (.c (.int .i64 0))))])
 .ret)))))))⟩
theorem l_spec_DoPart : lowF PA f_spec_DoPart 3 [.k [1, 2, 3, 8, 9], .s (.take 0 (.take 1 (.take 2 (.take 3 (.take 4 (.one 5 (.take 6 (.one 7 (.take 8 .done))))))))), .k [1, 2, 3, 10, 11], .s (.take 0 (.take 1 (.take 2 (.take 3 (.take 4 (.take 5 (.take 6 (.one 7 (.take 8 .done)))))))))] = some c_spec_DoPart := by kernel_rfl
abbrev f_spec_DrawFirstPerfect : FuncId := 12
def c_spec_DrawFirstPerfect : AF := ⟨1, 8, [.c 2 true 1, .t 3],
 (.seq (.reg [(Im 2 (.alloc [(.v (.slice none 0 0))])),
 (Iq 3 (.mv (.c (.int .i64 0))))])
 (.seq (.reg [(Iq 4 (.mv (.t 0))),
 (Ic 5 (.call 50 [(.t 4)])),
 (Iq 6 (.ext (.t 5) 0)),
 (Iq 7 (.ext (.t 5) 1)),
 ⟨none, none, .m (.st true 1 (.t 2) (.t 6))⟩,
 (Iq 3 (.mv (.t 7)))])
 .ret))⟩
theorem l_spec_DrawFirstPerfect : lowF PA f_spec_DrawFirstPerfect 1 [] = some c_spec_DrawFirstPerfect := by kernel_rfl
abbrev f_impl_FirstPerfect : FuncId := 13
def c_impl_FirstPerfect : AF := ⟨2, 21, [.t 4, .t 5],
 (.seq (.reg [(Im 2 (.box (.t 0))),
 (Iq 4 (.mv (.c (.slice none 0 0)))),
 (Iq 5 (.mv (.c (.int .i64 0))))])
 (.seq (.seq (.reg [(Iq 8 (.ld true 1 (.t 2))),
 (Iq 9 (.mv (.t 1))),
 (Ic 10 (.call 51 [(.t 8), (.t 9)])),
 (Iq 6 (.mv (.t 10)))])
 (.seq (.reg [(Iq 11 (.mv (.t 6))),
 (Iq 12 (.bin .neq (.t 11) (.c (.int .i64 0))))])
 (.cond (.t 12)
 (.seq (.reg [(Iq 13 (.mv (.t 6))),
 (Iq 4 (.mv (.c (.slice none 0 0)))),
 (Iq 5 (.mv (.t 13)))])
 .ret)
 .skip)))
 (.seq (.reg [(Im 7 (.alloc [(.v (.slice none 0 0))]))])
 (.seq (.reg [(Iq 14 (.ld true 1 (.t 2))),
 (Iq 15 (.mv (.t 1))),
 (Iq 16 (.mkf 53 [(.t 7)])),
 (Ic 17 (.call 52 [(.t 14), (.t 15), (.t 16)]))])
 (.seq (.seq (.reg [(Iq 18 (.ld false 1 (.t 7))),
 (Iq 19 (.isn false (.t 18)))])
 (.cond (.t 19)
 (.seq (.reg [(Iq 4 (.mv (.c (.slice none 0 0)))),
 (Iq 5 (.mv (.c (.int .i64 4))))])
 .ret)
 .skip))
 (.seq (.reg [(Iq 20 (.ld false 1 (.t 7))),
 (Iq 4 (.mv (.t 20))),
 (Iq 5 (.mv (.c (.int .i64 0))))])
 .ret))))))⟩
theorem l_impl_FirstPerfect : lowF PA f_impl_FirstPerfect 2 [] = some c_impl_FirstPerfect := by kernel_rfl
abbrev f_spec_FirstPerfect : FuncId := 14
def c_spec_FirstPerfect : AF := ⟨2, 24, [.t 4, .t 5],
 (.seq (.reg [(Im 2 (.box (.t 0))),
 (Iq 4 (.mv (.c (.slice none 0 0)))),
 (Iq 5 (.mv (.c (.int .i64 0))))])
 (.seq (.seq (.reg [(Iq 9 (.ld true 1 (.t 2))),
 (Iq 10 (.mv (.t 1))),
 (Ic 11 (.call 55 [(.t 9), (.t 10)])),
 (Iq 6 (.mv (.t 11)))])
 (.seq (.reg [(Iq 12 (.mv (.t 6))),
 (Iq 13 (.bin .neq (.t 12) (.c (.int .i64 0))))])
 (.cond (.t 13)
 (.seq (.reg [(Iq 14 (.mv (.t 6))),
 (Iq 4 (.mv (.c (.slice none 0 0)))),
 (Iq 5 (.mv (.t 14)))])
 .ret)
 .skip)))
 (.seq (.reg [(Iq 16 (.ld true 1 (.t 2))),
 (Iq 17 (.mv (.t 1))),
 (Ic 18 (.call 56 [(.t 16), (.t 17)])),
 (Iq 15 (.mv (.t 18))),
 (Iq 19 (.ext (.t 15) 0)),
 (Iq 20 (.ext (.t 15) 1)),
 (Iq 7 (.mv (.t 19))),
 (Iq 8 (.mv (.t 20)))])
 (.seq (.seq (.reg [(Iq 21 (.mv (.t 7))),
 (Iq 22 (.bin .eql (.t 21) (.c (.int .i64 0))))])
 (.cond (.t 22)
 (.seq (.reg [(Iq 4 (.mv (.c (.slice none 0 0)))),
 (Iq 5 (.mv (.c (.int .i64 4))))])
 .ret)
 .skip))
 (.seq (.reg [(Iq 23 (.mv (.t 8))),
 (Iq 4 (.mv (.t 23))),
 (Iq 5 (.mv (.c (.int .i64 0))))])
 .ret)))))⟩
theorem l_spec_FirstPerfect : lowF PA f_spec_FirstPerfect 2 [] = some c_spec_FirstPerfect := by kernel_rfl
abbrev f_impl_CountPerfect : FuncId := 15
def c_impl_CountPerfect : AF := ⟨2, 19, [.t 4, .t 5],
 (.seq (.reg [(Im 2 (.box (.t 0))),
 (Iq 4 (.mv (.c (.int .i64 0)))),
 (Iq 5 (.mv (.c (.int .i64 0))))])
 (.seq (.seq (.reg [(Iq 8 (.ld true 1 (.t 2))),
 (Iq 9 (.mv (.t 1))),
 (Ic 10 (.call 51 [(.t 8), (.t 9)])),
 (Iq 6 (.mv (.t 10)))])
 (.seq (.reg [(Iq 11 (.mv (.t 6))),
 (Iq 12 (.bin .neq (.t 11) (.c (.int .i64 0))))])
 (.cond (.t 12)
 (.seq (.reg [(Iq 13 (.mv (.t 6))),
 (Iq 4 (.mv (.c (.int .i64 0)))),
 (Iq 5 (.mv (.t 13)))])
 .ret)
 .skip)))
 (.seq (.reg [(Im 7 (.alloc [(.v (.int .i64 0))])),
 ⟨none, none, .m (.st false 1 (.t 7) (.c (.int .i64 0)))⟩])
 (.seq (.reg [(Iq 14 (.ld true 1 (.t 2))),
 (Iq 15 (.mv (.t 1))),
 (Iq 16 (.mkf 57 [(.t 7)])),
 (Ic 17 (.call 52 [(.t 14), (.t 15), (.t 16)]))])
 (.seq (.reg [(Iq 18 (.ld false 1 (.t 7))),
 (Iq 4 (.mv (.t 18))),
 (Iq 5 (.mv (.c (.int .i64 0))))])
 .ret)))))⟩
theorem l_impl_CountPerfect : lowF PA f_impl_CountPerfect 2 [] = some c_impl_CountPerfect := by kernel_rfl
abbrev f_spec_CountPerfect : FuncId := 16
def c_spec_CountPerfect : AF := ⟨2, 22, [.t 4, .t 5],
 (.seq (.reg [(Im 2 (.box (.t 0))),
 (Iq 4 (.mv (.c (.int .i64 0)))),
 (Iq 5 (.mv (.c (.int .i64 0))))])
 (.seq (.seq (.reg [(Iq 9 (.ld true 1 (.t 2))),
 (Iq 10 (.mv (.t 1))),
 (Ic 11 (.call 55 [(.t 9), (.t 10)])),
 (Iq 6 (.mv (.t 11)))])
 (.seq (.reg [(Iq 12 (.mv (.t 6))),
 (Iq 13 (.bin .neq (.t 12) (.c (.int .i64 0))))])
 (.cond (.t 13)
 (.seq (.reg [(Iq 14 (.mv (.t 6))),
 (Iq 4 (.mv (.c (.int .i64 0)))),
 (Iq 5 (.mv (.t 14)))])
 .ret)
 .skip)))
 (.seq (.reg [(Iq 16 (.ld true 1 (.t 2))),
 (Iq 17 (.mv (.t 1))),
 (Ic 18 (.call 56 [(.t 16), (.t 17)])),
 (Iq 15 (.mv (.t 18))),
 (Iq 19 (.ext (.t 15) 0)),
 (Iq 20 (.ext (.t 15) 1)),
 (Iq 7 (.mv (.t 19))),
 (Iq 8 (.mv (.t 20)))])
 (.seq (.reg [(Iq 21 (.mv (.t 7))),
 (Iq 4 (.mv (.t 21))),
 (Iq 5 (.mv (.c (.int .i64 0))))])
 .ret))))⟩
theorem l_spec_CountPerfect : lowF PA f_spec_CountPerfect 2 [] = some c_spec_CountPerfect := by kernel_rfl
abbrev f_spec_DrawSwitchBundle : FuncId := 17
def c_spec_DrawSwitchBundle : AF := ⟨1, 12, [.c 2 true 1, .t 3, .t 4, .t 5],
 (.seq (.reg [(Im 2 (.alloc [(.v (.slice none 0 0))])),
 (Iq 3 (.mv (.c (.slice none 0 0)))),
 (Iq 4 (.mv (.c (.int .i64 0)))),
 (Iq 5 (.mv (.c (.int .i64 0))))])
 (.seq (.reg [(Iq 6 (.mv (.t 0))),
 (Ic 7 (.call 58 [(.t 6)])),
 (Iq 8 (.ext (.t 7) 0)),
 (Iq 9 (.ext (.t 7) 1)),
 (Iq 10 (.ext (.t 7) 2)),
 (Iq 11 (.ext (.t 7) 3)),
 ⟨none, none, .m (.st true 1 (.t 2) (.t 8))⟩,
 (Iq 3 (.mv (.t 9))),
 (Iq 4 (.mv (.t 10))),
 (Iq 5 (.mv (.t 11)))])
 .ret))⟩
theorem l_spec_DrawSwitchBundle : lowF PA f_spec_DrawSwitchBundle 1 [] = some c_spec_DrawSwitchBundle := by kernel_rfl
abbrev f_impl_BundleOf : FuncId := 18
def c_impl_BundleOf : AF := ⟨4, 24, [.t 8, .t 9],
 (.seq (.reg [(Im 4 (.box (.t 0))),
 (Iq 8 (.mv (.c (.slice none 0 0)))),
 (Iq 9 (.mv (.c (.int .i64 0))))])
 (.seq (.seq (.reg [(Iq 11 (.ld true 1 (.t 4))),
 (Iq 12 (.mv (.t 1))),
 (Iq 13 (.mv (.t 2))),
 (Iq 14 (.mv (.t 3))),
 (Ic 15 (.call 59 [(.t 11), (.t 12), (.t 13), (.t 14)])),
 (Iq 10 (.mv (.t 15)))])
 (.seq (.reg [(Iq 16 (.mv (.t 10))),
 (Iq 17 (.bin .neq (.t 16) (.c (.int .i64 0))))])
 (.cond (.t 17)
 (.seq (.reg [(Iq 18 (.mv (.t 10))),
 (Iq 8 (.mv (.c (.slice none 0 0)))),
 (Iq 9 (.mv (.t 18)))])
 .ret)
 .skip)))
 (.seq (.reg [(Iq 19 (.ld true 1 (.t 4))),
 (Iq 20 (.mv (.t 1))),
 (Iq 21 (.mv (.t 2))),
 (Iq 22 (.mv (.t 3))),
 (Ic 23 (.call 60 [(.t 19), (.t 20), (.t 21), (.t 22)])),
 (Iq 8 (.mv (.t 23))),
 (Iq 9 (.mv (.c (.int .i64 0))))])
 .ret)))⟩
theorem l_impl_BundleOf : lowF PA f_impl_BundleOf 4 [] = some c_impl_BundleOf := by kernel_rfl
abbrev f_spec_BundleOf : FuncId := 19
def c_spec_BundleOf : AF := ⟨4, 24, [.t 8, .t 9],
 (.seq (.reg [(Im 4 (.box (.t 0))),
 (Iq 8 (.mv (.c (.slice none 0 0)))),
 (Iq 9 (.mv (.c (.int .i64 0))))])
 (.seq (.seq (.reg [(Iq 11 (.ld true 1 (.t 4))),
 (Iq 12 (.mv (.t 1))),
 (Iq 13 (.mv (.t 2))),
 (Iq 14 (.mv (.t 3))),
 (Ic 15 (.call 61 [(.t 11), (.t 12), (.t 13), (.t 14)])),
 (Iq 10 (.mv (.t 15)))])
 (.seq (.reg [(Iq 16 (.mv (.t 10))),
 (Iq 17 (.bin .neq (.t 16) (.c (.int .i64 0))))])
 (.cond (.t 17)
 (.seq (.reg [(Iq 18 (.mv (.t 10))),
 (Iq 8 (.mv (.c (.slice none 0 0)))),
 (Iq 9 (.mv (.t 18)))])
 .ret)
 .skip)))
 (.seq (.reg [(Iq 19 (.ld true 1 (.t 4))),
 (Iq 20 (.mv (.t 1))),
 (Iq 21 (.mv (.t 2))),
 (Iq 22 (.mv (.t 3))),
 (Ic 23 (.call 62 [(.t 19), (.t 20), (.t 21), (.t 22)])),
 (Iq 8 (.mv (.t 23))),
 (Iq 9 (.mv (.c (.int .i64 0))))])
 .ret)))⟩
theorem l_spec_BundleOf : lowF PA f_spec_BundleOf 4 [] = some c_spec_BundleOf := by kernel_rfl
abbrev f_impl_SwitchBundle : FuncId := 20
def c_impl_SwitchBundle : AF := ⟨4, 28, [.t 8, .t 9],
 (.seq (.reg [(Im 4 (.box (.t 0))),
 (Im 7 (.box (.t 3))),
 (Iq 8 (.mv (.c (.slice none 0 0)))),
 (Iq 9 (.mv (.c (.int .i64 0))))])
 (.seq (.seq (.reg [(Iq 12 (.ld true 1 (.t 4))),
 (Iq 13 (.mv (.t 1))),
 (Iq 14 (.mv (.t 2))),
 (Iq 15 (.ld false 1 (.t 7))),
 (Ic 16 (.call 59 [(.t 12), (.t 13), (.t 14), (.t 15)])),
 (Iq 10 (.mv (.t 16)))])
 (.seq (.reg [(Iq 17 (.mv (.t 10))),
 (Iq 18 (.bin .neq (.t 17) (.c (.int .i64 0))))])
 (.cond (.t 18)
 (.seq (.reg [(Iq 19 (.mv (.t 10))),
 (Iq 8 (.mv (.c (.slice none 0 0)))),
 (Iq 9 (.mv (.t 19)))])
 .ret)
 .skip)))
 (.seq (.reg [(Iq 20 (.ld true 1 (.t 4))),
 (Iq 21 (.mv (.t 1))),
 (Iq 22 (.mv (.t 2))),
 (Iq 23 (.ld false 1 (.t 7))),
 (Ic 24 (.call 60 [(.t 20), (.t 21), (.t 22), (.t 23)])),
 (Im 11 (.alloc [(.v (.slice none 0 0))])),
 ⟨none, none, .m (.st false 1 (.t 11) (.t 24))⟩])
 (.seq (.reg [(Iq 25 (.mv (.t 1))),
 (Iq 26 (.mkf 63 [(.t 4), (.t 11), (.t 7)])),
 (Ic 27 (.call 29 [(.t 25), (.t 26)])),
 (Iq 8 (.mv (.t 27))),
 (Iq 9 (.mv (.c (.int .i64 0))))])
 .ret))))⟩
theorem l_impl_SwitchBundle : lowF PA f_impl_SwitchBundle 4 [] = some c_impl_SwitchBundle := by kernel_rfl
abbrev f_spec_SwitchBundle : FuncId := 21
def c_spec_SwitchBundle : AF := ⟨4, 61, [.t 8, .t 9],
 (.seq (.reg [(Im 4 (.box (.t 0))),
 (Iq 8 (.mv (.c (.slice none 0 0)))),
 (Iq 9 (.mv (.c (.int .i64 0))))])
 (.seq (.seq (.reg [(Iq 16 (.ld true 1 (.t 4))),
 (Iq 17 (.mv (.t 1))),
 (Iq 18 (.mv (.t 2))),
 (Iq 19 (.mv (.t 3))),
 (Ic 20 (.call 61 [(.t 16), (.t 17), (.t 18), (.t 19)])),
 (Iq 10 (.mv (.t 20)))])
 (.seq (.reg [(Iq 21 (.mv (.t 10))),
 (Iq 22 (.bin .neq (.t 21) (.c (.int .i64 0))))])
 (.cond (.t 22)
 (.seq (.reg [(Iq 23 (.mv (.t 10))),
 (Iq 8 (.mv (.c (.slice none 0 0)))),
 (Iq 9 (.mv (.t 23)))])
 .ret)
 .skip)))
 (.seq (.reg [(Iq 24 (.ld true 1 (.t 4))),
 (Iq 25 (.mv (.t 1))),
 (Iq 26 (.mv (.t 2))),
 (Iq 27 (.mv (.t 3))),
 (Ic 28 (.call 62 [(.t 24), (.t 25), (.t 26), (.t 27)])),
 (Im 29 (.bsl 1 [])),
 (Iq 11 (.mv (.t 28))),
 (Iq 12 (.mv (.t 29)))])
 (.seq (.seq (.reg [(Iq 13 (.mv (.c (.int .i64 0))))])
 (.block 0 (.loop [1, 3, 4, 11, 12, 13] (.seq (.seq (.reg [(Iq 30 (.mv (.t 13))),
 (Iq 31 (.mv (.t 1))),
 (Iq 32 (.len (.t 31))),
 (Iq 33 (.bin .lss (.t 30) (.t 32)))])
 (.cond (.t 33)
 .skip
 (.exit 0)))
 (.seq (.block 1 (.seq (.reg [(Iq 36 (.mv (.t 1))),
 (Iq 37 (.mv (.t 13))),
 (Iq 38 (.ixs 1 (.t 36) (.t 37))),
 (Iq 39 (.ld false 1 (.t 38))),
 (Iq 14 (.mv (.t 39)))])
 (.seq (.seq (.reg [(Iq 40 (.mv (.t 11))),
 (Iq 41 (.mv (.t 14))),
 (Ic 42 (.call 42 [(.t 40), (.t 41)]))])
 (.cond (.t 42)
 (.seq (.reg [(Iq 43 (.ld true 1 (.t 4))),
 (Iq 44 (.mv (.t 14))),
 (Ic 45 (.call 65 [(.t 43), (.t 44)])),
 (Iq 15 (.mv (.t 45)))])
 (.seq (.reg [(Iq 46 (.mv (.t 15))),
 (Iq 47 (.mv (.t 3))),
 (Iq 48 (.mv (.t 15))),
 (Iq 49 (.mv (.t 3))),
 (Iq 50 (.ixs 1 (.t 48) (.t 49))),
 (Iq 51 (.ld false 1 (.t 50))),
 (Iq 52 (.bin .sub (.c (.int .i64 1)) (.t 51))),
 (Iq 53 (.ixs 1 (.t 46) (.t 47))),
 ⟨none, none, .m (.st false 1 (.t 53) (.t 52))⟩])
 (.reg [(Iq 54 (.ld true 1 (.t 4))),
 (Iq 55 (.mv (.t 15))),
 (Ic 56 (.call 66 [(.t 54), (.t 55)])),
 (Iq 14 (.mv (.t 56)))])))
 .skip))
 (.reg [(Iq 57 (.mv (.t 12))),
 (Iq 58 (.mv (.t 14))),
 (Ic 59 (.call 67 [(.t 57), (.t 58)])),
 (Iq 12 (.mv (.t 59)))]))))
 (.reg [(Iq 34 (.mv (.t 13))),
 (Iq 35 (.bin .add (.t 34) (.c (.int .i64 1)))),
 (Iq 13 (.mv (.t 35)))]))))))
 (.seq (.reg [(Iq 60 (.mv (.t 12))),
 (Iq 8 (.mv (.t 60))),
 (Iq 9 (.mv (.c (.int .i64 0))))])
 .ret)))))⟩
theorem l_spec_SwitchBundle : lowF PA f_spec_SwitchBundle 4 [.k [1, 3, 4, 11, 12, 13]] = some c_spec_SwitchBundle := by kernel_rfl
abbrev f_impl_IsPerfect : FuncId := 22
def c_impl_IsPerfect : AF := ⟨3, 20, [.t 6, .t 7],
 (.seq (.reg [(Im 3 (.box (.t 0))),
 (Iq 6 (.mv (.c (.bool false)))),
 (Iq 7 (.mv (.c (.int .i64 0))))])
 (.seq (.seq (.reg [(Iq 9 (.ld true 1 (.t 3))),
 (Iq 10 (.mv (.t 1))),
 (Iq 11 (.mv (.t 2))),
 (Ic 12 (.call 68 [(.t 9), (.t 10), (.t 11)])),
 (Iq 8 (.mv (.t 12)))])
 (.seq (.reg [(Iq 13 (.mv (.t 8))),
 (Iq 14 (.bin .neq (.t 13) (.c (.int .i64 0))))])
 (.cond (.t 14)
 (.seq (.reg [(Iq 15 (.mv (.t 8))),
 (Iq 6 (.mv (.c (.bool false)))),
 (Iq 7 (.mv (.t 15)))])
 .ret)
 .skip)))
 (.seq (.reg [(Iq 16 (.ld true 1 (.t 3))),
 (Iq 17 (.mv (.t 1))),
 (Iq 18 (.mv (.t 2))),
 (Ic 19 (.call 69 [(.t 16), (.t 17), (.t 18)])),
 (Iq 6 (.mv (.t 19))),
 (Iq 7 (.mv (.c (.int .i64 0))))])
 .ret)))⟩
theorem l_impl_IsPerfect : lowF PA f_impl_IsPerfect 3 [] = some c_impl_IsPerfect := by kernel_rfl
abbrev f_laws_hasInt : FuncId := 23
def c_laws_hasInt : AF := ⟨2, 18, [.t 4],
 (.seq (.reg [(Iq 4 (.mv (.c (.bool false))))])
 (.seq (.seq (.reg [(Iq 5 (.mv (.c (.int .i64 0))))])
 (.block 0 (.loop [0, 1, 5] (.seq (.seq (.reg [(Iq 6 (.mv (.t 5))),
 (Iq 7 (.mv (.t 0))),
 (Iq 8 (.len (.t 7))),
 (Iq 9 (.bin .lss (.t 6) (.t 8)))])
 (.cond (.t 9)
 .skip
 (.exit 0)))
 (.seq (.block 1 (.seq (.reg [(Iq 12 (.mv (.t 0))),
 (Iq 13 (.mv (.t 5))),
 (Iq 14 (.ixs 1 (.t 12) (.t 13))),
 (Iq 15 (.ld false 1 (.t 14))),
 (Iq 16 (.mv (.t 1))),
 (Iq 17 (.bin .eql (.t 15) (.t 16)))])
 (.cond (.t 17)
 (.seq (.reg [(Iq 4 (.mv (.c (.bool true))))])
 .ret)
 .skip)))
 (.reg [(Iq 10 (.mv (.t 5))),
 (Iq 11 (.bin .add (.t 10) (.c (.int .i64 1)))),
 (Iq 5 (.mv (.t 11)))]))))))
 (.seq (.reg [(Iq 4 (.mv (.c (.bool false))))])
 .ret)))⟩
theorem l_laws_hasInt : lowF PA f_laws_hasInt 2 [.k [0, 1, 5]] = some c_laws_hasInt := by kernel_rfl
abbrev f_impl_CountWords : FuncId := 24
def c_impl_CountWords : AF := ⟨1, 9, [.t 2, .t 3],
 (.seq (.reg [(Im 1 (.box (.t 0))),
 (Iq 2 (.mv (.c (.int .i64 0)))),
 (Iq 3 (.mv (.c (.int .i64 0))))])
 (.seq (.seq (.reg [(Iq 4 (.ld true 1 (.t 1))),
 (Ic 5 (.call 70 [(.t 4)])),
 (Iq 6 (.un .not (.t 5)))])
 (.cond (.t 6)
 (.seq (.reg [(Iq 2 (.mv (.c (.int .i64 0)))),
 (Iq 3 (.mv (.c (.int .i64 1))))])
 .ret)
 .skip))
 (.seq (.reg [(Iq 7 (.ld true 1 (.t 1))),
 (Ic 8 (.call 27 [(.t 7)])),
 (Iq 2 (.mv (.t 8))),
 (Iq 3 (.mv (.c (.int .i64 0))))])
 .ret)))⟩
theorem l_impl_CountWords : lowF PA f_impl_CountWords 1 [] = some c_impl_CountWords := by kernel_rfl
abbrev f_spec_DrawPerfectRadius : FuncId := 25
def c_spec_DrawPerfectRadius : AF := ⟨1, 15, [.c 2 true 1, .t 3],
 (.seq (.reg [(Im 2 (.alloc [(.v (.slice none 0 0))])),
 (Iq 3 (.mv (.c (.slice none 0 0))))])
 (.seq (.reg [(Iq 8 (.mv (.t 0))),
 (Ic 9 (.call 71 [(.t 8)])),
 (Iq 7 (.mv (.t 9))),
 (Iq 10 (.ext (.t 7) 0)),
 (Iq 11 (.ext (.t 7) 1)),
 (Iq 12 (.ext (.t 7) 2)),
 (Im 4 (.alloc [(.v (.slice none 0 0))])),
 ⟨none, none, .m (.st true 1 (.t 4) (.t 10))⟩,
 (Iq 5 (.mv (.t 11))),
 (Iq 6 (.mv (.t 12)))])
 (.seq (.reg [(Iq 13 (.ld true 1 (.t 4))),
 (Iq 14 (.mv (.t 5))),
 ⟨none, none, .m (.st true 1 (.t 2) (.t 13))⟩,
 (Iq 3 (.mv (.t 14)))])
 .ret)))⟩
theorem l_spec_DrawPerfectRadius : lowF PA f_spec_DrawPerfectRadius 1 [] = some c_spec_DrawPerfectRadius := by kernel_rfl
abbrev f_impl_someCode : FuncId := 26
def c_impl_someCode : AF := ⟨3, 18, [.t 6],
 (.seq (.reg [(Im 3 (.box (.t 0))),
 (Iq 6 (.mv (.c (.int .i64 0))))])
 (.seq (.seq (.reg [(Iq 8 (.ld true 1 (.t 3))),
 (Iq 9 (.mv (.t 1))),
 (Iq 10 (.mv (.t 2))),
 (Ic 11 (.call 72 [(.t 8), (.t 9), (.t 10)])),
 (Iq 7 (.mv (.t 11)))])
 (.seq (.reg [(Iq 12 (.mv (.t 7))),
 (Iq 13 (.bin .neq (.t 12) (.c (.int .i64 0))))])
 (.cond (.t 13)
 (.seq (.reg [(Iq 14 (.mv (.t 7))),
 (Iq 6 (.mv (.t 14)))])
 .ret)
 .skip)))
 (.seq (.seq (.reg [(Iq 15 (.mv (.t 1))),
 (Iq 16 (.len (.t 15))),
 (Iq 17 (.bin .eql (.t 16) (.c (.int .i64 0))))])
 (.cond (.t 17)
 (.seq (.reg [(Iq 6 (.mv (.c (.int .i64 5))))])
 .ret)
 .skip))
 (.seq (.reg [(Iq 6 (.mv (.c (.int .i64 0))))])
 .ret))))⟩
theorem l_impl_someCode : lowF PA f_impl_someCode 3 [] = some c_impl_someCode := by kernel_rfl
abbrev f_impl_count : FuncId := 27
def c_impl_count : AF := ⟨1, 18, [.t 2],
 (.seq (.reg [(Im 1 (.box (.t 0))),
 (Iq 2 (.mv (.c (.int .i64 0))))])
 (.seq (.reg [(Iq 3 (.mv (.c (.int .i64 1))))])
 (.seq (.seq (.reg [(Iq 6 (.fad 0 (.t 1))),
 (Iq 7 (.ld false 1 (.t 6))),
 (Iq 8 (.len (.t 7))),
 (Iq 9 (.mv (.c (.int .i64 0))))])
 (.block 0 (.loop [3, 7, 8, 9] (.seq (.reg [(Iq 10 (.bin .lss (.t 9) (.t 8)))])
 (.seq (.cond (.t 10)
 .skip
 (.exit 0))
 (.seq (.block 1 (.seq (.reg [(Iq 11 (.ixs 1 (.t 7) (.t 9))),
 (Iq 12 (.ld false 1 (.t 11))),
 (Iq 5 (.mv (.t 12)))])
 (.reg [(Iq 13 (.mv (.t 3))),
 (Iq 14 (.mv (.t 5))),
 (Iq 15 (.bin .mul (.t 13) (.t 14))),
 (Iq 3 (.mv (.t 15)))])))
 (.reg [(Iq 16 (.bin .add (.t 9) (.c (.int .i64 1)))),
 (Iq 9 (.mv (.t 16)))])))))))
 (.seq (.reg [(Iq 17 (.mv (.t 3))),
 (Iq 2 (.mv (.t 17)))])
 .ret))))⟩
theorem l_impl_count : lowF PA f_impl_count 1 [.k [3, 7, 8, 9]] = some c_impl_count := by kernel_rfl
abbrev f_slices_Index___bool_bool_ : FuncId := 28
def c_slices_Index___bool_bool_ : AF := ⟨2, 19, [.t 4],
 (.seq (.reg [(Iq 4 (.mv (.c (.int .i64 0))))])
 (.seq (.seq (.reg [(Iq 6 (.mv (.t 0))),
 (Iq 7 (.len (.t 6))),
 (Iq 8 (.mv (.c (.int .i64 0))))])
 (.block 0 (.loop [0, 1, 7, 8] (.seq (.reg [(Iq 9 (.bin .lss (.t 8) (.t 7)))])
 (.seq (.cond (.t 9)
 .skip
 (.exit 0))
 (.seq (.block 1 (.seq (.reg [(Iq 10 (.mv (.t 8))),
 (Iq 5 (.mv (.t 10)))])
 (.seq (.reg [(Iq 11 (.mv (.t 1))),
 (Iq 12 (.mv (.t 0))),
 (Iq 13 (.mv (.t 5))),
 (Iq 14 (.ixs 1 (.t 12) (.t 13))),
 (Iq 15 (.ld false 1 (.t 14))),
 (Iq 16 (.eqb false (.t 11) (.t 15)))])
 (.cond (.t 16)
 (.seq (.reg [(Iq 17 (.mv (.t 5))),
 (Iq 4 (.mv (.t 17)))])
 .ret)
 .skip))))
 (.reg [(Iq 18 (.bin .add (.t 8) (.c (.int .i64 1)))),
 (Iq 8 (.mv (.t 18)))])))))))
 (.seq (.reg [(Iq 4 (.mv (.c (.int .i64 (-1)))))])
 .ret)))⟩
theorem l_slices_Index___bool_bool_ : lowF PA f_slices_Index___bool_bool_ 2 [.k [0, 1, 7, 8]] = some c_slices_Index___bool_bool_ := by kernel_rfl
abbrev f_impl_mapped : FuncId := 29
def c_impl_mapped : AF := ⟨2, 26, [.t 4],
 (.seq (.reg [(Iq 4 (.mv (.c (.slice none 0 0))))])
 (.seq (.reg [(Im 8 (.bsl 1 [])),
 (Iq 5 (.mv (.t 8)))])
 (.seq (.seq (.reg [(Iq 9 (.mv (.t 0))),
 (Iq 10 (.len (.t 9))),
 (Iq 11 (.mv (.c (.int .i64 0))))])
 (.block 0 (.loop [1, 5, 9, 10, 11, 26] (.seq (.reg [(Iq 12 (.bin .lss (.t 11) (.t 10)))])
 (.seq (.cond (.t 12)
 .skip
 (.exit 0))
 (.seq (.block 1 (.seq (.reg [(Iq 13 (.ixs 1 (.t 9) (.t 11))),
 (Iq 14 (.ld false 1 (.t 13))),
 (Iq 7 (.mv (.t 14)))])
 (.reg [(Iq 15 (.mv (.t 5))),
 (Iq 16 (.mv (.t 1))),
 (Iq 17 (.mv (.t 7))),
 (Ic 18 (.cav (.t 16) [(.t 17)])),
 (Im 19 (.bsl 1 [(.t 18)])),
 (Im 20 (.app 1 8 (.t 15) (.t 19))),
 (Iq 5 (.mv (.t 20)))])))
 (.reg [(Iq 21 (.bin .add (.t 11) (.c (.int .i64 1)))),
 (Iq 11 (.mv (.t 21)))])))))))
 (.seq (.reg [(Iq 22 (.mv (.t 5))),
 (Ic 23 (.call 73 [(.t 22)]))])
 (.seq (.reg [(Iq 24 (.mv (.t 5))),
 (Ic 25 (.call 74 [(.t 24)])),
 (Iq 4 (.mv (.t 25)))])
 .ret)))))⟩
theorem l_impl_mapped : lowF PA f_impl_mapped 2 [.k [1, 5, 9, 10, 11, 26]] = some c_impl_mapped := by kernel_rfl
abbrev f_impl_FirstShifts_1 : FuncId := 30
def c_impl_FirstShifts_1 : AF := ⟨3, 17, [.t 4],
 (.seq (.reg [(Iq 4 (.mv (.c (.int .i64 0))))])
 (.seq (.sch (.take 0 (Iq 5 (.ld true 1 (.t 1))) (.take 1 (Iq 6 (.ld true 1 (.t 1))) (.take 2 (Iq 7 (.ld true 1 (.t 1))) (.take 3 (Iq 8 (.ld false 1 (.t 2))) (.take 5 (Iq 10 (.ld true 1 (.t 1))) (.take 6 (Iq 11 (.ld true 1 (.t 1))) (.take 7 (Iq 12 (.mv (.t 0))) (.one (Ic 9 (.call 33 [(.t 7), (.t 8)])) [3, 2] (.one (Ic 13 (.call 33 [(.t 11), (.t 12)])) [6] (.one (Ic 14 (.call 34 [(.t 10), (.t 13)])) [5] (.one (Ic 15 (.call 32 [(.t 6), (.t 9), (.t 14)])) [1] (.one (Ic 16 (.call 31 [(.t 5), (.t 15)])) [0] (.take 12 (Iq 4 (.mv (.t 16))) .done))))))))))))))
 .ret))⟩
theorem l_impl_FirstShifts_1 : lowF PA f_impl_FirstShifts_1 3 [.s (.take 0 (.take 1 (.take 2 (.take 3 (.take 5 (.take 6 (.take 7 (.one 4 (.one 8 (.one 9 (.one 10 (.one 11 (.take 12 .done)))))))))))))] = some c_impl_FirstShifts_1 := by kernel_rfl
abbrev f_impl_wordOf : FuncId := 31
def c_impl_wordOf : AF := ⟨2, 26, [.t 4],
 (.seq (.reg [(Im 2 (.box (.t 0))),
 (Im 3 (.box (.t 1))),
 (Iq 4 (.mv (.c (.int .i64 0))))])
 (.seq (.reg [(Iq 5 (.mv (.c (.int .i64 0))))])
 (.seq (.seq (.reg [(Iq 8 (.fad 0 (.t 2))),
 (Iq 9 (.ld false 1 (.t 8))),
 (Iq 10 (.len (.t 9))),
 (Iq 11 (.mv (.c (.int .i64 0))))])
 (.block 0 (.loop [3, 5, 9, 10, 11] (.seq (.reg [(Iq 12 (.bin .lss (.t 11) (.t 10)))])
 (.seq (.cond (.t 12)
 .skip
 (.exit 0))
 (.seq (.block 1 (.seq (.reg [(Iq 13 (.mv (.t 11))),
 (Iq 14 (.ixs 1 (.t 9) (.t 11))),
 (Iq 15 (.ld false 1 (.t 14))),
 (Iq 6 (.mv (.t 13))),
 (Iq 7 (.mv (.t 15)))])
 (.reg [(Iq 16 (.mv (.t 5))),
 (Iq 17 (.mv (.t 7))),
 (Iq 18 (.bin .mul (.t 16) (.t 17))),
 (Iq 19 (.mv (.t 6))),
 (Iq 20 (.ixa 8 1 (.t 3) (.t 19))),
 (Iq 21 (.ld false 1 (.t 20))),
 (Iq 22 (.cvt .i64 (.t 21))),
 (Iq 23 (.bin .add (.t 18) (.t 22))),
 (Iq 5 (.mv (.t 23)))])))
 (.reg [(Iq 24 (.bin .add (.t 11) (.c (.int .i64 1)))),
 (Iq 11 (.mv (.t 24)))])))))))
 (.seq (.reg [(Iq 25 (.mv (.t 5))),
 (Iq 4 (.mv (.t 25)))])
 .ret))))⟩
theorem l_impl_wordOf : lowF PA f_impl_wordOf 2 [.k [3, 5, 9, 10, 11]] = some c_impl_wordOf := by kernel_rfl
abbrev f_impl_sumOf : FuncId := 32
def c_impl_sumOf : AF := ⟨3, 35, [.c 6 true 8],
 (.seq (.reg [(Im 3 (.box (.t 0))),
 (Im 4 (.box (.t 1))),
 (Im 5 (.box (.t 2))),
 (Im 6 (.alloc [(.v (.int .u8 0)), (.v (.int .u8 0)), (.v (.int .u8 0)), (.v (.int .u8 0)), (.v (.int .u8 0)), (.v (.int .u8 0)), (.v (.int .u8 0)), (.v (.int .u8 0))]))])
 (.seq (.reg [(Iq 10 (.bld [(.v (.int .u8 0)), (.v (.int .u8 0)), (.v (.int .u8 0)), (.v (.int .u8 0)), (.v (.int .u8 0)), (.v (.int .u8 0)), (.v (.int .u8 0)), (.v (.int .u8 0))] [])),
 (Im 7 (.alloc [(.v (.int .u8 0)), (.v (.int .u8 0)), (.v (.int .u8 0)), (.v (.int .u8 0)), (.v (.int .u8 0)), (.v (.int .u8 0)), (.v (.int .u8 0)), (.v (.int .u8 0))])),
 ⟨none, none, .m (.st true 8 (.t 7) (.t 10))⟩])
 (.seq (.seq (.reg [(Iq 11 (.fad 0 (.t 3))),
 (Iq 12 (.ld false 1 (.t 11))),
 (Iq 13 (.len (.t 12))),
 (Iq 14 (.mv (.c (.int .i64 0))))])
 (.block 0 (.loop [4, 5, 6, 7, 12, 13, 14] (.seq (.reg [(Iq 15 (.bin .lss (.t 14) (.t 13)))])
 (.seq (.cond (.t 15)
 .skip
 (.exit 0))
 (.seq (.block 1 (.seq (.reg [(Iq 16 (.mv (.t 14))),
 (Iq 17 (.ixs 1 (.t 12) (.t 14))),
 (Iq 18 (.ld false 1 (.t 17))),
 (Iq 8 (.mv (.t 16))),
 (Iq 9 (.mv (.t 18)))])
 (.sch (.take 0 (Iq 19 (.mv (.t 8))) (.take 1 (Iq 20 (.mv (.t 8))) (.take 2 (Iq 21 (.ixa 8 1 (.t 4) (.t 20))) (.take 3 (Iq 22 (.ld false 1 (.t 21))) (.take 4 (Iq 23 (.cvt .i64 (.t 22))) (.take 5 (Iq 24 (.mv (.t 8))) (.take 6 (Iq 25 (.ixa 8 1 (.t 5) (.t 24))) (.take 7 (Iq 26 (.ld false 1 (.t 25))) (.take 8 (Iq 27 (.cvt .i64 (.t 26))) (.take 9 (Iq 28 (.bin .add (.t 23) (.t 27))) (.take 10 (Iq 29 (.mv (.t 9))) (.take 11 (Iq 30 (.bin .rem (.t 28) (.t 29))) (.take 12 (Iq 31 (.cvt .u8 (.t 30))) (.take 13 (Iq 32 (.ixa 8 1 (.t 7) (.t 19))) (.one ⟨none, none, .m (.st false 1 (.t 32) (.t 31))⟩ [7, 3] .done))))))))))))))))))
 (.reg [(Iq 33 (.bin .add (.t 14) (.c (.int .i64 1)))),
 (Iq 14 (.mv (.t 33)))])))))))
 (.seq (.reg [(Iq 34 (.ld true 8 (.t 7))),
 ⟨none, none, .m (.st true 8 (.t 6) (.t 34))⟩])
 .ret))))⟩
theorem l_impl_sumOf : lowF PA f_impl_sumOf 3 [.k [4, 5, 6, 7, 12, 13, 14], .s (.take 0 (.take 1 (.take 2 (.take 3 (.take 4 (.take 5 (.take 6 (.take 7 (.take 8 (.take 9 (.take 10 (.take 11 (.take 12 (.take 13 (.one 14 .done)))))))))))))))] = some c_impl_sumOf := by kernel_rfl
abbrev f_impl_digitsOf : FuncId := 33
def c_impl_digitsOf : AF := ⟨2, 34, [.c 4 true 8],
 (.seq (.reg [(Im 2 (.box (.t 0))),
 (Im 4 (.alloc [(.v (.int .u8 0)), (.v (.int .u8 0)), (.v (.int .u8 0)), (.v (.int .u8 0)), (.v (.int .u8 0)), (.v (.int .u8 0)), (.v (.int .u8 0)), (.v (.int .u8 0))]))])
 (.seq (.reg [(Iq 7 (.bld [(.v (.int .u8 0)), (.v (.int .u8 0)), (.v (.int .u8 0)), (.v (.int .u8 0)), (.v (.int .u8 0)), (.v (.int .u8 0)), (.v (.int .u8 0)), (.v (.int .u8 0))] [])),
 (Im 5 (.alloc [(.v (.int .u8 0)), (.v (.int .u8 0)), (.v (.int .u8 0)), (.v (.int .u8 0)), (.v (.int .u8 0)), (.v (.int .u8 0)), (.v (.int .u8 0)), (.v (.int .u8 0))])),
 ⟨none, none, .m (.st true 8 (.t 5) (.t 7))⟩])
 (.seq (.seq (.reg [(Iq 8 (.fad 0 (.t 2))),
 (Iq 9 (.ld false 1 (.t 8))),
 (Iq 10 (.len (.t 9))),
 (Iq 11 (.bin .sub (.t 10) (.c (.int .i64 1)))),
 (Iq 6 (.mv (.t 11)))])
 (.block 0 (.loop [1, 2, 4, 5, 6] (.seq (.seq (.reg [(Iq 12 (.mv (.t 6))),
 (Iq 13 (.bin .geq (.t 12) (.c (.int .i64 0))))])
 (.cond (.t 13)
 .skip
 (.exit 0)))
 (.seq (.block 1 (.seq (.reg [(Iq 16 (.mv (.t 6))),
 (Iq 17 (.mv (.t 1))),
 (Iq 18 (.fad 0 (.t 2))),
 (Iq 19 (.ld false 1 (.t 18))),
 (Iq 20 (.mv (.t 6))),
 (Iq 21 (.ixs 1 (.t 19) (.t 20))),
 (Iq 22 (.ld false 1 (.t 21))),
 (Iq 23 (.bin .rem (.t 17) (.t 22))),
 (Iq 24 (.cvt .u8 (.t 23))),
 (Iq 25 (.ixa 8 1 (.t 5) (.t 16))),
 ⟨none, none, .m (.st false 1 (.t 25) (.t 24))⟩])
 (.reg [(Iq 26 (.mv (.t 1))),
 (Iq 27 (.fad 0 (.t 2))),
 (Iq 28 (.ld false 1 (.t 27))),
 (Iq 29 (.mv (.t 6))),
 (Iq 30 (.ixs 1 (.t 28) (.t 29))),
 (Iq 31 (.ld false 1 (.t 30))),
 (Iq 32 (.bin .quo (.t 26) (.t 31))),
 (Iq 1 (.mv (.t 32)))])))
 (.reg [(Iq 14 (.mv (.t 6))),
 (Iq 15 (.bin .sub (.t 14) (.c (.int .i64 1)))),
 (Iq 6 (.mv (.t 15)))]))))))
 (.seq (.reg [(Iq 33 (.ld true 8 (.t 5))),
 ⟨none, none, .m (.st true 8 (.t 4) (.t 33))⟩])
 .ret))))⟩
theorem l_impl_digitsOf : lowF PA f_impl_digitsOf 2 [.k [1, 2, 4, 5, 6]] = some c_impl_digitsOf := by kernel_rfl
abbrev f_impl_oppositeOf : FuncId := 34
def c_impl_oppositeOf : AF := ⟨2, 30, [.c 4 true 8],
 (.seq (.reg [(Im 2 (.box (.t 0))),
 (Im 3 (.box (.t 1))),
 (Im 4 (.alloc [(.v (.int .u8 0)), (.v (.int .u8 0)), (.v (.int .u8 0)), (.v (.int .u8 0)), (.v (.int .u8 0)), (.v (.int .u8 0)), (.v (.int .u8 0)), (.v (.int .u8 0))]))])
 (.seq (.reg [(Iq 8 (.bld [(.v (.int .u8 0)), (.v (.int .u8 0)), (.v (.int .u8 0)), (.v (.int .u8 0)), (.v (.int .u8 0)), (.v (.int .u8 0)), (.v (.int .u8 0)), (.v (.int .u8 0))] [])),
 (Im 5 (.alloc [(.v (.int .u8 0)), (.v (.int .u8 0)), (.v (.int .u8 0)), (.v (.int .u8 0)), (.v (.int .u8 0)), (.v (.int .u8 0)), (.v (.int .u8 0)), (.v (.int .u8 0))])),
 ⟨none, none, .m (.st true 8 (.t 5) (.t 8))⟩])
 (.seq (.seq (.reg [(Iq 9 (.fad 0 (.t 2))),
 (Iq 10 (.ld false 1 (.t 9))),
 (Iq 11 (.len (.t 10))),
 (Iq 12 (.mv (.c (.int .i64 0))))])
 (.block 0 (.loop [3, 4, 5, 10, 11, 12] (.seq (.reg [(Iq 13 (.bin .lss (.t 12) (.t 11)))])
 (.seq (.cond (.t 13)
 .skip
 (.exit 0))
 (.seq (.block 1 (.seq (.reg [(Iq 14 (.mv (.t 12))),
 (Iq 15 (.ixs 1 (.t 10) (.t 12))),
 (Iq 16 (.ld false 1 (.t 15))),
 (Iq 6 (.mv (.t 14))),
 (Iq 7 (.mv (.t 16)))])
 (.reg [(Iq 17 (.mv (.t 6))),
 (Iq 18 (.mv (.t 7))),
 (Iq 19 (.mv (.t 6))),
 (Iq 20 (.ixa 8 1 (.t 3) (.t 19))),
 (Iq 21 (.ld false 1 (.t 20))),
 (Iq 22 (.cvt .i64 (.t 21))),
 (Iq 23 (.bin .sub (.t 18) (.t 22))),
 (Iq 24 (.mv (.t 7))),
 (Iq 25 (.bin .rem (.t 23) (.t 24))),
 (Iq 26 (.cvt .u8 (.t 25))),
 (Iq 27 (.ixa 8 1 (.t 5) (.t 17))),
 ⟨none, none, .m (.st false 1 (.t 27) (.t 26))⟩])))
 (.reg [(Iq 28 (.bin .add (.t 12) (.c (.int .i64 1)))),
 (Iq 12 (.mv (.t 28)))])))))))
 (.seq (.reg [(Iq 29 (.ld true 8 (.t 5))),
 ⟨none, none, .m (.st true 8 (.t 4) (.t 29))⟩])
 .ret))))⟩
theorem l_impl_oppositeOf : lowF PA f_impl_oppositeOf 2 [.k [3, 4, 5, 10, 11, 12]] = some c_impl_oppositeOf := by kernel_rfl
abbrev f_slices_IndexFunc___int64_int64_ : FuncId := 35
def c_slices_IndexFunc___int64_int64_ : AF := ⟨2, 19, [.t 4],
 (.seq (.reg [(Iq 4 (.mv (.c (.int .i64 0))))])
 (.seq (.seq (.reg [(Iq 6 (.mv (.t 0))),
 (Iq 7 (.len (.t 6))),
 (Iq 8 (.mv (.c (.int .i64 0))))])
 (.block 0 (.loop [0, 1, 7, 8] (.seq (.reg [(Iq 9 (.bin .lss (.t 8) (.t 7)))])
 (.seq (.cond (.t 9)
 .skip
 (.exit 0))
 (.seq (.block 1 (.seq (.reg [(Iq 10 (.mv (.t 8))),
 (Iq 5 (.mv (.t 10)))])
 (.seq (.reg [(Iq 11 (.mv (.t 1))),
 (Iq 12 (.mv (.t 0))),
 (Iq 13 (.mv (.t 5))),
 (Iq 14 (.ixs 1 (.t 12) (.t 13))),
 (Iq 15 (.ld false 1 (.t 14))),
 (Ic 16 (.cav (.t 11) [(.t 15)]))])
 (.cond (.t 16)
 (.seq (.reg [(Iq 17 (.mv (.t 5))),
 (Iq 4 (.mv (.t 17)))])
 .ret)
 .skip))))
 (.reg [(Iq 18 (.bin .add (.t 8) (.c (.int .i64 1)))),
 (Iq 8 (.mv (.t 18)))])))))))
 (.seq (.reg [(Iq 4 (.mv (.c (.int .i64 (-1)))))])
 .ret)))⟩
theorem l_slices_IndexFunc___int64_int64_ : lowF PA f_slices_IndexFunc___int64_int64_ 2 [.k [0, 1, 7, 8]] = some c_slices_IndexFunc___int64_int64_ := by kernel_rfl
abbrev f_impl_FirstShifts_2 : FuncId := 36
def c_impl_FirstShifts_2 : AF := ⟨4, 13, [.t 5],
 (.seq (.reg [(Iq 5 (.mv (.c (.bool false))))])
 (.seq (.reg [(Iq 6 (.ld true 1 (.t 1))),
 (Iq 7 (.ld false 1 (.t 2))),
 (Iq 8 (.mv (.t 0))),
 (Ic 9 (.call 38 [(.t 6), (.t 7), (.t 8)])),
 (Iq 10 (.mkf 39 [(.t 3)])),
 (Ic 11 (.call 37 [(.t 9), (.t 10)])),
 (Iq 12 (.un .not (.t 11))),
 (Iq 5 (.mv (.t 12)))])
 .ret))⟩
theorem l_impl_FirstShifts_2 : lowF PA f_impl_FirstShifts_2 4 [] = some c_impl_FirstShifts_2 := by kernel_rfl
abbrev f_slices_ContainsFunc___int64_int64_ : FuncId := 37
def c_slices_ContainsFunc___int64_int64_ : AF := ⟨2, 9, [.t 4],
 (.seq (.reg [(Iq 4 (.mv (.c (.bool false))))])
 (.seq (.reg [(Iq 5 (.mv (.t 0))),
 (Iq 6 (.mv (.t 1))),
 (Ic 7 (.call 35 [(.t 5), (.t 6)])),
 (Iq 8 (.bin .geq (.t 7) (.c (.int .i64 0)))),
 (Iq 4 (.mv (.t 8)))])
 .ret))⟩
theorem l_slices_ContainsFunc___int64_int64_ : lowF PA f_slices_ContainsFunc___int64_int64_ 2 [] = some c_slices_ContainsFunc___int64_int64_ := by kernel_rfl
abbrev f_impl_shifted : FuncId := 38
def c_impl_shifted : AF := ⟨3, 14, [.t 6],
 (.seq (.reg [(Im 3 (.box (.t 0))),
 (Iq 6 (.mv (.c (.slice none 0 0))))])
 (.seq (.reg [(Iq 8 (.ld true 1 (.t 3))),
 (Iq 9 (.mv (.t 2))),
 (Ic 10 (.call 33 [(.t 8), (.t 9)])),
 (Im 7 (.alloc [(.v (.int .u8 0)), (.v (.int .u8 0)), (.v (.int .u8 0)), (.v (.int .u8 0)), (.v (.int .u8 0)), (.v (.int .u8 0)), (.v (.int .u8 0)), (.v (.int .u8 0))])),
 ⟨none, none, .m (.st true 8 (.t 7) (.t 10))⟩])
 (.seq (.reg [(Iq 11 (.mv (.t 1))),
 (Iq 12 (.mkf 75 [(.t 3), (.t 7)])),
 (Ic 13 (.call 29 [(.t 11), (.t 12)])),
 (Iq 6 (.mv (.t 13)))])
 .ret)))⟩
theorem l_impl_shifted : lowF PA f_impl_shifted 3 [] = some c_impl_shifted := by kernel_rfl
abbrev f_impl_FirstShifts_2_1 : FuncId := 39
def c_impl_FirstShifts_2_1 : AF := ⟨2, 8, [.t 3],
 (.seq (.reg [(Iq 3 (.mv (.c (.bool false))))])
 (.seq (.reg [(Iq 4 (.ld false 1 (.t 1))),
 (Iq 5 (.mv (.t 0))),
 (Iq 6 (.ixs 1 (.t 4) (.t 5))),
 (Iq 7 (.ld false 1 (.t 6))),
 (Iq 3 (.mv (.t 7)))])
 .ret))⟩
theorem l_impl_FirstShifts_2_1 : lowF PA f_impl_FirstShifts_2_1 2 [] = some c_impl_FirstShifts_2_1 := by kernel_rfl
abbrev f_spec_l02Full : FuncId := 40
def c_spec_l02Full : AF := ⟨2, 17, [.t 4],
 (.seq (.reg [(Im 2 (.box (.t 0))),
 (Iq 4 (.mv (.c (.int .i64 0))))])
 (.seq (.reg [(Iq 6 (.ld true 1 (.t 2))),
 (Iq 7 (.mv (.t 1))),
 (Ic 8 (.call 76 [(.t 6), (.t 7)])),
 (Iq 5 (.mv (.t 8)))])
 (.seq (.seq (.reg [(Iq 9 (.mv (.t 5))),
 (Iq 10 (.bin .eql (.t 9) (.c (.int .i64 0)))),
 (Iq 11 (.mv (.t 10))),
 ⟨(some 12), (some (11, true)), .q (.mv (.t 1))⟩,
 ⟨(some 13), (some (11, true)), .q (.len (.t 12))⟩,
 ⟨(some 14), (some (11, true)), .q (.bin .eql (.t 13) (.c (.int .i64 0)))⟩,
 (Iq 15 (.pick (.t 11) (.t 14) (.c (.bool false))))])
 (.cond (.t 15)
 (.reg [(Iq 5 (.mv (.c (.int .i64 5))))])
 .skip))
 (.seq (.reg [(Iq 16 (.mv (.t 5))),
 (Iq 4 (.mv (.t 16)))])
 .ret))))⟩
theorem l_spec_l02Full : lowF PA f_spec_l02Full 2 [] = some c_spec_l02Full := by kernel_rfl
abbrev f_spec_l01N : FuncId := 41
def c_spec_l01N : AF := ⟨1, 20, [.t 2],
 (.seq (.reg [(Im 1 (.box (.t 0))),
 (Iq 2 (.mv (.c (.int .i64 0))))])
 (.seq (.reg [(Iq 3 (.mv (.c (.int .i64 1))))])
 (.seq (.seq (.reg [(Iq 4 (.mv (.c (.int .i64 0))))])
 (.block 0 (.loop [1, 3, 4] (.seq (.seq (.reg [(Iq 5 (.mv (.t 4))),
 (Iq 6 (.fad 0 (.t 1))),
 (Iq 7 (.ld false 1 (.t 6))),
 (Iq 8 (.len (.t 7))),
 (Iq 9 (.bin .lss (.t 5) (.t 8)))])
 (.cond (.t 9)
 .skip
 (.exit 0)))
 (.seq (.block 1 (.reg [(Iq 12 (.mv (.t 3))),
 (Iq 13 (.fad 0 (.t 1))),
 (Iq 14 (.ld false 1 (.t 13))),
 (Iq 15 (.mv (.t 4))),
 (Iq 16 (.ixs 1 (.t 14) (.t 15))),
 (Iq 17 (.ld false 1 (.t 16))),
 (Iq 18 (.bin .mul (.t 12) (.t 17))),
 (Iq 3 (.mv (.t 18)))]))
 (.reg [(Iq 10 (.mv (.t 4))),
 (Iq 11 (.bin .add (.t 10) (.c (.int .i64 1)))),
 (Iq 4 (.mv (.t 11)))]))))))
 (.seq (.reg [(Iq 19 (.mv (.t 3))),
 (Iq 2 (.mv (.t 19)))])
 .ret))))⟩
theorem l_spec_l01N : lowF PA f_spec_l01N 1 [.k [1, 3, 4]] = some c_spec_l01N := by kernel_rfl
abbrev f_spec_l01Has : FuncId := 42
def c_spec_l01Has : AF := ⟨2, 18, [.t 4],
 (.seq (.reg [(Iq 4 (.mv (.c (.bool false))))])
 (.seq (.seq (.reg [(Iq 5 (.mv (.c (.int .i64 0))))])
 (.block 0 (.loop [0, 1, 5] (.seq (.seq (.reg [(Iq 6 (.mv (.t 5))),
 (Iq 7 (.mv (.t 0))),
 (Iq 8 (.len (.t 7))),
 (Iq 9 (.bin .lss (.t 6) (.t 8)))])
 (.cond (.t 9)
 .skip
 (.exit 0)))
 (.seq (.block 1 (.seq (.reg [(Iq 12 (.mv (.t 0))),
 (Iq 13 (.mv (.t 5))),
 (Iq 14 (.ixs 1 (.t 12) (.t 13))),
 (Iq 15 (.ld false 1 (.t 14))),
 (Iq 16 (.mv (.t 1))),
 (Iq 17 (.bin .eql (.t 15) (.t 16)))])
 (.cond (.t 17)
 (.seq (.reg [(Iq 4 (.mv (.c (.bool true))))])
 .ret)
 .skip)))
 (.reg [(Iq 10 (.mv (.t 5))),
 (Iq 11 (.bin .add (.t 10) (.c (.int .i64 1)))),
 (Iq 5 (.mv (.t 11)))]))))))
 (.seq (.reg [(Iq 4 (.mv (.c (.bool false))))])
 .ret)))⟩
theorem l_spec_l01Has : lowF PA f_spec_l01Has 2 [.k [0, 1, 5]] = some c_spec_l01Has := by kernel_rfl
abbrev f_spec_l01Shifted : FuncId := 43
def c_spec_l01Shifted : AF := ⟨3, 26, [.t 6],
 (.seq (.reg [(Im 3 (.box (.t 0))),
 (Iq 6 (.mv (.c (.slice none 0 0))))])
 (.seq (.reg [(Im 9 (.bsl 1 [])),
 (Iq 7 (.mv (.t 9)))])
 (.seq (.seq (.reg [(Iq 10 (.mv (.t 1))),
 (Iq 11 (.len (.t 10))),
 (Iq 12 (.mv (.c (.int .i64 0))))])
 (.block 0 (.loop [1, 2, 3, 7, 11, 12] (.seq (.reg [(Iq 13 (.bin .lss (.t 12) (.t 11)))])
 (.seq (.cond (.t 13)
 .skip
 (.exit 0))
 (.seq (.block 1 (.seq (.reg [(Iq 14 (.mv (.t 12))),
 (Iq 8 (.mv (.t 14)))])
 (.sch (.take 0 (Iq 15 (.mv (.t 7))) (.take 1 (Iq 16 (.ld true 1 (.t 3))) (.take 2 (Iq 17 (.mv (.t 1))) (.take 3 (Iq 18 (.mv (.t 8))) (.take 4 (Iq 19 (.ixs 1 (.t 17) (.t 18))) (.take 5 (Iq 20 (.ld false 1 (.t 19))) (.take 6 (Iq 21 (.mv (.t 2))) (.one (Ic 22 (.call 77 [(.t 16), (.t 20), (.t 21)])) [5, 1] (.one (Ic 23 (.call 67 [(.t 15), (.t 22)])) [] (.take 9 (Iq 7 (.mv (.t 23))) .done)))))))))))))
 (.reg [(Iq 24 (.bin .add (.t 12) (.c (.int .i64 1)))),
 (Iq 12 (.mv (.t 24)))])))))))
 (.seq (.reg [(Iq 25 (.mv (.t 7))),
 (Iq 6 (.mv (.t 25)))])
 .ret))))⟩
theorem l_spec_l01Shifted : lowF PA f_spec_l01Shifted 3 [.k [1, 2, 3, 7, 11, 12], .s (.take 0 (.take 1 (.take 2 (.take 3 (.take 4 (.take 5 (.take 6 (.one 7 (.one 8 (.take 9 .done))))))))))] = some c_spec_l01Shifted := by kernel_rfl
abbrev f_spec_l06Mark : FuncId := 44
def c_spec_l06Mark : AF := ⟨4, 41, [.t 8],
 (.seq (.reg [(Im 4 (.box (.t 0))),
 (Iq 8 (.mv (.c (.bool false))))])
 (.seq (.reg [(Iq 12 (.ld true 1 (.t 4))),
 (Iq 13 (.mv (.t 1))),
 (Iq 14 (.mv (.t 2))),
 (Ic 15 (.call 43 [(.t 12), (.t 13), (.t 14)])),
 (Iq 9 (.mv (.t 15)))])
 (.seq (.seq (.reg [(Iq 10 (.mv (.c (.int .i64 0))))])
 (.block 0 (.loop [3, 9, 10, 44] (.seq (.seq (.reg [(Iq 16 (.mv (.t 10))),
 (Iq 17 (.mv (.t 9))),
 (Iq 18 (.len (.t 17))),
 (Iq 19 (.bin .lss (.t 16) (.t 18)))])
 (.cond (.t 19)
 .skip
 (.exit 0)))
 (.seq (.block 1 (.seq (.reg [(Iq 22 (.mv (.t 3))),
 (Iq 23 (.mv (.t 9))),
 (Iq 24 (.mv (.t 10))),
 (Iq 25 (.ixs 1 (.t 23) (.t 24))),
 (Iq 26 (.ld false 1 (.t 25))),
 (Iq 27 (.ixs 1 (.t 22) (.t 26))),
 (Iq 28 (.ld false 1 (.t 27)))])
 (.cond (.t 28)
 (.seq (.reg [(Iq 8 (.mv (.c (.bool false))))])
 .ret)
 .skip)))
 (.reg [(Iq 20 (.mv (.t 10))),
 (Iq 21 (.bin .add (.t 20) (.c (.int .i64 1)))),
 (Iq 10 (.mv (.t 21)))]))))))
 (.seq (.seq (.reg [(Iq 11 (.mv (.c (.int .i64 0))))])
 (.block 2 (.loop [3, 9, 11, 44] (.seq (.seq (.reg [(Iq 29 (.mv (.t 11))),
 (Iq 30 (.mv (.t 9))),
 (Iq 31 (.len (.t 30))),
 (Iq 32 (.bin .lss (.t 29) (.t 31)))])
 (.cond (.t 32)
 .skip
 (.exit 2)))
 (.seq (.block 3 (.reg [(Iq 35 (.mv (.t 3))),
 (Iq 36 (.mv (.t 9))),
 (Iq 37 (.mv (.t 11))),
 (Iq 38 (.ixs 1 (.t 36) (.t 37))),
 (Iq 39 (.ld false 1 (.t 38))),
 (Iq 40 (.ixs 1 (.t 35) (.t 39))),
 ⟨none, none, .m (.st false 1 (.t 40) (.c (.bool true)))⟩]))
 (.reg [(Iq 33 (.mv (.t 11))),
 (Iq 34 (.bin .add (.t 33) (.c (.int .i64 1)))),
 (Iq 11 (.mv (.t 34)))]))))))
 (.seq (.reg [(Iq 8 (.mv (.c (.bool true))))])
 .ret)))))⟩
theorem l_spec_l06Mark : lowF PA f_spec_l06Mark 4 [.k [3, 9, 10, 44], .k [3, 9, 11, 44]] = some c_spec_l06Mark := by kernel_rfl
abbrev f_spec_l01From : FuncId := 45
def c_spec_l01From : AF := ⟨1, 38, [.t 2],
 (.seq (.reg [(Iq 2 (.mv (.c (.pointer none))))])
 (.seq (.reg [(Iq 5 (.mv (.t 0))),
 (Iq 6 (.mv (.t 0))),
 (Iq 7 (.len (.t 6))),
 (Iq 8 (.cvt .u64 (.t 7))),
 (Iq 9 (.bin .add (.c (.int .u64 14111)) (.t 8))),
 (Iq 10 (.bld [(.v (.slice none 0 0)), (.v (.int .i64 0)), (.v (.int .u64 0))] [(0, (.t 5)), (2, (.t 9))])),
 (Im 11 (.box (.t 10))),
 (Iq 3 (.mv (.t 11)))])
 (.seq (.seq (.reg [(Iq 4 (.mv (.c (.int .i64 0))))])
 (.block 0 (.loop [0, 3, 4] (.seq (.seq (.reg [(Iq 12 (.mv (.t 4))),
 (Iq 13 (.mv (.t 0))),
 (Iq 14 (.len (.t 13))),
 (Iq 15 (.bin .lss (.t 12) (.t 14))),
 (Iq 16 (.mv (.t 15))),
 ⟨(some 17), (some (16, true)), .q (.mv (.t 4))⟩,
 ⟨(some 18), (some (16, true)), .q (.bin .lss (.t 17) (.c (.int .i64 4096)))⟩,
 (Iq 19 (.pick (.t 16) (.t 18) (.c (.bool false))))])
 (.cond (.t 19)
 .skip
 (.exit 0)))
 (.seq (.block 1 (.sch (.take 0 (Iq 22 (.mv (.t 3))) (.take 1 (Iq 23 (.mv (.t 3))) (.take 2 (Iq 24 (.nlc (.t 23))) (.take 3 (Iq 25 (.fad 2 (.t 24))) (.take 4 (Iq 26 (.ld false 1 (.t 25))) (.take 5 (Iq 27 (.bin .mul (.t 26) (.c (.int .u64 1099511628211)))) (.take 6 (Iq 28 (.mv (.t 0))) (.take 7 (Iq 29 (.mv (.t 4))) (.take 8 (Iq 30 (.ixs 1 (.t 28) (.t 29))) (.take 9 (Iq 31 (.ld false 1 (.t 30))) (.take 10 (Iq 32 (.cvt .u64 (.t 31))) (.take 11 (Iq 33 (.bin .add (.t 27) (.t 32))) (.take 12 (Iq 34 (.bin .add (.t 33) (.c (.int .u64 251)))) (.take 13 (Iq 35 (.nlc (.t 22))) (.take 14 (Iq 36 (.fad 2 (.t 35))) (.one ⟨none, none, .m (.st false 1 (.t 36) (.t 34))⟩ [9, 4] .done))))))))))))))))))
 (.reg [(Iq 20 (.mv (.t 4))),
 (Iq 21 (.bin .add (.t 20) (.c (.int .i64 1)))),
 (Iq 4 (.mv (.t 21)))]))))))
 (.seq (.reg [(Iq 37 (.mv (.t 3))),
 (Iq 2 (.mv (.t 37)))])
 .ret))))⟩
theorem l_spec_l01From : lowF PA f_spec_l01From 1 [.k [0, 3, 4], .s (.take 0 (.take 1 (.take 2 (.take 3 (.take 4 (.take 5 (.take 6 (.take 7 (.take 8 (.take 9 (.take 10 (.take 11 (.take 12 (.take 13 (.take 14 (.one 15 .done))))))))))))))))] = some c_spec_l01From := by kernel_rfl
abbrev f_spec_l01Next : FuncId := 46
def c_spec_l01Next : AF := ⟨2, 58, [.t 4],
 (.seq (.reg [(Iq 4 (.mv (.c (.int .i64 0))))])
 (.seq (.seq (.reg [(Iq 6 (.mv (.t 1))),
 (Iq 7 (.bin .lss (.t 6) (.c (.int .i64 1))))])
 (.cond (.t 7)
 (.seq (.reg [(Iq 4 (.mv (.c (.int .i64 0))))])
 .ret)
 .skip))
 (.seq (.reg [(Iq 8 (.mv (.t 0))),
 (Iq 9 (.mv (.t 0))),
 (Iq 10 (.nlc (.t 9))),
 (Iq 11 (.fad 2 (.t 10))),
 (Iq 12 (.ld false 1 (.t 11))),
 (Iq 13 (.bin .mul (.t 12) (.c (.int .u64 6364136223846793005)))),
 (Iq 14 (.bin .add (.t 13) (.c (.int .u64 1442695040888963407)))),
 (Iq 15 (.nlc (.t 8))),
 (Iq 16 (.fad 2 (.t 15))),
 ⟨none, none, .m (.st false 1 (.t 16) (.t 14))⟩])
 (.seq (.reg [(Iq 17 (.mv (.t 0))),
 (Iq 18 (.nlc (.t 17))),
 (Iq 19 (.fad 2 (.t 18))),
 (Iq 20 (.ld false 1 (.t 19))),
 (Iq 21 (.bin .shr (.t 20) (.c (.int .u64 33)))),
 (Iq 22 (.bin .and (.t 21) (.c (.int .u64 16777215)))),
 (Iq 23 (.cvt .i64 (.t 22))),
 (Iq 5 (.mv (.t 23)))])
 (.seq (.seq (.sch (.take 0 (Iq 24 (.mv (.t 0))) (.take 1 (Iq 25 (.nlc (.t 24))) (.take 2 (Iq 26 (.fad 1 (.t 25))) (.take 3 (Iq 27 (.ld false 1 (.t 26))) (.take 4 (Iq 28 (.mv (.t 0))) (.take 5 (Iq 29 (.nlc (.t 28))) (.take 6 (Iq 30 (.fad 0 (.t 29))) (.take 7 (Iq 31 (.ld false 1 (.t 30))) (.take 8 (Iq 32 (.len (.t 31))) (.take 9 (Iq 33 (.bin .lss (.t 27) (.t 32))) .done)))))))))))
 (.cond (.t 33)
 (.seq (.sch (.take 0 (Iq 34 (.mv (.t 5))) (.take 1 (Iq 35 (.mv (.t 0))) (.take 2 (Iq 36 (.nlc (.t 35))) (.take 3 (Iq 37 (.fad 0 (.t 36))) (.take 4 (Iq 38 (.ld false 1 (.t 37))) (.take 5 (Iq 39 (.mv (.t 0))) (.take 6 (Iq 40 (.nlc (.t 39))) (.take 7 (Iq 41 (.fad 1 (.t 40))) (.take 8 (Iq 42 (.ld false 1 (.t 41))) (.take 9 (Iq 43 (.ixs 1 (.t 38) (.t 42))) (.take 10 (Iq 44 (.ld false 1 (.t 43))) (.take 11 (Iq 45 (.cvt .i64 (.t 44))) (.take 12 (Iq 46 (.bin .add (.t 34) (.t 45))) (.take 13 (Iq 5 (.mv (.t 46))) .done)))))))))))))))
 (.reg [(Iq 47 (.mv (.t 0))),
 (Iq 48 (.mv (.t 0))),
 (Iq 49 (.nlc (.t 48))),
 (Iq 50 (.fad 1 (.t 49))),
 (Iq 51 (.ld false 1 (.t 50))),
 (Iq 52 (.bin .add (.t 51) (.c (.int .i64 1)))),
 (Iq 53 (.nlc (.t 47))),
 (Iq 54 (.fad 1 (.t 53))),
 ⟨none, none, .m (.st false 1 (.t 54) (.t 52))⟩]))
 .skip))
 (.seq (.reg [(Iq 55 (.mv (.t 5))),
 (Iq 56 (.mv (.t 1))),
 (Iq 57 (.bin .rem (.t 55) (.t 56))),
 (Iq 4 (.mv (.t 57)))])
 .ret))))))⟩
theorem l_spec_l01Next : lowF PA f_spec_l01Next 2 [.s (.take 0 (.take 1 (.take 2 (.take 3 (.take 4 (.take 5 (.take 6 (.take 7 (.take 8 (.take 9 .done)))))))))), .s (.take 0 (.take 1 (.take 2 (.take 3 (.take 4 (.take 5 (.take 6 (.take 7 (.take 8 (.take 9 (.take 10 (.take 11 (.take 12 (.take 13 .done))))))))))))))] = some c_spec_l01Next := by kernel_rfl
abbrev f_spec_l01Pick : FuncId := 47
def c_spec_l01Pick : AF := ⟨2, 12, [.t 4],
 (.seq (.reg [(Iq 4 (.mv (.c (.int .i64 0))))])
 (.seq (.reg [(Iq 5 (.mv (.t 1))),
 (Iq 6 (.mv (.t 0))),
 (Iq 7 (.mv (.t 1))),
 (Iq 8 (.len (.t 7))),
 (Ic 9 (.call 46 [(.t 6), (.t 8)])),
 (Iq 10 (.ixs 1 (.t 5) (.t 9))),
 (Iq 11 (.ld false 1 (.t 10))),
 (Iq 4 (.mv (.t 11)))])
 .ret))⟩
theorem l_spec_l01Pick : lowF PA f_spec_l01Pick 2 [] = some c_spec_l01Pick := by kernel_rfl
abbrev f_slices_Contains___bool_bool_ : FuncId := 48
def c_slices_Contains___bool_bool_ : AF := ⟨2, 9, [.t 4],
 (.seq (.reg [(Iq 4 (.mv (.c (.bool false))))])
 (.seq (.reg [(Iq 5 (.mv (.t 0))),
 (Iq 6 (.mv (.t 1))),
 (Ic 7 (.call 28 [(.t 5), (.t 6)])),
 (Iq 8 (.bin .geq (.t 7) (.c (.int .i64 0)))),
 (Iq 4 (.mv (.t 8)))])
 .ret))⟩
theorem l_slices_Contains___bool_bool_ : lowF PA f_slices_Contains___bool_bool_ 2 [] = some c_slices_Contains___bool_bool_ := by kernel_rfl
abbrev f_spec_l01In : FuncId := 49
def c_spec_l01In : AF := ⟨3, 15, [.t 6],
 (.seq (.reg [(Iq 6 (.mv (.c (.bool false))))])
 (.seq (.reg [(Iq 7 (.mv (.t 0))),
 (Iq 8 (.mv (.t 1))),
 (Iq 9 (.bin .geq (.t 7) (.t 8))),
 (Iq 10 (.mv (.t 9))),
 ⟨(some 11), (some (10, true)), .q (.mv (.t 0))⟩,
 ⟨(some 12), (some (10, true)), .q (.mv (.t 2))⟩,
 ⟨(some 13), (some (10, true)), .q (.bin .leq (.t 11) (.t 12))⟩,
 (Iq 14 (.pick (.t 10) (.t 13) (.c (.bool false)))),
 (Iq 6 (.mv (.t 14)))])
 .ret))⟩
theorem l_spec_l01In : lowF PA f_spec_l01In 3 [] = some c_spec_l01In := by kernel_rfl
abbrev f_spec_l06DrawFew : FuncId := 50
def c_spec_l06DrawFew : AF := ⟨1, 44, [.c 2 true 1, .t 3],
 (.seq (.reg [(Im 2 (.alloc [(.v (.slice none 0 0))])),
 (Iq 3 (.mv (.c (.int .i64 0))))])
 (.seq (.reg [(Iq 8 (.mv (.t 0))),
 (Ic 9 (.call 45 [(.t 8)])),
 (Iq 4 (.mv (.t 9)))])
 (.seq (.reg [(Im 10 (.bsl 1 [(.c (.int .i64 2)), (.c (.int .i64 2)), (.c (.int .i64 2))])),
 (Im 11 (.bsl 1 [(.c (.int .i64 3)), (.c (.int .i64 3))])),
 (Im 12 (.bsl 1 [(.c (.int .i64 2)), (.c (.int .i64 2))])),
 (Im 13 (.bsl 1 [(.c (.int .i64 2))])),
 (Im 14 (.bsl 1 [(.c (.int .i64 4))])),
 (Im 15 (.bsl 1 [(.c (.int .i64 2)), (.c (.int .i64 2)), (.c (.int .i64 2)), (.c (.int .i64 2))])),
 (Im 16 (.bsl 1 [(.c (.int .i64 2)), (.c (.int .i64 2)), (.c (.int .i64 2)), (.c (.int .i64 2)), (.c (.int .i64 2))])),
 (Im 17 (.bsl 1 [(.c (.int .i64 3)), (.c (.int .i64 3)), (.c (.int .i64 3))])),
 (Im 18 (.bsl 1 [(.c (.int .i64 4)), (.c (.int .i64 2)), (.c (.int .i64 2))])),
 (Im 19 (.bsl 1 [(.c (.int .i64 4)), (.c (.int .i64 2)), (.c (.int .i64 2)), (.c (.int .i64 2)), (.c (.int .i64 2))])),
 (Im 20 (.bsl 1 [(.c (.int .i64 2)), (.c (.int .i64 3))])),
 (Im 21 (.bsl 1 [(.c (.int .i64 2)), (.c (.int .i64 2)), (.c (.int .i64 2)), (.c (.int .i64 2)), (.c (.int .i64 2)), (.c (.int .i64 2))])),
 (Im 22 (.bsl 1 [(.t 10), (.t 11), (.t 12), (.t 13), (.t 14), (.t 15), (.t 16), (.t 17), (.t 18), (.t 19), (.t 20), (.t 21)])),
 (Iq 5 (.mv (.t 22)))])
 (.seq (.reg [(Iq 23 (.mv (.t 5))),
 (Iq 24 (.mv (.t 4))),
 (Ic 25 (.call 46 [(.t 24), (.c (.int .i64 12))])),
 (Iq 26 (.ixs 1 (.t 23) (.t 25))),
 (Iq 27 (.ld false 1 (.t 26))),
 (Ic 28 (.call 78 [(.t 27)])),
 (Iq 29 (.bld [(.v (.slice none 0 0))] [(0, (.t 28))])),
 (Im 6 (.alloc [(.v (.slice none 0 0))])),
 ⟨none, none, .m (.st true 1 (.t 6) (.t 29))⟩])
 (.seq (.reg [(Iq 30 (.mv (.t 4))),
 (Iq 31 (.mv (.t 4))),
 (Ic 32 (.call 79 [(.t 31), (.c (.int .i64 8))])),
 (Im 33 (.bsl 1 [(.c (.int .i64 1)), (.c (.int .i64 1)), (.c (.int .i64 1)), (.c (.int .i64 2)), (.t 32)])),
 (Ic 34 (.call 47 [(.t 30), (.t 33)])),
 (Iq 7 (.mv (.t 34)))])
 (.seq (.seq (.reg [(Iq 35 (.mv (.t 4))),
 (Ic 36 (.call 46 [(.t 35), (.c (.int .i64 16))])),
 (Iq 37 (.bin .eql (.t 36) (.c (.int .i64 0))))])
 (.cond (.t 37)
 (.reg [(Iq 38 (.mv (.t 4))),
 (Ic 39 (.call 80 [(.t 38)])),
 ⟨none, none, .m (.st true 1 (.t 6) (.t 39))⟩])
 .skip))
 (.seq (.reg [(Iq 40 (.mv (.t 4))),
 (Iq 41 (.ld true 1 (.t 6))),
 (Ic 42 (.call 81 [(.t 40), (.t 41)])),
 (Iq 43 (.mv (.t 7))),
 ⟨none, none, .m (.st true 1 (.t 2) (.t 42))⟩,
 (Iq 3 (.mv (.t 43)))])
 .ret)))))))⟩
theorem l_spec_l06DrawFew : lowF PA f_spec_l06DrawFew 1 [] = some c_spec_l06DrawFew := by kernel_rfl
abbrev f_impl_perfectCode : FuncId := 51
def c_impl_perfectCode : AF := ⟨2, 20, [.t 4],
 (.seq (.reg [(Im 2 (.box (.t 0))),
 (Iq 4 (.mv (.c (.int .i64 0))))])
 (.seq (.block 0 (.seq (.reg [(Iq 6 (.ld true 1 (.t 2))),
 (Ic 7 (.call 70 [(.t 6)])),
 (Iq 8 (.un .not (.t 7))),
 (Iq 5 (.mv (.t 8)))])
 (.cond (.t 5)
 (.seq (.reg [(Iq 4 (.mv (.c (.int .i64 1))))])
 .ret)
 (.seq (.reg [(Iq 10 (.mv (.t 1))),
 (Iq 11 (.bin .lss (.t 10) (.c (.int .i64 1)))),
 (Iq 12 (.mv (.t 11))),
 ⟨(some 13), (some (12, false)), .q (.mv (.t 1))⟩,
 ⟨(some 14), (some (12, false)), .q (.bin .gtr (.t 13) (.c (.int .i64 8)))⟩,
 (Iq 15 (.pick (.t 12) (.c (.bool true)) (.t 14))),
 (Iq 9 (.mv (.t 15)))])
 (.cond (.t 9)
 (.seq (.reg [(Iq 4 (.mv (.c (.int .i64 2))))])
 .ret)
 (.seq (.reg [(Iq 17 (.ld true 1 (.t 2))),
 (Ic 18 (.call 27 [(.t 17)])),
 (Iq 19 (.bin .gtr (.t 18) (.c (.int .i64 64)))),
 (Iq 16 (.mv (.t 19)))])
 (.cond (.t 16)
 (.seq (.reg [(Iq 4 (.mv (.c (.int .i64 3))))])
 .ret)
 .skip)))))))
 (.seq (.reg [(Iq 4 (.mv (.c (.int .i64 0))))])
 .ret)))⟩
theorem l_impl_perfectCode : lowF PA f_impl_perfectCode 2 [] = some c_impl_perfectCode := by kernel_rfl
abbrev f_impl_perfects : FuncId := 52
def c_impl_perfects : AF := ⟨3, 40, [],
 (.seq (.reg [(Im 3 (.box (.t 0))),
 (Im 5 (.box (.t 2)))])
 (.seq (.reg [(Im 11 (.bsl 1 [])),
 (Im 6 (.alloc [(.v (.slice none 0 0))])),
 ⟨none, none, .m (.st false 1 (.t 6) (.t 11))⟩])
 (.seq (.seq (.reg [(Iq 12 (.ld true 1 (.t 3))),
 (Ic 13 (.call 27 [(.t 12)])),
 (Iq 14 (.mv (.c (.int .i64 0))))])
 (.block 0 (.loop [1, 3, 5, 6, 13, 14, 43] (.seq (.reg [(Iq 15 (.bin .lss (.t 14) (.t 13)))])
 (.seq (.cond (.t 15)
 .skip
 (.exit 0))
 (.seq (.block 1 (.seq (.reg [(Iq 16 (.mv (.t 14))),
 (Iq 7 (.mv (.t 16)))])
 (.sch (.take 0 (Iq 17 (.ld false 1 (.t 6))) (.take 1 (Iq 18 (.ld true 1 (.t 3))) (.take 2 (Iq 19 (.mv (.t 7))) (.take 3 (Iq 20 (.mv (.t 1))) (.one (Ic 21 (.call 82 [(.t 18), (.t 19), (.t 20)])) [1] (.one (Im 22 (.bsl 1 [(.t 21)])) [] (.one (Im 23 (.app 1 24 (.t 17) (.t 22))) [0] (.one ⟨none, none, .m (.st false 1 (.t 6) (.t 23))⟩ [1, 0] .done)))))))))))
 (.reg [(Iq 24 (.bin .add (.t 14) (.c (.int .i64 1)))),
 (Iq 14 (.mv (.t 24)))])))))))
 (.seq (.seq (.sch (.take 0 (Iq 25 (.ld false 1 (.t 6))) (.take 1 (Iq 26 (.len (.t 25))) (.take 2 (Iq 27 (.ld false 1 (.t 6))) (.take 3 (Iq 28 (.ixs 1 (.t 27) (.c (.int .i64 0)))) (.take 4 (Iq 29 (.ld false 1 (.t 28))) (.take 5 (Iq 30 (.len (.t 29))) (.take 6 (Iq 31 (.bin .rem (.t 26) (.t 30))) (.take 7 (Iq 32 (.bin .neq (.t 31) (.c (.int .i64 0)))) .done)))))))))
 (.cond (.t 32)
 .ret
 .skip))
 (.seq (.reg [(Iq 33 (.ld false 1 (.t 6))),
 (Iq 34 (.len (.t 33))),
 (Im 35 (.mks 1 (.v (.bool false)) 1 (.t 34) (.t 34))),
 (Im 36 (.bsl 1 [])),
 (Im 8 (.alloc [(.v (.slice none 0 0))])),
 (Im 9 (.alloc [(.v (.slice none 0 0))])),
 ⟨none, none, .m (.st false 1 (.t 8) (.t 35))⟩,
 ⟨none, none, .m (.st false 1 (.t 9) (.t 36))⟩])
 (.seq (.reg [(Im 10 (.alloc [(.v .nilFunc)]))])
 (.seq (.reg [(Iq 37 (.mkf 83 [(.t 8), (.t 9), (.t 5), (.t 6), (.t 10)])),
 ⟨none, none, .m (.st false 1 (.t 10) (.t 37))⟩])
 (.reg [(Iq 38 (.ld false 1 (.t 10))),
 (Ic 39 (.cav (.t 38) []))]))))))))⟩
theorem l_impl_perfects : lowF PA f_impl_perfects 3 [.k [1, 3, 5, 6, 13, 14, 43], .s (.take 0 (.take 1 (.take 2 (.take 3 (.one 4 (.one 5 (.one 6 (.one 7 .done)))))))), .s (.take 0 (.take 1 (.take 2 (.take 3 (.take 4 (.take 5 (.take 6 (.take 7 .done))))))))] = some c_impl_perfects := by kernel_rfl
abbrev f_impl_FirstPerfect_1 : FuncId := 53
def c_impl_FirstPerfect_1 : AF := ⟨2, 12, [],
 (.seq (.reg [(Iq 3 (.ld false 1 (.t 1))),
 (Iq 4 (.isn false (.t 3))),
 (Iq 5 (.mv (.t 4))),
 ⟨(some 6), (some (5, false)), .q (.mv (.t 0))⟩,
 ⟨(some 7), (some (5, false)), .q (.ld false 1 (.t 1))⟩,
 ⟨(some 8), (some (5, false)), .c (.call 54 [(.t 6), (.t 7)])⟩,
 ⟨(some 9), (some (5, false)), .q (.bin .lss (.t 8) (.c (.int .i64 0)))⟩,
 (Iq 10 (.pick (.t 5) (.c (.bool true)) (.t 9)))])
 (.cond (.t 10)
 (.reg [(Iq 11 (.mv (.t 0))),
 ⟨none, none, .m (.st false 1 (.t 1) (.t 11))⟩])
 .skip))⟩
theorem l_impl_FirstPerfect_1 : lowF PA f_impl_FirstPerfect_1 2 [] = some c_impl_FirstPerfect_1 := by kernel_rfl
abbrev f_slices_Compare___int64_int64_ : FuncId := 54
def c_slices_Compare___int64_int64_ : AF := ⟨2, 36, [.t 4],
 (.seq (.reg [(Iq 4 (.mv (.c (.int .i64 0))))])
 (.seq (.seq (.reg [(Iq 9 (.mv (.t 0))),
 (Iq 10 (.len (.t 9))),
 (Iq 11 (.mv (.c (.int .i64 0))))])
 (.block 0 (.loop [0, 1, 9, 10, 11] (.seq (.reg [(Iq 12 (.bin .lss (.t 11) (.t 10)))])
 (.seq (.cond (.t 12)
 .skip
 (.exit 0))
 (.seq (.block 1 (.seq (.reg [(Iq 13 (.mv (.t 11))),
 (Iq 14 (.ixs 1 (.t 9) (.t 11))),
 (Iq 15 (.ld false 1 (.t 14))),
 (Iq 5 (.mv (.t 13))),
 (Iq 6 (.mv (.t 15)))])
 (.seq (.seq (.reg [(Iq 16 (.mv (.t 5))),
 (Iq 17 (.mv (.t 1))),
 (Iq 18 (.len (.t 17))),
 (Iq 19 (.bin .geq (.t 16) (.t 18)))])
 (.cond (.t 19)
 (.seq (.reg [(Iq 4 (.mv (.c (.int .i64 1))))])
 .ret)
 .skip))
 (.seq (.reg [(Iq 20 (.mv (.t 1))),
 (Iq 21 (.mv (.t 5))),
 (Iq 22 (.ixs 1 (.t 20) (.t 21))),
 (Iq 23 (.ld false 1 (.t 22))),
 (Iq 7 (.mv (.t 23)))])
 (.seq (.reg [(Iq 24 (.mv (.t 6))),
 (Iq 25 (.mv (.t 7))),
 (Ic 26 (.call 86 [(.t 24), (.t 25)])),
 (Iq 8 (.mv (.t 26)))])
 (.seq (.reg [(Iq 27 (.mv (.t 8))),
 (Iq 28 (.bin .neq (.t 27) (.c (.int .i64 0))))])
 (.cond (.t 28)
 (.seq (.reg [(Iq 29 (.mv (.t 8))),
 (Iq 4 (.mv (.t 29)))])
 .ret)
 .skip)))))))
 (.reg [(Iq 30 (.bin .add (.t 11) (.c (.int .i64 1)))),
 (Iq 11 (.mv (.t 30)))])))))))
 (.seq (.seq (.reg [(Iq 31 (.mv (.t 0))),
 (Iq 32 (.len (.t 31))),
 (Iq 33 (.mv (.t 1))),
 (Iq 34 (.len (.t 33))),
 (Iq 35 (.bin .lss (.t 32) (.t 34)))])
 (.cond (.t 35)
 (.seq (.reg [(Iq 4 (.mv (.c (.int .i64 (-1)))))])
 .ret)
 .skip))
 (.seq (.reg [(Iq 4 (.mv (.c (.int .i64 0))))])
 .ret))))⟩
theorem l_slices_Compare___int64_int64_ : lowF PA f_slices_Compare___int64_int64_ 2 [.k [0, 1, 9, 10, 11]] = some c_slices_Compare___int64_int64_ := by kernel_rfl
abbrev f_spec_l06Few : FuncId := 55
def c_spec_l06Few : AF := ⟨2, 17, [.t 4],
 (.seq (.reg [(Im 2 (.box (.t 0))),
 (Iq 4 (.mv (.c (.int .i64 0))))])
 (.seq (.reg [(Iq 6 (.ld true 1 (.t 2))),
 (Iq 7 (.mv (.t 1))),
 (Ic 8 (.call 87 [(.t 6), (.t 7), (.c (.int .i64 1)), (.c (.int .i64 8))])),
 (Iq 5 (.mv (.t 8)))])
 (.seq (.seq (.reg [(Iq 9 (.mv (.t 5))),
 (Iq 10 (.bin .eql (.t 9) (.c (.int .i64 0)))),
 (Iq 11 (.mv (.t 10))),
 ⟨(some 12), (some (11, true)), .q (.ld true 1 (.t 2))⟩,
 ⟨(some 13), (some (11, true)), .c (.call 41 [(.t 12)])⟩,
 ⟨(some 14), (some (11, true)), .q (.bin .gtr (.t 13) (.c (.int .i64 64)))⟩,
 (Iq 15 (.pick (.t 11) (.t 14) (.c (.bool false))))])
 (.cond (.t 15)
 (.reg [(Iq 5 (.mv (.c (.int .i64 3))))])
 .skip))
 (.seq (.reg [(Iq 16 (.mv (.t 5))),
 (Iq 4 (.mv (.t 16)))])
 .ret))))⟩
theorem l_spec_l06Few : lowF PA f_spec_l06Few 2 [] = some c_spec_l06Few := by kernel_rfl
abbrev f_spec_l06All : FuncId := 56
def c_spec_l06All : AF := ⟨2, 39, [.t 4, .t 5],
 (.seq (.reg [(Im 2 (.box (.t 0))),
 (Iq 4 (.mv (.c (.int .i64 0)))),
 (Iq 5 (.mv (.c (.slice none 0 0))))])
 (.seq (.reg [(Iq 9 (.ld true 1 (.t 2))),
 (Ic 10 (.call 41 [(.t 9)])),
 (Im 11 (.bsl 1 [])),
 (Iq 6 (.mv (.t 10))),
 (Iq 7 (.mv (.t 11)))])
 (.seq (.seq (.reg [(Iq 12 (.mv (.t 6))),
 (Iq 13 (.ld true 1 (.t 2))),
 (Iq 14 (.mv (.t 1))),
 (Ic 15 (.call 88 [(.t 13), (.t 14)])),
 (Iq 16 (.bin .rem (.t 12) (.t 15))),
 (Iq 17 (.bin .neq (.t 16) (.c (.int .i64 0))))])
 (.cond (.t 17)
 (.seq (.reg [(Im 18 (.bsl 1 [])),
 (Iq 4 (.mv (.c (.int .i64 0)))),
 (Iq 5 (.mv (.t 18)))])
 .ret)
 .skip))
 (.seq (.seq (.reg [(Iq 8 (.mv (.c (.int .i64 0))))])
 (.block 0 (.loop [1, 2, 6, 7, 8] (.seq (.seq (.reg [(Iq 19 (.mv (.t 8))),
 (Iq 20 (.mv (.t 6))),
 (Iq 21 (.bin .lss (.t 19) (.t 20)))])
 (.cond (.t 21)
 .skip
 (.exit 0)))
 (.seq (.block 1 (.reg [(Iq 24 (.mv (.t 7))),
 (Iq 25 (.ld true 1 (.t 2))),
 (Iq 26 (.mv (.t 8))),
 (Iq 27 (.mv (.t 1))),
 (Ic 28 (.call 89 [(.t 25), (.t 26), (.t 27)])),
 (Im 29 (.bsl 1 [(.t 28)])),
 (Im 30 (.app 1 24 (.t 24) (.t 29))),
 (Iq 7 (.mv (.t 30)))]))
 (.reg [(Iq 22 (.mv (.t 8))),
 (Iq 23 (.bin .add (.t 22) (.c (.int .i64 1)))),
 (Iq 8 (.mv (.t 23)))]))))))
 (.seq (.sch (.take 0 (Iq 31 (.ld true 1 (.t 2))) (.take 1 (Iq 32 (.mv (.t 7))) (.take 3 (Iq 34 (.mv (.t 6))) (.two (Im 33 (.bsl 1 [])) [] (.one (Im 35 (.mks 1 (.v (.bool false)) 1 (.t 34) (.t 34))) [] (.one (Ic 36 (.call 90 [(.t 31), (.t 32), (.t 33), (.t 35)])) [0] (.take 6 (Iq 37 (.ext (.t 36) 0)) (.take 7 (Iq 38 (.ext (.t 36) 1)) (.take 8 (Iq 4 (.mv (.t 37))) (.take 9 (Iq 5 (.mv (.t 38))) .done)))))) (Im 35 (.mks 1 (.v (.bool false)) 1 (.t 34) (.t 34))) [] (.one (Im 33 (.bsl 1 [])) [] (.one (Ic 36 (.call 90 [(.t 31), (.t 32), (.t 33), (.t 35)])) [0] (.take 6 (Iq 37 (.ext (.t 36) 0)) (.take 7 (Iq 38 (.ext (.t 36) 1)) (.take 8 (Iq 4 (.mv (.t 37))) (.take 9 (Iq 5 (.mv (.t 38))) .done)))))))))))
 .ret)))))⟩
theorem l_spec_l06All : lowF PA f_spec_l06All 2 [.k [1, 2, 6, 7, 8], .s (.take 0 (.take 1 (.take 3 (.two 2 (.one 4 (.one 5 (.take 6 (.take 7 (.take 8 (.take 9 .done)))))) 4 (.one 2 (.one 5 (.take 6 (.take 7 (.take 8 (.take 9 .done))))))))))] = some c_spec_l06All := by kernel_rfl
abbrev f_impl_CountPerfect_1 : FuncId := 57
def c_impl_CountPerfect_1 : AF := ⟨2, 5, [],
 (.reg [(Iq 3 (.ld false 1 (.t 1))),
 (Iq 4 (.bin .add (.t 3) (.c (.int .i64 1)))),
 ⟨none, none, .m (.st false 1 (.t 1) (.t 4))⟩])⟩
theorem l_impl_CountPerfect_1 : lowF PA f_impl_CountPerfect_1 2 [] = some c_impl_CountPerfect_1 := by kernel_rfl
abbrev f_spec_DrawBundleOf : FuncId := 58
def c_spec_DrawBundleOf : AF := ⟨1, 69, [.c 2 true 1, .t 3, .t 4, .t 5],
 (.seq (.reg [(Im 2 (.alloc [(.v (.slice none 0 0))])),
 (Iq 3 (.mv (.c (.slice none 0 0)))),
 (Iq 4 (.mv (.c (.int .i64 0)))),
 (Iq 5 (.mv (.c (.int .i64 0))))])
 (.seq (.reg [(Iq 11 (.mv (.t 0))),
 (Ic 12 (.call 45 [(.t 11)])),
 (Iq 6 (.mv (.t 12)))])
 (.seq (.reg [(Iq 14 (.mv (.t 6))),
 (Im 15 (.bsl 1 [(.c (.int .i64 2)), (.c (.int .i64 3)), (.c (.int .i64 3))])),
 (Ic 16 (.call 47 [(.t 14), (.t 15)])),
 (Ic 17 (.call 91 [(.c (.int .i64 2)), (.t 16)])),
 (Iq 13 (.mv (.t 17))),
 (Iq 18 (.ext (.t 13) 0)),
 (Iq 19 (.ext (.t 13) 1)),
 (Im 7 (.alloc [(.v (.slice none 0 0))])),
 ⟨none, none, .m (.st true 1 (.t 7) (.t 18))⟩,
 (Iq 8 (.mv (.t 19)))])
 (.seq (.seq (.reg [(Iq 20 (.mv (.t 6))),
 (Ic 21 (.call 46 [(.t 20), (.c (.int .i64 2))])),
 (Iq 22 (.bin .eql (.t 21) (.c (.int .i64 0))))])
 (.cond (.t 22)
 (.sch (.take 0 (Iq 23 (.ld true 1 (.t 7))) (.take 1 (Iq 24 (.mv (.t 8))) (.take 2 (Iq 25 (.mv (.t 6))) (.take 3 (Iq 26 (.ld true 1 (.t 7))) (.one (Ic 27 (.call 41 [(.t 26)])) [3] (.one (Ic 28 (.call 46 [(.t 25), (.t 27)])) [] (.one (Ic 29 (.call 43 [(.t 23), (.t 24), (.t 28)])) [0] (.take 7 (Iq 8 (.mv (.t 29))) .done)))))))))
 .skip))
 (.seq (.sch (.take 0 (Iq 30 (.mv (.t 8))) (.take 1 (Iq 31 (.mv (.t 6))) (.take 2 (Iq 32 (.mv (.t 8))) (.take 3 (Iq 33 (.len (.t 32))) (.take 7 (Iq 37 (.mv (.t 6))) (.take 8 (Iq 38 (.fad 0 (.t 7))) (.take 9 (Iq 39 (.ld false 1 (.t 38))) (.take 10 (Iq 40 (.len (.t 39))) (.take 11 (Iq 41 (.bin .sub (.t 40) (.c (.int .i64 1)))) (.one (Ic 34 (.call 46 [(.t 31), (.t 33)])) [] (.take 5 (Iq 35 (.ixs 1 (.t 30) (.t 34))) (.take 6 (Iq 36 (.ld false 1 (.t 35))) (.one (Ic 42 (.call 79 [(.t 37), (.t 41)])) [] (.take 13 (Iq 9 (.mv (.t 36))) (.take 14 (Iq 10 (.mv (.t 42))) .done))))))))))))))))
 (.seq (.seq (.reg [(Iq 43 (.mv (.t 6))),
 (Ic 44 (.call 46 [(.t 43), (.c (.int .i64 12))]))])
 (.block 0 (.seq (.reg [(Iq 46 (.bin .eql (.t 44) (.c (.int .i64 0)))),
 (Iq 45 (.mv (.t 46)))])
 (.cond (.t 45)
 (.reg [(Iq 47 (.mv (.t 6))),
 (Iq 48 (.ld true 1 (.t 7))),
 (Ic 49 (.call 41 [(.t 48)])),
 (Iq 50 (.bin .sub (.t 49) (.c (.int .i64 1)))),
 (Ic 51 (.call 79 [(.t 47), (.t 50)])),
 (Iq 9 (.mv (.t 51)))])
 (.seq (.reg [(Iq 53 (.bin .eql (.t 44) (.c (.int .i64 1)))),
 (Iq 52 (.mv (.t 53)))])
 (.cond (.t 52)
 (.seq (.reg [(Iq 55 (.mv (.t 6))),
 (Ic 56 (.call 92 [(.t 55)])),
 (Iq 54 (.mv (.t 56))),
 (Iq 57 (.ext (.t 54) 0)),
 (Iq 58 (.ext (.t 54) 1)),
 (Iq 59 (.ext (.t 54) 2)),
 ⟨none, none, .m (.st true 1 (.t 7) (.t 57))⟩,
 (Iq 8 (.mv (.t 58)))])
 (.reg [(Iq 9 (.mv (.c (.int .i64 0))))]))
 .skip))))))
 (.seq (.sch (.take 0 (Iq 60 (.mv (.t 6))) (.take 1 (Iq 61 (.ld true 1 (.t 7))) (.take 3 (Iq 63 (.mv (.t 6))) (.take 4 (Iq 64 (.ld true 1 (.t 7))) (.take 5 (Iq 65 (.mv (.t 8))) (.take 7 (Iq 67 (.mv (.t 9))) (.take 8 (Iq 68 (.mv (.t 10))) (.one (Ic 62 (.call 81 [(.t 60), (.t 61)])) [1] (.one (Ic 66 (.call 93 [(.t 63), (.t 64), (.t 65)])) [4] (.one ⟨none, none, .m (.st true 1 (.t 2) (.t 62))⟩ [1] (.take 10 (Iq 3 (.mv (.t 66))) (.take 11 (Iq 4 (.mv (.t 67))) (.take 12 (Iq 5 (.mv (.t 68))) .done))))))))))))))
 .ret)))))))⟩
theorem l_spec_DrawBundleOf : lowF PA f_spec_DrawBundleOf 1 [.s (.take 0 (.take 1 (.take 2 (.take 3 (.one 4 (.one 5 (.one 6 (.take 7 .done)))))))), .s (.take 0 (.take 1 (.take 2 (.take 3 (.take 7 (.take 8 (.take 9 (.take 10 (.take 11 (.one 4 (.take 5 (.take 6 (.one 12 (.take 13 (.take 14 .done))))))))))))))), .s (.take 0 (.take 1 (.take 3 (.take 4 (.take 5 (.take 7 (.take 8 (.one 2 (.one 6 (.one 9 (.take 10 (.take 11 (.take 12 .done)))))))))))))] = some c_spec_DrawBundleOf := by kernel_rfl
abbrev f_impl_bundleCode : FuncId := 59
def c_impl_bundleCode : AF := ⟨4, 40, [.t 8],
 (.seq (.reg [(Im 4 (.box (.t 0))),
 (Iq 8 (.mv (.c (.int .i64 0))))])
 (.seq (.seq (.reg [(Iq 10 (.ld true 1 (.t 4))),
 (Iq 11 (.mv (.t 1))),
 (Iq 12 (.mv (.t 2))),
 (Im 13 (.bsl 1 [(.t 12)])),
 (Ic 14 (.call 72 [(.t 10), (.t 11), (.t 13)])),
 (Iq 9 (.mv (.t 14)))])
 (.seq (.reg [(Iq 15 (.mv (.t 9))),
 (Iq 16 (.bin .neq (.t 15) (.c (.int .i64 0))))])
 (.cond (.t 16)
 (.seq (.reg [(Iq 17 (.mv (.t 9))),
 (Iq 8 (.mv (.t 17)))])
 .ret)
 .skip)))
 (.seq (.block 0 (.seq (.reg [(Iq 19 (.ld true 1 (.t 4))),
 (Iq 20 (.mv (.t 3))),
 (Ic 21 (.call 94 [(.t 19), (.t 20)])),
 (Iq 22 (.un .not (.t 21))),
 (Iq 18 (.mv (.t 22)))])
 (.cond (.t 18)
 (.seq (.reg [(Iq 8 (.mv (.c (.int .i64 2))))])
 .ret)
 (.seq (.reg [(Iq 24 (.fad 0 (.t 4))),
 (Iq 25 (.ld false 1 (.t 24))),
 (Ic 26 (.call 95 [(.t 25)])),
 (Iq 27 (.bin .gtr (.t 26) (.c (.int .i64 2)))),
 (Iq 28 (.mv (.t 27))),
 ⟨(some 29), (some (28, false)), .q (.ld true 1 (.t 4))⟩,
 ⟨(some 30), (some (28, false)), .q (.mv (.t 1))⟩,
 ⟨(some 31), (some (28, false)), .c (.call 69 [(.t 29), (.t 30), (.c (.int .i64 1))])⟩,
 ⟨(some 32), (some (28, false)), .q (.un .not (.t 31))⟩,
 (Iq 33 (.pick (.t 28) (.c (.bool true)) (.t 32))),
 (Iq 34 (.mv (.t 33))),
 ⟨(some 35), (some (34, false)), .q (.mv (.t 1))⟩,
 ⟨(some 36), (some (34, false)), .q (.mv (.t 2))⟩,
 ⟨(some 37), (some (34, false)), .c (.call 64 [(.t 35), (.t 36)])⟩,
 ⟨(some 38), (some (34, false)), .q (.un .not (.t 37))⟩,
 (Iq 39 (.pick (.t 34) (.c (.bool true)) (.t 38))),
 (Iq 23 (.mv (.t 39)))])
 (.cond (.t 23)
 (.seq (.reg [(Iq 8 (.mv (.c (.int .i64 5))))])
 .ret)
 .skip)))))
 (.seq (.reg [(Iq 8 (.mv (.c (.int .i64 0))))])
 .ret))))⟩
theorem l_impl_bundleCode : lowF PA f_impl_bundleCode 4 [] = some c_impl_bundleCode := by kernel_rfl
abbrev f_impl_bundle : FuncId := 60
def c_impl_bundle : AF := ⟨4, 83, [.t 8],
 (.seq (.reg [(Im 4 (.box (.t 0))),
 (Iq 8 (.mv (.c (.slice none 0 0))))])
 (.seq (.reg [(Iq 17 (.ld true 1 (.t 4))),
 (Iq 18 (.mv (.t 1))),
 (Ic 19 (.call 96 [(.t 17), (.t 18)])),
 (Iq 9 (.mv (.t 19)))])
 (.seq (.reg [(Iq 20 (.ld true 1 (.t 4))),
 (Iq 21 (.mv (.t 2))),
 (Ic 22 (.call 33 [(.t 20), (.t 21)])),
 (Im 23 (.bsl 8 [(.t 22)])),
 (Iq 10 (.mv (.t 23)))])
 (.seq (.seq (.reg [(Iq 11 (.mv (.c (.int .i64 0))))])
 (.block 0 (.loop [3, 4, 9, 10, 11] (.seq (.seq (.reg [(Iq 24 (.mv (.t 11))),
 (Iq 25 (.mv (.t 10))),
 (Iq 26 (.len (.t 25))),
 (Iq 27 (.bin .lss (.t 24) (.t 26)))])
 (.cond (.t 27)
 .skip
 (.exit 0)))
 (.seq (.block 1 (.seq (.reg [(Iq 30 (.mv (.t 9))),
 (Iq 31 (.len (.t 30))),
 (Iq 32 (.mv (.c (.int .i64 0))))])
 (.block 2 (.loop [3, 4, 9, 10, 11, 30, 31, 32] (.seq (.reg [(Iq 33 (.bin .lss (.t 32) (.t 31)))])
 (.seq (.cond (.t 33)
 .skip
 (.exit 2))
 (.seq (.block 3 (.seq (.reg [(Iq 34 (.ixs 8 (.t 30) (.t 32))),
 (Iq 35 (.ld true 8 (.t 34))),
 (Im 13 (.alloc [(.v (.int .u8 0)), (.v (.int .u8 0)), (.v (.int .u8 0)), (.v (.int .u8 0)), (.v (.int .u8 0)), (.v (.int .u8 0)), (.v (.int .u8 0)), (.v (.int .u8 0))])),
 ⟨none, none, .m (.st true 8 (.t 13) (.t 35))⟩])
 (.seq (.sch (.take 0 (Iq 36 (.ld true 8 (.t 13))) (.take 1 (Iq 37 (.mv (.t 10))) (.take 2 (Iq 38 (.mv (.t 11))) (.take 3 (Iq 39 (.ixs 8 (.t 37) (.t 38))) (.take 4 (Iq 40 (.ld true 8 (.t 39))) (.one (Ic 41 (.call 97 [(.t 36), (.t 40)])) [4, 0] (.take 6 (Iq 42 (.bin .eql (.t 41) (.c (.int .i64 3)))) (.take 7 (Iq 43 (.mv (.t 42))) (.take 8 ⟨(some 44), (some (43, true)), .q (.mv (.t 3))⟩ (.take 9 ⟨(some 45), (some (43, true)), .q (.ixa 8 1 (.t 13) (.t 44))⟩ (.take 10 ⟨(some 46), (some (43, true)), .q (.ld false 1 (.t 45))⟩ (.take 11 ⟨(some 47), (some (43, true)), .q (.mv (.t 10))⟩ (.take 12 ⟨(some 48), (some (43, true)), .q (.mv (.t 11))⟩ (.take 13 ⟨(some 49), (some (43, true)), .q (.mv (.t 3))⟩ (.take 14 ⟨(some 50), (some (43, true)), .q (.ixs 8 (.t 47) (.t 48))⟩ (.take 15 ⟨(some 51), (some (43, true)), .q (.ixa 8 1 (.t 50) (.t 49))⟩ (.take 16 ⟨(some 52), (some (43, true)), .q (.ld false 1 (.t 51))⟩ (.take 17 ⟨(some 53), (some (43, true)), .q (.bin .neq (.t 46) (.t 52))⟩ (.take 18 (Iq 54 (.pick (.t 43) (.t 53) (.c (.bool false)))) (.take 19 (Iq 55 (.mv (.t 54))) (.take 20 ⟨(some 56), (some (55, true)), .q (.mv (.t 10))⟩ (.take 21 ⟨(some 57), (some (55, true)), .q (.ld true 8 (.t 13))⟩ (.one ⟨(some 58), (some (55, true)), .c (.call 98 [(.t 56), (.t 57)])⟩ [21] (.take 23 ⟨(some 59), (some (55, true)), .q (.un .not (.t 58))⟩ (.take 24 (Iq 60 (.pick (.t 55) (.t 59) (.c (.bool false)))) .done))))))))))))))))))))))))))
 (.cond (.t 60)
 (.reg [(Iq 61 (.mv (.t 10))),
 (Iq 62 (.ld true 8 (.t 13))),
 (Im 63 (.bsl 8 [(.t 62)])),
 (Im 64 (.app 8 8 (.t 61) (.t 63))),
 (Iq 10 (.mv (.t 64)))])
 .skip))))
 (.reg [(Iq 65 (.bin .add (.t 32) (.c (.int .i64 1)))),
 (Iq 32 (.mv (.t 65)))]))))))))
 (.reg [(Iq 28 (.mv (.t 11))),
 (Iq 29 (.bin .add (.t 28) (.c (.int .i64 1)))),
 (Iq 11 (.mv (.t 29)))]))))))
 (.seq (.reg [(Im 66 (.bsl 1 [])),
 (Iq 14 (.mv (.t 66)))])
 (.seq (.seq (.reg [(Iq 67 (.mv (.t 10))),
 (Iq 68 (.len (.t 67))),
 (Iq 69 (.mv (.c (.int .i64 0))))])
 (.block 4 (.loop [4, 14, 67, 68, 69] (.seq (.reg [(Iq 70 (.bin .lss (.t 69) (.t 68)))])
 (.seq (.cond (.t 70)
 .skip
 (.exit 4))
 (.seq (.block 5 (.seq (.reg [(Iq 71 (.ixs 8 (.t 67) (.t 69))),
 (Iq 72 (.ld true 8 (.t 71))),
 (Im 16 (.alloc [(.v (.int .u8 0)), (.v (.int .u8 0)), (.v (.int .u8 0)), (.v (.int .u8 0)), (.v (.int .u8 0)), (.v (.int .u8 0)), (.v (.int .u8 0)), (.v (.int .u8 0))])),
 ⟨none, none, .m (.st true 8 (.t 16) (.t 72))⟩])
 (.reg [(Iq 73 (.mv (.t 14))),
 (Iq 74 (.ld true 1 (.t 4))),
 (Iq 75 (.ld true 8 (.t 16))),
 (Ic 76 (.call 31 [(.t 74), (.t 75)])),
 (Im 77 (.bsl 1 [(.t 76)])),
 (Im 78 (.app 1 8 (.t 73) (.t 77))),
 (Iq 14 (.mv (.t 78)))])))
 (.reg [(Iq 79 (.bin .add (.t 69) (.c (.int .i64 1)))),
 (Iq 69 (.mv (.t 79)))])))))))
 (.seq (.reg [(Iq 80 (.mv (.t 14))),
 (Ic 81 (.call 73 [(.t 80)]))])
 (.seq (.reg [(Iq 82 (.mv (.t 14))),
 (Iq 8 (.mv (.t 82)))])
 .ret))))))))⟩
theorem l_impl_bundle : lowF PA f_impl_bundle 4 [.k [3, 4, 9, 10, 11], .k [3, 4, 9, 10, 11, 30, 31, 32], .s (.take 0 (.take 1 (.take 2 (.take 3 (.take 4 (.one 5 (.take 6 (.take 7 (.take 8 (.take 9 (.take 10 (.take 11 (.take 12 (.take 13 (.take 14 (.take 15 (.take 16 (.take 17 (.take 18 (.take 19 (.take 20 (.take 21 (.one 22 (.take 23 (.take 24 .done))))))))))))))))))))))))), .k [4, 14, 67, 68, 69]] = some c_impl_bundle := by kernel_rfl
abbrev f_spec_l06Given : FuncId := 61
def c_spec_l06Given : AF := ⟨4, 59, [.t 8],
 (.seq (.reg [(Im 4 (.box (.t 0))),
 (Iq 8 (.mv (.c (.int .i64 0))))])
 (.seq (.reg [(Iq 11 (.ld true 1 (.t 4))),
 (Iq 12 (.mv (.t 1))),
 (Ic 13 (.call 76 [(.t 11), (.t 12)])),
 (Iq 9 (.mv (.t 13)))])
 (.seq (.seq (.reg [(Iq 14 (.mv (.t 9))),
 (Iq 15 (.bin .eql (.t 14) (.c (.int .i64 0)))),
 (Iq 16 (.mv (.t 15))),
 ⟨(some 17), (some (16, true)), .q (.mv (.t 2))⟩,
 ⟨(some 18), (some (16, true)), .q (.ld true 1 (.t 4))⟩,
 ⟨(some 19), (some (16, true)), .c (.call 41 [(.t 18)])⟩,
 ⟨(some 20), (some (16, true)), .q (.bin .sub (.t 19) (.c (.int .i64 1)))⟩,
 ⟨(some 21), (some (16, true)), .c (.call 49 [(.t 17), (.c (.int .i64 0)), (.t 20)])⟩,
 ⟨(some 22), (some (16, true)), .q (.un .not (.t 21))⟩,
 ⟨(some 23), (some (16, true)), .q (.mv (.t 22))⟩,
 ⟨(some 24), (some (23, false)), .q (.mv (.t 3))⟩,
 ⟨(some 25), (some (23, false)), .q (.fad 0 (.t 4))⟩,
 ⟨(some 26), (some (23, false)), .q (.ld false 1 (.t 25))⟩,
 ⟨(some 27), (some (23, false)), .q (.len (.t 26))⟩,
 ⟨(some 28), (some (23, false)), .q (.bin .sub (.t 27) (.c (.int .i64 1)))⟩,
 ⟨(some 29), (some (23, false)), .c (.call 49 [(.t 24), (.c (.int .i64 0)), (.t 28)])⟩,
 ⟨(some 30), (some (23, false)), .q (.un .not (.t 29))⟩,
 ⟨(some 31), (some (16, true)), .q (.pick (.t 23) (.c (.bool true)) (.t 30))⟩,
 (Iq 32 (.pick (.t 16) (.t 31) (.c (.bool false))))])
 (.cond (.t 32)
 (.reg [(Iq 9 (.mv (.c (.int .i64 2))))])
 .skip))
 (.seq (.seq (.reg [(Iq 33 (.mv (.t 9))),
 (Iq 34 (.bin .neq (.t 33) (.c (.int .i64 0))))])
 (.cond (.t 34)
 (.seq (.reg [(Iq 35 (.mv (.t 9))),
 (Iq 8 (.mv (.t 35)))])
 .ret)
 .skip))
 (.seq (.seq (.reg [(Iq 10 (.mv (.c (.int .i64 0))))])
 (.block 0 (.loop [1, 2, 4, 10] (.seq (.seq (.reg [(Iq 36 (.mv (.t 10))),
 (Iq 37 (.fad 0 (.t 4))),
 (Iq 38 (.ld false 1 (.t 37))),
 (Iq 39 (.len (.t 38))),
 (Iq 40 (.bin .lss (.t 36) (.t 39)))])
 (.cond (.t 40)
 .skip
 (.exit 0)))
 (.seq (.block 1 (.seq (.reg [(Iq 43 (.fad 0 (.t 4))),
 (Iq 44 (.ld false 1 (.t 43))),
 (Iq 45 (.mv (.t 10))),
 (Iq 46 (.ixs 1 (.t 44) (.t 45))),
 (Iq 47 (.ld false 1 (.t 46))),
 (Iq 48 (.bin .neq (.t 47) (.c (.int .i64 2))))])
 (.cond (.t 48)
 (.seq (.reg [(Iq 8 (.mv (.c (.int .i64 5))))])
 .ret)
 .skip)))
 (.reg [(Iq 41 (.mv (.t 10))),
 (Iq 42 (.bin .add (.t 41) (.c (.int .i64 1)))),
 (Iq 10 (.mv (.t 42)))]))))))
 (.seq (.seq (.reg [(Iq 49 (.ld true 1 (.t 4))),
 (Iq 50 (.mv (.t 1))),
 (Ic 51 (.call 99 [(.t 49), (.t 50), (.c (.int .i64 1))])),
 (Iq 52 (.un .not (.t 51))),
 (Iq 53 (.mv (.t 52))),
 ⟨(some 54), (some (53, false)), .q (.mv (.t 1))⟩,
 ⟨(some 55), (some (53, false)), .q (.mv (.t 2))⟩,
 ⟨(some 56), (some (53, false)), .c (.call 42 [(.t 54), (.t 55)])⟩,
 ⟨(some 57), (some (53, false)), .q (.un .not (.t 56))⟩,
 (Iq 58 (.pick (.t 53) (.c (.bool true)) (.t 57)))])
 (.cond (.t 58)
 (.seq (.reg [(Iq 8 (.mv (.c (.int .i64 5))))])
 .ret)
 .skip))
 (.seq (.reg [(Iq 8 (.mv (.c (.int .i64 0))))])
 .ret)))))))⟩
theorem l_spec_l06Given : lowF PA f_spec_l06Given 4 [.k [1, 2, 4, 10]] = some c_spec_l06Given := by kernel_rfl
abbrev f_spec_l06Bundle : FuncId := 62
def c_spec_l06Bundle : AF := ⟨4, 86, [.t 8],
 (.seq (.reg [(Im 4 (.box (.t 0))),
 (Iq 8 (.mv (.c (.slice none 0 0))))])
 (.seq (.reg [(Iq 14 (.mv (.t 2))),
 (Im 15 (.bsl 1 [(.t 14)])),
 (Iq 16 (.mv (.t 2))),
 (Im 17 (.bsl 1 [(.t 16)])),
 (Iq 9 (.mv (.t 15))),
 (Iq 10 (.mv (.t 17)))])
 (.seq (.seq (.reg [(Iq 11 (.mv (.c (.int .i64 0))))])
 (.block 0 (.loop [1, 3, 4, 9, 10, 11] (.seq (.seq (.reg [(Iq 18 (.mv (.t 11))),
 (Iq 19 (.mv (.t 10))),
 (Iq 20 (.len (.t 19))),
 (Iq 21 (.bin .lss (.t 18) (.t 20)))])
 (.cond (.t 21)
 .skip
 (.exit 0)))
 (.seq (.block 1 (.seq (.reg [(Iq 12 (.mv (.c (.int .i64 0))))])
 (.block 2 (.loop [1, 3, 4, 9, 10, 11, 12] (.seq (.seq (.reg [(Iq 24 (.mv (.t 12))),
 (Iq 25 (.mv (.t 1))),
 (Iq 26 (.len (.t 25))),
 (Iq 27 (.bin .lss (.t 24) (.t 26)))])
 (.cond (.t 27)
 .skip
 (.exit 2)))
 (.seq (.block 3 (.seq (.sch (.take 0 (Iq 30 (.ld true 1 (.t 4))) (.take 1 (Iq 31 (.mv (.t 10))) (.take 2 (Iq 32 (.mv (.t 11))) (.take 3 (Iq 33 (.ixs 1 (.t 31) (.t 32))) (.take 4 (Iq 34 (.ld false 1 (.t 33))) (.take 5 (Iq 35 (.mv (.t 1))) (.take 6 (Iq 36 (.mv (.t 12))) (.take 7 (Iq 37 (.ixs 1 (.t 35) (.t 36))) (.take 8 (Iq 38 (.ld false 1 (.t 37))) (.one (Ic 39 (.call 100 [(.t 30), (.t 34), (.t 38)])) [8, 4, 0] (.take 10 (Iq 40 (.bin .eql (.t 39) (.c (.int .i64 3)))) (.take 11 (Iq 41 (.mv (.t 40))) (.take 12 ⟨(some 42), (some (41, true)), .q (.ld true 1 (.t 4))⟩ (.take 13 ⟨(some 43), (some (41, true)), .q (.mv (.t 10))⟩ (.take 14 ⟨(some 44), (some (41, true)), .q (.mv (.t 11))⟩ (.take 15 ⟨(some 45), (some (41, true)), .q (.ixs 1 (.t 43) (.t 44))⟩ (.take 16 ⟨(some 46), (some (41, true)), .q (.ld false 1 (.t 45))⟩ (.take 18 ⟨(some 48), (some (41, true)), .q (.mv (.t 3))⟩ (.take 21 ⟨(some 51), (some (41, true)), .q (.ld true 1 (.t 4))⟩ (.take 22 ⟨(some 52), (some (41, true)), .q (.mv (.t 1))⟩ (.take 23 ⟨(some 53), (some (41, true)), .q (.mv (.t 12))⟩ (.take 24 ⟨(some 54), (some (41, true)), .q (.ixs 1 (.t 52) (.t 53))⟩ (.take 25 ⟨(some 55), (some (41, true)), .q (.ld false 1 (.t 54))⟩ (.take 27 ⟨(some 57), (some (41, true)), .q (.mv (.t 3))⟩ (.one ⟨(some 47), (some (41, true)), .c (.call 65 [(.t 42), (.t 46)])⟩ [16, 12] (.take 19 ⟨(some 49), (some (41, true)), .q (.ixs 1 (.t 47) (.t 48))⟩ (.take 20 ⟨(some 50), (some (41, true)), .q (.ld false 1 (.t 49))⟩ (.one ⟨(some 56), (some (41, true)), .c (.call 65 [(.t 51), (.t 55)])⟩ [25, 21] (.take 28 ⟨(some 58), (some (41, true)), .q (.ixs 1 (.t 56) (.t 57))⟩ (.take 29 ⟨(some 59), (some (41, true)), .q (.ld false 1 (.t 58))⟩ (.take 30 ⟨(some 60), (some (41, true)), .q (.bin .neq (.t 50) (.t 59))⟩ (.take 31 (Iq 61 (.pick (.t 41) (.t 60) (.c (.bool false)))) (.take 32 (Iq 13 (.mv (.t 61))) .done))))))))))))))))))))))))))))))))))
 (.seq (.reg [(Iq 62 (.mv (.t 13))),
 (Iq 63 (.mv (.t 62))),
 ⟨(some 64), (some (63, true)), .q (.mv (.t 9))⟩,
 ⟨(some 65), (some (63, true)), .q (.mv (.t 1))⟩,
 ⟨(some 66), (some (63, true)), .q (.mv (.t 12))⟩,
 ⟨(some 67), (some (63, true)), .q (.ixs 1 (.t 65) (.t 66))⟩,
 ⟨(some 68), (some (63, true)), .q (.ld false 1 (.t 67))⟩,
 ⟨(some 69), (some (63, true)), .c (.call 42 [(.t 64), (.t 68)])⟩,
 ⟨(some 70), (some (63, true)), .q (.un .not (.t 69))⟩,
 (Iq 71 (.pick (.t 63) (.t 70) (.c (.bool false))))])
 (.cond (.t 71)
 (.seq (.reg [(Iq 72 (.mv (.t 9))),
 (Iq 73 (.mv (.t 1))),
 (Iq 74 (.mv (.t 12))),
 (Iq 75 (.ixs 1 (.t 73) (.t 74))),
 (Iq 76 (.ld false 1 (.t 75))),
 (Ic 77 (.call 67 [(.t 72), (.t 76)])),
 (Iq 9 (.mv (.t 77)))])
 (.reg [(Iq 78 (.mv (.t 10))),
 (Iq 79 (.mv (.t 1))),
 (Iq 80 (.mv (.t 12))),
 (Iq 81 (.ixs 1 (.t 79) (.t 80))),
 (Iq 82 (.ld false 1 (.t 81))),
 (Im 83 (.bsl 1 [(.t 82)])),
 (Im 84 (.app 1 8 (.t 78) (.t 83))),
 (Iq 10 (.mv (.t 84)))]))
 .skip))))
 (.reg [(Iq 28 (.mv (.t 12))),
 (Iq 29 (.bin .add (.t 28) (.c (.int .i64 1)))),
 (Iq 12 (.mv (.t 29)))])))))))
 (.reg [(Iq 22 (.mv (.t 11))),
 (Iq 23 (.bin .add (.t 22) (.c (.int .i64 1)))),
 (Iq 11 (.mv (.t 23)))]))))))
 (.seq (.reg [(Iq 85 (.mv (.t 9))),
 (Iq 8 (.mv (.t 85)))])
 .ret))))⟩
theorem l_spec_l06Bundle : lowF PA f_spec_l06Bundle 4 [.k [1, 3, 4, 9, 10, 11], .k [1, 3, 4, 9, 10, 11, 12], .s (.take 0 (.take 1 (.take 2 (.take 3 (.take 4 (.take 5 (.take 6 (.take 7 (.take 8 (.one 9 (.take 10 (.take 11 (.take 12 (.take 13 (.take 14 (.take 15 (.take 16 (.take 18 (.take 21 (.take 22 (.take 23 (.take 24 (.take 25 (.take 27 (.one 17 (.take 19 (.take 20 (.one 26 (.take 28 (.take 29 (.take 30 (.take 31 (.take 32 .done)))))))))))))))))))))))))))))))))] = some c_spec_l06Bundle := by kernel_rfl
abbrev f_impl_SwitchBundle_1 : FuncId := 63
def c_impl_SwitchBundle_1 : AF := ⟨4, 22, [.t 5],
 (.seq (.reg [(Iq 5 (.mv (.c (.int .i64 0))))])
 (.seq (.reg [(Iq 7 (.ld true 1 (.t 1))),
 (Iq 8 (.mv (.t 0))),
 (Ic 9 (.call 33 [(.t 7), (.t 8)])),
 (Im 6 (.alloc [(.v (.int .u8 0)), (.v (.int .u8 0)), (.v (.int .u8 0)), (.v (.int .u8 0)), (.v (.int .u8 0)), (.v (.int .u8 0)), (.v (.int .u8 0)), (.v (.int .u8 0))])),
 ⟨none, none, .m (.st true 8 (.t 6) (.t 9))⟩])
 (.seq (.seq (.reg [(Iq 10 (.ld false 1 (.t 2))),
 (Iq 11 (.mv (.t 0))),
 (Ic 12 (.call 64 [(.t 10), (.t 11)]))])
 (.cond (.t 12)
 (.sch (.take 0 (Iq 13 (.ld false 1 (.t 3))) (.take 1 (Iq 14 (.ld false 1 (.t 3))) (.take 2 (Iq 15 (.ixa 8 1 (.t 6) (.t 14))) (.take 3 (Iq 16 (.ld false 1 (.t 15))) (.take 4 (Iq 17 (.bin .sub (.c (.int .u8 1)) (.t 16))) (.take 5 (Iq 18 (.ixa 8 1 (.t 6) (.t 13))) (.one ⟨none, none, .m (.st false 1 (.t 18) (.t 17))⟩ [3, 1, 0] .done))))))))
 .skip))
 (.seq (.reg [(Iq 19 (.ld true 1 (.t 1))),
 (Iq 20 (.ld true 8 (.t 6))),
 (Ic 21 (.call 31 [(.t 19), (.t 20)])),
 (Iq 5 (.mv (.t 21)))])
 .ret))))⟩
theorem l_impl_SwitchBundle_1 : lowF PA f_impl_SwitchBundle_1 4 [.s (.take 0 (.take 1 (.take 2 (.take 3 (.take 4 (.take 5 (.one 6 .done)))))))] = some c_impl_SwitchBundle_1 := by kernel_rfl
abbrev f_slices_Contains___int64_int64_ : FuncId := 64
def c_slices_Contains___int64_int64_ : AF := ⟨2, 9, [.t 4],
 (.seq (.reg [(Iq 4 (.mv (.c (.bool false))))])
 (.seq (.reg [(Iq 5 (.mv (.t 0))),
 (Iq 6 (.mv (.t 1))),
 (Ic 7 (.call 101 [(.t 5), (.t 6)])),
 (Iq 8 (.bin .geq (.t 7) (.c (.int .i64 0)))),
 (Iq 4 (.mv (.t 8)))])
 .ret))⟩
theorem l_slices_Contains___int64_int64_ : lowF PA f_slices_Contains___int64_int64_ 2 [] = some c_slices_Contains___int64_int64_ := by kernel_rfl
abbrev f_spec_l01Digits : FuncId := 65
def c_spec_l01Digits : AF := ⟨2, 37, [.t 4],
 (.seq (.reg [(Im 2 (.box (.t 0))),
 (Iq 4 (.mv (.c (.slice none 0 0))))])
 (.seq (.reg [(Iq 7 (.fad 0 (.t 2))),
 (Iq 8 (.ld false 1 (.t 7))),
 (Iq 9 (.len (.t 8))),
 (Im 10 (.mks 1 (.v (.int .i64 0)) 8 (.t 9) (.t 9))),
 (Iq 5 (.mv (.t 10)))])
 (.seq (.seq (.reg [(Iq 11 (.fad 0 (.t 2))),
 (Iq 12 (.ld false 1 (.t 11))),
 (Iq 13 (.len (.t 12))),
 (Iq 14 (.bin .sub (.t 13) (.c (.int .i64 1)))),
 (Iq 6 (.mv (.t 14)))])
 (.block 0 (.loop [1, 2, 5, 6] (.seq (.seq (.reg [(Iq 15 (.mv (.t 6))),
 (Iq 16 (.bin .geq (.t 15) (.c (.int .i64 0))))])
 (.cond (.t 16)
 .skip
 (.exit 0)))
 (.seq (.block 1 (.seq (.reg [(Iq 19 (.mv (.t 5))),
 (Iq 20 (.mv (.t 6))),
 (Iq 21 (.mv (.t 1))),
 (Iq 22 (.fad 0 (.t 2))),
 (Iq 23 (.ld false 1 (.t 22))),
 (Iq 24 (.mv (.t 6))),
 (Iq 25 (.ixs 1 (.t 23) (.t 24))),
 (Iq 26 (.ld false 1 (.t 25))),
 (Iq 27 (.bin .rem (.t 21) (.t 26))),
 (Iq 28 (.ixs 1 (.t 19) (.t 20))),
 ⟨none, none, .m (.st false 1 (.t 28) (.t 27))⟩])
 (.reg [(Iq 29 (.mv (.t 1))),
 (Iq 30 (.fad 0 (.t 2))),
 (Iq 31 (.ld false 1 (.t 30))),
 (Iq 32 (.mv (.t 6))),
 (Iq 33 (.ixs 1 (.t 31) (.t 32))),
 (Iq 34 (.ld false 1 (.t 33))),
 (Iq 35 (.bin .quo (.t 29) (.t 34))),
 (Iq 1 (.mv (.t 35)))])))
 (.reg [(Iq 17 (.mv (.t 6))),
 (Iq 18 (.bin .sub (.t 17) (.c (.int .i64 1)))),
 (Iq 6 (.mv (.t 18)))]))))))
 (.seq (.reg [(Iq 36 (.mv (.t 5))),
 (Iq 4 (.mv (.t 36)))])
 .ret))))⟩
theorem l_spec_l01Digits : lowF PA f_spec_l01Digits 2 [.k [1, 2, 5, 6]] = some c_spec_l01Digits := by kernel_rfl
abbrev f_spec_l01Word : FuncId := 66
def c_spec_l01Word : AF := ⟨2, 26, [.t 4],
 (.seq (.reg [(Im 2 (.box (.t 0))),
 (Iq 4 (.mv (.c (.int .i64 0))))])
 (.seq (.reg [(Iq 5 (.mv (.c (.int .i64 0))))])
 (.seq (.seq (.reg [(Iq 6 (.mv (.c (.int .i64 0))))])
 (.block 0 (.loop [1, 2, 5, 6] (.seq (.seq (.reg [(Iq 7 (.mv (.t 6))),
 (Iq 8 (.mv (.t 1))),
 (Iq 9 (.len (.t 8))),
 (Iq 10 (.bin .lss (.t 7) (.t 9)))])
 (.cond (.t 10)
 .skip
 (.exit 0)))
 (.seq (.block 1 (.sch (.take 0 (Iq 13 (.mv (.t 5))) (.take 1 (Iq 14 (.fad 0 (.t 2))) (.take 2 (Iq 15 (.ld false 1 (.t 14))) (.take 3 (Iq 16 (.mv (.t 6))) (.take 4 (Iq 17 (.ixs 1 (.t 15) (.t 16))) (.take 5 (Iq 18 (.ld false 1 (.t 17))) (.take 6 (Iq 19 (.bin .mul (.t 13) (.t 18))) (.take 7 (Iq 20 (.mv (.t 1))) (.take 8 (Iq 21 (.mv (.t 6))) (.take 9 (Iq 22 (.ixs 1 (.t 20) (.t 21))) (.take 10 (Iq 23 (.ld false 1 (.t 22))) (.take 11 (Iq 24 (.bin .add (.t 19) (.t 23))) (.take 12 (Iq 5 (.mv (.t 24))) .done)))))))))))))))
 (.reg [(Iq 11 (.mv (.t 6))),
 (Iq 12 (.bin .add (.t 11) (.c (.int .i64 1)))),
 (Iq 6 (.mv (.t 12)))]))))))
 (.seq (.reg [(Iq 25 (.mv (.t 5))),
 (Iq 4 (.mv (.t 25)))])
 .ret))))⟩
theorem l_spec_l01Word : lowF PA f_spec_l01Word 2 [.k [1, 2, 5, 6], .s (.take 0 (.take 1 (.take 2 (.take 3 (.take 4 (.take 5 (.take 6 (.take 7 (.take 8 (.take 9 (.take 10 (.take 11 (.take 12 .done)))))))))))))] = some c_spec_l01Word := by kernel_rfl
abbrev f_spec_l01Put : FuncId := 67
def c_spec_l01Put : AF := ⟨2, 46, [.t 4],
 (.seq (.reg [(Iq 4 (.mv (.c (.slice none 0 0))))])
 (.seq (.reg [(Iq 7 (.mv (.t 0))),
 (Iq 8 (.len (.t 7))),
 (Iq 5 (.mv (.t 8)))])
 (.seq (.block 0 (.loop [0, 1, 5] (.seq (.seq (.reg [(Iq 9 (.mv (.t 5))),
 (Iq 10 (.bin .gtr (.t 9) (.c (.int .i64 0)))),
 (Iq 11 (.mv (.t 10))),
 ⟨(some 12), (some (11, true)), .q (.mv (.t 0))⟩,
 ⟨(some 13), (some (11, true)), .q (.mv (.t 5))⟩,
 ⟨(some 14), (some (11, true)), .q (.bin .sub (.t 13) (.c (.int .i64 1)))⟩,
 ⟨(some 15), (some (11, true)), .q (.ixs 1 (.t 12) (.t 14))⟩,
 ⟨(some 16), (some (11, true)), .q (.ld false 1 (.t 15))⟩,
 ⟨(some 17), (some (11, true)), .q (.mv (.t 1))⟩,
 ⟨(some 18), (some (11, true)), .q (.bin .gtr (.t 16) (.t 17))⟩,
 (Iq 19 (.pick (.t 11) (.t 18) (.c (.bool false))))])
 (.cond (.t 19)
 .skip
 (.exit 0)))
 (.block 1 (.reg [(Iq 20 (.mv (.t 5))),
 (Iq 21 (.bin .sub (.t 20) (.c (.int .i64 1)))),
 (Iq 5 (.mv (.t 21)))])))))
 (.seq (.seq (.reg [(Iq 22 (.mv (.t 5))),
 (Iq 23 (.bin .gtr (.t 22) (.c (.int .i64 0)))),
 (Iq 24 (.mv (.t 23))),
 ⟨(some 25), (some (24, true)), .q (.mv (.t 0))⟩,
 ⟨(some 26), (some (24, true)), .q (.mv (.t 5))⟩,
 ⟨(some 27), (some (24, true)), .q (.bin .sub (.t 26) (.c (.int .i64 1)))⟩,
 ⟨(some 28), (some (24, true)), .q (.ixs 1 (.t 25) (.t 27))⟩,
 ⟨(some 29), (some (24, true)), .q (.ld false 1 (.t 28))⟩,
 ⟨(some 30), (some (24, true)), .q (.mv (.t 1))⟩,
 ⟨(some 31), (some (24, true)), .q (.bin .eql (.t 29) (.t 30))⟩,
 (Iq 32 (.pick (.t 24) (.t 31) (.c (.bool false))))])
 (.cond (.t 32)
 (.seq (.reg [(Iq 33 (.mv (.t 0))),
 (Iq 4 (.mv (.t 33)))])
 .ret)
 .skip))
 (.seq (.reg [(Iq 34 (.mv (.t 0))),
 (Iq 35 (.mv (.t 5))),
 (Iq 36 (.slc 1 (.t 34) none (some (.t 35)))),
 (Ic 37 (.call 78 [(.t 36)])),
 (Iq 38 (.mv (.t 1))),
 (Im 39 (.bsl 1 [(.t 38)])),
 (Im 40 (.app 1 8 (.t 37) (.t 39))),
 (Iq 6 (.mv (.t 40)))])
 (.seq (.reg [(Iq 41 (.mv (.t 6))),
 (Iq 42 (.mv (.t 0))),
 (Iq 43 (.mv (.t 5))),
 (Iq 44 (.slc 1 (.t 42) (some (.t 43)) none)),
 (Im 45 (.app 1 8 (.t 41) (.t 44))),
 (Iq 4 (.mv (.t 45)))])
 .ret))))))⟩
theorem l_spec_l01Put : lowF PA f_spec_l01Put 2 [.k [0, 1, 5]] = some c_spec_l01Put := by kernel_rfl
abbrev f_impl_coverCode : FuncId := 68
def c_impl_coverCode : AF := ⟨3, 17, [.t 6],
 (.seq (.reg [(Im 3 (.box (.t 0))),
 (Iq 6 (.mv (.c (.int .i64 0))))])
 (.seq (.seq (.reg [(Iq 8 (.ld true 1 (.t 3))),
 (Iq 9 (.mv (.t 1))),
 (Ic 10 (.call 72 [(.t 8), (.t 9), (.c (.slice none 0 0))])),
 (Iq 7 (.mv (.t 10)))])
 (.seq (.reg [(Iq 11 (.mv (.t 7))),
 (Iq 12 (.bin .neq (.t 11) (.c (.int .i64 0))))])
 (.cond (.t 12)
 (.seq (.reg [(Iq 13 (.mv (.t 7))),
 (Iq 6 (.mv (.t 13)))])
 .ret)
 .skip)))
 (.seq (.seq (.reg [(Iq 14 (.mv (.t 2))),
 (Ic 15 (.call 102 [(.t 14)])),
 (Iq 16 (.un .not (.t 15)))])
 (.cond (.t 16)
 (.seq (.reg [(Iq 6 (.mv (.c (.int .i64 2))))])
 .ret)
 .skip))
 (.seq (.reg [(Iq 6 (.mv (.c (.int .i64 0))))])
 .ret))))⟩
theorem l_impl_coverCode : lowF PA f_impl_coverCode 3 [] = some c_impl_coverCode := by kernel_rfl
abbrev f_impl_isPerfect : FuncId := 69
def c_impl_isPerfect : AF := ⟨3, 13, [.t 6],
 (.seq (.reg [(Im 3 (.box (.t 0))),
 (Iq 6 (.mv (.c (.bool false))))])
 (.seq (.reg [(Iq 7 (.ld true 1 (.t 3))),
 (Iq 8 (.mv (.t 1))),
 (Iq 9 (.mv (.t 2))),
 (Ic 10 (.call 103 [(.t 7), (.t 8), (.t 9)])),
 (Ic 11 (.call 37 [(.t 10), (.f 104)])),
 (Iq 12 (.un .not (.t 11))),
 (Iq 6 (.mv (.t 12)))])
 .ret))⟩
theorem l_impl_isPerfect : lowF PA f_impl_isPerfect 3 [] = some c_impl_isPerfect := by kernel_rfl
abbrev f_impl_IsSpace : FuncId := 70
def c_impl_IsSpace : AF := ⟨1, 35, [.t 2],
 (.seq (.reg [(Im 1 (.box (.t 0))),
 (Iq 2 (.mv (.c (.bool false))))])
 (.seq (.seq (.reg [(Iq 6 (.fad 0 (.t 1))),
 (Iq 7 (.ld false 1 (.t 6))),
 (Iq 8 (.len (.t 7))),
 (Iq 9 (.bin .lss (.t 8) (.c (.int .i64 1)))),
 (Iq 10 (.mv (.t 9))),
 ⟨(some 11), (some (10, false)), .q (.fad 0 (.t 1))⟩,
 ⟨(some 12), (some (10, false)), .q (.ld false 1 (.t 11))⟩,
 ⟨(some 13), (some (10, false)), .q (.len (.t 12))⟩,
 ⟨(some 14), (some (10, false)), .q (.bin .gtr (.t 13) (.c (.int .i64 8)))⟩,
 (Iq 15 (.pick (.t 10) (.c (.bool true)) (.t 14)))])
 (.cond (.t 15)
 (.seq (.reg [(Iq 2 (.mv (.c (.bool false))))])
 .ret)
 .skip))
 (.seq (.reg [(Iq 3 (.mv (.c (.int .i64 1))))])
 (.seq (.seq (.reg [(Iq 16 (.fad 0 (.t 1))),
 (Iq 17 (.ld false 1 (.t 16))),
 (Iq 18 (.len (.t 17))),
 (Iq 19 (.mv (.c (.int .i64 0))))])
 (.block 0 (.loop [3, 17, 18, 19] (.seq (.reg [(Iq 20 (.bin .lss (.t 19) (.t 18)))])
 (.seq (.cond (.t 20)
 .skip
 (.exit 0))
 (.seq (.block 1 (.seq (.reg [(Iq 21 (.ixs 1 (.t 17) (.t 19))),
 (Iq 22 (.ld false 1 (.t 21))),
 (Iq 5 (.mv (.t 22)))])
 (.seq (.seq (.reg [(Iq 23 (.mv (.t 5))),
 (Iq 24 (.bin .lss (.t 23) (.c (.int .i64 2)))),
 (Iq 25 (.mv (.t 24))),
 ⟨(some 26), (some (25, false)), .q (.mv (.t 5))⟩,
 ⟨(some 27), (some (25, false)), .q (.bin .gtr (.t 26) (.c (.int .i64 4)))⟩,
 (Iq 28 (.pick (.t 25) (.c (.bool true)) (.t 27)))])
 (.cond (.t 28)
 (.seq (.reg [(Iq 2 (.mv (.c (.bool false))))])
 .ret)
 .skip))
 (.reg [(Iq 29 (.mv (.t 3))),
 (Iq 30 (.mv (.t 5))),
 (Iq 31 (.bin .mul (.t 29) (.t 30))),
 (Iq 3 (.mv (.t 31)))]))))
 (.reg [(Iq 32 (.bin .add (.t 19) (.c (.int .i64 1)))),
 (Iq 19 (.mv (.t 32)))])))))))
 (.seq (.reg [(Iq 33 (.mv (.t 3))),
 (Iq 34 (.bin .leq (.t 33) (.c (.int .i64 1024)))),
 (Iq 2 (.mv (.t 34)))])
 .ret)))))⟩
theorem l_impl_IsSpace : lowF PA f_impl_IsSpace 1 [.k [3, 17, 18, 19]] = some c_impl_IsSpace := by kernel_rfl
abbrev f_spec_l06With : FuncId := 71
def c_spec_l06With : AF := ⟨1, 48, [.c 2 true 1, .t 3, .t 4],
 (.seq (.reg [(Im 2 (.alloc [(.v (.slice none 0 0))])),
 (Iq 3 (.mv (.c (.slice none 0 0)))),
 (Iq 4 (.mv (.c (.int .i64 0))))])
 (.seq (.reg [(Iq 9 (.mv (.t 0))),
 (Ic 10 (.call 45 [(.t 9)])),
 (Iq 5 (.mv (.t 10)))])
 (.seq (.reg [(Iq 12 (.mv (.t 5))),
 (Ic 13 (.call 92 [(.t 12)])),
 (Iq 11 (.mv (.t 13))),
 (Iq 14 (.ext (.t 11) 0)),
 (Iq 15 (.ext (.t 11) 1)),
 (Iq 16 (.ext (.t 11) 2)),
 (Im 6 (.alloc [(.v (.slice none 0 0))])),
 ⟨none, none, .m (.st true 1 (.t 6) (.t 14))⟩,
 (Iq 7 (.mv (.t 15))),
 (Iq 8 (.mv (.t 16)))])
 (.seq (.seq (.reg [(Iq 17 (.mv (.t 5))),
 (Ic 18 (.call 46 [(.t 17), (.c (.int .i64 2))])),
 (Iq 19 (.bin .eql (.t 18) (.c (.int .i64 0))))])
 (.cond (.t 19)
 (.sch (.take 0 (Iq 20 (.ld true 1 (.t 6))) (.take 1 (Iq 21 (.mv (.t 7))) (.take 2 (Iq 22 (.mv (.t 5))) (.take 3 (Iq 23 (.ld true 1 (.t 6))) (.one (Ic 24 (.call 41 [(.t 23)])) [3] (.one (Ic 25 (.call 46 [(.t 22), (.t 24)])) [] (.one (Ic 26 (.call 43 [(.t 20), (.t 21), (.t 25)])) [0] (.take 7 (Iq 7 (.mv (.t 26))) .done)))))))))
 .skip))
 (.seq (.seq (.reg [(Iq 27 (.mv (.t 5))),
 (Ic 28 (.call 46 [(.t 27), (.c (.int .i64 8))]))])
 (.block 0 (.seq (.reg [(Iq 30 (.bin .eql (.t 28) (.c (.int .i64 0)))),
 (Iq 29 (.mv (.t 30)))])
 (.cond (.t 29)
 (.reg [(Iq 31 (.mv (.t 5))),
 (Ic 32 (.call 79 [(.t 31), (.c (.int .i64 8))])),
 (Iq 8 (.mv (.t 32)))])
 (.seq (.reg [(Iq 34 (.bin .eql (.t 28) (.c (.int .i64 1)))),
 (Iq 33 (.mv (.t 34)))])
 (.cond (.t 33)
 (.seq (.reg [(Iq 35 (.mv (.t 5))),
 (Ic 36 (.call 105 [(.t 35)])),
 ⟨none, none, .m (.st true 1 (.t 6) (.t 36))⟩])
 (.reg [(Iq 37 (.mv (.t 5))),
 (Iq 38 (.ld true 1 (.t 6))),
 (Ic 39 (.call 106 [(.t 37), (.t 38)])),
 (Iq 7 (.mv (.t 39)))]))
 .skip))))))
 (.seq (.sch (.take 0 (Iq 40 (.mv (.t 5))) (.take 1 (Iq 41 (.ld true 1 (.t 6))) (.take 3 (Iq 43 (.mv (.t 5))) (.take 4 (Iq 44 (.ld true 1 (.t 6))) (.take 5 (Iq 45 (.mv (.t 7))) (.take 7 (Iq 47 (.mv (.t 8))) (.one (Ic 42 (.call 81 [(.t 40), (.t 41)])) [1] (.one (Ic 46 (.call 93 [(.t 43), (.t 44), (.t 45)])) [4] (.one ⟨none, none, .m (.st true 1 (.t 2) (.t 42))⟩ [1] (.take 9 (Iq 3 (.mv (.t 46))) (.take 10 (Iq 4 (.mv (.t 47))) .done))))))))))))
 .ret))))))⟩
theorem l_spec_l06With : lowF PA f_spec_l06With 1 [.s (.take 0 (.take 1 (.take 2 (.take 3 (.one 4 (.one 5 (.one 6 (.take 7 .done)))))))), .s (.take 0 (.take 1 (.take 3 (.take 4 (.take 5 (.take 7 (.one 2 (.one 6 (.one 8 (.take 9 (.take 10 .done)))))))))))] = some c_spec_l06With := by kernel_rfl
abbrev f_impl_codeCode : FuncId := 72
def c_impl_codeCode : AF := ⟨3, 18, [.t 6],
 (.seq (.reg [(Im 3 (.box (.t 0))),
 (Iq 6 (.mv (.c (.int .i64 0))))])
 (.seq (.seq (.reg [(Iq 8 (.ld true 1 (.t 3))),
 (Iq 9 (.mv (.t 2))),
 (Ic 10 (.call 107 [(.t 8), (.t 9)])),
 (Iq 7 (.mv (.t 10)))])
 (.seq (.reg [(Iq 11 (.mv (.t 7))),
 (Iq 12 (.bin .neq (.t 11) (.c (.int .i64 0))))])
 (.cond (.t 12)
 (.seq (.reg [(Iq 13 (.mv (.t 7))),
 (Iq 6 (.mv (.t 13)))])
 .ret)
 .skip)))
 (.seq (.seq (.reg [(Iq 14 (.ld true 1 (.t 3))),
 (Iq 15 (.mv (.t 1))),
 (Ic 16 (.call 108 [(.t 14), (.t 15)])),
 (Iq 17 (.un .not (.t 16)))])
 (.cond (.t 17)
 (.seq (.reg [(Iq 6 (.mv (.c (.int .i64 2))))])
 .ret)
 .skip))
 (.seq (.reg [(Iq 6 (.mv (.c (.int .i64 0))))])
 .ret))))⟩
theorem l_impl_codeCode : lowF PA f_impl_codeCode 3 [] = some c_impl_codeCode := by kernel_rfl
abbrev f_slices_Sort___int64_int64_ : FuncId := 73
def c_slices_Sort___int64_int64_ : AF := ⟨1, 11, [],
 (.seq (.reg [(Iq 3 (.mv (.t 0))),
 (Iq 4 (.len (.t 3))),
 (Iq 2 (.mv (.t 4)))])
 (.reg [(Iq 5 (.mv (.t 0))),
 (Iq 6 (.mv (.t 2))),
 (Iq 7 (.mv (.t 2))),
 (Iq 8 (.cvt .u64 (.t 7))),
 (Ic 9 (.call 110 [(.t 8)])),
 (Ic 10 (.call 109 [(.t 5), (.c (.int .i64 0)), (.t 6), (.t 9)]))]))⟩
theorem l_slices_Sort___int64_int64_ : lowF PA f_slices_Sort___int64_int64_ 1 [] = some c_slices_Sort___int64_int64_ := by kernel_rfl
abbrev f_slices_Compact___int64_int64_ : FuncId := 74
def c_slices_Compact___int64_int64_ : AF := ⟨1, 61, [.t 2],
 (.seq (.reg [(Iq 2 (.mv (.c (.slice none 0 0))))])
 (.seq (.seq (.reg [(Iq 6 (.mv (.t 0))),
 (Iq 7 (.len (.t 6))),
 (Iq 8 (.bin .lss (.t 7) (.c (.int .i64 2))))])
 (.cond (.t 8)
 (.seq (.reg [(Iq 9 (.mv (.t 0))),
 (Iq 2 (.mv (.t 9)))])
 .ret)
 .skip))
 (.seq (.seq (.reg [(Iq 3 (.mv (.c (.int .i64 1))))])
 (.block 0 (.loop [0, 3, 61] (.seq (.seq (.reg [(Iq 10 (.mv (.t 3))),
 (Iq 11 (.mv (.t 0))),
 (Iq 12 (.len (.t 11))),
 (Iq 13 (.bin .lss (.t 10) (.t 12)))])
 (.cond (.t 13)
 .skip
 (.exit 0)))
 (.seq (.block 1 (.seq (.sch (.take 0 (Iq 16 (.mv (.t 0))) (.take 1 (Iq 17 (.mv (.t 3))) (.take 2 (Iq 18 (.ixs 1 (.t 16) (.t 17))) (.take 3 (Iq 19 (.ld false 1 (.t 18))) (.take 4 (Iq 20 (.mv (.t 0))) (.take 5 (Iq 21 (.mv (.t 3))) (.take 6 (Iq 22 (.bin .sub (.t 21) (.c (.int .i64 1)))) (.take 7 (Iq 23 (.ixs 1 (.t 20) (.t 22))) (.take 8 (Iq 24 (.ld false 1 (.t 23))) (.take 9 (Iq 25 (.bin .eql (.t 19) (.t 24))) .done)))))))))))
 (.cond (.t 25)
 (.seq (.reg [(Iq 26 (.mv (.t 0))),
 (Iq 27 (.mv (.t 3))),
 (Iq 28 (.slc 1 (.t 26) (some (.t 27)) none)),
 (Iq 4 (.mv (.t 28)))])
 (.seq (.seq (.reg [(Iq 5 (.mv (.c (.int .i64 1))))])
 (.block 2 (.loop [0, 3, 4, 5, 61] (.seq (.seq (.reg [(Iq 29 (.mv (.t 5))),
 (Iq 30 (.mv (.t 4))),
 (Iq 31 (.len (.t 30))),
 (Iq 32 (.bin .lss (.t 29) (.t 31)))])
 (.cond (.t 32)
 .skip
 (.exit 2)))
 (.seq (.block 3 (.seq (.sch (.take 0 (Iq 35 (.mv (.t 4))) (.take 1 (Iq 36 (.mv (.t 5))) (.take 2 (Iq 37 (.ixs 1 (.t 35) (.t 36))) (.take 3 (Iq 38 (.ld false 1 (.t 37))) (.take 4 (Iq 39 (.mv (.t 4))) (.take 5 (Iq 40 (.mv (.t 5))) (.take 6 (Iq 41 (.bin .sub (.t 40) (.c (.int .i64 1)))) (.take 7 (Iq 42 (.ixs 1 (.t 39) (.t 41))) (.take 8 (Iq 43 (.ld false 1 (.t 42))) (.take 9 (Iq 44 (.bin .neq (.t 38) (.t 43))) .done)))))))))))
 (.cond (.t 44)
 (.seq (.reg [(Iq 45 (.mv (.t 0))),
 (Iq 46 (.mv (.t 3))),
 (Iq 47 (.mv (.t 4))),
 (Iq 48 (.mv (.t 5))),
 (Iq 49 (.ixs 1 (.t 47) (.t 48))),
 (Iq 50 (.ld false 1 (.t 49))),
 (Iq 51 (.ixs 1 (.t 45) (.t 46))),
 ⟨none, none, .m (.st false 1 (.t 51) (.t 50))⟩])
 (.reg [(Iq 52 (.mv (.t 3))),
 (Iq 53 (.bin .add (.t 52) (.c (.int .i64 1)))),
 (Iq 3 (.mv (.t 53)))]))
 .skip)))
 (.reg [(Iq 33 (.mv (.t 5))),
 (Iq 34 (.bin .add (.t 33) (.c (.int .i64 1)))),
 (Iq 5 (.mv (.t 34)))]))))))
 (.seq (.reg [(Iq 54 (.mv (.t 0))),
 (Iq 55 (.mv (.t 3))),
 (Iq 56 (.slc 1 (.t 54) (some (.t 55)) none)),
 ⟨none, none, .m (.clr 1 (.v (.int .i64 0)) (.t 56))⟩])
 (.seq (.reg [(Iq 57 (.mv (.t 0))),
 (Iq 58 (.mv (.t 3))),
 (Iq 59 (.slc 1 (.t 57) none (some (.t 58)))),
 (Iq 2 (.mv (.t 59)))])
 .ret))))
 .skip)))
 (.reg [(Iq 14 (.mv (.t 3))),
 (Iq 15 (.bin .add (.t 14) (.c (.int .i64 1)))),
 (Iq 3 (.mv (.t 15)))]))))))
 (.seq (.reg [(Iq 60 (.mv (.t 0))),
 (Iq 2 (.mv (.t 60)))])
 .ret))))⟩
theorem l_slices_Compact___int64_int64_ : lowF PA f_slices_Compact___int64_int64_ 1 [.k [0, 3, 61], .s (.take 0 (.take 1 (.take 2 (.take 3 (.take 4 (.take 5 (.take 6 (.take 7 (.take 8 (.take 9 .done)))))))))), .k [0, 3, 4, 5, 61], .s (.take 0 (.take 1 (.take 2 (.take 3 (.take 4 (.take 5 (.take 6 (.take 7 (.take 8 (.take 9 .done))))))))))] = some c_slices_Compact___int64_int64_ := by kernel_rfl
abbrev f_impl_shifted_1 : FuncId := 75
def c_impl_shifted_1 : AF := ⟨3, 13, [.t 4],
 (.seq (.reg [(Iq 4 (.mv (.c (.int .i64 0))))])
 (.seq (.sch (.take 0 (Iq 5 (.ld true 1 (.t 1))) (.take 1 (Iq 6 (.ld true 1 (.t 1))) (.take 2 (Iq 7 (.ld true 1 (.t 1))) (.take 3 (Iq 8 (.mv (.t 0))) (.take 5 (Iq 10 (.ld true 8 (.t 2))) (.one (Ic 9 (.call 33 [(.t 7), (.t 8)])) [2] (.one (Ic 11 (.call 32 [(.t 6), (.t 9), (.t 10)])) [5, 1] (.one (Ic 12 (.call 31 [(.t 5), (.t 11)])) [0] (.take 8 (Iq 4 (.mv (.t 12))) .done))))))))))
 .ret))⟩
theorem l_impl_shifted_1 : lowF PA f_impl_shifted_1 3 [.s (.take 0 (.take 1 (.take 2 (.take 3 (.take 5 (.one 4 (.one 6 (.one 7 (.take 8 .done)))))))))] = some c_impl_shifted_1 := by kernel_rfl
abbrev f_spec_l01Given : FuncId := 76
def c_spec_l01Given : AF := ⟨2, 14, [.t 4],
 (.seq (.reg [(Im 2 (.box (.t 0))),
 (Iq 4 (.mv (.c (.int .i64 0))))])
 (.seq (.block 0 (.seq (.reg [(Iq 6 (.ld true 1 (.t 2))),
 (Ic 7 (.call 111 [(.t 6)])),
 (Iq 8 (.un .not (.t 7))),
 (Iq 5 (.mv (.t 8)))])
 (.cond (.t 5)
 (.seq (.reg [(Iq 4 (.mv (.c (.int .i64 1))))])
 .ret)
 (.seq (.reg [(Iq 10 (.ld true 1 (.t 2))),
 (Iq 11 (.mv (.t 1))),
 (Ic 12 (.call 112 [(.t 10), (.t 11)])),
 (Iq 13 (.un .not (.t 12))),
 (Iq 9 (.mv (.t 13)))])
 (.cond (.t 9)
 (.seq (.reg [(Iq 4 (.mv (.c (.int .i64 2))))])
 .ret)
 .skip)))))
 (.seq (.reg [(Iq 4 (.mv (.c (.int .i64 0))))])
 .ret)))⟩
theorem l_spec_l01Given : lowF PA f_spec_l01Given 2 [] = some c_spec_l01Given := by kernel_rfl
abbrev f_spec_l01Sum : FuncId := 77
def c_spec_l01Sum : AF := ⟨3, 43, [.t 6],
 (.seq (.reg [(Im 3 (.box (.t 0))),
 (Iq 6 (.mv (.c (.int .i64 0))))])
 (.seq (.sch (.take 0 (Iq 10 (.ld true 1 (.t 3))) (.take 1 (Iq 11 (.mv (.t 1))) (.take 3 (Iq 13 (.ld true 1 (.t 3))) (.take 4 (Iq 14 (.mv (.t 2))) (.one (Ic 12 (.call 65 [(.t 10), (.t 11)])) [0] (.one (Ic 15 (.call 65 [(.t 13), (.t 14)])) [3] (.take 6 (Iq 7 (.mv (.t 12))) (.take 7 (Iq 8 (.mv (.t 15))) .done)))))))))
 (.seq (.seq (.reg [(Iq 16 (.mv (.t 7))),
 (Iq 17 (.len (.t 16))),
 (Iq 18 (.mv (.c (.int .i64 0))))])
 (.block 0 (.loop [3, 7, 8, 17, 18] (.seq (.reg [(Iq 19 (.bin .lss (.t 18) (.t 17)))])
 (.seq (.cond (.t 19)
 .skip
 (.exit 0))
 (.seq (.block 1 (.seq (.reg [(Iq 20 (.mv (.t 18))),
 (Iq 9 (.mv (.t 20)))])
 (.sch (.take 0 (Iq 21 (.mv (.t 7))) (.take 1 (Iq 22 (.mv (.t 9))) (.take 2 (Iq 23 (.mv (.t 7))) (.take 3 (Iq 24 (.mv (.t 9))) (.take 4 (Iq 25 (.ixs 1 (.t 23) (.t 24))) (.take 5 (Iq 26 (.ld false 1 (.t 25))) (.take 6 (Iq 27 (.mv (.t 8))) (.take 7 (Iq 28 (.mv (.t 9))) (.take 8 (Iq 29 (.ixs 1 (.t 27) (.t 28))) (.take 9 (Iq 30 (.ld false 1 (.t 29))) (.take 10 (Iq 31 (.bin .add (.t 26) (.t 30))) (.take 11 (Iq 32 (.fad 0 (.t 3))) (.take 12 (Iq 33 (.ld false 1 (.t 32))) (.take 13 (Iq 34 (.mv (.t 9))) (.take 14 (Iq 35 (.ixs 1 (.t 33) (.t 34))) (.take 15 (Iq 36 (.ld false 1 (.t 35))) (.take 16 (Iq 37 (.bin .rem (.t 31) (.t 36))) (.take 17 (Iq 38 (.ixs 1 (.t 21) (.t 22))) (.one ⟨none, none, .m (.st false 1 (.t 38) (.t 37))⟩ [15, 12, 9, 5] .done))))))))))))))))))))))
 (.reg [(Iq 39 (.bin .add (.t 18) (.c (.int .i64 1)))),
 (Iq 18 (.mv (.t 39)))])))))))
 (.seq (.reg [(Iq 40 (.ld true 1 (.t 3))),
 (Iq 41 (.mv (.t 7))),
 (Ic 42 (.call 66 [(.t 40), (.t 41)])),
 (Iq 6 (.mv (.t 42)))])
 .ret))))⟩
theorem l_spec_l01Sum : lowF PA f_spec_l01Sum 3 [.s (.take 0 (.take 1 (.take 3 (.take 4 (.one 2 (.one 5 (.take 6 (.take 7 .done)))))))), .k [3, 7, 8, 17, 18], .s (.take 0 (.take 1 (.take 2 (.take 3 (.take 4 (.take 5 (.take 6 (.take 7 (.take 8 (.take 9 (.take 10 (.take 11 (.take 12 (.take 13 (.take 14 (.take 15 (.take 16 (.take 17 (.one 18 .done)))))))))))))))))))] = some c_spec_l01Sum := by kernel_rfl
abbrev f_spec_l01Own : FuncId := 78
def c_spec_l01Own : AF := ⟨1, 6, [.t 2],
 (.seq (.reg [(Iq 2 (.mv (.c (.slice none 0 0))))])
 (.seq (.reg [(Im 3 (.bsl 1 [])),
 (Iq 4 (.mv (.t 0))),
 (Im 5 (.app 1 8 (.t 3) (.t 4))),
 (Iq 2 (.mv (.t 5)))])
 .ret))⟩
theorem l_spec_l01Own : lowF PA f_spec_l01Own 1 [] = some c_spec_l01Own := by kernel_rfl
abbrev f_spec_l01Near : FuncId := 79
def c_spec_l01Near : AF := ⟨2, 17, [.t 4],
 (.seq (.reg [(Iq 4 (.mv (.c (.int .i64 0))))])
 (.seq (.seq (.reg [(Iq 5 (.mv (.t 0))),
 (Ic 6 (.call 46 [(.t 5), (.c (.int .i64 14))])),
 (Iq 7 (.bin .eql (.t 6) (.c (.int .i64 0))))])
 (.cond (.t 7)
 (.seq (.reg [(Iq 8 (.mv (.t 0))),
 (Iq 9 (.mv (.t 1))),
 (Iq 10 (.bin .add (.t 9) (.c (.int .i64 1)))),
 (Im 11 (.bsl 1 [(.c (.int .i64 (-1))), (.t 10), (.c (.int .i64 1099511627776)), (.c (.int .i64 (-4611686018427387904)))])),
 (Ic 12 (.call 47 [(.t 8), (.t 11)])),
 (Iq 4 (.mv (.t 12)))])
 .ret)
 .skip))
 (.seq (.reg [(Iq 13 (.mv (.t 0))),
 (Iq 14 (.mv (.t 1))),
 (Iq 15 (.bin .add (.t 14) (.c (.int .i64 1)))),
 (Ic 16 (.call 46 [(.t 13), (.t 15)])),
 (Iq 4 (.mv (.t 16)))])
 .ret)))⟩
theorem l_spec_l01Near : lowF PA f_spec_l01Near 2 [] = some c_spec_l01Near := by kernel_rfl
abbrev f_spec_l01Draw : FuncId := 80
def c_spec_l01Draw : AF := ⟨1, 8, [.c 2 true 1],
 (.seq (.reg [(Im 2 (.alloc [(.v (.slice none 0 0))]))])
 (.seq (.reg [(Iq 3 (.mv (.t 0))),
 (Iq 4 (.mv (.t 0))),
 (Im 5 (.bsl 1 [(.c (.int .i64 16)), (.c (.int .i64 81)), (.c (.int .i64 256)), (.c (.int .i64 256))])),
 (Ic 6 (.call 47 [(.t 4), (.t 5)])),
 (Ic 7 (.call 113 [(.t 3), (.t 6)])),
 ⟨none, none, .m (.st true 1 (.t 2) (.t 7))⟩])
 .ret))⟩
theorem l_spec_l01Draw : lowF PA f_spec_l01Draw 1 [] = some c_spec_l01Draw := by kernel_rfl
abbrev f_spec_l01Bad : FuncId := 81
def c_spec_l01Bad : AF := ⟨2, 42, [.c 4 true 1],
 (.seq (.reg [(Im 3 (.box (.t 1))),
 (Im 4 (.alloc [(.v (.slice none 0 0))]))])
 (.seq (.reg [(Iq 6 (.fad 0 (.t 3))),
 (Iq 7 (.ld false 1 (.t 6))),
 (Ic 8 (.call 78 [(.t 7)])),
 (Iq 9 (.bld [(.v (.slice none 0 0))] [(0, (.t 8))])),
 (Im 5 (.alloc [(.v (.slice none 0 0))])),
 ⟨none, none, .m (.st true 1 (.t 5) (.t 9))⟩])
 (.seq (.seq (.reg [(Iq 10 (.mv (.t 0))),
 (Ic 11 (.call 46 [(.t 10), (.c (.int .i64 50))]))])
 (.block 0 (.seq (.reg [(Iq 13 (.bin .eql (.t 11) (.c (.int .i64 0)))),
 (Iq 12 (.mv (.t 13)))])
 (.cond (.t 12)
 (.seq (.reg [(Iq 14 (.bld [(.v (.slice none 0 0))] [])),
 ⟨none, none, .m (.st true 1 (.t 4) (.t 14))⟩])
 .ret)
 (.seq (.reg [(Iq 16 (.bin .eql (.t 11) (.c (.int .i64 1)))),
 (Iq 15 (.mv (.t 16)))])
 (.cond (.t 15)
 (.seq (.sch (.take 0 (Iq 17 (.fad 0 (.t 5))) (.take 1 (Iq 18 (.ld false 1 (.t 17))) (.take 2 (Iq 19 (.mv (.t 0))) (.take 3 (Iq 20 (.fad 0 (.t 5))) (.take 4 (Iq 21 (.ld false 1 (.t 20))) (.take 5 (Iq 22 (.len (.t 21))) (.take 7 (Iq 24 (.mv (.t 0))) (.two (Ic 23 (.call 46 [(.t 19), (.t 22)])) [] (.one (Im 25 (.bsl 1 [(.c (.int .i64 1)), (.c (.int .i64 5)), (.c (.int .i64 0)), (.c (.int .i64 (-1))), (.c (.int .i64 1099511627776))])) [] (.one (Ic 26 (.call 47 [(.t 24), (.t 25)])) [] (.take 10 (Iq 27 (.ixs 1 (.t 18) (.t 23))) (.one ⟨none, none, .m (.st false 1 (.t 27) (.t 26))⟩ [4, 1] .done)))) (Im 25 (.bsl 1 [(.c (.int .i64 1)), (.c (.int .i64 5)), (.c (.int .i64 0)), (.c (.int .i64 (-1))), (.c (.int .i64 1099511627776))])) [] (.one (Ic 23 (.call 46 [(.t 19), (.t 22)])) [] (.one (Ic 26 (.call 47 [(.t 24), (.t 25)])) [] (.take 10 (Iq 27 (.ixs 1 (.t 18) (.t 23))) (.one ⟨none, none, .m (.st false 1 (.t 27) (.t 26))⟩ [4, 1] .done)))))))))))))
 (.seq (.reg [(Iq 28 (.ld true 1 (.t 5))),
 ⟨none, none, .m (.st true 1 (.t 4) (.t 28))⟩])
 .ret))
 (.seq (.reg [(Iq 30 (.bin .eql (.t 11) (.c (.int .i64 2)))),
 (Iq 29 (.mv (.t 30)))])
 (.cond (.t 29)
 (.seq (.block 1 (.loop [4, 5, 42] (.seq (.seq (.reg [(Iq 31 (.fad 0 (.t 5))),
 (Iq 32 (.ld false 1 (.t 31))),
 (Iq 33 (.len (.t 32))),
 (Iq 34 (.bin .lss (.t 33) (.c (.int .i64 6))))])
 (.cond (.t 34)
 .skip
 (.exit 1)))
 (.block 2 (.reg [(Iq 35 (.fad 0 (.t 5))),
 (Iq 36 (.ld false 1 (.t 35))),
 (Im 37 (.bsl 1 [(.c (.int .i64 4))])),
 (Im 38 (.app 1 8 (.t 36) (.t 37))),
 (Iq 39 (.fad 0 (.t 5))),
 ⟨none, none, .m (.st false 1 (.t 39) (.t 38))⟩])))))
 (.seq (.reg [(Iq 40 (.ld true 1 (.t 5))),
 ⟨none, none, .m (.st true 1 (.t 4) (.t 40))⟩])
 .ret))
 .skip))))))))
 (.seq (.reg [(Iq 41 (.ld true 1 (.t 3))),
 ⟨none, none, .m (.st true 1 (.t 4) (.t 41))⟩])
 .ret))))⟩
theorem l_spec_l01Bad : lowF PA f_spec_l01Bad 2 [.s (.take 0 (.take 1 (.take 2 (.take 3 (.take 4 (.take 5 (.take 7 (.two 6 (.one 8 (.one 9 (.take 10 (.one 11 .done)))) 8 (.one 6 (.one 9 (.take 10 (.one 11 .done)))))))))))), .k [4, 5, 42]] = some c_spec_l01Bad := by kernel_rfl
abbrev f_impl_ball : FuncId := 82
def c_impl_ball : AF := ⟨3, 14, [.t 6],
 (.seq (.reg [(Im 3 (.box (.t 0))),
 (Im 5 (.box (.t 2))),
 (Iq 6 (.mv (.c (.slice none 0 0))))])
 (.seq (.reg [(Iq 8 (.ld true 1 (.t 3))),
 (Iq 9 (.mv (.t 1))),
 (Ic 10 (.call 33 [(.t 8), (.t 9)])),
 (Im 7 (.alloc [(.v (.int .u8 0)), (.v (.int .u8 0)), (.v (.int .u8 0)), (.v (.int .u8 0)), (.v (.int .u8 0)), (.v (.int .u8 0)), (.v (.int .u8 0)), (.v (.int .u8 0))])),
 ⟨none, none, .m (.st true 8 (.t 7) (.t 10))⟩])
 (.seq (.reg [(Iq 11 (.ld true 1 (.t 3))),
 (Iq 12 (.mkf 115 [(.t 7), (.t 5)])),
 (Ic 13 (.call 114 [(.t 11), (.t 12)])),
 (Iq 6 (.mv (.t 13)))])
 .ret)))⟩
theorem l_impl_ball : lowF PA f_impl_ball 3 [] = some c_impl_ball := by kernel_rfl
abbrev f_impl_perfects_1 : FuncId := 83
def c_impl_perfects_1 : AF := ⟨5, 77, [],
 (.seq (.reg [(Iq 13 (.ld false 1 (.t 0))),
 (Ic 14 (.call 28 [(.t 13), (.c (.bool false))])),
 (Iq 5 (.mv (.t 14)))])
 (.seq (.seq (.reg [(Iq 15 (.mv (.t 5))),
 (Iq 16 (.bin .lss (.t 15) (.c (.int .i64 0))))])
 (.cond (.t 16)
 (.seq (.reg [(Iq 17 (.ld false 1 (.t 1))),
 (Ic 18 (.call 84 [(.t 17)])),
 (Iq 6 (.mv (.t 18)))])
 (.seq (.reg [(Iq 19 (.mv (.t 6))),
 (Ic 20 (.call 73 [(.t 19)]))])
 (.seq (.reg [(Iq 21 (.ld false 1 (.t 2))),
 (Iq 22 (.mv (.t 6))),
 (Ic 23 (.cav (.t 21) [(.t 22)]))])
 .ret)))
 .skip))
 (.seq (.reg [(Iq 24 (.ld false 1 (.t 3))),
 (Iq 25 (.mv (.t 5))),
 (Iq 26 (.ixs 1 (.t 24) (.t 25))),
 (Iq 27 (.ld false 1 (.t 26))),
 (Iq 28 (.len (.t 27))),
 (Iq 29 (.mv (.c (.int .i64 0))))])
 (.block 0 (.loop [0, 1, 3, 4, 27, 28, 29, 77, 78, 79, 80, 81, 82] (.seq (.reg [(Iq 30 (.bin .lss (.t 29) (.t 28)))])
 (.seq (.cond (.t 30)
 .skip
 (.exit 0))
 (.seq (.block 1 (.seq (.reg [(Iq 31 (.ixs 1 (.t 27) (.t 29))),
 (Iq 32 (.ld false 1 (.t 31))),
 (Iq 8 (.mv (.t 32)))])
 (.seq (.seq (.reg [(Iq 33 (.ld false 1 (.t 3))),
 (Iq 34 (.mv (.t 8))),
 (Iq 35 (.ixs 1 (.t 33) (.t 34))),
 (Iq 36 (.ld false 1 (.t 35))),
 (Iq 37 (.mkf 85 [(.t 0)])),
 (Ic 38 (.call 37 [(.t 36), (.t 37)]))])
 (.cond (.t 38)
 (.exit 1)
 .skip))
 (.seq (.seq (.reg [(Iq 39 (.ld false 1 (.t 3))),
 (Iq 40 (.mv (.t 8))),
 (Iq 41 (.ixs 1 (.t 39) (.t 40))),
 (Iq 42 (.ld false 1 (.t 41))),
 (Iq 43 (.len (.t 42))),
 (Iq 44 (.mv (.c (.int .i64 0))))])
 (.block 2 (.loop [0, 1, 3, 4, 8, 27, 28, 29, 42, 43, 44, 77, 78, 79, 80, 81, 82] (.seq (.reg [(Iq 45 (.bin .lss (.t 44) (.t 43)))])
 (.seq (.cond (.t 45)
 .skip
 (.exit 2))
 (.seq (.block 3 (.seq (.reg [(Iq 46 (.ixs 1 (.t 42) (.t 44))),
 (Iq 47 (.ld false 1 (.t 46))),
 (Iq 10 (.mv (.t 47)))])
 (.reg [(Iq 48 (.ld false 1 (.t 0))),
 (Iq 49 (.mv (.t 10))),
 (Iq 50 (.ixs 1 (.t 48) (.t 49))),
 ⟨none, none, .m (.st false 1 (.t 50) (.c (.bool true)))⟩])))
 (.reg [(Iq 51 (.bin .add (.t 44) (.c (.int .i64 1)))),
 (Iq 44 (.mv (.t 51)))])))))))
 (.seq (.reg [(Iq 52 (.ld false 1 (.t 1))),
 (Iq 53 (.mv (.t 8))),
 (Im 54 (.bsl 1 [(.t 53)])),
 (Im 55 (.app 1 8 (.t 52) (.t 54))),
 ⟨none, none, .m (.st false 1 (.t 1) (.t 55))⟩])
 (.seq (.reg [(Iq 56 (.ld false 1 (.t 4))),
 (Ic 57 (.cav (.t 56) []))])
 (.seq (.reg [(Iq 58 (.ld false 1 (.t 1))),
 (Iq 59 (.ld false 1 (.t 1))),
 (Iq 60 (.len (.t 59))),
 (Iq 61 (.bin .sub (.t 60) (.c (.int .i64 1)))),
 (Iq 62 (.slc 1 (.t 58) none (some (.t 61)))),
 ⟨none, none, .m (.st false 1 (.t 1) (.t 62))⟩])
 (.seq (.reg [(Iq 63 (.ld false 1 (.t 3))),
 (Iq 64 (.mv (.t 8))),
 (Iq 65 (.ixs 1 (.t 63) (.t 64))),
 (Iq 66 (.ld false 1 (.t 65))),
 (Iq 67 (.len (.t 66))),
 (Iq 68 (.mv (.c (.int .i64 0))))])
 (.block 4 (.loop [0, 1, 3, 4, 27, 28, 29, 66, 67, 68, 77, 78, 79, 80, 81, 82] (.seq (.reg [(Iq 69 (.bin .lss (.t 68) (.t 67)))])
 (.seq (.cond (.t 69)
 .skip
 (.exit 4))
 (.seq (.block 5 (.seq (.reg [(Iq 70 (.ixs 1 (.t 66) (.t 68))),
 (Iq 71 (.ld false 1 (.t 70))),
 (Iq 12 (.mv (.t 71)))])
 (.reg [(Iq 72 (.ld false 1 (.t 0))),
 (Iq 73 (.mv (.t 12))),
 (Iq 74 (.ixs 1 (.t 72) (.t 73))),
 ⟨none, none, .m (.st false 1 (.t 74) (.c (.bool false)))⟩])))
 (.reg [(Iq 75 (.bin .add (.t 68) (.c (.int .i64 1)))),
 (Iq 68 (.mv (.t 75)))]))))))))))))))
 (.reg [(Iq 76 (.bin .add (.t 29) (.c (.int .i64 1)))),
 (Iq 29 (.mv (.t 76)))])))))))))⟩
theorem l_impl_perfects_1 : lowF PA f_impl_perfects_1 5 [.k [0, 1, 3, 4, 27, 28, 29, 77, 78, 79, 80, 81, 82], .k [0, 1, 3, 4, 8, 27, 28, 29, 42, 43, 44, 77, 78, 79, 80, 81, 82], .k [0, 1, 3, 4, 27, 28, 29, 66, 67, 68, 77, 78, 79, 80, 81, 82]] = some c_impl_perfects_1 := by kernel_rfl
abbrev f_slices_Clone___int64_int64_ : FuncId := 84
def c_slices_Clone___int64_int64_ : AF := ⟨1, 8, [.t 2],
 (.seq (.reg [(Iq 2 (.mv (.c (.slice none 0 0))))])
 (.seq (.seq (.reg [(Iq 3 (.mv (.t 0))),
 (Iq 4 (.isn false (.t 3)))])
 (.cond (.t 4)
 (.seq (.reg [(Iq 2 (.mv (.c (.slice none 0 0))))])
 .ret)
 .skip))
 (.seq (.reg [(Im 5 (.bsl 1 [])),
 (Iq 6 (.mv (.t 0))),
 (Im 7 (.app 1 8 (.t 5) (.t 6))),
 (Iq 2 (.mv (.t 7)))])
 .ret)))⟩
theorem l_slices_Clone___int64_int64_ : lowF PA f_slices_Clone___int64_int64_ 1 [] = some c_slices_Clone___int64_int64_ := by kernel_rfl
abbrev f_impl_perfects_1_1 : FuncId := 85
def c_impl_perfects_1_1 : AF := ⟨2, 8, [.t 3],
 (.seq (.reg [(Iq 3 (.mv (.c (.bool false))))])
 (.seq (.reg [(Iq 4 (.ld false 1 (.t 1))),
 (Iq 5 (.mv (.t 0))),
 (Iq 6 (.ixs 1 (.t 4) (.t 5))),
 (Iq 7 (.ld false 1 (.t 6))),
 (Iq 3 (.mv (.t 7)))])
 .ret))⟩
theorem l_impl_perfects_1_1 : lowF PA f_impl_perfects_1_1 2 [] = some c_impl_perfects_1_1 := by kernel_rfl
abbrev f_cmp_Compare_int64_ : FuncId := 86
def c_cmp_Compare_int64_ : AF := ⟨2, 20, [.t 4],
 (.seq (.reg [(Iq 4 (.mv (.c (.int .i64 0))))])
 (.seq (.reg [(Iq 7 (.mv (.t 0))),
 (Ic 8 (.call 116 [(.t 7)])),
 (Iq 5 (.mv (.t 8)))])
 (.seq (.reg [(Iq 9 (.mv (.t 1))),
 (Ic 10 (.call 116 [(.t 9)])),
 (Iq 6 (.mv (.t 10)))])
 (.seq (.seq (.reg [(Iq 11 (.mv (.t 5)))])
 (.cond (.t 11)
 (.seq (.seq (.reg [(Iq 12 (.mv (.t 6)))])
 (.cond (.t 12)
 (.seq (.reg [(Iq 4 (.mv (.c (.int .i64 0))))])
 .ret)
 .skip))
 (.seq (.reg [(Iq 4 (.mv (.c (.int .i64 (-1)))))])
 .ret))
 .skip))
 (.seq (.seq (.reg [(Iq 13 (.mv (.t 6)))])
 (.cond (.t 13)
 (.seq (.reg [(Iq 4 (.mv (.c (.int .i64 1))))])
 .ret)
 .skip))
 (.seq (.seq (.reg [(Iq 14 (.mv (.t 0))),
 (Iq 15 (.mv (.t 1))),
 (Iq 16 (.bin .lss (.t 14) (.t 15)))])
 (.cond (.t 16)
 (.seq (.reg [(Iq 4 (.mv (.c (.int .i64 (-1)))))])
 .ret)
 .skip))
 (.seq (.seq (.reg [(Iq 17 (.mv (.t 0))),
 (Iq 18 (.mv (.t 1))),
 (Iq 19 (.bin .gtr (.t 17) (.t 18)))])
 (.cond (.t 19)
 (.seq (.reg [(Iq 4 (.mv (.c (.int .i64 1))))])
 .ret)
 .skip))
 (.seq (.reg [(Iq 4 (.mv (.c (.int .i64 0))))])
 .ret))))))))⟩
theorem l_cmp_Compare_int64_ : lowF PA f_cmp_Compare_int64_ 2 [] = some c_cmp_Compare_int64_ := by kernel_rfl
abbrev f_spec_l04Code : FuncId := 87
def c_spec_l04Code : AF := ⟨4, 19, [.t 8],
 (.seq (.reg [(Im 4 (.box (.t 0))),
 (Iq 8 (.mv (.c (.int .i64 0))))])
 (.seq (.block 0 (.seq (.reg [(Iq 10 (.ld true 1 (.t 4))),
 (Ic 11 (.call 111 [(.t 10)])),
 (Iq 12 (.un .not (.t 11))),
 (Iq 9 (.mv (.t 12)))])
 (.cond (.t 9)
 (.seq (.reg [(Iq 8 (.mv (.c (.int .i64 1))))])
 .ret)
 (.seq (.reg [(Iq 14 (.mv (.t 1))),
 (Iq 15 (.mv (.t 2))),
 (Iq 16 (.mv (.t 3))),
 (Ic 17 (.call 49 [(.t 14), (.t 15), (.t 16)])),
 (Iq 18 (.un .not (.t 17))),
 (Iq 13 (.mv (.t 18)))])
 (.cond (.t 13)
 (.seq (.reg [(Iq 8 (.mv (.c (.int .i64 2))))])
 .ret)
 .skip)))))
 (.seq (.reg [(Iq 8 (.mv (.c (.int .i64 0))))])
 .ret)))⟩
theorem l_spec_l04Code : lowF PA f_spec_l04Code 4 [] = some c_spec_l04Code := by kernel_rfl
abbrev f_spec_l01Size : FuncId := 88
def c_spec_l01Size : AF := ⟨2, 68, [.t 4],
 (.seq (.reg [(Im 2 (.box (.t 0))),
 (Iq 4 (.mv (.c (.int .i64 0))))])
 (.seq (.reg [(Iq 10 (.fad 0 (.t 2))),
 (Iq 11 (.ld false 1 (.t 10))),
 (Iq 12 (.len (.t 11))),
 (Iq 13 (.bin .add (.t 12) (.c (.int .i64 1)))),
 (Im 14 (.mks 1 (.v (.int .i64 0)) 8 (.t 13) (.t 13))),
 (Iq 5 (.mv (.t 14)))])
 (.seq (.reg [(Iq 15 (.mv (.t 5))),
 (Iq 16 (.ixs 1 (.t 15) (.c (.int .i64 0)))),
 ⟨none, none, .m (.st false 1 (.t 16) (.c (.int .i64 1)))⟩])
 (.seq (.seq (.reg [(Iq 6 (.mv (.c (.int .i64 0))))])
 (.block 0 (.loop [1, 2, 5, 6] (.seq (.seq (.reg [(Iq 17 (.mv (.t 6))),
 (Iq 18 (.fad 0 (.t 2))),
 (Iq 19 (.ld false 1 (.t 18))),
 (Iq 20 (.len (.t 19))),
 (Iq 21 (.bin .lss (.t 17) (.t 20)))])
 (.cond (.t 21)
 .skip
 (.exit 0)))
 (.seq (.block 1 (.seq (.reg [(Iq 24 (.mv (.t 6))),
 (Iq 25 (.bin .add (.t 24) (.c (.int .i64 1)))),
 (Iq 7 (.mv (.t 25)))])
 (.block 2 (.loop [1, 2, 5, 6, 7] (.seq (.seq (.reg [(Iq 26 (.mv (.t 7))),
 (Iq 27 (.bin .gtr (.t 26) (.c (.int .i64 0))))])
 (.cond (.t 27)
 .skip
 (.exit 2)))
 (.seq (.block 3 (.sch (.take 0 (Iq 30 (.mv (.t 5))) (.take 1 (Iq 31 (.mv (.t 7))) (.take 2 (Iq 32 (.mv (.t 5))) (.take 3 (Iq 33 (.mv (.t 7))) (.take 4 (Iq 34 (.ixs 1 (.t 32) (.t 33))) (.take 5 (Iq 35 (.ld false 1 (.t 34))) (.take 6 (Iq 36 (.mv (.t 5))) (.take 7 (Iq 37 (.mv (.t 7))) (.take 8 (Iq 38 (.bin .sub (.t 37) (.c (.int .i64 1)))) (.take 9 (Iq 39 (.ixs 1 (.t 36) (.t 38))) (.take 10 (Iq 40 (.ld false 1 (.t 39))) (.take 11 (Iq 41 (.fad 0 (.t 2))) (.take 12 (Iq 42 (.ld false 1 (.t 41))) (.take 13 (Iq 43 (.mv (.t 6))) (.take 14 (Iq 44 (.ixs 1 (.t 42) (.t 43))) (.take 15 (Iq 45 (.ld false 1 (.t 44))) (.take 16 (Iq 46 (.bin .sub (.t 45) (.c (.int .i64 1)))) (.take 17 (Iq 47 (.bin .mul (.t 40) (.t 46))) (.take 18 (Iq 48 (.bin .add (.t 35) (.t 47))) (.take 19 (Iq 49 (.ixs 1 (.t 30) (.t 31))) (.one ⟨none, none, .m (.st false 1 (.t 49) (.t 48))⟩ [15, 12, 10, 5] .done)))))))))))))))))))))))
 (.reg [(Iq 28 (.mv (.t 7))),
 (Iq 29 (.bin .sub (.t 28) (.c (.int .i64 1)))),
 (Iq 7 (.mv (.t 29)))])))))))
 (.reg [(Iq 22 (.mv (.t 6))),
 (Iq 23 (.bin .add (.t 22) (.c (.int .i64 1)))),
 (Iq 6 (.mv (.t 23)))]))))))
 (.seq (.reg [(Iq 8 (.mv (.c (.int .i64 0))))])
 (.seq (.seq (.reg [(Iq 9 (.mv (.c (.int .i64 0))))])
 (.block 4 (.loop [1, 5, 8, 9] (.seq (.seq (.reg [(Iq 50 (.mv (.t 9))),
 (Iq 51 (.mv (.t 5))),
 (Iq 52 (.len (.t 51))),
 (Iq 53 (.bin .lss (.t 50) (.t 52))),
 (Iq 54 (.mv (.t 53))),
 ⟨(some 55), (some (54, true)), .q (.mv (.t 9))⟩,
 ⟨(some 56), (some (54, true)), .q (.mv (.t 1))⟩,
 ⟨(some 57), (some (54, true)), .q (.bin .leq (.t 55) (.t 56))⟩,
 (Iq 58 (.pick (.t 54) (.t 57) (.c (.bool false))))])
 (.cond (.t 58)
 .skip
 (.exit 4)))
 (.seq (.block 5 (.reg [(Iq 61 (.mv (.t 8))),
 (Iq 62 (.mv (.t 5))),
 (Iq 63 (.mv (.t 9))),
 (Iq 64 (.ixs 1 (.t 62) (.t 63))),
 (Iq 65 (.ld false 1 (.t 64))),
 (Iq 66 (.bin .add (.t 61) (.t 65))),
 (Iq 8 (.mv (.t 66)))]))
 (.reg [(Iq 59 (.mv (.t 9))),
 (Iq 60 (.bin .add (.t 59) (.c (.int .i64 1)))),
 (Iq 9 (.mv (.t 60)))]))))))
 (.seq (.reg [(Iq 67 (.mv (.t 8))),
 (Iq 4 (.mv (.t 67)))])
 .ret)))))))⟩
theorem l_spec_l01Size : lowF PA f_spec_l01Size 2 [.k [1, 2, 5, 6], .k [1, 2, 5, 6, 7], .s (.take 0 (.take 1 (.take 2 (.take 3 (.take 4 (.take 5 (.take 6 (.take 7 (.take 8 (.take 9 (.take 10 (.take 11 (.take 12 (.take 13 (.take 14 (.take 15 (.take 16 (.take 17 (.take 18 (.take 19 (.one 20 .done))))))))))))))))))))), .k [1, 5, 8, 9]] = some c_spec_l01Size := by kernel_rfl
abbrev f_spec_l01Ball : FuncId := 89
def c_spec_l01Ball : AF := ⟨3, 27, [.t 6],
 (.seq (.reg [(Im 3 (.box (.t 0))),
 (Iq 6 (.mv (.c (.slice none 0 0))))])
 (.seq (.reg [(Im 9 (.bsl 1 [])),
 (Iq 7 (.mv (.t 9)))])
 (.seq (.seq (.reg [(Iq 8 (.mv (.c (.int .i64 0))))])
 (.block 0 (.loop [1, 2, 3, 7, 8] (.seq (.seq (.reg [(Iq 10 (.mv (.t 8))),
 (Iq 11 (.ld true 1 (.t 3))),
 (Ic 12 (.call 41 [(.t 11)])),
 (Iq 13 (.bin .lss (.t 10) (.t 12)))])
 (.cond (.t 13)
 .skip
 (.exit 0)))
 (.seq (.block 1 (.seq (.reg [(Iq 16 (.ld true 1 (.t 3))),
 (Iq 17 (.mv (.t 8))),
 (Iq 18 (.mv (.t 1))),
 (Ic 19 (.call 100 [(.t 16), (.t 17), (.t 18)])),
 (Iq 20 (.mv (.t 2))),
 (Iq 21 (.bin .leq (.t 19) (.t 20)))])
 (.cond (.t 21)
 (.reg [(Iq 22 (.mv (.t 7))),
 (Iq 23 (.mv (.t 8))),
 (Im 24 (.bsl 1 [(.t 23)])),
 (Im 25 (.app 1 8 (.t 22) (.t 24))),
 (Iq 7 (.mv (.t 25)))])
 .skip)))
 (.reg [(Iq 14 (.mv (.t 8))),
 (Iq 15 (.bin .add (.t 14) (.c (.int .i64 1)))),
 (Iq 8 (.mv (.t 15)))]))))))
 (.seq (.reg [(Iq 26 (.mv (.t 7))),
 (Iq 6 (.mv (.t 26)))])
 .ret))))⟩
theorem l_spec_l01Ball : lowF PA f_spec_l01Ball 3 [.k [1, 2, 3, 7, 8]] = some c_spec_l01Ball := by kernel_rfl
abbrev f_spec_l06Search : FuncId := 90
def c_spec_l06Search : AF := ⟨4, 119, [.t 8, .t 9],
 (.seq (.reg [(Im 4 (.box (.t 0))),
 (Iq 8 (.mv (.c (.int .i64 0)))),
 (Iq 9 (.mv (.c (.slice none 0 0))))])
 (.seq (.reg [(Iq 10 (.mv (.c (.int .i64 0))))])
 (.seq (.block 0 (.loop [1, 2, 3, 4, 10] (.seq (.seq (.reg [(Iq 20 (.mv (.t 10))),
 (Iq 21 (.mv (.t 3))),
 (Iq 22 (.len (.t 21))),
 (Iq 23 (.bin .lss (.t 20) (.t 22))),
 (Iq 24 (.mv (.t 23))),
 ⟨(some 25), (some (24, true)), .q (.mv (.t 3))⟩,
 ⟨(some 26), (some (24, true)), .q (.mv (.t 10))⟩,
 ⟨(some 27), (some (24, true)), .q (.ixs 1 (.t 25) (.t 26))⟩,
 ⟨(some 28), (some (24, true)), .q (.ld false 1 (.t 27))⟩,
 (Iq 29 (.pick (.t 24) (.t 28) (.c (.bool false))))])
 (.cond (.t 29)
 .skip
 (.exit 0)))
 (.block 1 (.reg [(Iq 30 (.mv (.t 10))),
 (Iq 31 (.bin .add (.t 30) (.c (.int .i64 1)))),
 (Iq 10 (.mv (.t 31)))])))))
 (.seq (.seq (.reg [(Iq 32 (.mv (.t 10))),
 (Iq 33 (.mv (.t 3))),
 (Iq 34 (.len (.t 33))),
 (Iq 35 (.bin .eql (.t 32) (.t 34)))])
 (.cond (.t 35)
 (.seq (.reg [(Iq 36 (.mv (.t 2))),
 (Iq 8 (.mv (.c (.int .i64 1)))),
 (Iq 9 (.mv (.t 36)))])
 .ret)
 .skip))
 (.seq (.reg [(Im 37 (.bsl 1 [])),
 (Iq 11 (.mv (.c (.int .i64 0)))),
 (Iq 12 (.mv (.t 37)))])
 (.seq (.seq (.reg [(Iq 13 (.mv (.c (.int .i64 0))))])
 (.block 2 (.loop [1, 2, 3, 4, 10, 11, 12, 13] (.seq (.seq (.reg [(Iq 38 (.mv (.t 13))),
 (Iq 39 (.mv (.t 1))),
 (Iq 40 (.mv (.t 10))),
 (Iq 41 (.ixs 1 (.t 39) (.t 40))),
 (Iq 42 (.ld false 1 (.t 41))),
 (Iq 43 (.len (.t 42))),
 (Iq 44 (.bin .lss (.t 38) (.t 43)))])
 (.cond (.t 44)
 .skip
 (.exit 2)))
 (.seq (.block 3 (.seq (.reg [(Iq 47 (.mv (.t 1))),
 (Iq 48 (.mv (.t 10))),
 (Iq 49 (.ixs 1 (.t 47) (.t 48))),
 (Iq 50 (.ld false 1 (.t 49))),
 (Iq 51 (.mv (.t 13))),
 (Iq 52 (.ixs 1 (.t 50) (.t 51))),
 (Iq 53 (.ld false 1 (.t 52))),
 (Iq 14 (.mv (.t 53)))])
 (.seq (.reg [(Im 54 (.bsl 1 [])),
 (Iq 55 (.mv (.t 3))),
 (Im 56 (.app 1 1 (.t 54) (.t 55))),
 (Iq 15 (.mv (.t 56))),
 (Iq 16 (.mv (.c (.bool true))))])
 (.seq (.seq (.reg [(Iq 17 (.mv (.c (.int .i64 0))))])
 (.block 4 (.loop [1, 2, 3, 4, 10, 11, 12, 13, 14, 15, 16, 17] (.seq (.seq (.reg [(Iq 57 (.mv (.t 17))),
 (Iq 58 (.mv (.t 1))),
 (Iq 59 (.mv (.t 14))),
 (Iq 60 (.ixs 1 (.t 58) (.t 59))),
 (Iq 61 (.ld false 1 (.t 60))),
 (Iq 62 (.len (.t 61))),
 (Iq 63 (.bin .lss (.t 57) (.t 62)))])
 (.cond (.t 63)
 .skip
 (.exit 4)))
 (.seq (.block 5 (.seq (.reg [(Iq 66 (.mv (.t 16))),
 (Iq 67 (.mv (.t 66))),
 ⟨(some 68), (some (67, true)), .q (.mv (.t 15))⟩,
 ⟨(some 69), (some (67, true)), .q (.mv (.t 1))⟩,
 ⟨(some 70), (some (67, true)), .q (.mv (.t 14))⟩,
 ⟨(some 71), (some (67, true)), .q (.ixs 1 (.t 69) (.t 70))⟩,
 ⟨(some 72), (some (67, true)), .q (.ld false 1 (.t 71))⟩,
 ⟨(some 73), (some (67, true)), .q (.mv (.t 17))⟩,
 ⟨(some 74), (some (67, true)), .q (.ixs 1 (.t 72) (.t 73))⟩,
 ⟨(some 75), (some (67, true)), .q (.ld false 1 (.t 74))⟩,
 ⟨(some 76), (some (67, true)), .q (.ixs 1 (.t 68) (.t 75))⟩,
 ⟨(some 77), (some (67, true)), .q (.ld false 1 (.t 76))⟩,
 ⟨(some 78), (some (67, true)), .q (.un .not (.t 77))⟩,
 (Iq 79 (.pick (.t 67) (.t 78) (.c (.bool false)))),
 (Iq 16 (.mv (.t 79)))])
 (.reg [(Iq 80 (.mv (.t 15))),
 (Iq 81 (.mv (.t 1))),
 (Iq 82 (.mv (.t 14))),
 (Iq 83 (.ixs 1 (.t 81) (.t 82))),
 (Iq 84 (.ld false 1 (.t 83))),
 (Iq 85 (.mv (.t 17))),
 (Iq 86 (.ixs 1 (.t 84) (.t 85))),
 (Iq 87 (.ld false 1 (.t 86))),
 (Iq 88 (.ixs 1 (.t 80) (.t 87))),
 ⟨none, none, .m (.st false 1 (.t 88) (.c (.bool true)))⟩])))
 (.reg [(Iq 64 (.mv (.t 17))),
 (Iq 65 (.bin .add (.t 64) (.c (.int .i64 1)))),
 (Iq 17 (.mv (.t 65)))]))))))
 (.seq (.seq (.reg [(Iq 89 (.mv (.t 16))),
 (Iq 90 (.un .not (.t 89)))])
 (.cond (.t 90)
 (.exit 3)
 .skip))
 (.seq (.sch (.take 0 (Iq 92 (.ld true 1 (.t 4))) (.take 1 (Iq 93 (.mv (.t 1))) (.take 2 (Iq 94 (.mv (.t 2))) (.take 4 (Iq 96 (.mv (.t 14))) (.take 6 (Iq 98 (.mv (.t 15))) (.one (Ic 95 (.call 78 [(.t 94)])) [] (.one (Ic 97 (.call 67 [(.t 95), (.t 96)])) [] (.one (Ic 99 (.call 90 [(.t 92), (.t 93), (.t 97), (.t 98)])) [0] (.take 8 (Iq 91 (.mv (.t 99))) (.take 9 (Iq 100 (.ext (.t 91) 0)) (.take 10 (Iq 101 (.ext (.t 91) 1)) (.take 11 (Iq 18 (.mv (.t 100))) (.take 12 (Iq 19 (.mv (.t 101))) .done))))))))))))))
 (.seq (.seq (.reg [(Iq 102 (.mv (.t 18))),
 (Iq 103 (.bin .gtr (.t 102) (.c (.int .i64 0)))),
 (Iq 104 (.mv (.t 103))),
 ⟨(some 105), (some (104, true)), .q (.mv (.t 11))⟩,
 ⟨(some 106), (some (104, true)), .q (.bin .eql (.t 105) (.c (.int .i64 0)))⟩,
 ⟨(some 107), (some (104, true)), .q (.mv (.t 106))⟩,
 ⟨(some 108), (some (107, false)), .q (.mv (.t 19))⟩,
 ⟨(some 109), (some (107, false)), .q (.mv (.t 12))⟩,
 ⟨(some 110), (some (107, false)), .c (.call 117 [(.t 108), (.t 109)])⟩,
 ⟨(some 111), (some (104, true)), .q (.pick (.t 107) (.c (.bool true)) (.t 110))⟩,
 (Iq 112 (.pick (.t 104) (.t 111) (.c (.bool false))))])
 (.cond (.t 112)
 (.reg [(Iq 113 (.mv (.t 19))),
 (Iq 12 (.mv (.t 113)))])
 .skip))
 (.reg [(Iq 114 (.mv (.t 11))),
 (Iq 115 (.mv (.t 18))),
 (Iq 116 (.bin .add (.t 114) (.t 115))),
 (Iq 11 (.mv (.t 116)))]))))))))
 (.reg [(Iq 45 (.mv (.t 13))),
 (Iq 46 (.bin .add (.t 45) (.c (.int .i64 1)))),
 (Iq 13 (.mv (.t 46)))]))))))
 (.seq (.reg [(Iq 117 (.mv (.t 11))),
 (Iq 118 (.mv (.t 12))),
 (Iq 8 (.mv (.t 117))),
 (Iq 9 (.mv (.t 118)))])
 .ret)))))))⟩
theorem l_spec_l06Search : lowF PA f_spec_l06Search 4 [.k [1, 2, 3, 4, 10], .k [1, 2, 3, 4, 10, 11, 12, 13], .k [1, 2, 3, 4, 10, 11, 12, 13, 14, 15, 16, 17], .s (.take 0 (.take 1 (.take 2 (.take 4 (.take 6 (.one 3 (.one 5 (.one 7 (.take 8 (.take 9 (.take 10 (.take 11 (.take 12 .done)))))))))))))] = some c_spec_l06Search := by kernel_rfl
abbrev f_spec_l06Hamming : FuncId := 91
def c_spec_l06Hamming : AF := ⟨2, 82, [.c 4 true 1, .t 5],
 (.seq (.reg [(Im 4 (.alloc [(.v (.slice none 0 0))])),
 (Iq 5 (.mv (.c (.slice none 0 0))))])
 (.seq (.reg [(Iq 16 (.mv (.t 0))),
 (Iq 17 (.mv (.t 1))),
 (Ic 18 (.call 118 [(.t 16), (.t 17)])),
 (Im 19 (.bsl 1 [])),
 (Iq 20 (.bld [(.v (.slice none 0 0))] [(0, (.t 19))])),
 (Im 21 (.bsl 1 [])),
 (Im 7 (.alloc [(.v (.slice none 0 0))])),
 (Iq 6 (.mv (.t 18))),
 ⟨none, none, .m (.st true 1 (.t 7) (.t 20))⟩,
 (Iq 8 (.mv (.t 21)))])
 (.seq (.seq (.reg [(Iq 9 (.mv (.c (.int .i64 0))))])
 (.block 0 (.loop [0, 1, 4, 6, 7, 8, 9] (.seq (.seq (.reg [(Iq 22 (.mv (.t 9))),
 (Iq 23 (.mv (.t 6))),
 (Iq 24 (.len (.t 23))),
 (Iq 25 (.bin .lss (.t 22) (.t 24)))])
 (.cond (.t 25)
 .skip
 (.exit 0)))
 (.seq (.block 1 (.reg [(Iq 28 (.fad 0 (.t 7))),
 (Iq 29 (.ld false 1 (.t 28))),
 (Iq 30 (.mv (.t 0))),
 (Im 31 (.bsl 1 [(.t 30)])),
 (Im 32 (.app 1 8 (.t 29) (.t 31))),
 (Iq 33 (.fad 0 (.t 7))),
 ⟨none, none, .m (.st false 1 (.t 33) (.t 32))⟩]))
 (.reg [(Iq 26 (.mv (.t 9))),
 (Iq 27 (.bin .add (.t 26) (.c (.int .i64 1)))),
 (Iq 9 (.mv (.t 27)))]))))))
 (.seq (.seq (.reg [(Iq 10 (.mv (.c (.int .i64 0))))])
 (.block 2 (.loop [0, 1, 4, 6, 7, 8, 10] (.seq (.seq (.reg [(Iq 34 (.mv (.t 10))),
 (Iq 35 (.ld true 1 (.t 7))),
 (Ic 36 (.call 41 [(.t 35)])),
 (Iq 37 (.bin .lss (.t 34) (.t 36)))])
 (.cond (.t 37)
 .skip
 (.exit 2)))
 (.seq (.block 3 (.seq (.reg [(Iq 40 (.ld true 1 (.t 7))),
 (Iq 41 (.mv (.t 10))),
 (Ic 42 (.call 65 [(.t 40), (.t 41)])),
 (Iq 11 (.mv (.t 42))),
 (Iq 12 (.mv (.c (.bool true))))])
 (.seq (.seq (.reg [(Iq 13 (.mv (.c (.int .i64 0))))])
 (.block 4 (.loop [0, 1, 4, 6, 7, 8, 10, 11, 12, 13] (.seq (.seq (.reg [(Iq 43 (.mv (.t 13))),
 (Iq 44 (.mv (.t 1))),
 (Iq 45 (.bin .lss (.t 43) (.t 44)))])
 (.cond (.t 45)
 .skip
 (.exit 4)))
 (.seq (.block 5 (.seq (.reg [(Iq 14 (.mv (.c (.int .i64 0))))])
 (.seq (.seq (.reg [(Iq 15 (.mv (.c (.int .i64 0))))])
 (.block 6 (.loop [0, 1, 4, 6, 7, 8, 10, 11, 12, 13, 14, 15] (.seq (.seq (.reg [(Iq 48 (.mv (.t 15))),
 (Iq 49 (.mv (.t 6))),
 (Iq 50 (.len (.t 49))),
 (Iq 51 (.bin .lss (.t 48) (.t 50)))])
 (.cond (.t 51)
 .skip
 (.exit 6)))
 (.seq (.block 7 (.sch (.take 0 (Iq 54 (.mv (.t 14))) (.take 1 (Iq 55 (.mv (.t 11))) (.take 2 (Iq 56 (.mv (.t 15))) (.take 3 (Iq 57 (.ixs 1 (.t 55) (.t 56))) (.take 4 (Iq 58 (.ld false 1 (.t 57))) (.take 5 (Iq 59 (.mv (.t 6))) (.take 6 (Iq 60 (.mv (.t 15))) (.take 7 (Iq 61 (.ixs 1 (.t 59) (.t 60))) (.take 8 (Iq 62 (.ld false 1 (.t 61))) (.take 9 (Iq 63 (.mv (.t 13))) (.take 10 (Iq 64 (.ixs 1 (.t 62) (.t 63))) (.take 11 (Iq 65 (.ld false 1 (.t 64))) (.take 12 (Iq 66 (.bin .mul (.t 58) (.t 65))) (.take 13 (Iq 67 (.bin .add (.t 54) (.t 66))) (.take 14 (Iq 14 (.mv (.t 67))) .done)))))))))))))))))
 (.reg [(Iq 52 (.mv (.t 15))),
 (Iq 53 (.bin .add (.t 52) (.c (.int .i64 1)))),
 (Iq 15 (.mv (.t 53)))]))))))
 (.reg [(Iq 68 (.mv (.t 12))),
 (Iq 69 (.mv (.t 68))),
 ⟨(some 70), (some (69, true)), .q (.mv (.t 14))⟩,
 ⟨(some 71), (some (69, true)), .q (.mv (.t 0))⟩,
 ⟨(some 72), (some (69, true)), .q (.bin .rem (.t 70) (.t 71))⟩,
 ⟨(some 73), (some (69, true)), .q (.bin .eql (.t 72) (.c (.int .i64 0)))⟩,
 (Iq 74 (.pick (.t 69) (.t 73) (.c (.bool false)))),
 (Iq 12 (.mv (.t 74)))]))))
 (.reg [(Iq 46 (.mv (.t 13))),
 (Iq 47 (.bin .add (.t 46) (.c (.int .i64 1)))),
 (Iq 13 (.mv (.t 47)))]))))))
 (.seq (.reg [(Iq 75 (.mv (.t 12)))])
 (.cond (.t 75)
 (.reg [(Iq 76 (.mv (.t 8))),
 (Iq 77 (.mv (.t 10))),
 (Im 78 (.bsl 1 [(.t 77)])),
 (Im 79 (.app 1 8 (.t 76) (.t 78))),
 (Iq 8 (.mv (.t 79)))])
 .skip)))))
 (.reg [(Iq 38 (.mv (.t 10))),
 (Iq 39 (.bin .add (.t 38) (.c (.int .i64 1)))),
 (Iq 10 (.mv (.t 39)))]))))))
 (.seq (.reg [(Iq 80 (.ld true 1 (.t 7))),
 (Iq 81 (.mv (.t 8))),
 ⟨none, none, .m (.st true 1 (.t 4) (.t 80))⟩,
 (Iq 5 (.mv (.t 81)))])
 .ret)))))⟩
theorem l_spec_l06Hamming : lowF PA f_spec_l06Hamming 2 [.k [0, 1, 4, 6, 7, 8, 9], .k [0, 1, 4, 6, 7, 8, 10], .k [0, 1, 4, 6, 7, 8, 10, 11, 12, 13], .k [0, 1, 4, 6, 7, 8, 10, 11, 12, 13, 14, 15], .s (.take 0 (.take 1 (.take 2 (.take 3 (.take 4 (.take 5 (.take 6 (.take 7 (.take 8 (.take 9 (.take 10 (.take 11 (.take 12 (.take 13 (.take 14 .done)))))))))))))))] = some c_spec_l06Hamming := by kernel_rfl
abbrev f_spec_l06DrawPerfect : FuncId := 92
def c_spec_l06DrawPerfect : AF := ⟨1, 56, [.c 2 true 1, .t 3, .t 4],
 (.seq (.reg [(Im 2 (.alloc [(.v (.slice none 0 0))])),
 (Iq 3 (.mv (.c (.slice none 0 0)))),
 (Iq 4 (.mv (.c (.int .i64 0))))])
 (.seq (.seq (.reg [(Iq 13 (.mv (.t 0))),
 (Ic 14 (.call 46 [(.t 13), (.c (.int .i64 6))]))])
 (.block 0 (.seq (.reg [(Iq 16 (.bin .eql (.t 14) (.c (.int .i64 0)))),
 (Iq 15 (.mv (.t 16)))])
 (.cond (.t 15)
 (.seq (.reg [(Ic 18 (.call 91 [(.c (.int .i64 2)), (.c (.int .i64 3))])),
 (Iq 17 (.mv (.t 18))),
 (Iq 19 (.ext (.t 17) 0)),
 (Iq 20 (.ext (.t 17) 1)),
 (Im 5 (.alloc [(.v (.slice none 0 0))])),
 ⟨none, none, .m (.st true 1 (.t 5) (.t 19))⟩,
 (Iq 6 (.mv (.t 20)))])
 (.seq (.reg [(Iq 21 (.ld true 1 (.t 5))),
 (Iq 22 (.mv (.t 6))),
 ⟨none, none, .m (.st true 1 (.t 2) (.t 21))⟩,
 (Iq 3 (.mv (.t 22))),
 (Iq 4 (.mv (.c (.int .i64 1))))])
 .ret))
 (.seq (.reg [(Iq 24 (.bin .eql (.t 14) (.c (.int .i64 1)))),
 (Iq 23 (.mv (.t 24)))])
 (.cond (.t 23)
 (.seq (.reg [(Ic 26 (.call 91 [(.c (.int .i64 3)), (.c (.int .i64 2))])),
 (Iq 25 (.mv (.t 26))),
 (Iq 27 (.ext (.t 25) 0)),
 (Iq 28 (.ext (.t 25) 1)),
 (Im 7 (.alloc [(.v (.slice none 0 0))])),
 ⟨none, none, .m (.st true 1 (.t 7) (.t 27))⟩,
 (Iq 8 (.mv (.t 28)))])
 (.seq (.reg [(Iq 29 (.ld true 1 (.t 7))),
 (Iq 30 (.mv (.t 8))),
 ⟨none, none, .m (.st true 1 (.t 2) (.t 29))⟩,
 (Iq 3 (.mv (.t 30))),
 (Iq 4 (.mv (.c (.int .i64 1))))])
 .ret))
 (.seq (.reg [(Iq 32 (.bin .eql (.t 14) (.c (.int .i64 2)))),
 (Iq 31 (.mv (.t 32)))])
 (.cond (.t 31)
 (.seq (.reg [(Im 33 (.bsl 1 [(.c (.int .i64 2)), (.c (.int .i64 2)), (.c (.int .i64 2)), (.c (.int .i64 2)), (.c (.int .i64 2))])),
 (Iq 34 (.bld [(.v (.slice none 0 0))] [(0, (.t 33))])),
 (Im 9 (.alloc [(.v (.slice none 0 0))])),
 ⟨none, none, .m (.st true 1 (.t 9) (.t 34))⟩])
 (.seq (.reg [(Iq 35 (.ld true 1 (.t 9))),
 (Im 36 (.bsl 1 [(.c (.int .i64 0)), (.c (.int .i64 31))])),
 ⟨none, none, .m (.st true 1 (.t 2) (.t 35))⟩,
 (Iq 3 (.mv (.t 36))),
 (Iq 4 (.mv (.c (.int .i64 2))))])
 .ret))
 (.seq (.reg [(Iq 38 (.bin .eql (.t 14) (.c (.int .i64 3)))),
 (Iq 37 (.mv (.t 38)))])
 (.cond (.t 37)
 (.seq (.reg [(Iq 39 (.mv (.t 0))),
 (Ic 40 (.call 105 [(.t 39)])),
 (Im 10 (.alloc [(.v (.slice none 0 0))])),
 ⟨none, none, .m (.st true 1 (.t 10) (.t 40))⟩])
 (.seq (.sch (.take 0 (Iq 41 (.ld true 1 (.t 10))) (.take 1 (Iq 42 (.mv (.t 0))) (.take 2 (Iq 43 (.ld true 1 (.t 10))) (.take 6 (Iq 47 (.fad 0 (.t 10))) (.take 7 (Iq 48 (.ld false 1 (.t 47))) (.take 8 (Iq 49 (.len (.t 48))) (.one (Ic 44 (.call 41 [(.t 43)])) [2] (.one (Ic 45 (.call 46 [(.t 42), (.t 44)])) [] (.two (Im 46 (.bsl 1 [(.t 45)])) [] (.one ⟨none, none, .m (.st true 1 (.t 2) (.t 41))⟩ [0] (.take 10 (Iq 3 (.mv (.t 46))) (.take 11 (Iq 4 (.mv (.t 49))) .done))) ⟨none, none, .m (.st true 1 (.t 2) (.t 41))⟩ [0] (.one (Im 46 (.bsl 1 [(.t 45)])) [] (.take 10 (Iq 3 (.mv (.t 46))) (.take 11 (Iq 4 (.mv (.t 49))) .done)))))))))))))
 .ret))
 .skip))))))))))
 (.seq (.reg [(Ic 51 (.call 91 [(.c (.int .i64 2)), (.c (.int .i64 2))])),
 (Iq 50 (.mv (.t 51))),
 (Iq 52 (.ext (.t 50) 0)),
 (Iq 53 (.ext (.t 50) 1)),
 (Im 11 (.alloc [(.v (.slice none 0 0))])),
 ⟨none, none, .m (.st true 1 (.t 11) (.t 52))⟩,
 (Iq 12 (.mv (.t 53)))])
 (.seq (.reg [(Iq 54 (.ld true 1 (.t 11))),
 (Iq 55 (.mv (.t 12))),
 ⟨none, none, .m (.st true 1 (.t 2) (.t 54))⟩,
 (Iq 3 (.mv (.t 55))),
 (Iq 4 (.mv (.c (.int .i64 1))))])
 .ret))))⟩
theorem l_spec_l06DrawPerfect : lowF PA f_spec_l06DrawPerfect 1 [.s (.take 0 (.take 1 (.take 2 (.take 6 (.take 7 (.take 8 (.one 3 (.one 4 (.two 5 (.one 9 (.take 10 (.take 11 .done))) 9 (.one 5 (.take 10 (.take 11 .done))))))))))))] = some c_spec_l06DrawPerfect := by kernel_rfl
abbrev f_spec_l01BadCode : FuncId := 93
def c_spec_l01BadCode : AF := ⟨3, 33, [.t 6],
 (.seq (.reg [(Im 4 (.box (.t 1))),
 (Iq 6 (.mv (.c (.slice none 0 0))))])
 (.seq (.reg [(Iq 8 (.mv (.t 2))),
 (Ic 9 (.call 78 [(.t 8)])),
 (Iq 7 (.mv (.t 9)))])
 (.seq (.seq (.reg [(Iq 10 (.mv (.t 0))),
 (Ic 11 (.call 46 [(.t 10), (.c (.int .i64 30))]))])
 (.block 0 (.seq (.reg [(Iq 13 (.bin .eql (.t 11) (.c (.int .i64 0)))),
 (Iq 12 (.mv (.t 13)))])
 (.cond (.t 12)
 (.seq (.reg [(Iq 14 (.mv (.t 7))),
 (Iq 15 (.mv (.t 0))),
 (Iq 16 (.ld true 1 (.t 4))),
 (Ic 17 (.call 41 [(.t 16)])),
 (Im 18 (.bsl 1 [(.c (.int .i64 (-1))), (.t 17), (.c (.int .i64 0)), (.c (.int .i64 1099511627776))])),
 (Ic 19 (.call 47 [(.t 15), (.t 18)])),
 (Im 20 (.bsl 1 [(.t 19)])),
 (Im 21 (.app 1 8 (.t 14) (.t 20))),
 (Iq 6 (.mv (.t 21)))])
 .ret)
 (.seq (.reg [(Iq 23 (.bin .eql (.t 11) (.c (.int .i64 1)))),
 (Iq 22 (.mv (.t 23)))])
 (.cond (.t 22)
 (.seq (.reg [(Iq 24 (.mv (.t 7))),
 (Iq 25 (.len (.t 24))),
 (Iq 26 (.bin .gtr (.t 25) (.c (.int .i64 1))))])
 (.cond (.t 26)
 (.reg [(Iq 27 (.mv (.t 7))),
 (Iq 28 (.mv (.t 7))),
 (Iq 29 (.ixs 1 (.t 28) (.c (.int .i64 1)))),
 (Iq 30 (.ld false 1 (.t 29))),
 (Iq 31 (.ixs 1 (.t 27) (.c (.int .i64 0)))),
 ⟨none, none, .m (.st false 1 (.t 31) (.t 30))⟩])
 .skip))
 .skip))))))
 (.seq (.reg [(Iq 32 (.mv (.t 7))),
 (Iq 6 (.mv (.t 32)))])
 .ret))))⟩
theorem l_spec_l01BadCode : lowF PA f_spec_l01BadCode 3 [] = some c_spec_l01BadCode := by kernel_rfl
abbrev f_impl_isPlace : FuncId := 94
def c_impl_isPlace : AF := ⟨2, 13, [.t 4],
 (.seq (.reg [(Im 2 (.box (.t 0))),
 (Iq 4 (.mv (.c (.bool false))))])
 (.seq (.reg [(Iq 5 (.mv (.t 1))),
 (Iq 6 (.bin .geq (.t 5) (.c (.int .i64 0)))),
 (Iq 7 (.mv (.t 6))),
 ⟨(some 8), (some (7, true)), .q (.mv (.t 1))⟩,
 ⟨(some 9), (some (7, true)), .q (.ld true 1 (.t 2))⟩,
 ⟨(some 10), (some (7, true)), .c (.call 119 [(.t 9)])⟩,
 ⟨(some 11), (some (7, true)), .q (.bin .lss (.t 8) (.t 10))⟩,
 (Iq 12 (.pick (.t 7) (.t 11) (.c (.bool false)))),
 (Iq 4 (.mv (.t 12)))])
 .ret))⟩
theorem l_impl_isPlace : lowF PA f_impl_isPlace 2 [] = some c_impl_isPlace := by kernel_rfl
abbrev f_slices_Max___int64_int64_ : FuncId := 95
def c_slices_Max___int64_int64_ : AF := ⟨1, 25, [.t 2],
 (.seq (.reg [(Iq 2 (.mv (.c (.int .i64 0))))])
 (.seq (.seq (.reg [(Iq 5 (.mv (.t 0))),
 (Iq 6 (.len (.t 5))),
 (Iq 7 (.bin .lss (.t 6) (.c (.int .i64 1))))])
 (.cond (.t 7)
 .bad
 .skip))
 (.seq (.reg [(Iq 9 (.mv (.t 0))),
 (Iq 10 (.ixs 1 (.t 9) (.c (.int .i64 0)))),
 (Iq 11 (.ld false 1 (.t 10))),
 (Iq 3 (.mv (.t 11)))])
 (.seq (.seq (.reg [(Iq 4 (.mv (.c (.int .i64 1))))])
 (.block 0 (.loop [0, 3, 4] (.seq (.seq (.reg [(Iq 12 (.mv (.t 4))),
 (Iq 13 (.mv (.t 0))),
 (Iq 14 (.len (.t 13))),
 (Iq 15 (.bin .lss (.t 12) (.t 14)))])
 (.cond (.t 15)
 .skip
 (.exit 0)))
 (.seq (.block 1 (.reg [(Iq 18 (.mv (.t 3))),
 (Iq 19 (.mv (.t 0))),
 (Iq 20 (.mv (.t 4))),
 (Iq 21 (.ixs 1 (.t 19) (.t 20))),
 (Iq 22 (.ld false 1 (.t 21))),
 (Iq 23 (.mx (.t 18) (.t 22))),
 (Iq 3 (.mv (.t 23)))]))
 (.reg [(Iq 16 (.mv (.t 4))),
 (Iq 17 (.bin .add (.t 16) (.c (.int .i64 1)))),
 (Iq 4 (.mv (.t 17)))]))))))
 (.seq (.reg [(Iq 24 (.mv (.t 3))),
 (Iq 2 (.mv (.t 24)))])
 .ret)))))⟩
theorem l_slices_Max___int64_int64_ : lowF PA f_slices_Max___int64_int64_ 1 [.x 2, .k [0, 3, 4]] = some c_slices_Max___int64_int64_ := by kernel_rfl
abbrev f_impl_digitsOfAll : FuncId := 96
def c_impl_digitsOfAll : AF := ⟨2, 23, [.t 4],
 (.seq (.reg [(Im 2 (.box (.t 0))),
 (Iq 4 (.mv (.c (.slice none 0 0))))])
 (.seq (.reg [(Im 8 (.bsl 8 [])),
 (Iq 5 (.mv (.t 8)))])
 (.seq (.seq (.reg [(Iq 9 (.mv (.t 1))),
 (Iq 10 (.len (.t 9))),
 (Iq 11 (.mv (.c (.int .i64 0))))])
 (.block 0 (.loop [2, 5, 9, 10, 11] (.seq (.reg [(Iq 12 (.bin .lss (.t 11) (.t 10)))])
 (.seq (.cond (.t 12)
 .skip
 (.exit 0))
 (.seq (.block 1 (.seq (.reg [(Iq 13 (.ixs 1 (.t 9) (.t 11))),
 (Iq 14 (.ld false 1 (.t 13))),
 (Iq 7 (.mv (.t 14)))])
 (.reg [(Iq 15 (.mv (.t 5))),
 (Iq 16 (.ld true 1 (.t 2))),
 (Iq 17 (.mv (.t 7))),
 (Ic 18 (.call 33 [(.t 16), (.t 17)])),
 (Im 19 (.bsl 8 [(.t 18)])),
 (Im 20 (.app 8 8 (.t 15) (.t 19))),
 (Iq 5 (.mv (.t 20)))])))
 (.reg [(Iq 21 (.bin .add (.t 11) (.c (.int .i64 1)))),
 (Iq 11 (.mv (.t 21)))])))))))
 (.seq (.reg [(Iq 22 (.mv (.t 5))),
 (Iq 4 (.mv (.t 22)))])
 .ret))))⟩
theorem l_impl_digitsOfAll : lowF PA f_impl_digitsOfAll 2 [.k [2, 5, 9, 10, 11]] = some c_impl_digitsOfAll := by kernel_rfl
abbrev f_impl_far : FuncId := 97
def c_impl_far : AF := ⟨2, 22, [.t 4],
 (.seq (.reg [(Im 2 (.box (.t 0))),
 (Im 3 (.box (.t 1))),
 (Iq 4 (.mv (.c (.int .i64 0))))])
 (.seq (.reg [(Iq 5 (.mv (.c (.int .i64 0))))])
 (.seq (.seq (.reg [(Iq 8 (.ld true 8 (.t 2))),
 (Iq 9 (.mv (.c (.int .i64 0))))])
 (.block 0 (.loop [3, 5, 8, 9] (.seq (.reg [(Iq 10 (.bin .lss (.t 9) (.c (.int .i64 8))))])
 (.seq (.cond (.t 10)
 .skip
 (.exit 0))
 (.seq (.block 1 (.seq (.reg [(Iq 11 (.mv (.t 9))),
 (Iq 12 (.ixv 8 (.t 8) (.t 9))),
 (Iq 6 (.mv (.t 11))),
 (Iq 7 (.mv (.t 12)))])
 (.seq (.reg [(Iq 13 (.mv (.t 7))),
 (Iq 14 (.mv (.t 6))),
 (Iq 15 (.ixa 8 1 (.t 3) (.t 14))),
 (Iq 16 (.ld false 1 (.t 15))),
 (Iq 17 (.bin .neq (.t 13) (.t 16)))])
 (.cond (.t 17)
 (.reg [(Iq 18 (.mv (.t 5))),
 (Iq 19 (.bin .add (.t 18) (.c (.int .i64 1)))),
 (Iq 5 (.mv (.t 19)))])
 .skip))))
 (.reg [(Iq 20 (.bin .add (.t 9) (.c (.int .i64 1)))),
 (Iq 9 (.mv (.t 20)))])))))))
 (.seq (.reg [(Iq 21 (.mv (.t 5))),
 (Iq 4 (.mv (.t 21)))])
 .ret))))⟩
theorem l_impl_far : lowF PA f_impl_far 2 [.k [3, 5, 8, 9]] = some c_impl_far := by kernel_rfl
abbrev f_slices_Contains___impl_digits_impl_digits_ : FuncId := 98
def c_slices_Contains___impl_digits_impl_digits_ : AF := ⟨2, 9, [.t 4],
 (.seq (.reg [(Im 3 (.box (.t 1))),
 (Iq 4 (.mv (.c (.bool false))))])
 (.seq (.reg [(Iq 5 (.mv (.t 0))),
 (Iq 6 (.ld true 8 (.t 3))),
 (Ic 7 (.call 120 [(.t 5), (.t 6)])),
 (Iq 8 (.bin .geq (.t 7) (.c (.int .i64 0)))),
 (Iq 4 (.mv (.t 8)))])
 .ret))⟩
theorem l_slices_Contains___impl_digits_impl_digits_ : lowF PA f_slices_Contains___impl_digits_impl_digits_ 2 [] = some c_slices_Contains___impl_digits_impl_digits_ := by kernel_rfl
abbrev f_spec_l06Is : FuncId := 99
def c_spec_l06Is : AF := ⟨3, 24, [.t 6],
 (.seq (.reg [(Im 3 (.box (.t 0))),
 (Iq 6 (.mv (.c (.bool false))))])
 (.seq (.reg [(Iq 9 (.ld true 1 (.t 3))),
 (Iq 10 (.mv (.t 1))),
 (Iq 11 (.mv (.t 2))),
 (Ic 12 (.call 121 [(.t 9), (.t 10), (.t 11)])),
 (Iq 7 (.mv (.t 12)))])
 (.seq (.seq (.reg [(Iq 13 (.mv (.t 7))),
 (Iq 14 (.len (.t 13))),
 (Iq 15 (.mv (.c (.int .i64 0))))])
 (.block 0 (.loop [7, 14, 15] (.seq (.reg [(Iq 16 (.bin .lss (.t 15) (.t 14)))])
 (.seq (.cond (.t 16)
 .skip
 (.exit 0))
 (.seq (.block 1 (.seq (.reg [(Iq 17 (.mv (.t 15))),
 (Iq 8 (.mv (.t 17)))])
 (.seq (.reg [(Iq 18 (.mv (.t 7))),
 (Iq 19 (.mv (.t 8))),
 (Iq 20 (.ixs 1 (.t 18) (.t 19))),
 (Iq 21 (.ld false 1 (.t 20))),
 (Iq 22 (.bin .neq (.t 21) (.c (.int .i64 1))))])
 (.cond (.t 22)
 (.seq (.reg [(Iq 6 (.mv (.c (.bool false))))])
 .ret)
 .skip))))
 (.reg [(Iq 23 (.bin .add (.t 15) (.c (.int .i64 1)))),
 (Iq 15 (.mv (.t 23)))])))))))
 (.seq (.reg [(Iq 6 (.mv (.c (.bool true))))])
 .ret))))⟩
theorem l_spec_l06Is : lowF PA f_spec_l06Is 3 [.k [7, 14, 15]] = some c_spec_l06Is := by kernel_rfl
abbrev f_spec_l01Distance : FuncId := 100
def c_spec_l01Distance : AF := ⟨3, 49, [.t 6],
 (.seq (.reg [(Im 3 (.box (.t 0))),
 (Iq 6 (.mv (.c (.int .i64 0))))])
 (.seq (.reg [(Iq 7 (.mv (.c (.int .i64 0))))])
 (.seq (.seq (.reg [(Iq 9 (.fad 0 (.t 3))),
 (Iq 10 (.ld false 1 (.t 9))),
 (Iq 11 (.len (.t 10))),
 (Iq 12 (.bin .sub (.t 11) (.c (.int .i64 1)))),
 (Iq 8 (.mv (.t 12)))])
 (.block 0 (.loop [1, 2, 3, 7, 8] (.seq (.seq (.reg [(Iq 13 (.mv (.t 8))),
 (Iq 14 (.bin .geq (.t 13) (.c (.int .i64 0))))])
 (.cond (.t 14)
 .skip
 (.exit 0)))
 (.seq (.block 1 (.seq (.seq (.sch (.take 0 (Iq 17 (.mv (.t 1))) (.take 1 (Iq 18 (.fad 0 (.t 3))) (.take 2 (Iq 19 (.ld false 1 (.t 18))) (.take 3 (Iq 20 (.mv (.t 8))) (.take 4 (Iq 21 (.ixs 1 (.t 19) (.t 20))) (.take 5 (Iq 22 (.ld false 1 (.t 21))) (.take 6 (Iq 23 (.bin .rem (.t 17) (.t 22))) (.take 7 (Iq 24 (.mv (.t 2))) (.take 8 (Iq 25 (.fad 0 (.t 3))) (.take 9 (Iq 26 (.ld false 1 (.t 25))) (.take 10 (Iq 27 (.mv (.t 8))) (.take 11 (Iq 28 (.ixs 1 (.t 26) (.t 27))) (.take 12 (Iq 29 (.ld false 1 (.t 28))) (.take 13 (Iq 30 (.bin .rem (.t 24) (.t 29))) (.take 14 (Iq 31 (.bin .neq (.t 23) (.t 30))) .done))))))))))))))))
 (.cond (.t 31)
 (.reg [(Iq 32 (.mv (.t 7))),
 (Iq 33 (.bin .add (.t 32) (.c (.int .i64 1)))),
 (Iq 7 (.mv (.t 33)))])
 .skip))
 (.seq (.reg [(Iq 34 (.mv (.t 1))),
 (Iq 35 (.fad 0 (.t 3))),
 (Iq 36 (.ld false 1 (.t 35))),
 (Iq 37 (.mv (.t 8))),
 (Iq 38 (.ixs 1 (.t 36) (.t 37))),
 (Iq 39 (.ld false 1 (.t 38))),
 (Iq 40 (.bin .quo (.t 34) (.t 39))),
 (Iq 1 (.mv (.t 40)))])
 (.reg [(Iq 41 (.mv (.t 2))),
 (Iq 42 (.fad 0 (.t 3))),
 (Iq 43 (.ld false 1 (.t 42))),
 (Iq 44 (.mv (.t 8))),
 (Iq 45 (.ixs 1 (.t 43) (.t 44))),
 (Iq 46 (.ld false 1 (.t 45))),
 (Iq 47 (.bin .quo (.t 41) (.t 46))),
 (Iq 2 (.mv (.t 47)))]))))
 (.reg [(Iq 15 (.mv (.t 8))),
 (Iq 16 (.bin .sub (.t 15) (.c (.int .i64 1)))),
 (Iq 8 (.mv (.t 16)))]))))))
 (.seq (.reg [(Iq 48 (.mv (.t 7))),
 (Iq 6 (.mv (.t 48)))])
 .ret))))⟩
theorem l_spec_l01Distance : lowF PA f_spec_l01Distance 3 [.k [1, 2, 3, 7, 8], .s (.take 0 (.take 1 (.take 2 (.take 3 (.take 4 (.take 5 (.take 6 (.take 7 (.take 8 (.take 9 (.take 10 (.take 11 (.take 12 (.take 13 (.take 14 .done)))))))))))))))] = some c_spec_l01Distance := by kernel_rfl
abbrev f_slices_Index___int64_int64_ : FuncId := 101
def c_slices_Index___int64_int64_ : AF := ⟨2, 19, [.t 4],
 (.seq (.reg [(Iq 4 (.mv (.c (.int .i64 0))))])
 (.seq (.seq (.reg [(Iq 6 (.mv (.t 0))),
 (Iq 7 (.len (.t 6))),
 (Iq 8 (.mv (.c (.int .i64 0))))])
 (.block 0 (.loop [0, 1, 7, 8] (.seq (.reg [(Iq 9 (.bin .lss (.t 8) (.t 7)))])
 (.seq (.cond (.t 9)
 .skip
 (.exit 0))
 (.seq (.block 1 (.seq (.reg [(Iq 10 (.mv (.t 8))),
 (Iq 5 (.mv (.t 10)))])
 (.seq (.reg [(Iq 11 (.mv (.t 1))),
 (Iq 12 (.mv (.t 0))),
 (Iq 13 (.mv (.t 5))),
 (Iq 14 (.ixs 1 (.t 12) (.t 13))),
 (Iq 15 (.ld false 1 (.t 14))),
 (Iq 16 (.bin .eql (.t 11) (.t 15)))])
 (.cond (.t 16)
 (.seq (.reg [(Iq 17 (.mv (.t 5))),
 (Iq 4 (.mv (.t 17)))])
 .ret)
 .skip))))
 (.reg [(Iq 18 (.bin .add (.t 8) (.c (.int .i64 1)))),
 (Iq 8 (.mv (.t 18)))])))))))
 (.seq (.reg [(Iq 4 (.mv (.c (.int .i64 (-1)))))])
 .ret)))⟩
theorem l_slices_Index___int64_int64_ : lowF PA f_slices_Index___int64_int64_ 2 [.k [0, 1, 7, 8]] = some c_slices_Index___int64_int64_ := by kernel_rfl
abbrev f_impl_isRadius : FuncId := 102
def c_impl_isRadius : AF := ⟨1, 9, [.t 2],
 (.seq (.reg [(Iq 2 (.mv (.c (.bool false))))])
 (.seq (.reg [(Iq 3 (.mv (.t 0))),
 (Iq 4 (.bin .geq (.t 3) (.c (.int .i64 0)))),
 (Iq 5 (.mv (.t 4))),
 ⟨(some 6), (some (5, true)), .q (.mv (.t 0))⟩,
 ⟨(some 7), (some (5, true)), .q (.bin .leq (.t 6) (.c (.int .i64 8)))⟩,
 (Iq 8 (.pick (.t 5) (.t 7) (.c (.bool false)))),
 (Iq 2 (.mv (.t 8)))])
 .ret))⟩
theorem l_impl_isRadius : lowF PA f_impl_isRadius 1 [] = some c_impl_isRadius := by kernel_rfl
abbrev f_impl_times : FuncId := 103
def c_impl_times : AF := ⟨3, 48, [.t 6],
 (.seq (.reg [(Im 3 (.box (.t 0))),
 (Iq 6 (.mv (.c (.slice none 0 0))))])
 (.seq (.sch (.take 0 (Iq 13 (.ld true 1 (.t 3))) (.take 2 (Iq 15 (.ld true 1 (.t 3))) (.one (Ic 14 (.call 122 [(.t 13)])) [0] (.one (Ic 16 (.call 27 [(.t 15)])) [2] (.take 5 (Iq 7 (.mv (.t 14))) (.one (Im 17 (.mks 1 (.v (.int .i64 0)) 8 (.t 16) (.t 16))) [] (.take 6 (Iq 8 (.mv (.t 17))) .done))))))))
 (.seq (.seq (.reg [(Iq 18 (.mv (.t 1))),
 (Iq 19 (.len (.t 18))),
 (Iq 20 (.mv (.c (.int .i64 0))))])
 (.block 0 (.loop [2, 7, 8, 18, 19, 20] (.seq (.reg [(Iq 21 (.bin .lss (.t 20) (.t 19)))])
 (.seq (.cond (.t 21)
 .skip
 (.exit 0))
 (.seq (.block 1 (.seq (.reg [(Iq 22 (.ixs 1 (.t 18) (.t 20))),
 (Iq 23 (.ld false 1 (.t 22))),
 (Iq 10 (.mv (.t 23)))])
 (.seq (.reg [(Iq 24 (.mv (.t 7))),
 (Iq 25 (.len (.t 24))),
 (Iq 26 (.mv (.c (.int .i64 0))))])
 (.block 2 (.loop [2, 7, 8, 10, 18, 19, 20, 24, 25, 26] (.seq (.reg [(Iq 27 (.bin .lss (.t 26) (.t 25)))])
 (.seq (.cond (.t 27)
 .skip
 (.exit 2))
 (.seq (.block 3 (.seq (.reg [(Iq 28 (.mv (.t 26))),
 (Iq 29 (.ixs 8 (.t 24) (.t 26))),
 (Iq 30 (.ld true 8 (.t 29))),
 (Im 12 (.alloc [(.v (.int .u8 0)), (.v (.int .u8 0)), (.v (.int .u8 0)), (.v (.int .u8 0)), (.v (.int .u8 0)), (.v (.int .u8 0)), (.v (.int .u8 0)), (.v (.int .u8 0))])),
 (Iq 11 (.mv (.t 28))),
 ⟨none, none, .m (.st true 8 (.t 12) (.t 30))⟩])
 (.seq (.sch (.take 0 (Iq 31 (.mv (.t 7))) (.take 1 (Iq 32 (.mv (.t 10))) (.take 2 (Iq 33 (.ixs 8 (.t 31) (.t 32))) (.take 3 (Iq 34 (.ld true 8 (.t 33))) (.take 4 (Iq 35 (.ld true 8 (.t 12))) (.take 6 (Iq 37 (.mv (.t 2))) (.one (Ic 36 (.call 97 [(.t 34), (.t 35)])) [4, 3] (.take 7 (Iq 38 (.bin .leq (.t 36) (.t 37))) .done)))))))))
 (.cond (.t 38)
 (.reg [(Iq 39 (.mv (.t 8))),
 (Iq 40 (.mv (.t 11))),
 (Iq 41 (.ixs 1 (.t 39) (.t 40))),
 (Iq 42 (.ld false 1 (.t 41))),
 (Iq 43 (.bin .add (.t 42) (.c (.int .i64 1)))),
 (Iq 44 (.ixs 1 (.t 39) (.t 40))),
 ⟨none, none, .m (.st false 1 (.t 44) (.t 43))⟩])
 .skip))))
 (.reg [(Iq 45 (.bin .add (.t 26) (.c (.int .i64 1)))),
 (Iq 26 (.mv (.t 45)))])))))))))
 (.reg [(Iq 46 (.bin .add (.t 20) (.c (.int .i64 1)))),
 (Iq 20 (.mv (.t 46)))])))))))
 (.seq (.reg [(Iq 47 (.mv (.t 8))),
 (Iq 6 (.mv (.t 47)))])
 .ret))))⟩
theorem l_impl_times : lowF PA f_impl_times 3 [.s (.take 0 (.take 2 (.one 1 (.one 3 (.take 5 (.one 4 (.take 6 .done))))))), .k [2, 7, 8, 18, 19, 20], .k [2, 7, 8, 10, 18, 19, 20, 24, 25, 26], .s (.take 0 (.take 1 (.take 2 (.take 3 (.take 4 (.take 6 (.one 5 (.take 7 .done))))))))] = some c_impl_times := by kernel_rfl
abbrev f_impl_isPerfect_1 : FuncId := 104
def c_impl_isPerfect_1 : AF := ⟨1, 5, [.t 2],
 (.seq (.reg [(Iq 2 (.mv (.c (.bool false))))])
 (.seq (.reg [(Iq 3 (.mv (.t 0))),
 (Iq 4 (.bin .neq (.t 3) (.c (.int .i64 1)))),
 (Iq 2 (.mv (.t 4)))])
 .ret))⟩
theorem l_impl_isPerfect_1 : lowF PA f_impl_isPerfect_1 1 [] = some c_impl_isPerfect_1 := by kernel_rfl
abbrev f_spec_l01Small : FuncId := 105
def c_spec_l01Small : AF := ⟨1, 8, [.c 2 true 1],
 (.seq (.reg [(Im 2 (.alloc [(.v (.slice none 0 0))]))])
 (.seq (.reg [(Iq 3 (.mv (.t 0))),
 (Iq 4 (.mv (.t 0))),
 (Im 5 (.bsl 1 [(.c (.int .i64 8)), (.c (.int .i64 27)), (.c (.int .i64 81))])),
 (Ic 6 (.call 47 [(.t 4), (.t 5)])),
 (Ic 7 (.call 113 [(.t 3), (.t 6)])),
 ⟨none, none, .m (.st true 1 (.t 2) (.t 7))⟩])
 .ret))⟩
theorem l_spec_l01Small : lowF PA f_spec_l01Small 1 [] = some c_spec_l01Small := by kernel_rfl
abbrev f_spec_l01DrawCode : FuncId := 106
def c_spec_l01DrawCode : AF := ⟨2, 109, [.t 4],
 (.seq (.reg [(Im 3 (.box (.t 1))),
 (Iq 4 (.mv (.c (.slice none 0 0))))])
 (.seq (.reg [(Im 17 (.bsl 1 [])),
 (Iq 5 (.mv (.t 17)))])
 (.seq (.seq (.reg [(Iq 18 (.mv (.t 0))),
 (Ic 19 (.call 46 [(.t 18), (.c (.int .i64 4))]))])
 (.block 0 (.seq (.reg [(Iq 21 (.bin .eql (.t 19) (.c (.int .i64 0)))),
 (Iq 20 (.mv (.t 21)))])
 (.cond (.t 20)
 (.seq (.reg [(Iq 22 (.mv (.t 0))),
 (Im 23 (.bsl 1 [(.c (.int .i64 2)), (.c (.int .i64 2)), (.c (.int .i64 3)), (.c (.int .i64 4))])),
 (Ic 24 (.call 47 [(.t 22), (.t 23)])),
 (Iq 25 (.mv (.t 0))),
 (Ic 26 (.call 46 [(.t 25), (.c (.int .i64 2))])),
 (Iq 6 (.mv (.t 24))),
 (Iq 7 (.mv (.t 26)))])
 (.seq (.seq (.reg [(Iq 8 (.mv (.c (.int .i64 0))))])
 (.block 1 (.loop [3, 5, 6, 7, 8, 109] (.seq (.seq (.reg [(Iq 27 (.mv (.t 8))),
 (Iq 28 (.ld true 1 (.t 3))),
 (Ic 29 (.call 41 [(.t 28)])),
 (Iq 30 (.bin .lss (.t 27) (.t 29)))])
 (.cond (.t 30)
 .skip
 (.exit 1)))
 (.seq (.block 2 (.seq (.reg [(Iq 33 (.ld true 1 (.t 3))),
 (Iq 34 (.mv (.t 8))),
 (Ic 35 (.call 65 [(.t 33), (.t 34)])),
 (Iq 9 (.mv (.t 35))),
 (Iq 10 (.mv (.c (.int .i64 0))))])
 (.seq (.seq (.reg [(Iq 36 (.mv (.t 9))),
 (Iq 37 (.len (.t 36))),
 (Iq 38 (.mv (.c (.int .i64 0))))])
 (.block 3 (.loop [3, 5, 6, 7, 8, 9, 10, 37, 38, 109] (.seq (.reg [(Iq 39 (.bin .lss (.t 38) (.t 37)))])
 (.seq (.cond (.t 39)
 .skip
 (.exit 3))
 (.seq (.block 4 (.seq (.reg [(Iq 40 (.mv (.t 38))),
 (Iq 11 (.mv (.t 40)))])
 (.reg [(Iq 41 (.mv (.t 10))),
 (Iq 42 (.mv (.t 9))),
 (Iq 43 (.mv (.t 11))),
 (Iq 44 (.ixs 1 (.t 42) (.t 43))),
 (Iq 45 (.ld false 1 (.t 44))),
 (Iq 46 (.bin .add (.t 41) (.t 45))),
 (Iq 10 (.mv (.t 46)))])))
 (.reg [(Iq 47 (.bin .add (.t 38) (.c (.int .i64 1)))),
 (Iq 38 (.mv (.t 47)))])))))))
 (.seq (.reg [(Iq 48 (.mv (.t 10))),
 (Iq 49 (.mv (.t 6))),
 (Iq 50 (.bin .rem (.t 48) (.t 49))),
 (Iq 51 (.mv (.t 7))),
 (Iq 52 (.bin .eql (.t 50) (.t 51)))])
 (.cond (.t 52)
 (.reg [(Iq 53 (.mv (.t 5))),
 (Iq 54 (.mv (.t 8))),
 (Im 55 (.bsl 1 [(.t 54)])),
 (Im 56 (.app 1 8 (.t 53) (.t 55))),
 (Iq 5 (.mv (.t 56)))])
 .skip)))))
 (.reg [(Iq 31 (.mv (.t 8))),
 (Iq 32 (.bin .add (.t 31) (.c (.int .i64 1)))),
 (Iq 8 (.mv (.t 32)))]))))))
 (.seq (.reg [(Iq 57 (.mv (.t 5))),
 (Iq 4 (.mv (.t 57)))])
 .ret)))
 (.seq (.reg [(Iq 59 (.bin .eql (.t 19) (.c (.int .i64 1)))),
 (Iq 58 (.mv (.t 59)))])
 (.cond (.t 58)
 (.seq (.reg [(Iq 60 (.mv (.t 0))),
 (Im 61 (.bsl 1 [(.c (.int .i64 2)), (.c (.int .i64 3)), (.c (.int .i64 3))])),
 (Ic 62 (.call 47 [(.t 60), (.t 61)])),
 (Iq 12 (.mv (.t 62)))])
 (.seq (.seq (.reg [(Iq 13 (.mv (.c (.int .i64 0))))])
 (.block 5 (.loop [3, 5, 12, 13, 109] (.seq (.seq (.reg [(Iq 63 (.mv (.t 13))),
 (Iq 64 (.ld true 1 (.t 3))),
 (Ic 65 (.call 41 [(.t 64)])),
 (Iq 66 (.bin .lss (.t 63) (.t 65)))])
 (.cond (.t 66)
 .skip
 (.exit 5)))
 (.seq (.block 6 (.seq (.reg [(Iq 14 (.mv (.c (.bool true))))])
 (.seq (.seq (.reg [(Iq 69 (.mv (.t 5))),
 (Iq 70 (.len (.t 69))),
 (Iq 71 (.mv (.c (.int .i64 0))))])
 (.block 7 (.loop [3, 5, 12, 13, 14, 70, 71, 109] (.seq (.reg [(Iq 72 (.bin .lss (.t 71) (.t 70)))])
 (.seq (.cond (.t 72)
 .skip
 (.exit 7))
 (.seq (.block 8 (.seq (.reg [(Iq 73 (.mv (.t 71))),
 (Iq 15 (.mv (.t 73)))])
 (.sch (.take 0 (Iq 74 (.mv (.t 14))) (.take 1 (Iq 75 (.mv (.t 74))) (.take 2 ⟨(some 76), (some (75, true)), .q (.ld true 1 (.t 3))⟩ (.take 3 ⟨(some 77), (some (75, true)), .q (.mv (.t 5))⟩ (.take 4 ⟨(some 78), (some (75, true)), .q (.mv (.t 15))⟩ (.take 5 ⟨(some 79), (some (75, true)), .q (.ixs 1 (.t 77) (.t 78))⟩ (.take 6 ⟨(some 80), (some (75, true)), .q (.ld false 1 (.t 79))⟩ (.take 7 ⟨(some 81), (some (75, true)), .q (.mv (.t 13))⟩ (.take 9 ⟨(some 83), (some (75, true)), .q (.mv (.t 12))⟩ (.one ⟨(some 82), (some (75, true)), .c (.call 100 [(.t 76), (.t 80), (.t 81)])⟩ [6, 2] (.take 10 ⟨(some 84), (some (75, true)), .q (.bin .geq (.t 82) (.t 83))⟩ (.take 11 (Iq 85 (.pick (.t 75) (.t 84) (.c (.bool false)))) (.take 12 (Iq 14 (.mv (.t 85))) .done))))))))))))))))
 (.reg [(Iq 86 (.bin .add (.t 71) (.c (.int .i64 1)))),
 (Iq 71 (.mv (.t 86)))])))))))
 (.seq (.reg [(Iq 87 (.mv (.t 14)))])
 (.cond (.t 87)
 (.reg [(Iq 88 (.mv (.t 5))),
 (Iq 89 (.mv (.t 13))),
 (Im 90 (.bsl 1 [(.t 89)])),
 (Im 91 (.app 1 8 (.t 88) (.t 90))),
 (Iq 5 (.mv (.t 91)))])
 .skip)))))
 (.reg [(Iq 67 (.mv (.t 13))),
 (Iq 68 (.bin .add (.t 67) (.c (.int .i64 1)))),
 (Iq 13 (.mv (.t 68)))]))))))
 (.seq (.reg [(Iq 92 (.mv (.t 5))),
 (Iq 4 (.mv (.t 92)))])
 .ret)))
 .skip))))))
 (.seq (.seq (.reg [(Iq 93 (.mv (.t 0))),
 (Iq 94 (.mv (.t 0))),
 (Im 95 (.bsl 1 [(.c (.int .i64 3)), (.c (.int .i64 8)), (.c (.int .i64 20))])),
 (Ic 96 (.call 47 [(.t 94), (.t 95)])),
 (Ic 97 (.call 46 [(.t 93), (.t 96)])),
 (Iq 16 (.mv (.t 97)))])
 (.block 9 (.loop [0, 3, 5, 16, 109] (.seq (.seq (.reg [(Iq 98 (.mv (.t 16))),
 (Iq 99 (.bin .gtr (.t 98) (.c (.int .i64 0))))])
 (.cond (.t 99)
 .skip
 (.exit 9)))
 (.seq (.block 10 (.reg [(Iq 102 (.mv (.t 5))),
 (Iq 103 (.mv (.t 0))),
 (Iq 104 (.ld true 1 (.t 3))),
 (Ic 105 (.call 41 [(.t 104)])),
 (Ic 106 (.call 46 [(.t 103), (.t 105)])),
 (Ic 107 (.call 67 [(.t 102), (.t 106)])),
 (Iq 5 (.mv (.t 107)))]))
 (.reg [(Iq 100 (.mv (.t 16))),
 (Iq 101 (.bin .sub (.t 100) (.c (.int .i64 1)))),
 (Iq 16 (.mv (.t 101)))]))))))
 (.seq (.reg [(Iq 108 (.mv (.t 5))),
 (Iq 4 (.mv (.t 108)))])
 .ret)))))⟩
theorem l_spec_l01DrawCode : lowF PA f_spec_l01DrawCode 2 [.k [3, 5, 6, 7, 8, 109], .k [3, 5, 6, 7, 8, 9, 10, 37, 38, 109], .k [3, 5, 12, 13, 109], .k [3, 5, 12, 13, 14, 70, 71, 109], .s (.take 0 (.take 1 (.take 2 (.take 3 (.take 4 (.take 5 (.take 6 (.take 7 (.take 9 (.one 8 (.take 10 (.take 11 (.take 12 .done))))))))))))), .k [0, 3, 5, 16, 109]] = some c_spec_l01DrawCode := by kernel_rfl
abbrev f_impl_wordCode : FuncId := 107
def c_impl_wordCode : AF := ⟨2, 14, [.t 4],
 (.seq (.reg [(Im 2 (.box (.t 0))),
 (Iq 4 (.mv (.c (.int .i64 0))))])
 (.seq (.block 0 (.seq (.reg [(Iq 6 (.ld true 1 (.t 2))),
 (Ic 7 (.call 70 [(.t 6)])),
 (Iq 8 (.un .not (.t 7))),
 (Iq 5 (.mv (.t 8)))])
 (.cond (.t 5)
 (.seq (.reg [(Iq 4 (.mv (.c (.int .i64 1))))])
 .ret)
 (.seq (.reg [(Iq 10 (.ld true 1 (.t 2))),
 (Iq 11 (.mv (.t 1))),
 (Ic 12 (.call 123 [(.t 10), (.t 11)])),
 (Iq 13 (.un .not (.t 12))),
 (Iq 9 (.mv (.t 13)))])
 (.cond (.t 9)
 (.seq (.reg [(Iq 4 (.mv (.c (.int .i64 2))))])
 .ret)
 .skip)))))
 (.seq (.reg [(Iq 4 (.mv (.c (.int .i64 0))))])
 .ret)))⟩
theorem l_impl_wordCode : lowF PA f_impl_wordCode 2 [] = some c_impl_wordCode := by kernel_rfl
abbrev f_impl_isCode : FuncId := 108
def c_impl_isCode : AF := ⟨2, 33, [.t 4],
 (.seq (.reg [(Im 2 (.box (.t 0))),
 (Iq 4 (.mv (.c (.bool false))))])
 (.seq (.seq (.reg [(Iq 6 (.mv (.t 1))),
 (Iq 7 (.len (.t 6))),
 (Iq 8 (.ld true 1 (.t 2))),
 (Ic 9 (.call 27 [(.t 8)])),
 (Iq 10 (.bin .gtr (.t 7) (.t 9))),
 (Iq 11 (.mv (.t 10))),
 ⟨(some 12), (some (11, false)), .q (.ld true 1 (.t 2))⟩,
 ⟨(some 13), (some (11, false)), .q (.mv (.t 1))⟩,
 ⟨(some 14), (some (11, false)), .c (.call 123 [(.t 12), (.t 13)])⟩,
 ⟨(some 15), (some (11, false)), .q (.un .not (.t 14))⟩,
 (Iq 16 (.pick (.t 11) (.c (.bool true)) (.t 15)))])
 (.cond (.t 16)
 (.seq (.reg [(Iq 4 (.mv (.c (.bool false))))])
 .ret)
 .skip))
 (.seq (.seq (.reg [(Iq 5 (.mv (.c (.int .i64 1))))])
 (.block 0 (.loop [1, 5] (.seq (.seq (.reg [(Iq 17 (.mv (.t 5))),
 (Iq 18 (.mv (.t 1))),
 (Iq 19 (.len (.t 18))),
 (Iq 20 (.bin .lss (.t 17) (.t 19)))])
 (.cond (.t 20)
 .skip
 (.exit 0)))
 (.seq (.block 1 (.seq (.sch (.take 0 (Iq 23 (.mv (.t 1))) (.take 1 (Iq 24 (.mv (.t 5))) (.take 2 (Iq 25 (.ixs 1 (.t 23) (.t 24))) (.take 3 (Iq 26 (.ld false 1 (.t 25))) (.take 4 (Iq 27 (.mv (.t 1))) (.take 5 (Iq 28 (.mv (.t 5))) (.take 6 (Iq 29 (.bin .sub (.t 28) (.c (.int .i64 1)))) (.take 7 (Iq 30 (.ixs 1 (.t 27) (.t 29))) (.take 8 (Iq 31 (.ld false 1 (.t 30))) (.take 9 (Iq 32 (.bin .leq (.t 26) (.t 31))) .done)))))))))))
 (.cond (.t 32)
 (.seq (.reg [(Iq 4 (.mv (.c (.bool false))))])
 .ret)
 .skip)))
 (.reg [(Iq 21 (.mv (.t 5))),
 (Iq 22 (.bin .add (.t 21) (.c (.int .i64 1)))),
 (Iq 5 (.mv (.t 22)))]))))))
 (.seq (.reg [(Iq 4 (.mv (.c (.bool true))))])
 .ret))))⟩
theorem l_impl_isCode : lowF PA f_impl_isCode 2 [.k [1, 5], .s (.take 0 (.take 1 (.take 2 (.take 3 (.take 4 (.take 5 (.take 6 (.take 7 (.take 8 (.take 9 .done))))))))))] = some c_impl_isCode := by kernel_rfl
abbrev f_slices_pdqsortOrdered_int64_ : FuncId := 109
abbrev f_math_bits_Len : FuncId := 110
abbrev f_spec_l01Is : FuncId := 111
def c_spec_l01Is : AF := ⟨1, 26, [.t 2],
 (.seq (.reg [(Im 1 (.box (.t 0))),
 (Iq 2 (.mv (.c (.bool false))))])
 (.seq (.seq (.reg [(Iq 4 (.fad 0 (.t 1))),
 (Iq 5 (.ld false 1 (.t 4))),
 (Iq 6 (.len (.t 5))),
 (Ic 7 (.call 49 [(.t 6), (.c (.int .i64 1)), (.c (.int .i64 8))])),
 (Iq 8 (.un .not (.t 7)))])
 (.cond (.t 8)
 (.seq (.reg [(Iq 2 (.mv (.c (.bool false))))])
 .ret)
 .skip))
 (.seq (.seq (.reg [(Iq 3 (.mv (.c (.int .i64 0))))])
 (.block 0 (.loop [1, 3] (.seq (.seq (.reg [(Iq 9 (.mv (.t 3))),
 (Iq 10 (.fad 0 (.t 1))),
 (Iq 11 (.ld false 1 (.t 10))),
 (Iq 12 (.len (.t 11))),
 (Iq 13 (.bin .lss (.t 9) (.t 12)))])
 (.cond (.t 13)
 .skip
 (.exit 0)))
 (.seq (.block 1 (.seq (.reg [(Iq 16 (.fad 0 (.t 1))),
 (Iq 17 (.ld false 1 (.t 16))),
 (Iq 18 (.mv (.t 3))),
 (Iq 19 (.ixs 1 (.t 17) (.t 18))),
 (Iq 20 (.ld false 1 (.t 19))),
 (Ic 21 (.call 49 [(.t 20), (.c (.int .i64 2)), (.c (.int .i64 4))])),
 (Iq 22 (.un .not (.t 21)))])
 (.cond (.t 22)
 (.seq (.reg [(Iq 2 (.mv (.c (.bool false))))])
 .ret)
 .skip)))
 (.reg [(Iq 14 (.mv (.t 3))),
 (Iq 15 (.bin .add (.t 14) (.c (.int .i64 1)))),
 (Iq 3 (.mv (.t 15)))]))))))
 (.seq (.reg [(Iq 23 (.ld true 1 (.t 1))),
 (Ic 24 (.call 41 [(.t 23)])),
 (Iq 25 (.bin .leq (.t 24) (.c (.int .i64 1024)))),
 (Iq 2 (.mv (.t 25)))])
 .ret))))⟩
theorem l_spec_l01Is : lowF PA f_spec_l01Is 1 [.k [1, 3]] = some c_spec_l01Is := by kernel_rfl
abbrev f_spec_l01Code : FuncId := 112
def c_spec_l01Code : AF := ⟨2, 37, [.t 4],
 (.seq (.reg [(Im 2 (.box (.t 0))),
 (Iq 4 (.mv (.c (.bool false))))])
 (.seq (.seq (.reg [(Iq 5 (.mv (.c (.int .i64 0))))])
 (.block 0 (.loop [1, 2, 5] (.seq (.seq (.reg [(Iq 6 (.mv (.t 5))),
 (Iq 7 (.mv (.t 1))),
 (Iq 8 (.len (.t 7))),
 (Iq 9 (.bin .lss (.t 6) (.t 8)))])
 (.cond (.t 9)
 .skip
 (.exit 0)))
 (.seq (.block 1 (.seq (.sch (.take 0 (Iq 12 (.mv (.t 1))) (.take 1 (Iq 13 (.mv (.t 5))) (.take 2 (Iq 14 (.ixs 1 (.t 12) (.t 13))) (.take 3 (Iq 15 (.ld false 1 (.t 14))) (.take 4 (Iq 16 (.ld true 1 (.t 2))) (.one (Ic 17 (.call 41 [(.t 16)])) [4] (.take 6 (Iq 18 (.bin .sub (.t 17) (.c (.int .i64 1)))) (.one (Ic 19 (.call 49 [(.t 15), (.c (.int .i64 0)), (.t 18)])) [3] (.take 8 (Iq 20 (.un .not (.t 19))) (.take 9 (Iq 21 (.mv (.t 20))) (.take 10 ⟨(some 22), (some (21, false)), .q (.mv (.t 5))⟩ (.take 11 ⟨(some 23), (some (21, false)), .q (.bin .gtr (.t 22) (.c (.int .i64 0)))⟩ (.take 12 ⟨(some 24), (some (21, false)), .q (.mv (.t 23))⟩ (.take 13 ⟨(some 25), (some (24, true)), .q (.mv (.t 1))⟩ (.take 14 ⟨(some 26), (some (24, true)), .q (.mv (.t 5))⟩ (.take 15 ⟨(some 27), (some (24, true)), .q (.ixs 1 (.t 25) (.t 26))⟩ (.take 16 ⟨(some 28), (some (24, true)), .q (.ld false 1 (.t 27))⟩ (.take 17 ⟨(some 29), (some (24, true)), .q (.mv (.t 1))⟩ (.take 18 ⟨(some 30), (some (24, true)), .q (.mv (.t 5))⟩ (.take 19 ⟨(some 31), (some (24, true)), .q (.bin .sub (.t 30) (.c (.int .i64 1)))⟩ (.take 20 ⟨(some 32), (some (24, true)), .q (.ixs 1 (.t 29) (.t 31))⟩ (.take 21 ⟨(some 33), (some (24, true)), .q (.ld false 1 (.t 32))⟩ (.take 22 ⟨(some 34), (some (24, true)), .q (.bin .leq (.t 28) (.t 33))⟩ (.take 23 ⟨(some 35), (some (21, false)), .q (.pick (.t 24) (.t 34) (.c (.bool false)))⟩ (.take 24 (Iq 36 (.pick (.t 21) (.c (.bool true)) (.t 35))) .done))))))))))))))))))))))))))
 (.cond (.t 36)
 (.seq (.reg [(Iq 4 (.mv (.c (.bool false))))])
 .ret)
 .skip)))
 (.reg [(Iq 10 (.mv (.t 5))),
 (Iq 11 (.bin .add (.t 10) (.c (.int .i64 1)))),
 (Iq 5 (.mv (.t 11)))]))))))
 (.seq (.reg [(Iq 4 (.mv (.c (.bool true))))])
 .ret)))⟩
theorem l_spec_l01Code : lowF PA f_spec_l01Code 2 [.k [1, 2, 5], .s (.take 0 (.take 1 (.take 2 (.take 3 (.take 4 (.one 5 (.take 6 (.one 7 (.take 8 (.take 9 (.take 10 (.take 11 (.take 12 (.take 13 (.take 14 (.take 15 (.take 16 (.take 17 (.take 18 (.take 19 (.take 20 (.take 21 (.take 22 (.take 23 (.take 24 .done)))))))))))))))))))))))))] = some c_spec_l01Code := by kernel_rfl
abbrev f_spec_l01DrawOf : FuncId := 113
def c_spec_l01DrawOf : AF := ⟨2, 49, [.c 4 true 1],
 (.seq (.reg [(Im 4 (.alloc [(.v (.slice none 0 0))]))])
 (.seq (.reg [(Im 9 (.bsl 1 [])),
 (Iq 10 (.bld [(.v (.slice none 0 0))] [(0, (.t 9))])),
 (Iq 11 (.mv (.t 0))),
 (Im 12 (.bsl 1 [(.c (.int .i64 0)), (.c (.int .i64 2)), (.c (.int .i64 2)), (.c (.int .i64 3)), (.c (.int .i64 3))])),
 (Ic 13 (.call 47 [(.t 11), (.t 12)])),
 (Im 5 (.alloc [(.v (.slice none 0 0))])),
 ⟨none, none, .m (.st true 1 (.t 5) (.t 10))⟩,
 (Iq 6 (.mv (.t 13)))])
 (.seq (.seq (.reg [(Iq 14 (.mv (.t 0))),
 (Ic 15 (.call 46 [(.t 14), (.c (.int .i64 8))])),
 (Iq 16 (.bin .add (.c (.int .i64 1)) (.t 15))),
 (Iq 7 (.mv (.t 16)))])
 (.block 0 (.loop [0, 1, 4, 5, 6, 7, 49] (.seq (.seq (.reg [(Iq 17 (.mv (.t 7))),
 (Iq 18 (.bin .gtr (.t 17) (.c (.int .i64 0))))])
 (.cond (.t 18)
 .skip
 (.exit 0)))
 (.seq (.block 1 (.seq (.reg [(Iq 21 (.mv (.t 6))),
 (Iq 8 (.mv (.t 21)))])
 (.seq (.seq (.reg [(Iq 22 (.mv (.t 6))),
 (Iq 23 (.bin .eql (.t 22) (.c (.int .i64 0))))])
 (.cond (.t 23)
 (.reg [(Iq 24 (.mv (.t 0))),
 (Im 25 (.bsl 1 [(.c (.int .i64 2)), (.c (.int .i64 2)), (.c (.int .i64 3)), (.c (.int .i64 4))])),
 (Ic 26 (.call 47 [(.t 24), (.t 25)])),
 (Iq 8 (.mv (.t 26)))])
 .skip))
 (.seq (.seq (.reg [(Iq 27 (.ld true 1 (.t 5))),
 (Ic 28 (.call 41 [(.t 27)])),
 (Iq 29 (.mv (.t 8))),
 (Iq 30 (.bin .mul (.t 28) (.t 29))),
 (Iq 31 (.mv (.t 1))),
 (Iq 32 (.bin .gtr (.t 30) (.t 31)))])
 (.cond (.t 32)
 (.exit 0)
 .skip))
 (.reg [(Iq 33 (.fad 0 (.t 5))),
 (Iq 34 (.ld false 1 (.t 33))),
 (Iq 35 (.mv (.t 8))),
 (Im 36 (.bsl 1 [(.t 35)])),
 (Im 37 (.app 1 8 (.t 34) (.t 36))),
 (Iq 38 (.fad 0 (.t 5))),
 ⟨none, none, .m (.st false 1 (.t 38) (.t 37))⟩])))))
 (.reg [(Iq 19 (.mv (.t 7))),
 (Iq 20 (.bin .sub (.t 19) (.c (.int .i64 1)))),
 (Iq 7 (.mv (.t 20)))]))))))
 (.seq (.seq (.reg [(Iq 39 (.fad 0 (.t 5))),
 (Iq 40 (.ld false 1 (.t 39))),
 (Iq 41 (.len (.t 40))),
 (Iq 42 (.bin .eql (.t 41) (.c (.int .i64 0))))])
 (.cond (.t 42)
 (.reg [(Iq 43 (.fad 0 (.t 5))),
 (Iq 44 (.ld false 1 (.t 43))),
 (Im 45 (.bsl 1 [(.c (.int .i64 2))])),
 (Im 46 (.app 1 8 (.t 44) (.t 45))),
 (Iq 47 (.fad 0 (.t 5))),
 ⟨none, none, .m (.st false 1 (.t 47) (.t 46))⟩])
 .skip))
 (.seq (.reg [(Iq 48 (.ld true 1 (.t 5))),
 ⟨none, none, .m (.st true 1 (.t 4) (.t 48))⟩])
 .ret)))))⟩
theorem l_spec_l01DrawOf : lowF PA f_spec_l01DrawOf 2 [.k [0, 1, 4, 5, 6, 7, 49]] = some c_spec_l01DrawOf := by kernel_rfl
abbrev f_impl_those : FuncId := 114
def c_impl_those : AF := ⟨2, 26, [.t 4],
 (.seq (.reg [(Im 2 (.box (.t 0))),
 (Iq 4 (.mv (.c (.slice none 0 0))))])
 (.seq (.reg [(Im 8 (.bsl 1 [])),
 (Iq 5 (.mv (.t 8)))])
 (.seq (.seq (.reg [(Iq 9 (.ld true 1 (.t 2))),
 (Ic 10 (.call 122 [(.t 9)])),
 (Iq 11 (.len (.t 10))),
 (Iq 12 (.mv (.c (.int .i64 0))))])
 (.block 0 (.loop [1, 5, 10, 11, 12] (.seq (.reg [(Iq 13 (.bin .lss (.t 12) (.t 11)))])
 (.seq (.cond (.t 13)
 .skip
 (.exit 0))
 (.seq (.block 1 (.seq (.reg [(Iq 14 (.mv (.t 12))),
 (Iq 15 (.ixs 8 (.t 10) (.t 12))),
 (Iq 16 (.ld true 8 (.t 15))),
 (Im 7 (.alloc [(.v (.int .u8 0)), (.v (.int .u8 0)), (.v (.int .u8 0)), (.v (.int .u8 0)), (.v (.int .u8 0)), (.v (.int .u8 0)), (.v (.int .u8 0)), (.v (.int .u8 0))])),
 (Iq 6 (.mv (.t 14))),
 ⟨none, none, .m (.st true 8 (.t 7) (.t 16))⟩])
 (.seq (.reg [(Iq 17 (.mv (.t 1))),
 (Iq 18 (.ld true 8 (.t 7))),
 (Ic 19 (.cav (.t 17) [(.t 18)]))])
 (.cond (.t 19)
 (.reg [(Iq 20 (.mv (.t 5))),
 (Iq 21 (.mv (.t 6))),
 (Im 22 (.bsl 1 [(.t 21)])),
 (Im 23 (.app 1 8 (.t 20) (.t 22))),
 (Iq 5 (.mv (.t 23)))])
 .skip))))
 (.reg [(Iq 24 (.bin .add (.t 12) (.c (.int .i64 1)))),
 (Iq 12 (.mv (.t 24)))])))))))
 (.seq (.reg [(Iq 25 (.mv (.t 5))),
 (Iq 4 (.mv (.t 25)))])
 .ret))))⟩
theorem l_impl_those : lowF PA f_impl_those 2 [.k [1, 5, 10, 11, 12]] = some c_impl_those := by kernel_rfl
abbrev f_impl_ball_1 : FuncId := 115
def c_impl_ball_1 : AF := ⟨3, 10, [.t 4],
 (.seq (.reg [(Im 3 (.box (.t 0))),
 (Iq 4 (.mv (.c (.bool false))))])
 (.seq (.sch (.take 0 (Iq 5 (.ld true 8 (.t 1))) (.take 1 (Iq 6 (.ld true 8 (.t 3))) (.take 3 (Iq 8 (.ld false 1 (.t 2))) (.one (Ic 7 (.call 97 [(.t 5), (.t 6)])) [1, 0] (.take 4 (Iq 9 (.bin .leq (.t 7) (.t 8))) (.take 5 (Iq 4 (.mv (.t 9))) .done)))))))
 .ret))⟩
theorem l_impl_ball_1 : lowF PA f_impl_ball_1 3 [.s (.take 0 (.take 1 (.take 3 (.one 2 (.take 4 (.take 5 .done))))))] = some c_impl_ball_1 := by kernel_rfl
abbrev f_cmp_isNaN_int64_ : FuncId := 116
def c_cmp_isNaN_int64_ : AF := ⟨1, 6, [.t 2],
 (.seq (.reg [(Iq 2 (.mv (.c (.bool false))))])
 (.seq (.reg [(Iq 3 (.mv (.t 0))),
 (Iq 4 (.mv (.t 0))),
 (Iq 5 (.bin .neq (.t 3) (.t 4))),
 (Iq 2 (.mv (.t 5)))])
 .ret))⟩
theorem l_cmp_isNaN_int64_ : lowF PA f_cmp_isNaN_int64_ 1 [] = some c_cmp_isNaN_int64_ := by kernel_rfl
abbrev f_spec_l06Before : FuncId := 117
def c_spec_l06Before : AF := ⟨2, 30, [.t 4],
 (.seq (.reg [(Iq 4 (.mv (.c (.bool false))))])
 (.seq (.seq (.reg [(Iq 5 (.mv (.c (.int .i64 0))))])
 (.block 0 (.loop [0, 1, 5] (.seq (.seq (.reg [(Iq 6 (.mv (.t 5))),
 (Iq 7 (.mv (.t 0))),
 (Iq 8 (.len (.t 7))),
 (Iq 9 (.bin .lss (.t 6) (.t 8)))])
 (.cond (.t 9)
 .skip
 (.exit 0)))
 (.seq (.block 1 (.seq (.sch (.take 0 (Iq 12 (.mv (.t 0))) (.take 1 (Iq 13 (.mv (.t 5))) (.take 2 (Iq 14 (.ixs 1 (.t 12) (.t 13))) (.take 3 (Iq 15 (.ld false 1 (.t 14))) (.take 4 (Iq 16 (.mv (.t 1))) (.take 5 (Iq 17 (.mv (.t 5))) (.take 6 (Iq 18 (.ixs 1 (.t 16) (.t 17))) (.take 7 (Iq 19 (.ld false 1 (.t 18))) (.take 8 (Iq 20 (.bin .neq (.t 15) (.t 19))) .done))))))))))
 (.cond (.t 20)
 (.seq (.sch (.take 0 (Iq 21 (.mv (.t 0))) (.take 1 (Iq 22 (.mv (.t 5))) (.take 2 (Iq 23 (.ixs 1 (.t 21) (.t 22))) (.take 3 (Iq 24 (.ld false 1 (.t 23))) (.take 4 (Iq 25 (.mv (.t 1))) (.take 5 (Iq 26 (.mv (.t 5))) (.take 6 (Iq 27 (.ixs 1 (.t 25) (.t 26))) (.take 7 (Iq 28 (.ld false 1 (.t 27))) (.take 8 (Iq 29 (.bin .lss (.t 24) (.t 28))) (.take 9 (Iq 4 (.mv (.t 29))) .done)))))))))))
 .ret)
 .skip)))
 (.reg [(Iq 10 (.mv (.t 5))),
 (Iq 11 (.bin .add (.t 10) (.c (.int .i64 1)))),
 (Iq 5 (.mv (.t 11)))]))))))
 (.seq (.reg [(Iq 4 (.mv (.c (.bool false))))])
 .ret)))⟩
theorem l_spec_l06Before : lowF PA f_spec_l06Before 2 [.k [0, 1, 5], .s (.take 0 (.take 1 (.take 2 (.take 3 (.take 4 (.take 5 (.take 6 (.take 7 (.take 8 .done))))))))), .s (.take 0 (.take 1 (.take 2 (.take 3 (.take 4 (.take 5 (.take 6 (.take 7 (.take 8 (.take 9 .done))))))))))] = some c_spec_l06Before := by kernel_rfl
abbrev f_spec_l06Columns : FuncId := 118
def c_spec_l06Columns : AF := ⟨2, 61, [.t 4],
 (.seq (.reg [(Iq 4 (.mv (.c (.slice none 0 0))))])
 (.seq (.reg [(Im 13 (.bsl 1 [])),
 (Iq 5 (.mv (.t 13))),
 (Iq 6 (.mv (.c (.int .i64 1))))])
 (.seq (.seq (.reg [(Iq 7 (.mv (.c (.int .i64 0))))])
 (.block 0 (.loop [0, 1, 5, 6, 7] (.seq (.seq (.reg [(Iq 14 (.mv (.t 7))),
 (Iq 15 (.mv (.t 1))),
 (Iq 16 (.bin .lss (.t 14) (.t 15)))])
 (.cond (.t 16)
 .skip
 (.exit 0)))
 (.seq (.block 1 (.reg [(Iq 19 (.mv (.t 6))),
 (Iq 20 (.mv (.t 0))),
 (Iq 21 (.bin .mul (.t 19) (.t 20))),
 (Iq 6 (.mv (.t 21)))]))
 (.reg [(Iq 17 (.mv (.t 7))),
 (Iq 18 (.bin .add (.t 17) (.c (.int .i64 1)))),
 (Iq 7 (.mv (.t 18)))]))))))
 (.seq (.seq (.reg [(Iq 8 (.mv (.c (.int .i64 1))))])
 (.block 2 (.loop [0, 1, 5, 6, 8] (.seq (.seq (.reg [(Iq 22 (.mv (.t 8))),
 (Iq 23 (.mv (.t 6))),
 (Iq 24 (.bin .lss (.t 22) (.t 23)))])
 (.cond (.t 24)
 .skip
 (.exit 2)))
 (.seq (.block 3 (.seq (.reg [(Iq 27 (.mv (.t 1))),
 (Im 28 (.mks 1 (.v (.int .i64 0)) 8 (.t 27) (.t 27))),
 (Iq 29 (.mv (.t 8))),
 (Iq 9 (.mv (.t 28))),
 (Iq 10 (.mv (.t 29))),
 (Iq 11 (.mv (.c (.int .i64 0))))])
 (.seq (.seq (.reg [(Iq 30 (.mv (.t 1))),
 (Iq 31 (.bin .sub (.t 30) (.c (.int .i64 1)))),
 (Iq 12 (.mv (.t 31)))])
 (.block 4 (.loop [0, 1, 5, 6, 8, 9, 10, 11, 12] (.seq (.seq (.reg [(Iq 32 (.mv (.t 12))),
 (Iq 33 (.bin .geq (.t 32) (.c (.int .i64 0))))])
 (.cond (.t 33)
 .skip
 (.exit 4)))
 (.seq (.block 5 (.seq (.reg [(Iq 36 (.mv (.t 9))),
 (Iq 37 (.mv (.t 12))),
 (Iq 38 (.mv (.t 10))),
 (Iq 39 (.mv (.t 0))),
 (Iq 40 (.bin .rem (.t 38) (.t 39))),
 (Iq 41 (.ixs 1 (.t 36) (.t 37))),
 ⟨none, none, .m (.st false 1 (.t 41) (.t 40))⟩])
 (.seq (.reg [(Iq 42 (.mv (.t 10))),
 (Iq 43 (.mv (.t 0))),
 (Iq 44 (.bin .quo (.t 42) (.t 43))),
 (Iq 10 (.mv (.t 44)))])
 (.seq (.reg [(Iq 45 (.mv (.t 9))),
 (Iq 46 (.mv (.t 12))),
 (Iq 47 (.ixs 1 (.t 45) (.t 46))),
 (Iq 48 (.ld false 1 (.t 47))),
 (Iq 49 (.bin .neq (.t 48) (.c (.int .i64 0))))])
 (.cond (.t 49)
 (.reg [(Iq 50 (.mv (.t 9))),
 (Iq 51 (.mv (.t 12))),
 (Iq 52 (.ixs 1 (.t 50) (.t 51))),
 (Iq 53 (.ld false 1 (.t 52))),
 (Iq 11 (.mv (.t 53)))])
 .skip)))))
 (.reg [(Iq 34 (.mv (.t 12))),
 (Iq 35 (.bin .sub (.t 34) (.c (.int .i64 1)))),
 (Iq 12 (.mv (.t 35)))]))))))
 (.seq (.reg [(Iq 54 (.mv (.t 11))),
 (Iq 55 (.bin .eql (.t 54) (.c (.int .i64 1))))])
 (.cond (.t 55)
 (.reg [(Iq 56 (.mv (.t 5))),
 (Iq 57 (.mv (.t 9))),
 (Im 58 (.bsl 1 [(.t 57)])),
 (Im 59 (.app 1 24 (.t 56) (.t 58))),
 (Iq 5 (.mv (.t 59)))])
 .skip)))))
 (.reg [(Iq 25 (.mv (.t 8))),
 (Iq 26 (.bin .add (.t 25) (.c (.int .i64 1)))),
 (Iq 8 (.mv (.t 26)))]))))))
 (.seq (.reg [(Iq 60 (.mv (.t 5))),
 (Iq 4 (.mv (.t 60)))])
 .ret)))))⟩
theorem l_spec_l06Columns : lowF PA f_spec_l06Columns 2 [.k [0, 1, 5, 6, 7], .k [0, 1, 5, 6, 8], .k [0, 1, 5, 6, 8, 9, 10, 11, 12]] = some c_spec_l06Columns := by kernel_rfl
abbrev f_impl_places : FuncId := 119
def c_impl_places : AF := ⟨1, 6, [.t 2],
 (.seq (.reg [(Im 1 (.box (.t 0))),
 (Iq 2 (.mv (.c (.int .i64 0))))])
 (.seq (.reg [(Iq 3 (.fad 0 (.t 1))),
 (Iq 4 (.ld false 1 (.t 3))),
 (Iq 5 (.len (.t 4))),
 (Iq 2 (.mv (.t 5)))])
 .ret))⟩
theorem l_impl_places : lowF PA f_impl_places 1 [] = some c_impl_places := by kernel_rfl
abbrev f_slices_Index___impl_digits_impl_digits_ : FuncId := 120
def c_slices_Index___impl_digits_impl_digits_ : AF := ⟨2, 19, [.t 4],
 (.seq (.reg [(Im 3 (.box (.t 1))),
 (Iq 4 (.mv (.c (.int .i64 0))))])
 (.seq (.seq (.reg [(Iq 6 (.mv (.t 0))),
 (Iq 7 (.len (.t 6))),
 (Iq 8 (.mv (.c (.int .i64 0))))])
 (.block 0 (.loop [0, 3, 7, 8] (.seq (.reg [(Iq 9 (.bin .lss (.t 8) (.t 7)))])
 (.seq (.cond (.t 9)
 .skip
 (.exit 0))
 (.seq (.block 1 (.seq (.reg [(Iq 10 (.mv (.t 8))),
 (Iq 5 (.mv (.t 10)))])
 (.seq (.sch (.take 0 (Iq 11 (.ld true 8 (.t 3))) (.take 1 (Iq 12 (.mv (.t 0))) (.take 2 (Iq 13 (.mv (.t 5))) (.take 3 (Iq 14 (.ixs 8 (.t 12) (.t 13))) (.take 4 (Iq 15 (.ld true 8 (.t 14))) (.take 5 (Iq 16 (.eqg 8 .u8 false (.t 11) (.t 15))) .done)))))))
 (.cond (.t 16)
 (.seq (.reg [(Iq 17 (.mv (.t 5))),
 (Iq 4 (.mv (.t 17)))])
 .ret)
 .skip))))
 (.reg [(Iq 18 (.bin .add (.t 8) (.c (.int .i64 1)))),
 (Iq 8 (.mv (.t 18)))])))))))
 (.seq (.reg [(Iq 4 (.mv (.c (.int .i64 (-1)))))])
 .ret)))⟩
theorem l_slices_Index___impl_digits_impl_digits_ : lowF PA f_slices_Index___impl_digits_impl_digits_ 2 [.k [0, 3, 7, 8], .s (.take 0 (.take 1 (.take 2 (.take 3 (.take 4 (.take 5 .done))))))] = some c_slices_Index___impl_digits_impl_digits_ := by kernel_rfl
abbrev f_spec_l02Times : FuncId := 121
def c_spec_l02Times : AF := ⟨3, 43, [.t 6],
 (.seq (.reg [(Im 3 (.box (.t 0))),
 (Iq 6 (.mv (.c (.slice none 0 0))))])
 (.seq (.reg [(Iq 11 (.ld true 1 (.t 3))),
 (Ic 12 (.call 41 [(.t 11)])),
 (Im 13 (.mks 1 (.v (.int .i64 0)) 8 (.t 12) (.t 12))),
 (Iq 7 (.mv (.t 13)))])
 (.seq (.seq (.reg [(Iq 8 (.mv (.c (.int .i64 0))))])
 (.block 0 (.loop [1, 2, 3, 7, 8] (.seq (.seq (.reg [(Iq 14 (.mv (.t 8))),
 (Iq 15 (.mv (.t 1))),
 (Iq 16 (.len (.t 15))),
 (Iq 17 (.bin .lss (.t 14) (.t 16)))])
 (.cond (.t 17)
 .skip
 (.exit 0)))
 (.seq (.block 1 (.seq (.sch (.take 0 (Iq 20 (.ld true 1 (.t 3))) (.take 1 (Iq 21 (.mv (.t 1))) (.take 2 (Iq 22 (.mv (.t 8))) (.take 3 (Iq 23 (.ixs 1 (.t 21) (.t 22))) (.take 4 (Iq 24 (.ld false 1 (.t 23))) (.take 5 (Iq 25 (.mv (.t 2))) (.one (Ic 26 (.call 89 [(.t 20), (.t 24), (.t 25)])) [4, 0] (.take 7 (Iq 9 (.mv (.t 26))) .done)))))))))
 (.seq (.reg [(Iq 10 (.mv (.c (.int .i64 0))))])
 (.block 2 (.loop [1, 2, 3, 7, 8, 9, 10] (.seq (.seq (.reg [(Iq 27 (.mv (.t 10))),
 (Iq 28 (.mv (.t 9))),
 (Iq 29 (.len (.t 28))),
 (Iq 30 (.bin .lss (.t 27) (.t 29)))])
 (.cond (.t 30)
 .skip
 (.exit 2)))
 (.seq (.block 3 (.reg [(Iq 33 (.mv (.t 7))),
 (Iq 34 (.mv (.t 9))),
 (Iq 35 (.mv (.t 10))),
 (Iq 36 (.ixs 1 (.t 34) (.t 35))),
 (Iq 37 (.ld false 1 (.t 36))),
 (Iq 38 (.ixs 1 (.t 33) (.t 37))),
 (Iq 39 (.ld false 1 (.t 38))),
 (Iq 40 (.bin .add (.t 39) (.c (.int .i64 1)))),
 (Iq 41 (.ixs 1 (.t 33) (.t 37))),
 ⟨none, none, .m (.st false 1 (.t 41) (.t 40))⟩]))
 (.reg [(Iq 31 (.mv (.t 10))),
 (Iq 32 (.bin .add (.t 31) (.c (.int .i64 1)))),
 (Iq 10 (.mv (.t 32)))]))))))))
 (.reg [(Iq 18 (.mv (.t 8))),
 (Iq 19 (.bin .add (.t 18) (.c (.int .i64 1)))),
 (Iq 8 (.mv (.t 19)))]))))))
 (.seq (.reg [(Iq 42 (.mv (.t 7))),
 (Iq 6 (.mv (.t 42)))])
 .ret))))⟩
theorem l_spec_l02Times : lowF PA f_spec_l02Times 3 [.k [1, 2, 3, 7, 8], .s (.take 0 (.take 1 (.take 2 (.take 3 (.take 4 (.take 5 (.one 6 (.take 7 .done)))))))), .k [1, 2, 3, 7, 8, 9, 10]] = some c_spec_l02Times := by kernel_rfl
abbrev f_impl_allDigits : FuncId := 122
def c_impl_allDigits : AF := ⟨1, 19, [.t 2],
 (.seq (.reg [(Im 1 (.box (.t 0))),
 (Iq 2 (.mv (.c (.slice none 0 0))))])
 (.seq (.reg [(Im 5 (.bsl 8 [])),
 (Iq 3 (.mv (.t 5)))])
 (.seq (.seq (.reg [(Iq 6 (.ld true 1 (.t 1))),
 (Ic 7 (.call 27 [(.t 6)])),
 (Iq 8 (.mv (.c (.int .i64 0))))])
 (.block 0 (.loop [1, 3, 7, 8] (.seq (.reg [(Iq 9 (.bin .lss (.t 8) (.t 7)))])
 (.seq (.cond (.t 9)
 .skip
 (.exit 0))
 (.seq (.block 1 (.seq (.reg [(Iq 10 (.mv (.t 8))),
 (Iq 4 (.mv (.t 10)))])
 (.reg [(Iq 11 (.mv (.t 3))),
 (Iq 12 (.ld true 1 (.t 1))),
 (Iq 13 (.mv (.t 4))),
 (Ic 14 (.call 33 [(.t 12), (.t 13)])),
 (Im 15 (.bsl 8 [(.t 14)])),
 (Im 16 (.app 8 8 (.t 11) (.t 15))),
 (Iq 3 (.mv (.t 16)))])))
 (.reg [(Iq 17 (.bin .add (.t 8) (.c (.int .i64 1)))),
 (Iq 8 (.mv (.t 17)))])))))))
 (.seq (.reg [(Iq 18 (.mv (.t 3))),
 (Iq 2 (.mv (.t 18)))])
 .ret))))⟩
theorem l_impl_allDigits : lowF PA f_impl_allDigits 1 [.k [1, 3, 7, 8]] = some c_impl_allDigits := by kernel_rfl
abbrev f_impl_areWords : FuncId := 123
def c_impl_areWords : AF := ⟨2, 24, [.t 4],
 (.seq (.reg [(Im 2 (.box (.t 0))),
 (Iq 4 (.mv (.c (.bool false))))])
 (.seq (.reg [(Iq 8 (.ld true 1 (.t 2))),
 (Ic 9 (.call 27 [(.t 8)])),
 (Iq 5 (.mv (.t 9)))])
 (.seq (.seq (.reg [(Iq 10 (.mv (.t 1))),
 (Iq 11 (.len (.t 10))),
 (Iq 12 (.mv (.c (.int .i64 0))))])
 (.block 0 (.loop [5, 10, 11, 12] (.seq (.reg [(Iq 13 (.bin .lss (.t 12) (.t 11)))])
 (.seq (.cond (.t 13)
 .skip
 (.exit 0))
 (.seq (.block 1 (.seq (.reg [(Iq 14 (.ixs 1 (.t 10) (.t 12))),
 (Iq 15 (.ld false 1 (.t 14))),
 (Iq 7 (.mv (.t 15)))])
 (.seq (.reg [(Iq 16 (.mv (.t 7))),
 (Iq 17 (.bin .lss (.t 16) (.c (.int .i64 0)))),
 (Iq 18 (.mv (.t 17))),
 ⟨(some 19), (some (18, false)), .q (.mv (.t 7))⟩,
 ⟨(some 20), (some (18, false)), .q (.mv (.t 5))⟩,
 ⟨(some 21), (some (18, false)), .q (.bin .geq (.t 19) (.t 20))⟩,
 (Iq 22 (.pick (.t 18) (.c (.bool true)) (.t 21)))])
 (.cond (.t 22)
 (.seq (.reg [(Iq 4 (.mv (.c (.bool false))))])
 .ret)
 .skip))))
 (.reg [(Iq 23 (.bin .add (.t 12) (.c (.int .i64 1)))),
 (Iq 12 (.mv (.t 23)))])))))))
 (.seq (.reg [(Iq 4 (.mv (.c (.bool true))))])
 .ret))))⟩
theorem l_impl_areWords : lowF PA f_impl_areWords 2 [.k [5, 10, 11, 12]] = some c_impl_areWords := by kernel_rfl
abbrev f_slices_insertionSortOrdered_int64_ : FuncId := 124
abbrev f_slices_heapSortOrdered_int64_ : FuncId := 125
abbrev f_slices_breakPatternsOrdered_int64_ : FuncId := 126
abbrev f_slices_choosePivotOrdered_int64_ : FuncId := 127
abbrev f_slices_reverseRangeOrdered_int64_ : FuncId := 128
abbrev f_slices_partialInsertionSortOrdered_int64_ : FuncId := 129
abbrev f_cmp_Less_int64_ : FuncId := 130
abbrev f_slices_partitionEqualOrdered_int64_ : FuncId := 131
abbrev f_slices_partitionOrdered_int64_ : FuncId := 132
abbrev f_math_bits_Len32 : FuncId := 133
abbrev f_math_bits_Len64 : FuncId := 134
abbrev f_slices_siftDownOrdered_int64_ : FuncId := 135
abbrev f_slices_nextPowerOfTwo : FuncId := 136
abbrev f___slices_xorshift__Next : FuncId := 137
abbrev f_slices_medianAdjacentOrdered_int64_ : FuncId := 138
abbrev f_slices_medianOrdered_int64_ : FuncId := 139
abbrev f_slices_order2Ordered_int64_ : FuncId := 140
def sort_ren : Go.Shelf.Ren := ⟨fun | 5 => 73 | 8 => 110 | 7 => 109 | 19 => 133 | 20 => 134 | 10 => 124 | 11 => 125 | 12 => 126 | 13 => 127 | 14 => 128 | 15 => 129 | 16 => 130 | 17 => 131 | 18 => 132 | 30 => 135 | 31 => 136 | 32 => 137 | 33 => 138 | 34 => 139 | 35 => 116 | 40 => 140 | n => n, fun | 23 => 24 | 25 => 2 | 3 => 3 | 32 => 91 | 22 => 24 | 0 => 0 | 44 => 131 | 46 => 88 | 4 => 4 | 36 => 123 | 35 => 122 | 41 => 128 | 5 => 5 | 9 => 9 | 53 => 133 | 57 => 137 | 63 => 139 | 64 => 140 | n => n, fun | n => n⟩
theorem sort_lay : Go.Proofs.SlLaysM.n5 Tryz.prog sort_ren := {
  mixed := by kernel_rfl
  f5 := ⟨Tryz.f73.name, by decide, Tryz.func73.trans (congrArg some (by kernel_rfl))⟩
  f7 := ⟨Tryz.f109.name, by decide, Tryz.func109.trans (congrArg some (by kernel_rfl))⟩
  f8 := Tryz.func110.trans (congrArg some (by kernel_rfl))
  f10 := ⟨Tryz.f124.name, by decide, Tryz.func124.trans (congrArg some (by kernel_rfl))⟩
  f11 := ⟨Tryz.f125.name, by decide, Tryz.func125.trans (congrArg some (by kernel_rfl))⟩
  f12 := ⟨Tryz.f126.name, by decide, Tryz.func126.trans (congrArg some (by kernel_rfl))⟩
  f13 := ⟨Tryz.f127.name, by decide, Tryz.func127.trans (congrArg some (by kernel_rfl))⟩
  f14 := ⟨Tryz.f128.name, by decide, Tryz.func128.trans (congrArg some (by kernel_rfl))⟩
  f15 := ⟨Tryz.f129.name, by decide, Tryz.func129.trans (congrArg some (by kernel_rfl))⟩
  f16 := ⟨Tryz.f130.name, by decide, Tryz.func130.trans (congrArg some (by kernel_rfl))⟩
  f17 := ⟨Tryz.f131.name, by decide, Tryz.func131.trans (congrArg some (by kernel_rfl))⟩
  f18 := ⟨Tryz.f132.name, by decide, Tryz.func132.trans (congrArg some (by kernel_rfl))⟩
  f19 := Tryz.func133.trans (congrArg some (by kernel_rfl))
  f20 := Tryz.func134.trans (congrArg some (by kernel_rfl))
  f30 := ⟨Tryz.f135.name, by decide, Tryz.func135.trans (congrArg some (by kernel_rfl))⟩
  f31 := Tryz.func136.trans (congrArg some (by kernel_rfl))
  f32 := Tryz.func137.trans (congrArg some (by kernel_rfl))
  f33 := ⟨Tryz.f138.name, by decide, Tryz.func138.trans (congrArg some (by kernel_rfl))⟩
  f34 := ⟨Tryz.f139.name, by decide, Tryz.func139.trans (congrArg some (by kernel_rfl))⟩
  f35 := ⟨Tryz.f116.name, by decide, Tryz.func116.trans (congrArg some (by kernel_rfl))⟩
  f40 := ⟨Tryz.f140.name, by decide, Tryz.func140.trans (congrArg some (by kernel_rfl))⟩
  t0 := Tryz.underlying0
  a0 := Tryz.isAgg0
  z0 := Tryz.sizeOf0
  v0 := Tryz.zeroValue0
  t3 := Tryz.underlying3
  a3 := Tryz.isAgg3
  z3 := Tryz.sizeOf3
  v3 := Tryz.zeroValue3
  t4 := Tryz.underlying4
  a4 := Tryz.isAgg4
  z4 := Tryz.sizeOf4
  v4 := Tryz.zeroValue4
  t5 := Tryz.underlying5
  a5 := Tryz.isAgg5
  z5 := Tryz.sizeOf5
  v5 := Tryz.zeroValue5
  t9 := Tryz.underlying9
  a9 := Tryz.isAgg9
  z9 := Tryz.sizeOf9
  v9 := Tryz.zeroValue9
  t22 := Tryz.underlying24
  a22 := Tryz.isAgg24
  z22 := Tryz.sizeOf24
  v22 := Tryz.zeroValue24
  t23 := Tryz.underlying24
  a23 := Tryz.isAgg24
  z23 := Tryz.sizeOf24
  v23 := Tryz.zeroValue24
  t25 := Tryz.underlying2
  a25 := Tryz.isAgg2
  z25 := Tryz.sizeOf2
  v25 := Tryz.zeroValue2
  t32 := Tryz.underlying91
  a32 := Tryz.isAgg91
  z32 := Tryz.sizeOf91
  v32 := Tryz.zeroValue91
  t35 := Tryz.underlying122
  a35 := Tryz.isAgg122
  z35 := Tryz.sizeOf122
  v35 := Tryz.zeroValue122
  t36 := Tryz.underlying123
  a36 := Tryz.isAgg123
  z36 := Tryz.sizeOf123
  v36 := Tryz.zeroValue123
  t41 := Tryz.underlying128
  a41 := Tryz.isAgg128
  z41 := Tryz.sizeOf128
  v41 := Tryz.zeroValue128
  t44 := Tryz.underlying131
  a44 := Tryz.isAgg131
  z44 := Tryz.sizeOf131
  v44 := Tryz.zeroValue131
  t46 := Tryz.underlying88
  a46 := Tryz.isAgg88
  z46 := Tryz.sizeOf88
  v46 := Tryz.zeroValue88
  t53 := Tryz.underlying133
  a53 := Tryz.isAgg133
  z53 := Tryz.sizeOf133
  v53 := Tryz.zeroValue133
  t57 := Tryz.underlying137
  a57 := Tryz.isAgg137
  z57 := Tryz.sizeOf137
  v57 := Tryz.zeroValue137
  t63 := Tryz.underlying139
  a63 := Tryz.isAgg139
  z63 := Tryz.sizeOf139
  v63 := Tryz.zeroValue139
  t64 := Tryz.underlying140
  a64 := Tryz.isAgg140
  z64 := Tryz.sizeOf140
  v64 := Tryz.zeroValue140 }
theorem sort_calls : SortCalls PA f_slices_Sort___int64_int64_ := fun blk off cap zs w h1 h2 h3 => AnyM.slices_Sort_int sort_lay blk off cap zs w h1 h2 h3
end Go.Proofs.YtgmocipfgfnolacGreat.Va
