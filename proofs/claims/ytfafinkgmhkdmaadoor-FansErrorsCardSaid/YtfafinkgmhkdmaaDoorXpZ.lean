/-
 The functions of the translation, with types resolved (made by a program).
-/
import Derived.Test.YtfafinkgmhkdmaaDoorProg
import Derived.Test.YtfafinkgmhkdmaaDoorAb5
import Derived.KernelRfl
set_option linter.unusedVariables false
set_option maxRecDepth 1000000
namespace Go.Proofs.YtfafinkgmhkdmaaDoor.X
open Go Go.Ab

abbrev o (d : Nat) (x : XOp) : XO := ⟨some d, x, none⟩
abbrev oi (d g : Nat) (b : Bool) (x : XOp) : XO := ⟨some d, x, some (g, b)⟩
abbrev ki (n : Int) : Opd := .c (.int .i64 n)
abbrev ku (n : Int) : Opd := .c (.int .u8 n)
abbrev tt (n : Nat) : Opd := .t n

/- 10 crimp/crimplaw12.FansErrors -/
def hs10 : Hints := [(0, ([], [0, 1, 6])), (1, ([], [23, 24, 25, 26, 27, 28, 29, 30, 31, 32, 33, 34, 35, 36, 37, 38, 39, 40, 41, 42, 43])), (2, ([], [2, 3, 4, 44, 45])), (3, ([], [6, 44])), (6, ([], [46, 47, 48, 49])), (8, ([], [50, 53, 54, 55, 56, 57, 58, 59])), (9, ([], [66])), (10, ([], [66, 67, 68, 69, 70, 71, 72, 73])), (7, ([], [51, 52])), (11, ([], [9])), (12, ([], [74, 75, 76, 77])), (14, ([], [78, 81, 82, 83, 84, 85, 86, 87])), (15, ([], [94])), (13, ([], [94, 79, 80])), (16, ([], [93, 92, 91, 89, 90, 88, 10, 95])), (17, ([], [96])), (18, ([], [96, 97, 98, 99, 100, 101, 102])), (19, ([], [103])), (20, ([], [8, 114, 109, 113, 112, 111, 110, 108, 107, 103, 104, 105, 106, 115])), (21, ([], [116])), (22, ([], [121, 120, 117, 118, 119])), (23, ([], [131, 128, 130, 129, 127, 126, 122])), (24, ([], [131, 128, 130, 129, 127, 126, 122, 123, 124, 125])), (25, ([], [132])), (26, ([], [2, 132, 134, 135, 136, 133, 137, 138])), (27, ([], [140, 141, 139, 142, 143])), (28, ([], [145, 146, 144, 147, 148])), (29, ([], [163, 159, 162, 161, 160, 158, 157, 149, 150, 151, 152, 153, 154, 155, 156, 164])), (31, ([], [165, 166, 167, 168, 169, 170])), (33, ([0, 1, 2, 3, 4, 5, 6, 7, 8, 9, 10, 11], [172, 175, 176, 177, 178, 179, 180, 181, 182, 183, 184, 185])), (32, ([], [173, 174])), (34, ([], [171, 20])), (35, ([], [186, 187, 188, 189, 190, 191])), (37, ([0, 1, 2, 3, 4, 5, 6, 7, 8, 9, 10, 11], [193, 196, 197, 198, 199, 200, 201, 202, 203, 204, 205, 206])), (36, ([], [194, 195])), (38, ([], [4, 251, 248, 250, 249, 247, 246, 243, 242, 240, 241, 237, 235, 236, 233, 234, 230, 228, 229, 225, 223, 224, 220, 218, 219, 215, 213, 214, 212, 192, 11, 14, 16, 18, 19, 21, 207, 208, 209, 210, 211, 216, 217, 221, 222, 226, 227, 231, 232, 238, 239, 244, 245])), (39, ([], [3, 7, 292, 289, 272, 288, 287, 283, 286, 285, 284, 279, 282, 281, 280, 275, 278, 277, 276, 274, 273, 271, 270, 267, 262, 266, 265, 264, 263, 261, 260, 12, 13, 15, 17, 252])), (40, ([], [6, 252, 253, 254, 255])), (41, ([], [3, 7, 292, 289, 272, 288, 287, 283, 286, 285, 284, 279, 282, 281, 280, 275, 278, 277, 276, 274, 273, 271, 270, 267, 262, 266, 265, 264, 263, 261, 260, 12, 13, 15, 17, 22, 256, 257, 258, 259, 268, 269, 290, 291, 293]))]
def xc10 : XC :=
 (.seq
 (.reg 64 [
 o 3 (.box (.t 0)),
 o 4 (.box (.t 1)),
 o 6 (.mv (.c (.bool false)))] [0, 1, 6])
 (.seq
 (.seq
 (.reg 128 [
 o 23 (.fieldA 0 (.t 3)),
 o 24 (.load none (.t 23)),
 o 25 (.len (.t 24)),
 o 26 (.bin .gtr (.t 25) (ki 12)),
 o 27 (.mv (.t 26)),
 oi 28 27 false (.fieldA 1 (.t 3)),
 oi 29 27 false (.load none (.t 28)),
 oi 30 27 false (.len (.t 29)),
 oi 31 27 false (.bin .gtr (.t 30) (ki 12)),
 o 32 (.pick (.t 27) (.c (.bool true)) (.t 31)),
 o 33 (.mv (.t 32)),
 oi 34 33 false (.fieldA 0 (.t 4)),
 oi 35 33 false (.load none (.t 34)),
 oi 36 33 false (.len (.t 35)),
 oi 37 33 false (.bin .gtr (.t 36) (ki 12)),
 o 38 (.pick (.t 33) (.c (.bool true)) (.t 37)),
 o 39 (.mv (.t 38)),
 oi 40 39 false (.fieldA 1 (.t 4)),
 oi 41 39 false (.load none (.t 40)),
 oi 42 39 false (.len (.t 41)),
 oi 43 39 false (.bin .gtr (.t 42) (ki 12)),
 o 44 (.pick (.t 39) (.c (.bool true)) (.t 43))] [23, 24, 25, 26, 27, 28, 29, 30, 31, 32, 33, 34, 35, 36, 37, 38, 39, 40, 41, 42, 43])
 (.cond (.t 44)
 (.seq
 (.reg 192 [
 o 45 (.call 27 []),
 o 6 (.mv (.t 45))] [2, 3, 4, 44, 45])
 .ret)
 .skip))
 (.seq
 (.reg 256 [
 o 7 (.mv (ki 0))] [6, 44])
 (.seq
 (.reg 320 [
 o 8 (.mv (ki 0))] [])
 (.seq
 (.seq
 (.reg 384 [
 o 9 (.mv (ki 0))] [])
 (.block 0
 (.loop
 (.seq
 (.seq
 (.reg 448 [
 o 46 (.mv (.t 9)),
 o 47 (.fieldA 0 (.t 3)),
 o 48 (.load none (.t 47)),
 o 49 (.len (.t 48)),
 o 50 (.bin .lss (.t 46) (.t 49))] [46, 47, 48, 49])
 (.cond (.t 50)
 .skip
 (.exit 0)))
 (.seq
 (.block 1
 (.seq
 (.reg 576 [
 o 53 (.fieldA 0 (.t 3)),
 o 54 (.load none (.t 53)),
 o 55 (.mv (.t 9)),
 o 56 (.idxA none 1 (.t 54) (.t 55)),
 o 57 (.load none (.t 56)),
 o 58 (.bin .lss (.t 57) (ki 1)),
 o 59 (.mv (.t 58)),
 oi 60 59 false (.fieldA 0 (.t 3)),
 oi 61 59 false (.load none (.t 60)),
 oi 62 59 false (.mv (.t 9)),
 oi 63 59 false (.idxA none 1 (.t 61) (.t 62)),
 oi 64 59 false (.load none (.t 63)),
 oi 65 59 false (.bin .gtr (.t 64) (ki 8)),
 o 66 (.pick (.t 59) (.c (.bool true)) (.t 65))] [50, 53, 54, 55, 56, 57, 58, 59])
 (.cond (.t 66)
 (.reg 640 [
 o 7 (.mv (ki 1))] [66])
 (.reg 704 [
 o 67 (.mv (.t 8)),
 o 68 (.fieldA 0 (.t 3)),
 o 69 (.load none (.t 68)),
 o 70 (.mv (.t 9)),
 o 71 (.idxA none 1 (.t 69) (.t 70)),
 o 72 (.load none (.t 71)),
 o 73 (.bin .add (.t 67) (.t 72)),
 o 8 (.mv (.t 73))] [66, 67, 68, 69, 70, 71, 72, 73]))))
 (.reg 512 [
 o 51 (.mv (.t 9)),
 o 52 (.bin .add (.t 51) (ki 1)),
 o 9 (.mv (.t 52))] [51, 52]))))))
 (.seq
 (.seq
 (.reg 768 [
 o 10 (.mv (ki 0))] [9])
 (.block 2
 (.loop
 (.seq
 (.seq
 (.reg 832 [
 o 74 (.mv (.t 10)),
 o 75 (.fieldA 1 (.t 3)),
 o 76 (.load none (.t 75)),
 o 77 (.len (.t 76)),
 o 78 (.bin .lss (.t 74) (.t 77))] [74, 75, 76, 77])
 (.cond (.t 78)
 .skip
 (.exit 2)))
 (.seq
 (.block 3
 (.seq
 (.reg 960 [
 o 81 (.fieldA 1 (.t 3)),
 o 82 (.load none (.t 81)),
 o 83 (.mv (.t 10)),
 o 84 (.idxA none 1 (.t 82) (.t 83)),
 o 85 (.load none (.t 84)),
 o 86 (.bin .lss (.t 85) (ku 1)),
 o 87 (.mv (.t 86)),
 oi 88 87 false (.fieldA 1 (.t 3)),
 oi 89 87 false (.load none (.t 88)),
 oi 90 87 false (.mv (.t 10)),
 oi 91 87 false (.idxA none 1 (.t 89) (.t 90)),
 oi 92 87 false (.load none (.t 91)),
 oi 93 87 false (.bin .gtr (.t 92) (ku 3)),
 o 94 (.pick (.t 87) (.c (.bool true)) (.t 93))] [78, 81, 82, 83, 84, 85, 86, 87])
 (.cond (.t 94)
 (.reg 1024 [
 o 7 (.mv (ki 1))] [94])
 .skip)))
 (.reg 896 [
 o 79 (.mv (.t 10)),
 o 80 (.bin .add (.t 79) (ki 1)),
 o 10 (.mv (.t 80))] [94, 79, 80]))))))
 (.seq
 (.seq
 (.reg 1088 [
 o 95 (.mv (.t 8)),
 o 96 (.bin .gtr (.t 95) (ki 8))] [93, 92, 91, 89, 90, 88, 10, 95])
 (.cond (.t 96)
 (.reg 1152 [
 o 7 (.mv (ki 1))] [96])
 .skip))
 (.seq
 (.seq
 (.reg 1216 [
 o 97 (.fieldA 0 (.t 3)),
 o 98 (.load none (.t 97)),
 o 99 (.len (.t 98)),
 o 100 (.fieldA 1 (.t 3)),
 o 101 (.load none (.t 100)),
 o 102 (.len (.t 101)),
 o 103 (.bin .neq (.t 99) (.t 102))] [96, 97, 98, 99, 100, 101, 102])
 (.cond (.t 103)
 (.reg 1280 [
 o 7 (.mv (ki 5))] [103])
 .skip))
 (.seq
 (.reg 1344 [
 o 104 (.mv (.t 7)),
 o 105 (.bin .eql (.t 104) (ki 0)),
 o 106 (.mv (.t 105)),
 oi 107 106 true (.mv (.t 8)),
 oi 108 106 true (.bin .eql (.t 107) (ki 8)),
 oi 109 106 true (.mv (.t 108)),
 oi 110 109 false (.fieldA 0 (.t 3)),
 oi 111 109 false (.load none (.t 110)),
 oi 112 109 false (.len (.t 111)),
 oi 113 109 false (.bin .eql (.t 112) (ki 0)),
 oi 114 106 true (.pick (.t 109) (.c (.bool true)) (.t 113)),
 o 115 (.pick (.t 106) (.t 114) (.c (.bool false))),
 o 11 (.mv (.t 115))] [8, 114, 109, 113, 112, 111, 110, 108, 107, 103, 104, 105, 106, 115])
 (.seq
 (.reg 1408 [
 o 116 (.mv (.t 7)),
 o 12 (.mv (.t 116))] [116])
 (.seq
 (.seq
 (.reg 1472 [
 o 117 (.mv (.t 7)),
 o 118 (.bin .eql (.t 117) (ki 0)),
 o 119 (.mv (.t 118)),
 oi 120 119 true (.mv (.t 11)),
 oi 121 119 true (.un .not (.t 120)),
 o 122 (.pick (.t 119) (.t 121) (.c (.bool false)))] [121, 120, 117, 118, 119])
 (.cond (.t 122)
 (.reg 1536 [
 o 12 (.mv (ki 14))] [131, 128, 130, 129, 127, 126, 122])
 (.seq
 (.reg 1600 [
 o 123 (.mv (.t 7)),
 o 124 (.bin .eql (.t 123) (ki 0)),
 o 125 (.mv (.t 124)),
 oi 126 125 true (.mv (.t 2)),
 oi 127 125 true (.bin .lss (.t 126) (ki 0)),
 oi 128 125 true (.mv (.t 127)),
 oi 129 128 false (.mv (.t 2)),
 oi 130 128 false (.bin .gtr (.t 129) (ki 7)),
 oi 131 125 true (.pick (.t 128) (.c (.bool true)) (.t 130)),
 o 132 (.pick (.t 125) (.t 131) (.c (.bool false)))] [131, 128, 130, 129, 127, 126, 122, 123, 124, 125])
 (.cond (.t 132)
 (.reg 1664 [
 o 12 (.mv (ki 1))] [132])
 .skip))))
 (.seq
 (.reg 1728 [
 o 134 (.load (some 2) (.t 3)),
 o 135 (.mv (.t 2)),
 o 136 (.call 30 [(.t 134), (.t 135)]),
 o 133 (.mv (.t 136)),
 o 137 (.ext (.t 133) 0),
 o 138 (.ext (.t 133) 1),
 o 13 (.new (.cells [(.int .i64 0), (.int .i64 0), .nils]) 1 3),
 ⟨none, .store 3 (.t 13) (.t 137), none⟩,
 o 14 (.mv (.t 138))] [2, 132, 134, 135, 136, 133, 137, 138])
 (.seq
 (.reg 1792 [
 o 140 (.load (some 2) (.t 3)),
 o 141 (.call 19 [(.t 140), (ki 0)]),
 o 139 (.mv (.t 141)),
 o 142 (.ext (.t 139) 0),
 o 143 (.ext (.t 139) 1),
 o 15 (.new (.cells [.nils, .nils]) 1 2),
 ⟨none, .store 2 (.t 15) (.t 142), none⟩,
 o 16 (.mv (.t 143))] [140, 141, 139, 142, 143])
 (.seq
 (.reg 1856 [
 o 145 (.load (some 2) (.t 3)),
 o 146 (.call 28 [(.t 145)]),
 o 144 (.mv (.t 146)),
 o 147 (.ext (.t 144) 0),
 o 148 (.ext (.t 144) 1),
 o 17 (.new (.cells [.nils, .nils]) 1 2),
 ⟨none, .store 2 (.t 17) (.t 147), none⟩,
 o 18 (.mv (.t 148))] [145, 146, 144, 147, 148])
 (.seq
 (.reg 1920 [
 o 149 (.fieldA 0 (.t 3)),
 o 150 (.load none (.t 149)),
 o 151 (.len (.t 150)),
 o 152 (.fieldA 0 (.t 4)),
 o 153 (.load none (.t 152)),
 o 154 (.len (.t 153)),
 o 155 (.bin .eql (.t 151) (.t 154)),
 o 156 (.mv (.t 155)),
 oi 157 156 true (.fieldA 1 (.t 3)),
 oi 158 156 true (.load none (.t 157)),
 oi 159 156 true (.len (.t 158)),
 oi 160 156 true (.fieldA 1 (.t 4)),
 oi 161 156 true (.load none (.t 160)),
 oi 162 156 true (.len (.t 161)),
 oi 163 156 true (.bin .eql (.t 159) (.t 162)),
 o 164 (.pick (.t 156) (.t 163) (.c (.bool false))),
 o 19 (.mv (.t 164))] [163, 159, 162, 161, 160, 158, 157, 149, 150, 151, 152, 153, 154, 155, 156, 164])
 (.seq
 (.seq
 (.reg 1984 [
 o 20 (.mv (ki 0))] [])
 (.block 4
 (.loop
 (.seq
 (.seq
 (.reg 2048 [
 o 165 (.mv (.t 20)),
 o 166 (.fieldA 0 (.t 3)),
 o 167 (.load none (.t 166)),
 o 168 (.len (.t 167)),
 o 169 (.bin .lss (.t 165) (.t 168)),
 o 170 (.mv (.t 169)),
 oi 171 170 true (.mv (.t 19)),
 o 172 (.pick (.t 170) (.t 171) (.c (.bool false)))] [165, 166, 167, 168, 169, 170])
 (.cond (.t 172)
 .skip
 (.exit 4)))
 (.seq
 (.block 5
 (.draw 2176 [
 o 175 (.fieldA 0 (.t 3)),
 o 176 (.load none (.t 175)),
 o 177 (.mv (.t 20)),
 o 178 (.idxA none 1 (.t 176) (.t 177)),
 o 179 (.load none (.t 178)),
 o 180 (.fieldA 0 (.t 4)),
 o 181 (.load none (.t 180)),
 o 182 (.mv (.t 20)),
 o 183 (.idxA none 1 (.t 181) (.t 182)),
 o 184 (.load none (.t 183)),
 o 185 (.bin .eql (.t 179) (.t 184)),
 o 19 (.mv (.t 185))]
 [[], [0], [], [1, 2], [3], [], [5], [], [6, 7], [8], [4, 9], [10, 0, 1, 2, 3, 4, 5, 6, 7, 8, 9, 10]]
 [0, 1, 2, 3, 4, 5, 6, 7, 8, 9, 10, 11] [172, 175, 176, 177, 178, 179, 180, 181, 182, 183, 184, 185]))
 (.reg 2112 [
 o 173 (.mv (.t 20)),
 o 174 (.bin .add (.t 173) (ki 1)),
 o 20 (.mv (.t 174))] [173, 174]))))))
 (.seq
 (.seq
 (.reg 2240 [
 o 21 (.mv (ki 0))] [171, 20])
 (.block 6
 (.loop
 (.seq
 (.seq
 (.reg 2304 [
 o 186 (.mv (.t 21)),
 o 187 (.fieldA 1 (.t 3)),
 o 188 (.load none (.t 187)),
 o 189 (.len (.t 188)),
 o 190 (.bin .lss (.t 186) (.t 189)),
 o 191 (.mv (.t 190)),
 oi 192 191 true (.mv (.t 19)),
 o 193 (.pick (.t 191) (.t 192) (.c (.bool false)))] [186, 187, 188, 189, 190, 191])
 (.cond (.t 193)
 .skip
 (.exit 6)))
 (.seq
 (.block 7
 (.draw 2432 [
 o 196 (.fieldA 1 (.t 3)),
 o 197 (.load none (.t 196)),
 o 198 (.mv (.t 21)),
 o 199 (.idxA none 1 (.t 197) (.t 198)),
 o 200 (.load none (.t 199)),
 o 201 (.fieldA 1 (.t 4)),
 o 202 (.load none (.t 201)),
 o 203 (.mv (.t 21)),
 o 204 (.idxA none 1 (.t 202) (.t 203)),
 o 205 (.load none (.t 204)),
 o 206 (.bin .eql (.t 200) (.t 205)),
 o 19 (.mv (.t 206))]
 [[], [0], [], [1, 2], [3], [], [5], [], [6, 7], [8], [4, 9], [10, 0, 1, 2, 3, 4, 5, 6, 7, 8, 9, 10]]
 [0, 1, 2, 3, 4, 5, 6, 7, 8, 9, 10, 11] [193, 196, 197, 198, 199, 200, 201, 202, 203, 204, 205, 206]))
 (.reg 2368 [
 o 194 (.mv (.t 21)),
 o 195 (.bin .add (.t 194) (ki 1)),
 o 21 (.mv (.t 195))] [194, 195]))))))
 (.seq
 (.seq
 (.reg 2496 [
 o 207 (.load (some 2) (.t 3)),
 o 208 (.call 17 [(.t 207)]),
 o 209 (.mv (.t 7)),
 o 210 (.bin .neq (.t 208) (.t 209)),
 o 211 (.mv (.t 210)),
 oi 212 211 false (.load (some 2) (.t 3)),
 oi 213 211 false (.call 31 [(.t 212)]),
 oi 214 211 false (.mv (.t 11)),
 oi 215 211 false (.eqb true (.t 213) (.t 214)),
 o 216 (.pick (.t 211) (.c (.bool true)) (.t 215)),
 o 217 (.mv (.t 216)),
 oi 218 217 false (.mv (.t 14)),
 oi 219 217 false (.mv (.t 12)),
 oi 220 217 false (.bin .neq (.t 218) (.t 219)),
 o 221 (.pick (.t 217) (.c (.bool true)) (.t 220)),
 o 222 (.mv (.t 221)),
 oi 223 222 false (.mv (.t 16)),
 oi 224 222 false (.mv (.t 7)),
 oi 225 222 false (.bin .neq (.t 223) (.t 224)),
 o 226 (.pick (.t 222) (.c (.bool true)) (.t 225)),
 o 227 (.mv (.t 226)),
 oi 228 227 false (.mv (.t 18)),
 oi 229 227 false (.mv (.t 7)),
 oi 230 227 false (.bin .neq (.t 228) (.t 229)),
 o 231 (.pick (.t 227) (.c (.bool true)) (.t 230)),
 o 232 (.mv (.t 231)),
 oi 233 232 false (.load (some 2) (.t 3)),
 oi 234 232 false (.load (some 2) (.t 4)),
 oi 235 232 false (.call 32 [(.t 233), (.t 234)]),
 oi 236 232 false (.mv (.t 19)),
 oi 237 232 false (.eqb true (.t 235) (.t 236)),
 o 238 (.pick (.t 232) (.c (.bool true)) (.t 237)),
 o 239 (.mv (.t 238)),
 oi 240 239 false (.load (some 2) (.t 3)),
 oi 241 239 false (.load (some 2) (.t 3)),
 oi 242 239 false (.call 32 [(.t 240), (.t 241)]),
 oi 243 239 false (.un .not (.t 242)),
 o 244 (.pick (.t 239) (.c (.bool true)) (.t 243)),
 o 245 (.mv (.t 244)),
 oi 246 245 false (.load (some 2) (.t 3)),
 oi 247 245 false (.call 33 [(.t 246)]),
 oi 248 245 false (.bin .eql (.t 247) (.c (.str []))),
 oi 249 245 false (.mv (.t 7)),
 oi 250 245 false (.bin .neq (.t 249) (ki 0)),
 oi 251 245 false (.eqb true (.t 248) (.t 250)),
 o 252 (.pick (.t 245) (.c (.bool true)) (.t 251))] [4, 251, 248, 250, 249, 247, 246, 243, 242, 240, 241, 237, 235, 236, 233, 234, 230, 228, 229, 225, 223, 224, 220, 218, 219, 215, 213, 214, 212, 192, 11, 14, 16, 18, 19, 21, 207, 208, 209, 210, 211, 216, 217, 221, 222, 226, 227, 231, 232, 238, 239, 244, 245])
 (.cond (.t 252)
 (.seq
 (.reg 2560 [
 o 6 (.mv (.c (.bool false)))] [3, 7, 292, 289, 272, 288, 287, 283, 286, 285, 284, 279, 282, 281, 280, 275, 278, 277, 276, 274, 273, 271, 270, 267, 262, 266, 265, 264, 263, 261, 260, 12, 13, 15, 17, 252])
 .ret)
 .skip))
 (.seq
 (.reg 2624 [
 o 253 (.load (some 2) (.t 3)),
 o 254 (.call 20 [(.t 253)]),
 o 255 (.call 20 [(.t 254)]),
 o 22 (.new (.cells [.nils, .nils]) 1 2),
 ⟨none, .store 2 (.t 22) (.t 255), none⟩] [6, 252, 253, 254, 255])
 (.seq
 (.reg 2688 [
 o 256 (.load (some 2) (.t 22)),
 o 257 (.load (some 2) (.t 3)),
 o 258 (.call 26 [(.t 256), (.t 257)]),
 o 259 (.mv (.t 258)),
 oi 260 259 true (.mv (.t 12)),
 oi 261 259 true (.bin .eql (.t 260) (ki 0)),
 oi 262 259 true (.mv (.t 261)),
 oi 263 262 false (.fieldA 0 (.t 13)),
 oi 264 262 false (.fieldA 0 (.t 263)),
 oi 265 262 false (.load none (.t 264)),
 oi 266 262 false (.bin .eql (.t 265) (ki 0)),
 oi 267 259 true (.pick (.t 262) (.c (.bool true)) (.t 266)),
 o 268 (.pick (.t 259) (.t 267) (.c (.bool false))),
 o 269 (.mv (.t 268)),
 oi 270 269 true (.mv (.t 7)),
 oi 271 269 true (.bin .eql (.t 270) (ki 0)),
 oi 272 269 true (.mv (.t 271)),
 oi 273 272 false (.fieldA 0 (.t 15)),
 oi 274 272 false (.load none (.t 273)),
 oi 275 272 false (.len (.t 274)),
 oi 276 272 false (.fieldA 0 (.t 17)),
 oi 277 272 false (.load none (.t 276)),
 oi 278 272 false (.len (.t 277)),
 oi 279 272 false (.bin .add (.t 275) (.t 278)),
 oi 280 272 false (.fieldA 1 (.t 15)),
 oi 281 272 false (.load none (.t 280)),
 oi 282 272 false (.len (.t 281)),
 oi 283 272 false (.bin .add (.t 279) (.t 282)),
 oi 284 272 false (.fieldA 1 (.t 17)),
 oi 285 272 false (.load none (.t 284)),
 oi 286 272 false (.len (.t 285)),
 oi 287 272 false (.bin .add (.t 283) (.t 286)),
 oi 288 272 false (.bin .eql (.t 287) (ki 0)),
 oi 289 269 true (.pick (.t 272) (.c (.bool true)) (.t 288)),
 o 290 (.pick (.t 269) (.t 289) (.c (.bool false))),
 o 291 (.mv (.t 290)),
 oi 292 291 true (.call 27 []),
 o 293 (.pick (.t 291) (.t 292) (.c (.bool false))),
 o 6 (.mv (.t 293))] [3, 7, 292, 289, 272, 288, 287, 283, 286, 285, 284, 279, 282, 281, 280, 275, 278, 277, 276, 274, 273, 271, 270, 267, 262, 266, 265, 264, 263, 261, 260, 12, 13, 15, 17, 22, 256, 257, 258, 259, 268, 269, 290, 291, 293])
 .ret))))))))))))))))))))
def fe10 : FnE := ⟨294, [(6, none)], xc10⟩
theorem ok10 : FnOk Tryd.prog 10 fe10 := fnOk_of Tryd.func10 (by kernel_rfl : chkF Tryd.prog hs10 Tryd.f10 = some fe10)
/- 17 crimp/fans.Check -/
def hs17 : Hints := [(0, ([], [0, 2])), (1, ([], [6, 7, 8, 9, 10, 11])), (2, ([], [1, 12])), (3, ([], [2, 12])), (4, ([], [13])), (6, ([], [17, 18, 19, 20])), (7, ([], [4, 21, 22, 23, 28, 29, 36, 37])), (8, ([], [16, 3, 43, 42, 41, 39, 40, 38, 1, 35, 34, 33, 31, 32, 30, 27, 24, 26, 25, 14, 15, 5, 44])), (9, ([], [2, 5, 44, 45, 46, 47])), (10, ([], [48])), (11, ([], [1, 3, 14, 15, 16]))]
def xc17 : XC :=
 (.seq
 (.reg 64 [
 o 1 (.box (.t 0)),
 o 2 (.mv (ki 0))] [0, 2])
 (.seq
 (.seq
 (.reg 128 [
 o 6 (.fieldA 0 (.t 1)),
 o 7 (.load none (.t 6)),
 o 8 (.len (.t 7)),
 o 9 (.fieldA 1 (.t 1)),
 o 10 (.load none (.t 9)),
 o 11 (.len (.t 10)),
 o 12 (.bin .neq (.t 8) (.t 11))] [6, 7, 8, 9, 10, 11])
 (.cond (.t 12)
 (.seq
 (.reg 192 [
 o 2 (.mv (ki 5))] [1, 12])
 .ret)
 .skip))
 (.seq
 (.reg 256 [
 o 3 (.mv (ki 0))] [2, 12])
 (.seq
 (.seq
 (.reg 320 [
 o 13 (.fieldA 0 (.t 1)),
 o 14 (.load none (.t 13)),
 o 15 (.len (.t 14)),
 o 16 (.mv (ki 0))] [13])
 (.block 0
 (.loop
 (.seq
 (.reg 384 [
 o 17 (.bin .lss (.t 16) (.t 15))] [])
 (.seq
 (.cond (.t 17)
 .skip
 (.exit 0))
 (.seq
 (.block 1
 (.seq
 (.reg 448 [
 o 18 (.mv (.t 16)),
 o 19 (.idxA none 1 (.t 14) (.t 16)),
 o 20 (.load none (.t 19)),
 o 4 (.mv (.t 18)),
 o 5 (.mv (.t 20))] [17, 18, 19, 20])
 (.seq
 (.seq
 (.reg 512 [
 o 21 (.mv (.t 5)),
 o 22 (.bin .lss (.t 21) (ki 1)),
 o 23 (.mv (.t 22)),
 oi 24 23 false (.mv (.t 5)),
 oi 25 23 false (.mv (.t 3)),
 oi 26 23 false (.bin .sub (ki 8) (.t 25)),
 oi 27 23 false (.bin .gtr (.t 24) (.t 26)),
 o 28 (.pick (.t 23) (.c (.bool true)) (.t 27)),
 o 29 (.mv (.t 28)),
 oi 30 29 false (.fieldA 1 (.t 1)),
 oi 31 29 false (.load none (.t 30)),
 oi 32 29 false (.mv (.t 4)),
 oi 33 29 false (.idxA none 1 (.t 31) (.t 32)),
 oi 34 29 false (.load none (.t 33)),
 oi 35 29 false (.bin .lss (.t 34) (ku 1)),
 o 36 (.pick (.t 29) (.c (.bool true)) (.t 35)),
 o 37 (.mv (.t 36)),
 oi 38 37 false (.fieldA 1 (.t 1)),
 oi 39 37 false (.load none (.t 38)),
 oi 40 37 false (.mv (.t 4)),
 oi 41 37 false (.idxA none 1 (.t 39) (.t 40)),
 oi 42 37 false (.load none (.t 41)),
 oi 43 37 false (.bin .gtr (.t 42) (ku 3)),
 o 44 (.pick (.t 37) (.c (.bool true)) (.t 43))] [4, 21, 22, 23, 28, 29, 36, 37])
 (.cond (.t 44)
 (.seq
 (.reg 576 [
 o 2 (.mv (ki 1))] [16, 3, 43, 42, 41, 39, 40, 38, 1, 35, 34, 33, 31, 32, 30, 27, 24, 26, 25, 14, 15, 5, 44])
 .ret)
 .skip))
 (.reg 640 [
 o 45 (.mv (.t 3)),
 o 46 (.mv (.t 5)),
 o 47 (.bin .add (.t 45) (.t 46)),
 o 3 (.mv (.t 47))] [2, 5, 44, 45, 46, 47]))))
 (.reg 704 [
 o 48 (.bin .add (.t 16) (ki 1)),
 o 16 (.mv (.t 48))] [48])))))))
 (.seq
 (.reg 768 [
 o 2 (.mv (ki 0))] [1, 3, 14, 15, 16])
 .ret)))))
def fe17 : FnE := ⟨49, [(2, none)], xc17⟩
theorem ok17 : FnOk Tryd.prog 17 fe17 := fnOk_of Tryd.func17 (by kernel_rfl : chkF Tryd.prog hs17 Tryd.f17 = some fe17)
/- 19 crimp/fans.Turn -/
def hs19 : Hints := [(0, ([], [0, 5])), (1, ([], [7, 8])), (2, ([], [9])), (3, ([], [1, 2, 6, 10, 11, 12])), (4, ([], [5, 6, 10, 13, 14, 15, 16, 17, 18, 19, 20, 21])), (5, ([], [1, 2, 22, 23])), (6, ([0, 1, 2, 3, 4, 5, 6, 7, 8, 9, 10], [1, 2, 22, 24, 25, 26, 27, 28, 29, 30, 31, 32]))]
def xc19 : XC :=
 (.seq
 (.reg 64 [
 o 2 (.box (.t 0)),
 o 4 (.new (.cells [.nils, .nils]) 1 2),
 o 5 (.mv (ki 0))] [0, 5])
 (.seq
 (.seq
 (.reg 128 [
 o 7 (.load (some 2) (.t 2)),
 o 8 (.call 17 [(.t 7)]),
 o 6 (.mv (.t 8))] [7, 8])
 (.seq
 (.reg 192 [
 o 9 (.mv (.t 6)),
 o 10 (.bin .neq (.t 9) (ki 0))] [9])
 (.cond (.t 10)
 (.seq
 (.reg 256 [
 o 11 (.build [.nils, .nils] []),
 o 12 (.mv (.t 6)),
 ⟨none, .store 2 (.t 4) (.t 11), none⟩,
 o 5 (.mv (.t 12))] [1, 2, 6, 10, 11, 12])
 .ret)
 .skip)))
 (.seq
 (.seq
 (.reg 320 [
 o 13 (.mv (.t 1)),
 o 14 (.bin .lss (.t 13) (ki 0)),
 o 15 (.mv (.t 14)),
 oi 16 15 false (.mv (.t 1)),
 oi 17 15 false (.fieldA 0 (.t 2)),
 oi 18 15 false (.load none (.t 17)),
 oi 19 15 false (.len (.t 18)),
 oi 20 15 false (.mm true [(.t 19), (ki 1)]),
 oi 21 15 false (.bin .geq (.t 16) (.t 20)),
 o 22 (.pick (.t 15) (.c (.bool true)) (.t 21))] [5, 6, 10, 13, 14, 15, 16, 17, 18, 19, 20, 21])
 (.cond (.t 22)
 (.seq
 (.reg 384 [
 o 23 (.build [.nils, .nils] []),
 ⟨none, .store 2 (.t 4) (.t 23), none⟩,
 o 5 (.mv (ki 1))] [1, 2, 22, 23])
 .ret)
 .skip))
 (.seq
 (.draw 448 [
 o 24 (.fieldA 0 (.t 2)),
 o 25 (.load none (.t 24)),
 o 26 (.mv (.t 1)),
 o 27 (.call 42 [(.t 25), (.t 26)]),
 o 28 (.fieldA 1 (.t 2)),
 o 29 (.load none (.t 28)),
 o 30 (.mv (.t 1)),
 o 31 (.call 43 [(.t 29), (.t 30)]),
 o 32 (.build [.nils, .nils] [(0, 1, (.t 27)), (1, 1, (.t 31))]),
 ⟨none, .store 2 (.t 4) (.t 32), none⟩,
 o 5 (.mv (ki 0))]
 [[], [0], [], [1, 2], [], [4], [], [5, 6, 3], [3, 7], [8, 7, 0, 1, 2, 3, 4, 5, 6, 7, 8], [9, 0, 1, 2, 3, 4, 5, 6, 7, 8, 9]]
 [0, 1, 2, 3, 4, 5, 6, 7, 8, 9, 10] [1, 2, 22, 24, 25, 26, 27, 28, 29, 30, 31, 32])
 .ret))))
def fe19 : FnE := ⟨33, [(4, some (some 2)), (5, none)], xc19⟩
theorem ok19 : FnOk Tryd.prog 19 fe19 := fnOk_of Tryd.func19 (by kernel_rfl : chkF Tryd.prog hs19 Tryd.f19 = some fe19)
/- 20 crimp/fans.Mirror -/
def hs20 : Hints := [(0, ([], [0])), (1, ([0, 1, 2, 3, 4, 5, 6, 7, 8], [1, 5, 6, 7, 8, 9, 10, 11])), (2, ([], [12, 13, 14])), (3, ([], [15])), (4, ([], [4, 16, 17, 18, 19, 20, 21, 22])), (5, ([], [3, 4, 16, 23]))]
def xc20 : XC :=
 (.seq
 (.reg 64 [
 o 1 (.box (.t 0)),
 o 2 (.new (.cells [.nils, .nils]) 1 2)] [0])
 (.seq
 (.draw 128 [
 o 5 (.fieldA 0 (.t 1)),
 o 6 (.load none (.t 5)),
 o 7 (.call 44 [(.t 6)]),
 o 8 (.fieldA 1 (.t 1)),
 o 9 (.load none (.t 8)),
 o 10 (.call 45 [(.t 9)]),
 o 11 (.build [.nils, .nils] [(0, 1, (.t 7)), (1, 1, (.t 10))]),
 o 3 (.new (.cells [.nils, .nils]) 1 2),
 ⟨none, .store 2 (.t 3) (.t 11), none⟩]
 [[], [0], [1], [], [3], [4, 2], [2, 5], [], [7, 6, 5, 0, 1, 2, 3, 4, 5, 6, 7]]
 [0, 1, 2, 3, 4, 5, 6, 7, 8] [1, 5, 6, 7, 8, 9, 10, 11])
 (.seq
 (.seq
 (.reg 192 [
 o 12 (.fieldA 1 (.t 3)),
 o 13 (.load none (.t 12)),
 o 14 (.len (.t 13)),
 o 4 (.mv (.t 14))] [12, 13, 14])
 (.seq
 (.reg 256 [
 o 15 (.mv (.t 4)),
 o 16 (.bin .gtr (.t 15) (ki 0))] [15])
 (.cond (.t 16)
 (.reg 320 [
 o 17 (.fieldA 1 (.t 3)),
 o 18 (.load none (.t 17)),
 o 19 (.mv (.t 4)),
 o 20 (.bin .sub (.t 19) (ki 1)),
 o 21 (.call 43 [(.t 18), (.t 20)]),
 o 22 (.fieldA 1 (.t 3)),
 ⟨none, .store 1 (.t 22) (.t 21), none⟩] [4, 16, 17, 18, 19, 20, 21, 22])
 .skip)))
 (.seq
 (.reg 384 [
 o 23 (.load (some 2) (.t 3)),
 ⟨none, .store 2 (.t 2) (.t 23), none⟩] [3, 4, 16, 23])
 .ret))))
def fe20 : FnE := ⟨24, [(2, some (some 2))], xc20⟩
theorem ok20 : FnOk Tryd.prog 20 fe20 := fnOk_of Tryd.func20 (by kernel_rfl : chkF Tryd.prog hs20 Tryd.f20 = some fe20)
/- 21 crimp/fans.Over -/
def hs21 : Hints := [(0, ([], [0])), (1, ([], [1, 6, 7])), (2, ([], [8])), (4, ([], [12, 13, 14, 15])), (5, ([], [16, 17, 18])), (6, ([], [4, 5, 21, 22, 23, 24, 25, 26, 27])), (7, ([], [4, 5, 21, 28])), (8, ([], [3, 9, 10, 11, 29]))]
def xc21 : XC :=
 (.seq
 (.reg 64 [
 o 1 (.box (.t 0)),
 o 2 (.new (.cells [.nils, .nils]) 1 2)] [0])
 (.seq
 (.reg 128 [
 o 6 (.load (some 2) (.t 1)),
 o 7 (.call 20 [(.t 6)]),
 o 3 (.new (.cells [.nils, .nils]) 1 2),
 ⟨none, .store 2 (.t 3) (.t 7), none⟩] [1, 6, 7])
 (.seq
 (.seq
 (.reg 192 [
 o 8 (.fieldA 1 (.t 3)),
 o 9 (.load none (.t 8)),
 o 10 (.len (.t 9)),
 o 11 (.mv (ki 0))] [8])
 (.block 0
 (.loop
 (.seq
 (.reg 256 [
 o 12 (.bin .lss (.t 11) (.t 10))] [])
 (.seq
 (.cond (.t 12)
 .skip
 (.exit 0))
 (.seq
 (.block 1
 (.seq
 (.reg 320 [
 o 13 (.mv (.t 11)),
 o 14 (.idxA none 1 (.t 9) (.t 11)),
 o 15 (.load none (.t 14)),
 o 4 (.mv (.t 13)),
 o 5 (.mv (.t 15))] [12, 13, 14, 15])
 (.seq
 (.reg 384 [
 o 16 (.mv (.t 5)),
 o 17 (.bin .eql (.t 16) (ku 1)),
 o 18 (.mv (.t 17)),
 oi 19 18 false (.mv (.t 5)),
 oi 20 18 false (.bin .eql (.t 19) (ku 2)),
 o 21 (.pick (.t 18) (.c (.bool true)) (.t 20))] [16, 17, 18])
 (.cond (.t 21)
 (.reg 448 [
 o 22 (.fieldA 1 (.t 3)),
 o 23 (.load none (.t 22)),
 o 24 (.mv (.t 4)),
 o 25 (.mv (.t 5)),
 o 26 (.bin .sub (ku 3) (.t 25)),
 o 27 (.idxA none 1 (.t 23) (.t 24)),
 ⟨none, .store 1 (.t 27) (.t 26), none⟩] [4, 5, 21, 22, 23, 24, 25, 26, 27])
 .skip))))
 (.reg 512 [
 o 28 (.bin .add (.t 11) (ki 1)),
 o 11 (.mv (.t 28))] [4, 5, 21, 28])))))))
 (.seq
 (.reg 576 [
 o 29 (.load (some 2) (.t 3)),
 ⟨none, .store 2 (.t 2) (.t 29), none⟩] [3, 9, 10, 11, 29])
 .ret))))
def fe21 : FnE := ⟨30, [(2, some (some 2))], xc21⟩
theorem ok21 : FnOk Tryd.prog 21 fe21 := fnOk_of Tryd.func21 (by kernel_rfl : chkF Tryd.prog hs21 Tryd.f21 = some fe21)
/- 23 crimp/crimplaw14.same -/
def hs23 : Hints := [(0, ([], [0, 1, 4])), (1, ([], [2, 3, 5, 6, 7, 8, 9, 10, 11, 12, 13, 14, 15, 16, 17, 18, 19, 20, 21, 22, 23, 24, 25]))]
def xc23 : XC :=
 (.seq
 (.reg 64 [
 o 2 (.box (.t 0)),
 o 3 (.box (.t 1)),
 o 4 (.mv (.c (.bool false)))] [0, 1, 4])
 (.seq
 (.reg 128 [
 o 5 (.load (some 2) (.t 2)),
 o 6 (.load (some 2) (.t 3)),
 o 7 (.call 32 [(.t 5), (.t 6)]),
 o 8 (.mv (.t 7)),
 oi 9 8 true (.fieldA 0 (.t 2)),
 oi 10 8 true (.load none (.t 9)),
 oi 11 8 true (.cap (.t 10)),
 oi 12 8 true (.fieldA 0 (.t 2)),
 oi 13 8 true (.load none (.t 12)),
 oi 14 8 true (.len (.t 13)),
 oi 15 8 true (.bin .eql (.t 11) (.t 14)),
 o 16 (.pick (.t 8) (.t 15) (.c (.bool false))),
 o 17 (.mv (.t 16)),
 oi 18 17 true (.fieldA 1 (.t 2)),
 oi 19 17 true (.load none (.t 18)),
 oi 20 17 true (.cap (.t 19)),
 oi 21 17 true (.fieldA 1 (.t 2)),
 oi 22 17 true (.load none (.t 21)),
 oi 23 17 true (.len (.t 22)),
 oi 24 17 true (.bin .eql (.t 20) (.t 23)),
 o 25 (.pick (.t 17) (.t 24) (.c (.bool false))),
 o 4 (.mv (.t 25))] [2, 3, 5, 6, 7, 8, 9, 10, 11, 12, 13, 14, 15, 16, 17, 18, 19, 20, 21, 22, 23, 24, 25])
 .ret))
def fe23 : FnE := ⟨26, [(4, none)], xc23⟩
theorem ok23 : FnOk Tryd.prog 23 fe23 := fnOk_of Tryd.func23 (by kernel_rfl : chkF Tryd.prog hs23 Tryd.f23 = some fe23)
/- 24 crimp/crimplaw14.list -/
def hs24 : Hints := [(0, ([], [4])), (1, ([], [6, 7, 8, 9, 10, 11, 12, 13, 14, 15, 16])), (2, ([], [0, 1, 17])), (3, ([], [4, 17])), (4, ([], [18, 19, 20])), (6, ([0, 1, 2, 3, 4, 5, 6, 7, 8], [21, 24, 25, 26, 27, 28, 29, 30, 31])), (7, ([], [5, 1, 0, 32])), (5, ([], [4, 32, 22, 23])), (8, ([], [0, 1, 5]))]
def xc24 : XC :=
 (.seq
 (.reg 64 [
 o 4 (.mv (.c (.bool false)))] [4])
 (.seq
 (.seq
 (.reg 128 [
 o 6 (.mv (.t 0)),
 o 7 (.len (.t 6)),
 o 8 (.mv (.t 1)),
 o 9 (.len (.t 8)),
 o 10 (.bin .neq (.t 7) (.t 9)),
 o 11 (.mv (.t 10)),
 oi 12 11 false (.mv (.t 0)),
 oi 13 11 false (.cap (.t 12)),
 oi 14 11 false (.mv (.t 0)),
 oi 15 11 false (.len (.t 14)),
 oi 16 11 false (.bin .neq (.t 13) (.t 15)),
 o 17 (.pick (.t 11) (.c (.bool true)) (.t 16))] [6, 7, 8, 9, 10, 11, 12, 13, 14, 15, 16])
 (.cond (.t 17)
 (.seq
 (.reg 192 [
 o 4 (.mv (.c (.bool false)))] [0, 1, 17])
 .ret)
 .skip))
 (.seq
 (.seq
 (.reg 256 [
 o 5 (.mv (ki 0))] [4, 17])
 (.block 0
 (.loop
 (.seq
 (.seq
 (.reg 320 [
 o 18 (.mv (.t 5)),
 o 19 (.mv (.t 0)),
 o 20 (.len (.t 19)),
 o 21 (.bin .lss (.t 18) (.t 20))] [18, 19, 20])
 (.cond (.t 21)
 .skip
 (.exit 0)))
 (.seq
 (.block 1
 (.seq
 (.draw 448 [
 o 24 (.mv (.t 0)),
 o 25 (.mv (.t 5)),
 o 26 (.idxA none 1 (.t 24) (.t 25)),
 o 27 (.load none (.t 26)),
 o 28 (.mv (.t 1)),
 o 29 (.mv (.t 5)),
 o 30 (.idxA none 1 (.t 28) (.t 29)),
 o 31 (.load none (.t 30)),
 o 32 (.bin .neq (.t 27) (.t 31))]
 [[], [], [0, 1], [2], [], [], [4, 5], [6], [3, 7]]
 [0, 1, 2, 3, 4, 5, 6, 7, 8] [21, 24, 25, 26, 27, 28, 29, 30, 31])
 (.cond (.t 32)
 (.seq
 (.reg 512 [
 o 4 (.mv (.c (.bool false)))] [5, 1, 0, 32])
 .ret)
 .skip)))
 (.reg 384 [
 o 22 (.mv (.t 5)),
 o 23 (.bin .add (.t 22) (ki 1)),
 o 5 (.mv (.t 23))] [4, 32, 22, 23]))))))
 (.seq
 (.reg 576 [
 o 4 (.mv (.c (.bool true)))] [0, 1, 5])
 .ret))))
def fe24 : FnE := ⟨33, [(4, none)], xc24⟩
theorem ok24 : FnOk Tryd.prog 24 fe24 := fnOk_of Tryd.func24 (by kernel_rfl : chkF Tryd.prog hs24 Tryd.f24 = some fe24)
/- 25 (crimp/crimplaw12.F).Of -/
def hs25 : Hints := [(0, ([], [0])), (5, ([], [9])), (7, ([], [10, 13, 14, 15, 16, 17])), (8, ([], [18, 19])), (9, ([], [4, 20, 21, 22, 23, 24, 25, 26, 27, 28])), (10, ([], [4, 20, 29])), (11, ([], [30])), (13, ([], [31, 32, 33, 34, 35, 36])), (14, ([], [37, 38, 39, 40, 41, 42, 43, 44, 45, 46])), (15, ([], [7, 37, 47, 48, 49, 50, 51, 52])), (6, ([], [11, 12])), (16, ([], [6, 53])), (17, ([], [4, 5, 54, 55, 56, 57, 58, 59, 60, 61, 62, 63])), (18, ([], [4, 5, 54])), (19, ([], [64, 65, 66, 67])), (21, ([], [68, 71, 72, 73, 74, 75, 76, 77])), (22, ([], [84, 85, 86, 87, 88, 89, 90, 91])), (20, ([], [84, 69, 70])), (23, ([], [1, 3, 83, 82, 81, 79, 80, 78, 8, 92]))]
def xc25 : XC :=
 (.seq
 (.reg 64 [
 o 1 (.box (.t 0)),
 o 2 (.new (.cells [.nils, .nils]) 1 2)] [0])
 (.seq
 (.reg 128 [
 o 3 (.new (.cells [.nils, .nils]) 1 2)] [])
 (.seq
 (.reg 192 [
 o 4 (.mv (ki (-1)))] [])
 (.seq
 (.reg 256 [
 o 5 (.mv (ki (-1)))] [])
 (.seq
 (.seq
 (.reg 320 [
 o 6 (.mv (ki 0))] [])
 (.block 0
 (.loop
 (.seq
 (.seq
 (.reg 384 [
 o 9 (.mv (.t 6)),
 o 10 (.bin .lss (.t 9) (ki 8))] [9])
 (.cond (.t 10)
 .skip
 (.exit 0)))
 (.seq
 (.block 1
 (.seq
 (.seq
 (.reg 512 [
 o 13 (.fieldA 0 (.t 1)),
 o 14 (.load none (.t 13)),
 o 15 (.mv (.t 6)),
 o 16 (.bin .shr (.t 14) (.t 15)),
 o 17 (.bin .rem (.t 16) (ku 2)),
 o 18 (.bin .eql (.t 17) (ku 0))] [10, 13, 14, 15, 16, 17])
 (.cond (.t 18)
 (.exit 1)
 .skip))
 (.seq
 (.seq
 (.reg 576 [
 o 19 (.mv (.t 4)),
 o 20 (.bin .geq (.t 19) (ki 0))] [18, 19])
 (.cond (.t 20)
 (.reg 640 [
 o 21 (.fieldA 0 (.t 3)),
 o 22 (.load none (.t 21)),
 o 23 (.mv (.t 6)),
 o 24 (.mv (.t 4)),
 o 25 (.bin .sub (.t 23) (.t 24)),
 o 26 (.buildS 1 1 4 [(.int .i64 0)] [(0, 1, (.t 25))]),
 o 27 (.append 1 8 4 (.t 22) (.t 26)),
 o 28 (.fieldA 0 (.t 3)),
 ⟨none, .store 1 (.t 28) (.t 27), none⟩] [4, 20, 21, 22, 23, 24, 25, 26, 27, 28])
 (.reg 704 [
 o 29 (.mv (.t 6)),
 o 5 (.mv (.t 29))] [4, 20, 29])))
 (.seq
 (.reg 768 [
 o 30 (.mv (.t 6)),
 o 4 (.mv (.t 30))] [30])
 (.seq
 (.reg 832 [
 o 7 (.mv (ku 1))] [])
 (.seq
 (.seq
 (.reg 896 [
 o 31 (.fieldA 1 (.t 3)),
 o 32 (.load none (.t 31)),
 o 33 (.len (.t 32)),
 o 34 (.fieldA 2 (.t 1)),
 o 35 (.load none (.t 34)),
 o 36 (.len (.t 35)),
 o 37 (.bin .lss (.t 33) (.t 36))] [31, 32, 33, 34, 35, 36])
 (.cond (.t 37)
 (.reg 960 [
 o 38 (.fieldA 2 (.t 1)),
 o 39 (.load none (.t 38)),
 o 40 (.fieldA 1 (.t 3)),
 o 41 (.load none (.t 40)),
 o 42 (.len (.t 41)),
 o 43 (.idxA none 1 (.t 39) (.t 42)),
 o 44 (.load none (.t 43)),
 o 45 (.bin .rem (.t 44) (ku 3)),
 o 46 (.bin .add (ku 1) (.t 45)),
 o 7 (.mv (.t 46))] [37, 38, 39, 40, 41, 42, 43, 44, 45, 46])
 .skip))
 (.reg 1024 [
 o 47 (.fieldA 1 (.t 3)),
 o 48 (.load none (.t 47)),
 o 49 (.mv (.t 7)),
 o 50 (.buildS 1 1 5 [(.int .u8 0)] [(0, 1, (.t 49))]),
 o 51 (.append 1 1 5 (.t 48) (.t 50)),
 o 52 (.fieldA 1 (.t 3)),
 ⟨none, .store 1 (.t 52) (.t 51), none⟩] [7, 37, 47, 48, 49, 50, 51, 52])))))))
 (.reg 448 [
 o 11 (.mv (.t 6)),
 o 12 (.bin .add (.t 11) (ki 1)),
 o 6 (.mv (.t 12))] [11, 12]))))))
 (.seq
 (.seq
 (.reg 1088 [
 o 53 (.mv (.t 5)),
 o 54 (.bin .geq (.t 53) (ki 0))] [6, 53])
 (.cond (.t 54)
 (.reg 1152 [
 o 55 (.fieldA 0 (.t 3)),
 o 56 (.load none (.t 55)),
 o 57 (.mv (.t 5)),
 o 58 (.bin .add (.t 57) (ki 8)),
 o 59 (.mv (.t 4)),
 o 60 (.bin .sub (.t 58) (.t 59)),
 o 61 (.buildS 1 1 4 [(.int .i64 0)] [(0, 1, (.t 60))]),
 o 62 (.append 1 8 4 (.t 56) (.t 61)),
 o 63 (.fieldA 0 (.t 3)),
 ⟨none, .store 1 (.t 63) (.t 62), none⟩] [4, 5, 54, 55, 56, 57, 58, 59, 60, 61, 62, 63])
 .skip))
 (.seq
 (.seq
 (.reg 1216 [
 o 8 (.mv (ki 0))] [4, 5, 54])
 (.block 2
 (.loop
 (.seq
 (.seq
 (.reg 1280 [
 o 64 (.mv (.t 8)),
 o 65 (.fieldA 0 (.t 3)),
 o 66 (.load none (.t 65)),
 o 67 (.len (.t 66)),
 o 68 (.bin .lss (.t 64) (.t 67))] [64, 65, 66, 67])
 (.cond (.t 68)
 .skip
 (.exit 2)))
 (.seq
 (.block 3
 (.seq
 (.reg 1408 [
 o 71 (.fieldA 1 (.t 1)),
 o 72 (.load none (.t 71)),
 o 73 (.mv (.t 8)),
 o 74 (.bin .shr (.t 72) (.t 73)),
 o 75 (.bin .rem (.t 74) (ku 2)),
 o 76 (.bin .eql (.t 75) (ku 1)),
 o 77 (.mv (.t 76)),
 oi 78 77 true (.fieldA 0 (.t 3)),
 oi 79 77 true (.load none (.t 78)),
 oi 80 77 true (.mv (.t 8)),
 oi 81 77 true (.idxA none 1 (.t 79) (.t 80)),
 oi 82 77 true (.load none (.t 81)),
 oi 83 77 true (.bin .gtr (.t 82) (ki 1)),
 o 84 (.pick (.t 77) (.t 83) (.c (.bool false)))] [68, 71, 72, 73, 74, 75, 76, 77])
 (.cond (.t 84)
 (.reg 1472 [
 o 85 (.fieldA 0 (.t 3)),
 o 86 (.load none (.t 85)),
 o 87 (.mv (.t 8)),
 o 88 (.idxA none 1 (.t 86) (.t 87)),
 o 89 (.load none (.t 88)),
 o 90 (.bin .sub (.t 89) (ki 1)),
 o 91 (.idxA none 1 (.t 86) (.t 87)),
 ⟨none, .store 1 (.t 91) (.t 90), none⟩] [84, 85, 86, 87, 88, 89, 90, 91])
 .skip)))
 (.reg 1344 [
 o 69 (.mv (.t 8)),
 o 70 (.bin .add (.t 69) (ki 1)),
 o 8 (.mv (.t 70))] [84, 69, 70]))))))
 (.seq
 (.reg 1536 [
 o 92 (.load (some 2) (.t 3)),
 ⟨none, .store 2 (.t 2) (.t 92), none⟩] [1, 3, 83, 82, 81, 79, 80, 78, 8, 92])
 .ret))))))))
def fe25 : FnE := ⟨93, [(2, some (some 2))], xc25⟩
theorem ok25 : FnOk Tryd.prog 25 fe25 := fnOk_of Tryd.func25 (by kernel_rfl : chkF Tryd.prog hs25 Tryd.f25 = some fe25)
/- 26 crimp/crimplaw12.same -/
def hs26 : Hints := [(0, ([], [0, 1, 4])), (1, ([], [7, 8, 9, 10, 11, 12, 13, 14, 15, 16, 17, 18, 19, 20, 21, 22, 23, 24, 25, 26, 27, 28, 29, 30, 31, 32, 33, 34, 35, 36, 37, 38, 39])), (2, ([], [2, 3, 40])), (3, ([], [4, 40])), (4, ([], [41, 42, 43, 44])), (6, ([0, 1, 2, 3, 4, 5, 6, 7, 8, 9, 10], [45, 48, 49, 50, 51, 52, 53, 54, 55, 56, 57])), (7, ([], [5, 3, 2, 58])), (5, ([], [4, 58, 46, 47])), (8, ([], [5])), (9, ([], [59, 60, 61, 62])), (11, ([0, 1, 2, 3, 4, 5, 6, 7, 8, 9, 10], [63, 66, 67, 68, 69, 70, 71, 72, 73, 74, 75])), (12, ([], [6, 3, 2, 76])), (10, ([], [4, 76, 64, 65])), (13, ([], [2, 3, 6]))]
def xc26 : XC :=
 (.seq
 (.reg 64 [
 o 2 (.box (.t 0)),
 o 3 (.box (.t 1)),
 o 4 (.mv (.c (.bool false)))] [0, 1, 4])
 (.seq
 (.seq
 (.reg 128 [
 o 7 (.fieldA 0 (.t 2)),
 o 8 (.load none (.t 7)),
 o 9 (.len (.t 8)),
 o 10 (.fieldA 0 (.t 3)),
 o 11 (.load none (.t 10)),
 o 12 (.len (.t 11)),
 o 13 (.bin .neq (.t 9) (.t 12)),
 o 14 (.mv (.t 13)),
 oi 15 14 false (.fieldA 1 (.t 2)),
 oi 16 14 false (.load none (.t 15)),
 oi 17 14 false (.len (.t 16)),
 oi 18 14 false (.fieldA 1 (.t 3)),
 oi 19 14 false (.load none (.t 18)),
 oi 20 14 false (.len (.t 19)),
 oi 21 14 false (.bin .neq (.t 17) (.t 20)),
 o 22 (.pick (.t 14) (.c (.bool true)) (.t 21)),
 o 23 (.mv (.t 22)),
 oi 24 23 false (.fieldA 0 (.t 2)),
 oi 25 23 false (.load none (.t 24)),
 oi 26 23 false (.cap (.t 25)),
 oi 27 23 false (.fieldA 0 (.t 2)),
 oi 28 23 false (.load none (.t 27)),
 oi 29 23 false (.len (.t 28)),
 oi 30 23 false (.bin .neq (.t 26) (.t 29)),
 o 31 (.pick (.t 23) (.c (.bool true)) (.t 30)),
 o 32 (.mv (.t 31)),
 oi 33 32 false (.fieldA 1 (.t 2)),
 oi 34 32 false (.load none (.t 33)),
 oi 35 32 false (.cap (.t 34)),
 oi 36 32 false (.fieldA 1 (.t 2)),
 oi 37 32 false (.load none (.t 36)),
 oi 38 32 false (.len (.t 37)),
 oi 39 32 false (.bin .neq (.t 35) (.t 38)),
 o 40 (.pick (.t 32) (.c (.bool true)) (.t 39))] [7, 8, 9, 10, 11, 12, 13, 14, 15, 16, 17, 18, 19, 20, 21, 22, 23, 24, 25, 26, 27, 28, 29, 30, 31, 32, 33, 34, 35, 36, 37, 38, 39])
 (.cond (.t 40)
 (.seq
 (.reg 192 [
 o 4 (.mv (.c (.bool false)))] [2, 3, 40])
 .ret)
 .skip))
 (.seq
 (.seq
 (.reg 256 [
 o 5 (.mv (ki 0))] [4, 40])
 (.block 0
 (.loop
 (.seq
 (.seq
 (.reg 320 [
 o 41 (.mv (.t 5)),
 o 42 (.fieldA 0 (.t 2)),
 o 43 (.load none (.t 42)),
 o 44 (.len (.t 43)),
 o 45 (.bin .lss (.t 41) (.t 44))] [41, 42, 43, 44])
 (.cond (.t 45)
 .skip
 (.exit 0)))
 (.seq
 (.block 1
 (.seq
 (.draw 448 [
 o 48 (.fieldA 0 (.t 2)),
 o 49 (.load none (.t 48)),
 o 50 (.mv (.t 5)),
 o 51 (.idxA none 1 (.t 49) (.t 50)),
 o 52 (.load none (.t 51)),
 o 53 (.fieldA 0 (.t 3)),
 o 54 (.load none (.t 53)),
 o 55 (.mv (.t 5)),
 o 56 (.idxA none 1 (.t 54) (.t 55)),
 o 57 (.load none (.t 56)),
 o 58 (.bin .neq (.t 52) (.t 57))]
 [[], [0], [], [1, 2], [3], [], [5], [], [6, 7], [8], [4, 9]]
 [0, 1, 2, 3, 4, 5, 6, 7, 8, 9, 10] [45, 48, 49, 50, 51, 52, 53, 54, 55, 56, 57])
 (.cond (.t 58)
 (.seq
 (.reg 512 [
 o 4 (.mv (.c (.bool false)))] [5, 3, 2, 58])
 .ret)
 .skip)))
 (.reg 384 [
 o 46 (.mv (.t 5)),
 o 47 (.bin .add (.t 46) (ki 1)),
 o 5 (.mv (.t 47))] [4, 58, 46, 47]))))))
 (.seq
 (.seq
 (.reg 576 [
 o 6 (.mv (ki 0))] [5])
 (.block 2
 (.loop
 (.seq
 (.seq
 (.reg 640 [
 o 59 (.mv (.t 6)),
 o 60 (.fieldA 1 (.t 2)),
 o 61 (.load none (.t 60)),
 o 62 (.len (.t 61)),
 o 63 (.bin .lss (.t 59) (.t 62))] [59, 60, 61, 62])
 (.cond (.t 63)
 .skip
 (.exit 2)))
 (.seq
 (.block 3
 (.seq
 (.draw 768 [
 o 66 (.fieldA 1 (.t 2)),
 o 67 (.load none (.t 66)),
 o 68 (.mv (.t 6)),
 o 69 (.idxA none 1 (.t 67) (.t 68)),
 o 70 (.load none (.t 69)),
 o 71 (.fieldA 1 (.t 3)),
 o 72 (.load none (.t 71)),
 o 73 (.mv (.t 6)),
 o 74 (.idxA none 1 (.t 72) (.t 73)),
 o 75 (.load none (.t 74)),
 o 76 (.bin .neq (.t 70) (.t 75))]
 [[], [0], [], [1, 2], [3], [], [5], [], [6, 7], [8], [4, 9]]
 [0, 1, 2, 3, 4, 5, 6, 7, 8, 9, 10] [63, 66, 67, 68, 69, 70, 71, 72, 73, 74, 75])
 (.cond (.t 76)
 (.seq
 (.reg 832 [
 o 4 (.mv (.c (.bool false)))] [6, 3, 2, 76])
 .ret)
 .skip)))
 (.reg 704 [
 o 64 (.mv (.t 6)),
 o 65 (.bin .add (.t 64) (ki 1)),
 o 6 (.mv (.t 65))] [4, 76, 64, 65]))))))
 (.seq
 (.reg 896 [
 o 4 (.mv (.c (.bool true)))] [2, 3, 6])
 .ret)))))
def fe26 : FnE := ⟨77, [(4, none)], xc26⟩
theorem ok26 : FnOk Tryd.prog 26 fe26 := fnOk_of Tryd.func26 (by kernel_rfl : chkF Tryd.prog hs26 Tryd.f26 = some fe26)
/- 27 crimp/crimplaw12.lives -/
def hs27 : Hints := [(0, ([], [0])), (1, ([], [8, 9, 10])), (2, ([], [12, 13, 11, 14, 15])), (3, ([], [17, 18, 16, 19, 20, 4])), (4, ([], [22, 23, 21, 24, 25])), (5, ([], [1, 2, 3, 5, 6, 7, 26, 27, 28, 29, 30, 31, 32, 33, 34, 35, 36, 37, 38, 39, 40, 41, 42, 43, 44, 45, 46, 47, 48, 49, 50, 51, 52, 53, 54, 55, 56, 57, 58, 59, 60, 61, 62]))]
def xc27 : XC :=
 (.seq
 (.reg 64 [
 o 0 (.mv (.c (.bool false)))] [0])
 (.seq
 (.reg 128 [
 o 8 (.buildS 1 4 4 [(.int .i64 0)] [(0, 1, (ki 2)), (1, 1, (ki 1)), (2, 1, (ki 3)), (3, 1, (ki 2))]),
 o 9 (.buildS 1 4 5 [(.int .u8 0)] [(0, 1, (ku 1)), (1, 1, (ku 2)), (2, 1, (ku 2)), (3, 1, (ku 2))]),
 o 10 (.build [.nils, .nils] [(0, 1, (.t 8)), (1, 1, (.t 9))]),
 o 1 (.new (.cells [.nils, .nils]) 1 2),
 ⟨none, .store 2 (.t 1) (.t 10), none⟩] [8, 9, 10])
 (.seq
 (.reg 192 [
 o 12 (.load (some 2) (.t 1)),
 o 13 (.call 19 [(.t 12), (ki 1)]),
 o 11 (.mv (.t 13)),
 o 14 (.ext (.t 11) 0),
 o 15 (.ext (.t 11) 1),
 o 2 (.new (.cells [.nils, .nils]) 1 2),
 ⟨none, .store 2 (.t 2) (.t 14), none⟩,
 o 3 (.mv (.t 15))] [12, 13, 11, 14, 15])
 (.seq
 (.reg 256 [
 o 17 (.build [.nils, .nils] []),
 o 18 (.call 19 [(.t 17), (ki 1)]),
 o 16 (.mv (.t 18)),
 o 19 (.ext (.t 16) 0),
 o 20 (.ext (.t 16) 1),
 o 4 (.new (.cells [.nils, .nils]) 1 2),
 ⟨none, .store 2 (.t 4) (.t 19), none⟩,
 o 5 (.mv (.t 20))] [17, 18, 16, 19, 20, 4])
 (.seq
 (.reg 320 [
 o 22 (.load (some 2) (.t 1)),
 o 23 (.call 30 [(.t 22), (ki 1)]),
 o 21 (.mv (.t 23)),
 o 24 (.ext (.t 21) 0),
 o 25 (.ext (.t 21) 1),
 o 6 (.new (.cells [(.int .i64 0), (.int .i64 0), .nils]) 1 3),
 ⟨none, .store 3 (.t 6) (.t 24), none⟩,
 o 7 (.mv (.t 25))] [22, 23, 21, 24, 25])
 (.seq
 (.reg 384 [
 o 26 (.mv (.t 3)),
 o 27 (.bin .eql (.t 26) (ki 0)),
 o 28 (.mv (.t 27)),
 oi 29 28 true (.mv (.t 5)),
 oi 30 28 true (.bin .eql (.t 29) (ki 1)),
 o 31 (.pick (.t 28) (.t 30) (.c (.bool false))),
 o 32 (.mv (.t 31)),
 oi 33 32 true (.mv (.t 7)),
 oi 34 32 true (.bin .eql (.t 33) (ki 0)),
 o 35 (.pick (.t 32) (.t 34) (.c (.bool false))),
 o 36 (.mv (.t 35)),
 oi 37 36 true (.load (some 2) (.t 1)),
 oi 38 36 true (.call 33 [(.t 37)]),
 oi 39 36 true (.bin .eql (.t 38) (.c (.str [109, 50, 32, 118, 49, 32, 118, 51, 32, 118, 50]))),
 o 40 (.pick (.t 36) (.t 39) (.c (.bool false))),
 o 41 (.mv (.t 40)),
 oi 42 41 true (.load (some 2) (.t 2)),
 oi 43 41 true (.call 33 [(.t 42)]),
 oi 44 41 true (.bin .eql (.t 43) (.c (.str [118, 49, 32, 118, 51, 32, 118, 50, 32, 109, 50]))),
 o 45 (.pick (.t 41) (.t 44) (.c (.bool false))),
 o 46 (.mv (.t 45)),
 oi 47 46 true (.load (some 2) (.t 1)),
 oi 48 46 true (.call 20 [(.t 47)]),
 oi 49 46 true (.call 33 [(.t 48)]),
 oi 50 46 true (.bin .eql (.t 49) (.c (.str [109, 50, 32, 118, 51, 32, 118, 49, 32, 118, 50]))),
 o 51 (.pick (.t 46) (.t 50) (.c (.bool false))),
 o 52 (.mv (.t 51)),
 oi 53 52 true (.build [.nils, .nils] []),
 oi 54 52 true (.call 33 [(.t 53)]),
 oi 55 52 true (.bin .eql (.t 54) (.c (.str [45]))),
 o 56 (.pick (.t 52) (.t 55) (.c (.bool false))),
 o 57 (.mv (.t 56)),
 oi 58 57 true (.fieldA 2 (.t 6)),
 oi 59 57 true (.load none (.t 58)),
 oi 60 57 true (.len (.t 59)),
 oi 61 57 true (.bin .eql (.t 60) (ki 7)),
 o 62 (.pick (.t 57) (.t 61) (.c (.bool false))),
 o 0 (.mv (.t 62))] [1, 2, 3, 5, 6, 7, 26, 27, 28, 29, 30, 31, 32, 33, 34, 35, 36, 37, 38, 39, 40, 41, 42, 43, 44, 45, 46, 47, 48, 49, 50, 51, 52, 53, 54, 55, 56, 57, 58, 59, 60, 61, 62])
 .ret))))))
def fe27 : FnE := ⟨63, [(0, none)], xc27⟩
theorem ok27 : FnOk Tryd.prog 27 fe27 := fnOk_of Tryd.func27 (by kernel_rfl : chkF Tryd.prog hs27 Tryd.f27 = some fe27)
/- 28 crimp/fans.Least -/
def hs28 : Hints := [(0, ([], [0, 3])), (1, ([], [8, 9, 7, 10, 11])), (2, ([], [12])), (3, ([], [1, 4, 5, 13, 14, 15])), (4, ([], [3, 1, 5, 13, 16])), (5, ([], [17, 18])), (6, ([0, 1, 2, 3, 4, 5, 6, 7, 8, 9, 10, 11, 12], [19, 20, 21, 22, 23, 24, 25, 26, 27, 28, 29, 30])), (7, ([], [6, 31, 32])), (8, ([], [4, 17, 33]))]
def xc28 : XC :=
 (.seq
 (.reg 64 [
 o 1 (.box (.t 0)),
 o 2 (.new (.cells [.nils, .nils]) 1 2),
 o 3 (.mv (ki 0))] [0, 3])
 (.seq
 (.reg 128 [
 o 8 (.load (some 2) (.t 1)),
 o 9 (.call 19 [(.t 8), (ki 0)]),
 o 7 (.mv (.t 9)),
 o 10 (.ext (.t 7) 0),
 o 11 (.ext (.t 7) 1),
 o 4 (.new (.cells [.nils, .nils]) 1 2),
 ⟨none, .store 2 (.t 4) (.t 10), none⟩,
 o 5 (.mv (.t 11))] [8, 9, 7, 10, 11])
 (.seq
 (.seq
 (.reg 192 [
 o 12 (.mv (.t 5)),
 o 13 (.bin .neq (.t 12) (ki 0))] [12])
 (.cond (.t 13)
 (.seq
 (.reg 256 [
 o 14 (.build [.nils, .nils] []),
 o 15 (.mv (.t 5)),
 ⟨none, .store 2 (.t 2) (.t 14), none⟩,
 o 3 (.mv (.t 15))] [1, 4, 5, 13, 14, 15])
 .ret)
 .skip))
 (.seq
 (.seq
 (.reg 320 [
 o 16 (.load (some 2) (.t 1)),
 o 17 (.call 46 [(.t 16)])] [3, 1, 5, 13, 16])
 (.block 0
 (.rangeF (.t 17) [18]
 (.reg 384 [
 o 6 (.new (.cells [.nils, .nils]) 1 2),
 ⟨none, .store 2 (.t 6) (.t 18), none⟩] [17, 18])
 (.block 1
 (.seq
 (.draw 448 [
 o 19 (.fieldA 0 (.t 6)),
 o 20 (.load none (.t 19)),
 o 21 (.fieldA 0 (.t 4)),
 o 22 (.load none (.t 21)),
 o 23 (.call 48 [(.t 20), (.t 22)]),
 o 24 (.fieldA 1 (.t 6)),
 o 25 (.load none (.t 24)),
 o 26 (.fieldA 1 (.t 4)),
 o 27 (.load none (.t 26)),
 o 28 (.call 49 [(.t 25), (.t 27)]),
 o 29 (.buildS 1 2 4 [(.int .i64 0)] [(0, 1, (.t 23)), (1, 1, (.t 28))]),
 o 30 (.call 47 [(.t 29)]),
 o 31 (.bin .lss (.t 30) (ki 0))]
 [[], [0], [], [2], [1, 3], [], [5], [], [7], [6, 8, 4], [4, 9], [10, 9], [11]]
 [0, 1, 2, 3, 4, 5, 6, 7, 8, 9, 10, 11, 12] [19, 20, 21, 22, 23, 24, 25, 26, 27, 28, 29, 30])
 (.cond (.t 31)
 (.reg 512 [
 o 32 (.load (some 2) (.t 6)),
 ⟨none, .store 2 (.t 4) (.t 32), none⟩] [6, 31, 32])
 .skip))))))
 (.seq
 (.reg 576 [
 o 33 (.load (some 2) (.t 4)),
 ⟨none, .store 2 (.t 2) (.t 33), none⟩,
 o 3 (.mv (ki 0))] [4, 17, 33])
 .ret)))))
def fe28 : FnE := ⟨34, [(2, some (some 2)), (3, none)], xc28⟩
theorem ok28 : FnOk Tryd.prog 28 fe28 := fnOk_of Tryd.func28 (by kernel_rfl : chkF Tryd.prog hs28 Tryd.f28 = some fe28)
/- 29 crimp/crimplaw12.before -/
def hs29 : Hints := [(0, ([], [0, 1, 4])), (2, ([], [7, 8, 9, 10])), (4, ([0, 1, 2, 3, 4, 5, 6, 7, 8, 9, 10], [11, 14, 15, 16, 17, 18, 19, 20, 21, 22, 23])), (5, ([0, 1, 2, 3, 4, 5, 6, 7, 8, 9, 10, 11], [5, 3, 2, 24, 25, 26, 27, 28, 29, 30, 31, 32, 33, 34, 35])), (3, ([], [4, 24, 12, 13])), (6, ([], [5])), (7, ([], [36, 37, 38, 39])), (9, ([0, 1, 2, 3, 4, 5, 6, 7, 8, 9, 10], [40, 43, 44, 45, 46, 47, 48, 49, 50, 51, 52])), (10, ([0, 1, 2, 3, 4, 5, 6, 7, 8, 9, 10, 11], [6, 3, 2, 53, 54, 55, 56, 57, 58, 59, 60, 61, 62, 63, 64])), (8, ([], [4, 53, 41, 42])), (11, ([], [2, 3, 6]))]
def xc29 : XC :=
 (.seq
 (.reg 64 [
 o 2 (.box (.t 0)),
 o 3 (.box (.t 1)),
 o 4 (.mv (.c (.bool false)))] [0, 1, 4])
 (.seq
 (.seq
 (.reg 128 [
 o 5 (.mv (ki 0))] [])
 (.block 0
 (.loop
 (.seq
 (.seq
 (.reg 192 [
 o 7 (.mv (.t 5)),
 o 8 (.fieldA 0 (.t 2)),
 o 9 (.load none (.t 8)),
 o 10 (.len (.t 9)),
 o 11 (.bin .lss (.t 7) (.t 10))] [7, 8, 9, 10])
 (.cond (.t 11)
 .skip
 (.exit 0)))
 (.seq
 (.block 1
 (.seq
 (.draw 320 [
 o 14 (.fieldA 0 (.t 2)),
 o 15 (.load none (.t 14)),
 o 16 (.mv (.t 5)),
 o 17 (.idxA none 1 (.t 15) (.t 16)),
 o 18 (.load none (.t 17)),
 o 19 (.fieldA 0 (.t 3)),
 o 20 (.load none (.t 19)),
 o 21 (.mv (.t 5)),
 o 22 (.idxA none 1 (.t 20) (.t 21)),
 o 23 (.load none (.t 22)),
 o 24 (.bin .neq (.t 18) (.t 23))]
 [[], [0], [], [1, 2], [3], [], [5], [], [6, 7], [8], [4, 9]]
 [0, 1, 2, 3, 4, 5, 6, 7, 8, 9, 10] [11, 14, 15, 16, 17, 18, 19, 20, 21, 22, 23])
 (.cond (.t 24)
 (.seq
 (.draw 384 [
 o 25 (.fieldA 0 (.t 2)),
 o 26 (.load none (.t 25)),
 o 27 (.mv (.t 5)),
 o 28 (.idxA none 1 (.t 26) (.t 27)),
 o 29 (.load none (.t 28)),
 o 30 (.fieldA 0 (.t 3)),
 o 31 (.load none (.t 30)),
 o 32 (.mv (.t 5)),
 o 33 (.idxA none 1 (.t 31) (.t 32)),
 o 34 (.load none (.t 33)),
 o 35 (.bin .lss (.t 29) (.t 34)),
 o 4 (.mv (.t 35))]
 [[], [0], [], [1, 2], [3], [], [5], [], [6, 7], [8], [4, 9], [10, 0, 1, 2, 3, 4, 5, 6, 7, 8, 9, 10]]
 [0, 1, 2, 3, 4, 5, 6, 7, 8, 9, 10, 11] [5, 3, 2, 24, 25, 26, 27, 28, 29, 30, 31, 32, 33, 34, 35])
 .ret)
 .skip)))
 (.reg 256 [
 o 12 (.mv (.t 5)),
 o 13 (.bin .add (.t 12) (ki 1)),
 o 5 (.mv (.t 13))] [4, 24, 12, 13]))))))
 (.seq
 (.seq
 (.reg 448 [
 o 6 (.mv (ki 0))] [5])
 (.block 2
 (.loop
 (.seq
 (.seq
 (.reg 512 [
 o 36 (.mv (.t 6)),
 o 37 (.fieldA 1 (.t 2)),
 o 38 (.load none (.t 37)),
 o 39 (.len (.t 38)),
 o 40 (.bin .lss (.t 36) (.t 39))] [36, 37, 38, 39])
 (.cond (.t 40)
 .skip
 (.exit 2)))
 (.seq
 (.block 3
 (.seq
 (.draw 640 [
 o 43 (.fieldA 1 (.t 2)),
 o 44 (.load none (.t 43)),
 o 45 (.mv (.t 6)),
 o 46 (.idxA none 1 (.t 44) (.t 45)),
 o 47 (.load none (.t 46)),
 o 48 (.fieldA 1 (.t 3)),
 o 49 (.load none (.t 48)),
 o 50 (.mv (.t 6)),
 o 51 (.idxA none 1 (.t 49) (.t 50)),
 o 52 (.load none (.t 51)),
 o 53 (.bin .neq (.t 47) (.t 52))]
 [[], [0], [], [1, 2], [3], [], [5], [], [6, 7], [8], [4, 9]]
 [0, 1, 2, 3, 4, 5, 6, 7, 8, 9, 10] [40, 43, 44, 45, 46, 47, 48, 49, 50, 51, 52])
 (.cond (.t 53)
 (.seq
 (.draw 704 [
 o 54 (.fieldA 1 (.t 2)),
 o 55 (.load none (.t 54)),
 o 56 (.mv (.t 6)),
 o 57 (.idxA none 1 (.t 55) (.t 56)),
 o 58 (.load none (.t 57)),
 o 59 (.fieldA 1 (.t 3)),
 o 60 (.load none (.t 59)),
 o 61 (.mv (.t 6)),
 o 62 (.idxA none 1 (.t 60) (.t 61)),
 o 63 (.load none (.t 62)),
 o 64 (.bin .lss (.t 58) (.t 63)),
 o 4 (.mv (.t 64))]
 [[], [0], [], [1, 2], [3], [], [5], [], [6, 7], [8], [4, 9], [10, 0, 1, 2, 3, 4, 5, 6, 7, 8, 9, 10]]
 [0, 1, 2, 3, 4, 5, 6, 7, 8, 9, 10, 11] [6, 3, 2, 53, 54, 55, 56, 57, 58, 59, 60, 61, 62, 63, 64])
 .ret)
 .skip)))
 (.reg 576 [
 o 41 (.mv (.t 6)),
 o 42 (.bin .add (.t 41) (ki 1)),
 o 6 (.mv (.t 42))] [4, 53, 41, 42]))))))
 (.seq
 (.reg 768 [
 o 4 (.mv (.c (.bool false)))] [2, 3, 6])
 .ret))))
def fe29 : FnE := ⟨65, [(4, none)], xc29⟩
theorem ok29 : FnOk Tryd.prog 29 fe29 := fnOk_of Tryd.func29 (by kernel_rfl : chkF Tryd.prog hs29 Tryd.f29 = some fe29)
/- 30 crimp/fans.Pattern -/
def hs30 : Hints := [(0, ([], [0, 5])), (1, ([], [12, 13])), (2, ([], [15, 16])), (3, ([], [1, 2, 6, 14, 17, 18])), (4, ([], [6, 14, 20, 21, 22])), (5, ([], [1, 2, 19, 23])), (6, ([], [19, 25, 26, 27, 28, 29, 30])), (7, ([], [1, 2, 24, 31])), (8, ([], [5, 24, 32, 33])), (9, ([], [34])), (11, ([], [38, 39, 40, 41])), (12, ([], [42, 43, 44])), (14, ([], [48, 49, 50])), (15, ([], [51, 52, 53, 54, 55, 56])), (16, ([], [11, 57, 58, 59, 60, 61, 62])), (17, ([], [63])), (18, ([], [8, 9, 45, 46, 47, 64, 65, 66])), (19, ([], [67])), (20, ([], [1, 2, 35, 36, 37, 68, 69, 70])), (21, ([], [71, 72, 73, 74])), (22, ([], [7, 75]))]
def xc30 : XC :=
 (.seq
 (.reg 64 [
 o 2 (.box (.t 0)),
 o 4 (.new (.cells [(.int .i64 0), (.int .i64 0), .nils]) 1 3),
 o 5 (.mv (ki 0))] [0, 5])
 (.seq
 (.seq
 (.reg 128 [
 o 12 (.load (some 2) (.t 2)),
 o 13 (.call 17 [(.t 12)]),
 o 6 (.mv (.t 13))] [12, 13])
 (.block 0
 (.seq
 (.reg 192 [
 o 15 (.mv (.t 6)),
 o 16 (.bin .neq (.t 15) (ki 0)),
 o 14 (.mv (.t 16))] [15, 16])
 (.cond (.t 14)
 (.seq
 (.reg 256 [
 o 17 (.build [(.int .i64 0), (.int .i64 0), .nils] []),
 o 18 (.mv (.t 6)),
 ⟨none, .store 3 (.t 4) (.t 17), none⟩,
 o 5 (.mv (.t 18))] [1, 2, 6, 14, 17, 18])
 .ret)
 (.seq
 (.reg 320 [
 o 20 (.load (some 2) (.t 2)),
 o 21 (.call 31 [(.t 20)]),
 o 22 (.un .not (.t 21)),
 o 19 (.mv (.t 22))] [6, 14, 20, 21, 22])
 (.cond (.t 19)
 (.seq
 (.reg 384 [
 o 23 (.build [(.int .i64 0), (.int .i64 0), .nils] []),
 ⟨none, .store 3 (.t 4) (.t 23), none⟩,
 o 5 (.mv (ki 14))] [1, 2, 19, 23])
 .ret)
 (.seq
 (.reg 448 [
 o 25 (.mv (.t 1)),
 o 26 (.bin .lss (.t 25) (ki 0)),
 o 27 (.mv (.t 26)),
 oi 28 27 false (.mv (.t 1)),
 oi 29 27 false (.bin .gtr (.t 28) (ki 7)),
 o 30 (.pick (.t 27) (.c (.bool true)) (.t 29)),
 o 24 (.mv (.t 30))] [19, 25, 26, 27, 28, 29, 30])
 (.cond (.t 24)
 (.seq
 (.reg 512 [
 o 31 (.build [(.int .i64 0), (.int .i64 0), .nils] []),
 ⟨none, .store 3 (.t 4) (.t 31), none⟩,
 o 5 (.mv (ki 1))] [1, 2, 24, 31])
 .ret)
 .skip))))))))
 (.seq
 (.reg 576 [
 o 32 (.build [(.int .i64 0), (.int .i64 0)] [(0, 1, (ki 2)), (1, 1, (ki 2))]),
 o 33 (.build [(.int .i64 0), (.int .i64 0), .nils] [(0, 2, (.t 32))]),
 o 7 (.new (.cells [(.int .i64 0), (.int .i64 0), .nils]) 1 3),
 ⟨none, .store 3 (.t 7) (.t 33), none⟩] [5, 24, 32, 33])
 (.seq
 (.seq
 (.reg 640 [
 o 34 (.fieldA 0 (.t 2)),
 o 35 (.load none (.t 34)),
 o 36 (.len (.t 35)),
 o 37 (.mv (ki 0))] [34])
 (.block 1
 (.loop
 (.seq
 (.reg 704 [
 o 38 (.bin .lss (.t 37) (.t 36))] [])
 (.seq
 (.cond (.t 38)
 .skip
 (.exit 1))
 (.seq
 (.block 2
 (.seq
 (.reg 768 [
 o 39 (.mv (.t 37)),
 o 40 (.idxA none 1 (.t 35) (.t 37)),
 o 41 (.load none (.t 40)),
 o 8 (.mv (.t 39)),
 o 9 (.mv (.t 41))] [38, 39, 40, 41])
 (.seq
 (.seq
 (.reg 832 [
 o 42 (.mv (.t 1)),
 o 43 (.bin .rem (.t 42) (ki 8)),
 o 44 (.idxA (some 8) 1 (.g 0) (.t 43)),
 o 45 (.load none (.t 44)),
 o 46 (.len (.t 45)),
 o 47 (.mv (ki 0))] [42, 43, 44])
 (.block 3
 (.loop
 (.seq
 (.reg 896 [
 o 48 (.bin .lss (.t 47) (.t 46))] [])
 (.seq
 (.cond (.t 48)
 .skip
 (.exit 3))
 (.seq
 (.block 4
 (.seq
 (.reg 960 [
 o 49 (.idxA none 3 (.t 45) (.t 47)),
 o 50 (.load (some 3) (.t 49)),
 o 11 (.new (.cells [(.int .i64 0), (.int .u8 0), (.int .u8 0)]) 1 3),
 ⟨none, .store 3 (.t 11) (.t 50), none⟩] [48, 49, 50])
 (.seq
 (.reg 1024 [
 o 51 (.fieldA 1 (.t 2)),
 o 52 (.load none (.t 51)),
 o 53 (.mv (.t 8)),
 o 54 (.idxA none 1 (.t 52) (.t 53)),
 o 55 (.load none (.t 54)),
 o 56 (.fieldA 2 (.t 11)),
 ⟨none, .store 1 (.t 56) (.t 55), none⟩] [51, 52, 53, 54, 55, 56])
 (.reg 1088 [
 o 57 (.fieldA 2 (.t 7)),
 o 58 (.load none (.t 57)),
 o 59 (.load (some 3) (.t 11)),
 o 60 (.buildS 3 1 0 [(.int .i64 0), (.int .u8 0), (.int .u8 0)] [(0, 3, (.t 59))]),
 o 61 (.append 3 16 0 (.t 58) (.t 60)),
 o 62 (.fieldA 2 (.t 7)),
 ⟨none, .store 1 (.t 62) (.t 61), none⟩] [11, 57, 58, 59, 60, 61, 62]))))
 (.reg 1152 [
 o 63 (.bin .add (.t 47) (ki 1)),
 o 47 (.mv (.t 63))] [63])))))))
 (.reg 1216 [
 o 64 (.mv (.t 1)),
 o 65 (.mv (.t 9)),
 o 66 (.bin .add (.t 64) (.t 65)),
 o 1 (.mv (.t 66))] [8, 9, 45, 46, 47, 64, 65, 66]))))
 (.reg 1280 [
 o 67 (.bin .add (.t 37) (ki 1)),
 o 37 (.mv (.t 67))] [67])))))))
 (.seq
 (.reg 1344 [
 o 68 (.fieldA 2 (.t 7)),
 o 69 (.load none (.t 68)),
 o 70 (.call 50 [(.t 69), (.c (.fn 51 [] []))])] [1, 2, 35, 36, 37, 68, 69, 70])
 (.seq
 (.reg 1408 [
 o 71 (.fieldA 2 (.t 7)),
 o 72 (.load none (.t 71)),
 o 73 (.call 54 [(.t 72)]),
 o 74 (.fieldA 2 (.t 7)),
 ⟨none, .store 1 (.t 74) (.t 73), none⟩] [71, 72, 73, 74])
 (.seq
 (.reg 1472 [
 o 75 (.load (some 3) (.t 7)),
 ⟨none, .store 3 (.t 4) (.t 75), none⟩,
 o 5 (.mv (ki 0))] [7, 75])
 .ret)))))))
def fe30 : FnE := ⟨76, [(4, some (some 3)), (5, none)], xc30⟩
theorem ok30 : FnOk Tryd.prog 30 fe30 := fnOk_of Tryd.func30 (by kernel_rfl : chkF Tryd.prog hs30 Tryd.f30 = some fe30)
/- 31 crimp/fans.Flat -/
def hs31 : Hints := [(0, ([], [0, 2])), (2, ([], [6])), (4, ([], [10, 11, 12])), (5, ([], [5, 13, 14, 15])), (6, ([], [16])), (7, ([], [1, 3, 7, 8, 9, 28, 23, 27, 26, 25, 24, 22, 21, 17, 18, 19, 20, 29]))]
def xc31 : XC :=
 (.seq
 (.reg 64 [
 o 1 (.box (.t 0)),
 o 2 (.mv (.c (.bool false)))] [0, 2])
 (.seq
 (.reg 128 [
 o 3 (.mv (ki 0))] [])
 (.seq
 (.seq
 (.reg 192 [
 o 6 (.fieldA 0 (.t 1)),
 o 7 (.load none (.t 6)),
 o 8 (.len (.t 7)),
 o 9 (.mv (ki 0))] [6])
 (.block 0
 (.loop
 (.seq
 (.reg 256 [
 o 10 (.bin .lss (.t 9) (.t 8))] [])
 (.seq
 (.cond (.t 10)
 .skip
 (.exit 0))
 (.seq
 (.block 1
 (.seq
 (.reg 320 [
 o 11 (.idxA none 1 (.t 7) (.t 9)),
 o 12 (.load none (.t 11)),
 o 5 (.mv (.t 12))] [10, 11, 12])
 (.reg 384 [
 o 13 (.mv (.t 3)),
 o 14 (.mv (.t 5)),
 o 15 (.bin .add (.t 13) (.t 14)),
 o 3 (.mv (.t 15))] [5, 13, 14, 15])))
 (.reg 448 [
 o 16 (.bin .add (.t 9) (ki 1)),
 o 9 (.mv (.t 16))] [16])))))))
 (.seq
 (.reg 512 [
 o 17 (.load (some 2) (.t 1)),
 o 18 (.call 17 [(.t 17)]),
 o 19 (.bin .eql (.t 18) (ki 0)),
 o 20 (.mv (.t 19)),
 oi 21 20 true (.mv (.t 3)),
 oi 22 20 true (.bin .eql (.t 21) (ki 8)),
 oi 23 20 true (.mv (.t 22)),
 oi 24 23 false (.fieldA 0 (.t 1)),
 oi 25 23 false (.load none (.t 24)),
 oi 26 23 false (.len (.t 25)),
 oi 27 23 false (.bin .eql (.t 26) (ki 0)),
 oi 28 20 true (.pick (.t 23) (.c (.bool true)) (.t 27)),
 o 29 (.pick (.t 20) (.t 28) (.c (.bool false))),
 o 2 (.mv (.t 29))] [1, 3, 7, 8, 9, 28, 23, 27, 26, 25, 24, 22, 21, 17, 18, 19, 20, 29])
 .ret))))
def fe31 : FnE := ⟨30, [(2, none)], xc31⟩
theorem ok31 : FnOk Tryd.prog 31 fe31 := fnOk_of Tryd.func31 (by kernel_rfl : chkF Tryd.prog hs31 Tryd.f31 = some fe31)
/- 32 crimp/fans.Same -/
def hs32 : Hints := [(0, ([], [0, 1, 4])), (1, ([], [2, 3, 5, 6, 7, 8, 9, 10, 11, 12, 13, 14, 15, 16]))]
def xc32 : XC :=
 (.seq
 (.reg 64 [
 o 2 (.box (.t 0)),
 o 3 (.box (.t 1)),
 o 4 (.mv (.c (.bool false)))] [0, 1, 4])
 (.seq
 (.reg 128 [
 o 5 (.fieldA 0 (.t 2)),
 o 6 (.load none (.t 5)),
 o 7 (.fieldA 0 (.t 3)),
 o 8 (.load none (.t 7)),
 o 9 (.call 55 [(.t 6), (.t 8)]),
 o 10 (.mv (.t 9)),
 oi 11 10 true (.fieldA 1 (.t 2)),
 oi 12 10 true (.load none (.t 11)),
 oi 13 10 true (.fieldA 1 (.t 3)),
 oi 14 10 true (.load none (.t 13)),
 oi 15 10 true (.call 56 [(.t 12), (.t 14)]),
 o 16 (.pick (.t 10) (.t 15) (.c (.bool false))),
 o 4 (.mv (.t 16))] [2, 3, 5, 6, 7, 8, 9, 10, 11, 12, 13, 14, 15, 16])
 .ret))
def fe32 : FnE := ⟨17, [(4, none)], xc32⟩
theorem ok32 : FnOk Tryd.prog 32 fe32 := fnOk_of Tryd.func32 (by kernel_rfl : chkF Tryd.prog hs32 Tryd.f32 = some fe32)
/- 33 crimp/fans.Text -/
def hs33 : Hints := [(0, ([], [0, 2])), (1, ([], [6, 7])), (2, ([], [1, 8])), (3, ([], [2, 8, 9, 10, 11])), (4, ([], [1, 12])), (5, ([], [2, 12])), (6, ([], [13])), (8, ([], [17, 18, 19, 20])), (9, ([0, 1, 2, 3, 4, 5, 6, 7, 8, 9, 10, 11, 12, 13, 14, 15, 16, 17, 18], [4, 5, 21, 22, 23, 24, 25, 26, 27, 28, 29, 30, 31, 32, 33, 34, 35, 36, 37, 38])), (10, ([], [39])), (11, ([], [1, 3, 14, 15, 16, 40, 41]))]
def xc33 : XC :=
 (.seq
 (.reg 64 [
 o 1 (.box (.t 0)),
 o 2 (.mv (.c (.str [])))] [0, 2])
 (.seq
 (.seq
 (.reg 128 [
 o 6 (.load (some 2) (.t 1)),
 o 7 (.call 17 [(.t 6)]),
 o 8 (.bin .neq (.t 7) (ki 0))] [6, 7])
 (.cond (.t 8)
 (.seq
 (.reg 192 [
 o 2 (.mv (.c (.str [])))] [1, 8])
 .ret)
 .skip))
 (.seq
 (.seq
 (.reg 256 [
 o 9 (.fieldA 0 (.t 1)),
 o 10 (.load none (.t 9)),
 o 11 (.len (.t 10)),
 o 12 (.bin .eql (.t 11) (ki 0))] [2, 8, 9, 10, 11])
 (.cond (.t 12)
 (.seq
 (.reg 320 [
 o 2 (.mv (.c (.str [45])))] [1, 12])
 .ret)
 .skip))
 (.seq
 (.reg 384 [
 o 3 (.mv (.c .nils))] [2, 12])
 (.seq
 (.seq
 (.reg 448 [
 o 13 (.fieldA 0 (.t 1)),
 o 14 (.load none (.t 13)),
 o 15 (.len (.t 14)),
 o 16 (.mv (ki 0))] [13])
 (.block 0
 (.loop
 (.seq
 (.reg 512 [
 o 17 (.bin .lss (.t 16) (.t 15))] [])
 (.seq
 (.cond (.t 17)
 .skip
 (.exit 0))
 (.seq
 (.block 1
 (.seq
 (.reg 576 [
 o 18 (.mv (.t 16)),
 o 19 (.idxA none 1 (.t 14) (.t 16)),
 o 20 (.load none (.t 19)),
 o 4 (.mv (.t 18)),
 o 5 (.mv (.t 20))] [17, 18, 19, 20])
 (.draw 640 [
 o 21 (.mv (.t 3)),
 o 22 (.fieldA 1 (.t 1)),
 o 23 (.load none (.t 22)),
 o 24 (.mv (.t 4)),
 o 25 (.idxA none 1 (.t 23) (.t 24)),
 o 26 (.load none (.t 25)),
 o 27 (.fieldA 1 (.t 1)),
 o 28 (.load none (.t 27)),
 o 29 (.mv (.t 4)),
 o 30 (.idxA none 1 (.t 28) (.t 29)),
 o 31 (.load none (.t 30)),
 o 32 (.bin .add (.t 31) (ku 1)),
 o 33 (.slices (.c (.str [32, 109, 118, 97])) (some (.t 26)) (some (.t 32))),
 o 34 (.mv (.t 5)),
 o 35 (.call 34 [(.t 34)]),
 o 36 (.bin .add (.t 33) (.t 35)),
 o 37 (.buildS 1 1 10 [(.str [])] [(0, 1, (.t 36))]),
 o 38 (.append 1 16 10 (.t 21) (.t 37)),
 o 3 (.mv (.t 38))]
 [[], [], [1], [], [2, 3], [4], [], [6], [], [7, 8], [9], [10], [5, 11], [], [13], [12, 14], [15], [0, 16, 14], [17, 17, 0, 1, 2, 3, 4, 5, 6, 7, 8, 9, 10, 11, 12, 13, 14, 15, 16, 17]]
 [0, 1, 2, 3, 4, 5, 6, 7, 8, 9, 10, 11, 12, 13, 14, 15, 16, 17, 18] [4, 5, 21, 22, 23, 24, 25, 26, 27, 28, 29, 30, 31, 32, 33, 34, 35, 36, 37, 38])))
 (.reg 704 [
 o 39 (.bin .add (.t 16) (ki 1)),
 o 16 (.mv (.t 39))] [39])))))))
 (.seq
 (.reg 768 [
 o 40 (.mv (.t 3)),
 o 41 (.call 57 [(.t 40), (.c (.str [32]))]),
 o 2 (.mv (.t 41))] [1, 3, 14, 15, 16, 40, 41])
 .ret))))))
def fe33 : FnE := ⟨42, [(2, none)], xc33⟩
theorem ok33 : FnOk Tryd.prog 33 fe33 := fnOk_of Tryd.func33 (by kernel_rfl : chkF Tryd.prog hs33 Tryd.f33 = some fe33)
/- 34 strconv.Itoa -/
def hs34 : Hints := [(0, ([], [2])), (1, ([], [0, 3, 4]))]
def xc34 : XC :=
 (.seq
 (.reg 64 [
 o 2 (.mv (.c (.str [])))] [2])
 (.seq
 (.reg 128 [
 o 3 (.mv (.t 0)),
 o 4 (.call 58 [(.t 3)]),
 o 2 (.mv (.t 4))] [0, 3, 4])
 .ret))
def fe34 : FnE := ⟨5, [(2, none)], xc34⟩
theorem ok34 : FnOk Tryd.prog 34 fe34 := fnOk_of Tryd.func34 (by kernel_rfl : chkF Tryd.prog hs34 Tryd.f34 = some fe34)
/- 37 crimp/reductions.decided -/
def hs37 : Hints := [(0, ([], [0, 2])), (1, ([], [4, 5])), (2, ([], [6])), (3, ([], [1, 3, 7, 8])), (4, ([], [2, 1, 3, 7, 9, 10])), (5, ([], [11])), (6, ([], [11]))]
def xc37 : XC :=
 (.seq
 (.reg 64 [
 o 1 (.box (.t 0)),
 o 2 (.mv (ki 0))] [0, 2])
 (.seq
 (.seq
 (.reg 128 [
 o 4 (.load (some 2) (.t 1)),
 o 5 (.call 17 [(.t 4)]),
 o 3 (.mv (.t 5))] [4, 5])
 (.seq
 (.reg 192 [
 o 6 (.mv (.t 3)),
 o 7 (.bin .neq (.t 6) (ki 0))] [6])
 (.cond (.t 7)
 (.seq
 (.reg 256 [
 o 8 (.mv (.t 3)),
 o 2 (.mv (.t 8))] [1, 3, 7, 8])
 .ret)
 .skip)))
 (.seq
 (.seq
 (.reg 320 [
 o 9 (.fieldA 1 (.t 1)),
 o 10 (.load none (.t 9)),
 o 11 (.call 62 [(.t 10), (ku 3)])] [2, 1, 3, 7, 9, 10])
 (.cond (.t 11)
 (.seq
 (.reg 384 [
 o 2 (.mv (ki 1))] [11])
 .ret)
 .skip))
 (.seq
 (.reg 448 [
 o 2 (.mv (ki 0))] [11])
 .ret))))
def fe37 : FnE := ⟨12, [(2, none)], xc37⟩
theorem ok37 : FnOk Tryd.prog 37 fe37 := fnOk_of Tryd.func37 (by kernel_rfl : chkF Tryd.prog hs37 Tryd.f37 = some fe37)
/- 39 slices.Contains[[]int,int] -/
def hs39 : Hints := [(0, ([], [4])), (1, ([], [0, 1, 5, 6, 7, 8]))]
def xc39 : XC :=
 (.seq
 (.reg 64 [
 o 4 (.mv (.c (.bool false)))] [4])
 (.seq
 (.reg 128 [
 o 5 (.mv (.t 0)),
 o 6 (.mv (.t 1)),
 o 7 (.call 64 [(.t 5), (.t 6)]),
 o 8 (.bin .geq (.t 7) (ki 0)),
 o 4 (.mv (.t 8))] [0, 1, 5, 6, 7, 8])
 .ret))
def fe39 : FnE := ⟨9, [(4, none)], xc39⟩
theorem ok39 : FnOk Tryd.prog 39 fe39 := fnOk_of Tryd.func39 (by kernel_rfl : chkF Tryd.prog hs39 Tryd.f39 = some fe39)
/- 41 slices.Clip[[]int,int] -/
def hs41 : Hints := [(0, ([], [2])), (1, ([], [0, 3, 4, 5, 6, 7, 8]))]
def xc41 : XC :=
 (.seq
 (.reg 64 [
 o 2 (.mv (.c .nils))] [2])
 (.seq
 (.reg 128 [
 o 3 (.mv (.t 0)),
 o 4 (.mv (.t 0)),
 o 5 (.len (.t 4)),
 o 6 (.mv (.t 0)),
 o 7 (.len (.t 6)),
 o 8 (.slice 1 (.t 3) none (some (.t 5)) (some (.t 7))),
 o 2 (.mv (.t 8))] [0, 3, 4, 5, 6, 7, 8])
 .ret))
def fe41 : FnE := ⟨9, [(2, none)], xc41⟩
theorem ok41 : FnOk Tryd.prog 41 fe41 := fnOk_of Tryd.func41 (by kernel_rfl : chkF Tryd.prog hs41 Tryd.f41 = some fe41)
/- 42 crimp/fans.begun[int] -/
def hs42 : Hints := [(0, ([], [4])), (1, ([0, 1, 2, 3, 4, 5, 6, 7, 8, 9], [0, 1, 5, 6, 7, 8, 9, 10, 11, 12, 13]))]
def xc42 : XC :=
 (.seq
 (.reg 64 [
 o 4 (.mv (.c .nils))] [4])
 (.seq
 (.draw 128 [
 o 5 (.mv (.t 0)),
 o 6 (.mv (.t 1)),
 o 7 (.slice 1 (.t 5) (some (.t 6)) none none),
 o 8 (.mv (.t 0)),
 o 9 (.mv (.t 1)),
 o 10 (.slice 1 (.t 8) none (some (.t 9)) none),
 o 11 (.buildS 1 2 0 [.nils] [(0, 1, (.t 7)), (1, 1, (.t 10))]),
 o 12 (.call 65 [(.t 11)]),
 o 13 (.call 41 [(.t 12)]),
 o 4 (.mv (.t 13))]
 [[], [], [0, 1], [], [], [3, 4], [2, 5], [6], [7, 7], [8, 8, 0, 1, 2, 3, 4, 5, 6, 7, 8]]
 [0, 1, 2, 3, 4, 5, 6, 7, 8, 9] [0, 1, 5, 6, 7, 8, 9, 10, 11, 12, 13])
 .ret))
def fe42 : FnE := ⟨14, [(4, none)], xc42⟩
theorem ok42 : FnOk Tryd.prog 42 fe42 := fnOk_of Tryd.func42 (by kernel_rfl : chkF Tryd.prog hs42 Tryd.f42 = some fe42)
/- 43 crimp/fans.begun[crimp/api.Kind] -/
def hs43 : Hints := [(0, ([], [4])), (1, ([0, 1, 2, 3, 4, 5, 6, 7, 8, 9], [0, 1, 5, 6, 7, 8, 9, 10, 11, 12, 13]))]
def xc43 : XC :=
 (.seq
 (.reg 64 [
 o 4 (.mv (.c .nils))] [4])
 (.seq
 (.draw 128 [
 o 5 (.mv (.t 0)),
 o 6 (.mv (.t 1)),
 o 7 (.slice 1 (.t 5) (some (.t 6)) none none),
 o 8 (.mv (.t 0)),
 o 9 (.mv (.t 1)),
 o 10 (.slice 1 (.t 8) none (some (.t 9)) none),
 o 11 (.buildS 1 2 0 [.nils] [(0, 1, (.t 7)), (1, 1, (.t 10))]),
 o 12 (.call 66 [(.t 11)]),
 o 13 (.call 61 [(.t 12)]),
 o 4 (.mv (.t 13))]
 [[], [], [0, 1], [], [], [3, 4], [2, 5], [6], [7, 7], [8, 8, 0, 1, 2, 3, 4, 5, 6, 7, 8]]
 [0, 1, 2, 3, 4, 5, 6, 7, 8, 9] [0, 1, 5, 6, 7, 8, 9, 10, 11, 12, 13])
 .ret))
def fe43 : FnE := ⟨14, [(4, none)], xc43⟩
theorem ok43 : FnOk Tryd.prog 43 fe43 := fnOk_of Tryd.func43 (by kernel_rfl : chkF Tryd.prog hs43 Tryd.f43 = some fe43)
/- 44 crimp/fans.turned[int] -/
def hs44 : Hints := [(0, ([], [2])), (1, ([], [0, 4, 5, 6])), (2, ([], [7, 8])), (3, ([], [3, 9]))]
def xc44 : XC :=
 (.seq
 (.reg 64 [
 o 2 (.mv (.c .nils))] [2])
 (.seq
 (.reg 128 [
 o 4 (.mv (.t 0)),
 o 5 (.call 67 [(.t 4)]),
 o 6 (.call 41 [(.t 5)]),
 o 3 (.mv (.t 6))] [0, 4, 5, 6])
 (.seq
 (.reg 192 [
 o 7 (.mv (.t 3)),
 o 8 (.call 68 [(.t 7)])] [7, 8])
 (.seq
 (.reg 256 [
 o 9 (.mv (.t 3)),
 o 2 (.mv (.t 9))] [3, 9])
 .ret))))
def fe44 : FnE := ⟨10, [(2, none)], xc44⟩
theorem ok44 : FnOk Tryd.prog 44 fe44 := fnOk_of Tryd.func44 (by kernel_rfl : chkF Tryd.prog hs44 Tryd.f44 = some fe44)
/- 45 crimp/fans.turned[crimp/api.Kind] -/
def hs45 : Hints := [(0, ([], [2])), (1, ([], [0, 4, 5, 6])), (2, ([], [7, 8])), (3, ([], [3, 9]))]
def xc45 : XC :=
 (.seq
 (.reg 64 [
 o 2 (.mv (.c .nils))] [2])
 (.seq
 (.reg 128 [
 o 4 (.mv (.t 0)),
 o 5 (.call 69 [(.t 4)]),
 o 6 (.call 61 [(.t 5)]),
 o 3 (.mv (.t 6))] [0, 4, 5, 6])
 (.seq
 (.reg 192 [
 o 7 (.mv (.t 3)),
 o 8 (.call 70 [(.t 7)])] [7, 8])
 (.seq
 (.reg 256 [
 o 9 (.mv (.t 3)),
 o 2 (.mv (.t 9))] [3, 9])
 .ret))))
def fe45 : FnE := ⟨10, [(2, none)], xc45⟩
theorem ok45 : FnOk Tryd.prog 45 fe45 := fnOk_of Tryd.func45 (by kernel_rfl : chkF Tryd.prog hs45 Tryd.f45 = some fe45)
/- 46 crimp/fans.turns -/
def hs46 : Hints := [(0, ([], [0, 2])), (1, ([], [1, 3]))]
def xc46 : XC :=
 (.seq
 (.reg 64 [
 o 1 (.box (.t 0)),
 o 2 (.mv (.c .nilf))] [0, 2])
 (.seq
 (.reg 128 [
 o 3 (.mkf 71 [] [(.t 1)]),
 o 2 (.mv (.t 3))] [1, 3])
 .ret))
def fe46 : FnE := ⟨4, [(2, none)], xc46⟩
theorem ok46 : FnOk Tryd.prog 46 fe46 := fnOk_of Tryd.func46 (by kernel_rfl : chkF Tryd.prog hs46 Tryd.f46 = some fe46)
/- 47 cmp.Or[int] -/
def hs47 : Hints := [(0, ([], [2])), (2, ([], [0])), (4, ([], [9, 10, 11])), (5, ([], [12, 13])), (6, ([], [8, 3, 6, 7, 5, 14, 15])), (7, ([], [2, 5, 14, 16])), (8, ([], [3, 6, 7, 8, 17]))]
def xc47 : XC :=
 (.seq
 (.reg 64 [
 o 2 (.mv (ki 0))] [2])
 (.seq
 (.reg 128 [
 o 3 (.mv (ki 0))] [])
 (.seq
 (.seq
 (.reg 192 [
 o 6 (.mv (.t 0)),
 o 7 (.len (.t 6)),
 o 8 (.mv (ki 0))] [0])
 (.block 0
 (.loop
 (.seq
 (.reg 256 [
 o 9 (.bin .lss (.t 8) (.t 7))] [])
 (.seq
 (.cond (.t 9)
 .skip
 (.exit 0))
 (.seq
 (.block 1
 (.seq
 (.reg 320 [
 o 10 (.idxA none 1 (.t 6) (.t 8)),
 o 11 (.load none (.t 10)),
 o 5 (.mv (.t 11))] [9, 10, 11])
 (.seq
 (.reg 384 [
 o 12 (.mv (.t 5)),
 o 13 (.mv (.t 3)),
 o 14 (.bin .neq (.t 12) (.t 13))] [12, 13])
 (.cond (.t 14)
 (.seq
 (.reg 448 [
 o 15 (.mv (.t 5)),
 o 2 (.mv (.t 15))] [8, 3, 6, 7, 5, 14, 15])
 .ret)
 .skip))))
 (.reg 512 [
 o 16 (.bin .add (.t 8) (ki 1)),
 o 8 (.mv (.t 16))] [2, 5, 14, 16])))))))
 (.seq
 (.reg 576 [
 o 17 (.mv (.t 3)),
 o 2 (.mv (.t 17))] [3, 6, 7, 8, 17])
 .ret))))
def fe47 : FnE := ⟨18, [(2, none)], xc47⟩
theorem ok47 : FnOk Tryd.prog 47 fe47 := fnOk_of Tryd.func47 (by kernel_rfl : chkF Tryd.prog hs47 Tryd.f47 = some fe47)
/- 48 slices.Compare[[]int,int] -/
def hs48 : Hints := [(0, ([], [4])), (3, ([], [12, 13, 14, 15])), (4, ([], [16, 17, 18])), (5, ([], [11, 1, 9, 0, 10, 5, 6, 19])), (6, ([], [4, 5, 19, 20, 21, 22, 23])), (7, ([], [6, 7, 24, 25, 26])), (8, ([], [27])), (9, ([], [11, 1, 9, 0, 10, 8, 28, 29])), (10, ([], [4, 8, 28, 30])), (11, ([], [0, 1, 9, 10, 11, 31, 32, 33, 34])), (12, ([], [35])), (13, ([], [35]))]
def xc48 : XC :=
 (.seq
 (.reg 64 [
 o 4 (.mv (ki 0))] [4])
 (.seq
 (.seq
 (.reg 128 [
 o 9 (.mv (.t 0)),
 o 10 (.len (.t 9)),
 o 11 (.mv (ki 0))] [])
 (.block 0
 (.loop
 (.seq
 (.reg 192 [
 o 12 (.bin .lss (.t 11) (.t 10))] [])
 (.seq
 (.cond (.t 12)
 .skip
 (.exit 0))
 (.seq
 (.block 1
 (.seq
 (.reg 256 [
 o 13 (.mv (.t 11)),
 o 14 (.idxA none 1 (.t 9) (.t 11)),
 o 15 (.load none (.t 14)),
 o 5 (.mv (.t 13)),
 o 6 (.mv (.t 15))] [12, 13, 14, 15])
 (.seq
 (.seq
 (.reg 320 [
 o 16 (.mv (.t 5)),
 o 17 (.mv (.t 1)),
 o 18 (.len (.t 17)),
 o 19 (.bin .geq (.t 16) (.t 18))] [16, 17, 18])
 (.cond (.t 19)
 (.seq
 (.reg 384 [
 o 4 (.mv (ki 1))] [11, 1, 9, 0, 10, 5, 6, 19])
 .ret)
 .skip))
 (.seq
 (.reg 448 [
 o 20 (.mv (.t 1)),
 o 21 (.mv (.t 5)),
 o 22 (.idxA none 1 (.t 20) (.t 21)),
 o 23 (.load none (.t 22)),
 o 7 (.mv (.t 23))] [4, 5, 19, 20, 21, 22, 23])
 (.seq
 (.reg 512 [
 o 24 (.mv (.t 6)),
 o 25 (.mv (.t 7)),
 o 26 (.call 52 [(.t 24), (.t 25)]),
 o 8 (.mv (.t 26))] [6, 7, 24, 25, 26])
 (.seq
 (.reg 576 [
 o 27 (.mv (.t 8)),
 o 28 (.bin .neq (.t 27) (ki 0))] [27])
 (.cond (.t 28)
 (.seq
 (.reg 640 [
 o 29 (.mv (.t 8)),
 o 4 (.mv (.t 29))] [11, 1, 9, 0, 10, 8, 28, 29])
 .ret)
 .skip)))))))
 (.reg 704 [
 o 30 (.bin .add (.t 11) (ki 1)),
 o 11 (.mv (.t 30))] [4, 8, 28, 30])))))))
 (.seq
 (.seq
 (.reg 768 [
 o 31 (.mv (.t 0)),
 o 32 (.len (.t 31)),
 o 33 (.mv (.t 1)),
 o 34 (.len (.t 33)),
 o 35 (.bin .lss (.t 32) (.t 34))] [0, 1, 9, 10, 11, 31, 32, 33, 34])
 (.cond (.t 35)
 (.seq
 (.reg 832 [
 o 4 (.mv (ki (-1)))] [35])
 .ret)
 .skip))
 (.seq
 (.reg 896 [
 o 4 (.mv (ki 0))] [35])
 .ret))))
def fe48 : FnE := ⟨36, [(4, none)], xc48⟩
theorem ok48 : FnOk Tryd.prog 48 fe48 := fnOk_of Tryd.func48 (by kernel_rfl : chkF Tryd.prog hs48 Tryd.f48 = some fe48)
/- 49 slices.Compare[[]crimp/api.Kind,crimp/api.Kind] -/
def hs49 : Hints := [(0, ([], [4])), (3, ([], [12, 13, 14, 15])), (4, ([], [16, 17, 18])), (5, ([], [11, 1, 9, 0, 10, 5, 6, 19])), (6, ([], [4, 5, 19, 20, 21, 22, 23])), (7, ([], [6, 7, 24, 25, 26])), (8, ([], [27])), (9, ([], [11, 1, 9, 0, 10, 8, 28, 29])), (10, ([], [4, 8, 28, 30])), (11, ([], [0, 1, 9, 10, 11, 31, 32, 33, 34])), (12, ([], [35])), (13, ([], [35]))]
def xc49 : XC :=
 (.seq
 (.reg 64 [
 o 4 (.mv (ki 0))] [4])
 (.seq
 (.seq
 (.reg 128 [
 o 9 (.mv (.t 0)),
 o 10 (.len (.t 9)),
 o 11 (.mv (ki 0))] [])
 (.block 0
 (.loop
 (.seq
 (.reg 192 [
 o 12 (.bin .lss (.t 11) (.t 10))] [])
 (.seq
 (.cond (.t 12)
 .skip
 (.exit 0))
 (.seq
 (.block 1
 (.seq
 (.reg 256 [
 o 13 (.mv (.t 11)),
 o 14 (.idxA none 1 (.t 9) (.t 11)),
 o 15 (.load none (.t 14)),
 o 5 (.mv (.t 13)),
 o 6 (.mv (.t 15))] [12, 13, 14, 15])
 (.seq
 (.seq
 (.reg 320 [
 o 16 (.mv (.t 5)),
 o 17 (.mv (.t 1)),
 o 18 (.len (.t 17)),
 o 19 (.bin .geq (.t 16) (.t 18))] [16, 17, 18])
 (.cond (.t 19)
 (.seq
 (.reg 384 [
 o 4 (.mv (ki 1))] [11, 1, 9, 0, 10, 5, 6, 19])
 .ret)
 .skip))
 (.seq
 (.reg 448 [
 o 20 (.mv (.t 1)),
 o 21 (.mv (.t 5)),
 o 22 (.idxA none 1 (.t 20) (.t 21)),
 o 23 (.load none (.t 22)),
 o 7 (.mv (.t 23))] [4, 5, 19, 20, 21, 22, 23])
 (.seq
 (.reg 512 [
 o 24 (.mv (.t 6)),
 o 25 (.mv (.t 7)),
 o 26 (.call 72 [(.t 24), (.t 25)]),
 o 8 (.mv (.t 26))] [6, 7, 24, 25, 26])
 (.seq
 (.reg 576 [
 o 27 (.mv (.t 8)),
 o 28 (.bin .neq (.t 27) (ki 0))] [27])
 (.cond (.t 28)
 (.seq
 (.reg 640 [
 o 29 (.mv (.t 8)),
 o 4 (.mv (.t 29))] [11, 1, 9, 0, 10, 8, 28, 29])
 .ret)
 .skip)))))))
 (.reg 704 [
 o 30 (.bin .add (.t 11) (ki 1)),
 o 11 (.mv (.t 30))] [4, 8, 28, 30])))))))
 (.seq
 (.seq
 (.reg 768 [
 o 31 (.mv (.t 0)),
 o 32 (.len (.t 31)),
 o 33 (.mv (.t 1)),
 o 34 (.len (.t 33)),
 o 35 (.bin .lss (.t 32) (.t 34))] [0, 1, 9, 10, 11, 31, 32, 33, 34])
 (.cond (.t 35)
 (.seq
 (.reg 832 [
 o 4 (.mv (ki (-1)))] [35])
 .ret)
 .skip))
 (.seq
 (.reg 896 [
 o 4 (.mv (ki 0))] [35])
 .ret))))
def fe49 : FnE := ⟨36, [(4, none)], xc49⟩
theorem ok49 : FnOk Tryd.prog 49 fe49 := fnOk_of Tryd.func49 (by kernel_rfl : chkF Tryd.prog hs49 Tryd.f49 = some fe49)
/- 50 slices.SortFunc[[]crimp/patterns.Crease,crimp/patterns.Crease] -/
def hs50 : Hints := [(0, ([], [5, 6])), (1, ([], [0, 1, 4, 7, 8, 9, 10, 11, 12, 13]))]
def xc50 : XC :=
 (.seq
 (.reg 64 [
 o 5 (.mv (.t 0)),
 o 6 (.len (.t 5)),
 o 4 (.mv (.t 6))] [5, 6])
 (.reg 128 [
 o 7 (.mv (.t 0)),
 o 8 (.mv (.t 4)),
 o 9 (.mv (.t 4)),
 o 10 (.conv .u64 (.t 9)),
 o 11 (.call 74 [(.t 10)]),
 o 12 (.mv (.t 1)),
 o 13 (.call 73 [(.t 7), (ki 0), (.t 8), (.t 11), (.t 12)])] [0, 1, 4, 7, 8, 9, 10, 11, 12, 13]))
def fe50 : FnE := ⟨14, [], xc50⟩
theorem ok50 : FnOk Tryd.prog 50 fe50 := fnOk_of Tryd.func50 (by kernel_rfl : chkF Tryd.prog hs50 Tryd.f50 = some fe50)
/- 51 crimp/fans.Pattern$1 -/
def hs51 : Hints := [(0, ([], [0, 1, 4])), (1, ([0, 1, 2, 3, 4, 5, 6, 7, 8, 9, 10, 11, 12], [2, 3, 5, 6, 7, 8, 9, 10, 11, 12, 13, 14, 15, 16]))]
def xc51 : XC :=
 (.seq
 (.reg 64 [
 o 2 (.box (.t 0)),
 o 3 (.box (.t 1)),
 o 4 (.mv (ki 0))] [0, 1, 4])
 (.seq
 (.draw 128 [
 o 5 (.fieldA 0 (.t 2)),
 o 6 (.load none (.t 5)),
 o 7 (.fieldA 0 (.t 3)),
 o 8 (.load none (.t 7)),
 o 9 (.call 52 [(.t 6), (.t 8)]),
 o 10 (.fieldA 1 (.t 2)),
 o 11 (.load none (.t 10)),
 o 12 (.fieldA 1 (.t 3)),
 o 13 (.load none (.t 12)),
 o 14 (.call 53 [(.t 11), (.t 13)]),
 o 15 (.buildS 1 2 4 [(.int .i64 0)] [(0, 1, (.t 9)), (1, 1, (.t 14))]),
 o 16 (.call 47 [(.t 15)]),
 o 4 (.mv (.t 16))]
 [[], [0], [], [2], [1, 3], [], [5], [], [7], [6, 8, 4], [4, 9], [10, 9], [11, 11, 0, 1, 2, 3, 4, 5, 6, 7, 8, 9, 10, 11]]
 [0, 1, 2, 3, 4, 5, 6, 7, 8, 9, 10, 11, 12] [2, 3, 5, 6, 7, 8, 9, 10, 11, 12, 13, 14, 15, 16])
 .ret))
def fe51 : FnE := ⟨17, [(4, none)], xc51⟩
theorem ok51 : FnOk Tryd.prog 51 fe51 := fnOk_of Tryd.func51 (by kernel_rfl : chkF Tryd.prog hs51 Tryd.f51 = some fe51)
/- 52 cmp.Compare[int] -/
def hs52 : Hints := [(0, ([], [4])), (1, ([], [7, 8])), (2, ([], [9, 10])), (3, ([], [5])), (4, ([], [0, 1, 6, 11])), (5, ([], [12])), (6, ([], [12])), (7, ([], [4, 6, 11])), (8, ([], [0, 1, 13])), (9, ([], [4, 13, 14, 15])), (10, ([], [0, 1, 16])), (11, ([], [4, 0, 1, 16, 17, 18])), (12, ([], [19])), (13, ([], [19]))]
def xc52 : XC :=
 (.seq
 (.reg 64 [
 o 4 (.mv (ki 0))] [4])
 (.seq
 (.reg 128 [
 o 7 (.mv (.t 0)),
 o 8 (.call 75 [(.t 7)]),
 o 5 (.mv (.t 8))] [7, 8])
 (.seq
 (.reg 192 [
 o 9 (.mv (.t 1)),
 o 10 (.call 75 [(.t 9)]),
 o 6 (.mv (.t 10))] [9, 10])
 (.seq
 (.seq
 (.reg 256 [
 o 11 (.mv (.t 5))] [5])
 (.cond (.t 11)
 (.seq
 (.seq
 (.reg 320 [
 o 12 (.mv (.t 6))] [0, 1, 6, 11])
 (.cond (.t 12)
 (.seq
 (.reg 384 [
 o 4 (.mv (ki 0))] [12])
 .ret)
 .skip))
 (.seq
 (.reg 448 [
 o 4 (.mv (ki (-1)))] [12])
 .ret))
 .skip))
 (.seq
 (.seq
 (.reg 512 [
 o 13 (.mv (.t 6))] [4, 6, 11])
 (.cond (.t 13)
 (.seq
 (.reg 576 [
 o 4 (.mv (ki 1))] [0, 1, 13])
 .ret)
 .skip))
 (.seq
 (.seq
 (.reg 640 [
 o 14 (.mv (.t 0)),
 o 15 (.mv (.t 1)),
 o 16 (.bin .lss (.t 14) (.t 15))] [4, 13, 14, 15])
 (.cond (.t 16)
 (.seq
 (.reg 704 [
 o 4 (.mv (ki (-1)))] [0, 1, 16])
 .ret)
 .skip))
 (.seq
 (.seq
 (.reg 768 [
 o 17 (.mv (.t 0)),
 o 18 (.mv (.t 1)),
 o 19 (.bin .gtr (.t 17) (.t 18))] [4, 0, 1, 16, 17, 18])
 (.cond (.t 19)
 (.seq
 (.reg 832 [
 o 4 (.mv (ki 1))] [19])
 .ret)
 .skip))
 (.seq
 (.reg 896 [
 o 4 (.mv (ki 0))] [19])
 .ret))))))))
def fe52 : FnE := ⟨20, [(4, none)], xc52⟩
theorem ok52 : FnOk Tryd.prog 52 fe52 := fnOk_of Tryd.func52 (by kernel_rfl : chkF Tryd.prog hs52 Tryd.f52 = some fe52)
/- 53 cmp.Compare[uint8] -/
def hs53 : Hints := [(0, ([], [4])), (1, ([], [7, 8])), (2, ([], [9, 10])), (3, ([], [5])), (4, ([], [0, 1, 6, 11])), (5, ([], [12])), (6, ([], [12])), (7, ([], [4, 6, 11])), (8, ([], [0, 1, 13])), (9, ([], [4, 13, 14, 15])), (10, ([], [0, 1, 16])), (11, ([], [4, 0, 1, 16, 17, 18])), (12, ([], [19])), (13, ([], [19]))]
def xc53 : XC :=
 (.seq
 (.reg 64 [
 o 4 (.mv (ki 0))] [4])
 (.seq
 (.reg 128 [
 o 7 (.mv (.t 0)),
 o 8 (.call 76 [(.t 7)]),
 o 5 (.mv (.t 8))] [7, 8])
 (.seq
 (.reg 192 [
 o 9 (.mv (.t 1)),
 o 10 (.call 76 [(.t 9)]),
 o 6 (.mv (.t 10))] [9, 10])
 (.seq
 (.seq
 (.reg 256 [
 o 11 (.mv (.t 5))] [5])
 (.cond (.t 11)
 (.seq
 (.seq
 (.reg 320 [
 o 12 (.mv (.t 6))] [0, 1, 6, 11])
 (.cond (.t 12)
 (.seq
 (.reg 384 [
 o 4 (.mv (ki 0))] [12])
 .ret)
 .skip))
 (.seq
 (.reg 448 [
 o 4 (.mv (ki (-1)))] [12])
 .ret))
 .skip))
 (.seq
 (.seq
 (.reg 512 [
 o 13 (.mv (.t 6))] [4, 6, 11])
 (.cond (.t 13)
 (.seq
 (.reg 576 [
 o 4 (.mv (ki 1))] [0, 1, 13])
 .ret)
 .skip))
 (.seq
 (.seq
 (.reg 640 [
 o 14 (.mv (.t 0)),
 o 15 (.mv (.t 1)),
 o 16 (.bin .lss (.t 14) (.t 15))] [4, 13, 14, 15])
 (.cond (.t 16)
 (.seq
 (.reg 704 [
 o 4 (.mv (ki (-1)))] [0, 1, 16])
 .ret)
 .skip))
 (.seq
 (.seq
 (.reg 768 [
 o 17 (.mv (.t 0)),
 o 18 (.mv (.t 1)),
 o 19 (.bin .gtr (.t 17) (.t 18))] [4, 0, 1, 16, 17, 18])
 (.cond (.t 19)
 (.seq
 (.reg 832 [
 o 4 (.mv (ki 1))] [19])
 .ret)
 .skip))
 (.seq
 (.reg 896 [
 o 4 (.mv (ki 0))] [19])
 .ret))))))))
def fe53 : FnE := ⟨20, [(4, none)], xc53⟩
theorem ok53 : FnOk Tryd.prog 53 fe53 := fnOk_of Tryd.func53 (by kernel_rfl : chkF Tryd.prog hs53 Tryd.f53 = some fe53)
/- 54 slices.Clip[[]crimp/patterns.Crease,crimp/patterns.Crease] -/
def hs54 : Hints := [(0, ([], [2])), (1, ([], [0, 3, 4, 5, 6, 7, 8]))]
def xc54 : XC :=
 (.seq
 (.reg 64 [
 o 2 (.mv (.c .nils))] [2])
 (.seq
 (.reg 128 [
 o 3 (.mv (.t 0)),
 o 4 (.mv (.t 0)),
 o 5 (.len (.t 4)),
 o 6 (.mv (.t 0)),
 o 7 (.len (.t 6)),
 o 8 (.slice 3 (.t 3) none (some (.t 5)) (some (.t 7))),
 o 2 (.mv (.t 8))] [0, 3, 4, 5, 6, 7, 8])
 .ret))
def fe54 : FnE := ⟨9, [(2, none)], xc54⟩
theorem ok54 : FnOk Tryd.prog 54 fe54 := fnOk_of Tryd.func54 (by kernel_rfl : chkF Tryd.prog hs54 Tryd.f54 = some fe54)
/- 55 slices.Equal[[]int,int] -/
def hs55 : Hints := [(0, ([], [4])), (1, ([], [6, 7, 8, 9])), (2, ([], [0, 1, 10])), (3, ([], [4, 10, 11])), (5, ([], [14, 15])), (6, ([0, 1, 2, 3, 4, 5, 6, 7, 8], [5, 16, 17, 18, 19, 20, 21, 22, 23])), (7, ([], [13, 1, 0, 12, 24])), (8, ([], [4, 24, 25])), (9, ([], [0, 1, 12, 13]))]
def xc55 : XC :=
 (.seq
 (.reg 64 [
 o 4 (.mv (.c (.bool false)))] [4])
 (.seq
 (.seq
 (.reg 128 [
 o 6 (.mv (.t 0)),
 o 7 (.len (.t 6)),
 o 8 (.mv (.t 1)),
 o 9 (.len (.t 8)),
 o 10 (.bin .neq (.t 7) (.t 9))] [6, 7, 8, 9])
 (.cond (.t 10)
 (.seq
 (.reg 192 [
 o 4 (.mv (.c (.bool false)))] [0, 1, 10])
 .ret)
 .skip))
 (.seq
 (.seq
 (.reg 256 [
 o 11 (.mv (.t 0)),
 o 12 (.len (.t 11)),
 o 13 (.mv (ki 0))] [4, 10, 11])
 (.block 0
 (.loop
 (.seq
 (.reg 320 [
 o 14 (.bin .lss (.t 13) (.t 12))] [])
 (.seq
 (.cond (.t 14)
 .skip
 (.exit 0))
 (.seq
 (.block 1
 (.seq
 (.reg 384 [
 o 15 (.mv (.t 13)),
 o 5 (.mv (.t 15))] [14, 15])
 (.seq
 (.draw 448 [
 o 16 (.mv (.t 0)),
 o 17 (.mv (.t 5)),
 o 18 (.idxA none 1 (.t 16) (.t 17)),
 o 19 (.load none (.t 18)),
 o 20 (.mv (.t 1)),
 o 21 (.mv (.t 5)),
 o 22 (.idxA none 1 (.t 20) (.t 21)),
 o 23 (.load none (.t 22)),
 o 24 (.bin .neq (.t 19) (.t 23))]
 [[], [], [0, 1], [2], [], [], [4, 5], [6], [3, 7]]
 [0, 1, 2, 3, 4, 5, 6, 7, 8] [5, 16, 17, 18, 19, 20, 21, 22, 23])
 (.cond (.t 24)
 (.seq
 (.reg 512 [
 o 4 (.mv (.c (.bool false)))] [13, 1, 0, 12, 24])
 .ret)
 .skip))))
 (.reg 576 [
 o 25 (.bin .add (.t 13) (ki 1)),
 o 13 (.mv (.t 25))] [4, 24, 25])))))))
 (.seq
 (.reg 640 [
 o 4 (.mv (.c (.bool true)))] [0, 1, 12, 13])
 .ret))))
def fe55 : FnE := ⟨26, [(4, none)], xc55⟩
theorem ok55 : FnOk Tryd.prog 55 fe55 := fnOk_of Tryd.func55 (by kernel_rfl : chkF Tryd.prog hs55 Tryd.f55 = some fe55)
/- 56 slices.Equal[[]crimp/api.Kind,crimp/api.Kind] -/
def hs56 : Hints := [(0, ([], [4])), (1, ([], [6, 7, 8, 9])), (2, ([], [0, 1, 10])), (3, ([], [4, 10, 11])), (5, ([], [14, 15])), (6, ([0, 1, 2, 3, 4, 5, 6, 7, 8], [5, 16, 17, 18, 19, 20, 21, 22, 23])), (7, ([], [13, 1, 0, 12, 24])), (8, ([], [4, 24, 25])), (9, ([], [0, 1, 12, 13]))]
def xc56 : XC :=
 (.seq
 (.reg 64 [
 o 4 (.mv (.c (.bool false)))] [4])
 (.seq
 (.seq
 (.reg 128 [
 o 6 (.mv (.t 0)),
 o 7 (.len (.t 6)),
 o 8 (.mv (.t 1)),
 o 9 (.len (.t 8)),
 o 10 (.bin .neq (.t 7) (.t 9))] [6, 7, 8, 9])
 (.cond (.t 10)
 (.seq
 (.reg 192 [
 o 4 (.mv (.c (.bool false)))] [0, 1, 10])
 .ret)
 .skip))
 (.seq
 (.seq
 (.reg 256 [
 o 11 (.mv (.t 0)),
 o 12 (.len (.t 11)),
 o 13 (.mv (ki 0))] [4, 10, 11])
 (.block 0
 (.loop
 (.seq
 (.reg 320 [
 o 14 (.bin .lss (.t 13) (.t 12))] [])
 (.seq
 (.cond (.t 14)
 .skip
 (.exit 0))
 (.seq
 (.block 1
 (.seq
 (.reg 384 [
 o 15 (.mv (.t 13)),
 o 5 (.mv (.t 15))] [14, 15])
 (.seq
 (.draw 448 [
 o 16 (.mv (.t 0)),
 o 17 (.mv (.t 5)),
 o 18 (.idxA none 1 (.t 16) (.t 17)),
 o 19 (.load none (.t 18)),
 o 20 (.mv (.t 1)),
 o 21 (.mv (.t 5)),
 o 22 (.idxA none 1 (.t 20) (.t 21)),
 o 23 (.load none (.t 22)),
 o 24 (.bin .neq (.t 19) (.t 23))]
 [[], [], [0, 1], [2], [], [], [4, 5], [6], [3, 7]]
 [0, 1, 2, 3, 4, 5, 6, 7, 8] [5, 16, 17, 18, 19, 20, 21, 22, 23])
 (.cond (.t 24)
 (.seq
 (.reg 512 [
 o 4 (.mv (.c (.bool false)))] [13, 1, 0, 12, 24])
 .ret)
 .skip))))
 (.reg 576 [
 o 25 (.bin .add (.t 13) (ki 1)),
 o 13 (.mv (.t 25))] [4, 24, 25])))))))
 (.seq
 (.reg 640 [
 o 4 (.mv (.c (.bool true)))] [0, 1, 12, 13])
 .ret))))
def fe56 : FnE := ⟨26, [(4, none)], xc56⟩
theorem ok56 : FnOk Tryd.prog 56 fe56 := fnOk_of Tryd.func56 (by kernel_rfl : chkF Tryd.prog hs56 Tryd.f56 = some fe56)
/- 57 strings.Join -/
def hs57 : Hints := [(0, ([], [4])), (1, ([], [11])), (2, ([], [14])), (3, ([], [0, 1, 12, 13])), (4, ([], [12, 13, 16])), (5, ([], [0, 1, 15, 17, 18, 19])), (6, ([], [4, 15])), (7, ([], [20, 21])), (8, ([], [22, 23, 24, 25, 26, 27, 28])), (9, ([], [29, 30])), (10, ([], [29, 31, 32, 33, 34, 35, 36, 37, 38])), (11, ([], [22])), (13, ([], [42, 43, 44])), (14, ([], [45, 46, 47, 48])), (15, ([], [49, 50])), (16, ([], [7, 49, 51, 52, 53, 54])), (17, ([], [55])), (18, ([], [39, 40, 41])), (19, ([], [5, 56, 57])), (20, ([], [58, 59, 60, 61])), (21, ([], [0, 62])), (23, ([], [66, 67, 68])), (24, ([], [69, 70])), (25, ([], [10, 71, 72])), (26, ([], [73])), (27, ([], [1, 8, 63, 64, 65, 74]))]
def xc57 : XC :=
 (.seq
 (.reg 64 [
 o 4 (.mv (.c (.str [])))] [4])
 (.seq
 (.seq
 (.reg 128 [
 o 11 (.mv (.t 0)),
 o 12 (.len (.t 11))] [11])
 (.block 0
 (.seq
 (.reg 192 [
 o 14 (.bin .eql (.t 12) (ki 0)),
 o 13 (.mv (.t 14))] [14])
 (.cond (.t 13)
 (.seq
 (.reg 256 [
 o 4 (.mv (.c (.str [])))] [0, 1, 12, 13])
 .ret)
 (.seq
 (.reg 320 [
 o 16 (.bin .eql (.t 12) (ki 1)),
 o 15 (.mv (.t 16))] [12, 13, 16])
 (.cond (.t 15)
 (.seq
 (.reg 384 [
 o 17 (.mv (.t 0)),
 o 18 (.idxA none 1 (.t 17) (ki 0)),
 o 19 (.load none (.t 18)),
 o 4 (.mv (.t 19))] [0, 1, 15, 17, 18, 19])
 .ret)
 .skip))))))
 (.seq
 (.reg 448 [
 o 5 (.mv (ki 0))] [4, 15])
 (.seq
 (.seq
 (.reg 512 [
 o 20 (.mv (.t 1)),
 o 21 (.lens (.t 20)),
 o 22 (.bin .gtr (.t 21) (ki 0))] [20, 21])
 (.cond (.t 22)
 (.seq
 (.seq
 (.reg 576 [
 o 23 (.mv (.t 1)),
 o 24 (.lens (.t 23)),
 o 25 (.mv (.t 0)),
 o 26 (.len (.t 25)),
 o 27 (.bin .sub (.t 26) (ki 1)),
 o 28 (.bin .quo (ki 9223372036854775807) (.t 27)),
 o 29 (.bin .geq (.t 24) (.t 28))] [22, 23, 24, 25, 26, 27, 28])
 (.cond (.t 29)
 (.reg 640 [
 o 30 (.bad),
 ⟨none, .bad, none⟩] [29, 30])
 .skip))
 (.reg 704 [
 o 31 (.mv (.t 5)),
 o 32 (.mv (.t 1)),
 o 33 (.lens (.t 32)),
 o 34 (.mv (.t 0)),
 o 35 (.len (.t 34)),
 o 36 (.bin .sub (.t 35) (ki 1)),
 o 37 (.bin .mul (.t 33) (.t 36)),
 o 38 (.bin .add (.t 31) (.t 37)),
 o 5 (.mv (.t 38))] [29, 31, 32, 33, 34, 35, 36, 37, 38]))
 .skip))
 (.seq
 (.seq
 (.reg 768 [
 o 39 (.mv (.t 0)),
 o 40 (.len (.t 39)),
 o 41 (.mv (ki 0))] [22])
 (.block 1
 (.loop
 (.seq
 (.reg 832 [
 o 42 (.bin .lss (.t 41) (.t 40))] [])
 (.seq
 (.cond (.t 42)
 .skip
 (.exit 1))
 (.seq
 (.block 2
 (.seq
 (.reg 896 [
 o 43 (.idxA none 1 (.t 39) (.t 41)),
 o 44 (.load none (.t 43)),
 o 7 (.mv (.t 44))] [42, 43, 44])
 (.seq
 (.seq
 (.reg 960 [
 o 45 (.mv (.t 7)),
 o 46 (.lens (.t 45)),
 o 47 (.mv (.t 5)),
 o 48 (.bin .sub (ki 9223372036854775807) (.t 47)),
 o 49 (.bin .gtr (.t 46) (.t 48))] [45, 46, 47, 48])
 (.cond (.t 49)
 (.reg 1024 [
 o 50 (.bad),
 ⟨none, .bad, none⟩] [49, 50])
 .skip))
 (.reg 1088 [
 o 51 (.mv (.t 5)),
 o 52 (.mv (.t 7)),
 o 53 (.lens (.t 52)),
 o 54 (.bin .add (.t 51) (.t 53)),
 o 5 (.mv (.t 54))] [7, 49, 51, 52, 53, 54]))))
 (.reg 1152 [
 o 55 (.bin .add (.t 41) (ki 1)),
 o 41 (.mv (.t 55))] [55])))))))
 (.seq
 (.reg 1216 [
 o 8 (.new (.cells [.nilp, .nils]) 1 2)] [39, 40, 41])
 (.seq
 (.reg 1280 [
 o 56 (.mv (.t 5)),
 o 57 (.call 77 [(.t 8), (.t 56)])] [5, 56, 57])
 (.seq
 (.reg 1344 [
 o 58 (.mv (.t 0)),
 o 59 (.idxA none 1 (.t 58) (ki 0)),
 o 60 (.load none (.t 59)),
 o 61 (.call 78 [(.t 8), (.t 60)])] [58, 59, 60, 61])
 (.seq
 (.seq
 (.reg 1408 [
 o 62 (.mv (.t 0)),
 o 63 (.slice 1 (.t 62) (some (ki 1)) none none),
 o 64 (.len (.t 63)),
 o 65 (.mv (ki 0))] [0, 62])
 (.block 3
 (.loop
 (.seq
 (.reg 1472 [
 o 66 (.bin .lss (.t 65) (.t 64))] [])
 (.seq
 (.cond (.t 66)
 .skip
 (.exit 3))
 (.seq
 (.block 4
 (.seq
 (.reg 1536 [
 o 67 (.idxA none 1 (.t 63) (.t 65)),
 o 68 (.load none (.t 67)),
 o 10 (.mv (.t 68))] [66, 67, 68])
 (.seq
 (.reg 1600 [
 o 69 (.mv (.t 1)),
 o 70 (.call 78 [(.t 8), (.t 69)])] [69, 70])
 (.reg 1664 [
 o 71 (.mv (.t 10)),
 o 72 (.call 78 [(.t 8), (.t 71)])] [10, 71, 72]))))
 (.reg 1728 [
 o 73 (.bin .add (.t 65) (ki 1)),
 o 65 (.mv (.t 73))] [73])))))))
 (.seq
 (.reg 1792 [
 o 74 (.call 79 [(.t 8)]),
 o 4 (.mv (.t 74))] [1, 8, 63, 64, 65, 74])
 .ret))))))))))
def fe57 : FnE := ⟨75, [(4, none)], xc57⟩
theorem ok57 : FnOk Tryd.prog 57 fe57 := fnOk_of Tryd.func57 (by kernel_rfl : chkF Tryd.prog hs57 Tryd.f57 = some fe57)
/- 58 internal/strconv.Itoa -/
def hs58 : Hints := [(0, ([], [2])), (1, ([], [0, 3, 4]))]
def xc58 : XC :=
 (.seq
 (.reg 64 [
 o 2 (.mv (.c (.str [])))] [2])
 (.seq
 (.reg 128 [
 o 3 (.mv (.t 0)),
 o 4 (.call 80 [(.t 3), (ki 10)]),
 o 2 (.mv (.t 4))] [0, 3, 4])
 .ret))
def fe58 : FnE := ⟨5, [(2, none)], xc58⟩
theorem ok58 : FnOk Tryd.prog 58 fe58 := fnOk_of Tryd.func58 (by kernel_rfl : chkF Tryd.prog hs58 Tryd.f58 = some fe58)
/- 61 slices.Clip[[]crimp/api.Kind,crimp/api.Kind] -/
def hs61 : Hints := [(0, ([], [2])), (1, ([], [0, 3, 4, 5, 6, 7, 8]))]
def xc61 : XC :=
 (.seq
 (.reg 64 [
 o 2 (.mv (.c .nils))] [2])
 (.seq
 (.reg 128 [
 o 3 (.mv (.t 0)),
 o 4 (.mv (.t 0)),
 o 5 (.len (.t 4)),
 o 6 (.mv (.t 0)),
 o 7 (.len (.t 6)),
 o 8 (.slice 1 (.t 3) none (some (.t 5)) (some (.t 7))),
 o 2 (.mv (.t 8))] [0, 3, 4, 5, 6, 7, 8])
 .ret))
def fe61 : FnE := ⟨9, [(2, none)], xc61⟩
theorem ok61 : FnOk Tryd.prog 61 fe61 := fnOk_of Tryd.func61 (by kernel_rfl : chkF Tryd.prog hs61 Tryd.f61 = some fe61)
/- 62 slices.Contains[[]crimp/api.Kind,crimp/api.Kind] -/
def hs62 : Hints := [(0, ([], [4])), (1, ([], [0, 1, 5, 6, 7, 8]))]
def xc62 : XC :=
 (.seq
 (.reg 64 [
 o 4 (.mv (.c (.bool false)))] [4])
 (.seq
 (.reg 128 [
 o 5 (.mv (.t 0)),
 o 6 (.mv (.t 1)),
 o 7 (.call 83 [(.t 5), (.t 6)]),
 o 8 (.bin .geq (.t 7) (ki 0)),
 o 4 (.mv (.t 8))] [0, 1, 5, 6, 7, 8])
 .ret))
def fe62 : FnE := ⟨9, [(4, none)], xc62⟩
theorem ok62 : FnOk Tryd.prog 62 fe62 := fnOk_of Tryd.func62 (by kernel_rfl : chkF Tryd.prog hs62 Tryd.f62 = some fe62)
/- 63 crimp/reductions.around -/
def hs63 : Hints := [(0, ([], [0, 2])), (1, ([], [1, 3]))]
def xc63 : XC :=
 (.seq
 (.reg 64 [
 o 1 (.box (.t 0)),
 o 2 (.mv (.c .nilf))] [0, 2])
 (.seq
 (.reg 128 [
 o 3 (.mkf 84 [] [(.t 1)]),
 o 2 (.mv (.t 3))] [1, 3])
 .ret))
def fe63 : FnE := ⟨4, [(2, none)], xc63⟩
theorem ok63 : FnOk Tryd.prog 63 fe63 := fnOk_of Tryd.func63 (by kernel_rfl : chkF Tryd.prog hs63 Tryd.f63 = some fe63)
/- 64 slices.Index[[]int,int] -/
def hs64 : Hints := [(0, ([], [4])), (1, ([], [6])), (3, ([], [9, 10])), (4, ([], [11, 12, 13, 14, 15])), (5, ([], [8, 0, 1, 7, 5, 16, 17])), (6, ([], [4, 5, 16, 18])), (7, ([], [0, 1, 7, 8]))]
def xc64 : XC :=
 (.seq
 (.reg 64 [
 o 4 (.mv (ki 0))] [4])
 (.seq
 (.seq
 (.reg 128 [
 o 6 (.mv (.t 0)),
 o 7 (.len (.t 6)),
 o 8 (.mv (ki 0))] [6])
 (.block 0
 (.loop
 (.seq
 (.reg 192 [
 o 9 (.bin .lss (.t 8) (.t 7))] [])
 (.seq
 (.cond (.t 9)
 .skip
 (.exit 0))
 (.seq
 (.block 1
 (.seq
 (.reg 256 [
 o 10 (.mv (.t 8)),
 o 5 (.mv (.t 10))] [9, 10])
 (.seq
 (.reg 320 [
 o 11 (.mv (.t 1)),
 o 12 (.mv (.t 0)),
 o 13 (.mv (.t 5)),
 o 14 (.idxA none 1 (.t 12) (.t 13)),
 o 15 (.load none (.t 14)),
 o 16 (.bin .eql (.t 11) (.t 15))] [11, 12, 13, 14, 15])
 (.cond (.t 16)
 (.seq
 (.reg 384 [
 o 17 (.mv (.t 5)),
 o 4 (.mv (.t 17))] [8, 0, 1, 7, 5, 16, 17])
 .ret)
 .skip))))
 (.reg 448 [
 o 18 (.bin .add (.t 8) (ki 1)),
 o 8 (.mv (.t 18))] [4, 5, 16, 18])))))))
 (.seq
 (.reg 512 [
 o 4 (.mv (ki (-1)))] [0, 1, 7, 8])
 .ret)))
def fe64 : FnE := ⟨19, [(4, none)], xc64⟩
theorem ok64 : FnOk Tryd.prog 64 fe64 := fnOk_of Tryd.func64 (by kernel_rfl : chkF Tryd.prog hs64 Tryd.f64 = some fe64)
/- 65 slices.Concat[[]int,int] -/
def hs65 : Hints := [(0, ([], [2])), (4, ([], [12, 13, 14])), (5, ([], [5, 15, 16, 17, 18])), (6, ([], [19])), (7, ([], [20, 21])), (8, ([], [20, 22])), (9, ([], [3, 9, 10, 11, 23, 24])), (10, ([], [0])), (12, ([], [28, 29, 30])), (13, ([], [8, 31, 32, 33])), (14, ([], [34])), (15, ([], [6, 25, 26, 27, 35]))]
def xc65 : XC :=
 (.seq
 (.reg 64 [
 o 2 (.mv (.c .nils))] [2])
 (.seq
 (.reg 128 [
 o 3 (.mv (ki 0))] [])
 (.seq
 (.seq
 (.reg 192 [
 o 9 (.mv (.t 0)),
 o 10 (.len (.t 9)),
 o 11 (.mv (ki 0))] [])
 (.block 0
 (.loop
 (.seq
 (.reg 256 [
 o 12 (.bin .lss (.t 11) (.t 10))] [])
 (.seq
 (.cond (.t 12)
 .skip
 (.exit 0))
 (.seq
 (.block 1
 (.seq
 (.reg 320 [
 o 13 (.idxA none 1 (.t 9) (.t 11)),
 o 14 (.load none (.t 13)),
 o 5 (.mv (.t 14))] [12, 13, 14])
 (.seq
 (.reg 384 [
 o 15 (.mv (.t 3)),
 o 16 (.mv (.t 5)),
 o 17 (.len (.t 16)),
 o 18 (.bin .add (.t 15) (.t 17)),
 o 3 (.mv (.t 18))] [5, 15, 16, 17, 18])
 (.seq
 (.reg 448 [
 o 19 (.mv (.t 3)),
 o 20 (.bin .lss (.t 19) (ki 0))] [19])
 (.cond (.t 20)
 (.reg 512 [
 o 21 (.bad),
 ⟨none, .bad, none⟩] [20, 21])
 .skip)))))
 (.reg 576 [
 o 22 (.bin .add (.t 11) (ki 1)),
 o 11 (.mv (.t 22))] [20, 22])))))))
 (.seq
 (.reg 640 [
 o 23 (.mv (.t 3)),
 o 24 (.call 85 [(.c .nils), (.t 23)]),
 o 6 (.mv (.t 24))] [3, 9, 10, 11, 23, 24])
 (.seq
 (.seq
 (.reg 704 [
 o 25 (.mv (.t 0)),
 o 26 (.len (.t 25)),
 o 27 (.mv (ki 0))] [0])
 (.block 2
 (.loop
 (.seq
 (.reg 768 [
 o 28 (.bin .lss (.t 27) (.t 26))] [])
 (.seq
 (.cond (.t 28)
 .skip
 (.exit 2))
 (.seq
 (.block 3
 (.seq
 (.reg 832 [
 o 29 (.idxA none 1 (.t 25) (.t 27)),
 o 30 (.load none (.t 29)),
 o 8 (.mv (.t 30))] [28, 29, 30])
 (.reg 896 [
 o 31 (.mv (.t 6)),
 o 32 (.mv (.t 8)),
 o 33 (.append 1 8 4 (.t 31) (.t 32)),
 o 6 (.mv (.t 33))] [8, 31, 32, 33])))
 (.reg 960 [
 o 34 (.bin .add (.t 27) (ki 1)),
 o 27 (.mv (.t 34))] [34])))))))
 (.seq
 (.reg 1024 [
 o 35 (.mv (.t 6)),
 o 2 (.mv (.t 35))] [6, 25, 26, 27, 35])
 .ret))))))
def fe65 : FnE := ⟨36, [(2, none)], xc65⟩
theorem ok65 : FnOk Tryd.prog 65 fe65 := fnOk_of Tryd.func65 (by kernel_rfl : chkF Tryd.prog hs65 Tryd.f65 = some fe65)
/- 66 slices.Concat[[]crimp/api.Kind,crimp/api.Kind] -/
def hs66 : Hints := [(0, ([], [2])), (4, ([], [12, 13, 14])), (5, ([], [5, 15, 16, 17, 18])), (6, ([], [19])), (7, ([], [20, 21])), (8, ([], [20, 22])), (9, ([], [3, 9, 10, 11, 23, 24])), (10, ([], [0])), (12, ([], [28, 29, 30])), (13, ([], [8, 31, 32, 33])), (14, ([], [34])), (15, ([], [6, 25, 26, 27, 35]))]
def xc66 : XC :=
 (.seq
 (.reg 64 [
 o 2 (.mv (.c .nils))] [2])
 (.seq
 (.reg 128 [
 o 3 (.mv (ki 0))] [])
 (.seq
 (.seq
 (.reg 192 [
 o 9 (.mv (.t 0)),
 o 10 (.len (.t 9)),
 o 11 (.mv (ki 0))] [])
 (.block 0
 (.loop
 (.seq
 (.reg 256 [
 o 12 (.bin .lss (.t 11) (.t 10))] [])
 (.seq
 (.cond (.t 12)
 .skip
 (.exit 0))
 (.seq
 (.block 1
 (.seq
 (.reg 320 [
 o 13 (.idxA none 1 (.t 9) (.t 11)),
 o 14 (.load none (.t 13)),
 o 5 (.mv (.t 14))] [12, 13, 14])
 (.seq
 (.reg 384 [
 o 15 (.mv (.t 3)),
 o 16 (.mv (.t 5)),
 o 17 (.len (.t 16)),
 o 18 (.bin .add (.t 15) (.t 17)),
 o 3 (.mv (.t 18))] [5, 15, 16, 17, 18])
 (.seq
 (.reg 448 [
 o 19 (.mv (.t 3)),
 o 20 (.bin .lss (.t 19) (ki 0))] [19])
 (.cond (.t 20)
 (.reg 512 [
 o 21 (.bad),
 ⟨none, .bad, none⟩] [20, 21])
 .skip)))))
 (.reg 576 [
 o 22 (.bin .add (.t 11) (ki 1)),
 o 11 (.mv (.t 22))] [20, 22])))))))
 (.seq
 (.reg 640 [
 o 23 (.mv (.t 3)),
 o 24 (.call 86 [(.c .nils), (.t 23)]),
 o 6 (.mv (.t 24))] [3, 9, 10, 11, 23, 24])
 (.seq
 (.seq
 (.reg 704 [
 o 25 (.mv (.t 0)),
 o 26 (.len (.t 25)),
 o 27 (.mv (ki 0))] [0])
 (.block 2
 (.loop
 (.seq
 (.reg 768 [
 o 28 (.bin .lss (.t 27) (.t 26))] [])
 (.seq
 (.cond (.t 28)
 .skip
 (.exit 2))
 (.seq
 (.block 3
 (.seq
 (.reg 832 [
 o 29 (.idxA none 1 (.t 25) (.t 27)),
 o 30 (.load none (.t 29)),
 o 8 (.mv (.t 30))] [28, 29, 30])
 (.reg 896 [
 o 31 (.mv (.t 6)),
 o 32 (.mv (.t 8)),
 o 33 (.append 1 1 5 (.t 31) (.t 32)),
 o 6 (.mv (.t 33))] [8, 31, 32, 33])))
 (.reg 960 [
 o 34 (.bin .add (.t 27) (ki 1)),
 o 27 (.mv (.t 34))] [34])))))))
 (.seq
 (.reg 1024 [
 o 35 (.mv (.t 6)),
 o 2 (.mv (.t 35))] [6, 25, 26, 27, 35])
 .ret))))))
def fe66 : FnE := ⟨36, [(2, none)], xc66⟩
theorem ok66 : FnOk Tryd.prog 66 fe66 := fnOk_of Tryd.func66 (by kernel_rfl : chkF Tryd.prog hs66 Tryd.f66 = some fe66)
/- 67 slices.Clone[[]int,int] -/
def hs67 : Hints := [(0, ([], [2])), (1, ([], [3])), (2, ([], [0, 4])), (3, ([], [0, 4, 5, 6, 7]))]
def xc67 : XC :=
 (.seq
 (.reg 64 [
 o 2 (.mv (.c .nils))] [2])
 (.seq
 (.seq
 (.reg 128 [
 o 3 (.mv (.t 0)),
 o 4 (.isnil false 0 (.t 3))] [3])
 (.cond (.t 4)
 (.seq
 (.reg 192 [
 o 2 (.mv (.c .nils))] [0, 4])
 .ret)
 .skip))
 (.seq
 (.reg 256 [
 o 5 (.buildS 1 0 4 [(.int .i64 0)] []),
 o 6 (.mv (.t 0)),
 o 7 (.append 1 8 4 (.t 5) (.t 6)),
 o 2 (.mv (.t 7))] [0, 4, 5, 6, 7])
 .ret)))
def fe67 : FnE := ⟨8, [(2, none)], xc67⟩
theorem ok67 : FnOk Tryd.prog 67 fe67 := fnOk_of Tryd.func67 (by kernel_rfl : chkF Tryd.prog hs67 Tryd.f67 = some fe67)
/- 68 slices.Reverse[[]int,int] -/
def hs68 : Hints := [(0, ([], [4, 5, 6])), (1, ([], [7, 8])), (3, ([0, 1, 2, 3, 4, 5, 6, 7, 8, 9, 10, 11, 12, 13, 14, 15], [9, 14, 15, 16, 17, 18, 19, 20, 21, 22, 23, 24, 25, 26, 27])), (2, ([], [10, 11, 12, 13]))]
def xc68 : XC :=
 (.seq
 (.reg 64 [
 o 4 (.mv (.t 0)),
 o 5 (.len (.t 4)),
 o 6 (.bin .sub (.t 5) (ki 1)),
 o 2 (.mv (ki 0)),
 o 3 (.mv (.t 6))] [4, 5, 6])
 (.block 0
 (.loop
 (.seq
 (.seq
 (.reg 128 [
 o 7 (.mv (.t 2)),
 o 8 (.mv (.t 3)),
 o 9 (.bin .lss (.t 7) (.t 8))] [7, 8])
 (.cond (.t 9)
 .skip
 (.exit 0)))
 (.seq
 (.block 1
 (.draw 256 [
 o 14 (.mv (.t 0)),
 o 15 (.mv (.t 2)),
 o 16 (.mv (.t 0)),
 o 17 (.mv (.t 3)),
 o 18 (.mv (.t 0)),
 o 19 (.mv (.t 3)),
 o 20 (.idxA none 1 (.t 18) (.t 19)),
 o 21 (.load none (.t 20)),
 o 22 (.mv (.t 0)),
 o 23 (.mv (.t 2)),
 o 24 (.idxA none 1 (.t 22) (.t 23)),
 o 25 (.load none (.t 24)),
 o 26 (.idxA none 1 (.t 14) (.t 15)),
 ⟨none, .store 1 (.t 26) (.t 21), none⟩,
 o 27 (.idxA none 1 (.t 16) (.t 17)),
 ⟨none, .store 1 (.t 27) (.t 25), none⟩]
 [[], [], [], [], [], [], [4, 5], [6], [], [], [8, 9], [10], [0, 1, 0, 1, 4, 5, 6, 7, 11], [12, 7, 0, 1, 4, 5, 6, 7, 11], [2, 3, 0, 1, 2, 3, 4, 5, 6, 7, 8, 9, 10, 11, 12, 13], [14, 11, 13, 0, 1, 2, 3, 4, 5, 6, 7, 8, 9, 10, 11, 12, 13]]
 [0, 1, 2, 3, 4, 5, 6, 7, 8, 9, 10, 11, 12, 13, 14, 15] [9, 14, 15, 16, 17, 18, 19, 20, 21, 22, 23, 24, 25, 26, 27]))
 (.reg 192 [
 o 10 (.mv (.t 2)),
 o 11 (.bin .add (.t 10) (ki 1)),
 o 12 (.mv (.t 3)),
 o 13 (.bin .sub (.t 12) (ki 1)),
 o 2 (.mv (.t 11)),
 o 3 (.mv (.t 13))] [10, 11, 12, 13]))))))
def fe68 : FnE := ⟨28, [], xc68⟩
theorem ok68 : FnOk Tryd.prog 68 fe68 := fnOk_of Tryd.func68 (by kernel_rfl : chkF Tryd.prog hs68 Tryd.f68 = some fe68)
/- 69 slices.Clone[[]crimp/api.Kind,crimp/api.Kind] -/
def hs69 : Hints := [(0, ([], [2])), (1, ([], [3])), (2, ([], [0, 4])), (3, ([], [0, 4, 5, 6, 7]))]
def xc69 : XC :=
 (.seq
 (.reg 64 [
 o 2 (.mv (.c .nils))] [2])
 (.seq
 (.seq
 (.reg 128 [
 o 3 (.mv (.t 0)),
 o 4 (.isnil false 0 (.t 3))] [3])
 (.cond (.t 4)
 (.seq
 (.reg 192 [
 o 2 (.mv (.c .nils))] [0, 4])
 .ret)
 .skip))
 (.seq
 (.reg 256 [
 o 5 (.buildS 1 0 5 [(.int .u8 0)] []),
 o 6 (.mv (.t 0)),
 o 7 (.append 1 1 5 (.t 5) (.t 6)),
 o 2 (.mv (.t 7))] [0, 4, 5, 6, 7])
 .ret)))
def fe69 : FnE := ⟨8, [(2, none)], xc69⟩
theorem ok69 : FnOk Tryd.prog 69 fe69 := fnOk_of Tryd.func69 (by kernel_rfl : chkF Tryd.prog hs69 Tryd.f69 = some fe69)
/- 70 slices.Reverse[[]crimp/api.Kind,crimp/api.Kind] -/
def hs70 : Hints := [(0, ([], [4, 5, 6])), (1, ([], [7, 8])), (3, ([0, 1, 2, 3, 4, 5, 6, 7, 8, 9, 10, 11, 12, 13, 14, 15], [9, 14, 15, 16, 17, 18, 19, 20, 21, 22, 23, 24, 25, 26, 27])), (2, ([], [10, 11, 12, 13]))]
def xc70 : XC :=
 (.seq
 (.reg 64 [
 o 4 (.mv (.t 0)),
 o 5 (.len (.t 4)),
 o 6 (.bin .sub (.t 5) (ki 1)),
 o 2 (.mv (ki 0)),
 o 3 (.mv (.t 6))] [4, 5, 6])
 (.block 0
 (.loop
 (.seq
 (.seq
 (.reg 128 [
 o 7 (.mv (.t 2)),
 o 8 (.mv (.t 3)),
 o 9 (.bin .lss (.t 7) (.t 8))] [7, 8])
 (.cond (.t 9)
 .skip
 (.exit 0)))
 (.seq
 (.block 1
 (.draw 256 [
 o 14 (.mv (.t 0)),
 o 15 (.mv (.t 2)),
 o 16 (.mv (.t 0)),
 o 17 (.mv (.t 3)),
 o 18 (.mv (.t 0)),
 o 19 (.mv (.t 3)),
 o 20 (.idxA none 1 (.t 18) (.t 19)),
 o 21 (.load none (.t 20)),
 o 22 (.mv (.t 0)),
 o 23 (.mv (.t 2)),
 o 24 (.idxA none 1 (.t 22) (.t 23)),
 o 25 (.load none (.t 24)),
 o 26 (.idxA none 1 (.t 14) (.t 15)),
 ⟨none, .store 1 (.t 26) (.t 21), none⟩,
 o 27 (.idxA none 1 (.t 16) (.t 17)),
 ⟨none, .store 1 (.t 27) (.t 25), none⟩]
 [[], [], [], [], [], [], [4, 5], [6], [], [], [8, 9], [10], [0, 1, 0, 1, 4, 5, 6, 7, 11], [12, 7, 0, 1, 4, 5, 6, 7, 11], [2, 3, 0, 1, 2, 3, 4, 5, 6, 7, 8, 9, 10, 11, 12, 13], [14, 11, 13, 0, 1, 2, 3, 4, 5, 6, 7, 8, 9, 10, 11, 12, 13]]
 [0, 1, 2, 3, 4, 5, 6, 7, 8, 9, 10, 11, 12, 13, 14, 15] [9, 14, 15, 16, 17, 18, 19, 20, 21, 22, 23, 24, 25, 26, 27]))
 (.reg 192 [
 o 10 (.mv (.t 2)),
 o 11 (.bin .add (.t 10) (ki 1)),
 o 12 (.mv (.t 3)),
 o 13 (.bin .sub (.t 12) (ki 1)),
 o 2 (.mv (.t 11)),
 o 3 (.mv (.t 13))] [10, 11, 12, 13]))))))
def fe70 : FnE := ⟨28, [], xc70⟩
theorem ok70 : FnOk Tryd.prog 70 fe70 := fnOk_of Tryd.func70 (by kernel_rfl : chkF Tryd.prog hs70 Tryd.f70 = some fe70)
/- 71 crimp/fans.turns$1 -/
def hs71 : Hints := [(0, ([], [4, 5])), (2, ([], [8, 9])), (3, ([0, 1, 2, 3, 4, 5, 6, 7, 8, 9, 10, 11], [3, 10, 11, 12, 13, 14, 15, 16, 17, 18, 19, 20])), (4, ([], [21, 22]))]
def xc71 : XC :=
 (.seq
 (.reg 64 [
 o 4 (.fieldA 0 (.t 1)),
 o 5 (.load none (.t 4)),
 o 6 (.len (.t 5)),
 o 7 (.mv (ki 0))] [4, 5])
 (.block 0
 (.loop
 (.seq
 (.reg 128 [
 o 8 (.bin .lss (.t 7) (.t 6))] [])
 (.seq
 (.cond (.t 8)
 .skip
 (.exit 0))
 (.seq
 (.block 1
 (.seq
 (.reg 192 [
 o 9 (.mv (.t 7)),
 o 3 (.mv (.t 9))] [8, 9])
 (.seq
 (.draw 256 [
 o 10 (.mv (.t 0)),
 o 11 (.fieldA 0 (.t 1)),
 o 12 (.load none (.t 11)),
 o 13 (.mv (.t 3)),
 o 14 (.call 42 [(.t 12), (.t 13)]),
 o 15 (.fieldA 1 (.t 1)),
 o 16 (.load none (.t 15)),
 o 17 (.mv (.t 3)),
 o 18 (.call 43 [(.t 16), (.t 17)]),
 o 19 (.build [.nils, .nils] [(0, 1, (.t 14)), (1, 1, (.t 18))]),
 o 20 (.callv (.t 10) [(.t 19)]),
 o 21 (.un .not (.t 20))]
 [[], [], [1], [], [2, 3], [], [5], [], [6, 7, 4], [4, 8], [0, 9, 8], [10]]
 [0, 1, 2, 3, 4, 5, 6, 7, 8, 9, 10, 11] [3, 10, 11, 12, 13, 14, 15, 16, 17, 18, 19, 20])
 (.cond (.t 21)
 .ret
 .skip))))
 (.reg 320 [
 o 22 (.bin .add (.t 7) (ki 1)),
 o 7 (.mv (.t 22))] [21, 22])))))))
def fe71 : FnE := ⟨23, [], xc71⟩
theorem ok71 : FnOk Tryd.prog 71 fe71 := fnOk_of Tryd.func71 (by kernel_rfl : chkF Tryd.prog hs71 Tryd.f71 = some fe71)
/- 72 cmp.Compare[crimp/api.Kind] -/
def hs72 : Hints := [(0, ([], [4])), (1, ([], [7, 8])), (2, ([], [9, 10])), (3, ([], [5])), (4, ([], [0, 1, 6, 11])), (5, ([], [12])), (6, ([], [12])), (7, ([], [4, 6, 11])), (8, ([], [0, 1, 13])), (9, ([], [4, 13, 14, 15])), (10, ([], [0, 1, 16])), (11, ([], [4, 0, 1, 16, 17, 18])), (12, ([], [19])), (13, ([], [19]))]
def xc72 : XC :=
 (.seq
 (.reg 64 [
 o 4 (.mv (ki 0))] [4])
 (.seq
 (.reg 128 [
 o 7 (.mv (.t 0)),
 o 8 (.call 87 [(.t 7)]),
 o 5 (.mv (.t 8))] [7, 8])
 (.seq
 (.reg 192 [
 o 9 (.mv (.t 1)),
 o 10 (.call 87 [(.t 9)]),
 o 6 (.mv (.t 10))] [9, 10])
 (.seq
 (.seq
 (.reg 256 [
 o 11 (.mv (.t 5))] [5])
 (.cond (.t 11)
 (.seq
 (.seq
 (.reg 320 [
 o 12 (.mv (.t 6))] [0, 1, 6, 11])
 (.cond (.t 12)
 (.seq
 (.reg 384 [
 o 4 (.mv (ki 0))] [12])
 .ret)
 .skip))
 (.seq
 (.reg 448 [
 o 4 (.mv (ki (-1)))] [12])
 .ret))
 .skip))
 (.seq
 (.seq
 (.reg 512 [
 o 13 (.mv (.t 6))] [4, 6, 11])
 (.cond (.t 13)
 (.seq
 (.reg 576 [
 o 4 (.mv (ki 1))] [0, 1, 13])
 .ret)
 .skip))
 (.seq
 (.seq
 (.reg 640 [
 o 14 (.mv (.t 0)),
 o 15 (.mv (.t 1)),
 o 16 (.bin .lss (.t 14) (.t 15))] [4, 13, 14, 15])
 (.cond (.t 16)
 (.seq
 (.reg 704 [
 o 4 (.mv (ki (-1)))] [0, 1, 16])
 .ret)
 .skip))
 (.seq
 (.seq
 (.reg 768 [
 o 17 (.mv (.t 0)),
 o 18 (.mv (.t 1)),
 o 19 (.bin .gtr (.t 17) (.t 18))] [4, 0, 1, 16, 17, 18])
 (.cond (.t 19)
 (.seq
 (.reg 832 [
 o 4 (.mv (ki 1))] [19])
 .ret)
 .skip))
 (.seq
 (.reg 896 [
 o 4 (.mv (ki 0))] [19])
 .ret))))))))
def fe72 : FnE := ⟨20, [(4, none)], xc72⟩
theorem ok72 : FnOk Tryd.prog 72 fe72 := fnOk_of Tryd.func72 (by kernel_rfl : chkF Tryd.prog hs72 Tryd.f72 = some fe72)
/- 73 slices.pdqsortCmpFunc[crimp/patterns.Crease] -/
def hs73 : Hints := [(2, ([], [21, 22, 23])), (3, ([], [24])), (4, ([], [4, 2, 1, 0, 96, 95, 94, 84, 89, 93, 92, 90, 91, 88, 85, 87, 86, 74, 73, 70, 11, 10, 3, 12, 25, 26, 27, 28, 29, 30])), (5, ([], [25, 31])), (6, ([], [4, 2, 1, 0, 96, 95, 94, 84, 89, 93, 92, 90, 91, 88, 85, 87, 86, 74, 73, 70, 11, 10, 3, 12, 32, 33, 34, 35, 36, 37])), (7, ([], [32, 38])), (8, ([], [39, 40, 41, 42, 43, 44])), (9, ([], [45, 46])), (10, ([], [39, 48, 49, 50, 51, 52, 47, 53, 54])), (11, ([], [55])), (12, ([], [14, 56, 57, 58, 59, 60, 61])), (13, ([], [62, 63, 64, 65, 66, 67])), (15, ([], [14, 56, 68, 69, 71, 72])), (16, ([], [75, 76, 77, 78, 79])), (17, ([0, 1, 2, 3, 4, 5, 6, 7, 8, 9, 10, 11, 12, 13, 14, 15, 16], [80, 75, 81, 82, 83])), (18, ([], [1, 12, 13, 97, 98, 99, 100, 101, 102, 103])), (19, ([], [15, 104])), (20, ([], [11, 10, 13, 97, 106, 107, 108, 109, 110, 111, 105, 112, 113])), (21, ([], [17, 114])), (22, ([], [115, 116, 117, 118, 119, 120])), (23, ([], [12, 121, 122])), (24, ([], [123, 124])), (25, ([], [18, 19, 20, 125, 126, 127, 128])), (26, ([], [1, 129, 130, 131, 132, 133, 134])), (27, ([], [16, 135, 136])), (28, ([], [18, 19, 20, 125, 137, 138, 139])), (29, ([], [2, 140, 141, 142, 143, 144, 145, 146])), (30, ([], [16, 147]))]
def xc73 : XC :=
 (.seq
 (.reg 64 [
 o 10 (.mv (.c (.bool true)))] [])
 (.seq
 (.reg 128 [
 o 11 (.mv (.c (.bool true)))] [])
 (.block 0
 (.loop
 (.block 1
 (.seq
 (.reg 192 [
 o 21 (.mv (.t 2)),
 o 22 (.mv (.t 1)),
 o 23 (.bin .sub (.t 21) (.t 22)),
 o 12 (.mv (.t 23))] [21, 22, 23])
 (.seq
 (.seq
 (.reg 256 [
 o 24 (.mv (.t 12)),
 o 25 (.bin .leq (.t 24) (ki 12))] [24])
 (.cond (.t 25)
 (.seq
 (.reg 320 [
 o 26 (.mv (.t 0)),
 o 27 (.mv (.t 1)),
 o 28 (.mv (.t 2)),
 o 29 (.mv (.t 4)),
 o 30 (.call 88 [(.t 26), (.t 27), (.t 28), (.t 29)])] [4, 2, 1, 0, 96, 95, 94, 84, 89, 93, 92, 90, 91, 88, 85, 87, 86, 74, 73, 70, 11, 10, 3, 12, 25, 26, 27, 28, 29, 30])
 .ret)
 .skip))
 (.seq
 (.seq
 (.reg 384 [
 o 31 (.mv (.t 3)),
 o 32 (.bin .eql (.t 31) (ki 0))] [25, 31])
 (.cond (.t 32)
 (.seq
 (.reg 448 [
 o 33 (.mv (.t 0)),
 o 34 (.mv (.t 1)),
 o 35 (.mv (.t 2)),
 o 36 (.mv (.t 4)),
 o 37 (.call 89 [(.t 33), (.t 34), (.t 35), (.t 36)])] [4, 2, 1, 0, 96, 95, 94, 84, 89, 93, 92, 90, 91, 88, 85, 87, 86, 74, 73, 70, 11, 10, 3, 12, 32, 33, 34, 35, 36, 37])
 .ret)
 .skip))
 (.seq
 (.seq
 (.reg 512 [
 o 38 (.mv (.t 10)),
 o 39 (.un .not (.t 38))] [32, 38])
 (.cond (.t 39)
 (.seq
 (.reg 576 [
 o 40 (.mv (.t 0)),
 o 41 (.mv (.t 1)),
 o 42 (.mv (.t 2)),
 o 43 (.mv (.t 4)),
 o 44 (.call 90 [(.t 40), (.t 41), (.t 42), (.t 43)])] [39, 40, 41, 42, 43, 44])
 (.reg 640 [
 o 45 (.mv (.t 3)),
 o 46 (.bin .sub (.t 45) (ki 1)),
 o 3 (.mv (.t 46))] [45, 46]))
 .skip))
 (.seq
 (.reg 704 [
 o 48 (.mv (.t 0)),
 o 49 (.mv (.t 1)),
 o 50 (.mv (.t 2)),
 o 51 (.mv (.t 4)),
 o 52 (.call 91 [(.t 48), (.t 49), (.t 50), (.t 51)]),
 o 47 (.mv (.t 52)),
 o 53 (.ext (.t 47) 0),
 o 54 (.ext (.t 47) 1),
 o 13 (.mv (.t 53)),
 o 14 (.mv (.t 54))] [39, 48, 49, 50, 51, 52, 47, 53, 54])
 (.seq
 (.seq
 (.reg 768 [
 o 55 (.mv (.t 14)),
 o 56 (.bin .eql (.t 55) (ki 2))] [55])
 (.cond (.t 56)
 (.seq
 (.reg 832 [
 o 57 (.mv (.t 0)),
 o 58 (.mv (.t 1)),
 o 59 (.mv (.t 2)),
 o 60 (.mv (.t 4)),
 o 61 (.call 92 [(.t 57), (.t 58), (.t 59), (.t 60)])] [14, 56, 57, 58, 59, 60, 61])
 (.seq
 (.reg 896 [
 o 62 (.mv (.t 2)),
 o 63 (.bin .sub (.t 62) (ki 1)),
 o 64 (.mv (.t 13)),
 o 65 (.mv (.t 1)),
 o 66 (.bin .sub (.t 64) (.t 65)),
 o 67 (.bin .sub (.t 63) (.t 66)),
 o 13 (.mv (.t 67))] [62, 63, 64, 65, 66, 67])
 (.reg 960 [
 o 14 (.mv (ki 1))] [])))
 .skip))
 (.seq
 (.seq
 (.reg 1024 [
 o 68 (.mv (.t 10)),
 o 69 (.mv (.t 68)),
 oi 70 69 true (.mv (.t 11)),
 o 71 (.pick (.t 69) (.t 70) (.c (.bool false))),
 o 72 (.mv (.t 71)),
 oi 73 72 true (.mv (.t 14)),
 oi 74 72 true (.bin .eql (.t 73) (ki 1)),
 o 75 (.pick (.t 72) (.t 74) (.c (.bool false)))] [14, 56, 68, 69, 71, 72])
 (.cond (.t 75)
 (.seq
 (.reg 1088 [
 o 76 (.mv (.t 0)),
 o 77 (.mv (.t 1)),
 o 78 (.mv (.t 2)),
 o 79 (.mv (.t 4)),
 o 80 (.call 93 [(.t 76), (.t 77), (.t 78), (.t 79)])] [75, 76, 77, 78, 79])
 (.cond (.t 80)
 .ret
 .skip))
 .skip))
 (.seq
 (.seq
 (.draw 1152 [
 o 81 (.mv (.t 1)),
 o 82 (.bin .gtr (.t 81) (ki 0)),
 o 83 (.mv (.t 82)),
 oi 84 83 true (.mv (.t 4)),
 oi 85 83 true (.mv (.t 0)),
 oi 86 83 true (.mv (.t 1)),
 oi 87 83 true (.bin .sub (.t 86) (ki 1)),
 oi 88 83 true (.idxA none 3 (.t 85) (.t 87)),
 oi 89 83 true (.load (some 3) (.t 88)),
 oi 90 83 true (.mv (.t 0)),
 oi 91 83 true (.mv (.t 13)),
 oi 92 83 true (.idxA none 3 (.t 90) (.t 91)),
 oi 93 83 true (.load (some 3) (.t 92)),
 oi 94 83 true (.callv (.t 84) [(.t 89), (.t 93)]),
 oi 95 83 true (.bin .lss (.t 94) (ki 0)),
 oi 96 83 true (.un .not (.t 95)),
 o 97 (.pick (.t 83) (.t 96) (.c (.bool false)))]
 [[], [0], [1], [2], [2], [2], [5, 2], [4, 6, 2], [7, 2], [2], [2], [9, 10, 2], [11, 2], [3, 8, 12, 2, 2], [13, 2], [14, 2], [2, 15]]
 [0, 1, 2, 3, 4, 5, 6, 7, 8, 9, 10, 11, 12, 13, 14, 15, 16] [80, 75, 81, 82, 83])
 (.cond (.t 97)
 (.seq
 (.reg 1216 [
 o 98 (.mv (.t 0)),
 o 99 (.mv (.t 1)),
 o 100 (.mv (.t 2)),
 o 101 (.mv (.t 13)),
 o 102 (.mv (.t 4)),
 o 103 (.call 94 [(.t 98), (.t 99), (.t 100), (.t 101), (.t 102)]),
 o 15 (.mv (.t 103))] [1, 12, 13, 97, 98, 99, 100, 101, 102, 103])
 (.seq
 (.reg 1280 [
 o 104 (.mv (.t 15)),
 o 1 (.mv (.t 104))] [15, 104])
 (.exit 1)))
 .skip))
 (.seq
 (.reg 1344 [
 o 106 (.mv (.t 0)),
 o 107 (.mv (.t 1)),
 o 108 (.mv (.t 2)),
 o 109 (.mv (.t 13)),
 o 110 (.mv (.t 4)),
 o 111 (.call 95 [(.t 106), (.t 107), (.t 108), (.t 109), (.t 110)]),
 o 105 (.mv (.t 111)),
 o 112 (.ext (.t 105) 0),
 o 113 (.ext (.t 105) 1),
 o 16 (.mv (.t 112)),
 o 17 (.mv (.t 113))] [11, 10, 13, 97, 106, 107, 108, 109, 110, 111, 105, 112, 113])
 (.seq
 (.reg 1408 [
 o 114 (.mv (.t 17)),
 o 11 (.mv (.t 114))] [17, 114])
 (.seq
 (.reg 1472 [
 o 115 (.mv (.t 16)),
 o 116 (.mv (.t 1)),
 o 117 (.bin .sub (.t 115) (.t 116)),
 o 118 (.mv (.t 2)),
 o 119 (.mv (.t 16)),
 o 120 (.bin .sub (.t 118) (.t 119)),
 o 18 (.mv (.t 117)),
 o 19 (.mv (.t 120))] [115, 116, 117, 118, 119, 120])
 (.seq
 (.reg 1536 [
 o 121 (.mv (.t 12)),
 o 122 (.bin .quo (.t 121) (ki 8)),
 o 20 (.mv (.t 122))] [12, 121, 122])
 (.seq
 (.reg 1600 [
 o 123 (.mv (.t 18)),
 o 124 (.mv (.t 19)),
 o 125 (.bin .lss (.t 123) (.t 124))] [123, 124])
 (.cond (.t 125)
 (.seq
 (.reg 1664 [
 o 126 (.mv (.t 18)),
 o 127 (.mv (.t 20)),
 o 128 (.bin .geq (.t 126) (.t 127)),
 o 10 (.mv (.t 128))] [18, 19, 20, 125, 126, 127, 128])
 (.seq
 (.reg 1728 [
 o 129 (.mv (.t 0)),
 o 130 (.mv (.t 1)),
 o 131 (.mv (.t 16)),
 o 132 (.mv (.t 3)),
 o 133 (.mv (.t 4)),
 o 134 (.call 73 [(.t 129), (.t 130), (.t 131), (.t 132), (.t 133)])] [1, 129, 130, 131, 132, 133, 134])
 (.reg 1792 [
 o 135 (.mv (.t 16)),
 o 136 (.bin .add (.t 135) (ki 1)),
 o 1 (.mv (.t 136))] [16, 135, 136])))
 (.seq
 (.reg 1856 [
 o 137 (.mv (.t 19)),
 o 138 (.mv (.t 20)),
 o 139 (.bin .geq (.t 137) (.t 138)),
 o 10 (.mv (.t 139))] [18, 19, 20, 125, 137, 138, 139])
 (.seq
 (.reg 1920 [
 o 140 (.mv (.t 0)),
 o 141 (.mv (.t 16)),
 o 142 (.bin .add (.t 141) (ki 1)),
 o 143 (.mv (.t 2)),
 o 144 (.mv (.t 3)),
 o 145 (.mv (.t 4)),
 o 146 (.call 73 [(.t 140), (.t 142), (.t 143), (.t 144), (.t 145)])] [2, 140, 141, 142, 143, 144, 145, 146])
 (.reg 1984 [
 o 147 (.mv (.t 16)),
 o 2 (.mv (.t 147))] [16, 147]))))))))))))))))))))))
def fe73 : FnE := ⟨148, [], xc73⟩
theorem ok73 : FnOk Tryd.prog 73 fe73 := fnOk_of Tryd.func73 (by kernel_rfl : chkF Tryd.prog hs73 Tryd.f73 = some fe73)
/- 74 math/bits.Len -/
def hs74 : Hints := [(0, ([], [2])), (1, ([], [0, 3, 4, 5])), (2, ([], [0, 6, 7]))]
def xc74 : XC :=
 (.seq
 (.reg 64 [
 o 2 (.mv (ki 0))] [2])
 (.seq
 (.cond (.c (.bool false))
 (.seq
 (.reg 128 [
 o 3 (.mv (.t 0)),
 o 4 (.conv .u32 (.t 3)),
 o 5 (.call 96 [(.t 4)]),
 o 2 (.mv (.t 5))] [0, 3, 4, 5])
 .ret)
 .skip)
 (.seq
 (.reg 192 [
 o 6 (.mv (.t 0)),
 o 7 (.call 97 [(.t 6)]),
 o 2 (.mv (.t 7))] [0, 6, 7])
 .ret)))
def fe74 : FnE := ⟨8, [(2, none)], xc74⟩
theorem ok74 : FnOk Tryd.prog 74 fe74 := fnOk_of Tryd.func74 (by kernel_rfl : chkF Tryd.prog hs74 Tryd.f74 = some fe74)
/- 75 cmp.isNaN[int] -/
def hs75 : Hints := [(0, ([], [2])), (1, ([], [0, 3, 4, 5]))]
def xc75 : XC :=
 (.seq
 (.reg 64 [
 o 2 (.mv (.c (.bool false)))] [2])
 (.seq
 (.reg 128 [
 o 3 (.mv (.t 0)),
 o 4 (.mv (.t 0)),
 o 5 (.bin .neq (.t 3) (.t 4)),
 o 2 (.mv (.t 5))] [0, 3, 4, 5])
 .ret))
def fe75 : FnE := ⟨6, [(2, none)], xc75⟩
theorem ok75 : FnOk Tryd.prog 75 fe75 := fnOk_of Tryd.func75 (by kernel_rfl : chkF Tryd.prog hs75 Tryd.f75 = some fe75)
/- 76 cmp.isNaN[uint8] -/
def hs76 : Hints := [(0, ([], [2])), (1, ([], [0, 3, 4, 5]))]
def xc76 : XC :=
 (.seq
 (.reg 64 [
 o 2 (.mv (.c (.bool false)))] [2])
 (.seq
 (.reg 128 [
 o 3 (.mv (.t 0)),
 o 4 (.mv (.t 0)),
 o 5 (.bin .neq (.t 3) (.t 4)),
 o 2 (.mv (.t 5))] [0, 3, 4, 5])
 .ret))
def fe76 : FnE := ⟨6, [(2, none)], xc76⟩
theorem ok76 : FnOk Tryd.prog 76 fe76 := fnOk_of Tryd.func76 (by kernel_rfl : chkF Tryd.prog hs76 Tryd.f76 = some fe76)
/- 77 (*strings.Builder).Grow -/
def hs77 : Hints := [(0, ([], [4, 5])), (1, ([], [6])), (2, ([], [7, 8])), (3, ([0, 1, 2, 3, 4, 5, 6, 7, 8, 9, 10, 11, 12], [7, 9, 10, 11, 12, 13, 14, 15, 16, 17, 18, 19, 20])), (4, ([], [0, 1, 21, 22, 23, 24]))]
def xc77 : XC :=
 (.seq
 (.reg 64 [
 o 4 (.mv (.t 0)),
 o 5 (.call 98 [(.t 4)])] [4, 5])
 (.seq
 (.seq
 (.reg 128 [
 o 6 (.mv (.t 1)),
 o 7 (.bin .lss (.t 6) (ki 0))] [6])
 (.cond (.t 7)
 (.reg 192 [
 o 8 (.bad),
 ⟨none, .bad, none⟩] [7, 8])
 .skip))
 (.seq
 (.draw 256 [
 o 9 (.mv (.t 0)),
 o 10 (.nilck (.t 9)),
 o 11 (.fieldA 1 (.t 10)),
 o 12 (.load none (.t 11)),
 o 13 (.cap (.t 12)),
 o 14 (.mv (.t 0)),
 o 15 (.nilck (.t 14)),
 o 16 (.fieldA 1 (.t 15)),
 o 17 (.load none (.t 16)),
 o 18 (.len (.t 17)),
 o 19 (.bin .sub (.t 13) (.t 18)),
 o 20 (.mv (.t 1)),
 o 21 (.bin .lss (.t 19) (.t 20))]
 [[], [0], [1], [2], [3], [], [5], [6], [7], [8], [4, 9], [], [10, 11]]
 [0, 1, 2, 3, 4, 5, 6, 7, 8, 9, 10, 11, 12] [7, 9, 10, 11, 12, 13, 14, 15, 16, 17, 18, 19, 20])
 (.cond (.t 21)
 (.reg 320 [
 o 22 (.mv (.t 0)),
 o 23 (.mv (.t 1)),
 o 24 (.call 99 [(.t 22), (.t 23)])] [0, 1, 21, 22, 23, 24])
 .skip))))
def fe77 : FnE := ⟨25, [], xc77⟩
theorem ok77 : FnOk Tryd.prog 77 fe77 := fnOk_of Tryd.func77 (by kernel_rfl : chkF Tryd.prog hs77 Tryd.f77 = some fe77)
/- 78 (*strings.Builder).WriteString -/
def hs78 : Hints := [(0, ([], [4, 5])), (1, ([], [6, 7])), (2, ([], [0, 8, 9, 10, 11, 12, 13, 14, 15, 16])), (3, ([], [1, 17, 18]))]
def xc78 : XC :=
 (.seq
 (.reg 64 [
 o 4 (.mv (ki 0)),
 o 5 (.mv (.c .nili))] [4, 5])
 (.seq
 (.reg 128 [
 o 6 (.mv (.t 0)),
 o 7 (.call 98 [(.t 6)])] [6, 7])
 (.seq
 (.reg 192 [
 o 8 (.mv (.t 0)),
 o 9 (.mv (.t 0)),
 o 10 (.nilck (.t 9)),
 o 11 (.fieldA 1 (.t 10)),
 o 12 (.load none (.t 11)),
 o 13 (.mv (.t 1)),
 o 14 (.bad),
 o 15 (.nilck (.t 8)),
 o 16 (.fieldA 1 (.t 15)),
 ⟨none, .store 1 (.t 16) (.t 14), none⟩] [0, 8, 9, 10, 11, 12, 13, 14, 15, 16])
 (.seq
 (.reg 256 [
 o 17 (.mv (.t 1)),
 o 18 (.lens (.t 17)),
 o 4 (.mv (.t 18)),
 o 5 (.mv (.c .nili))] [1, 17, 18])
 .ret))))
def fe78 : FnE := ⟨19, [(4, none), (5, none)], xc78⟩
theorem ok78 : FnOk Tryd.prog 78 fe78 := fnOk_of Tryd.func78 (by kernel_rfl : chkF Tryd.prog hs78 Tryd.f78 = some fe78)
/- 79 (*strings.Builder).String -/
def hs79 : Hints := [(0, ([], [2])), (1, ([0, 1, 2, 3, 4, 5, 6, 7, 8, 9, 10, 11], [0, 3, 4, 5, 6, 7, 8, 9, 10, 11, 12, 13]))]
def xc79 : XC :=
 (.seq
 (.reg 64 [
 o 2 (.mv (.c (.str [])))] [2])
 (.seq
 (.draw 128 [
 o 3 (.mv (.t 0)),
 o 4 (.nilck (.t 3)),
 o 5 (.fieldA 1 (.t 4)),
 o 6 (.load none (.t 5)),
 o 7 (.bad),
 o 8 (.mv (.t 0)),
 o 9 (.nilck (.t 8)),
 o 10 (.fieldA 1 (.t 9)),
 o 11 (.load none (.t 10)),
 o 12 (.len (.t 11)),
 o 13 (.bad),
 o 2 (.mv (.t 13))]
 [[], [0], [1], [2], [3], [], [5], [6], [7], [8], [4, 9], [10, 0, 1, 2, 3, 4, 5, 6, 7, 8, 9, 10]]
 [0, 1, 2, 3, 4, 5, 6, 7, 8, 9, 10, 11] [0, 3, 4, 5, 6, 7, 8, 9, 10, 11, 12, 13])
 .ret))
def fe79 : FnE := ⟨14, [(2, none)], xc79⟩
theorem ok79 : FnOk Tryd.prog 79 fe79 := fnOk_of Tryd.func79 (by kernel_rfl : chkF Tryd.prog hs79 Tryd.f79 = some fe79)
/- 80 internal/strconv.FormatInt -/
def hs80 : Hints := [(0, ([], [4])), (1, ([], [10])), (2, ([], [1, 11, 12, 13, 14, 15, 16])), (3, ([], [0, 17, 18, 19])), (4, ([], [4, 17])), (5, ([], [20, 21])), (6, ([], [22])), (7, ([], [23, 24, 25])), (8, ([], [23, 26, 27])), (9, ([], [6, 28, 29, 30, 31, 32])), (10, ([], [0, 33])), (11, ([], [34, 35])), (12, ([], [5, 7, 36, 37, 38, 39])), (13, ([], [5, 7, 34, 40, 41, 42, 43])), (14, ([], [4, 0, 1, 11, 45, 46, 47, 48, 49, 50, 44, 51, 52, 8])), (15, ([], [9, 53]))]
def xc80 : XC :=
 (.seq
 (.reg 64 [
 o 4 (.mv (.c (.str [])))] [4])
 (.seq
 (.seq
 (.reg 128 [
 o 10 (.mv (.t 1)),
 o 11 (.bin .eql (.t 10) (ki 10))] [10])
 (.cond (.t 11)
 (.seq
 (.seq
 (.reg 192 [
 o 12 (.mv (.t 0)),
 o 13 (.bin .leq (ki 0) (.t 12)),
 o 14 (.mv (.t 13)),
 oi 15 14 true (.mv (.t 0)),
 oi 16 14 true (.bin .lss (.t 15) (ki 100)),
 o 17 (.pick (.t 14) (.t 16) (.c (.bool false)))] [1, 11, 12, 13, 14, 15, 16])
 (.cond (.t 17)
 (.seq
 (.reg 256 [
 o 18 (.mv (.t 0)),
 o 19 (.call 100 [(.t 18)]),
 o 4 (.mv (.t 19))] [0, 17, 18, 19])
 .ret)
 .skip))
 (.seq
 (.reg 320 [
 o 5 (.new (.ints .u8 [0, 0, 0, 0, 0, 0, 0, 0, 0, 0, 0, 0, 0, 0, 0, 0, 0, 0, 0, 0, 0, 0, 0, 0]) 24 1)] [4, 17])
 (.seq
 (.reg 384 [
 o 20 (.mv (.t 0)),
 o 21 (.conv .u64 (.t 20)),
 o 6 (.mv (.t 21))] [20, 21])
 (.seq
 (.seq
 (.reg 448 [
 o 22 (.mv (.t 0)),
 o 23 (.bin .lss (.t 22) (ki 0))] [22])
 (.cond (.t 23)
 (.reg 512 [
 o 24 (.mv (.t 6)),
 o 25 (.un .neg (.t 24)),
 o 6 (.mv (.t 25))] [23, 24, 25])
 .skip))
 (.seq
 (.reg 576 [
 o 26 (.mv (.t 6)),
 o 27 (.call 101 [(.t 26)]),
 o 7 (.mv (.t 27))] [23, 26, 27])
 (.seq
 (.reg 640 [
 o 28 (.mv (.t 7)),
 o 29 (.bin .add (ki 1) (.t 28)),
 o 30 (.slicea 24 1 (.t 5) (some (ki 1)) (some (.t 29)) none),
 o 31 (.mv (.t 6)),
 o 32 (.call 102 [(.t 30), (.t 31)])] [6, 28, 29, 30, 31, 32])
 (.seq
 (.seq
 (.reg 704 [
 o 33 (.mv (.t 0)),
 o 34 (.bin .lss (.t 33) (ki 0))] [0, 33])
 (.cond (.t 34)
 (.seq
 (.reg 768 [
 o 35 (.idxA (some 24) 1 (.t 5) (ki 0)),
 ⟨none, .store 1 (.t 35) (ku 45), none⟩] [34, 35])
 (.seq
 (.reg 832 [
 o 36 (.mv (.t 7)),
 o 37 (.bin .add (ki 1) (.t 36)),
 o 38 (.slicea 24 1 (.t 5) none (some (.t 37)) none),
 o 39 (.bstr (.t 38)),
 o 4 (.mv (.t 39))] [5, 7, 36, 37, 38, 39])
 .ret))
 .skip))
 (.seq
 (.reg 896 [
 o 40 (.mv (.t 7)),
 o 41 (.bin .add (ki 1) (.t 40)),
 o 42 (.slicea 24 1 (.t 5) (some (ki 1)) (some (.t 41)) none),
 o 43 (.bstr (.t 42)),
 o 4 (.mv (.t 43))] [5, 7, 34, 40, 41, 42, 43])
 .ret))))))))
 .skip))
 (.seq
 (.reg 960 [
 o 45 (.mv (.t 0)),
 o 46 (.conv .u64 (.t 45)),
 o 47 (.mv (.t 1)),
 o 48 (.mv (.t 0)),
 o 49 (.bin .lss (.t 48) (ki 0)),
 o 50 (.call 103 [(.c .nils), (.t 46), (.t 47), (.t 49), (.c (.bool false))]),
 o 44 (.mv (.t 50)),
 o 51 (.ext (.t 44) 0),
 o 52 (.ext (.t 44) 1),
 o 8 (.mv (.t 51)),
 o 9 (.mv (.t 52))] [4, 0, 1, 11, 45, 46, 47, 48, 49, 50, 44, 51, 52, 8])
 (.seq
 (.reg 1024 [
 o 53 (.mv (.t 9)),
 o 4 (.mv (.t 53))] [9, 53])
 .ret))))
def fe80 : FnE := ⟨54, [(4, none)], xc80⟩
theorem ok80 : FnOk Tryd.prog 80 fe80 := fnOk_of Tryd.func80 (by kernel_rfl : chkF Tryd.prog hs80 Tryd.f80 = some fe80)
/- 83 slices.Index[[]crimp/api.Kind,crimp/api.Kind] -/
def hs83 : Hints := [(0, ([], [4])), (1, ([], [6])), (3, ([], [9, 10])), (4, ([], [11, 12, 13, 14, 15])), (5, ([], [8, 0, 1, 7, 5, 16, 17])), (6, ([], [4, 5, 16, 18])), (7, ([], [0, 1, 7, 8]))]
def xc83 : XC :=
 (.seq
 (.reg 64 [
 o 4 (.mv (ki 0))] [4])
 (.seq
 (.seq
 (.reg 128 [
 o 6 (.mv (.t 0)),
 o 7 (.len (.t 6)),
 o 8 (.mv (ki 0))] [6])
 (.block 0
 (.loop
 (.seq
 (.reg 192 [
 o 9 (.bin .lss (.t 8) (.t 7))] [])
 (.seq
 (.cond (.t 9)
 .skip
 (.exit 0))
 (.seq
 (.block 1
 (.seq
 (.reg 256 [
 o 10 (.mv (.t 8)),
 o 5 (.mv (.t 10))] [9, 10])
 (.seq
 (.reg 320 [
 o 11 (.mv (.t 1)),
 o 12 (.mv (.t 0)),
 o 13 (.mv (.t 5)),
 o 14 (.idxA none 1 (.t 12) (.t 13)),
 o 15 (.load none (.t 14)),
 o 16 (.bin .eql (.t 11) (.t 15))] [11, 12, 13, 14, 15])
 (.cond (.t 16)
 (.seq
 (.reg 384 [
 o 17 (.mv (.t 5)),
 o 4 (.mv (.t 17))] [8, 0, 1, 7, 5, 16, 17])
 .ret)
 .skip))))
 (.reg 448 [
 o 18 (.bin .add (.t 8) (ki 1)),
 o 8 (.mv (.t 18))] [4, 5, 16, 18])))))))
 (.seq
 (.reg 512 [
 o 4 (.mv (ki (-1)))] [0, 1, 7, 8])
 .ret)))
def fe83 : FnE := ⟨19, [(4, none)], xc83⟩
theorem ok83 : FnOk Tryd.prog 83 fe83 := fnOk_of Tryd.func83 (by kernel_rfl : chkF Tryd.prog hs83 Tryd.f83 = some fe83)
/- 84 crimp/reductions.around$1 -/
def hs84 : Hints := [(0, ([], [3])), (1, ([], [0, 1, 4, 5, 6, 7, 8]))]
def xc84 : XC :=
 (.seq
 (.reg 64 [
 o 3 (.mv (ki 0))] [3])
 (.seq
 (.reg 128 [
 o 4 (.mv (.t 0)),
 o 5 (.load none (.t 1)),
 o 6 (.bin .add (.t 4) (.t 5)),
 o 7 (.load none (.t 1)),
 o 8 (.bin .rem (.t 6) (.t 7)),
 o 3 (.mv (.t 8))] [0, 1, 4, 5, 6, 7, 8])
 .ret))
def fe84 : FnE := ⟨9, [(3, none)], xc84⟩
theorem ok84 : FnOk Tryd.prog 84 fe84 := fnOk_of Tryd.func84 (by kernel_rfl : chkF Tryd.prog hs84 Tryd.f84 = some fe84)
/- 85 slices.Grow[[]int,int] -/
def hs85 : Hints := [(0, ([], [4])), (1, ([], [5])), (2, ([], [6, 7])), (3, ([], [6, 8, 9, 10, 11, 12, 13, 14])), (4, ([], [15])), (5, ([], [1, 16, 17, 18, 19, 20, 21, 22, 23, 24, 25])), (6, ([], [0, 1, 16, 26]))]
def xc85 : XC :=
 (.seq
 (.reg 64 [
 o 4 (.mv (.c .nils))] [4])
 (.seq
 (.seq
 (.reg 128 [
 o 5 (.mv (.t 1)),
 o 6 (.bin .lss (.t 5) (ki 0))] [5])
 (.cond (.t 6)
 (.reg 192 [
 o 7 (.bad),
 ⟨none, .bad, none⟩] [6, 7])
 .skip))
 (.seq
 (.seq
 (.reg 256 [
 o 8 (.mv (.t 1)),
 o 9 (.mv (.t 0)),
 o 10 (.cap (.t 9)),
 o 11 (.mv (.t 0)),
 o 12 (.len (.t 11)),
 o 13 (.bin .sub (.t 10) (.t 12)),
 o 14 (.bin .sub (.t 8) (.t 13)),
 o 1 (.mv (.t 14))] [6, 8, 9, 10, 11, 12, 13, 14])
 (.seq
 (.reg 320 [
 o 15 (.mv (.t 1)),
 o 16 (.bin .gtr (.t 15) (ki 0))] [15])
 (.cond (.t 16)
 (.reg 384 [
 o 17 (.mv (.t 0)),
 o 18 (.mv (.t 0)),
 o 19 (.cap (.t 18)),
 o 20 (.slice 1 (.t 17) none (some (.t 19)) none),
 o 21 (.mv (.t 1)),
 o 22 (.growz 1 8 4 (.t 20) (.t 21)),
 o 23 (.mv (.t 0)),
 o 24 (.len (.t 23)),
 o 25 (.slice 1 (.t 22) none (some (.t 24)) none),
 o 0 (.mv (.t 25))] [1, 16, 17, 18, 19, 20, 21, 22, 23, 24, 25])
 .skip)))
 (.seq
 (.reg 448 [
 o 26 (.mv (.t 0)),
 o 4 (.mv (.t 26))] [0, 1, 16, 26])
 .ret))))
def fe85 : FnE := ⟨27, [(4, none)], xc85⟩
theorem ok85 : FnOk Tryd.prog 85 fe85 := fnOk_of Tryd.func85 (by kernel_rfl : chkF Tryd.prog hs85 Tryd.f85 = some fe85)
/- 86 slices.Grow[[]crimp/api.Kind,crimp/api.Kind] -/
def hs86 : Hints := [(0, ([], [4])), (1, ([], [5])), (2, ([], [6, 7])), (3, ([], [6, 8, 9, 10, 11, 12, 13, 14])), (4, ([], [15])), (5, ([], [1, 16, 17, 18, 19, 20, 21, 22, 23, 24, 25])), (6, ([], [0, 1, 16, 26]))]
def xc86 : XC :=
 (.seq
 (.reg 64 [
 o 4 (.mv (.c .nils))] [4])
 (.seq
 (.seq
 (.reg 128 [
 o 5 (.mv (.t 1)),
 o 6 (.bin .lss (.t 5) (ki 0))] [5])
 (.cond (.t 6)
 (.reg 192 [
 o 7 (.bad),
 ⟨none, .bad, none⟩] [6, 7])
 .skip))
 (.seq
 (.seq
 (.reg 256 [
 o 8 (.mv (.t 1)),
 o 9 (.mv (.t 0)),
 o 10 (.cap (.t 9)),
 o 11 (.mv (.t 0)),
 o 12 (.len (.t 11)),
 o 13 (.bin .sub (.t 10) (.t 12)),
 o 14 (.bin .sub (.t 8) (.t 13)),
 o 1 (.mv (.t 14))] [6, 8, 9, 10, 11, 12, 13, 14])
 (.seq
 (.reg 320 [
 o 15 (.mv (.t 1)),
 o 16 (.bin .gtr (.t 15) (ki 0))] [15])
 (.cond (.t 16)
 (.reg 384 [
 o 17 (.mv (.t 0)),
 o 18 (.mv (.t 0)),
 o 19 (.cap (.t 18)),
 o 20 (.slice 1 (.t 17) none (some (.t 19)) none),
 o 21 (.mv (.t 1)),
 o 22 (.growz 1 1 5 (.t 20) (.t 21)),
 o 23 (.mv (.t 0)),
 o 24 (.len (.t 23)),
 o 25 (.slice 1 (.t 22) none (some (.t 24)) none),
 o 0 (.mv (.t 25))] [1, 16, 17, 18, 19, 20, 21, 22, 23, 24, 25])
 .skip)))
 (.seq
 (.reg 448 [
 o 26 (.mv (.t 0)),
 o 4 (.mv (.t 26))] [0, 1, 16, 26])
 .ret))))
def fe86 : FnE := ⟨27, [(4, none)], xc86⟩
theorem ok86 : FnOk Tryd.prog 86 fe86 := fnOk_of Tryd.func86 (by kernel_rfl : chkF Tryd.prog hs86 Tryd.f86 = some fe86)
/- 87 cmp.isNaN[crimp/api.Kind] -/
def hs87 : Hints := [(0, ([], [2])), (1, ([], [0, 3, 4, 5]))]
def xc87 : XC :=
 (.seq
 (.reg 64 [
 o 2 (.mv (.c (.bool false)))] [2])
 (.seq
 (.reg 128 [
 o 3 (.mv (.t 0)),
 o 4 (.mv (.t 0)),
 o 5 (.bin .neq (.t 3) (.t 4)),
 o 2 (.mv (.t 5))] [0, 3, 4, 5])
 .ret))
def fe87 : FnE := ⟨6, [(2, none)], xc87⟩
theorem ok87 : FnOk Tryd.prog 87 fe87 := fnOk_of Tryd.func87 (by kernel_rfl : chkF Tryd.prog hs87 Tryd.f87 = some fe87)
/- 88 slices.insertionSortCmpFunc[crimp/patterns.Crease] -/
def hs88 : Hints := [(0, ([], [10, 11])), (1, ([], [12, 13])), (3, ([], [14, 17])), (4, ([0, 1, 2, 3, 4, 5, 6, 7, 8, 9, 10, 11, 12, 13, 14, 15, 16], [18, 19, 20, 21])), (6, ([0, 1, 2, 3, 4, 5, 6, 7, 8, 9, 10, 11, 12, 13, 14, 15, 16, 17], [34, 37, 38, 39, 40, 41, 42, 43, 44, 45, 46, 47, 48, 49, 50, 51, 52])), (5, ([], [35, 36])), (2, ([], [9, 15, 16]))]
def xc88 : XC :=
 (.seq
 (.reg 64 [
 o 10 (.mv (.t 1)),
 o 11 (.bin .add (.t 10) (ki 1)),
 o 8 (.mv (.t 11))] [10, 11])
 (.block 0
 (.loop
 (.seq
 (.seq
 (.reg 128 [
 o 12 (.mv (.t 8)),
 o 13 (.mv (.t 2)),
 o 14 (.bin .lss (.t 12) (.t 13))] [12, 13])
 (.cond (.t 14)
 .skip
 (.exit 0)))
 (.seq
 (.block 1
 (.seq
 (.reg 256 [
 o 17 (.mv (.t 8)),
 o 9 (.mv (.t 17))] [14, 17])
 (.block 2
 (.loop
 (.seq
 (.seq
 (.draw 320 [
 o 18 (.mv (.t 9)),
 o 19 (.mv (.t 1)),
 o 20 (.bin .gtr (.t 18) (.t 19)),
 o 21 (.mv (.t 20)),
 oi 22 21 true (.mv (.t 3)),
 oi 23 21 true (.mv (.t 0)),
 oi 24 21 true (.mv (.t 9)),
 oi 25 21 true (.idxA none 3 (.t 23) (.t 24)),
 oi 26 21 true (.load (some 3) (.t 25)),
 oi 27 21 true (.mv (.t 0)),
 oi 28 21 true (.mv (.t 9)),
 oi 29 21 true (.bin .sub (.t 28) (ki 1)),
 oi 30 21 true (.idxA none 3 (.t 27) (.t 29)),
 oi 31 21 true (.load (some 3) (.t 30)),
 oi 32 21 true (.callv (.t 22) [(.t 26), (.t 31)]),
 oi 33 21 true (.bin .lss (.t 32) (ki 0)),
 o 34 (.pick (.t 21) (.t 33) (.c (.bool false)))]
 [[], [], [0, 1], [2], [3], [3], [3], [5, 6, 3], [7, 3], [3], [3], [10, 3], [9, 11, 3], [12, 3], [4, 8, 13, 3, 3], [14, 3], [3, 15]]
 [0, 1, 2, 3, 4, 5, 6, 7, 8, 9, 10, 11, 12, 13, 14, 15, 16] [18, 19, 20, 21])
 (.cond (.t 34)
 .skip
 (.exit 2)))
 (.seq
 (.block 3
 (.draw 448 [
 o 37 (.mv (.t 0)),
 o 38 (.mv (.t 9)),
 o 39 (.mv (.t 0)),
 o 40 (.mv (.t 9)),
 o 41 (.bin .sub (.t 40) (ki 1)),
 o 42 (.mv (.t 0)),
 o 43 (.mv (.t 9)),
 o 44 (.bin .sub (.t 43) (ki 1)),
 o 45 (.idxA none 3 (.t 42) (.t 44)),
 o 46 (.load (some 3) (.t 45)),
 o 47 (.mv (.t 0)),
 o 48 (.mv (.t 9)),
 o 49 (.idxA none 3 (.t 47) (.t 48)),
 o 50 (.load (some 3) (.t 49)),
 o 51 (.idxA none 3 (.t 37) (.t 38)),
 ⟨none, .store 3 (.t 51) (.t 46), none⟩,
 o 52 (.idxA none 3 (.t 39) (.t 41)),
 ⟨none, .store 3 (.t 52) (.t 50), none⟩]
 [[], [], [], [], [3], [], [], [6], [5, 7], [8], [], [], [10, 11], [12], [0, 1, 0, 1, 5, 6, 7, 8, 9, 13], [14, 9, 0, 1, 5, 6, 7, 8, 9, 13], [2, 4, 0, 1, 2, 3, 4, 5, 6, 7, 8, 9, 10, 11, 12, 13, 14, 15], [16, 13, 15, 0, 1, 2, 3, 4, 5, 6, 7, 8, 9, 10, 11, 12, 13, 14, 15]]
 [0, 1, 2, 3, 4, 5, 6, 7, 8, 9, 10, 11, 12, 13, 14, 15, 16, 17] [34, 37, 38, 39, 40, 41, 42, 43, 44, 45, 46, 47, 48, 49, 50, 51, 52]))
 (.reg 384 [
 o 35 (.mv (.t 9)),
 o 36 (.bin .sub (.t 35) (ki 1)),
 o 9 (.mv (.t 36))] [35, 36])))))))
 (.reg 192 [
 o 15 (.mv (.t 8)),
 o 16 (.bin .add (.t 15) (ki 1)),
 o 8 (.mv (.t 16))] [9, 15, 16]))))))
def fe88 : FnE := ⟨53, [], xc88⟩
theorem ok88 : FnOk Tryd.prog 88 fe88 := fnOk_of Tryd.func88 (by kernel_rfl : chkF Tryd.prog hs88 Tryd.f88 = some fe88)
/- 89 slices.heapSortCmpFunc[crimp/patterns.Crease] -/
def hs89 : Hints := [(0, ([], [13])), (2, ([], [1, 2, 14, 15, 16])), (3, ([], [17, 18, 19])), (4, ([], [20])), (6, ([], [21, 24, 25, 26, 27, 28, 29])), (5, ([], [22, 23])), (7, ([], [10, 11, 30, 31])), (8, ([], [32])), (10, ([0, 1, 2, 3, 4, 5, 6, 7, 8, 9, 10, 11, 12, 13, 14, 15, 16, 17, 18, 19], [33, 36, 37, 38, 39, 40, 41, 42, 43, 44, 45, 46, 47, 48, 49, 50, 51, 52, 53])), (11, ([], [54, 55, 56, 57, 58, 59])), (9, ([], [34, 35]))]
def xc89 : XC :=
 (.seq
 (.reg 64 [
 o 13 (.mv (.t 1)),
 o 8 (.mv (.t 13))] [13])
 (.seq
 (.reg 128 [
 o 9 (.mv (ki 0))] [])
 (.seq
 (.reg 192 [
 o 14 (.mv (.t 2)),
 o 15 (.mv (.t 1)),
 o 16 (.bin .sub (.t 14) (.t 15)),
 o 10 (.mv (.t 16))] [1, 2, 14, 15, 16])
 (.seq
 (.seq
 (.reg 256 [
 o 17 (.mv (.t 10)),
 o 18 (.bin .sub (.t 17) (ki 1)),
 o 19 (.bin .quo (.t 18) (ki 2)),
 o 11 (.mv (.t 19))] [17, 18, 19])
 (.block 0
 (.loop
 (.seq
 (.seq
 (.reg 320 [
 o 20 (.mv (.t 11)),
 o 21 (.bin .geq (.t 20) (ki 0))] [20])
 (.cond (.t 21)
 .skip
 (.exit 0)))
 (.seq
 (.block 1
 (.reg 448 [
 o 24 (.mv (.t 0)),
 o 25 (.mv (.t 11)),
 o 26 (.mv (.t 10)),
 o 27 (.mv (.t 8)),
 o 28 (.mv (.t 3)),
 o 29 (.call 108 [(.t 24), (.t 25), (.t 26), (.t 27), (.t 28)])] [21, 24, 25, 26, 27, 28, 29]))
 (.reg 384 [
 o 22 (.mv (.t 11)),
 o 23 (.bin .sub (.t 22) (ki 1)),
 o 11 (.mv (.t 23))] [22, 23]))))))
 (.seq
 (.reg 512 [
 o 30 (.mv (.t 10)),
 o 31 (.bin .sub (.t 30) (ki 1)),
 o 12 (.mv (.t 31))] [10, 11, 30, 31])
 (.block 2
 (.loop
 (.seq
 (.seq
 (.reg 576 [
 o 32 (.mv (.t 12)),
 o 33 (.bin .geq (.t 32) (ki 0))] [32])
 (.cond (.t 33)
 .skip
 (.exit 2)))
 (.seq
 (.block 3
 (.seq
 (.draw 704 [
 o 36 (.mv (.t 0)),
 o 37 (.mv (.t 8)),
 o 38 (.mv (.t 0)),
 o 39 (.mv (.t 8)),
 o 40 (.mv (.t 12)),
 o 41 (.bin .add (.t 39) (.t 40)),
 o 42 (.mv (.t 0)),
 o 43 (.mv (.t 8)),
 o 44 (.mv (.t 12)),
 o 45 (.bin .add (.t 43) (.t 44)),
 o 46 (.idxA none 3 (.t 42) (.t 45)),
 o 47 (.load (some 3) (.t 46)),
 o 48 (.mv (.t 0)),
 o 49 (.mv (.t 8)),
 o 50 (.idxA none 3 (.t 48) (.t 49)),
 o 51 (.load (some 3) (.t 50)),
 o 52 (.idxA none 3 (.t 36) (.t 37)),
 ⟨none, .store 3 (.t 52) (.t 47), none⟩,
 o 53 (.idxA none 3 (.t 38) (.t 41)),
 ⟨none, .store 3 (.t 53) (.t 51), none⟩]
 [[], [], [], [], [], [3, 4], [], [], [], [7, 8], [6, 9], [10], [], [], [12, 13], [14], [0, 1, 0, 1, 6, 7, 8, 9, 10, 11, 15], [16, 11, 0, 1, 6, 7, 8, 9, 10, 11, 15], [2, 5, 0, 1, 2, 3, 4, 5, 6, 7, 8, 9, 10, 11, 12, 13, 14, 15, 16, 17], [18, 15, 17, 0, 1, 2, 3, 4, 5, 6, 7, 8, 9, 10, 11, 12, 13, 14, 15, 16, 17]]
 [0, 1, 2, 3, 4, 5, 6, 7, 8, 9, 10, 11, 12, 13, 14, 15, 16, 17, 18, 19] [33, 36, 37, 38, 39, 40, 41, 42, 43, 44, 45, 46, 47, 48, 49, 50, 51, 52, 53])
 (.reg 768 [
 o 54 (.mv (.t 0)),
 o 55 (.mv (.t 9)),
 o 56 (.mv (.t 12)),
 o 57 (.mv (.t 8)),
 o 58 (.mv (.t 3)),
 o 59 (.call 108 [(.t 54), (.t 55), (.t 56), (.t 57), (.t 58)])] [54, 55, 56, 57, 58, 59])))
 (.reg 640 [
 o 34 (.mv (.t 12)),
 o 35 (.bin .sub (.t 34) (ki 1)),
 o 12 (.mv (.t 35))] [34, 35]))))))))))
def fe89 : FnE := ⟨60, [], xc89⟩
theorem ok89 : FnOk Tryd.prog 89 fe89 := fnOk_of Tryd.func89 (by kernel_rfl : chkF Tryd.prog hs89 Tryd.f89 = some fe89)
/- 90 slices.breakPatternsCmpFunc[crimp/patterns.Crease] -/
def hs90 : Hints := [(0, ([], [2, 3, 13, 14, 15])), (1, ([], [16])), (2, ([], [17, 18, 19])), (3, ([], [20, 21])), (4, ([], [22, 23, 24, 25, 26, 27])), (5, ([], [28, 29, 30, 31, 32, 33, 34])), (7, ([], [35, 38, 39, 40, 41, 42])), (8, ([], [43, 44])), (9, ([], [45, 46, 47, 48])), (10, ([0, 1, 2, 3, 4, 5, 6, 7, 8, 9, 10, 11, 12, 13, 14, 15, 16, 17, 18, 19], [12, 45, 49, 50, 51, 52, 53, 54, 55, 56, 57, 58, 59, 60, 61, 62, 63, 64, 65, 66])), (6, ([], [36, 37]))]
def xc90 : XC :=
 (.seq
 (.reg 64 [
 o 13 (.mv (.t 2)),
 o 14 (.mv (.t 1)),
 o 15 (.bin .sub (.t 13) (.t 14)),
 o 8 (.mv (.t 15))] [2, 3, 13, 14, 15])
 (.seq
 (.reg 128 [
 o 16 (.mv (.t 8)),
 o 17 (.bin .geq (.t 16) (ki 8))] [16])
 (.cond (.t 17)
 (.seq
 (.reg 192 [
 o 18 (.mv (.t 8)),
 o 19 (.conv .u64 (.t 18)),
 o 9 (.new (.cells [(.int .u64 0)]) 1 1),
 ⟨none, .store 1 (.t 9) (.t 19), none⟩] [17, 18, 19])
 (.seq
 (.reg 256 [
 o 20 (.mv (.t 8)),
 o 21 (.call 109 [(.t 20)]),
 o 10 (.mv (.t 21))] [20, 21])
 (.seq
 (.reg 320 [
 o 22 (.mv (.t 1)),
 o 23 (.mv (.t 8)),
 o 24 (.bin .quo (.t 23) (ki 4)),
 o 25 (.bin .mul (.t 24) (ki 2)),
 o 26 (.bin .add (.t 22) (.t 25)),
 o 27 (.bin .sub (.t 26) (ki 1)),
 o 11 (.mv (.t 27))] [22, 23, 24, 25, 26, 27])
 (.block 0
 (.loop
 (.seq
 (.seq
 (.reg 384 [
 o 28 (.mv (.t 11)),
 o 29 (.mv (.t 1)),
 o 30 (.mv (.t 8)),
 o 31 (.bin .quo (.t 30) (ki 4)),
 o 32 (.bin .mul (.t 31) (ki 2)),
 o 33 (.bin .add (.t 29) (.t 32)),
 o 34 (.bin .add (.t 33) (ki 1)),
 o 35 (.bin .leq (.t 28) (.t 34))] [28, 29, 30, 31, 32, 33, 34])
 (.cond (.t 35)
 .skip
 (.exit 0)))
 (.seq
 (.block 1
 (.seq
 (.reg 512 [
 o 38 (.call 110 [(.t 9)]),
 o 39 (.mv (.t 10)),
 o 40 (.bin .sub (.t 39) (.c (.int .u64 1))),
 o 41 (.bin .and (.t 38) (.t 40)),
 o 42 (.conv .i64 (.t 41)),
 o 12 (.mv (.t 42))] [35, 38, 39, 40, 41, 42])
 (.seq
 (.seq
 (.reg 576 [
 o 43 (.mv (.t 12)),
 o 44 (.mv (.t 8)),
 o 45 (.bin .geq (.t 43) (.t 44))] [43, 44])
 (.cond (.t 45)
 (.reg 640 [
 o 46 (.mv (.t 12)),
 o 47 (.mv (.t 8)),
 o 48 (.bin .sub (.t 46) (.t 47)),
 o 12 (.mv (.t 48))] [45, 46, 47, 48])
 .skip))
 (.draw 704 [
 o 49 (.mv (.t 0)),
 o 50 (.mv (.t 11)),
 o 51 (.mv (.t 0)),
 o 52 (.mv (.t 1)),
 o 53 (.mv (.t 12)),
 o 54 (.bin .add (.t 52) (.t 53)),
 o 55 (.mv (.t 0)),
 o 56 (.mv (.t 1)),
 o 57 (.mv (.t 12)),
 o 58 (.bin .add (.t 56) (.t 57)),
 o 59 (.idxA none 3 (.t 55) (.t 58)),
 o 60 (.load (some 3) (.t 59)),
 o 61 (.mv (.t 0)),
 o 62 (.mv (.t 11)),
 o 63 (.idxA none 3 (.t 61) (.t 62)),
 o 64 (.load (some 3) (.t 63)),
 o 65 (.idxA none 3 (.t 49) (.t 50)),
 ⟨none, .store 3 (.t 65) (.t 60), none⟩,
 o 66 (.idxA none 3 (.t 51) (.t 54)),
 ⟨none, .store 3 (.t 66) (.t 64), none⟩]
 [[], [], [], [], [], [3, 4], [], [], [], [7, 8], [6, 9], [10], [], [], [12, 13], [14], [0, 1, 0, 1, 6, 7, 8, 9, 10, 11, 15], [16, 11, 0, 1, 6, 7, 8, 9, 10, 11, 15], [2, 5, 0, 1, 2, 3, 4, 5, 6, 7, 8, 9, 10, 11, 12, 13, 14, 15, 16, 17], [18, 15, 17, 0, 1, 2, 3, 4, 5, 6, 7, 8, 9, 10, 11, 12, 13, 14, 15, 16, 17]]
 [0, 1, 2, 3, 4, 5, 6, 7, 8, 9, 10, 11, 12, 13, 14, 15, 16, 17, 18, 19] [12, 45, 49, 50, 51, 52, 53, 54, 55, 56, 57, 58, 59, 60, 61, 62, 63, 64, 65, 66]))))
 (.reg 448 [
 o 36 (.mv (.t 11)),
 o 37 (.bin .add (.t 36) (ki 1)),
 o 11 (.mv (.t 37))] [36, 37]))))))))
 .skip)))
def fe90 : FnE := ⟨67, [], xc90⟩
theorem ok90 : FnOk Tryd.prog 90 fe90 := fnOk_of Tryd.func90 (by kernel_rfl : chkF Tryd.prog hs90 Tryd.f90 = some fe90)
/- 91 slices.choosePivotCmpFunc[crimp/patterns.Crease] -/
def hs91 : Hints := [(0, ([], [8, 9])), (1, ([], [2, 15, 16, 17])), (3, ([], [18, 19, 20, 21, 22])), (4, ([], [23, 24, 25, 26, 27])), (5, ([], [1, 28, 29, 30, 31, 32])), (6, ([], [33])), (7, ([], [10, 34, 35])), (8, ([], [36, 37, 38, 39, 40])), (9, ([], [41, 42, 43, 44])), (10, ([], [45, 46, 47, 48])), (11, ([], [0, 3, 12, 14, 36, 49, 50, 51, 52, 53, 54])), (12, ([], [11, 0, 3, 10, 12, 14, 34])), (14, ([], [58])), (15, ([], [13, 55, 57, 59])), (16, ([], [55, 57, 61])), (17, ([], [13, 60, 62])), (13, ([], [13, 60, 56]))]
def xc91 : XC :=
 (.seq
 (.reg 64 [
 o 8 (.mv (ki 0)),
 o 9 (.mv (ki 0))] [8, 9])
 (.seq
 (.reg 128 [
 o 15 (.mv (.t 2)),
 o 16 (.mv (.t 1)),
 o 17 (.bin .sub (.t 15) (.t 16)),
 o 10 (.mv (.t 17))] [2, 15, 16, 17])
 (.seq
 (.reg 192 [
 o 11 (.new (.cells [(.int .i64 0)]) 1 1)] [])
 (.seq
 (.reg 256 [
 o 18 (.mv (.t 1)),
 o 19 (.mv (.t 10)),
 o 20 (.bin .quo (.t 19) (ki 4)),
 o 21 (.bin .mul (.t 20) (ki 1)),
 o 22 (.bin .add (.t 18) (.t 21)),
 o 12 (.mv (.t 22))] [18, 19, 20, 21, 22])
 (.seq
 (.reg 320 [
 o 23 (.mv (.t 1)),
 o 24 (.mv (.t 10)),
 o 25 (.bin .quo (.t 24) (ki 4)),
 o 26 (.bin .mul (.t 25) (ki 2)),
 o 27 (.bin .add (.t 23) (.t 26)),
 o 13 (.mv (.t 27))] [23, 24, 25, 26, 27])
 (.seq
 (.reg 384 [
 o 28 (.mv (.t 1)),
 o 29 (.mv (.t 10)),
 o 30 (.bin .quo (.t 29) (ki 4)),
 o 31 (.bin .mul (.t 30) (ki 3)),
 o 32 (.bin .add (.t 28) (.t 31)),
 o 14 (.mv (.t 32))] [1, 28, 29, 30, 31, 32])
 (.seq
 (.seq
 (.reg 448 [
 o 33 (.mv (.t 10)),
 o 34 (.bin .geq (.t 33) (ki 8))] [33])
 (.cond (.t 34)
 (.seq
 (.seq
 (.reg 512 [
 o 35 (.mv (.t 10)),
 o 36 (.bin .geq (.t 35) (ki 50))] [10, 34, 35])
 (.cond (.t 36)
 (.seq
 (.reg 576 [
 o 37 (.mv (.t 0)),
 o 38 (.mv (.t 12)),
 o 39 (.mv (.t 3)),
 o 40 (.call 111 [(.t 37), (.t 38), (.t 11), (.t 39)]),
 o 12 (.mv (.t 40))] [36, 37, 38, 39, 40])
 (.seq
 (.reg 640 [
 o 41 (.mv (.t 0)),
 o 42 (.mv (.t 13)),
 o 43 (.mv (.t 3)),
 o 44 (.call 111 [(.t 41), (.t 42), (.t 11), (.t 43)]),
 o 13 (.mv (.t 44))] [41, 42, 43, 44])
 (.reg 704 [
 o 45 (.mv (.t 0)),
 o 46 (.mv (.t 14)),
 o 47 (.mv (.t 3)),
 o 48 (.call 111 [(.t 45), (.t 46), (.t 11), (.t 47)]),
 o 14 (.mv (.t 48))] [45, 46, 47, 48])))
 .skip))
 (.reg 768 [
 o 49 (.mv (.t 0)),
 o 50 (.mv (.t 12)),
 o 51 (.mv (.t 13)),
 o 52 (.mv (.t 14)),
 o 53 (.mv (.t 3)),
 o 54 (.call 112 [(.t 49), (.t 50), (.t 51), (.t 52), (.t 11), (.t 53)]),
 o 13 (.mv (.t 54))] [0, 3, 12, 14, 36, 49, 50, 51, 52, 53, 54]))
 .skip))
 (.seq
 (.reg 832 [
 o 55 (.load none (.t 11))] [11, 0, 3, 10, 12, 14, 34])
 (.block 0
 (.seq
 (.reg 960 [
 o 58 (.bin .eql (.t 55) (ki 0)),
 o 57 (.mv (.t 58))] [58])
 (.cond (.t 57)
 (.seq
 (.reg 1024 [
 o 59 (.mv (.t 13)),
 o 8 (.mv (.t 59)),
 o 9 (.mv (ki 1))] [13, 55, 57, 59])
 .ret)
 (.seq
 (.reg 1088 [
 o 61 (.bin .eql (.t 55) (ki 12)),
 o 60 (.mv (.t 61))] [55, 57, 61])
 (.cond (.t 60)
 (.seq
 (.reg 1152 [
 o 62 (.mv (.t 13)),
 o 8 (.mv (.t 62)),
 o 9 (.mv (ki 2))] [13, 60, 62])
 .ret)
 (.seq
 (.reg 896 [
 o 56 (.mv (.t 13)),
 o 8 (.mv (.t 56)),
 o 9 (.mv (ki 0))] [13, 60, 56])
 .ret))))))))))))))
def fe91 : FnE := ⟨63, [(8, none), (9, none)], xc91⟩
theorem ok91 : FnOk Tryd.prog 91 fe91 := fnOk_of Tryd.func91 (by kernel_rfl : chkF Tryd.prog hs91 Tryd.f91 = some fe91)
/- 92 slices.reverseRangeCmpFunc[crimp/patterns.Crease] -/
def hs92 : Hints := [(0, ([], [1, 3, 10])), (1, ([], [2, 11, 12])), (2, ([], [13, 14])), (3, ([0, 1, 2, 3, 4, 5, 6, 7, 8, 9, 10, 11, 12, 13, 14, 15], [15, 16, 17, 18, 19, 20, 21, 22, 23, 24, 25, 26, 27, 28, 29])), (4, ([], [30, 31])), (5, ([], [32, 33]))]
def xc92 : XC :=
 (.seq
 (.reg 64 [
 o 10 (.mv (.t 1)),
 o 8 (.mv (.t 10))] [1, 3, 10])
 (.seq
 (.reg 128 [
 o 11 (.mv (.t 2)),
 o 12 (.bin .sub (.t 11) (ki 1)),
 o 9 (.mv (.t 12))] [2, 11, 12])
 (.block 0
 (.loop
 (.seq
 (.seq
 (.reg 192 [
 o 13 (.mv (.t 8)),
 o 14 (.mv (.t 9)),
 o 15 (.bin .lss (.t 13) (.t 14))] [13, 14])
 (.cond (.t 15)
 .skip
 (.exit 0)))
 (.block 1
 (.seq
 (.draw 256 [
 o 16 (.mv (.t 0)),
 o 17 (.mv (.t 8)),
 o 18 (.mv (.t 0)),
 o 19 (.mv (.t 9)),
 o 20 (.mv (.t 0)),
 o 21 (.mv (.t 9)),
 o 22 (.idxA none 3 (.t 20) (.t 21)),
 o 23 (.load (some 3) (.t 22)),
 o 24 (.mv (.t 0)),
 o 25 (.mv (.t 8)),
 o 26 (.idxA none 3 (.t 24) (.t 25)),
 o 27 (.load (some 3) (.t 26)),
 o 28 (.idxA none 3 (.t 16) (.t 17)),
 ⟨none, .store 3 (.t 28) (.t 23), none⟩,
 o 29 (.idxA none 3 (.t 18) (.t 19)),
 ⟨none, .store 3 (.t 29) (.t 27), none⟩]
 [[], [], [], [], [], [], [4, 5], [6], [], [], [8, 9], [10], [0, 1, 0, 1, 4, 5, 6, 7, 11], [12, 7, 0, 1, 4, 5, 6, 7, 11], [2, 3, 0, 1, 2, 3, 4, 5, 6, 7, 8, 9, 10, 11, 12, 13], [14, 11, 13, 0, 1, 2, 3, 4, 5, 6, 7, 8, 9, 10, 11, 12, 13]]
 [0, 1, 2, 3, 4, 5, 6, 7, 8, 9, 10, 11, 12, 13, 14, 15] [15, 16, 17, 18, 19, 20, 21, 22, 23, 24, 25, 26, 27, 28, 29])
 (.seq
 (.reg 320 [
 o 30 (.mv (.t 8)),
 o 31 (.bin .add (.t 30) (ki 1)),
 o 8 (.mv (.t 31))] [30, 31])
 (.reg 384 [
 o 32 (.mv (.t 9)),
 o 33 (.bin .sub (.t 32) (ki 1)),
 o 9 (.mv (.t 33))] [32, 33])))))))))
def fe92 : FnE := ⟨34, [], xc92⟩
theorem ok92 : FnOk Tryd.prog 92 fe92 := fnOk_of Tryd.func92 (by kernel_rfl : chkF Tryd.prog hs92 Tryd.f92 = some fe92)
/- 93 slices.partialInsertionSortCmpFunc[crimp/patterns.Crease] -/
def hs93 : Hints := [(0, ([], [8])), (1, ([], [13, 14])), (3, ([], [15])), (5, ([0, 1, 2, 3, 4, 5, 6, 7, 8, 9, 10, 11, 12, 13, 14, 15, 16, 17], [19, 20, 21, 22])), (6, ([], [36, 37, 38])), (7, ([], [16, 39, 40])), (8, ([], [9, 10, 0, 3, 2, 1, 35, 34, 33, 23, 27, 32, 31, 28, 30, 29, 26, 24, 25, 41])), (9, ([], [8, 41, 42, 43, 44])), (10, ([], [9, 10, 0, 3, 2, 1, 35, 34, 33, 23, 27, 32, 31, 28, 30, 29, 26, 24, 25, 45])), (11, ([0, 1, 2, 3, 4, 5, 6, 7, 8, 9, 10, 11, 12, 13, 14, 15, 16, 17], [8, 45, 46, 47, 48, 49, 50, 51, 52, 53, 54, 55, 56, 57, 58, 59, 60, 61])), (12, ([], [62, 63, 64])), (13, ([], [65, 66, 67])), (14, ([], [68])), (16, ([0, 1, 2, 3, 4, 5, 6, 7, 8, 9, 10, 11, 12], [69, 72, 73, 74, 75, 76, 77, 78, 79, 80, 81, 82, 83])), (17, ([0, 1, 2, 3, 4, 5, 6, 7, 8, 9, 10, 11, 12, 13, 14, 15, 16, 17], [84, 85, 86, 87, 88, 89, 90, 91, 92, 93, 94, 95, 96, 97, 98, 99, 100])), (15, ([], [70, 71])), (18, ([], [11, 65, 101, 102, 103])), (19, ([], [104, 105, 106])), (20, ([], [107, 108])), (22, ([0, 1, 2, 3, 4, 5, 6, 7, 8, 9, 10, 11, 12], [109, 112, 113, 114, 115, 116, 117, 118, 119, 120, 121, 122, 123])), (23, ([0, 1, 2, 3, 4, 5, 6, 7, 8, 9, 10, 11, 12, 13, 14, 15, 16, 17], [124, 125, 126, 127, 128, 129, 130, 131, 132, 133, 134, 135, 136, 137, 138, 139, 140])), (21, ([], [110, 111])), (4, ([], [12, 104, 17, 18])), (24, ([], [0, 1, 2, 3, 9, 10]))]
def xc93 : XC :=
 (.seq
 (.reg 64 [
 o 8 (.mv (.c (.bool false)))] [8])
 (.seq
 (.reg 128 [
 o 13 (.mv (.t 1)),
 o 14 (.bin .add (.t 13) (ki 1)),
 o 9 (.mv (.t 14))] [13, 14])
 (.seq
 (.seq
 (.reg 192 [
 o 10 (.mv (ki 0))] [])
 (.block 0
 (.loop
 (.seq
 (.seq
 (.reg 256 [
 o 15 (.mv (.t 10)),
 o 16 (.bin .lss (.t 15) (ki 5))] [15])
 (.cond (.t 16)
 .skip
 (.exit 0)))
 (.seq
 (.block 1
 (.seq
 (.block 2
 (.loop
 (.seq
 (.seq
 (.draw 384 [
 o 19 (.mv (.t 9)),
 o 20 (.mv (.t 2)),
 o 21 (.bin .lss (.t 19) (.t 20)),
 o 22 (.mv (.t 21)),
 oi 23 22 true (.mv (.t 3)),
 oi 24 22 true (.mv (.t 0)),
 oi 25 22 true (.mv (.t 9)),
 oi 26 22 true (.idxA none 3 (.t 24) (.t 25)),
 oi 27 22 true (.load (some 3) (.t 26)),
 oi 28 22 true (.mv (.t 0)),
 oi 29 22 true (.mv (.t 9)),
 oi 30 22 true (.bin .sub (.t 29) (ki 1)),
 oi 31 22 true (.idxA none 3 (.t 28) (.t 30)),
 oi 32 22 true (.load (some 3) (.t 31)),
 oi 33 22 true (.callv (.t 23) [(.t 27), (.t 32)]),
 oi 34 22 true (.bin .lss (.t 33) (ki 0)),
 oi 35 22 true (.un .not (.t 34)),
 o 36 (.pick (.t 22) (.t 35) (.c (.bool false)))]
 [[], [], [0, 1], [2], [3], [3], [3], [5, 6, 3], [7, 3], [3], [3], [10, 3], [9, 11, 3], [12, 3], [4, 8, 13, 3, 3], [14, 3], [15, 3], [3, 16]]
 [0, 1, 2, 3, 4, 5, 6, 7, 8, 9, 10, 11, 12, 13, 14, 15, 16, 17] [19, 20, 21, 22])
 (.cond (.t 36)
 .skip
 (.exit 2)))
 (.block 3
 (.reg 448 [
 o 37 (.mv (.t 9)),
 o 38 (.bin .add (.t 37) (ki 1)),
 o 9 (.mv (.t 38))] [36, 37, 38])))))
 (.seq
 (.seq
 (.reg 512 [
 o 39 (.mv (.t 9)),
 o 40 (.mv (.t 2)),
 o 41 (.bin .eql (.t 39) (.t 40))] [16, 39, 40])
 (.cond (.t 41)
 (.seq
 (.reg 576 [
 o 8 (.mv (.c (.bool true)))] [9, 10, 0, 3, 2, 1, 35, 34, 33, 23, 27, 32, 31, 28, 30, 29, 26, 24, 25, 41])
 .ret)
 .skip))
 (.seq
 (.seq
 (.reg 640 [
 o 42 (.mv (.t 2)),
 o 43 (.mv (.t 1)),
 o 44 (.bin .sub (.t 42) (.t 43)),
 o 45 (.bin .lss (.t 44) (ki 50))] [8, 41, 42, 43, 44])
 (.cond (.t 45)
 (.seq
 (.reg 704 [
 o 8 (.mv (.c (.bool false)))] [9, 10, 0, 3, 2, 1, 35, 34, 33, 23, 27, 32, 31, 28, 30, 29, 26, 24, 25, 45])
 .ret)
 .skip))
 (.seq
 (.draw 768 [
 o 46 (.mv (.t 0)),
 o 47 (.mv (.t 9)),
 o 48 (.mv (.t 0)),
 o 49 (.mv (.t 9)),
 o 50 (.bin .sub (.t 49) (ki 1)),
 o 51 (.mv (.t 0)),
 o 52 (.mv (.t 9)),
 o 53 (.bin .sub (.t 52) (ki 1)),
 o 54 (.idxA none 3 (.t 51) (.t 53)),
 o 55 (.load (some 3) (.t 54)),
 o 56 (.mv (.t 0)),
 o 57 (.mv (.t 9)),
 o 58 (.idxA none 3 (.t 56) (.t 57)),
 o 59 (.load (some 3) (.t 58)),
 o 60 (.idxA none 3 (.t 46) (.t 47)),
 ⟨none, .store 3 (.t 60) (.t 55), none⟩,
 o 61 (.idxA none 3 (.t 48) (.t 50)),
 ⟨none, .store 3 (.t 61) (.t 59), none⟩]
 [[], [], [], [], [3], [], [], [6], [5, 7], [8], [], [], [10, 11], [12], [0, 1, 0, 1, 5, 6, 7, 8, 9, 13], [14, 9, 0, 1, 5, 6, 7, 8, 9, 13], [2, 4, 0, 1, 2, 3, 4, 5, 6, 7, 8, 9, 10, 11, 12, 13, 14, 15], [16, 13, 15, 0, 1, 2, 3, 4, 5, 6, 7, 8, 9, 10, 11, 12, 13, 14, 15]]
 [0, 1, 2, 3, 4, 5, 6, 7, 8, 9, 10, 11, 12, 13, 14, 15, 16, 17] [8, 45, 46, 47, 48, 49, 50, 51, 52, 53, 54, 55, 56, 57, 58, 59, 60, 61])
 (.seq
 (.seq
 (.reg 832 [
 o 62 (.mv (.t 9)),
 o 63 (.mv (.t 1)),
 o 64 (.bin .sub (.t 62) (.t 63)),
 o 65 (.bin .geq (.t 64) (ki 2))] [62, 63, 64])
 (.cond (.t 65)
 (.seq
 (.reg 896 [
 o 66 (.mv (.t 9)),
 o 67 (.bin .sub (.t 66) (ki 1)),
 o 11 (.mv (.t 67))] [65, 66, 67])
 (.block 4
 (.loop
 (.seq
 (.seq
 (.reg 960 [
 o 68 (.mv (.t 11)),
 o 69 (.bin .geq (.t 68) (ki 1))] [68])
 (.cond (.t 69)
 .skip
 (.exit 4)))
 (.seq
 (.block 5
 (.seq
 (.seq
 (.draw 1088 [
 o 72 (.mv (.t 3)),
 o 73 (.mv (.t 0)),
 o 74 (.mv (.t 11)),
 o 75 (.idxA none 3 (.t 73) (.t 74)),
 o 76 (.load (some 3) (.t 75)),
 o 77 (.mv (.t 0)),
 o 78 (.mv (.t 11)),
 o 79 (.bin .sub (.t 78) (ki 1)),
 o 80 (.idxA none 3 (.t 77) (.t 79)),
 o 81 (.load (some 3) (.t 80)),
 o 82 (.callv (.t 72) [(.t 76), (.t 81)]),
 o 83 (.bin .lss (.t 82) (ki 0)),
 o 84 (.un .not (.t 83))]
 [[], [], [], [1, 2], [3], [], [], [6], [5, 7], [8], [0, 4, 9], [10], [11]]
 [0, 1, 2, 3, 4, 5, 6, 7, 8, 9, 10, 11, 12] [69, 72, 73, 74, 75, 76, 77, 78, 79, 80, 81, 82, 83])
 (.cond (.t 84)
 (.exit 4)
 .skip))
 (.draw 1152 [
 o 85 (.mv (.t 0)),
 o 86 (.mv (.t 11)),
 o 87 (.mv (.t 0)),
 o 88 (.mv (.t 11)),
 o 89 (.bin .sub (.t 88) (ki 1)),
 o 90 (.mv (.t 0)),
 o 91 (.mv (.t 11)),
 o 92 (.bin .sub (.t 91) (ki 1)),
 o 93 (.idxA none 3 (.t 90) (.t 92)),
 o 94 (.load (some 3) (.t 93)),
 o 95 (.mv (.t 0)),
 o 96 (.mv (.t 11)),
 o 97 (.idxA none 3 (.t 95) (.t 96)),
 o 98 (.load (some 3) (.t 97)),
 o 99 (.idxA none 3 (.t 85) (.t 86)),
 ⟨none, .store 3 (.t 99) (.t 94), none⟩,
 o 100 (.idxA none 3 (.t 87) (.t 89)),
 ⟨none, .store 3 (.t 100) (.t 98), none⟩]
 [[], [], [], [], [3], [], [], [6], [5, 7], [8], [], [], [10, 11], [12], [0, 1, 0, 1, 5, 6, 7, 8, 9, 13], [14, 9, 0, 1, 5, 6, 7, 8, 9, 13], [2, 4, 0, 1, 2, 3, 4, 5, 6, 7, 8, 9, 10, 11, 12, 13, 14, 15], [16, 13, 15, 0, 1, 2, 3, 4, 5, 6, 7, 8, 9, 10, 11, 12, 13, 14, 15]]
 [0, 1, 2, 3, 4, 5, 6, 7, 8, 9, 10, 11, 12, 13, 14, 15, 16, 17] [84, 85, 86, 87, 88, 89, 90, 91, 92, 93, 94, 95, 96, 97, 98, 99, 100])))
 (.reg 1024 [
 o 70 (.mv (.t 11)),
 o 71 (.bin .sub (.t 70) (ki 1)),
 o 11 (.mv (.t 71))] [70, 71]))))))
 .skip))
 (.seq
 (.reg 1216 [
 o 101 (.mv (.t 2)),
 o 102 (.mv (.t 9)),
 o 103 (.bin .sub (.t 101) (.t 102)),
 o 104 (.bin .geq (.t 103) (ki 2))] [11, 65, 101, 102, 103])
 (.cond (.t 104)
 (.seq
 (.reg 1280 [
 o 105 (.mv (.t 9)),
 o 106 (.bin .add (.t 105) (ki 1)),
 o 12 (.mv (.t 106))] [104, 105, 106])
 (.block 6
 (.loop
 (.seq
 (.seq
 (.reg 1344 [
 o 107 (.mv (.t 12)),
 o 108 (.mv (.t 2)),
 o 109 (.bin .lss (.t 107) (.t 108))] [107, 108])
 (.cond (.t 109)
 .skip
 (.exit 6)))
 (.seq
 (.block 7
 (.seq
 (.seq
 (.draw 1472 [
 o 112 (.mv (.t 3)),
 o 113 (.mv (.t 0)),
 o 114 (.mv (.t 12)),
 o 115 (.idxA none 3 (.t 113) (.t 114)),
 o 116 (.load (some 3) (.t 115)),
 o 117 (.mv (.t 0)),
 o 118 (.mv (.t 12)),
 o 119 (.bin .sub (.t 118) (ki 1)),
 o 120 (.idxA none 3 (.t 117) (.t 119)),
 o 121 (.load (some 3) (.t 120)),
 o 122 (.callv (.t 112) [(.t 116), (.t 121)]),
 o 123 (.bin .lss (.t 122) (ki 0)),
 o 124 (.un .not (.t 123))]
 [[], [], [], [1, 2], [3], [], [], [6], [5, 7], [8], [0, 4, 9], [10], [11]]
 [0, 1, 2, 3, 4, 5, 6, 7, 8, 9, 10, 11, 12] [109, 112, 113, 114, 115, 116, 117, 118, 119, 120, 121, 122, 123])
 (.cond (.t 124)
 (.exit 6)
 .skip))
 (.draw 1536 [
 o 125 (.mv (.t 0)),
 o 126 (.mv (.t 12)),
 o 127 (.mv (.t 0)),
 o 128 (.mv (.t 12)),
 o 129 (.bin .sub (.t 128) (ki 1)),
 o 130 (.mv (.t 0)),
 o 131 (.mv (.t 12)),
 o 132 (.bin .sub (.t 131) (ki 1)),
 o 133 (.idxA none 3 (.t 130) (.t 132)),
 o 134 (.load (some 3) (.t 133)),
 o 135 (.mv (.t 0)),
 o 136 (.mv (.t 12)),
 o 137 (.idxA none 3 (.t 135) (.t 136)),
 o 138 (.load (some 3) (.t 137)),
 o 139 (.idxA none 3 (.t 125) (.t 126)),
 ⟨none, .store 3 (.t 139) (.t 134), none⟩,
 o 140 (.idxA none 3 (.t 127) (.t 129)),
 ⟨none, .store 3 (.t 140) (.t 138), none⟩]
 [[], [], [], [], [3], [], [], [6], [5, 7], [8], [], [], [10, 11], [12], [0, 1, 0, 1, 5, 6, 7, 8, 9, 13], [14, 9, 0, 1, 5, 6, 7, 8, 9, 13], [2, 4, 0, 1, 2, 3, 4, 5, 6, 7, 8, 9, 10, 11, 12, 13, 14, 15], [16, 13, 15, 0, 1, 2, 3, 4, 5, 6, 7, 8, 9, 10, 11, 12, 13, 14, 15]]
 [0, 1, 2, 3, 4, 5, 6, 7, 8, 9, 10, 11, 12, 13, 14, 15, 16, 17] [124, 125, 126, 127, 128, 129, 130, 131, 132, 133, 134, 135, 136, 137, 138, 139, 140])))
 (.reg 1408 [
 o 110 (.mv (.t 12)),
 o 111 (.bin .add (.t 110) (ki 1)),
 o 12 (.mv (.t 111))] [110, 111]))))))
 .skip))))))))
 (.reg 320 [
 o 17 (.mv (.t 10)),
 o 18 (.bin .add (.t 17) (ki 1)),
 o 10 (.mv (.t 18))] [12, 104, 17, 18]))))))
 (.seq
 (.reg 1600 [
 o 8 (.mv (.c (.bool false)))] [0, 1, 2, 3, 9, 10])
 .ret))))
def fe93 : FnE := ⟨141, [(8, none)], xc93⟩
theorem ok93 : FnOk Tryd.prog 93 fe93 := fnOk_of Tryd.func93 (by kernel_rfl : chkF Tryd.prog hs93 Tryd.f93 = some fe93)
/- 94 slices.partitionEqualCmpFunc[crimp/patterns.Crease] -/
def hs94 : Hints := [(0, ([], [10])), (1, ([0, 1, 2, 3, 4, 5, 6, 7, 8, 9, 10, 11, 12, 13, 14, 15], [3, 13, 14, 15, 16, 17, 18, 19, 20, 21, 22, 23, 24, 25, 26])), (2, ([], [2, 27, 28, 29, 30])), (3, ([0, 1, 2, 3, 4, 5, 6, 7, 8, 9, 10, 11, 12, 13, 14, 15, 16], [31, 32, 33, 34])), (4, ([], [47, 48, 49])), (5, ([0, 1, 2, 3, 4, 5, 6, 7, 8, 9, 10, 11, 12, 13, 14, 15], [50, 51, 52, 53])), (6, ([], [65, 66, 67])), (7, ([], [68, 69])), (8, ([0, 1, 2, 3, 4, 5, 6, 7, 8, 9, 10, 11, 12, 13, 14, 15], [70, 71, 72, 73, 74, 75, 76, 77, 78, 79, 80, 81, 82, 83, 84])), (9, ([], [85, 86])), (10, ([], [87, 88])), (11, ([], [0, 1, 4, 11, 12, 89]))]
def xc94 : XC :=
 (.seq
 (.reg 64 [
 o 10 (.mv (ki 0))] [10])
 (.seq
 (.draw 128 [
 o 13 (.mv (.t 0)),
 o 14 (.mv (.t 1)),
 o 15 (.mv (.t 0)),
 o 16 (.mv (.t 3)),
 o 17 (.mv (.t 0)),
 o 18 (.mv (.t 3)),
 o 19 (.idxA none 3 (.t 17) (.t 18)),
 o 20 (.load (some 3) (.t 19)),
 o 21 (.mv (.t 0)),
 o 22 (.mv (.t 1)),
 o 23 (.idxA none 3 (.t 21) (.t 22)),
 o 24 (.load (some 3) (.t 23)),
 o 25 (.idxA none 3 (.t 13) (.t 14)),
 ⟨none, .store 3 (.t 25) (.t 20), none⟩,
 o 26 (.idxA none 3 (.t 15) (.t 16)),
 ⟨none, .store 3 (.t 26) (.t 24), none⟩]
 [[], [], [], [], [], [], [4, 5], [6], [], [], [8, 9], [10], [0, 1, 0, 1, 4, 5, 6, 7, 11], [12, 7, 0, 1, 4, 5, 6, 7, 11], [2, 3, 0, 1, 2, 3, 4, 5, 6, 7, 8, 9, 10, 11, 12, 13], [14, 11, 13, 0, 1, 2, 3, 4, 5, 6, 7, 8, 9, 10, 11, 12, 13]]
 [0, 1, 2, 3, 4, 5, 6, 7, 8, 9, 10, 11, 12, 13, 14, 15] [3, 13, 14, 15, 16, 17, 18, 19, 20, 21, 22, 23, 24, 25, 26])
 (.seq
 (.reg 192 [
 o 27 (.mv (.t 1)),
 o 28 (.bin .add (.t 27) (ki 1)),
 o 29 (.mv (.t 2)),
 o 30 (.bin .sub (.t 29) (ki 1)),
 o 11 (.mv (.t 28)),
 o 12 (.mv (.t 30))] [2, 27, 28, 29, 30])
 (.seq
 (.block 0
 (.loop
 (.block 1
 (.seq
 (.block 2
 (.loop
 (.seq
 (.seq
 (.draw 256 [
 o 31 (.mv (.t 11)),
 o 32 (.mv (.t 12)),
 o 33 (.bin .leq (.t 31) (.t 32)),
 o 34 (.mv (.t 33)),
 oi 35 34 true (.mv (.t 4)),
 oi 36 34 true (.mv (.t 0)),
 oi 37 34 true (.mv (.t 1)),
 oi 38 34 true (.idxA none 3 (.t 36) (.t 37)),
 oi 39 34 true (.load (some 3) (.t 38)),
 oi 40 34 true (.mv (.t 0)),
 oi 41 34 true (.mv (.t 11)),
 oi 42 34 true (.idxA none 3 (.t 40) (.t 41)),
 oi 43 34 true (.load (some 3) (.t 42)),
 oi 44 34 true (.callv (.t 35) [(.t 39), (.t 43)]),
 oi 45 34 true (.bin .lss (.t 44) (ki 0)),
 oi 46 34 true (.un .not (.t 45)),
 o 47 (.pick (.t 34) (.t 46) (.c (.bool false)))]
 [[], [], [0, 1], [2], [3], [3], [3], [5, 6, 3], [7, 3], [3], [3], [9, 10, 3], [11, 3], [4, 8, 12, 3, 3], [13, 3], [14, 3], [3, 15]]
 [0, 1, 2, 3, 4, 5, 6, 7, 8, 9, 10, 11, 12, 13, 14, 15, 16] [31, 32, 33, 34])
 (.cond (.t 47)
 .skip
 (.exit 2)))
 (.block 3
 (.reg 320 [
 o 48 (.mv (.t 11)),
 o 49 (.bin .add (.t 48) (ki 1)),
 o 11 (.mv (.t 49))] [47, 48, 49])))))
 (.seq
 (.block 4
 (.loop
 (.seq
 (.seq
 (.draw 384 [
 o 50 (.mv (.t 11)),
 o 51 (.mv (.t 12)),
 o 52 (.bin .leq (.t 50) (.t 51)),
 o 53 (.mv (.t 52)),
 oi 54 53 true (.mv (.t 4)),
 oi 55 53 true (.mv (.t 0)),
 oi 56 53 true (.mv (.t 1)),
 oi 57 53 true (.idxA none 3 (.t 55) (.t 56)),
 oi 58 53 true (.load (some 3) (.t 57)),
 oi 59 53 true (.mv (.t 0)),
 oi 60 53 true (.mv (.t 12)),
 oi 61 53 true (.idxA none 3 (.t 59) (.t 60)),
 oi 62 53 true (.load (some 3) (.t 61)),
 oi 63 53 true (.callv (.t 54) [(.t 58), (.t 62)]),
 oi 64 53 true (.bin .lss (.t 63) (ki 0)),
 o 65 (.pick (.t 53) (.t 64) (.c (.bool false)))]
 [[], [], [0, 1], [2], [3], [3], [3], [5, 6, 3], [7, 3], [3], [3], [9, 10, 3], [11, 3], [4, 8, 12, 3, 3], [13, 3], [3, 14]]
 [0, 1, 2, 3, 4, 5, 6, 7, 8, 9, 10, 11, 12, 13, 14, 15] [50, 51, 52, 53])
 (.cond (.t 65)
 .skip
 (.exit 4)))
 (.block 5
 (.reg 448 [
 o 66 (.mv (.t 12)),
 o 67 (.bin .sub (.t 66) (ki 1)),
 o 12 (.mv (.t 67))] [65, 66, 67])))))
 (.seq
 (.seq
 (.reg 512 [
 o 68 (.mv (.t 11)),
 o 69 (.mv (.t 12)),
 o 70 (.bin .gtr (.t 68) (.t 69))] [68, 69])
 (.cond (.t 70)
 (.exit 0)
 .skip))
 (.seq
 (.draw 576 [
 o 71 (.mv (.t 0)),
 o 72 (.mv (.t 11)),
 o 73 (.mv (.t 0)),
 o 74 (.mv (.t 12)),
 o 75 (.mv (.t 0)),
 o 76 (.mv (.t 12)),
 o 77 (.idxA none 3 (.t 75) (.t 76)),
 o 78 (.load (some 3) (.t 77)),
 o 79 (.mv (.t 0)),
 o 80 (.mv (.t 11)),
 o 81 (.idxA none 3 (.t 79) (.t 80)),
 o 82 (.load (some 3) (.t 81)),
 o 83 (.idxA none 3 (.t 71) (.t 72)),
 ⟨none, .store 3 (.t 83) (.t 78), none⟩,
 o 84 (.idxA none 3 (.t 73) (.t 74)),
 ⟨none, .store 3 (.t 84) (.t 82), none⟩]
 [[], [], [], [], [], [], [4, 5], [6], [], [], [8, 9], [10], [0, 1, 0, 1, 4, 5, 6, 7, 11], [12, 7, 0, 1, 4, 5, 6, 7, 11], [2, 3, 0, 1, 2, 3, 4, 5, 6, 7, 8, 9, 10, 11, 12, 13], [14, 11, 13, 0, 1, 2, 3, 4, 5, 6, 7, 8, 9, 10, 11, 12, 13]]
 [0, 1, 2, 3, 4, 5, 6, 7, 8, 9, 10, 11, 12, 13, 14, 15] [70, 71, 72, 73, 74, 75, 76, 77, 78, 79, 80, 81, 82, 83, 84])
 (.seq
 (.reg 640 [
 o 85 (.mv (.t 11)),
 o 86 (.bin .add (.t 85) (ki 1)),
 o 11 (.mv (.t 86))] [85, 86])
 (.reg 704 [
 o 87 (.mv (.t 12)),
 o 88 (.bin .sub (.t 87) (ki 1)),
 o 12 (.mv (.t 88))] [87, 88])))))))))
 (.seq
 (.reg 768 [
 o 89 (.mv (.t 11)),
 o 10 (.mv (.t 89))] [0, 1, 4, 11, 12, 89])
 .ret)))))
def fe94 : FnE := ⟨90, [(10, none)], xc94⟩
theorem ok94 : FnOk Tryd.prog 94 fe94 := fnOk_of Tryd.func94 (by kernel_rfl : chkF Tryd.prog hs94 Tryd.f94 = some fe94)
/- 95 slices.partitionCmpFunc[crimp/patterns.Crease] -/
def hs95 : Hints := [(0, ([], [10, 11])), (1, ([0, 1, 2, 3, 4, 5, 6, 7, 8, 9, 10, 11, 12, 13, 14, 15], [3, 14, 15, 16, 17, 18, 19, 20, 21, 22, 23, 24, 25, 26, 27])), (2, ([], [2, 28, 29, 30, 31])), (3, ([0, 1, 2, 3, 4, 5, 6, 7, 8, 9, 10, 11, 12, 13, 14, 15], [32, 33, 34, 35])), (4, ([], [47, 48, 49])), (5, ([0, 1, 2, 3, 4, 5, 6, 7, 8, 9, 10, 11, 12, 13, 14, 15, 16], [50, 51, 52, 53])), (6, ([], [66, 67, 68])), (7, ([], [65, 64, 63, 54, 58, 62, 61, 59, 60, 57, 55, 56, 69, 70])), (8, ([0, 1, 2, 3, 4, 5, 6, 7, 8, 9, 10, 11, 12, 13, 14, 15], [0, 1, 4, 12, 138, 137, 136, 127, 131, 135, 134, 132, 133, 130, 128, 129, 119, 118, 109, 113, 117, 116, 114, 115, 112, 110, 111, 71, 72, 73, 74, 75, 76, 77, 78, 79, 80, 81, 82, 83, 84, 85])), (9, ([], [13, 86])), (10, ([0, 1, 2, 3, 4, 5, 6, 7, 8, 9, 10, 11, 12, 13, 14, 15], [10, 11, 71, 87, 88, 89, 90, 91, 92, 93, 94, 95, 96, 97, 98, 99, 100])), (11, ([], [101, 102])), (12, ([], [103, 104])), (13, ([0, 1, 2, 3, 4, 5, 6, 7, 8, 9, 10, 11, 12, 13, 14, 15], [105, 106, 107, 108])), (14, ([], [120, 121, 122])), (15, ([0, 1, 2, 3, 4, 5, 6, 7, 8, 9, 10, 11, 12, 13, 14, 15, 16], [123, 124, 125, 126])), (16, ([], [139, 140, 141])), (17, ([], [142, 143])), (18, ([0, 1, 2, 3, 4, 5, 6, 7, 8, 9, 10, 11, 12, 13, 14, 15], [144, 145, 146, 147, 148, 149, 150, 151, 152, 153, 154, 155, 156, 157, 158])), (19, ([], [159, 160])), (20, ([], [161, 162])), (21, ([0, 1, 2, 3, 4, 5, 6, 7, 8, 9, 10, 11, 12, 13, 14, 15], [0, 1, 4, 12, 138, 137, 136, 127, 131, 135, 134, 132, 133, 130, 128, 129, 119, 118, 109, 113, 117, 116, 114, 115, 112, 110, 111, 163, 164, 165, 166, 167, 168, 169, 170, 171, 172, 173, 174, 175, 176])), (22, ([], [13, 177]))]
def xc95 : XC :=
 (.seq
 (.reg 64 [
 o 10 (.mv (ki 0)),
 o 11 (.mv (.c (.bool false)))] [10, 11])
 (.seq
 (.draw 128 [
 o 14 (.mv (.t 0)),
 o 15 (.mv (.t 1)),
 o 16 (.mv (.t 0)),
 o 17 (.mv (.t 3)),
 o 18 (.mv (.t 0)),
 o 19 (.mv (.t 3)),
 o 20 (.idxA none 3 (.t 18) (.t 19)),
 o 21 (.load (some 3) (.t 20)),
 o 22 (.mv (.t 0)),
 o 23 (.mv (.t 1)),
 o 24 (.idxA none 3 (.t 22) (.t 23)),
 o 25 (.load (some 3) (.t 24)),
 o 26 (.idxA none 3 (.t 14) (.t 15)),
 ⟨none, .store 3 (.t 26) (.t 21), none⟩,
 o 27 (.idxA none 3 (.t 16) (.t 17)),
 ⟨none, .store 3 (.t 27) (.t 25), none⟩]
 [[], [], [], [], [], [], [4, 5], [6], [], [], [8, 9], [10], [0, 1, 0, 1, 4, 5, 6, 7, 11], [12, 7, 0, 1, 4, 5, 6, 7, 11], [2, 3, 0, 1, 2, 3, 4, 5, 6, 7, 8, 9, 10, 11, 12, 13], [14, 11, 13, 0, 1, 2, 3, 4, 5, 6, 7, 8, 9, 10, 11, 12, 13]]
 [0, 1, 2, 3, 4, 5, 6, 7, 8, 9, 10, 11, 12, 13, 14, 15] [3, 14, 15, 16, 17, 18, 19, 20, 21, 22, 23, 24, 25, 26, 27])
 (.seq
 (.reg 192 [
 o 28 (.mv (.t 1)),
 o 29 (.bin .add (.t 28) (ki 1)),
 o 30 (.mv (.t 2)),
 o 31 (.bin .sub (.t 30) (ki 1)),
 o 12 (.mv (.t 29)),
 o 13 (.mv (.t 31))] [2, 28, 29, 30, 31])
 (.seq
 (.block 0
 (.loop
 (.seq
 (.seq
 (.draw 256 [
 o 32 (.mv (.t 12)),
 o 33 (.mv (.t 13)),
 o 34 (.bin .leq (.t 32) (.t 33)),
 o 35 (.mv (.t 34)),
 oi 36 35 true (.mv (.t 4)),
 oi 37 35 true (.mv (.t 0)),
 oi 38 35 true (.mv (.t 12)),
 oi 39 35 true (.idxA none 3 (.t 37) (.t 38)),
 oi 40 35 true (.load (some 3) (.t 39)),
 oi 41 35 true (.mv (.t 0)),
 oi 42 35 true (.mv (.t 1)),
 oi 43 35 true (.idxA none 3 (.t 41) (.t 42)),
 oi 44 35 true (.load (some 3) (.t 43)),
 oi 45 35 true (.callv (.t 36) [(.t 40), (.t 44)]),
 oi 46 35 true (.bin .lss (.t 45) (ki 0)),
 o 47 (.pick (.t 35) (.t 46) (.c (.bool false)))]
 [[], [], [0, 1], [2], [3], [3], [3], [5, 6, 3], [7, 3], [3], [3], [9, 10, 3], [11, 3], [4, 8, 12, 3, 3], [13, 3], [3, 14]]
 [0, 1, 2, 3, 4, 5, 6, 7, 8, 9, 10, 11, 12, 13, 14, 15] [32, 33, 34, 35])
 (.cond (.t 47)
 .skip
 (.exit 0)))
 (.block 1
 (.reg 320 [
 o 48 (.mv (.t 12)),
 o 49 (.bin .add (.t 48) (ki 1)),
 o 12 (.mv (.t 49))] [47, 48, 49])))))
 (.seq
 (.block 2
 (.loop
 (.seq
 (.seq
 (.draw 384 [
 o 50 (.mv (.t 12)),
 o 51 (.mv (.t 13)),
 o 52 (.bin .leq (.t 50) (.t 51)),
 o 53 (.mv (.t 52)),
 oi 54 53 true (.mv (.t 4)),
 oi 55 53 true (.mv (.t 0)),
 oi 56 53 true (.mv (.t 13)),
 oi 57 53 true (.idxA none 3 (.t 55) (.t 56)),
 oi 58 53 true (.load (some 3) (.t 57)),
 oi 59 53 true (.mv (.t 0)),
 oi 60 53 true (.mv (.t 1)),
 oi 61 53 true (.idxA none 3 (.t 59) (.t 60)),
 oi 62 53 true (.load (some 3) (.t 61)),
 oi 63 53 true (.callv (.t 54) [(.t 58), (.t 62)]),
 oi 64 53 true (.bin .lss (.t 63) (ki 0)),
 oi 65 53 true (.un .not (.t 64)),
 o 66 (.pick (.t 53) (.t 65) (.c (.bool false)))]
 [[], [], [0, 1], [2], [3], [3], [3], [5, 6, 3], [7, 3], [3], [3], [9, 10, 3], [11, 3], [4, 8, 12, 3, 3], [13, 3], [14, 3], [3, 15]]
 [0, 1, 2, 3, 4, 5, 6, 7, 8, 9, 10, 11, 12, 13, 14, 15, 16] [50, 51, 52, 53])
 (.cond (.t 66)
 .skip
 (.exit 2)))
 (.block 3
 (.reg 448 [
 o 67 (.mv (.t 13)),
 o 68 (.bin .sub (.t 67) (ki 1)),
 o 13 (.mv (.t 68))] [66, 67, 68])))))
 (.seq
 (.seq
 (.reg 512 [
 o 69 (.mv (.t 12)),
 o 70 (.mv (.t 13)),
 o 71 (.bin .gtr (.t 69) (.t 70))] [65, 64, 63, 54, 58, 62, 61, 59, 60, 57, 55, 56, 69, 70])
 (.cond (.t 71)
 (.seq
 (.draw 576 [
 o 72 (.mv (.t 0)),
 o 73 (.mv (.t 13)),
 o 74 (.mv (.t 0)),
 o 75 (.mv (.t 1)),
 o 76 (.mv (.t 0)),
 o 77 (.mv (.t 1)),
 o 78 (.idxA none 3 (.t 76) (.t 77)),
 o 79 (.load (some 3) (.t 78)),
 o 80 (.mv (.t 0)),
 o 81 (.mv (.t 13)),
 o 82 (.idxA none 3 (.t 80) (.t 81)),
 o 83 (.load (some 3) (.t 82)),
 o 84 (.idxA none 3 (.t 72) (.t 73)),
 ⟨none, .store 3 (.t 84) (.t 79), none⟩,
 o 85 (.idxA none 3 (.t 74) (.t 75)),
 ⟨none, .store 3 (.t 85) (.t 83), none⟩]
 [[], [], [], [], [], [], [4, 5], [6], [], [], [8, 9], [10], [0, 1, 0, 1, 4, 5, 6, 7, 11], [12, 7, 0, 1, 4, 5, 6, 7, 11], [2, 3, 0, 1, 2, 3, 4, 5, 6, 7, 8, 9, 10, 11, 12, 13], [14, 11, 13, 0, 1, 2, 3, 4, 5, 6, 7, 8, 9, 10, 11, 12, 13]]
 [0, 1, 2, 3, 4, 5, 6, 7, 8, 9, 10, 11, 12, 13, 14, 15] [0, 1, 4, 12, 138, 137, 136, 127, 131, 135, 134, 132, 133, 130, 128, 129, 119, 118, 109, 113, 117, 116, 114, 115, 112, 110, 111, 71, 72, 73, 74, 75, 76, 77, 78, 79, 80, 81, 82, 83, 84, 85])
 (.seq
 (.reg 640 [
 o 86 (.mv (.t 13)),
 o 10 (.mv (.t 86)),
 o 11 (.mv (.c (.bool true)))] [13, 86])
 .ret))
 .skip))
 (.seq
 (.draw 704 [
 o 87 (.mv (.t 0)),
 o 88 (.mv (.t 12)),
 o 89 (.mv (.t 0)),
 o 90 (.mv (.t 13)),
 o 91 (.mv (.t 0)),
 o 92 (.mv (.t 13)),
 o 93 (.idxA none 3 (.t 91) (.t 92)),
 o 94 (.load (some 3) (.t 93)),
 o 95 (.mv (.t 0)),
 o 96 (.mv (.t 12)),
 o 97 (.idxA none 3 (.t 95) (.t 96)),
 o 98 (.load (some 3) (.t 97)),
 o 99 (.idxA none 3 (.t 87) (.t 88)),
 ⟨none, .store 3 (.t 99) (.t 94), none⟩,
 o 100 (.idxA none 3 (.t 89) (.t 90)),
 ⟨none, .store 3 (.t 100) (.t 98), none⟩]
 [[], [], [], [], [], [], [4, 5], [6], [], [], [8, 9], [10], [0, 1, 0, 1, 4, 5, 6, 7, 11], [12, 7, 0, 1, 4, 5, 6, 7, 11], [2, 3, 0, 1, 2, 3, 4, 5, 6, 7, 8, 9, 10, 11, 12, 13], [14, 11, 13, 0, 1, 2, 3, 4, 5, 6, 7, 8, 9, 10, 11, 12, 13]]
 [0, 1, 2, 3, 4, 5, 6, 7, 8, 9, 10, 11, 12, 13, 14, 15] [10, 11, 71, 87, 88, 89, 90, 91, 92, 93, 94, 95, 96, 97, 98, 99, 100])
 (.seq
 (.reg 768 [
 o 101 (.mv (.t 12)),
 o 102 (.bin .add (.t 101) (ki 1)),
 o 12 (.mv (.t 102))] [101, 102])
 (.seq
 (.reg 832 [
 o 103 (.mv (.t 13)),
 o 104 (.bin .sub (.t 103) (ki 1)),
 o 13 (.mv (.t 104))] [103, 104])
 (.seq
 (.block 4
 (.loop
 (.block 5
 (.seq
 (.block 6
 (.loop
 (.seq
 (.seq
 (.draw 896 [
 o 105 (.mv (.t 12)),
 o 106 (.mv (.t 13)),
 o 107 (.bin .leq (.t 105) (.t 106)),
 o 108 (.mv (.t 107)),
 oi 109 108 true (.mv (.t 4)),
 oi 110 108 true (.mv (.t 0)),
 oi 111 108 true (.mv (.t 12)),
 oi 112 108 true (.idxA none 3 (.t 110) (.t 111)),
 oi 113 108 true (.load (some 3) (.t 112)),
 oi 114 108 true (.mv (.t 0)),
 oi 115 108 true (.mv (.t 1)),
 oi 116 108 true (.idxA none 3 (.t 114) (.t 115)),
 oi 117 108 true (.load (some 3) (.t 116)),
 oi 118 108 true (.callv (.t 109) [(.t 113), (.t 117)]),
 oi 119 108 true (.bin .lss (.t 118) (ki 0)),
 o 120 (.pick (.t 108) (.t 119) (.c (.bool false)))]
 [[], [], [0, 1], [2], [3], [3], [3], [5, 6, 3], [7, 3], [3], [3], [9, 10, 3], [11, 3], [4, 8, 12, 3, 3], [13, 3], [3, 14]]
 [0, 1, 2, 3, 4, 5, 6, 7, 8, 9, 10, 11, 12, 13, 14, 15] [105, 106, 107, 108])
 (.cond (.t 120)
 .skip
 (.exit 6)))
 (.block 7
 (.reg 960 [
 o 121 (.mv (.t 12)),
 o 122 (.bin .add (.t 121) (ki 1)),
 o 12 (.mv (.t 122))] [120, 121, 122])))))
 (.seq
 (.block 8
 (.loop
 (.seq
 (.seq
 (.draw 1024 [
 o 123 (.mv (.t 12)),
 o 124 (.mv (.t 13)),
 o 125 (.bin .leq (.t 123) (.t 124)),
 o 126 (.mv (.t 125)),
 oi 127 126 true (.mv (.t 4)),
 oi 128 126 true (.mv (.t 0)),
 oi 129 126 true (.mv (.t 13)),
 oi 130 126 true (.idxA none 3 (.t 128) (.t 129)),
 oi 131 126 true (.load (some 3) (.t 130)),
 oi 132 126 true (.mv (.t 0)),
 oi 133 126 true (.mv (.t 1)),
 oi 134 126 true (.idxA none 3 (.t 132) (.t 133)),
 oi 135 126 true (.load (some 3) (.t 134)),
 oi 136 126 true (.callv (.t 127) [(.t 131), (.t 135)]),
 oi 137 126 true (.bin .lss (.t 136) (ki 0)),
 oi 138 126 true (.un .not (.t 137)),
 o 139 (.pick (.t 126) (.t 138) (.c (.bool false)))]
 [[], [], [0, 1], [2], [3], [3], [3], [5, 6, 3], [7, 3], [3], [3], [9, 10, 3], [11, 3], [4, 8, 12, 3, 3], [13, 3], [14, 3], [3, 15]]
 [0, 1, 2, 3, 4, 5, 6, 7, 8, 9, 10, 11, 12, 13, 14, 15, 16] [123, 124, 125, 126])
 (.cond (.t 139)
 .skip
 (.exit 8)))
 (.block 9
 (.reg 1088 [
 o 140 (.mv (.t 13)),
 o 141 (.bin .sub (.t 140) (ki 1)),
 o 13 (.mv (.t 141))] [139, 140, 141])))))
 (.seq
 (.seq
 (.reg 1152 [
 o 142 (.mv (.t 12)),
 o 143 (.mv (.t 13)),
 o 144 (.bin .gtr (.t 142) (.t 143))] [142, 143])
 (.cond (.t 144)
 (.exit 4)
 .skip))
 (.seq
 (.draw 1216 [
 o 145 (.mv (.t 0)),
 o 146 (.mv (.t 12)),
 o 147 (.mv (.t 0)),
 o 148 (.mv (.t 13)),
 o 149 (.mv (.t 0)),
 o 150 (.mv (.t 13)),
 o 151 (.idxA none 3 (.t 149) (.t 150)),
 o 152 (.load (some 3) (.t 151)),
 o 153 (.mv (.t 0)),
 o 154 (.mv (.t 12)),
 o 155 (.idxA none 3 (.t 153) (.t 154)),
 o 156 (.load (some 3) (.t 155)),
 o 157 (.idxA none 3 (.t 145) (.t 146)),
 ⟨none, .store 3 (.t 157) (.t 152), none⟩,
 o 158 (.idxA none 3 (.t 147) (.t 148)),
 ⟨none, .store 3 (.t 158) (.t 156), none⟩]
 [[], [], [], [], [], [], [4, 5], [6], [], [], [8, 9], [10], [0, 1, 0, 1, 4, 5, 6, 7, 11], [12, 7, 0, 1, 4, 5, 6, 7, 11], [2, 3, 0, 1, 2, 3, 4, 5, 6, 7, 8, 9, 10, 11, 12, 13], [14, 11, 13, 0, 1, 2, 3, 4, 5, 6, 7, 8, 9, 10, 11, 12, 13]]
 [0, 1, 2, 3, 4, 5, 6, 7, 8, 9, 10, 11, 12, 13, 14, 15] [144, 145, 146, 147, 148, 149, 150, 151, 152, 153, 154, 155, 156, 157, 158])
 (.seq
 (.reg 1280 [
 o 159 (.mv (.t 12)),
 o 160 (.bin .add (.t 159) (ki 1)),
 o 12 (.mv (.t 160))] [159, 160])
 (.reg 1344 [
 o 161 (.mv (.t 13)),
 o 162 (.bin .sub (.t 161) (ki 1)),
 o 13 (.mv (.t 162))] [161, 162])))))))))
 (.seq
 (.draw 1408 [
 o 163 (.mv (.t 0)),
 o 164 (.mv (.t 13)),
 o 165 (.mv (.t 0)),
 o 166 (.mv (.t 1)),
 o 167 (.mv (.t 0)),
 o 168 (.mv (.t 1)),
 o 169 (.idxA none 3 (.t 167) (.t 168)),
 o 170 (.load (some 3) (.t 169)),
 o 171 (.mv (.t 0)),
 o 172 (.mv (.t 13)),
 o 173 (.idxA none 3 (.t 171) (.t 172)),
 o 174 (.load (some 3) (.t 173)),
 o 175 (.idxA none 3 (.t 163) (.t 164)),
 ⟨none, .store 3 (.t 175) (.t 170), none⟩,
 o 176 (.idxA none 3 (.t 165) (.t 166)),
 ⟨none, .store 3 (.t 176) (.t 174), none⟩]
 [[], [], [], [], [], [], [4, 5], [6], [], [], [8, 9], [10], [0, 1, 0, 1, 4, 5, 6, 7, 11], [12, 7, 0, 1, 4, 5, 6, 7, 11], [2, 3, 0, 1, 2, 3, 4, 5, 6, 7, 8, 9, 10, 11, 12, 13], [14, 11, 13, 0, 1, 2, 3, 4, 5, 6, 7, 8, 9, 10, 11, 12, 13]]
 [0, 1, 2, 3, 4, 5, 6, 7, 8, 9, 10, 11, 12, 13, 14, 15] [0, 1, 4, 12, 138, 137, 136, 127, 131, 135, 134, 132, 133, 130, 128, 129, 119, 118, 109, 113, 117, 116, 114, 115, 112, 110, 111, 163, 164, 165, 166, 167, 168, 169, 170, 171, 172, 173, 174, 175, 176])
 (.seq
 (.reg 1472 [
 o 177 (.mv (.t 13)),
 o 10 (.mv (.t 177)),
 o 11 (.mv (.c (.bool false)))] [13, 177])
 .ret))))))))))))
def fe95 : FnE := ⟨178, [(10, none), (11, none)], xc95⟩
theorem ok95 : FnOk Tryd.prog 95 fe95 := fnOk_of Tryd.func95 (by kernel_rfl : chkF Tryd.prog hs95 Tryd.f95 = some fe95)
/- 96 math/bits.Len32 -/
def hs96 : Hints := [(1, ([], [3])), (2, ([], [2, 4, 5, 6])), (4, ([], [4, 7])), (5, ([], [8, 9, 10])), (6, ([], [11, 12])), (7, ([], [0, 8, 13, 14, 15, 16, 17, 18]))]
def xc96 : XC :=
 (.seq
 (.reg 64 [
 o 2 (.mv (ki 0))] [])
 (.seq
 (.seq
 (.reg 128 [
 o 3 (.mv (.t 0)),
 o 4 (.bin .geq (.t 3) (.c (.int .u32 65536)))] [3])
 (.cond (.t 4)
 (.seq
 (.reg 192 [
 o 5 (.mv (.t 0)),
 o 6 (.bin .shr (.t 5) (.c (.int .u64 16))),
 o 0 (.mv (.t 6))] [2, 4, 5, 6])
 (.reg 256 [
 o 2 (.mv (ki 16))] []))
 .skip))
 (.seq
 (.seq
 (.reg 320 [
 o 7 (.mv (.t 0)),
 o 8 (.bin .geq (.t 7) (.c (.int .u32 256)))] [4, 7])
 (.cond (.t 8)
 (.seq
 (.reg 384 [
 o 9 (.mv (.t 0)),
 o 10 (.bin .shr (.t 9) (.c (.int .u64 8))),
 o 0 (.mv (.t 10))] [8, 9, 10])
 (.reg 448 [
 o 11 (.mv (.t 2)),
 o 12 (.bin .add (.t 11) (ki 8)),
 o 2 (.mv (.t 12))] [11, 12]))
 .skip))
 (.seq
 (.reg 512 [
 o 13 (.mv (.t 2)),
 o 14 (.mv (.t 0)),
 o 15 (.conv .u8 (.t 14)),
 o 16 (.idxs (.c (.str [0, 1, 2, 2, 3, 3, 3, 3, 4, 4, 4, 4, 4, 4, 4, 4, 5, 5, 5, 5, 5, 5, 5, 5, 5, 5, 5, 5, 5, 5, 5, 5, 6, 6, 6, 6, 6, 6, 6, 6, 6, 6, 6, 6, 6, 6, 6, 6, 6, 6, 6, 6, 6, 6, 6, 6, 6, 6, 6, 6, 6, 6, 6, 6, 7, 7, 7, 7, 7, 7, 7, 7, 7, 7, 7, 7, 7, 7, 7, 7, 7, 7, 7, 7, 7, 7, 7, 7, 7, 7, 7, 7, 7, 7, 7, 7, 7, 7, 7, 7, 7, 7, 7, 7, 7, 7, 7, 7, 7, 7, 7, 7, 7, 7, 7, 7, 7, 7, 7, 7, 7, 7, 7, 7, 7, 7, 7, 7, 8, 8, 8, 8, 8, 8, 8, 8, 8, 8, 8, 8, 8, 8, 8, 8, 8, 8, 8, 8, 8, 8, 8, 8, 8, 8, 8, 8, 8, 8, 8, 8, 8, 8, 8, 8, 8, 8, 8, 8, 8, 8, 8, 8, 8, 8, 8, 8, 8, 8, 8, 8, 8, 8, 8, 8, 8, 8, 8, 8, 8, 8, 8, 8, 8, 8, 8, 8, 8, 8, 8, 8, 8, 8, 8, 8, 8, 8, 8, 8, 8, 8, 8, 8, 8, 8, 8, 8, 8, 8, 8, 8, 8, 8, 8, 8, 8, 8, 8, 8, 8, 8, 8, 8, 8, 8, 8, 8, 8, 8, 8, 8, 8, 8, 8, 8, 8, 8, 8, 8, 8, 8, 8, 8, 8, 8, 8, 8])) (.t 15)),
 o 17 (.conv .i64 (.t 16)),
 o 18 (.bin .add (.t 13) (.t 17)),
 o 2 (.mv (.t 18))] [0, 8, 13, 14, 15, 16, 17, 18])
 .ret))))
def fe96 : FnE := ⟨19, [(2, none)], xc96⟩
theorem ok96 : FnOk Tryd.prog 96 fe96 := fnOk_of Tryd.func96 (by kernel_rfl : chkF Tryd.prog hs96 Tryd.f96 = some fe96)
/- 97 math/bits.Len64 -/
def hs97 : Hints := [(1, ([], [3])), (2, ([], [2, 4, 5, 6])), (4, ([], [4, 7])), (5, ([], [8, 9, 10])), (6, ([], [11, 12])), (7, ([], [8, 13])), (8, ([], [14, 15, 16])), (9, ([], [17, 18])), (10, ([], [0, 14, 19, 20, 21, 22, 23, 24]))]
def xc97 : XC :=
 (.seq
 (.reg 64 [
 o 2 (.mv (ki 0))] [])
 (.seq
 (.seq
 (.reg 128 [
 o 3 (.mv (.t 0)),
 o 4 (.bin .geq (.t 3) (.c (.int .u64 4294967296)))] [3])
 (.cond (.t 4)
 (.seq
 (.reg 192 [
 o 5 (.mv (.t 0)),
 o 6 (.bin .shr (.t 5) (.c (.int .u64 32))),
 o 0 (.mv (.t 6))] [2, 4, 5, 6])
 (.reg 256 [
 o 2 (.mv (ki 32))] []))
 .skip))
 (.seq
 (.seq
 (.reg 320 [
 o 7 (.mv (.t 0)),
 o 8 (.bin .geq (.t 7) (.c (.int .u64 65536)))] [4, 7])
 (.cond (.t 8)
 (.seq
 (.reg 384 [
 o 9 (.mv (.t 0)),
 o 10 (.bin .shr (.t 9) (.c (.int .u64 16))),
 o 0 (.mv (.t 10))] [8, 9, 10])
 (.reg 448 [
 o 11 (.mv (.t 2)),
 o 12 (.bin .add (.t 11) (ki 16)),
 o 2 (.mv (.t 12))] [11, 12]))
 .skip))
 (.seq
 (.seq
 (.reg 512 [
 o 13 (.mv (.t 0)),
 o 14 (.bin .geq (.t 13) (.c (.int .u64 256)))] [8, 13])
 (.cond (.t 14)
 (.seq
 (.reg 576 [
 o 15 (.mv (.t 0)),
 o 16 (.bin .shr (.t 15) (.c (.int .u64 8))),
 o 0 (.mv (.t 16))] [14, 15, 16])
 (.reg 640 [
 o 17 (.mv (.t 2)),
 o 18 (.bin .add (.t 17) (ki 8)),
 o 2 (.mv (.t 18))] [17, 18]))
 .skip))
 (.seq
 (.reg 704 [
 o 19 (.mv (.t 2)),
 o 20 (.mv (.t 0)),
 o 21 (.conv .u8 (.t 20)),
 o 22 (.idxs (.c (.str [0, 1, 2, 2, 3, 3, 3, 3, 4, 4, 4, 4, 4, 4, 4, 4, 5, 5, 5, 5, 5, 5, 5, 5, 5, 5, 5, 5, 5, 5, 5, 5, 6, 6, 6, 6, 6, 6, 6, 6, 6, 6, 6, 6, 6, 6, 6, 6, 6, 6, 6, 6, 6, 6, 6, 6, 6, 6, 6, 6, 6, 6, 6, 6, 7, 7, 7, 7, 7, 7, 7, 7, 7, 7, 7, 7, 7, 7, 7, 7, 7, 7, 7, 7, 7, 7, 7, 7, 7, 7, 7, 7, 7, 7, 7, 7, 7, 7, 7, 7, 7, 7, 7, 7, 7, 7, 7, 7, 7, 7, 7, 7, 7, 7, 7, 7, 7, 7, 7, 7, 7, 7, 7, 7, 7, 7, 7, 7, 8, 8, 8, 8, 8, 8, 8, 8, 8, 8, 8, 8, 8, 8, 8, 8, 8, 8, 8, 8, 8, 8, 8, 8, 8, 8, 8, 8, 8, 8, 8, 8, 8, 8, 8, 8, 8, 8, 8, 8, 8, 8, 8, 8, 8, 8, 8, 8, 8, 8, 8, 8, 8, 8, 8, 8, 8, 8, 8, 8, 8, 8, 8, 8, 8, 8, 8, 8, 8, 8, 8, 8, 8, 8, 8, 8, 8, 8, 8, 8, 8, 8, 8, 8, 8, 8, 8, 8, 8, 8, 8, 8, 8, 8, 8, 8, 8, 8, 8, 8, 8, 8, 8, 8, 8, 8, 8, 8, 8, 8, 8, 8, 8, 8, 8, 8, 8, 8, 8, 8, 8, 8, 8, 8, 8, 8, 8, 8])) (.t 21)),
 o 23 (.conv .i64 (.t 22)),
 o 24 (.bin .add (.t 19) (.t 23)),
 o 2 (.mv (.t 24))] [0, 14, 19, 20, 21, 22, 23, 24])
 .ret)))))
def fe97 : FnE := ⟨25, [(2, none)], xc97⟩
theorem ok97 : FnOk Tryd.prog 97 fe97 := fnOk_of Tryd.func97 (by kernel_rfl : chkF Tryd.prog hs97 Tryd.f97 = some fe97)
/- 98 (*strings.Builder).copyCheck -/
def hs98 : Hints := [(0, ([], [2, 3, 4, 5])), (1, ([], [0, 6, 7, 8, 9, 10, 11, 12, 13])), (2, ([], [0, 6, 14, 15, 16, 17, 18]))]
def xc98 : XC :=
 (.seq
 (.reg 64 [
 o 2 (.mv (.t 0)),
 o 3 (.nilck (.t 2)),
 o 4 (.fieldA 0 (.t 3)),
 o 5 (.load none (.t 4)),
 o 6 (.isnil false 2 (.t 5))] [2, 3, 4, 5])
 (.cond (.t 6)
 (.reg 128 [
 o 7 (.mv (.t 0)),
 o 8 (.mv (.t 0)),
 o 9 (.bad),
 o 10 (.call 113 [(.t 9)]),
 o 11 (.bad),
 o 12 (.nilck (.t 7)),
 o 13 (.fieldA 0 (.t 12)),
 ⟨none, .store 1 (.t 13) (.t 11), none⟩] [0, 6, 7, 8, 9, 10, 11, 12, 13])
 (.seq
 (.reg 192 [
 o 14 (.mv (.t 0)),
 o 15 (.nilck (.t 14)),
 o 16 (.fieldA 0 (.t 15)),
 o 17 (.load none (.t 16)),
 o 18 (.mv (.t 0)),
 o 19 (.bad)] [0, 6, 14, 15, 16, 17, 18])
 (.cond (.t 19)
 .bad
 .skip))))
def fe98 : FnE := ⟨20, [], xc98⟩
theorem ok98 : FnOk Tryd.prog 98 fe98 := fnOk_of Tryd.func98 (by kernel_rfl : chkF Tryd.prog hs98 Tryd.f98 = some fe98)
/- 99 (*strings.Builder).grow -/
def hs99 : Hints := [(0, ([0, 1, 2, 3, 4, 5, 6, 7, 8, 9, 10, 11, 12, 13, 14, 15], [1, 5, 6, 7, 8, 9, 10, 11, 12, 13, 14, 15, 16, 17, 18, 19])), (1, ([], [20, 21, 22, 23, 24, 25])), (2, ([], [0, 4, 26, 27, 28, 29]))]
def xc99 : XC :=
 (.seq
 (.draw 64 [
 o 5 (.mv (.t 0)),
 o 6 (.nilck (.t 5)),
 o 7 (.fieldA 1 (.t 6)),
 o 8 (.load none (.t 7)),
 o 9 (.cap (.t 8)),
 o 10 (.bin .mul (ki 2) (.t 9)),
 o 11 (.mv (.t 1)),
 o 12 (.bin .add (.t 10) (.t 11)),
 o 13 (.call 114 [(.t 12)]),
 o 14 (.mv (.t 0)),
 o 15 (.nilck (.t 14)),
 o 16 (.fieldA 1 (.t 15)),
 o 17 (.load none (.t 16)),
 o 18 (.len (.t 17)),
 o 19 (.slice 1 (.t 13) none (some (.t 18)) none),
 o 4 (.mv (.t 19))]
 [[], [0], [1], [2], [3], [4], [], [5, 6], [7], [], [9], [10], [11], [12], [8, 13], [14, 8, 0, 1, 2, 3, 4, 5, 6, 7, 8, 9, 10, 11, 12, 13, 14]]
 [0, 1, 2, 3, 4, 5, 6, 7, 8, 9, 10, 11, 12, 13, 14, 15] [1, 5, 6, 7, 8, 9, 10, 11, 12, 13, 14, 15, 16, 17, 18, 19])
 (.seq
 (.reg 128 [
 o 20 (.mv (.t 4)),
 o 21 (.mv (.t 0)),
 o 22 (.nilck (.t 21)),
 o 23 (.fieldA 1 (.t 22)),
 o 24 (.load none (.t 23)),
 o 25 (.bad)] [20, 21, 22, 23, 24, 25])
 (.reg 192 [
 o 26 (.mv (.t 0)),
 o 27 (.mv (.t 4)),
 o 28 (.nilck (.t 26)),
 o 29 (.fieldA 1 (.t 28)),
 ⟨none, .store 1 (.t 29) (.t 27), none⟩] [0, 4, 26, 27, 28, 29])))
def fe99 : FnE := ⟨30, [], xc99⟩
theorem ok99 : FnOk Tryd.prog 99 fe99 := fnOk_of Tryd.func99 (by kernel_rfl : chkF Tryd.prog hs99 Tryd.f99 = some fe99)
/- 100 internal/strconv.small -/
def hs100 : Hints := [(0, ([], [2])), (1, ([], [3])), (2, ([], [0, 4, 5, 6, 7, 8])), (3, ([], [0, 4, 9, 10, 11, 12, 13, 14]))]
def xc100 : XC :=
 (.seq
 (.reg 64 [
 o 2 (.mv (.c (.str [])))] [2])
 (.seq
 (.seq
 (.reg 128 [
 o 3 (.mv (.t 0)),
 o 4 (.bin .lss (.t 3) (ki 10))] [3])
 (.cond (.t 4)
 (.seq
 (.reg 192 [
 o 5 (.mv (.t 0)),
 o 6 (.mv (.t 0)),
 o 7 (.bin .add (.t 6) (ki 1)),
 o 8 (.slices (.c (.str [48, 49, 50, 51, 52, 53, 54, 55, 56, 57, 97, 98, 99, 100, 101, 102, 103, 104, 105, 106, 107, 108, 109, 110, 111, 112, 113, 114, 115, 116, 117, 118, 119, 120, 121, 122])) (some (.t 5)) (some (.t 7))),
 o 2 (.mv (.t 8))] [0, 4, 5, 6, 7, 8])
 .ret)
 .skip))
 (.seq
 (.reg 256 [
 o 9 (.mv (.t 0)),
 o 10 (.bin .mul (.t 9) (ki 2)),
 o 11 (.mv (.t 0)),
 o 12 (.bin .mul (.t 11) (ki 2)),
 o 13 (.bin .add (.t 12) (ki 2)),
 o 14 (.slices (.c (.str [48, 48, 48, 49, 48, 50, 48, 51, 48, 52, 48, 53, 48, 54, 48, 55, 48, 56, 48, 57, 49, 48, 49, 49, 49, 50, 49, 51, 49, 52, 49, 53, 49, 54, 49, 55, 49, 56, 49, 57, 50, 48, 50, 49, 50, 50, 50, 51, 50, 52, 50, 53, 50, 54, 50, 55, 50, 56, 50, 57, 51, 48, 51, 49, 51, 50, 51, 51, 51, 52, 51, 53, 51, 54, 51, 55, 51, 56, 51, 57, 52, 48, 52, 49, 52, 50, 52, 51, 52, 52, 52, 53, 52, 54, 52, 55, 52, 56, 52, 57, 53, 48, 53, 49, 53, 50, 53, 51, 53, 52, 53, 53, 53, 54, 53, 55, 53, 56, 53, 57, 54, 48, 54, 49, 54, 50, 54, 51, 54, 52, 54, 53, 54, 54, 54, 55, 54, 56, 54, 57, 55, 48, 55, 49, 55, 50, 55, 51, 55, 52, 55, 53, 55, 54, 55, 55, 55, 56, 55, 57, 56, 48, 56, 49, 56, 50, 56, 51, 56, 52, 56, 53, 56, 54, 56, 55, 56, 56, 56, 57, 57, 48, 57, 49, 57, 50, 57, 51, 57, 52, 57, 53, 57, 54, 57, 55, 57, 56, 57, 57])) (some (.t 10)) (some (.t 13))),
 o 2 (.mv (.t 14))] [0, 4, 9, 10, 11, 12, 13, 14])
 .ret)))
def fe100 : FnE := ⟨15, [(2, none)], xc100⟩
theorem ok100 : FnOk Tryd.prog 100 fe100 := fnOk_of Tryd.func100 (by kernel_rfl : chkF Tryd.prog hs100 Tryd.f100 = some fe100)
/- 101 internal/strconv.numDigits -/
def hs101 : Hints := [(0, ([], [2])), (1, ([], [4, 5, 6])), (2, ([], [0, 3, 7, 8, 9, 10, 11, 12, 13, 14]))]
def xc101 : XC :=
 (.seq
 (.reg 64 [
 o 2 (.mv (ki 0))] [2])
 (.seq
 (.reg 128 [
 o 4 (.mv (.t 0)),
 o 5 (.call 97 [(.t 4)]),
 o 6 (.call 115 [(.t 5)]),
 o 3 (.mv (.t 6))] [4, 5, 6])
 (.seq
 (.reg 192 [
 o 7 (.mv (.t 3)),
 o 8 (.mv (.t 0)),
 o 9 (.mv (.t 3)),
 o 10 (.idxA (some 20) 1 (.g 1) (.t 9)),
 o 11 (.load none (.t 10)),
 o 12 (.bin .geq (.t 8) (.t 11)),
 o 13 (.call 116 [(.t 12)]),
 o 14 (.bin .add (.t 7) (.t 13)),
 o 2 (.mv (.t 14))] [0, 3, 7, 8, 9, 10, 11, 12, 13, 14])
 .ret)))
def fe101 : FnE := ⟨15, [(2, none)], xc101⟩
theorem ok101 : FnOk Tryd.prog 101 fe101 := fnOk_of Tryd.func101 (by kernel_rfl : chkF Tryd.prog hs101 Tryd.f101 = some fe101)
/- 102 internal/strconv.formatBase10 -/
def hs102 : Hints := [(0, ([], [17, 18])), (1, ([], [19])), (2, ([], [20, 21, 22, 23])), (3, ([], [24, 25])), (4, ([], [5, 26, 27, 28, 29])), (5, ([], [7, 30, 31, 32, 33, 34, 35])), (6, ([], [6, 36, 37, 38, 39, 40, 41])), (7, ([0, 1, 2, 3, 4, 5, 6, 7, 8, 9, 10, 11, 12, 13, 14], [9, 42, 43, 44, 45, 46, 47, 48, 49, 50, 51, 52, 53, 54])), (8, ([0, 1, 2, 3, 4, 5, 6, 7, 8, 9, 10, 11, 12, 13, 14], [8, 55, 56, 57, 58, 59, 60, 61, 62, 63, 64, 65, 66, 67])), (9, ([0, 1, 2, 3, 4, 5, 6, 7, 8, 9, 10, 11, 12, 13, 14], [11, 68, 69, 70, 71, 72, 73, 74, 75, 76, 77, 78, 79, 80])), (10, ([0, 1, 2, 3, 4, 5, 6, 7, 8, 9, 10, 11, 12, 13, 14], [10, 81, 82, 83, 84, 85, 86, 87, 88, 89, 90, 91, 92, 93])), (11, ([], [94, 95])), (12, ([], [1, 96, 97])), (13, ([], [98])), (14, ([], [99, 100, 101])), (15, ([], [102, 103])), (16, ([], [13, 104, 105, 106, 107, 108, 109])), (17, ([0, 1, 2, 3, 4, 5, 6, 7, 8, 9, 10, 11, 12, 13, 14], [15, 110, 111, 112, 113, 114, 115, 116, 117, 118, 119, 120, 121, 122])), (18, ([0, 1, 2, 3, 4, 5, 6, 7, 8, 9, 10, 11, 12, 13, 14], [14, 123, 124, 125, 126, 127, 128, 129, 130, 131, 132, 133, 134, 135])), (19, ([], [136, 137])), (20, ([], [99, 138])), (21, ([], [139, 140, 141, 142])), (22, ([], [143, 144])), (23, ([0, 1, 2, 3, 4, 5, 6, 7, 8, 9, 10, 11, 12, 13, 14], [16, 145, 146, 147, 148, 149, 150, 151, 152, 153, 154, 155, 156, 157])), (24, ([], [158, 159])), (25, ([], [4, 139, 160])), (26, ([], [0, 12, 161, 162, 163, 164, 165, 166]))]
def xc102 : XC :=
 (.seq
 (.reg 64 [
 o 17 (.mv (.t 0)),
 o 18 (.len (.t 17)),
 o 4 (.mv (.t 18))] [17, 18])
 (.seq
 (.block 0
 (.loop
 (.seq
 (.seq
 (.reg 128 [
 o 19 (.mv (.t 4)),
 o 20 (.bin .geq (.t 19) (ki 8))] [19])
 (.cond (.t 20)
 .skip
 (.exit 0)))
 (.block 1
 (.seq
 (.reg 192 [
 o 21 (.mv (.t 1)),
 o 22 (.bin .rem (.t 21) (.c (.int .u64 100000000))),
 o 23 (.conv .u32 (.t 22)),
 o 5 (.mv (.t 23))] [20, 21, 22, 23])
 (.seq
 (.reg 256 [
 o 24 (.mv (.t 1)),
 o 25 (.bin .quo (.t 24) (.c (.int .u64 100000000))),
 o 1 (.mv (.t 25))] [24, 25])
 (.seq
 (.reg 320 [
 o 26 (.mv (.t 5)),
 o 27 (.bin .quo (.t 26) (.c (.int .u32 10000))),
 o 28 (.mv (.t 5)),
 o 29 (.bin .rem (.t 28) (.c (.int .u32 10000))),
 o 6 (.mv (.t 27)),
 o 7 (.mv (.t 29))] [5, 26, 27, 28, 29])
 (.seq
 (.reg 384 [
 o 30 (.mv (.t 7)),
 o 31 (.bin .quo (.t 30) (.c (.int .u32 100))),
 o 32 (.bin .mul (.t 31) (.c (.int .u32 2))),
 o 33 (.mv (.t 7)),
 o 34 (.bin .rem (.t 33) (.c (.int .u32 100))),
 o 35 (.bin .mul (.t 34) (.c (.int .u32 2))),
 o 8 (.mv (.t 32)),
 o 9 (.mv (.t 35))] [7, 30, 31, 32, 33, 34, 35])
 (.seq
 (.reg 448 [
 o 36 (.mv (.t 6)),
 o 37 (.bin .quo (.t 36) (.c (.int .u32 100))),
 o 38 (.bin .mul (.t 37) (.c (.int .u32 2))),
 o 39 (.mv (.t 6)),
 o 40 (.bin .rem (.t 39) (.c (.int .u32 100))),
 o 41 (.bin .mul (.t 40) (.c (.int .u32 2))),
 o 10 (.mv (.t 38)),
 o 11 (.mv (.t 41))] [6, 36, 37, 38, 39, 40, 41])
 (.seq
 (.draw 512 [
 o 42 (.mv (.t 0)),
 o 43 (.mv (.t 4)),
 o 44 (.bin .sub (.t 43) (ki 1)),
 o 45 (.mv (.t 0)),
 o 46 (.mv (.t 4)),
 o 47 (.bin .sub (.t 46) (ki 2)),
 o 48 (.mv (.t 9)),
 o 49 (.bin .add (.t 48) (.c (.int .u32 1))),
 o 50 (.idxs (.c (.str [48, 48, 48, 49, 48, 50, 48, 51, 48, 52, 48, 53, 48, 54, 48, 55, 48, 56, 48, 57, 49, 48, 49, 49, 49, 50, 49, 51, 49, 52, 49, 53, 49, 54, 49, 55, 49, 56, 49, 57, 50, 48, 50, 49, 50, 50, 50, 51, 50, 52, 50, 53, 50, 54, 50, 55, 50, 56, 50, 57, 51, 48, 51, 49, 51, 50, 51, 51, 51, 52, 51, 53, 51, 54, 51, 55, 51, 56, 51, 57, 52, 48, 52, 49, 52, 50, 52, 51, 52, 52, 52, 53, 52, 54, 52, 55, 52, 56, 52, 57, 53, 48, 53, 49, 53, 50, 53, 51, 53, 52, 53, 53, 53, 54, 53, 55, 53, 56, 53, 57, 54, 48, 54, 49, 54, 50, 54, 51, 54, 52, 54, 53, 54, 54, 54, 55, 54, 56, 54, 57, 55, 48, 55, 49, 55, 50, 55, 51, 55, 52, 55, 53, 55, 54, 55, 55, 55, 56, 55, 57, 56, 48, 56, 49, 56, 50, 56, 51, 56, 52, 56, 53, 56, 54, 56, 55, 56, 56, 56, 57, 57, 48, 57, 49, 57, 50, 57, 51, 57, 52, 57, 53, 57, 54, 57, 55, 57, 56, 57, 57])) (.t 49)),
 o 51 (.mv (.t 9)),
 o 52 (.idxs (.c (.str [48, 48, 48, 49, 48, 50, 48, 51, 48, 52, 48, 53, 48, 54, 48, 55, 48, 56, 48, 57, 49, 48, 49, 49, 49, 50, 49, 51, 49, 52, 49, 53, 49, 54, 49, 55, 49, 56, 49, 57, 50, 48, 50, 49, 50, 50, 50, 51, 50, 52, 50, 53, 50, 54, 50, 55, 50, 56, 50, 57, 51, 48, 51, 49, 51, 50, 51, 51, 51, 52, 51, 53, 51, 54, 51, 55, 51, 56, 51, 57, 52, 48, 52, 49, 52, 50, 52, 51, 52, 52, 52, 53, 52, 54, 52, 55, 52, 56, 52, 57, 53, 48, 53, 49, 53, 50, 53, 51, 53, 52, 53, 53, 53, 54, 53, 55, 53, 56, 53, 57, 54, 48, 54, 49, 54, 50, 54, 51, 54, 52, 54, 53, 54, 54, 54, 55, 54, 56, 54, 57, 55, 48, 55, 49, 55, 50, 55, 51, 55, 52, 55, 53, 55, 54, 55, 55, 55, 56, 55, 57, 56, 48, 56, 49, 56, 50, 56, 51, 56, 52, 56, 53, 56, 54, 56, 55, 56, 56, 56, 57, 57, 48, 57, 49, 57, 50, 57, 51, 57, 52, 57, 53, 57, 54, 57, 55, 57, 56, 57, 57])) (.t 51)),
 o 53 (.idxA none 1 (.t 42) (.t 44)),
 ⟨none, .store 1 (.t 53) (.t 50), none⟩,
 o 54 (.idxA none 1 (.t 45) (.t 47)),
 ⟨none, .store 1 (.t 54) (.t 52), none⟩]
 [[], [], [1], [], [], [4], [], [6], [7], [], [9], [0, 2, 0, 1, 2, 6, 7, 8], [11, 8, 0, 1, 2, 6, 7, 8], [3, 5, 0, 1, 2, 3, 4, 5, 6, 7, 8, 9, 10, 11, 12], [13, 10, 12, 0, 1, 2, 3, 4, 5, 6, 7, 8, 9, 10, 11, 12]]
 [0, 1, 2, 3, 4, 5, 6, 7, 8, 9, 10, 11, 12, 13, 14] [9, 42, 43, 44, 45, 46, 47, 48, 49, 50, 51, 52, 53, 54])
 (.seq
 (.draw 576 [
 o 55 (.mv (.t 0)),
 o 56 (.mv (.t 4)),
 o 57 (.bin .sub (.t 56) (ki 3)),
 o 58 (.mv (.t 0)),
 o 59 (.mv (.t 4)),
 o 60 (.bin .sub (.t 59) (ki 4)),
 o 61 (.mv (.t 8)),
 o 62 (.bin .add (.t 61) (.c (.int .u32 1))),
 o 63 (.idxs (.c (.str [48, 48, 48, 49, 48, 50, 48, 51, 48, 52, 48, 53, 48, 54, 48, 55, 48, 56, 48, 57, 49, 48, 49, 49, 49, 50, 49, 51, 49, 52, 49, 53, 49, 54, 49, 55, 49, 56, 49, 57, 50, 48, 50, 49, 50, 50, 50, 51, 50, 52, 50, 53, 50, 54, 50, 55, 50, 56, 50, 57, 51, 48, 51, 49, 51, 50, 51, 51, 51, 52, 51, 53, 51, 54, 51, 55, 51, 56, 51, 57, 52, 48, 52, 49, 52, 50, 52, 51, 52, 52, 52, 53, 52, 54, 52, 55, 52, 56, 52, 57, 53, 48, 53, 49, 53, 50, 53, 51, 53, 52, 53, 53, 53, 54, 53, 55, 53, 56, 53, 57, 54, 48, 54, 49, 54, 50, 54, 51, 54, 52, 54, 53, 54, 54, 54, 55, 54, 56, 54, 57, 55, 48, 55, 49, 55, 50, 55, 51, 55, 52, 55, 53, 55, 54, 55, 55, 55, 56, 55, 57, 56, 48, 56, 49, 56, 50, 56, 51, 56, 52, 56, 53, 56, 54, 56, 55, 56, 56, 56, 57, 57, 48, 57, 49, 57, 50, 57, 51, 57, 52, 57, 53, 57, 54, 57, 55, 57, 56, 57, 57])) (.t 62)),
 o 64 (.mv (.t 8)),
 o 65 (.idxs (.c (.str [48, 48, 48, 49, 48, 50, 48, 51, 48, 52, 48, 53, 48, 54, 48, 55, 48, 56, 48, 57, 49, 48, 49, 49, 49, 50, 49, 51, 49, 52, 49, 53, 49, 54, 49, 55, 49, 56, 49, 57, 50, 48, 50, 49, 50, 50, 50, 51, 50, 52, 50, 53, 50, 54, 50, 55, 50, 56, 50, 57, 51, 48, 51, 49, 51, 50, 51, 51, 51, 52, 51, 53, 51, 54, 51, 55, 51, 56, 51, 57, 52, 48, 52, 49, 52, 50, 52, 51, 52, 52, 52, 53, 52, 54, 52, 55, 52, 56, 52, 57, 53, 48, 53, 49, 53, 50, 53, 51, 53, 52, 53, 53, 53, 54, 53, 55, 53, 56, 53, 57, 54, 48, 54, 49, 54, 50, 54, 51, 54, 52, 54, 53, 54, 54, 54, 55, 54, 56, 54, 57, 55, 48, 55, 49, 55, 50, 55, 51, 55, 52, 55, 53, 55, 54, 55, 55, 55, 56, 55, 57, 56, 48, 56, 49, 56, 50, 56, 51, 56, 52, 56, 53, 56, 54, 56, 55, 56, 56, 56, 57, 57, 48, 57, 49, 57, 50, 57, 51, 57, 52, 57, 53, 57, 54, 57, 55, 57, 56, 57, 57])) (.t 64)),
 o 66 (.idxA none 1 (.t 55) (.t 57)),
 ⟨none, .store 1 (.t 66) (.t 63), none⟩,
 o 67 (.idxA none 1 (.t 58) (.t 60)),
 ⟨none, .store 1 (.t 67) (.t 65), none⟩]
 [[], [], [1], [], [], [4], [], [6], [7], [], [9], [0, 2, 0, 1, 2, 6, 7, 8], [11, 8, 0, 1, 2, 6, 7, 8], [3, 5, 0, 1, 2, 3, 4, 5, 6, 7, 8, 9, 10, 11, 12], [13, 10, 12, 0, 1, 2, 3, 4, 5, 6, 7, 8, 9, 10, 11, 12]]
 [0, 1, 2, 3, 4, 5, 6, 7, 8, 9, 10, 11, 12, 13, 14] [8, 55, 56, 57, 58, 59, 60, 61, 62, 63, 64, 65, 66, 67])
 (.seq
 (.draw 640 [
 o 68 (.mv (.t 0)),
 o 69 (.mv (.t 4)),
 o 70 (.bin .sub (.t 69) (ki 5)),
 o 71 (.mv (.t 0)),
 o 72 (.mv (.t 4)),
 o 73 (.bin .sub (.t 72) (ki 6)),
 o 74 (.mv (.t 11)),
 o 75 (.bin .add (.t 74) (.c (.int .u32 1))),
 o 76 (.idxs (.c (.str [48, 48, 48, 49, 48, 50, 48, 51, 48, 52, 48, 53, 48, 54, 48, 55, 48, 56, 48, 57, 49, 48, 49, 49, 49, 50, 49, 51, 49, 52, 49, 53, 49, 54, 49, 55, 49, 56, 49, 57, 50, 48, 50, 49, 50, 50, 50, 51, 50, 52, 50, 53, 50, 54, 50, 55, 50, 56, 50, 57, 51, 48, 51, 49, 51, 50, 51, 51, 51, 52, 51, 53, 51, 54, 51, 55, 51, 56, 51, 57, 52, 48, 52, 49, 52, 50, 52, 51, 52, 52, 52, 53, 52, 54, 52, 55, 52, 56, 52, 57, 53, 48, 53, 49, 53, 50, 53, 51, 53, 52, 53, 53, 53, 54, 53, 55, 53, 56, 53, 57, 54, 48, 54, 49, 54, 50, 54, 51, 54, 52, 54, 53, 54, 54, 54, 55, 54, 56, 54, 57, 55, 48, 55, 49, 55, 50, 55, 51, 55, 52, 55, 53, 55, 54, 55, 55, 55, 56, 55, 57, 56, 48, 56, 49, 56, 50, 56, 51, 56, 52, 56, 53, 56, 54, 56, 55, 56, 56, 56, 57, 57, 48, 57, 49, 57, 50, 57, 51, 57, 52, 57, 53, 57, 54, 57, 55, 57, 56, 57, 57])) (.t 75)),
 o 77 (.mv (.t 11)),
 o 78 (.idxs (.c (.str [48, 48, 48, 49, 48, 50, 48, 51, 48, 52, 48, 53, 48, 54, 48, 55, 48, 56, 48, 57, 49, 48, 49, 49, 49, 50, 49, 51, 49, 52, 49, 53, 49, 54, 49, 55, 49, 56, 49, 57, 50, 48, 50, 49, 50, 50, 50, 51, 50, 52, 50, 53, 50, 54, 50, 55, 50, 56, 50, 57, 51, 48, 51, 49, 51, 50, 51, 51, 51, 52, 51, 53, 51, 54, 51, 55, 51, 56, 51, 57, 52, 48, 52, 49, 52, 50, 52, 51, 52, 52, 52, 53, 52, 54, 52, 55, 52, 56, 52, 57, 53, 48, 53, 49, 53, 50, 53, 51, 53, 52, 53, 53, 53, 54, 53, 55, 53, 56, 53, 57, 54, 48, 54, 49, 54, 50, 54, 51, 54, 52, 54, 53, 54, 54, 54, 55, 54, 56, 54, 57, 55, 48, 55, 49, 55, 50, 55, 51, 55, 52, 55, 53, 55, 54, 55, 55, 55, 56, 55, 57, 56, 48, 56, 49, 56, 50, 56, 51, 56, 52, 56, 53, 56, 54, 56, 55, 56, 56, 56, 57, 57, 48, 57, 49, 57, 50, 57, 51, 57, 52, 57, 53, 57, 54, 57, 55, 57, 56, 57, 57])) (.t 77)),
 o 79 (.idxA none 1 (.t 68) (.t 70)),
 ⟨none, .store 1 (.t 79) (.t 76), none⟩,
 o 80 (.idxA none 1 (.t 71) (.t 73)),
 ⟨none, .store 1 (.t 80) (.t 78), none⟩]
 [[], [], [1], [], [], [4], [], [6], [7], [], [9], [0, 2, 0, 1, 2, 6, 7, 8], [11, 8, 0, 1, 2, 6, 7, 8], [3, 5, 0, 1, 2, 3, 4, 5, 6, 7, 8, 9, 10, 11, 12], [13, 10, 12, 0, 1, 2, 3, 4, 5, 6, 7, 8, 9, 10, 11, 12]]
 [0, 1, 2, 3, 4, 5, 6, 7, 8, 9, 10, 11, 12, 13, 14] [11, 68, 69, 70, 71, 72, 73, 74, 75, 76, 77, 78, 79, 80])
 (.seq
 (.draw 704 [
 o 81 (.mv (.t 0)),
 o 82 (.mv (.t 4)),
 o 83 (.bin .sub (.t 82) (ki 7)),
 o 84 (.mv (.t 0)),
 o 85 (.mv (.t 4)),
 o 86 (.bin .sub (.t 85) (ki 8)),
 o 87 (.mv (.t 10)),
 o 88 (.bin .add (.t 87) (.c (.int .u32 1))),
 o 89 (.idxs (.c (.str [48, 48, 48, 49, 48, 50, 48, 51, 48, 52, 48, 53, 48, 54, 48, 55, 48, 56, 48, 57, 49, 48, 49, 49, 49, 50, 49, 51, 49, 52, 49, 53, 49, 54, 49, 55, 49, 56, 49, 57, 50, 48, 50, 49, 50, 50, 50, 51, 50, 52, 50, 53, 50, 54, 50, 55, 50, 56, 50, 57, 51, 48, 51, 49, 51, 50, 51, 51, 51, 52, 51, 53, 51, 54, 51, 55, 51, 56, 51, 57, 52, 48, 52, 49, 52, 50, 52, 51, 52, 52, 52, 53, 52, 54, 52, 55, 52, 56, 52, 57, 53, 48, 53, 49, 53, 50, 53, 51, 53, 52, 53, 53, 53, 54, 53, 55, 53, 56, 53, 57, 54, 48, 54, 49, 54, 50, 54, 51, 54, 52, 54, 53, 54, 54, 54, 55, 54, 56, 54, 57, 55, 48, 55, 49, 55, 50, 55, 51, 55, 52, 55, 53, 55, 54, 55, 55, 55, 56, 55, 57, 56, 48, 56, 49, 56, 50, 56, 51, 56, 52, 56, 53, 56, 54, 56, 55, 56, 56, 56, 57, 57, 48, 57, 49, 57, 50, 57, 51, 57, 52, 57, 53, 57, 54, 57, 55, 57, 56, 57, 57])) (.t 88)),
 o 90 (.mv (.t 10)),
 o 91 (.idxs (.c (.str [48, 48, 48, 49, 48, 50, 48, 51, 48, 52, 48, 53, 48, 54, 48, 55, 48, 56, 48, 57, 49, 48, 49, 49, 49, 50, 49, 51, 49, 52, 49, 53, 49, 54, 49, 55, 49, 56, 49, 57, 50, 48, 50, 49, 50, 50, 50, 51, 50, 52, 50, 53, 50, 54, 50, 55, 50, 56, 50, 57, 51, 48, 51, 49, 51, 50, 51, 51, 51, 52, 51, 53, 51, 54, 51, 55, 51, 56, 51, 57, 52, 48, 52, 49, 52, 50, 52, 51, 52, 52, 52, 53, 52, 54, 52, 55, 52, 56, 52, 57, 53, 48, 53, 49, 53, 50, 53, 51, 53, 52, 53, 53, 53, 54, 53, 55, 53, 56, 53, 57, 54, 48, 54, 49, 54, 50, 54, 51, 54, 52, 54, 53, 54, 54, 54, 55, 54, 56, 54, 57, 55, 48, 55, 49, 55, 50, 55, 51, 55, 52, 55, 53, 55, 54, 55, 55, 55, 56, 55, 57, 56, 48, 56, 49, 56, 50, 56, 51, 56, 52, 56, 53, 56, 54, 56, 55, 56, 56, 56, 57, 57, 48, 57, 49, 57, 50, 57, 51, 57, 52, 57, 53, 57, 54, 57, 55, 57, 56, 57, 57])) (.t 90)),
 o 92 (.idxA none 1 (.t 81) (.t 83)),
 ⟨none, .store 1 (.t 92) (.t 89), none⟩,
 o 93 (.idxA none 1 (.t 84) (.t 86)),
 ⟨none, .store 1 (.t 93) (.t 91), none⟩]
 [[], [], [1], [], [], [4], [], [6], [7], [], [9], [0, 2, 0, 1, 2, 6, 7, 8], [11, 8, 0, 1, 2, 6, 7, 8], [3, 5, 0, 1, 2, 3, 4, 5, 6, 7, 8, 9, 10, 11, 12], [13, 10, 12, 0, 1, 2, 3, 4, 5, 6, 7, 8, 9, 10, 11, 12]]
 [0, 1, 2, 3, 4, 5, 6, 7, 8, 9, 10, 11, 12, 13, 14] [10, 81, 82, 83, 84, 85, 86, 87, 88, 89, 90, 91, 92, 93])
 (.reg 768 [
 o 94 (.mv (.t 4)),
 o 95 (.bin .sub (.t 94) (ki 8)),
 o 4 (.mv (.t 95))] [94, 95]))))))))))))))
 (.seq
 (.reg 832 [
 o 96 (.mv (.t 1)),
 o 97 (.conv .u32 (.t 96)),
 o 12 (.mv (.t 97))] [1, 96, 97])
 (.seq
 (.seq
 (.reg 896 [
 o 98 (.mv (.t 4)),
 o 99 (.bin .geq (.t 98) (ki 4))] [98])
 (.cond (.t 99)
 (.seq
 (.reg 960 [
 o 100 (.mv (.t 12)),
 o 101 (.bin .rem (.t 100) (.c (.int .u32 10000))),
 o 13 (.mv (.t 101))] [99, 100, 101])
 (.seq
 (.reg 1024 [
 o 102 (.mv (.t 12)),
 o 103 (.bin .quo (.t 102) (.c (.int .u32 10000))),
 o 12 (.mv (.t 103))] [102, 103])
 (.seq
 (.reg 1088 [
 o 104 (.mv (.t 13)),
 o 105 (.bin .quo (.t 104) (.c (.int .u32 100))),
 o 106 (.bin .mul (.t 105) (.c (.int .u32 2))),
 o 107 (.mv (.t 13)),
 o 108 (.bin .rem (.t 107) (.c (.int .u32 100))),
 o 109 (.bin .mul (.t 108) (.c (.int .u32 2))),
 o 14 (.mv (.t 106)),
 o 15 (.mv (.t 109))] [13, 104, 105, 106, 107, 108, 109])
 (.seq
 (.draw 1152 [
 o 110 (.mv (.t 0)),
 o 111 (.mv (.t 4)),
 o 112 (.bin .sub (.t 111) (ki 1)),
 o 113 (.mv (.t 0)),
 o 114 (.mv (.t 4)),
 o 115 (.bin .sub (.t 114) (ki 2)),
 o 116 (.mv (.t 15)),
 o 117 (.bin .add (.t 116) (.c (.int .u32 1))),
 o 118 (.idxs (.c (.str [48, 48, 48, 49, 48, 50, 48, 51, 48, 52, 48, 53, 48, 54, 48, 55, 48, 56, 48, 57, 49, 48, 49, 49, 49, 50, 49, 51, 49, 52, 49, 53, 49, 54, 49, 55, 49, 56, 49, 57, 50, 48, 50, 49, 50, 50, 50, 51, 50, 52, 50, 53, 50, 54, 50, 55, 50, 56, 50, 57, 51, 48, 51, 49, 51, 50, 51, 51, 51, 52, 51, 53, 51, 54, 51, 55, 51, 56, 51, 57, 52, 48, 52, 49, 52, 50, 52, 51, 52, 52, 52, 53, 52, 54, 52, 55, 52, 56, 52, 57, 53, 48, 53, 49, 53, 50, 53, 51, 53, 52, 53, 53, 53, 54, 53, 55, 53, 56, 53, 57, 54, 48, 54, 49, 54, 50, 54, 51, 54, 52, 54, 53, 54, 54, 54, 55, 54, 56, 54, 57, 55, 48, 55, 49, 55, 50, 55, 51, 55, 52, 55, 53, 55, 54, 55, 55, 55, 56, 55, 57, 56, 48, 56, 49, 56, 50, 56, 51, 56, 52, 56, 53, 56, 54, 56, 55, 56, 56, 56, 57, 57, 48, 57, 49, 57, 50, 57, 51, 57, 52, 57, 53, 57, 54, 57, 55, 57, 56, 57, 57])) (.t 117)),
 o 119 (.mv (.t 15)),
 o 120 (.idxs (.c (.str [48, 48, 48, 49, 48, 50, 48, 51, 48, 52, 48, 53, 48, 54, 48, 55, 48, 56, 48, 57, 49, 48, 49, 49, 49, 50, 49, 51, 49, 52, 49, 53, 49, 54, 49, 55, 49, 56, 49, 57, 50, 48, 50, 49, 50, 50, 50, 51, 50, 52, 50, 53, 50, 54, 50, 55, 50, 56, 50, 57, 51, 48, 51, 49, 51, 50, 51, 51, 51, 52, 51, 53, 51, 54, 51, 55, 51, 56, 51, 57, 52, 48, 52, 49, 52, 50, 52, 51, 52, 52, 52, 53, 52, 54, 52, 55, 52, 56, 52, 57, 53, 48, 53, 49, 53, 50, 53, 51, 53, 52, 53, 53, 53, 54, 53, 55, 53, 56, 53, 57, 54, 48, 54, 49, 54, 50, 54, 51, 54, 52, 54, 53, 54, 54, 54, 55, 54, 56, 54, 57, 55, 48, 55, 49, 55, 50, 55, 51, 55, 52, 55, 53, 55, 54, 55, 55, 55, 56, 55, 57, 56, 48, 56, 49, 56, 50, 56, 51, 56, 52, 56, 53, 56, 54, 56, 55, 56, 56, 56, 57, 57, 48, 57, 49, 57, 50, 57, 51, 57, 52, 57, 53, 57, 54, 57, 55, 57, 56, 57, 57])) (.t 119)),
 o 121 (.idxA none 1 (.t 110) (.t 112)),
 ⟨none, .store 1 (.t 121) (.t 118), none⟩,
 o 122 (.idxA none 1 (.t 113) (.t 115)),
 ⟨none, .store 1 (.t 122) (.t 120), none⟩]
 [[], [], [1], [], [], [4], [], [6], [7], [], [9], [0, 2, 0, 1, 2, 6, 7, 8], [11, 8, 0, 1, 2, 6, 7, 8], [3, 5, 0, 1, 2, 3, 4, 5, 6, 7, 8, 9, 10, 11, 12], [13, 10, 12, 0, 1, 2, 3, 4, 5, 6, 7, 8, 9, 10, 11, 12]]
 [0, 1, 2, 3, 4, 5, 6, 7, 8, 9, 10, 11, 12, 13, 14] [15, 110, 111, 112, 113, 114, 115, 116, 117, 118, 119, 120, 121, 122])
 (.seq
 (.draw 1216 [
 o 123 (.mv (.t 0)),
 o 124 (.mv (.t 4)),
 o 125 (.bin .sub (.t 124) (ki 3)),
 o 126 (.mv (.t 0)),
 o 127 (.mv (.t 4)),
 o 128 (.bin .sub (.t 127) (ki 4)),
 o 129 (.mv (.t 14)),
 o 130 (.bin .add (.t 129) (.c (.int .u32 1))),
 o 131 (.idxs (.c (.str [48, 48, 48, 49, 48, 50, 48, 51, 48, 52, 48, 53, 48, 54, 48, 55, 48, 56, 48, 57, 49, 48, 49, 49, 49, 50, 49, 51, 49, 52, 49, 53, 49, 54, 49, 55, 49, 56, 49, 57, 50, 48, 50, 49, 50, 50, 50, 51, 50, 52, 50, 53, 50, 54, 50, 55, 50, 56, 50, 57, 51, 48, 51, 49, 51, 50, 51, 51, 51, 52, 51, 53, 51, 54, 51, 55, 51, 56, 51, 57, 52, 48, 52, 49, 52, 50, 52, 51, 52, 52, 52, 53, 52, 54, 52, 55, 52, 56, 52, 57, 53, 48, 53, 49, 53, 50, 53, 51, 53, 52, 53, 53, 53, 54, 53, 55, 53, 56, 53, 57, 54, 48, 54, 49, 54, 50, 54, 51, 54, 52, 54, 53, 54, 54, 54, 55, 54, 56, 54, 57, 55, 48, 55, 49, 55, 50, 55, 51, 55, 52, 55, 53, 55, 54, 55, 55, 55, 56, 55, 57, 56, 48, 56, 49, 56, 50, 56, 51, 56, 52, 56, 53, 56, 54, 56, 55, 56, 56, 56, 57, 57, 48, 57, 49, 57, 50, 57, 51, 57, 52, 57, 53, 57, 54, 57, 55, 57, 56, 57, 57])) (.t 130)),
 o 132 (.mv (.t 14)),
 o 133 (.idxs (.c (.str [48, 48, 48, 49, 48, 50, 48, 51, 48, 52, 48, 53, 48, 54, 48, 55, 48, 56, 48, 57, 49, 48, 49, 49, 49, 50, 49, 51, 49, 52, 49, 53, 49, 54, 49, 55, 49, 56, 49, 57, 50, 48, 50, 49, 50, 50, 50, 51, 50, 52, 50, 53, 50, 54, 50, 55, 50, 56, 50, 57, 51, 48, 51, 49, 51, 50, 51, 51, 51, 52, 51, 53, 51, 54, 51, 55, 51, 56, 51, 57, 52, 48, 52, 49, 52, 50, 52, 51, 52, 52, 52, 53, 52, 54, 52, 55, 52, 56, 52, 57, 53, 48, 53, 49, 53, 50, 53, 51, 53, 52, 53, 53, 53, 54, 53, 55, 53, 56, 53, 57, 54, 48, 54, 49, 54, 50, 54, 51, 54, 52, 54, 53, 54, 54, 54, 55, 54, 56, 54, 57, 55, 48, 55, 49, 55, 50, 55, 51, 55, 52, 55, 53, 55, 54, 55, 55, 55, 56, 55, 57, 56, 48, 56, 49, 56, 50, 56, 51, 56, 52, 56, 53, 56, 54, 56, 55, 56, 56, 56, 57, 57, 48, 57, 49, 57, 50, 57, 51, 57, 52, 57, 53, 57, 54, 57, 55, 57, 56, 57, 57])) (.t 132)),
 o 134 (.idxA none 1 (.t 123) (.t 125)),
 ⟨none, .store 1 (.t 134) (.t 131), none⟩,
 o 135 (.idxA none 1 (.t 126) (.t 128)),
 ⟨none, .store 1 (.t 135) (.t 133), none⟩]
 [[], [], [1], [], [], [4], [], [6], [7], [], [9], [0, 2, 0, 1, 2, 6, 7, 8], [11, 8, 0, 1, 2, 6, 7, 8], [3, 5, 0, 1, 2, 3, 4, 5, 6, 7, 8, 9, 10, 11, 12], [13, 10, 12, 0, 1, 2, 3, 4, 5, 6, 7, 8, 9, 10, 11, 12]]
 [0, 1, 2, 3, 4, 5, 6, 7, 8, 9, 10, 11, 12, 13, 14] [14, 123, 124, 125, 126, 127, 128, 129, 130, 131, 132, 133, 134, 135])
 (.reg 1280 [
 o 136 (.mv (.t 4)),
 o 137 (.bin .sub (.t 136) (ki 4)),
 o 4 (.mv (.t 137))] [136, 137]))))))
 .skip))
 (.seq
 (.seq
 (.reg 1344 [
 o 138 (.mv (.t 4)),
 o 139 (.bin .geq (.t 138) (ki 2))] [99, 138])
 (.cond (.t 139)
 (.seq
 (.reg 1408 [
 o 140 (.mv (.t 12)),
 o 141 (.bin .rem (.t 140) (.c (.int .u32 100))),
 o 142 (.bin .mul (.t 141) (.c (.int .u32 2))),
 o 16 (.mv (.t 142))] [139, 140, 141, 142])
 (.seq
 (.reg 1472 [
 o 143 (.mv (.t 12)),
 o 144 (.bin .quo (.t 143) (.c (.int .u32 100))),
 o 12 (.mv (.t 144))] [143, 144])
 (.seq
 (.draw 1536 [
 o 145 (.mv (.t 0)),
 o 146 (.mv (.t 4)),
 o 147 (.bin .sub (.t 146) (ki 1)),
 o 148 (.mv (.t 0)),
 o 149 (.mv (.t 4)),
 o 150 (.bin .sub (.t 149) (ki 2)),
 o 151 (.mv (.t 16)),
 o 152 (.bin .add (.t 151) (.c (.int .u32 1))),
 o 153 (.idxs (.c (.str [48, 48, 48, 49, 48, 50, 48, 51, 48, 52, 48, 53, 48, 54, 48, 55, 48, 56, 48, 57, 49, 48, 49, 49, 49, 50, 49, 51, 49, 52, 49, 53, 49, 54, 49, 55, 49, 56, 49, 57, 50, 48, 50, 49, 50, 50, 50, 51, 50, 52, 50, 53, 50, 54, 50, 55, 50, 56, 50, 57, 51, 48, 51, 49, 51, 50, 51, 51, 51, 52, 51, 53, 51, 54, 51, 55, 51, 56, 51, 57, 52, 48, 52, 49, 52, 50, 52, 51, 52, 52, 52, 53, 52, 54, 52, 55, 52, 56, 52, 57, 53, 48, 53, 49, 53, 50, 53, 51, 53, 52, 53, 53, 53, 54, 53, 55, 53, 56, 53, 57, 54, 48, 54, 49, 54, 50, 54, 51, 54, 52, 54, 53, 54, 54, 54, 55, 54, 56, 54, 57, 55, 48, 55, 49, 55, 50, 55, 51, 55, 52, 55, 53, 55, 54, 55, 55, 55, 56, 55, 57, 56, 48, 56, 49, 56, 50, 56, 51, 56, 52, 56, 53, 56, 54, 56, 55, 56, 56, 56, 57, 57, 48, 57, 49, 57, 50, 57, 51, 57, 52, 57, 53, 57, 54, 57, 55, 57, 56, 57, 57])) (.t 152)),
 o 154 (.mv (.t 16)),
 o 155 (.idxs (.c (.str [48, 48, 48, 49, 48, 50, 48, 51, 48, 52, 48, 53, 48, 54, 48, 55, 48, 56, 48, 57, 49, 48, 49, 49, 49, 50, 49, 51, 49, 52, 49, 53, 49, 54, 49, 55, 49, 56, 49, 57, 50, 48, 50, 49, 50, 50, 50, 51, 50, 52, 50, 53, 50, 54, 50, 55, 50, 56, 50, 57, 51, 48, 51, 49, 51, 50, 51, 51, 51, 52, 51, 53, 51, 54, 51, 55, 51, 56, 51, 57, 52, 48, 52, 49, 52, 50, 52, 51, 52, 52, 52, 53, 52, 54, 52, 55, 52, 56, 52, 57, 53, 48, 53, 49, 53, 50, 53, 51, 53, 52, 53, 53, 53, 54, 53, 55, 53, 56, 53, 57, 54, 48, 54, 49, 54, 50, 54, 51, 54, 52, 54, 53, 54, 54, 54, 55, 54, 56, 54, 57, 55, 48, 55, 49, 55, 50, 55, 51, 55, 52, 55, 53, 55, 54, 55, 55, 55, 56, 55, 57, 56, 48, 56, 49, 56, 50, 56, 51, 56, 52, 56, 53, 56, 54, 56, 55, 56, 56, 56, 57, 57, 48, 57, 49, 57, 50, 57, 51, 57, 52, 57, 53, 57, 54, 57, 55, 57, 56, 57, 57])) (.t 154)),
 o 156 (.idxA none 1 (.t 145) (.t 147)),
 ⟨none, .store 1 (.t 156) (.t 153), none⟩,
 o 157 (.idxA none 1 (.t 148) (.t 150)),
 ⟨none, .store 1 (.t 157) (.t 155), none⟩]
 [[], [], [1], [], [], [4], [], [6], [7], [], [9], [0, 2, 0, 1, 2, 6, 7, 8], [11, 8, 0, 1, 2, 6, 7, 8], [3, 5, 0, 1, 2, 3, 4, 5, 6, 7, 8, 9, 10, 11, 12], [13, 10, 12, 0, 1, 2, 3, 4, 5, 6, 7, 8, 9, 10, 11, 12]]
 [0, 1, 2, 3, 4, 5, 6, 7, 8, 9, 10, 11, 12, 13, 14] [16, 145, 146, 147, 148, 149, 150, 151, 152, 153, 154, 155, 156, 157])
 (.reg 1600 [
 o 158 (.mv (.t 4)),
 o 159 (.bin .sub (.t 158) (ki 2)),
 o 4 (.mv (.t 159))] [158, 159]))))
 .skip))
 (.seq
 (.reg 1664 [
 o 160 (.mv (.t 4)),
 o 161 (.bin .gtr (.t 160) (ki 0))] [4, 139, 160])
 (.cond (.t 161)
 (.reg 1728 [
 o 162 (.mv (.t 0)),
 o 163 (.mv (.t 12)),
 o 164 (.bin .add (.c (.int .u32 48)) (.t 163)),
 o 165 (.conv .u8 (.t 164)),
 o 166 (.idxA none 1 (.t 162) (ki 0)),
 ⟨none, .store 1 (.t 166) (.t 165), none⟩] [0, 12, 161, 162, 163, 164, 165, 166])
 .skip)))))))
def fe102 : FnE := ⟨167, [], xc102⟩
theorem ok102 : FnOk Tryd.prog 102 fe102 := fnOk_of Tryd.func102 (by kernel_rfl : chkF Tryd.prog hs102 Tryd.f102 = some fe102)
/- 103 internal/strconv.formatBits -/
def hs103 : Hints := [(1, ([], [19, 20, 21, 22, 23, 24, 25, 26, 27])), (2, ([], [28, 29])), (3, ([], [28])), (6, ([], [30, 31, 32])), (7, ([], [30, 33])), (8, ([], [34, 35, 36, 37, 38])), (9, ([], [39, 40])), (10, ([], [2, 41, 42, 43])), (11, ([], [44, 45])), (12, ([], [46, 47, 48])), (13, ([], [49, 50, 51, 52, 53, 54])), (14, ([], [55, 56, 57])), (15, ([], [14, 15, 16, 58, 59])), (16, ([], [1, 60, 61, 62, 63])), (17, ([], [2, 34, 64, 65])), (18, ([], [66, 67])), (19, ([], [68, 69, 70])), (20, ([], [71, 72, 73])), (21, ([], [1, 74, 75, 76, 77, 78, 79, 80, 81])), (22, ([], [18, 82])), (23, ([], [17, 83, 84])), (24, ([], [1, 85, 86, 87, 88])), (25, ([], [3])), (26, ([], [89, 90, 91])), (27, ([], [92, 93])), (28, ([], [4, 89])), (29, ([], [0, 12, 13, 94, 95, 96, 97, 98])), (30, ([], [0, 12, 13, 94, 99, 100, 101]))]
def xc103 : XC :=
 (.seq
 (.reg 64 [
 o 10 (.mv (.c .nils)),
 o 11 (.mv (.c (.str [])))] [])
 (.seq
 (.seq
 (.reg 128 [
 o 19 (.mv (.t 2)),
 o 20 (.bin .lss (.t 19) (ki 2)),
 o 21 (.mv (.t 20)),
 oi 22 21 false (.mv (.t 2)),
 oi 23 21 false (.bin .eql (.t 22) (ki 10)),
 o 24 (.pick (.t 21) (.c (.bool true)) (.t 23)),
 o 25 (.mv (.t 24)),
 oi 26 25 false (.mv (.t 2)),
 oi 27 25 false (.bin .gtr (.t 26) (ki 36)),
 o 28 (.pick (.t 25) (.c (.bool true)) (.t 27))] [19, 20, 21, 22, 23, 24, 25, 26, 27])
 (.cond (.t 28)
 (.reg 192 [
 o 29 (.bad),
 ⟨none, .bad, none⟩] [28, 29])
 .skip))
 (.seq
 (.reg 256 [
 o 12 (.new (.ints .u8 [0, 0, 0, 0, 0, 0, 0, 0, 0, 0, 0, 0, 0, 0, 0, 0, 0, 0, 0, 0, 0, 0, 0, 0, 0, 0, 0, 0, 0, 0, 0, 0, 0, 0, 0, 0, 0, 0, 0, 0, 0, 0, 0, 0, 0, 0, 0, 0, 0, 0, 0, 0, 0, 0, 0, 0, 0, 0, 0, 0, 0, 0, 0, 0, 0]) 65 1)] [28])
 (.seq
 (.reg 320 [
 o 13 (.mv (ki 65))] [])
 (.seq
 (.seq
 (.reg 384 [
 o 30 (.mv (.t 3))] [])
 (.cond (.t 30)
 (.reg 448 [
 o 31 (.mv (.t 1)),
 o 32 (.un .neg (.t 31)),
 o 1 (.mv (.t 32))] [30, 31, 32])
 .skip))
 (.seq
 (.seq
 (.reg 512 [
 o 33 (.mv (.t 2)),
 o 34 (.call 117 [(.t 33)])] [30, 33])
 (.cond (.t 34)
 (.seq
 (.reg 576 [
 o 35 (.mv (.t 2)),
 o 36 (.conv .u64 (.t 35)),
 o 37 (.call 118 [(.t 36)]),
 o 38 (.conv .u64 (.t 37)),
 o 14 (.mv (.t 38))] [34, 35, 36, 37, 38])
 (.seq
 (.reg 640 [
 o 39 (.mv (.t 2)),
 o 40 (.conv .u64 (.t 39)),
 o 15 (.mv (.t 40))] [39, 40])
 (.seq
 (.reg 704 [
 o 41 (.mv (.t 2)),
 o 42 (.conv .u64 (.t 41)),
 o 43 (.bin .sub (.t 42) (.c (.int .u64 1))),
 o 16 (.mv (.t 43))] [2, 41, 42, 43])
 (.seq
 (.block 0
 (.loop
 (.seq
 (.seq
 (.reg 768 [
 o 44 (.mv (.t 1)),
 o 45 (.mv (.t 15)),
 o 46 (.bin .geq (.t 44) (.t 45))] [44, 45])
 (.cond (.t 46)
 .skip
 (.exit 0)))
 (.block 1
 (.seq
 (.reg 832 [
 o 47 (.mv (.t 13)),
 o 48 (.bin .sub (.t 47) (ki 1)),
 o 13 (.mv (.t 48))] [46, 47, 48])
 (.seq
 (.reg 896 [
 o 49 (.mv (.t 13)),
 o 50 (.mv (.t 1)),
 o 51 (.mv (.t 16)),
 o 52 (.bin .and (.t 50) (.t 51)),
 o 53 (.idxs (.c (.str [48, 49, 50, 51, 52, 53, 54, 55, 56, 57, 97, 98, 99, 100, 101, 102, 103, 104, 105, 106, 107, 108, 109, 110, 111, 112, 113, 114, 115, 116, 117, 118, 119, 120, 121, 122])) (.t 52)),
 o 54 (.idxA (some 65) 1 (.t 12) (.t 49)),
 ⟨none, .store 1 (.t 54) (.t 53), none⟩] [49, 50, 51, 52, 53, 54])
 (.reg 960 [
 o 55 (.mv (.t 1)),
 o 56 (.mv (.t 14)),
 o 57 (.bin .shr (.t 55) (.t 56)),
 o 1 (.mv (.t 57))] [55, 56, 57])))))))
 (.seq
 (.reg 1024 [
 o 58 (.mv (.t 13)),
 o 59 (.bin .sub (.t 58) (ki 1)),
 o 13 (.mv (.t 59))] [14, 15, 16, 58, 59])
 (.reg 1088 [
 o 60 (.mv (.t 13)),
 o 61 (.mv (.t 1)),
 o 62 (.idxs (.c (.str [48, 49, 50, 51, 52, 53, 54, 55, 56, 57, 97, 98, 99, 100, 101, 102, 103, 104, 105, 106, 107, 108, 109, 110, 111, 112, 113, 114, 115, 116, 117, 118, 119, 120, 121, 122])) (.t 61)),
 o 63 (.idxA (some 65) 1 (.t 12) (.t 60)),
 ⟨none, .store 1 (.t 63) (.t 62), none⟩] [1, 60, 61, 62, 63]))))))
 (.seq
 (.reg 1152 [
 o 64 (.mv (.t 2)),
 o 65 (.conv .u64 (.t 64)),
 o 17 (.mv (.t 65))] [2, 34, 64, 65])
 (.seq
 (.block 2
 (.loop
 (.seq
 (.seq
 (.reg 1216 [
 o 66 (.mv (.t 1)),
 o 67 (.mv (.t 17)),
 o 68 (.bin .geq (.t 66) (.t 67))] [66, 67])
 (.cond (.t 68)
 .skip
 (.exit 2)))
 (.block 3
 (.seq
 (.reg 1280 [
 o 69 (.mv (.t 13)),
 o 70 (.bin .sub (.t 69) (ki 1)),
 o 13 (.mv (.t 70))] [68, 69, 70])
 (.seq
 (.reg 1344 [
 o 71 (.mv (.t 1)),
 o 72 (.mv (.t 17)),
 o 73 (.bin .quo (.t 71) (.t 72)),
 o 18 (.mv (.t 73))] [71, 72, 73])
 (.seq
 (.reg 1408 [
 o 74 (.mv (.t 13)),
 o 75 (.mv (.t 1)),
 o 76 (.mv (.t 18)),
 o 77 (.mv (.t 17)),
 o 78 (.bin .mul (.t 76) (.t 77)),
 o 79 (.bin .sub (.t 75) (.t 78)),
 o 80 (.idxs (.c (.str [48, 49, 50, 51, 52, 53, 54, 55, 56, 57, 97, 98, 99, 100, 101, 102, 103, 104, 105, 106, 107, 108, 109, 110, 111, 112, 113, 114, 115, 116, 117, 118, 119, 120, 121, 122])) (.t 79)),
 o 81 (.idxA (some 65) 1 (.t 12) (.t 74)),
 ⟨none, .store 1 (.t 81) (.t 80), none⟩] [1, 74, 75, 76, 77, 78, 79, 80, 81])
 (.reg 1472 [
 o 82 (.mv (.t 18)),
 o 1 (.mv (.t 82))] [18, 82]))))))))
 (.seq
 (.reg 1536 [
 o 83 (.mv (.t 13)),
 o 84 (.bin .sub (.t 83) (ki 1)),
 o 13 (.mv (.t 84))] [17, 83, 84])
 (.reg 1600 [
 o 85 (.mv (.t 13)),
 o 86 (.mv (.t 1)),
 o 87 (.idxs (.c (.str [48, 49, 50, 51, 52, 53, 54, 55, 56, 57, 97, 98, 99, 100, 101, 102, 103, 104, 105, 106, 107, 108, 109, 110, 111, 112, 113, 114, 115, 116, 117, 118, 119, 120, 121, 122])) (.t 86)),
 o 88 (.idxA (some 65) 1 (.t 12) (.t 85)),
 ⟨none, .store 1 (.t 88) (.t 87), none⟩] [1, 85, 86, 87, 88]))))))
 (.seq
 (.seq
 (.reg 1664 [
 o 89 (.mv (.t 3))] [3])
 (.cond (.t 89)
 (.seq
 (.reg 1728 [
 o 90 (.mv (.t 13)),
 o 91 (.bin .sub (.t 90) (ki 1)),
 o 13 (.mv (.t 91))] [89, 90, 91])
 (.reg 1792 [
 o 92 (.mv (.t 13)),
 o 93 (.idxA (some 65) 1 (.t 12) (.t 92)),
 ⟨none, .store 1 (.t 93) (ku 45), none⟩] [92, 93]))
 .skip))
 (.seq
 (.seq
 (.reg 1856 [
 o 94 (.mv (.t 4))] [4, 89])
 (.cond (.t 94)
 (.seq
 (.reg 1920 [
 o 95 (.mv (.t 0)),
 o 96 (.mv (.t 13)),
 o 97 (.slicea 65 1 (.t 12) (some (.t 96)) none none),
 o 98 (.append 1 1 5 (.t 95) (.t 97)),
 o 10 (.mv (.t 98))] [0, 12, 13, 94, 95, 96, 97, 98])
 .ret)
 .skip))
 (.seq
 (.reg 1984 [
 o 99 (.mv (.t 13)),
 o 100 (.slicea 65 1 (.t 12) (some (.t 99)) none none),
 o 101 (.bstr (.t 100)),
 o 11 (.mv (.t 101))] [0, 12, 13, 94, 99, 100, 101])
 .ret)))))))))
def fe103 : FnE := ⟨102, [(10, none), (11, none)], xc103⟩
theorem ok103 : FnOk Tryd.prog 103 fe103 := fnOk_of Tryd.func103 (by kernel_rfl : chkF Tryd.prog hs103 Tryd.f103 = some fe103)
/- 108 slices.siftDownCmpFunc[crimp/patterns.Crease] -/
def hs108 : Hints := [(0, ([], [1, 12])), (1, ([], [13, 14, 15])), (2, ([], [16, 17])), (3, ([0, 1, 2, 3, 4, 5, 6, 7, 8, 9, 10, 11, 12, 13, 14, 15, 16, 17, 18, 19, 20, 21], [18, 19, 20, 21, 22, 23])), (4, ([], [40, 41, 42])), (5, ([0, 1, 2, 3, 4, 5, 6, 7, 8, 9, 10, 11, 12, 13, 14, 15], [40, 43, 44, 45, 46, 47, 48, 49, 50, 51, 52, 53, 54, 55, 56, 57])), (6, ([0, 1, 2, 3, 4, 5, 6, 7, 8, 9, 10, 11, 12, 13, 14, 15, 16, 17, 18, 19, 20, 21, 22, 23], [10, 58, 59, 60, 61, 62, 63, 64, 65, 66, 67, 68, 69, 70, 71, 72, 73, 74, 75, 76, 77, 78, 79, 80])), (7, ([], [11, 81]))]
def xc108 : XC :=
 (.seq
 (.reg 64 [
 o 12 (.mv (.t 1)),
 o 10 (.mv (.t 12))] [1, 12])
 (.block 0
 (.loop
 (.block 1
 (.seq
 (.reg 128 [
 o 13 (.mv (.t 10)),
 o 14 (.bin .mul (ki 2) (.t 13)),
 o 15 (.bin .add (.t 14) (ki 1)),
 o 11 (.mv (.t 15))] [13, 14, 15])
 (.seq
 (.seq
 (.reg 192 [
 o 16 (.mv (.t 11)),
 o 17 (.mv (.t 2)),
 o 18 (.bin .geq (.t 16) (.t 17))] [16, 17])
 (.cond (.t 18)
 (.exit 0)
 .skip))
 (.seq
 (.seq
 (.draw 256 [
 o 19 (.mv (.t 11)),
 o 20 (.bin .add (.t 19) (ki 1)),
 o 21 (.mv (.t 2)),
 o 22 (.bin .lss (.t 20) (.t 21)),
 o 23 (.mv (.t 22)),
 oi 24 23 true (.mv (.t 4)),
 oi 25 23 true (.mv (.t 0)),
 oi 26 23 true (.mv (.t 3)),
 oi 27 23 true (.mv (.t 11)),
 oi 28 23 true (.bin .add (.t 26) (.t 27)),
 oi 29 23 true (.idxA none 3 (.t 25) (.t 28)),
 oi 30 23 true (.load (some 3) (.t 29)),
 oi 31 23 true (.mv (.t 0)),
 oi 32 23 true (.mv (.t 3)),
 oi 33 23 true (.mv (.t 11)),
 oi 34 23 true (.bin .add (.t 32) (.t 33)),
 oi 35 23 true (.bin .add (.t 34) (ki 1)),
 oi 36 23 true (.idxA none 3 (.t 31) (.t 35)),
 oi 37 23 true (.load (some 3) (.t 36)),
 oi 38 23 true (.callv (.t 24) [(.t 30), (.t 37)]),
 oi 39 23 true (.bin .lss (.t 38) (ki 0)),
 o 40 (.pick (.t 23) (.t 39) (.c (.bool false)))]
 [[], [0], [], [1, 2], [3], [4], [4], [4], [4], [7, 8, 4], [6, 9, 4], [10, 4], [4], [4], [4], [13, 14, 4], [15, 4], [12, 16, 4], [17, 4], [5, 11, 18, 4, 4], [19, 4], [4, 20]]
 [0, 1, 2, 3, 4, 5, 6, 7, 8, 9, 10, 11, 12, 13, 14, 15, 16, 17, 18, 19, 20, 21] [18, 19, 20, 21, 22, 23])
 (.cond (.t 40)
 (.reg 320 [
 o 41 (.mv (.t 11)),
 o 42 (.bin .add (.t 41) (ki 1)),
 o 11 (.mv (.t 42))] [40, 41, 42])
 .skip))
 (.seq
 (.seq
 (.draw 384 [
 o 43 (.mv (.t 4)),
 o 44 (.mv (.t 0)),
 o 45 (.mv (.t 3)),
 o 46 (.mv (.t 10)),
 o 47 (.bin .add (.t 45) (.t 46)),
 o 48 (.idxA none 3 (.t 44) (.t 47)),
 o 49 (.load (some 3) (.t 48)),
 o 50 (.mv (.t 0)),
 o 51 (.mv (.t 3)),
 o 52 (.mv (.t 11)),
 o 53 (.bin .add (.t 51) (.t 52)),
 o 54 (.idxA none 3 (.t 50) (.t 53)),
 o 55 (.load (some 3) (.t 54)),
 o 56 (.callv (.t 43) [(.t 49), (.t 55)]),
 o 57 (.bin .lss (.t 56) (ki 0)),
 o 58 (.un .not (.t 57))]
 [[], [], [], [], [2, 3], [1, 4], [5], [], [], [], [8, 9], [7, 10], [11], [0, 6, 12], [13], [14]]
 [0, 1, 2, 3, 4, 5, 6, 7, 8, 9, 10, 11, 12, 13, 14, 15] [40, 43, 44, 45, 46, 47, 48, 49, 50, 51, 52, 53, 54, 55, 56, 57])
 (.cond (.t 58)
 .ret
 .skip))
 (.seq
 (.draw 448 [
 o 59 (.mv (.t 0)),
 o 60 (.mv (.t 3)),
 o 61 (.mv (.t 10)),
 o 62 (.bin .add (.t 60) (.t 61)),
 o 63 (.mv (.t 0)),
 o 64 (.mv (.t 3)),
 o 65 (.mv (.t 11)),
 o 66 (.bin .add (.t 64) (.t 65)),
 o 67 (.mv (.t 0)),
 o 68 (.mv (.t 3)),
 o 69 (.mv (.t 11)),
 o 70 (.bin .add (.t 68) (.t 69)),
 o 71 (.idxA none 3 (.t 67) (.t 70)),
 o 72 (.load (some 3) (.t 71)),
 o 73 (.mv (.t 0)),
 o 74 (.mv (.t 3)),
 o 75 (.mv (.t 10)),
 o 76 (.bin .add (.t 74) (.t 75)),
 o 77 (.idxA none 3 (.t 73) (.t 76)),
 o 78 (.load (some 3) (.t 77)),
 o 79 (.idxA none 3 (.t 59) (.t 62)),
 ⟨none, .store 3 (.t 79) (.t 72), none⟩,
 o 80 (.idxA none 3 (.t 63) (.t 66)),
 ⟨none, .store 3 (.t 80) (.t 78), none⟩]
 [[], [], [], [1, 2], [], [], [], [5, 6], [], [], [], [9, 10], [8, 11], [12], [], [], [], [15, 16], [14, 17], [18], [0, 3, 0, 1, 2, 3, 8, 9, 10, 11, 12, 13, 19], [20, 13, 0, 1, 2, 3, 8, 9, 10, 11, 12, 13, 19], [4, 7, 0, 1, 2, 3, 4, 5, 6, 7, 8, 9, 10, 11, 12, 13, 14, 15, 16, 17, 18, 19, 20, 21], [22, 19, 21, 0, 1, 2, 3, 4, 5, 6, 7, 8, 9, 10, 11, 12, 13, 14, 15, 16, 17, 18, 19, 20, 21]]
 [0, 1, 2, 3, 4, 5, 6, 7, 8, 9, 10, 11, 12, 13, 14, 15, 16, 17, 18, 19, 20, 21, 22, 23] [10, 58, 59, 60, 61, 62, 63, 64, 65, 66, 67, 68, 69, 70, 71, 72, 73, 74, 75, 76, 77, 78, 79, 80])
 (.reg 512 [
 o 81 (.mv (.t 11)),
 o 10 (.mv (.t 81))] [11, 81]))))))))))
def fe108 : FnE := ⟨82, [], xc108⟩
theorem ok108 : FnOk Tryd.prog 108 fe108 := fnOk_of Tryd.func108 (by kernel_rfl : chkF Tryd.prog hs108 Tryd.f108 = some fe108)
/- 109 slices.nextPowerOfTwo -/
def hs109 : Hints := [(0, ([], [2])), (1, ([], [0, 3, 4, 5, 6]))]
def xc109 : XC :=
 (.seq
 (.reg 64 [
 o 2 (.mv (.c (.int .u64 0)))] [2])
 (.seq
 (.reg 128 [
 o 3 (.mv (.t 0)),
 o 4 (.conv .u64 (.t 3)),
 o 5 (.call 74 [(.t 4)]),
 o 6 (.bin .shl (.c (.int .u64 1)) (.t 5)),
 o 2 (.mv (.t 6))] [0, 3, 4, 5, 6])
 .ret))
def fe109 : FnE := ⟨7, [(2, none)], xc109⟩
theorem ok109 : FnOk Tryd.prog 109 fe109 := fnOk_of Tryd.func109 (by kernel_rfl : chkF Tryd.prog hs109 Tryd.f109 = some fe109)
/- 110 (*slices.xorshift).Next -/
def hs110 : Hints := [(0, ([], [2])), (1, ([0, 1, 2, 3, 4, 5, 6, 7, 8, 9], [3, 4, 5, 6, 7, 8, 9, 10, 11])), (2, ([0, 1, 2, 3, 4, 5, 6, 7, 8, 9], [12, 13, 14, 15, 16, 17, 18, 19, 20])), (3, ([0, 1, 2, 3, 4, 5, 6, 7, 8, 9], [21, 22, 23, 24, 25, 26, 27, 28, 29])), (4, ([], [0, 30, 31, 32]))]
def xc110 : XC :=
 (.seq
 (.reg 64 [
 o 2 (.mv (.c (.int .u64 0)))] [2])
 (.seq
 (.draw 128 [
 o 3 (.mv (.t 0)),
 o 4 (.nilck (.t 3)),
 o 5 (.load none (.t 4)),
 o 6 (.mv (.t 0)),
 o 7 (.nilck (.t 6)),
 o 8 (.load none (.t 7)),
 o 9 (.bin .shl (.t 8) (.c (.int .u64 13))),
 o 10 (.bin .xor (.t 5) (.t 9)),
 o 11 (.nilck (.t 3)),
 ⟨none, .store 1 (.t 11) (.t 10), none⟩]
 [[], [0], [1], [], [3], [4], [5], [2, 6], [0, 0, 1, 2, 3, 4, 5, 6, 7], [8, 7, 0, 1, 2, 3, 4, 5, 6, 7]]
 [0, 1, 2, 3, 4, 5, 6, 7, 8, 9] [3, 4, 5, 6, 7, 8, 9, 10, 11])
 (.seq
 (.draw 192 [
 o 12 (.mv (.t 0)),
 o 13 (.nilck (.t 12)),
 o 14 (.load none (.t 13)),
 o 15 (.mv (.t 0)),
 o 16 (.nilck (.t 15)),
 o 17 (.load none (.t 16)),
 o 18 (.bin .shr (.t 17) (.c (.int .u64 7))),
 o 19 (.bin .xor (.t 14) (.t 18)),
 o 20 (.nilck (.t 12)),
 ⟨none, .store 1 (.t 20) (.t 19), none⟩]
 [[], [0], [1], [], [3], [4], [5], [2, 6], [0, 0, 1, 2, 3, 4, 5, 6, 7], [8, 7, 0, 1, 2, 3, 4, 5, 6, 7]]
 [0, 1, 2, 3, 4, 5, 6, 7, 8, 9] [12, 13, 14, 15, 16, 17, 18, 19, 20])
 (.seq
 (.draw 256 [
 o 21 (.mv (.t 0)),
 o 22 (.nilck (.t 21)),
 o 23 (.load none (.t 22)),
 o 24 (.mv (.t 0)),
 o 25 (.nilck (.t 24)),
 o 26 (.load none (.t 25)),
 o 27 (.bin .shl (.t 26) (.c (.int .u64 17))),
 o 28 (.bin .xor (.t 23) (.t 27)),
 o 29 (.nilck (.t 21)),
 ⟨none, .store 1 (.t 29) (.t 28), none⟩]
 [[], [0], [1], [], [3], [4], [5], [2, 6], [0, 0, 1, 2, 3, 4, 5, 6, 7], [8, 7, 0, 1, 2, 3, 4, 5, 6, 7]]
 [0, 1, 2, 3, 4, 5, 6, 7, 8, 9] [21, 22, 23, 24, 25, 26, 27, 28, 29])
 (.seq
 (.reg 320 [
 o 30 (.mv (.t 0)),
 o 31 (.nilck (.t 30)),
 o 32 (.load none (.t 31)),
 o 2 (.mv (.t 32))] [0, 30, 31, 32])
 .ret)))))
def fe110 : FnE := ⟨33, [(2, none)], xc110⟩
theorem ok110 : FnOk Tryd.prog 110 fe110 := fnOk_of Tryd.func110 (by kernel_rfl : chkF Tryd.prog hs110 Tryd.f110 = some fe110)
/- 111 slices.medianAdjacentCmpFunc[crimp/patterns.Crease] -/
def hs111 : Hints := [(0, ([], [8])), (1, ([], [0, 1, 2, 3, 9, 10, 11, 12, 13, 14, 15, 16, 17]))]
def xc111 : XC :=
 (.seq
 (.reg 64 [
 o 8 (.mv (ki 0))] [8])
 (.seq
 (.reg 128 [
 o 9 (.mv (.t 0)),
 o 10 (.mv (.t 1)),
 o 11 (.bin .sub (.t 10) (ki 1)),
 o 12 (.mv (.t 1)),
 o 13 (.mv (.t 1)),
 o 14 (.bin .add (.t 13) (ki 1)),
 o 15 (.mv (.t 2)),
 o 16 (.mv (.t 3)),
 o 17 (.call 112 [(.t 9), (.t 11), (.t 12), (.t 14), (.t 15), (.t 16)]),
 o 8 (.mv (.t 17))] [0, 1, 2, 3, 9, 10, 11, 12, 13, 14, 15, 16, 17])
 .ret))
def fe111 : FnE := ⟨18, [(8, none)], xc111⟩
theorem ok111 : FnOk Tryd.prog 111 fe111 := fnOk_of Tryd.func111 (by kernel_rfl : chkF Tryd.prog hs111 Tryd.f111 = some fe111)
/- 112 slices.medianCmpFunc[crimp/patterns.Crease] -/
def hs112 : Hints := [(0, ([], [12])), (1, ([], [14, 15, 16, 17, 18, 19, 13, 20, 21])), (2, ([], [3, 23, 24, 25, 26, 27, 28, 22, 29, 30])), (3, ([], [0, 1, 4, 5, 32, 33, 34, 35, 36, 37, 31, 38, 39])), (4, ([], [2, 40]))]
def xc112 : XC :=
 (.seq
 (.reg 64 [
 o 12 (.mv (ki 0))] [12])
 (.seq
 (.reg 128 [
 o 14 (.mv (.t 0)),
 o 15 (.mv (.t 1)),
 o 16 (.mv (.t 2)),
 o 17 (.mv (.t 4)),
 o 18 (.mv (.t 5)),
 o 19 (.call 123 [(.t 14), (.t 15), (.t 16), (.t 17), (.t 18)]),
 o 13 (.mv (.t 19)),
 o 20 (.ext (.t 13) 0),
 o 21 (.ext (.t 13) 1),
 o 1 (.mv (.t 20)),
 o 2 (.mv (.t 21))] [14, 15, 16, 17, 18, 19, 13, 20, 21])
 (.seq
 (.reg 192 [
 o 23 (.mv (.t 0)),
 o 24 (.mv (.t 2)),
 o 25 (.mv (.t 3)),
 o 26 (.mv (.t 4)),
 o 27 (.mv (.t 5)),
 o 28 (.call 123 [(.t 23), (.t 24), (.t 25), (.t 26), (.t 27)]),
 o 22 (.mv (.t 28)),
 o 29 (.ext (.t 22) 0),
 o 30 (.ext (.t 22) 1),
 o 2 (.mv (.t 29)),
 o 3 (.mv (.t 30))] [3, 23, 24, 25, 26, 27, 28, 22, 29, 30])
 (.seq
 (.reg 256 [
 o 32 (.mv (.t 0)),
 o 33 (.mv (.t 1)),
 o 34 (.mv (.t 2)),
 o 35 (.mv (.t 4)),
 o 36 (.mv (.t 5)),
 o 37 (.call 123 [(.t 32), (.t 33), (.t 34), (.t 35), (.t 36)]),
 o 31 (.mv (.t 37)),
 o 38 (.ext (.t 31) 0),
 o 39 (.ext (.t 31) 1),
 o 1 (.mv (.t 38)),
 o 2 (.mv (.t 39))] [0, 1, 4, 5, 32, 33, 34, 35, 36, 37, 31, 38, 39])
 (.seq
 (.reg 320 [
 o 40 (.mv (.t 2)),
 o 12 (.mv (.t 40))] [2, 40])
 .ret)))))
def fe112 : FnE := ⟨41, [(12, none)], xc112⟩
theorem ok112 : FnOk Tryd.prog 112 fe112 := fnOk_of Tryd.func112 (by kernel_rfl : chkF Tryd.prog hs112 Tryd.f112 = some fe112)
/- 115 internal/strconv.log10Pow2 -/
def hs115 : Hints := [(0, ([], [2])), (1, ([], [0, 3, 4, 5]))]
def xc115 : XC :=
 (.seq
 (.reg 64 [
 o 2 (.mv (ki 0))] [2])
 (.seq
 (.reg 128 [
 o 3 (.mv (.t 0)),
 o 4 (.bin .mul (.t 3) (ki 78913)),
 o 5 (.bin .shr (.t 4) (.c (.int .u64 18))),
 o 2 (.mv (.t 5))] [0, 3, 4, 5])
 .ret))
def fe115 : FnE := ⟨6, [(2, none)], xc115⟩
theorem ok115 : FnOk Tryd.prog 115 fe115 := fnOk_of Tryd.func115 (by kernel_rfl : chkF Tryd.prog hs115 Tryd.f115 = some fe115)
/- 116 internal/strconv.bool2[int] -/
def hs116 : Hints := [(0, ([], [2])), (1, ([], [0])), (2, ([], [3])), (3, ([], [3]))]
def xc116 : XC :=
 (.seq
 (.reg 64 [
 o 2 (.mv (ki 0))] [2])
 (.seq
 (.seq
 (.reg 128 [
 o 3 (.mv (.t 0))] [0])
 (.cond (.t 3)
 (.seq
 (.reg 192 [
 o 2 (.mv (ki 1))] [3])
 .ret)
 .skip))
 (.seq
 (.reg 256 [
 o 2 (.mv (ki 0))] [3])
 .ret)))
def fe116 : FnE := ⟨4, [(2, none)], xc116⟩
theorem ok116 : FnOk Tryd.prog 116 fe116 := fnOk_of Tryd.func116 (by kernel_rfl : chkF Tryd.prog hs116 Tryd.f116 = some fe116)
/- 117 internal/strconv.isPowerOfTwo -/
def hs117 : Hints := [(0, ([], [2])), (1, ([], [0, 3, 4, 5, 6, 7]))]
def xc117 : XC :=
 (.seq
 (.reg 64 [
 o 2 (.mv (.c (.bool false)))] [2])
 (.seq
 (.reg 128 [
 o 3 (.mv (.t 0)),
 o 4 (.mv (.t 0)),
 o 5 (.bin .sub (.t 4) (ki 1)),
 o 6 (.bin .and (.t 3) (.t 5)),
 o 7 (.bin .eql (.t 6) (ki 0)),
 o 2 (.mv (.t 7))] [0, 3, 4, 5, 6, 7])
 .ret))
def fe117 : FnE := ⟨8, [(2, none)], xc117⟩
theorem ok117 : FnOk Tryd.prog 117 fe117 := fnOk_of Tryd.func117 (by kernel_rfl : chkF Tryd.prog hs117 Tryd.f117 = some fe117)
/- 118 math/bits.TrailingZeros -/
def hs118 : Hints := [(0, ([], [2])), (1, ([], [0, 3, 4, 5])), (2, ([], [0, 6, 7]))]
def xc118 : XC :=
 (.seq
 (.reg 64 [
 o 2 (.mv (ki 0))] [2])
 (.seq
 (.cond (.c (.bool false))
 (.seq
 (.reg 128 [
 o 3 (.mv (.t 0)),
 o 4 (.conv .u32 (.t 3)),
 o 5 (.call 124 [(.t 4)]),
 o 2 (.mv (.t 5))] [0, 3, 4, 5])
 .ret)
 .skip)
 (.seq
 (.reg 192 [
 o 6 (.mv (.t 0)),
 o 7 (.call 125 [(.t 6)]),
 o 2 (.mv (.t 7))] [0, 6, 7])
 .ret)))
def fe118 : FnE := ⟨8, [(2, none)], xc118⟩
theorem ok118 : FnOk Tryd.prog 118 fe118 := fnOk_of Tryd.func118 (by kernel_rfl : chkF Tryd.prog hs118 Tryd.f118 = some fe118)
/- 123 slices.order2CmpFunc[crimp/patterns.Crease] -/
def hs123 : Hints := [(0, ([], [10, 11])), (1, ([0, 1, 2, 3, 4, 5, 6, 7, 8, 9, 10], [0, 4, 12, 13, 14, 15, 16, 17, 18, 19, 20, 21])), (2, ([], [3, 22, 23, 24, 25, 26, 27])), (3, ([], [1, 2, 28, 29])), (4, ([], [1, 2, 3, 22, 30, 31]))]
def xc123 : XC :=
 (.seq
 (.reg 64 [
 o 10 (.mv (ki 0)),
 o 11 (.mv (ki 0))] [10, 11])
 (.seq
 (.seq
 (.draw 128 [
 o 12 (.mv (.t 4)),
 o 13 (.mv (.t 0)),
 o 14 (.mv (.t 2)),
 o 15 (.idxA none 3 (.t 13) (.t 14)),
 o 16 (.load (some 3) (.t 15)),
 o 17 (.mv (.t 0)),
 o 18 (.mv (.t 1)),
 o 19 (.idxA none 3 (.t 17) (.t 18)),
 o 20 (.load (some 3) (.t 19)),
 o 21 (.callv (.t 12) [(.t 16), (.t 20)]),
 o 22 (.bin .lss (.t 21) (ki 0))]
 [[], [], [], [1, 2], [3], [], [], [5, 6], [7], [0, 4, 8], [9]]
 [0, 1, 2, 3, 4, 5, 6, 7, 8, 9, 10] [0, 4, 12, 13, 14, 15, 16, 17, 18, 19, 20, 21])
 (.cond (.t 22)
 (.seq
 (.reg 192 [
 o 23 (.mv (.t 3)),
 o 24 (.nilck (.t 23)),
 o 25 (.load none (.t 24)),
 o 26 (.bin .add (.t 25) (ki 1)),
 o 27 (.nilck (.t 23)),
 ⟨none, .store 1 (.t 27) (.t 26), none⟩] [3, 22, 23, 24, 25, 26, 27])
 (.seq
 (.reg 256 [
 o 28 (.mv (.t 2)),
 o 29 (.mv (.t 1)),
 o 10 (.mv (.t 28)),
 o 11 (.mv (.t 29))] [1, 2, 28, 29])
 .ret))
 .skip))
 (.seq
 (.reg 320 [
 o 30 (.mv (.t 1)),
 o 31 (.mv (.t 2)),
 o 10 (.mv (.t 30)),
 o 11 (.mv (.t 31))] [1, 2, 3, 22, 30, 31])
 .ret)))
def fe123 : FnE := ⟨32, [(10, none), (11, none)], xc123⟩
theorem ok123 : FnOk Tryd.prog 123 fe123 := fnOk_of Tryd.func123 (by kernel_rfl : chkF Tryd.prog hs123 Tryd.f123 = some fe123)
/- 124 math/bits.TrailingZeros32 -/
def hs124 : Hints := [(0, ([], [2])), (1, ([], [3])), (2, ([], [0, 4])), (3, ([], [0, 4, 5, 6, 7, 8, 9, 10, 11, 12, 13]))]
def xc124 : XC :=
 (.seq
 (.reg 64 [
 o 2 (.mv (ki 0))] [2])
 (.seq
 (.seq
 (.reg 128 [
 o 3 (.mv (.t 0)),
 o 4 (.bin .eql (.t 3) (.c (.int .u32 0)))] [3])
 (.cond (.t 4)
 (.seq
 (.reg 192 [
 o 2 (.mv (ki 32))] [0, 4])
 .ret)
 .skip))
 (.seq
 (.reg 256 [
 o 5 (.mv (.t 0)),
 o 6 (.mv (.t 0)),
 o 7 (.un .neg (.t 6)),
 o 8 (.bin .and (.t 5) (.t 7)),
 o 9 (.bin .mul (.t 8) (.c (.int .u32 125613361))),
 o 10 (.bin .shr (.t 9) (.c (.int .u64 27))),
 o 11 (.idxA (some 32) 1 (.g 3) (.t 10)),
 o 12 (.load none (.t 11)),
 o 13 (.conv .i64 (.t 12)),
 o 2 (.mv (.t 13))] [0, 4, 5, 6, 7, 8, 9, 10, 11, 12, 13])
 .ret)))
def fe124 : FnE := ⟨14, [(2, none)], xc124⟩
theorem ok124 : FnOk Tryd.prog 124 fe124 := fnOk_of Tryd.func124 (by kernel_rfl : chkF Tryd.prog hs124 Tryd.f124 = some fe124)
/- 125 math/bits.TrailingZeros64 -/
def hs125 : Hints := [(0, ([], [2])), (1, ([], [3])), (2, ([], [0, 4])), (3, ([], [0, 4, 5, 6, 7, 8, 9, 10, 11, 12, 13]))]
def xc125 : XC :=
 (.seq
 (.reg 64 [
 o 2 (.mv (ki 0))] [2])
 (.seq
 (.seq
 (.reg 128 [
 o 3 (.mv (.t 0)),
 o 4 (.bin .eql (.t 3) (.c (.int .u64 0)))] [3])
 (.cond (.t 4)
 (.seq
 (.reg 192 [
 o 2 (.mv (ki 64))] [0, 4])
 .ret)
 .skip))
 (.seq
 (.reg 256 [
 o 5 (.mv (.t 0)),
 o 6 (.mv (.t 0)),
 o 7 (.un .neg (.t 6)),
 o 8 (.bin .and (.t 5) (.t 7)),
 o 9 (.bin .mul (.t 8) (.c (.int .u64 285870213051353865))),
 o 10 (.bin .shr (.t 9) (.c (.int .u64 58))),
 o 11 (.idxA (some 64) 1 (.g 4) (.t 10)),
 o 12 (.load none (.t 11)),
 o 13 (.conv .i64 (.t 12)),
 o 2 (.mv (.t 13))] [0, 4, 5, 6, 7, 8, 9, 10, 11, 12, 13])
 .ret)))
def fe125 : FnE := ⟨14, [(2, none)], xc125⟩
theorem ok125 : FnOk Tryd.prog 125 fe125 := fnOk_of Tryd.func125 (by kernel_rfl : chkF Tryd.prog hs125 Tryd.f125 = some fe125)
def xpl : List (Nat × FnE) := [(10, fe10), (17, fe17), (19, fe19), (20, fe20), (21, fe21), (23, fe23), (24, fe24), (25, fe25), (26, fe26), (27, fe27), (28, fe28), (29, fe29), (30, fe30), (31, fe31), (32, fe32), (33, fe33), (34, fe34), (37, fe37), (39, fe39), (41, fe41), (42, fe42), (43, fe43), (44, fe44), (45, fe45), (46, fe46), (47, fe47), (48, fe48), (49, fe49), (50, fe50), (51, fe51), (52, fe52), (53, fe53), (54, fe54), (55, fe55), (56, fe56), (57, fe57), (58, fe58), (61, fe61), (62, fe62), (63, fe63), (64, fe64), (65, fe65), (66, fe66), (67, fe67), (68, fe68), (69, fe69), (70, fe70), (71, fe71), (72, fe72), (73, fe73), (74, fe74), (75, fe75), (76, fe76), (77, fe77), (78, fe78), (79, fe79), (80, fe80), (83, fe83), (84, fe84), (85, fe85), (86, fe86), (87, fe87), (88, fe88), (89, fe89), (90, fe90), (91, fe91), (92, fe92), (93, fe93), (94, fe94), (95, fe95), (96, fe96), (97, fe97), (98, fe98), (99, fe99), (100, fe100), (101, fe101), (102, fe102), (103, fe103), (108, fe108), (109, fe109), (110, fe110), (111, fe111), (112, fe112), (115, fe115), (116, fe116), (117, fe117), (118, fe118), (123, fe123), (124, fe124), (125, fe125)]
theorem xpOk : XpOk Tryd.prog (aget xpl) := xpOk_of (l := xpl) ⟨ok10, ok17, ok19, ok20, ok21, ok23, ok24, ok25, ok26, ok27, ok28, ok29, ok30, ok31, ok32, ok33, ok34, ok37, ok39, ok41, ok42, ok43, ok44, ok45, ok46, ok47, ok48, ok49, ok50, ok51, ok52, ok53, ok54, ok55, ok56, ok57, ok58, ok61, ok62, ok63, ok64, ok65, ok66, ok67, ok68, ok69, ok70, ok71, ok72, ok73, ok74, ok75, ok76, ok77, ok78, ok79, ok80, ok83, ok84, ok85, ok86, ok87, ok88, ok89, ok90, ok91, ok92, ok93, ok94, ok95, ok96, ok97, ok98, ok99, ok100, ok101, ok102, ok103, ok108, ok109, ok110, ok111, ok112, ok115, ok116, ok117, ok118, ok123, ok124, ok125, trivial⟩
end Go.Proofs.YtfafinkgmhkdmaaDoor.X
