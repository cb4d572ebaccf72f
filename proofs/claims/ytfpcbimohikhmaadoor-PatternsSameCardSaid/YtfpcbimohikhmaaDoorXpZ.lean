/-
 The functions of the translation, with types resolved (made by a program).
-/
import Derived.Test.YtfpcbimohikhmaaDoorProg
import Derived.Test.YtfpcbimohikhmaaDoorAb5
import Derived.KernelRfl
set_option linter.unusedVariables false
set_option maxRecDepth 1000000
namespace Go.Proofs.YtfpcbimohikhmaaDoor.X
open Go Go.Ab

abbrev o (d : Nat) (x : XOp) : XO := ⟨some d, x, none⟩
abbrev oi (d g : Nat) (b : Bool) (x : XOp) : XO := ⟨some d, x, some (g, b)⟩
abbrev ki (n : Int) : Opd := .c (.int .i64 n)
abbrev ku (n : Int) : Opd := .c (.int .u8 n)
abbrev tt (n : Nat) : Opd := .t n

/- 7 crimp/crimplaw06.PatternsSame -/
def hs7 : Hints := [(0, ([], [0, 1, 2, 6])), (1, ([0, 1, 2, 3, 4, 5, 6, 7], [4, 19, 20, 21, 22])), (2, ([], [23, 24, 25, 26, 27, 28, 29, 30, 31])), (3, ([], [3, 32, 33, 34])), (4, ([], [35, 36, 37, 38, 39, 40, 41])), (5, ([], [5, 9, 42, 43, 44, 45, 46, 47, 48, 49, 50, 51, 52, 53])), (6, ([], [3, 5, 32, 54, 55, 56, 57])), (7, ([], [58, 59, 60, 61, 62, 63, 64, 65, 66, 67, 68, 69, 70, 71])), (9, ([], [72, 73, 74, 75, 76, 77])), (11, ([0, 1, 2, 3, 4, 5, 6, 7, 8, 9, 10, 11, 12, 13], [11, 79, 82, 83, 84, 85, 86, 87, 88, 89, 90, 91])), (12, ([], [13, 14, 92, 93, 94, 95, 96, 97, 103, 104, 115])), (10, ([], [80, 81])), (13, ([], [8, 10, 11, 12, 144, 138, 143, 141, 142, 139, 140, 137, 135, 136, 132, 131, 129, 130, 126, 124, 125, 122, 123, 116, 117, 118, 119, 120, 121, 127, 128, 133, 134])), (14, ([], [7, 189, 186, 185, 182, 184, 183, 181, 145])), (15, ([], [6, 145])), (17, ([], [146])), (19, ([], [147])), (21, ([], [150, 151, 152, 153])), (23, ([], [154, 157, 158, 159, 160, 161, 162, 163])), (24, ([], [164, 165, 166])), (22, ([], [164, 155, 156])), (25, ([], [18, 167, 168, 169, 170])), (26, ([], [16, 7, 15, 189, 186, 185, 182, 184, 183, 181, 17, 171])), (27, ([], [6, 17, 171, 172, 173, 174])), (18, ([], [148, 149])), (28, ([0, 1, 2, 3, 4, 5, 6, 7, 8, 9, 10, 11, 12, 13, 14, 15, 16], [7, 189, 186, 185, 182, 184, 183, 181, 15, 16, 175, 176, 177, 178, 179, 180, 187, 188, 190]))]
def xc7 : XC :=
 (.seq
 (.reg 64 [
 o 3 (.box (.t 0)),
 o 4 (.box (.t 1)),
 o 5 (.box (.t 2)),
 o 6 (.mv (.c (.bool false)))] [0, 1, 2, 6])
 (.seq
 (.draw 128 [
 o 19 (.load (some 3) (.t 3)),
 o 20 (.call 14 [(.t 19)]),
 o 21 (.load (some 3) (.t 4)),
 o 22 (.call 14 [(.t 21)]),
 o 7 (.new (.cells [(.int .i64 0), (.int .i64 0), .nils]) 1 3),
 o 8 (.new (.cells [(.int .i64 0), (.int .i64 0), .nils]) 1 3),
 ⟨none, .store 3 (.t 7) (.t 20), none⟩,
 ⟨none, .store 3 (.t 8) (.t 22), none⟩]
 [[], [0], [], [2, 1], [], [], [4, 1, 3, 0, 1, 4, 5], [5, 3, 6, 0, 1, 2, 3, 4, 5, 6]]
 [0, 1, 2, 3, 4, 5, 6, 7] [4, 19, 20, 21, 22])
 (.seq
 (.seq
 (.reg 192 [
 o 23 (.idxA (some 2) 1 (.t 5) (ki 0)),
 o 24 (.load none (.t 23)),
 o 25 (.bin .rem (.t 24) (ku 3)),
 o 26 (.bin .gtr (.t 25) (ku 0)),
 o 27 (.mv (.t 26)),
 oi 28 27 true (.fieldA 2 (.t 7)),
 oi 29 27 true (.load none (.t 28)),
 oi 30 27 true (.len (.t 29)),
 oi 31 27 true (.bin .gtr (.t 30) (ki 0)),
 o 32 (.pick (.t 27) (.t 31) (.c (.bool false)))] [23, 24, 25, 26, 27, 28, 29, 30, 31])
 (.cond (.t 32)
 (.seq
 (.reg 256 [
 o 33 (.load (some 3) (.t 3)),
 o 34 (.call 14 [(.t 33)]),
 ⟨none, .store 3 (.t 8) (.t 34), none⟩] [3, 32, 33, 34])
 (.seq
 (.reg 320 [
 o 35 (.idxA (some 2) 1 (.t 5) (ki 1)),
 o 36 (.load none (.t 35)),
 o 37 (.conv .i64 (.t 36)),
 o 38 (.fieldA 2 (.t 8)),
 o 39 (.load none (.t 38)),
 o 40 (.len (.t 39)),
 o 41 (.bin .rem (.t 37) (.t 40)),
 o 9 (.mv (.t 41))] [35, 36, 37, 38, 39, 40, 41])
 (.reg 384 [
 o 42 (.fieldA 2 (.t 8)),
 o 43 (.load none (.t 42)),
 o 44 (.mv (.t 9)),
 o 45 (.idxA (some 2) 1 (.t 5) (ki 0)),
 o 46 (.load none (.t 45)),
 o 47 (.conv .i64 (.t 46)),
 o 48 (.bin .quo (.t 47) (ki 3)),
 o 49 (.bin .rem (.t 48) (ki 3)),
 o 50 (.bin .add (ki 1) (.t 49)),
 o 51 (.conv .u8 (.t 50)),
 o 52 (.idxA none 3 (.t 43) (.t 44)),
 o 53 (.fieldA 2 (.t 52)),
 ⟨none, .store 1 (.t 53) (.t 51), none⟩] [5, 9, 42, 43, 44, 45, 46, 47, 48, 49, 50, 51, 52, 53])))
 .skip))
 (.seq
 (.reg 448 [
 o 54 (.load (some 3) (.t 7)),
 o 55 (.load (some 3) (.t 8)),
 o 56 (.call 22 [(.t 54), (.t 55)]),
 o 57 (.bin .eql (.t 56) (ki 0)),
 o 10 (.mv (.t 57))] [3, 5, 32, 54, 55, 56, 57])
 (.seq
 (.reg 512 [
 o 58 (.fieldA 0 (.t 7)),
 o 59 (.load (some 2) (.t 58)),
 o 60 (.fieldA 0 (.t 8)),
 o 61 (.load (some 2) (.t 60)),
 o 62 (.eqa false 2 [(0, 0), (1, 0)] (.t 59) (.t 61)),
 o 63 (.mv (.t 62)),
 oi 64 63 true (.fieldA 2 (.t 7)),
 oi 65 63 true (.load none (.t 64)),
 oi 66 63 true (.len (.t 65)),
 oi 67 63 true (.fieldA 2 (.t 8)),
 oi 68 63 true (.load none (.t 67)),
 oi 69 63 true (.len (.t 68)),
 oi 70 63 true (.bin .eql (.t 66) (.t 69)),
 o 71 (.pick (.t 63) (.t 70) (.c (.bool false))),
 o 11 (.mv (.t 71))] [58, 59, 60, 61, 62, 63, 64, 65, 66, 67, 68, 69, 70, 71])
 (.seq
 (.seq
 (.reg 576 [
 o 12 (.mv (ki 0))] [])
 (.block 0
 (.loop
 (.seq
 (.seq
 (.reg 640 [
 o 72 (.mv (.t 12)),
 o 73 (.fieldA 2 (.t 7)),
 o 74 (.load none (.t 73)),
 o 75 (.len (.t 74)),
 o 76 (.bin .lss (.t 72) (.t 75)),
 o 77 (.mv (.t 76)),
 oi 78 77 true (.mv (.t 11)),
 o 79 (.pick (.t 77) (.t 78) (.c (.bool false)))] [72, 73, 74, 75, 76, 77])
 (.cond (.t 79)
 .skip
 (.exit 0)))
 (.seq
 (.block 1
 (.seq
 (.draw 768 [
 o 82 (.fieldA 2 (.t 7)),
 o 83 (.load none (.t 82)),
 o 84 (.mv (.t 12)),
 o 85 (.idxA none 3 (.t 83) (.t 84)),
 o 86 (.load (some 3) (.t 85)),
 o 87 (.fieldA 2 (.t 8)),
 o 88 (.load none (.t 87)),
 o 89 (.mv (.t 12)),
 o 90 (.idxA none 3 (.t 88) (.t 89)),
 o 91 (.load (some 3) (.t 90)),
 o 13 (.new (.cells [(.int .i64 0), (.int .u8 0), (.int .u8 0)]) 1 3),
 o 14 (.new (.cells [(.int .i64 0), (.int .u8 0), (.int .u8 0)]) 1 3),
 ⟨none, .store 3 (.t 13) (.t 86), none⟩,
 ⟨none, .store 3 (.t 14) (.t 91), none⟩]
 [[], [0], [], [1, 2], [3], [], [5], [], [6, 7], [8], [], [], [10, 4, 0, 1, 2, 3, 4, 10, 11], [11, 9, 12, 0, 1, 2, 3, 4, 5, 6, 7, 8, 9, 10, 11, 12]]
 [0, 1, 2, 3, 4, 5, 6, 7, 8, 9, 10, 11, 12, 13] [11, 79, 82, 83, 84, 85, 86, 87, 88, 89, 90, 91])
 (.reg 832 [
 o 92 (.fieldA 0 (.t 13)),
 o 93 (.load none (.t 92)),
 o 94 (.fieldA 0 (.t 14)),
 o 95 (.load none (.t 94)),
 o 96 (.bin .eql (.t 93) (.t 95)),
 o 97 (.mv (.t 96)),
 oi 98 97 true (.fieldA 1 (.t 13)),
 oi 99 97 true (.load none (.t 98)),
 oi 100 97 true (.fieldA 1 (.t 14)),
 oi 101 97 true (.load none (.t 100)),
 oi 102 97 true (.bin .eql (.t 99) (.t 101)),
 o 103 (.pick (.t 97) (.t 102) (.c (.bool false))),
 o 104 (.mv (.t 103)),
 oi 105 104 true (.fieldA 2 (.t 13)),
 oi 106 104 true (.load none (.t 105)),
 oi 107 104 true (.fieldA 2 (.t 14)),
 oi 108 104 true (.load none (.t 107)),
 oi 109 104 true (.bin .eql (.t 106) (.t 108)),
 oi 110 104 true (.mv (.t 109)),
 oi 111 110 false (.fieldA 2 (.t 14)),
 oi 112 110 false (.load none (.t 111)),
 oi 113 110 false (.bin .eql (.t 112) (ku 3)),
 oi 114 104 true (.pick (.t 110) (.c (.bool true)) (.t 113)),
 o 115 (.pick (.t 104) (.t 114) (.c (.bool false))),
 o 11 (.mv (.t 115))] [13, 14, 92, 93, 94, 95, 96, 97, 103, 104, 115])))
 (.reg 704 [
 o 80 (.mv (.t 12)),
 o 81 (.bin .add (.t 80) (ki 1)),
 o 12 (.mv (.t 81))] [80, 81]))))))
 (.seq
 (.seq
 (.reg 896 [
 o 116 (.load (some 3) (.t 7)),
 o 117 (.load (some 3) (.t 8)),
 o 118 (.call 32 [(.t 116), (.t 117)]),
 o 119 (.mv (.t 10)),
 o 120 (.eqb true (.t 118) (.t 119)),
 o 121 (.mv (.t 120)),
 oi 122 121 false (.load (some 3) (.t 7)),
 oi 123 121 false (.load (some 3) (.t 8)),
 oi 124 121 false (.call 33 [(.t 122), (.t 123)]),
 oi 125 121 false (.mv (.t 11)),
 oi 126 121 false (.eqb true (.t 124) (.t 125)),
 o 127 (.pick (.t 121) (.c (.bool true)) (.t 126)),
 o 128 (.mv (.t 127)),
 oi 129 128 false (.load (some 3) (.t 7)),
 oi 130 128 false (.load (some 3) (.t 7)),
 oi 131 128 false (.call 33 [(.t 129), (.t 130)]),
 oi 132 128 false (.un .not (.t 131)),
 o 133 (.pick (.t 128) (.c (.bool true)) (.t 132)),
 o 134 (.mv (.t 133)),
 oi 135 134 false (.load (some 3) (.t 7)),
 oi 136 134 false (.load (some 3) (.t 8)),
 oi 137 134 false (.call 33 [(.t 135), (.t 136)]),
 oi 138 134 false (.mv (.t 137)),
 oi 139 138 true (.load (some 3) (.t 8)),
 oi 140 138 true (.load (some 3) (.t 7)),
 oi 141 138 true (.call 33 [(.t 139), (.t 140)]),
 oi 142 138 true (.mv (.t 10)),
 oi 143 138 true (.eqb true (.t 141) (.t 142)),
 oi 144 134 false (.pick (.t 138) (.t 143) (.c (.bool false))),
 o 145 (.pick (.t 134) (.c (.bool true)) (.t 144))] [8, 10, 11, 12, 144, 138, 143, 141, 142, 139, 140, 137, 135, 136, 132, 131, 129, 130, 126, 124, 125, 122, 123, 116, 117, 118, 119, 120, 121, 127, 128, 133, 134])
 (.cond (.t 145)
 (.seq
 (.reg 960 [
 o 6 (.mv (.c (.bool false)))] [7, 189, 186, 185, 182, 184, 183, 181, 145])
 .ret)
 .skip))
 (.seq
 (.reg 1024 [
 o 15 (.mv (ki 0))] [6, 145])
 (.seq
 (.seq
 (.reg 1088 [
 o 16 (.mv (ku 1))] [])
 (.block 2
 (.loop
 (.seq
 (.seq
 (.reg 1152 [
 o 146 (.mv (.t 16)),
 o 147 (.bin .leq (.t 146) (ku 3))] [146])
 (.cond (.t 147)
 .skip
 (.exit 2)))
 (.seq
 (.block 3
 (.seq
 (.reg 1280 [
 o 17 (.mv (ki 0))] [147])
 (.seq
 (.seq
 (.reg 1344 [
 o 18 (.mv (ki 0))] [])
 (.block 4
 (.loop
 (.seq
 (.seq
 (.reg 1408 [
 o 150 (.mv (.t 18)),
 o 151 (.fieldA 2 (.t 7)),
 o 152 (.load none (.t 151)),
 o 153 (.len (.t 152)),
 o 154 (.bin .lss (.t 150) (.t 153))] [150, 151, 152, 153])
 (.cond (.t 154)
 .skip
 (.exit 4)))
 (.seq
 (.block 5
 (.seq
 (.reg 1536 [
 o 157 (.fieldA 2 (.t 7)),
 o 158 (.load none (.t 157)),
 o 159 (.mv (.t 18)),
 o 160 (.idxA none 3 (.t 158) (.t 159)),
 o 161 (.fieldA 2 (.t 160)),
 o 162 (.load none (.t 161)),
 o 163 (.mv (.t 16)),
 o 164 (.bin .eql (.t 162) (.t 163))] [154, 157, 158, 159, 160, 161, 162, 163])
 (.cond (.t 164)
 (.reg 1600 [
 o 165 (.mv (.t 17)),
 o 166 (.bin .add (.t 165) (ki 1)),
 o 17 (.mv (.t 166))] [164, 165, 166])
 .skip)))
 (.reg 1472 [
 o 155 (.mv (.t 18)),
 o 156 (.bin .add (.t 155) (ki 1)),
 o 18 (.mv (.t 156))] [164, 155, 156]))))))
 (.seq
 (.seq
 (.reg 1664 [
 o 167 (.load (some 3) (.t 7)),
 o 168 (.mv (.t 16)),
 o 169 (.call 34 [(.t 167), (.t 168)]),
 o 170 (.mv (.t 17)),
 o 171 (.bin .neq (.t 169) (.t 170))] [18, 167, 168, 169, 170])
 (.cond (.t 171)
 (.seq
 (.reg 1728 [
 o 6 (.mv (.c (.bool false)))] [16, 7, 15, 189, 186, 185, 182, 184, 183, 181, 17, 171])
 .ret)
 .skip))
 (.reg 1792 [
 o 172 (.mv (.t 15)),
 o 173 (.mv (.t 17)),
 o 174 (.bin .add (.t 172) (.t 173)),
 o 15 (.mv (.t 174))] [6, 17, 171, 172, 173, 174])))))
 (.reg 1216 [
 o 148 (.mv (.t 16)),
 o 149 (.bin .add (.t 148) (ku 1)),
 o 16 (.mv (.t 149))] [148, 149]))))))
 (.seq
 (.draw 1856 [
 o 175 (.mv (.t 15)),
 o 176 (.fieldA 2 (.t 7)),
 o 177 (.load none (.t 176)),
 o 178 (.len (.t 177)),
 o 179 (.bin .eql (.t 175) (.t 178)),
 o 180 (.mv (.t 179)),
 oi 181 180 true (.load (some 3) (.t 7)),
 oi 182 180 true (.call 34 [(.t 181), (ku 0)]),
 oi 183 180 true (.load (some 3) (.t 7)),
 oi 184 180 true (.call 34 [(.t 183), (ku 4)]),
 oi 185 180 true (.bin .add (.t 182) (.t 184)),
 oi 186 180 true (.bin .eql (.t 185) (ki 0)),
 o 187 (.pick (.t 180) (.t 186) (.c (.bool false))),
 o 188 (.mv (.t 187)),
 oi 189 188 true (.call 18 []),
 o 190 (.pick (.t 188) (.t 189) (.c (.bool false))),
 o 6 (.mv (.t 190))]
 [[], [], [1], [2], [0, 3], [4], [5], [6, 5, 5], [5], [8, 7, 5], [7, 9, 5], [10, 5], [5, 11], [12, 9], [13, 13], [13, 14], [15, 14, 0, 1, 2, 3, 4, 5, 6, 7, 8, 9, 10, 11, 12, 13, 14, 15]]
 [0, 1, 2, 3, 4, 5, 6, 7, 8, 9, 10, 11, 12, 13, 14, 15, 16] [7, 189, 186, 185, 182, 184, 183, 181, 15, 16, 175, 176, 177, 178, 179, 180, 187, 188, 190])
 .ret))))))))))
def fe7 : FnE := ⟨191, [(6, none)], xc7⟩
theorem ok7 : FnOk Tryd.prog 7 fe7 := fnOk_of Tryd.func7 (by kernel_rfl : chkF Tryd.prog hs7 Tryd.f7 = some fe7)
/- 14 (crimp/crimplaw06.P).Of -/
def hs14 : Hints := [(0, ([], [0])), (1, ([], [6, 7, 8, 9, 10, 11, 12, 13, 14, 15, 16])), (2, ([], [17, 18, 19, 20, 21, 22, 23])), (4, ([], [24, 25, 26, 27, 28])), (6, ([], [34, 37, 38, 39, 40, 41, 42, 43, 44, 45])), (5, ([], [35, 36])), (7, ([], [1, 3, 4, 5, 46, 47, 48]))]
def xc14 : XC :=
 (.seq
 (.reg 64 [
 o 1 (.box (.t 0)),
 o 2 (.new (.cells [(.int .i64 0), (.int .i64 0), .nils]) 1 3)] [0])
 (.seq
 (.reg 128 [
 o 6 (.fieldA 0 (.t 1)),
 o 7 (.load none (.t 6)),
 o 8 (.bin .rem (.t 7) (ku 4)),
 o 9 (.conv .i64 (.t 8)),
 o 10 (.bin .add (ki 1) (.t 9)),
 o 11 (.fieldA 1 (.t 1)),
 o 12 (.load none (.t 11)),
 o 13 (.bin .rem (.t 12) (ku 4)),
 o 14 (.conv .i64 (.t 13)),
 o 15 (.bin .add (ki 1) (.t 14)),
 o 16 (.build [(.int .i64 0), (.int .i64 0)] [(0, 1, (.t 10)), (1, 1, (.t 15))]),
 o 3 (.new (.cells [(.int .i64 0), (.int .i64 0)]) 1 2),
 ⟨none, .store 2 (.t 3) (.t 16), none⟩] [6, 7, 8, 9, 10, 11, 12, 13, 14, 15, 16])
 (.seq
 (.reg 192 [
 o 17 (.fieldA 0 (.t 3)),
 o 18 (.load none (.t 17)),
 o 19 (.bin .mul (ki 6) (.t 18)),
 o 20 (.fieldA 1 (.t 3)),
 o 21 (.load none (.t 20)),
 o 22 (.bin .mul (.t 19) (.t 21)),
 o 23 (.mks 1 1 5 [(.int .u8 0)] (.t 22) (.t 22)),
 o 4 (.mv (.t 23))] [17, 18, 19, 20, 21, 22, 23])
 (.seq
 (.seq
 (.reg 256 [
 o 5 (.mv (ki 0))] [])
 (.block 0
 (.loop
 (.seq
 (.seq
 (.reg 320 [
 o 24 (.mv (.t 5)),
 o 25 (.mv (.t 4)),
 o 26 (.len (.t 25)),
 o 27 (.bin .lss (.t 24) (.t 26)),
 o 28 (.mv (.t 27)),
 oi 29 28 true (.mv (.t 5)),
 oi 30 28 true (.fieldA 2 (.t 1)),
 oi 31 28 true (.load none (.t 30)),
 oi 32 28 true (.len (.t 31)),
 oi 33 28 true (.bin .lss (.t 29) (.t 32)),
 o 34 (.pick (.t 28) (.t 33) (.c (.bool false)))] [24, 25, 26, 27, 28])
 (.cond (.t 34)
 .skip
 (.exit 0)))
 (.seq
 (.block 1
 (.reg 448 [
 o 37 (.mv (.t 4)),
 o 38 (.mv (.t 5)),
 o 39 (.fieldA 2 (.t 1)),
 o 40 (.load none (.t 39)),
 o 41 (.mv (.t 5)),
 o 42 (.idxA none 1 (.t 40) (.t 41)),
 o 43 (.load none (.t 42)),
 o 44 (.bin .rem (.t 43) (ku 4)),
 o 45 (.idxA none 1 (.t 37) (.t 38)),
 ⟨none, .store 1 (.t 45) (.t 44), none⟩] [34, 37, 38, 39, 40, 41, 42, 43, 44, 45]))
 (.reg 384 [
 o 35 (.mv (.t 5)),
 o 36 (.bin .add (.t 35) (ki 1)),
 o 5 (.mv (.t 36))] [35, 36]))))))
 (.seq
 (.reg 512 [
 o 46 (.load (some 2) (.t 3)),
 o 47 (.mv (.t 4)),
 o 48 (.call 23 [(.t 46), (.t 47)]),
 ⟨none, .store 3 (.t 2) (.t 48), none⟩] [1, 3, 4, 5, 46, 47, 48])
 .ret)))))
def fe14 : FnE := ⟨49, [(2, some (some 3))], xc14⟩
theorem ok14 : FnOk Tryd.prog 14 fe14 := fnOk_of Tryd.func14 (by kernel_rfl : chkF Tryd.prog hs14 Tryd.f14 = some fe14)
/- 15 crimp/patterns.Set -/
def hs15 : Hints := [(0, ([], [0, 9])), (1, ([], [1, 2, 17, 18, 19, 20, 16, 21, 22, 23, 24])), (2, ([], [25])), (3, ([], [3, 4, 10, 11, 12, 13, 26, 27, 28])), (4, ([], [9, 13, 26, 29, 30, 31, 32, 33, 34])), (5, ([], [3, 4, 10, 11, 12, 35, 36])), (6, ([], [9, 35, 37])), (7, ([], [12])), (8, ([], [38, 39, 40])), (9, ([], [38, 41, 42, 43, 44, 45])), (10, ([], [11, 46, 47, 48, 49, 50, 51])), (11, ([], [52])), (12, ([], [3, 10, 53, 54, 55, 56, 57, 58, 59, 60, 61, 62])), (13, ([], [14, 3, 10, 53, 63, 64, 65, 66, 67, 68])), (14, ([0, 1, 2, 3, 4, 5, 6], [4, 15, 69, 70, 71, 72, 73]))]
def xc15 : XC :=
 (.seq
 (.reg 64 [
 o 4 (.box (.t 0)),
 o 8 (.new (.cells [(.int .i64 0), (.int .i64 0), .nils]) 1 3),
 o 9 (.mv (ki 0))] [0, 9])
 (.seq
 (.reg 128 [
 o 17 (.load (some 3) (.t 4)),
 o 18 (.mv (.t 1)),
 o 19 (.mv (.t 2)),
 o 20 (.call 50 [(.t 17), (.t 18), (.t 19)]),
 o 16 (.mv (.t 20)),
 o 21 (.ext (.t 16) 0),
 o 22 (.ext (.t 16) 1),
 o 23 (.ext (.t 16) 2),
 o 24 (.ext (.t 16) 3),
 o 10 (.new (.cells [(.int .i64 0), (.int .u8 0)]) 1 2),
 ⟨none, .store 2 (.t 10) (.t 21), none⟩,
 o 11 (.mv (.t 22)),
 o 12 (.mv (.t 23)),
 o 13 (.mv (.t 24))] [1, 2, 17, 18, 19, 20, 16, 21, 22, 23, 24])
 (.seq
 (.seq
 (.reg 192 [
 o 25 (.mv (.t 13)),
 o 26 (.bin .neq (.t 25) (ki 0))] [25])
 (.cond (.t 26)
 (.seq
 (.reg 256 [
 o 27 (.build [(.int .i64 0), (.int .i64 0), .nils] []),
 o 28 (.mv (.t 13)),
 ⟨none, .store 3 (.t 8) (.t 27), none⟩,
 o 9 (.mv (.t 28))] [3, 4, 10, 11, 12, 13, 26, 27, 28])
 .ret)
 .skip))
 (.seq
 (.seq
 (.reg 320 [
 o 29 (.mv (.t 3)),
 o 30 (.bin .neq (.t 29) (ku 0)),
 o 31 (.mv (.t 30)),
 oi 32 31 true (.mv (.t 3)),
 oi 33 31 true (.call 51 [(.t 32)]),
 oi 34 31 true (.un .not (.t 33)),
 o 35 (.pick (.t 31) (.t 34) (.c (.bool false)))] [9, 13, 26, 29, 30, 31, 32, 33, 34])
 (.cond (.t 35)
 (.seq
 (.reg 384 [
 o 36 (.build [(.int .i64 0), (.int .i64 0), .nils] []),
 ⟨none, .store 3 (.t 8) (.t 36), none⟩,
 o 9 (.mv (ki 1))] [3, 4, 10, 11, 12, 35, 36])
 .ret)
 .skip))
 (.seq
 (.reg 448 [
 o 37 (.mv (.t 11)),
 o 14 (.mv (.t 37))] [9, 35, 37])
 (.seq
 (.seq
 (.reg 512 [
 o 38 (.mv (.t 12))] [12])
 (.cond (.t 38)
 (.reg 576 [
 o 39 (.mv (.t 14)),
 o 40 (.bin .add (.t 39) (ki 1)),
 o 14 (.mv (.t 40))] [38, 39, 40])
 .skip))
 (.seq
 (.reg 640 [
 o 41 (.fieldA 2 (.t 4)),
 o 42 (.load none (.t 41)),
 o 43 (.len (.t 42)),
 o 44 (.bin .add (.t 43) (ki 1)),
 o 45 (.mks 3 16 0 [(.int .i64 0), (.int .u8 0), (.int .u8 0)] (ki 0) (.t 44)),
 o 15 (.mv (.t 45))] [38, 41, 42, 43, 44, 45])
 (.seq
 (.reg 704 [
 o 46 (.mv (.t 15)),
 o 47 (.fieldA 2 (.t 4)),
 o 48 (.load none (.t 47)),
 o 49 (.mv (.t 11)),
 o 50 (.slice 3 (.t 48) none (some (.t 49)) none),
 o 51 (.append 3 16 0 (.t 46) (.t 50)),
 o 15 (.mv (.t 51))] [11, 46, 47, 48, 49, 50, 51])
 (.seq
 (.seq
 (.reg 768 [
 o 52 (.mv (.t 3)),
 o 53 (.bin .neq (.t 52) (ku 0))] [52])
 (.cond (.t 53)
 (.reg 832 [
 o 54 (.mv (.t 15)),
 o 55 (.fieldA 0 (.t 10)),
 o 56 (.load none (.t 55)),
 o 57 (.fieldA 1 (.t 10)),
 o 58 (.load none (.t 57)),
 o 59 (.mv (.t 3)),
 o 60 (.build [(.int .i64 0), (.int .u8 0), (.int .u8 0)] [(0, 1, (.t 56)), (1, 1, (.t 58)), (2, 1, (.t 59))]),
 o 61 (.buildS 3 1 0 [(.int .i64 0), (.int .u8 0), (.int .u8 0)] [(0, 3, (.t 60))]),
 o 62 (.append 3 16 0 (.t 54) (.t 61)),
 o 15 (.mv (.t 62))] [3, 10, 53, 54, 55, 56, 57, 58, 59, 60, 61, 62])
 .skip))
 (.seq
 (.reg 896 [
 o 63 (.mv (.t 15)),
 o 64 (.fieldA 2 (.t 4)),
 o 65 (.load none (.t 64)),
 o 66 (.mv (.t 14)),
 o 67 (.slice 3 (.t 65) (some (.t 66)) none none),
 o 68 (.append 3 16 0 (.t 63) (.t 67)),
 o 15 (.mv (.t 68))] [14, 3, 10, 53, 63, 64, 65, 66, 67, 68])
 (.seq
 (.draw 960 [
 o 69 (.fieldA 0 (.t 4)),
 o 70 (.load (some 2) (.t 69)),
 o 71 (.mv (.t 15)),
 o 72 (.call 52 [(.t 71)]),
 o 73 (.build [(.int .i64 0), (.int .i64 0), .nils] [(0, 2, (.t 70)), (2, 1, (.t 72))]),
 ⟨none, .store 3 (.t 8) (.t 73), none⟩,
 o 9 (.mv (ki 0))]
 [[], [0], [], [2], [1, 3], [4, 3, 0, 1, 2, 3, 4], [5, 0, 1, 2, 3, 4, 5]]
 [0, 1, 2, 3, 4, 5, 6] [4, 15, 69, 70, 71, 72, 73])
 .ret)))))))))))
def fe15 : FnE := ⟨74, [(8, some (some 3)), (9, none)], xc15⟩
theorem ok15 : FnOk Tryd.prog 15 fe15 := fnOk_of Tryd.func15 (by kernel_rfl : chkF Tryd.prog hs15 Tryd.f15 = some fe15)
/- 16 crimp/patterns.Kind -/
def hs16 : Hints := [(0, ([], [0, 6, 7])), (1, ([], [1, 2, 13, 14, 15, 16, 12, 17, 18, 19, 20, 8])), (2, ([], [10, 21, 22, 23, 24, 25])), (3, ([], [3, 9, 11, 26, 27])), (4, ([], [3, 9, 11, 26, 28, 29, 30, 31, 32, 33]))]
def xc16 : XC :=
 (.seq
 (.reg 64 [
 o 3 (.box (.t 0)),
 o 6 (.mv (ku 0)),
 o 7 (.mv (ki 0))] [0, 6, 7])
 (.seq
 (.reg 128 [
 o 13 (.load (some 3) (.t 3)),
 o 14 (.mv (.t 1)),
 o 15 (.mv (.t 2)),
 o 16 (.call 50 [(.t 13), (.t 14), (.t 15)]),
 o 12 (.mv (.t 16)),
 o 17 (.ext (.t 12) 0),
 o 18 (.ext (.t 12) 1),
 o 19 (.ext (.t 12) 2),
 o 20 (.ext (.t 12) 3),
 o 8 (.new (.cells [(.int .i64 0), (.int .u8 0)]) 1 2),
 ⟨none, .store 2 (.t 8) (.t 17), none⟩,
 o 9 (.mv (.t 18)),
 o 10 (.mv (.t 19)),
 o 11 (.mv (.t 20))] [1, 2, 13, 14, 15, 16, 12, 17, 18, 19, 20, 8])
 (.seq
 (.seq
 (.reg 192 [
 o 21 (.mv (.t 11)),
 o 22 (.bin .neq (.t 21) (ki 0)),
 o 23 (.mv (.t 22)),
 oi 24 23 false (.mv (.t 10)),
 oi 25 23 false (.un .not (.t 24)),
 o 26 (.pick (.t 23) (.c (.bool true)) (.t 25))] [10, 21, 22, 23, 24, 25])
 (.cond (.t 26)
 (.seq
 (.reg 256 [
 o 27 (.mv (.t 11)),
 o 6 (.mv (ku 0)),
 o 7 (.mv (.t 27))] [3, 9, 11, 26, 27])
 .ret)
 .skip))
 (.seq
 (.reg 320 [
 o 28 (.fieldA 2 (.t 3)),
 o 29 (.load none (.t 28)),
 o 30 (.mv (.t 9)),
 o 31 (.idxA none 3 (.t 29) (.t 30)),
 o 32 (.fieldA 2 (.t 31)),
 o 33 (.load none (.t 32)),
 o 6 (.mv (.t 33)),
 o 7 (.mv (ki 0))] [3, 9, 11, 26, 28, 29, 30, 31, 32, 33])
 .ret))))
def fe16 : FnE := ⟨34, [(6, none), (7, none)], xc16⟩
theorem ok16 : FnOk Tryd.prog 16 fe16 := fnOk_of Tryd.func16 (by kernel_rfl : chkF Tryd.prog hs16 Tryd.f16 = some fe16)
/- 17 crimp/crimpref06.Unit -/
def hs17 : Hints := [(0, ([], [0, 6])), (1, ([], [10, 11, 12, 13, 14, 15, 16, 17, 18, 19, 20, 21, 22, 23, 24, 25, 26, 27, 28])), (2, ([], [1, 2, 3, 29])), (3, ([], [6, 29, 30, 31, 32, 33])), (4, ([], [3, 34, 35])), (6, ([], [36, 37, 38])), (8, ([], [39, 42, 43, 44, 54, 55])), (9, ([], [9, 63, 61, 62, 2, 60, 59, 58, 56, 57, 8, 53, 49, 52, 50, 51, 7, 1, 48, 47, 45, 46, 64, 65])), (7, ([], [6, 64, 40, 41])), (10, ([], [1, 2, 7, 8, 9]))]
def xc17 : XC :=
 (.seq
 (.reg 64 [
 o 3 (.box (.t 0)),
 o 6 (.mv (ki 0))] [0, 6])
 (.seq
 (.seq
 (.reg 128 [
 o 10 (.mv (.t 1)),
 o 11 (.bin .lss (.t 10) (ki 0)),
 o 12 (.mv (.t 11)),
 oi 13 12 false (.mv (.t 1)),
 oi 14 12 false (.fieldA 0 (.t 3)),
 oi 15 12 false (.load none (.t 14)),
 oi 16 12 false (.bin .mul (ki 4) (.t 15)),
 oi 17 12 false (.fieldA 1 (.t 3)),
 oi 18 12 false (.load none (.t 17)),
 oi 19 12 false (.bin .mul (.t 16) (.t 18)),
 oi 20 12 false (.bin .geq (.t 13) (.t 19)),
 o 21 (.pick (.t 12) (.c (.bool true)) (.t 20)),
 o 22 (.mv (.t 21)),
 oi 23 22 false (.mv (.t 2)),
 oi 24 22 false (.bin .lss (.t 23) (ki 0)),
 o 25 (.pick (.t 22) (.c (.bool true)) (.t 24)),
 o 26 (.mv (.t 25)),
 oi 27 26 false (.mv (.t 2)),
 oi 28 26 false (.bin .gtr (.t 27) (ki 2)),
 o 29 (.pick (.t 26) (.c (.bool true)) (.t 28))] [10, 11, 12, 13, 14, 15, 16, 17, 18, 19, 20, 21, 22, 23, 24, 25, 26, 27, 28])
 (.cond (.t 29)
 (.seq
 (.reg 192 [
 o 6 (.mv (ki (-1)))] [1, 2, 3, 29])
 .ret)
 .skip))
 (.seq
 (.reg 256 [
 o 30 (.load (some 2) (.t 3)),
 o 31 (.mv (.t 1)),
 o 32 (.mv (.t 2)),
 o 33 (.call 21 [(.t 30), (.t 31), (.t 32)]),
 o 7 (.mv (.t 33))] [6, 29, 30, 31, 32, 33])
 (.seq
 (.reg 320 [
 o 34 (.load (some 2) (.t 3)),
 o 35 (.call 20 [(.t 34)]),
 o 8 (.mv (.t 35))] [3, 34, 35])
 (.seq
 (.seq
 (.reg 384 [
 o 9 (.mv (ki 0))] [])
 (.block 0
 (.loop
 (.seq
 (.seq
 (.reg 448 [
 o 36 (.mv (.t 9)),
 o 37 (.mv (.t 8)),
 o 38 (.len (.t 37)),
 o 39 (.bin .lss (.t 36) (.t 38))] [36, 37, 38])
 (.cond (.t 39)
 .skip
 (.exit 0)))
 (.seq
 (.block 1
 (.seq
 (.reg 576 [
 o 42 (.mv (.t 7)),
 o 43 (.bin .geq (.t 42) (ki 0)),
 o 44 (.mv (.t 43)),
 oi 45 44 true (.mv (.t 8)),
 oi 46 44 true (.mv (.t 9)),
 oi 47 44 true (.idxA none 2 (.t 45) (.t 46)),
 oi 48 44 true (.fieldA 0 (.t 47)),
 oi 49 44 true (.load none (.t 48)),
 oi 50 44 true (.mv (.t 1)),
 oi 51 44 true (.mv (.t 7)),
 oi 52 44 true (.mm false [(.t 50), (.t 51)]),
 oi 53 44 true (.bin .eql (.t 49) (.t 52)),
 o 54 (.pick (.t 44) (.t 53) (.c (.bool false))),
 o 55 (.mv (.t 54)),
 oi 56 55 true (.mv (.t 8)),
 oi 57 55 true (.mv (.t 9)),
 oi 58 55 true (.idxA none 2 (.t 56) (.t 57)),
 oi 59 55 true (.fieldA 1 (.t 58)),
 oi 60 55 true (.load none (.t 59)),
 oi 61 55 true (.conv .i64 (.t 60)),
 oi 62 55 true (.mv (.t 2)),
 oi 63 55 true (.bin .eql (.t 61) (.t 62)),
 o 64 (.pick (.t 55) (.t 63) (.c (.bool false)))] [39, 42, 43, 44, 54, 55])
 (.cond (.t 64)
 (.seq
 (.reg 640 [
 o 65 (.mv (.t 9)),
 o 6 (.mv (.t 65))] [9, 63, 61, 62, 2, 60, 59, 58, 56, 57, 8, 53, 49, 52, 50, 51, 7, 1, 48, 47, 45, 46, 64, 65])
 .ret)
 .skip)))
 (.reg 512 [
 o 40 (.mv (.t 9)),
 o 41 (.bin .add (.t 40) (ki 1)),
 o 9 (.mv (.t 41))] [6, 64, 40, 41]))))))
 (.seq
 (.reg 704 [
 o 6 (.mv (ki (-1)))] [1, 2, 7, 8, 9])
 .ret))))))
def fe17 : FnE := ⟨66, [(6, none)], xc17⟩
theorem ok17 : FnOk Tryd.prog 17 fe17 := fnOk_of Tryd.func17 (by kernel_rfl : chkF Tryd.prog hs17 Tryd.f17 = some fe17)
/- 18 crimp/crimplaw06.lives -/
def hs18 : Hints := [(0, ([], [0])), (2, ([], [21, 22, 23, 20, 24, 25])), (3, ([], [27, 28, 26, 29, 30, 7])), (4, ([], [32, 33, 31, 34, 35])), (5, ([], [37, 38, 36, 39, 40, 11])), (6, ([], [42, 43, 44, 45, 46, 47, 48, 41, 49, 50, 13])), (7, ([0, 1, 2, 3, 4, 5, 6, 7, 8, 9, 10, 11, 12, 13, 14, 15, 16, 17, 18, 19, 20, 21, 22, 23, 24, 25, 26, 27, 28, 29, 30, 31, 32, 33, 34, 35, 36, 37, 38, 39, 40, 41, 42, 43], [4, 5, 6, 8, 9, 10, 12, 51, 52, 53, 54, 55, 56, 57, 58, 59, 60, 61, 62, 63, 64, 65, 66, 67, 68, 69, 70, 71, 72, 73, 74, 75, 76, 77, 78, 79, 80, 81, 82, 83, 84, 85, 86, 87, 88, 89, 90, 91, 92, 93])), (8, ([], [1, 2, 3, 94])), (9, ([], [0, 94, 96, 97, 98, 95, 99, 100, 14])), (10, ([], [102, 103, 104, 101, 105, 106, 16])), (11, ([], [1, 108, 109, 110, 107, 111, 112, 18])), (12, ([], [2, 3, 15, 17, 19, 113, 114, 115, 116, 117, 118, 119, 120, 121, 122, 123, 124, 125, 126, 127, 128, 129, 130, 131, 132, 133, 134, 135, 136, 137, 138, 139, 140, 141, 142, 143, 144, 145, 146, 147, 148, 149, 150, 151, 152, 153, 154, 155, 156, 157, 158, 159, 160, 161, 162, 163]))]
def xc18 : XC :=
 (.seq
 (.reg 64 [
 o 0 (.mv (.c (.bool false)))] [0])
 (.seq
 (.reg 128 [
 o 1 (.mv (ku 1)),
 o 2 (.mv (ku 2)),
 o 3 (.mv (ku 3))] [])
 (.seq
 (.reg 192 [
 o 21 (.call 53 [(.c .nils)]),
 o 22 (.mv (.t 1)),
 o 23 (.call 15 [(.t 21), (ki 7), (ku 0), (.t 22)]),
 o 20 (.mv (.t 23)),
 o 24 (.ext (.t 20) 0),
 o 25 (.ext (.t 20) 1),
 o 4 (.new (.cells [(.int .i64 0), (.int .i64 0), .nils]) 1 3),
 ⟨none, .store 3 (.t 4) (.t 24), none⟩,
 o 5 (.mv (.t 25))] [21, 22, 23, 20, 24, 25])
 (.seq
 (.reg 256 [
 o 27 (.load (some 3) (.t 4)),
 o 28 (.call 16 [(.t 27), (ki 1), (ku 0)]),
 o 26 (.mv (.t 28)),
 o 29 (.ext (.t 26) 0),
 o 30 (.ext (.t 26) 1),
 o 6 (.mv (.t 29)),
 o 7 (.mv (.t 30))] [27, 28, 26, 29, 30, 7])
 (.seq
 (.reg 320 [
 o 32 (.load (some 3) (.t 4)),
 o 33 (.call 16 [(.t 32), (ki 0), (ku 1)]),
 o 31 (.mv (.t 33)),
 o 34 (.ext (.t 31) 0),
 o 35 (.ext (.t 31) 1),
 o 8 (.mv (.t 34)),
 o 9 (.mv (.t 35))] [32, 33, 31, 34, 35])
 (.seq
 (.reg 384 [
 o 37 (.load (some 3) (.t 4)),
 o 38 (.call 24 [(.t 37)]),
 o 36 (.mv (.t 38)),
 o 39 (.ext (.t 36) 0),
 o 40 (.ext (.t 36) 1),
 o 10 (.new (.cells [(.int .i64 0), (.int .i64 0), .nils]) 1 3),
 ⟨none, .store 3 (.t 10) (.t 39), none⟩,
 o 11 (.mv (.t 40))] [37, 38, 36, 39, 40, 11])
 (.seq
 (.reg 448 [
 o 42 (.mv (.t 2)),
 o 43 (.call 36 [(ki 0), (ku 1), (.t 42)]),
 o 44 (.mv (.t 3)),
 o 45 (.call 36 [(ki 0), (ku 2), (.t 44)]),
 o 46 (.buildS 3 2 0 [(.int .i64 0), (.int .u8 0), (.int .u8 0)] [(0, 3, (.t 43)), (3, 3, (.t 45))]),
 o 47 (.call 53 [(.t 46)]),
 o 48 (.call 24 [(.t 47)]),
 o 41 (.mv (.t 48)),
 o 49 (.ext (.t 41) 0),
 o 50 (.ext (.t 41) 1),
 o 12 (.new (.cells [(.int .i64 0), (.int .i64 0), .nils]) 1 3),
 ⟨none, .store 3 (.t 12) (.t 49), none⟩,
 o 13 (.mv (.t 50))] [42, 43, 44, 45, 46, 47, 48, 41, 49, 50, 13])
 (.seq
 (.seq
 (.draw 512 [
 o 51 (.mv (.t 5)),
 o 52 (.bin .neq (.t 51) (ki 0)),
 o 53 (.mv (.t 52)),
 oi 54 53 false (.mv (.t 9)),
 oi 55 53 false (.bin .neq (.t 54) (ki 0)),
 o 56 (.pick (.t 53) (.c (.bool true)) (.t 55)),
 o 57 (.mv (.t 56)),
 oi 58 57 false (.load (some 3) (.t 4)),
 oi 59 57 false (.mv (.t 1)),
 oi 60 57 false (.call 36 [(ki 1), (ku 0), (.t 59)]),
 oi 61 57 false (.buildS 3 1 0 [(.int .i64 0), (.int .u8 0), (.int .u8 0)] [(0, 3, (.t 60))]),
 oi 62 57 false (.call 53 [(.t 61)]),
 oi 63 57 false (.call 22 [(.t 58), (.t 62)]),
 oi 64 57 false (.bin .neq (.t 63) (ki 0)),
 o 65 (.pick (.t 57) (.c (.bool true)) (.t 64)),
 o 66 (.mv (.t 65)),
 oi 67 66 false (.mv (.t 6)),
 oi 68 66 false (.mv (.t 1)),
 oi 69 66 false (.bin .neq (.t 67) (.t 68)),
 o 70 (.pick (.t 66) (.c (.bool true)) (.t 69)),
 o 71 (.mv (.t 70)),
 oi 72 71 false (.mv (.t 8)),
 oi 73 71 false (.bin .neq (.t 72) (ku 0)),
 o 74 (.pick (.t 71) (.c (.bool true)) (.t 73)),
 o 75 (.mv (.t 74)),
 oi 76 75 false (.load (some 3) (.t 10)),
 oi 77 75 false (.mv (.t 2)),
 oi 78 75 false (.call 36 [(ki 1), (ku 0), (.t 77)]),
 oi 79 75 false (.buildS 3 1 0 [(.int .i64 0), (.int .u8 0), (.int .u8 0)] [(0, 3, (.t 78))]),
 oi 80 75 false (.call 53 [(.t 79)]),
 oi 81 75 false (.call 22 [(.t 76), (.t 80)]),
 oi 82 75 false (.bin .neq (.t 81) (ki 0)),
 o 83 (.pick (.t 75) (.c (.bool true)) (.t 82)),
 o 84 (.mv (.t 83)),
 oi 85 84 false (.load (some 3) (.t 12)),
 oi 86 84 false (.mv (.t 3)),
 oi 87 84 false (.call 36 [(ki 4), (ku 1), (.t 86)]),
 oi 88 84 false (.mv (.t 1)),
 oi 89 84 false (.call 36 [(ki 4), (ku 2), (.t 88)]),
 oi 90 84 false (.buildS 3 2 0 [(.int .i64 0), (.int .u8 0), (.int .u8 0)] [(0, 3, (.t 87)), (3, 3, (.t 89))]),
 oi 91 84 false (.call 53 [(.t 90)]),
 oi 92 84 false (.call 22 [(.t 85), (.t 91)]),
 oi 93 84 false (.bin .neq (.t 92) (ki 0)),
 o 94 (.pick (.t 84) (.c (.bool true)) (.t 93))]
 [[], [0], [1], [2], [3, 2], [2, 4], [5, 2], [6], [6], [8, 6, 6], [9, 6], [10, 9, 6], [7, 11, 11, 6], [12, 6], [6, 13], [14, 12], [15], [15], [16, 17, 15], [15, 18], [19, 15], [20], [21, 20], [20, 22], [23, 20], [24], [24], [26, 24, 24], [27, 24], [28, 27, 24], [25, 29, 29, 24], [30, 24], [24, 31], [32, 30], [33], [33], [35, 33, 33], [33], [37, 36, 33], [36, 38, 33], [39, 38, 33], [34, 40, 40, 33], [41, 33], [33, 42]]
 [0, 1, 2, 3, 4, 5, 6, 7, 8, 9, 10, 11, 12, 13, 14, 15, 16, 17, 18, 19, 20, 21, 22, 23, 24, 25, 26, 27, 28, 29, 30, 31, 32, 33, 34, 35, 36, 37, 38, 39, 40, 41, 42, 43] [4, 5, 6, 8, 9, 10, 12, 51, 52, 53, 54, 55, 56, 57, 58, 59, 60, 61, 62, 63, 64, 65, 66, 67, 68, 69, 70, 71, 72, 73, 74, 75, 76, 77, 78, 79, 80, 81, 82, 83, 84, 85, 86, 87, 88, 89, 90, 91, 92, 93])
 (.cond (.t 94)
 (.seq
 (.reg 576 [
 o 0 (.mv (.c (.bool false)))] [1, 2, 3, 94])
 .ret)
 .skip))
 (.seq
 (.reg 640 [
 o 96 (.call 53 [(.c .nils)]),
 o 97 (.mv (.t 1)),
 o 98 (.call 15 [(.t 96), (ki 0), (ku 0), (.t 97)]),
 o 95 (.mv (.t 98)),
 o 99 (.ext (.t 95) 0),
 o 100 (.ext (.t 95) 1),
 o 14 (.new (.cells [(.int .i64 0), (.int .i64 0), .nils]) 1 3),
 ⟨none, .store 3 (.t 14) (.t 99), none⟩,
 o 15 (.mv (.t 100))] [0, 94, 96, 97, 98, 95, 99, 100, 14])
 (.seq
 (.reg 704 [
 o 102 (.call 53 [(.c .nils)]),
 o 103 (.mv (.t 1)),
 o 104 (.call 15 [(.t 102), (ki 0), (ku 3), (.t 103)]),
 o 101 (.mv (.t 104)),
 o 105 (.ext (.t 101) 0),
 o 106 (.ext (.t 101) 1),
 o 16 (.new (.cells [(.int .i64 0), (.int .i64 0), .nils]) 1 3),
 ⟨none, .store 3 (.t 16) (.t 105), none⟩,
 o 17 (.mv (.t 106))] [102, 103, 104, 101, 105, 106, 16])
 (.seq
 (.reg 768 [
 o 108 (.call 53 [(.c .nils)]),
 o 109 (.mv (.t 1)),
 o 110 (.call 15 [(.t 108), (ki 8), (ku 0), (.t 109)]),
 o 107 (.mv (.t 110)),
 o 111 (.ext (.t 107) 0),
 o 112 (.ext (.t 107) 1),
 o 18 (.new (.cells [(.int .i64 0), (.int .i64 0), .nils]) 1 3),
 ⟨none, .store 3 (.t 18) (.t 111), none⟩,
 o 19 (.mv (.t 112))] [1, 108, 109, 110, 107, 111, 112, 18])
 (.seq
 (.reg 832 [
 o 113 (.mv (.t 15)),
 o 114 (.bin .eql (.t 113) (ki 7)),
 o 115 (.mv (.t 114)),
 oi 116 115 true (.mv (.t 17)),
 oi 117 115 true (.bin .eql (.t 116) (ki 1)),
 o 118 (.pick (.t 115) (.t 117) (.c (.bool false))),
 o 119 (.mv (.t 118)),
 oi 120 119 true (.mv (.t 19)),
 oi 121 119 true (.bin .eql (.t 120) (ki 7)),
 o 122 (.pick (.t 119) (.t 121) (.c (.bool false))),
 o 123 (.mv (.t 122)),
 oi 124 123 true (.mv (.t 2)),
 oi 125 123 true (.call 36 [(ki 7), (ku 0), (.t 124)]),
 oi 126 123 true (.buildS 3 1 0 [(.int .i64 0), (.int .u8 0), (.int .u8 0)] [(0, 3, (.t 125))]),
 oi 127 123 true (.call 53 [(.t 126)]),
 oi 128 123 true (.call 27 [(.t 127)]),
 oi 129 123 true (.bin .eql (.t 128) (ki 7)),
 o 130 (.pick (.t 123) (.t 129) (.c (.bool false))),
 o 131 (.mv (.t 130)),
 oi 132 131 true (.mv (.t 3)),
 oi 133 131 true (.call 36 [(ki 0), (ku 2), (.t 132)]),
 oi 134 131 true (.mv (.t 3)),
 oi 135 131 true (.call 36 [(ki 0), (ku 1), (.t 134)]),
 oi 136 131 true (.buildS 3 2 0 [(.int .i64 0), (.int .u8 0), (.int .u8 0)] [(0, 3, (.t 133)), (3, 3, (.t 135))]),
 oi 137 131 true (.call 53 [(.t 136)]),
 oi 138 131 true (.call 27 [(.t 137)]),
 oi 139 131 true (.bin .eql (.t 138) (ki 6)),
 o 140 (.pick (.t 131) (.t 139) (.c (.bool false))),
 o 141 (.mv (.t 140)),
 oi 142 141 true (.mv (.t 2)),
 oi 143 141 true (.call 36 [(ki 1), (ku 0), (.t 142)]),
 oi 144 141 true (.buildS 3 1 0 [(.int .i64 0), (.int .u8 0), (.int .u8 0)] [(0, 3, (.t 143))]),
 oi 145 141 true (.call 53 [(.t 144)]),
 oi 146 141 true (.mv (.t 3)),
 oi 147 141 true (.call 36 [(ki 1), (ku 0), (.t 146)]),
 oi 148 141 true (.buildS 3 1 0 [(.int .i64 0), (.int .u8 0), (.int .u8 0)] [(0, 3, (.t 147))]),
 oi 149 141 true (.call 53 [(.t 148)]),
 oi 150 141 true (.call 33 [(.t 145), (.t 149)]),
 o 151 (.pick (.t 141) (.t 150) (.c (.bool false))),
 o 152 (.mv (.t 151)),
 oi 153 152 true (.mv (.t 3)),
 oi 154 152 true (.call 36 [(ki 1), (ku 0), (.t 153)]),
 oi 155 152 true (.buildS 3 1 0 [(.int .i64 0), (.int .u8 0), (.int .u8 0)] [(0, 3, (.t 154))]),
 oi 156 152 true (.call 53 [(.t 155)]),
 oi 157 152 true (.mv (.t 2)),
 oi 158 152 true (.call 36 [(ki 1), (ku 0), (.t 157)]),
 oi 159 152 true (.buildS 3 1 0 [(.int .i64 0), (.int .u8 0), (.int .u8 0)] [(0, 3, (.t 158))]),
 oi 160 152 true (.call 53 [(.t 159)]),
 oi 161 152 true (.call 33 [(.t 156), (.t 160)]),
 oi 162 152 true (.un .not (.t 161)),
 o 163 (.pick (.t 152) (.t 162) (.c (.bool false))),
 o 0 (.mv (.t 163))] [2, 3, 15, 17, 19, 113, 114, 115, 116, 117, 118, 119, 120, 121, 122, 123, 124, 125, 126, 127, 128, 129, 130, 131, 132, 133, 134, 135, 136, 137, 138, 139, 140, 141, 142, 143, 144, 145, 146, 147, 148, 149, 150, 151, 152, 153, 154, 155, 156, 157, 158, 159, 160, 161, 162, 163])
 .ret))))))))))))
def fe18 : FnE := ⟨164, [(0, none)], xc18⟩
theorem ok18 : FnOk Tryd.prog 18 fe18 := fnOk_of Tryd.func18 (by kernel_rfl : chkF Tryd.prog hs18 Tryd.f18 = some fe18)
/- 19 crimp/crimpref06.Kinds -/
def hs19 : Hints := [(0, ([], [0, 2])), (1, ([], [7, 8, 9])), (2, ([], [10, 11, 12])), (4, ([], [13, 14, 15])), (6, ([], [16])), (7, ([], [19, 20, 21, 22])), (9, ([0, 1, 2, 3, 4, 5, 6, 7, 8, 9, 10, 11, 12, 13, 14, 15, 16, 17, 18, 19, 20, 21, 22, 23, 24, 25], [23, 26, 27, 28, 29, 30, 31, 32, 33, 34, 35, 36, 37, 38])), (10, ([], [51, 52, 53, 54, 55, 56, 57, 58, 59, 60])), (8, ([], [51, 24, 25])), (5, ([], [6, 17, 18])), (11, ([], [1, 3, 4, 5, 61]))]
def xc19 : XC :=
 (.seq
 (.reg 64 [
 o 1 (.box (.t 0)),
 o 2 (.mv (.c .nils))] [0, 2])
 (.seq
 (.reg 128 [
 o 7 (.fieldA 0 (.t 1)),
 o 8 (.load (some 2) (.t 7)),
 o 9 (.call 20 [(.t 8)]),
 o 3 (.mv (.t 9))] [7, 8, 9])
 (.seq
 (.reg 192 [
 o 10 (.mv (.t 3)),
 o 11 (.len (.t 10)),
 o 12 (.mks 1 1 5 [(.int .u8 0)] (.t 11) (.t 11)),
 o 4 (.mv (.t 12))] [10, 11, 12])
 (.seq
 (.seq
 (.reg 256 [
 o 5 (.mv (ki 0))] [])
 (.block 0
 (.loop
 (.seq
 (.seq
 (.reg 320 [
 o 13 (.mv (.t 5)),
 o 14 (.mv (.t 3)),
 o 15 (.len (.t 14)),
 o 16 (.bin .lss (.t 13) (.t 15))] [13, 14, 15])
 (.cond (.t 16)
 .skip
 (.exit 0)))
 (.seq
 (.block 1
 (.seq
 (.reg 448 [
 o 6 (.mv (ki 0))] [16])
 (.block 2
 (.loop
 (.seq
 (.seq
 (.reg 512 [
 o 19 (.mv (.t 6)),
 o 20 (.fieldA 2 (.t 1)),
 o 21 (.load none (.t 20)),
 o 22 (.len (.t 21)),
 o 23 (.bin .lss (.t 19) (.t 22))] [19, 20, 21, 22])
 (.cond (.t 23)
 .skip
 (.exit 2)))
 (.seq
 (.block 3
 (.seq
 (.draw 640 [
 o 26 (.fieldA 2 (.t 1)),
 o 27 (.load none (.t 26)),
 o 28 (.mv (.t 6)),
 o 29 (.idxA none 3 (.t 27) (.t 28)),
 o 30 (.fieldA 0 (.t 29)),
 o 31 (.load none (.t 30)),
 o 32 (.mv (.t 3)),
 o 33 (.mv (.t 5)),
 o 34 (.idxA none 2 (.t 32) (.t 33)),
 o 35 (.fieldA 0 (.t 34)),
 o 36 (.load none (.t 35)),
 o 37 (.bin .eql (.t 31) (.t 36)),
 o 38 (.mv (.t 37)),
 oi 39 38 true (.fieldA 2 (.t 1)),
 oi 40 38 true (.load none (.t 39)),
 oi 41 38 true (.mv (.t 6)),
 oi 42 38 true (.idxA none 3 (.t 40) (.t 41)),
 oi 43 38 true (.fieldA 1 (.t 42)),
 oi 44 38 true (.load none (.t 43)),
 oi 45 38 true (.mv (.t 3)),
 oi 46 38 true (.mv (.t 5)),
 oi 47 38 true (.idxA none 2 (.t 45) (.t 46)),
 oi 48 38 true (.fieldA 1 (.t 47)),
 oi 49 38 true (.load none (.t 48)),
 oi 50 38 true (.bin .eql (.t 44) (.t 49)),
 o 51 (.pick (.t 38) (.t 50) (.c (.bool false)))]
 [[], [0], [], [1, 2], [3], [4], [], [], [6, 7], [8], [9], [5, 10], [11], [12], [13, 12], [12], [14, 15, 12], [16, 12], [17, 12], [12], [12], [19, 20, 12], [21, 12], [22, 12], [18, 23, 12], [12, 24]]
 [0, 1, 2, 3, 4, 5, 6, 7, 8, 9, 10, 11, 12, 13, 14, 15, 16, 17, 18, 19, 20, 21, 22, 23, 24, 25] [23, 26, 27, 28, 29, 30, 31, 32, 33, 34, 35, 36, 37, 38])
 (.cond (.t 51)
 (.reg 704 [
 o 52 (.mv (.t 4)),
 o 53 (.mv (.t 5)),
 o 54 (.fieldA 2 (.t 1)),
 o 55 (.load none (.t 54)),
 o 56 (.mv (.t 6)),
 o 57 (.idxA none 3 (.t 55) (.t 56)),
 o 58 (.fieldA 2 (.t 57)),
 o 59 (.load none (.t 58)),
 o 60 (.idxA none 1 (.t 52) (.t 53)),
 ⟨none, .store 1 (.t 60) (.t 59), none⟩] [51, 52, 53, 54, 55, 56, 57, 58, 59, 60])
 .skip)))
 (.reg 576 [
 o 24 (.mv (.t 6)),
 o 25 (.bin .add (.t 24) (ki 1)),
 o 6 (.mv (.t 25))] [51, 24, 25])))))))
 (.reg 384 [
 o 17 (.mv (.t 5)),
 o 18 (.bin .add (.t 17) (ki 1)),
 o 5 (.mv (.t 18))] [6, 17, 18]))))))
 (.seq
 (.reg 768 [
 o 61 (.mv (.t 4)),
 o 2 (.mv (.t 61))] [1, 3, 4, 5, 61])
 .ret)))))
def fe19 : FnE := ⟨62, [(2, none)], xc19⟩
theorem ok19 : FnOk Tryd.prog 19 fe19 := fnOk_of Tryd.func19 (by kernel_rfl : chkF Tryd.prog hs19 Tryd.f19 = some fe19)
/- 20 crimp/crimpref05.Units -/
def hs20 : Hints := [(0, ([], [0, 2])), (3, ([], [6, 7, 8, 9, 10, 11, 12])), (5, ([], [13])), (6, ([], [16])), (8, ([], [17, 20, 21, 22, 23, 24])), (9, ([], [25, 26, 27, 28, 29, 30, 31, 32])), (7, ([], [25, 18, 19])), (4, ([], [5, 14, 15])), (10, ([], [1, 3, 4, 33]))]
def xc20 : XC :=
 (.seq
 (.reg 64 [
 o 1 (.box (.t 0)),
 o 2 (.mv (.c .nils))] [0, 2])
 (.seq
 (.reg 128 [
 o 3 (.mv (.c .nils))] [])
 (.seq
 (.seq
 (.reg 192 [
 o 4 (.mv (ki 0))] [])
 (.block 0
 (.loop
 (.seq
 (.seq
 (.reg 256 [
 o 6 (.mv (.t 4)),
 o 7 (.fieldA 0 (.t 1)),
 o 8 (.load none (.t 7)),
 o 9 (.bin .mul (ki 4) (.t 8)),
 o 10 (.fieldA 1 (.t 1)),
 o 11 (.load none (.t 10)),
 o 12 (.bin .mul (.t 9) (.t 11)),
 o 13 (.bin .lss (.t 6) (.t 12))] [6, 7, 8, 9, 10, 11, 12])
 (.cond (.t 13)
 .skip
 (.exit 0)))
 (.seq
 (.block 1
 (.seq
 (.reg 384 [
 o 5 (.mv (ki 0))] [13])
 (.block 2
 (.loop
 (.seq
 (.seq
 (.reg 448 [
 o 16 (.mv (.t 5)),
 o 17 (.bin .lss (.t 16) (ki 3))] [16])
 (.cond (.t 17)
 .skip
 (.exit 2)))
 (.seq
 (.block 3
 (.seq
 (.reg 576 [
 o 20 (.load (some 2) (.t 1)),
 o 21 (.mv (.t 4)),
 o 22 (.mv (.t 5)),
 o 23 (.call 21 [(.t 20), (.t 21), (.t 22)]),
 o 24 (.mv (.t 4)),
 o 25 (.bin .gtr (.t 23) (.t 24))] [17, 20, 21, 22, 23, 24])
 (.cond (.t 25)
 (.reg 640 [
 o 26 (.mv (.t 3)),
 o 27 (.mv (.t 4)),
 o 28 (.mv (.t 5)),
 o 29 (.conv .u8 (.t 28)),
 o 30 (.build [(.int .i64 0), (.int .u8 0)] [(0, 1, (.t 27)), (1, 1, (.t 29))]),
 o 31 (.buildS 2 1 0 [(.int .i64 0), (.int .u8 0)] [(0, 2, (.t 30))]),
 o 32 (.append 2 16 0 (.t 26) (.t 31)),
 o 3 (.mv (.t 32))] [25, 26, 27, 28, 29, 30, 31, 32])
 .skip)))
 (.reg 512 [
 o 18 (.mv (.t 5)),
 o 19 (.bin .add (.t 18) (ki 1)),
 o 5 (.mv (.t 19))] [25, 18, 19])))))))
 (.reg 320 [
 o 14 (.mv (.t 4)),
 o 15 (.bin .add (.t 14) (ki 1)),
 o 4 (.mv (.t 15))] [5, 14, 15]))))))
 (.seq
 (.reg 704 [
 o 33 (.mv (.t 3)),
 o 2 (.mv (.t 33))] [1, 3, 4, 33])
 .ret))))
def fe20 : FnE := ⟨34, [(2, none)], xc20⟩
theorem ok20 : FnOk Tryd.prog 20 fe20 := fnOk_of Tryd.func20 (by kernel_rfl : chkF Tryd.prog hs20 Tryd.f20 = some fe20)
/- 21 crimp/crimpref05.Neighbour -/
def hs21 : Hints := [(0, ([], [0, 6])), (1, ([0, 1, 2, 3, 4, 5, 6, 7, 8, 9, 10, 11, 12, 13, 14, 15], [1, 8, 9, 10, 11, 12, 13, 14, 15, 16, 17, 18, 19, 20, 21])), (2, ([0, 1, 2, 3, 4, 5], [2, 3, 7, 22, 23, 24, 25, 26]))]
def xc21 : XC :=
 (.seq
 (.reg 64 [
 o 3 (.box (.t 0)),
 o 6 (.mv (ki 0))] [0, 6])
 (.seq
 (.draw 128 [
 o 8 (.mv (.t 1)),
 o 9 (.bin .quo (.t 8) (ki 4)),
 o 10 (.fieldA 0 (.t 3)),
 o 11 (.load none (.t 10)),
 o 12 (.bin .rem (.t 9) (.t 11)),
 o 13 (.mv (.t 1)),
 o 14 (.fieldA 0 (.t 3)),
 o 15 (.load none (.t 14)),
 o 16 (.bin .mul (ki 4) (.t 15)),
 o 17 (.bin .quo (.t 13) (.t 16)),
 o 18 (.mv (.t 1)),
 o 19 (.bin .rem (.t 18) (ki 4)),
 o 20 (.conv .u8 (.t 19)),
 o 21 (.build [(.int .i64 0), (.int .i64 0), (.int .u8 0)] [(0, 1, (.t 12)), (1, 1, (.t 17)), (2, 1, (.t 20))]),
 o 7 (.new (.cells [(.int .i64 0), (.int .i64 0), (.int .u8 0)]) 1 3),
 ⟨none, .store 3 (.t 7) (.t 21), none⟩]
 [[], [0], [], [2], [1, 3], [], [], [6], [7], [5, 8], [], [10], [11], [4, 9, 12], [], [14, 13, 0, 1, 2, 3, 4, 5, 6, 7, 8, 9, 10, 11, 12, 13, 14]]
 [0, 1, 2, 3, 4, 5, 6, 7, 8, 9, 10, 11, 12, 13, 14, 15] [1, 8, 9, 10, 11, 12, 13, 14, 15, 16, 17, 18, 19, 20, 21])
 (.seq
 (.draw 192 [
 o 22 (.load (some 2) (.t 3)),
 o 23 (.load (some 3) (.t 7)),
 o 24 (.mv (.t 2)),
 o 25 (.call 55 [(.t 23), (.t 24)]),
 o 26 (.call 54 [(.t 22), (.t 25)]),
 o 6 (.mv (.t 26))]
 [[], [], [], [1, 2], [0, 3, 3], [4, 4, 0, 1, 2, 3, 4]]
 [0, 1, 2, 3, 4, 5] [2, 3, 7, 22, 23, 24, 25, 26])
 .ret)))
def fe21 : FnE := ⟨27, [(6, none)], xc21⟩
theorem ok21 : FnOk Tryd.prog 21 fe21 := fnOk_of Tryd.func21 (by kernel_rfl : chkF Tryd.prog hs21 Tryd.f21 = some fe21)
/- 22 crimp/crimpref06.Differ -/
def hs22 : Hints := [(0, ([], [0, 1, 4])), (1, ([], [6, 7, 8, 9, 10, 11, 12, 13, 14, 15, 16, 17, 18])), (2, ([], [2, 3, 19])), (3, ([], [4, 19])), (4, ([], [20, 21, 22, 23])), (6, ([0, 1, 2, 3, 4, 5, 6, 7, 8, 9, 10], [24, 27, 28, 29, 30, 31, 32, 33, 34, 35, 36])), (7, ([], [5, 3, 2, 37])), (5, ([], [4, 37, 25, 26])), (8, ([], [2, 3, 5]))]
def xc22 : XC :=
 (.seq
 (.reg 64 [
 o 2 (.box (.t 0)),
 o 3 (.box (.t 1)),
 o 4 (.mv (ki 0))] [0, 1, 4])
 (.seq
 (.seq
 (.reg 128 [
 o 6 (.fieldA 0 (.t 2)),
 o 7 (.load (some 2) (.t 6)),
 o 8 (.fieldA 0 (.t 3)),
 o 9 (.load (some 2) (.t 8)),
 o 10 (.eqa true 2 [(0, 0), (1, 0)] (.t 7) (.t 9)),
 o 11 (.mv (.t 10)),
 oi 12 11 false (.fieldA 2 (.t 2)),
 oi 13 11 false (.load none (.t 12)),
 oi 14 11 false (.len (.t 13)),
 oi 15 11 false (.fieldA 2 (.t 3)),
 oi 16 11 false (.load none (.t 15)),
 oi 17 11 false (.len (.t 16)),
 oi 18 11 false (.bin .neq (.t 14) (.t 17)),
 o 19 (.pick (.t 11) (.c (.bool true)) (.t 18))] [6, 7, 8, 9, 10, 11, 12, 13, 14, 15, 16, 17, 18])
 (.cond (.t 19)
 (.seq
 (.reg 192 [
 o 4 (.mv (ki 1))] [2, 3, 19])
 .ret)
 .skip))
 (.seq
 (.seq
 (.reg 256 [
 o 5 (.mv (ki 0))] [4, 19])
 (.block 0
 (.loop
 (.seq
 (.seq
 (.reg 320 [
 o 20 (.mv (.t 5)),
 o 21 (.fieldA 2 (.t 2)),
 o 22 (.load none (.t 21)),
 o 23 (.len (.t 22)),
 o 24 (.bin .lss (.t 20) (.t 23))] [20, 21, 22, 23])
 (.cond (.t 24)
 .skip
 (.exit 0)))
 (.seq
 (.block 1
 (.seq
 (.draw 448 [
 o 27 (.fieldA 2 (.t 2)),
 o 28 (.load none (.t 27)),
 o 29 (.mv (.t 5)),
 o 30 (.idxA none 3 (.t 28) (.t 29)),
 o 31 (.load (some 3) (.t 30)),
 o 32 (.fieldA 2 (.t 3)),
 o 33 (.load none (.t 32)),
 o 34 (.mv (.t 5)),
 o 35 (.idxA none 3 (.t 33) (.t 34)),
 o 36 (.load (some 3) (.t 35)),
 o 37 (.eqa true 3 [(0, 0), (1, 0), (2, 0)] (.t 31) (.t 36))]
 [[], [0], [], [1, 2], [3], [], [5], [], [6, 7], [8], [4, 9]]
 [0, 1, 2, 3, 4, 5, 6, 7, 8, 9, 10] [24, 27, 28, 29, 30, 31, 32, 33, 34, 35, 36])
 (.cond (.t 37)
 (.seq
 (.reg 512 [
 o 4 (.mv (ki 1))] [5, 3, 2, 37])
 .ret)
 .skip)))
 (.reg 384 [
 o 25 (.mv (.t 5)),
 o 26 (.bin .add (.t 25) (ki 1)),
 o 5 (.mv (.t 26))] [4, 37, 25, 26]))))))
 (.seq
 (.reg 576 [
 o 4 (.mv (ki 0))] [2, 3, 5])
 .ret))))
def fe22 : FnE := ⟨38, [(4, none)], xc22⟩
theorem ok22 : FnOk Tryd.prog 22 fe22 := fnOk_of Tryd.func22 (by kernel_rfl : chkF Tryd.prog hs22 Tryd.f22 = some fe22)
/- 23 crimp/crimpref06.With -/
def hs23 : Hints := [(0, ([], [0])), (1, ([], [8, 9])), (2, ([], [2, 10, 11])), (4, ([], [12, 13, 14, 15, 16])), (6, ([], [21, 24, 25, 26, 27])), (7, ([0, 1, 2, 3, 4, 5, 6, 7, 8, 9, 10, 11, 12, 13, 14, 15, 16, 17, 18, 19, 20], [28, 29, 30, 31, 32, 33, 34, 35, 36, 37, 38, 39, 40, 41, 42, 43, 44, 45, 46, 47, 48])), (5, ([], [28, 22, 23])), (8, ([], [1, 5, 6, 7, 49]))]
def xc23 : XC :=
 (.seq
 (.reg 64 [
 o 2 (.box (.t 0)),
 o 4 (.new (.cells [(.int .i64 0), (.int .i64 0), .nils]) 1 3)] [0])
 (.seq
 (.reg 128 [
 o 8 (.load (some 2) (.t 2)),
 o 9 (.call 20 [(.t 8)]),
 o 5 (.mv (.t 9))] [8, 9])
 (.seq
 (.reg 192 [
 o 10 (.load (some 2) (.t 2)),
 o 11 (.build [(.int .i64 0), (.int .i64 0), .nils] [(0, 2, (.t 10))]),
 o 6 (.new (.cells [(.int .i64 0), (.int .i64 0), .nils]) 1 3),
 ⟨none, .store 3 (.t 6) (.t 11), none⟩] [2, 10, 11])
 (.seq
 (.seq
 (.reg 256 [
 o 7 (.mv (ki 0))] [])
 (.block 0
 (.loop
 (.seq
 (.seq
 (.reg 320 [
 o 12 (.mv (.t 7)),
 o 13 (.mv (.t 5)),
 o 14 (.len (.t 13)),
 o 15 (.bin .lss (.t 12) (.t 14)),
 o 16 (.mv (.t 15)),
 oi 17 16 true (.mv (.t 7)),
 oi 18 16 true (.mv (.t 1)),
 oi 19 16 true (.len (.t 18)),
 oi 20 16 true (.bin .lss (.t 17) (.t 19)),
 o 21 (.pick (.t 16) (.t 20) (.c (.bool false)))] [12, 13, 14, 15, 16])
 (.cond (.t 21)
 .skip
 (.exit 0)))
 (.seq
 (.block 1
 (.seq
 (.reg 448 [
 o 24 (.mv (.t 1)),
 o 25 (.mv (.t 7)),
 o 26 (.idxA none 1 (.t 24) (.t 25)),
 o 27 (.load none (.t 26)),
 o 28 (.bin .neq (.t 27) (ku 0))] [21, 24, 25, 26, 27])
 (.cond (.t 28)
 (.draw 512 [
 o 29 (.fieldA 2 (.t 6)),
 o 30 (.load none (.t 29)),
 o 31 (.mv (.t 5)),
 o 32 (.mv (.t 7)),
 o 33 (.idxA none 2 (.t 31) (.t 32)),
 o 34 (.fieldA 0 (.t 33)),
 o 35 (.load none (.t 34)),
 o 36 (.mv (.t 5)),
 o 37 (.mv (.t 7)),
 o 38 (.idxA none 2 (.t 36) (.t 37)),
 o 39 (.fieldA 1 (.t 38)),
 o 40 (.load none (.t 39)),
 o 41 (.mv (.t 1)),
 o 42 (.mv (.t 7)),
 o 43 (.idxA none 1 (.t 41) (.t 42)),
 o 44 (.load none (.t 43)),
 o 45 (.build [(.int .i64 0), (.int .u8 0), (.int .u8 0)] [(0, 1, (.t 35)), (1, 1, (.t 40)), (2, 1, (.t 44))]),
 o 46 (.buildS 3 1 0 [(.int .i64 0), (.int .u8 0), (.int .u8 0)] [(0, 3, (.t 45))]),
 o 47 (.append 3 16 0 (.t 30) (.t 46)),
 o 48 (.fieldA 2 (.t 6)),
 ⟨none, .store 1 (.t 48) (.t 47), none⟩]
 [[], [0], [], [], [2, 3], [4], [5], [], [], [7, 8], [9], [10], [], [], [12, 13], [14], [6, 11, 15], [16], [1, 17], [0, 1, 2, 3, 4, 5, 6, 7, 8, 9, 10, 11, 12, 13, 14, 15, 16, 17, 18], [19, 18, 18, 0, 1, 2, 3, 4, 5, 6, 7, 8, 9, 10, 11, 12, 13, 14, 15, 16, 17, 18]]
 [0, 1, 2, 3, 4, 5, 6, 7, 8, 9, 10, 11, 12, 13, 14, 15, 16, 17, 18, 19, 20] [28, 29, 30, 31, 32, 33, 34, 35, 36, 37, 38, 39, 40, 41, 42, 43, 44, 45, 46, 47, 48])
 .skip)))
 (.reg 384 [
 o 22 (.mv (.t 7)),
 o 23 (.bin .add (.t 22) (ki 1)),
 o 7 (.mv (.t 23))] [28, 22, 23]))))))
 (.seq
 (.reg 576 [
 o 49 (.load (some 3) (.t 6)),
 ⟨none, .store 3 (.t 4) (.t 49), none⟩] [1, 5, 6, 7, 49])
 .ret)))))
def fe23 : FnE := ⟨50, [(4, some (some 3))], xc23⟩
theorem ok23 : FnOk Tryd.prog 23 fe23 := fnOk_of Tryd.func23 (by kernel_rfl : chkF Tryd.prog hs23 Tryd.f23 = some fe23)
/- 24 crimp/patterns.Turned -/
def hs24 : Hints := [(0, ([], [0, 3])), (1, ([], [15, 16, 14, 17, 18])), (2, ([], [19])), (3, ([], [1, 4, 5, 20, 21, 22])), (4, ([], [3, 5, 20, 23])), (6, ([], [27, 28, 29, 30])), (7, ([], [32, 33, 34, 35, 36, 31, 37, 38, 9])), (8, ([], [39, 40, 41, 42, 43, 44, 45, 46])), (9, ([], [47, 48, 49, 50, 51])), (10, ([], [8, 53, 54, 55, 56, 52, 57, 58, 11])), (11, ([0, 1, 2, 3, 4, 5, 6, 7, 8, 9, 10, 11, 12, 13], [10, 60, 61, 62, 63, 64, 65, 66, 67, 59, 68, 69, 13])), (12, ([], [7, 6, 12, 70, 71, 72, 73, 74, 75, 76, 77, 78, 79, 80])), (13, ([], [81])), (14, ([], [1, 24, 25, 26, 82, 83, 84])), (15, ([], [4, 85]))]
def xc24 : XC :=
 (.seq
 (.reg 64 [
 o 1 (.box (.t 0)),
 o 2 (.new (.cells [(.int .i64 0), (.int .i64 0), .nils]) 1 3),
 o 3 (.mv (ki 0))] [0, 3])
 (.seq
 (.reg 128 [
 o 15 (.load (some 3) (.t 1)),
 o 16 (.call 25 [(.t 15)]),
 o 14 (.mv (.t 16)),
 o 17 (.ext (.t 14) 0),
 o 18 (.ext (.t 14) 1),
 o 4 (.new (.cells [(.int .i64 0), (.int .i64 0), .nils]) 1 3),
 ⟨none, .store 3 (.t 4) (.t 17), none⟩,
 o 5 (.mv (.t 18))] [15, 16, 14, 17, 18])
 (.seq
 (.seq
 (.reg 192 [
 o 19 (.mv (.t 5)),
 o 20 (.bin .neq (.t 19) (ki 0))] [19])
 (.cond (.t 20)
 (.seq
 (.reg 256 [
 o 21 (.build [(.int .i64 0), (.int .i64 0), .nils] []),
 o 22 (.mv (.t 5)),
 ⟨none, .store 3 (.t 2) (.t 21), none⟩,
 o 3 (.mv (.t 22))] [1, 4, 5, 20, 21, 22])
 .ret)
 .skip))
 (.seq
 (.seq
 (.reg 320 [
 o 23 (.fieldA 2 (.t 4)),
 o 24 (.load none (.t 23)),
 o 25 (.len (.t 24)),
 o 26 (.mv (ki 0))] [3, 5, 20, 23])
 (.block 0
 (.loop
 (.seq
 (.reg 384 [
 o 27 (.bin .lss (.t 26) (.t 25))] [])
 (.seq
 (.cond (.t 27)
 .skip
 (.exit 0))
 (.seq
 (.block 1
 (.seq
 (.reg 448 [
 o 28 (.mv (.t 26)),
 o 29 (.idxA none 3 (.t 24) (.t 26)),
 o 30 (.load (some 3) (.t 29)),
 o 7 (.new (.cells [(.int .i64 0), (.int .u8 0), (.int .u8 0)]) 1 3),
 o 6 (.mv (.t 28)),
 ⟨none, .store 3 (.t 7) (.t 30), none⟩] [27, 28, 29, 30])
 (.seq
 (.reg 512 [
 o 32 (.fieldA 0 (.t 1)),
 o 33 (.load (some 2) (.t 32)),
 o 34 (.fieldA 0 (.t 7)),
 o 35 (.load none (.t 34)),
 o 36 (.call 56 [(.t 33), (.t 35)]),
 o 31 (.mv (.t 36)),
 o 37 (.ext (.t 31) 0),
 o 38 (.ext (.t 31) 1),
 o 8 (.new (.cells [(.int .i64 0), (.int .i64 0), (.int .u8 0)]) 1 3),
 ⟨none, .store 3 (.t 8) (.t 37), none⟩,
 o 9 (.mv (.t 38))] [32, 33, 34, 35, 36, 31, 37, 38, 9])
 (.seq
 (.reg 576 [
 o 39 (.fieldA 0 (.t 1)),
 o 40 (.fieldA 0 (.t 39)),
 o 41 (.load none (.t 40)),
 o 42 (.bin .sub (.t 41) (ki 1)),
 o 43 (.fieldA 0 (.t 8)),
 o 44 (.load none (.t 43)),
 o 45 (.bin .sub (.t 42) (.t 44)),
 o 46 (.fieldA 0 (.t 8)),
 ⟨none, .store 1 (.t 46) (.t 45), none⟩] [39, 40, 41, 42, 43, 44, 45, 46])
 (.seq
 (.reg 640 [
 o 47 (.build [(.int .u8 0), (.int .u8 0), (.int .u8 0), (.int .u8 0)] [(0, 1, (ku 0)), (1, 1, (ku 3)), (2, 1, (ku 2)), (3, 1, (ku 1))]),
 o 48 (.fieldA 2 (.t 8)),
 o 49 (.load none (.t 48)),
 o 50 (.idx 4 1 false (.t 47) (.t 49)),
 o 51 (.fieldA 2 (.t 8)),
 ⟨none, .store 1 (.t 51) (.t 50), none⟩] [47, 48, 49, 50, 51])
 (.seq
 (.reg 704 [
 o 53 (.fieldA 0 (.t 1)),
 o 54 (.load (some 2) (.t 53)),
 o 55 (.load (some 3) (.t 8)),
 o 56 (.call 57 [(.t 54), (.t 55)]),
 o 52 (.mv (.t 56)),
 o 57 (.ext (.t 52) 0),
 o 58 (.ext (.t 52) 1),
 o 10 (.mv (.t 57)),
 o 11 (.mv (.t 58))] [8, 53, 54, 55, 56, 52, 57, 58, 11])
 (.seq
 (.draw 768 [
 o 60 (.fieldA 0 (.t 1)),
 o 61 (.load (some 2) (.t 60)),
 o 62 (.mv (.t 10)),
 o 63 (.build [(.int .u8 0), (.int .u8 0), (.int .u8 0)] [(0, 1, (ku 0)), (1, 1, (ku 2)), (2, 1, (ku 1))]),
 o 64 (.fieldA 1 (.t 7)),
 o 65 (.load none (.t 64)),
 o 66 (.idx 3 1 false (.t 63) (.t 65)),
 o 67 (.call 58 [(.t 61), (.t 62), (.t 66)]),
 o 59 (.mv (.t 67)),
 o 68 (.ext (.t 59) 0),
 o 69 (.ext (.t 59) 1),
 o 12 (.new (.cells [(.int .i64 0), (.int .u8 0)]) 1 2),
 ⟨none, .store 2 (.t 12) (.t 68), none⟩,
 o 13 (.mv (.t 69))]
 [[], [0], [], [], [], [4], [3, 5], [1, 2, 6], [7], [8], [8], [], [11, 9, 7, 0, 1, 2, 3, 4, 5, 6, 7, 8, 9, 11], [10, 12, 0, 1, 2, 3, 4, 5, 6, 7, 8, 9, 10, 11, 12]]
 [0, 1, 2, 3, 4, 5, 6, 7, 8, 9, 10, 11, 12, 13] [10, 60, 61, 62, 63, 64, 65, 66, 67, 59, 68, 69, 13])
 (.reg 832 [
 o 70 (.fieldA 2 (.t 4)),
 o 71 (.load none (.t 70)),
 o 72 (.mv (.t 6)),
 o 73 (.fieldA 0 (.t 12)),
 o 74 (.load none (.t 73)),
 o 75 (.fieldA 1 (.t 12)),
 o 76 (.load none (.t 75)),
 o 77 (.fieldA 2 (.t 7)),
 o 78 (.load none (.t 77)),
 o 79 (.build [(.int .i64 0), (.int .u8 0), (.int .u8 0)] [(0, 1, (.t 74)), (1, 1, (.t 76)), (2, 1, (.t 78))]),
 o 80 (.idxA none 3 (.t 71) (.t 72)),
 ⟨none, .store 3 (.t 80) (.t 79), none⟩] [7, 6, 12, 70, 71, 72, 73, 74, 75, 76, 77, 78, 79, 80]))))))))
 (.reg 896 [
 o 81 (.bin .add (.t 26) (ki 1)),
 o 26 (.mv (.t 81))] [81])))))))
 (.seq
 (.reg 960 [
 o 82 (.fieldA 2 (.t 4)),
 o 83 (.load none (.t 82)),
 o 84 (.call 59 [(.t 83), (.c (.fn 60 [] []))])] [1, 24, 25, 26, 82, 83, 84])
 (.seq
 (.reg 1024 [
 o 85 (.load (some 3) (.t 4)),
 ⟨none, .store 3 (.t 2) (.t 85), none⟩,
 o 3 (.mv (ki 0))] [4, 85])
 .ret))))))
def fe24 : FnE := ⟨86, [(2, some (some 3)), (3, none)], xc24⟩
theorem ok24 : FnOk Tryd.prog 24 fe24 := fnOk_of Tryd.func24 (by kernel_rfl : chkF Tryd.prog hs24 Tryd.f24 = some fe24)
/- 25 crimp/patterns.Opposite -/
def hs25 : Hints := [(0, ([], [0, 3])), (1, ([], [7, 8])), (2, ([], [9])), (3, ([], [1, 4, 10, 11, 12])), (4, ([], [3, 4, 10, 13, 14, 15, 16])), (5, ([], [17, 18, 19, 20])), (6, ([], [21])), (8, ([], [24, 25])), (9, ([], [6, 26, 27, 28, 29, 30, 31, 32, 33, 34, 35, 36])), (10, ([], [37])), (11, ([], [1, 5, 22, 23, 38, 39, 40, 41]))]
def xc25 : XC :=
 (.seq
 (.reg 64 [
 o 1 (.box (.t 0)),
 o 2 (.new (.cells [(.int .i64 0), (.int .i64 0), .nils]) 1 3),
 o 3 (.mv (ki 0))] [0, 3])
 (.seq
 (.seq
 (.reg 128 [
 o 7 (.load (some 3) (.t 1)),
 o 8 (.call 27 [(.t 7)]),
 o 4 (.mv (.t 8))] [7, 8])
 (.seq
 (.reg 192 [
 o 9 (.mv (.t 4)),
 o 10 (.bin .neq (.t 9) (ki 0))] [9])
 (.cond (.t 10)
 (.seq
 (.reg 256 [
 o 11 (.build [(.int .i64 0), (.int .i64 0), .nils] []),
 o 12 (.mv (.t 4)),
 ⟨none, .store 3 (.t 2) (.t 11), none⟩,
 o 3 (.mv (.t 12))] [1, 4, 10, 11, 12])
 .ret)
 .skip)))
 (.seq
 (.reg 320 [
 o 13 (.fieldA 2 (.t 1)),
 o 14 (.load none (.t 13)),
 o 15 (.len (.t 14)),
 o 16 (.mks 3 16 0 [(.int .i64 0), (.int .u8 0), (.int .u8 0)] (.t 15) (.t 15)),
 o 5 (.mv (.t 16))] [3, 4, 10, 13, 14, 15, 16])
 (.seq
 (.reg 384 [
 o 17 (.mv (.t 5)),
 o 18 (.fieldA 2 (.t 1)),
 o 19 (.load none (.t 18)),
 o 20 (.copy 3 (.t 17) (.t 19))] [17, 18, 19, 20])
 (.seq
 (.seq
 (.reg 448 [
 o 21 (.mv (.t 5)),
 o 22 (.len (.t 21)),
 o 23 (.mv (ki 0))] [21])
 (.block 0
 (.loop
 (.seq
 (.reg 512 [
 o 24 (.bin .lss (.t 23) (.t 22))] [])
 (.seq
 (.cond (.t 24)
 .skip
 (.exit 0))
 (.seq
 (.block 1
 (.seq
 (.reg 576 [
 o 25 (.mv (.t 23)),
 o 6 (.mv (.t 25))] [24, 25])
 (.reg 640 [
 o 26 (.mv (.t 5)),
 o 27 (.mv (.t 6)),
 o 28 (.mv (.t 5)),
 o 29 (.mv (.t 6)),
 o 30 (.idxA none 3 (.t 28) (.t 29)),
 o 31 (.fieldA 2 (.t 30)),
 o 32 (.load none (.t 31)),
 o 33 (.idxA (some 4) 1 (.g 0) (.t 32)),
 o 34 (.load none (.t 33)),
 o 35 (.idxA none 3 (.t 26) (.t 27)),
 o 36 (.fieldA 2 (.t 35)),
 ⟨none, .store 1 (.t 36) (.t 34), none⟩] [6, 26, 27, 28, 29, 30, 31, 32, 33, 34, 35, 36])))
 (.reg 704 [
 o 37 (.bin .add (.t 23) (ki 1)),
 o 23 (.mv (.t 37))] [37])))))))
 (.seq
 (.reg 768 [
 o 38 (.fieldA 0 (.t 1)),
 o 39 (.load (some 2) (.t 38)),
 o 40 (.mv (.t 5)),
 o 41 (.build [(.int .i64 0), (.int .i64 0), .nils] [(0, 2, (.t 39)), (2, 1, (.t 40))]),
 ⟨none, .store 3 (.t 2) (.t 41), none⟩,
 o 3 (.mv (ki 0))] [1, 5, 22, 23, 38, 39, 40, 41])
 .ret))))))
def fe25 : FnE := ⟨42, [(2, some (some 3)), (3, none)], xc25⟩
theorem ok25 : FnOk Tryd.prog 25 fe25 := fnOk_of Tryd.func25 (by kernel_rfl : chkF Tryd.prog hs25 Tryd.f25 = some fe25)
/- 27 crimp/patterns.Check -/
def hs27 : Hints := [(0, ([], [0, 2])), (1, ([], [9, 10, 11])), (2, ([], [12])), (3, ([], [1, 3, 13, 14])), (4, ([], [2, 3, 13, 15, 16])), (5, ([], [1, 17])), (6, ([], [2, 17, 18])), (8, ([], [22, 23, 24])), (9, ([], [26, 27, 28, 29, 30, 31, 32, 25, 33, 34])), (10, ([0, 1, 2, 3, 4, 5, 6, 7], [5, 6, 7, 35, 36, 37])), (11, ([], [21, 41, 38, 40, 39, 1, 19, 20, 42])), (12, ([], [2, 42, 43])), (13, ([], [19, 20, 21])), (14, ([], [44, 45, 46, 47])), (16, ([0, 1, 2, 3, 4, 5, 6, 7, 8, 9, 10, 11, 12, 13, 14], [48, 51, 52, 53, 54, 55, 56, 57, 58, 59, 60, 61, 62, 63, 64])), (17, ([], [8, 1, 65])), (15, ([], [2, 65, 49, 50])), (18, ([], [1, 8]))]
def xc27 : XC :=
 (.seq
 (.reg 64 [
 o 1 (.box (.t 0)),
 o 2 (.mv (ki 0))] [0, 2])
 (.seq
 (.seq
 (.reg 128 [
 o 9 (.fieldA 0 (.t 1)),
 o 10 (.load (some 2) (.t 9)),
 o 11 (.call 64 [(.t 10)]),
 o 3 (.mv (.t 11))] [9, 10, 11])
 (.seq
 (.reg 192 [
 o 12 (.mv (.t 3)),
 o 13 (.bin .neq (.t 12) (ki 0))] [12])
 (.cond (.t 13)
 (.seq
 (.reg 256 [
 o 14 (.mv (.t 3)),
 o 2 (.mv (.t 14))] [1, 3, 13, 14])
 .ret)
 .skip)))
 (.seq
 (.seq
 (.reg 320 [
 o 15 (.fieldA 2 (.t 1)),
 o 16 (.load none (.t 15)),
 o 17 (.call 65 [(.t 16), (.c (.fn 66 [] []))])] [2, 3, 13, 15, 16])
 (.cond (.t 17)
 (.seq
 (.reg 384 [
 o 2 (.mv (ki 1))] [1, 17])
 .ret)
 .skip))
 (.seq
 (.seq
 (.reg 448 [
 o 18 (.fieldA 2 (.t 1)),
 o 19 (.load none (.t 18)),
 o 20 (.len (.t 19)),
 o 21 (.mv (ki 0))] [2, 17, 18])
 (.block 0
 (.loop
 (.seq
 (.reg 512 [
 o 22 (.bin .lss (.t 21) (.t 20))] [])
 (.seq
 (.cond (.t 22)
 .skip
 (.exit 0))
 (.seq
 (.block 1
 (.seq
 (.reg 576 [
 o 23 (.idxA none 3 (.t 19) (.t 21)),
 o 24 (.load (some 3) (.t 23)),
 o 5 (.new (.cells [(.int .i64 0), (.int .u8 0), (.int .u8 0)]) 1 3),
 ⟨none, .store 3 (.t 5) (.t 24), none⟩] [22, 23, 24])
 (.seq
 (.reg 640 [
 o 26 (.fieldA 0 (.t 1)),
 o 27 (.load (some 2) (.t 26)),
 o 28 (.fieldA 0 (.t 5)),
 o 29 (.load none (.t 28)),
 o 30 (.fieldA 1 (.t 5)),
 o 31 (.load none (.t 30)),
 o 32 (.call 58 [(.t 27), (.t 29), (.t 31)]),
 o 25 (.mv (.t 32)),
 o 33 (.ext (.t 25) 0),
 o 34 (.ext (.t 25) 1),
 o 6 (.new (.cells [(.int .i64 0), (.int .u8 0)]) 1 2),
 ⟨none, .store 2 (.t 6) (.t 33), none⟩,
 o 7 (.mv (.t 34))] [26, 27, 28, 29, 30, 31, 32, 25, 33, 34])
 (.seq
 (.draw 704 [
 o 35 (.mv (.t 7)),
 o 36 (.bin .neq (.t 35) (ki 0)),
 o 37 (.mv (.t 36)),
 oi 38 37 false (.load (some 2) (.t 6)),
 oi 39 37 false (.load (some 3) (.t 5)),
 oi 40 37 false (.call 62 [(.t 39)]),
 oi 41 37 false (.eqa true 2 [(0, 0), (1, 0)] (.t 38) (.t 40)),
 o 42 (.pick (.t 37) (.c (.bool true)) (.t 41))]
 [[], [0], [1], [2], [2], [4, 2, 2], [3, 5, 2], [2, 6]]
 [0, 1, 2, 3, 4, 5, 6, 7] [5, 6, 7, 35, 36, 37])
 (.cond (.t 42)
 (.seq
 (.reg 768 [
 o 2 (.mv (ki 7))] [21, 41, 38, 40, 39, 1, 19, 20, 42])
 .ret)
 .skip)))))
 (.reg 832 [
 o 43 (.bin .add (.t 21) (ki 1)),
 o 21 (.mv (.t 43))] [2, 42, 43])))))))
 (.seq
 (.seq
 (.reg 896 [
 o 8 (.mv (ki 1))] [19, 20, 21])
 (.block 2
 (.loop
 (.seq
 (.seq
 (.reg 960 [
 o 44 (.mv (.t 8)),
 o 45 (.fieldA 2 (.t 1)),
 o 46 (.load none (.t 45)),
 o 47 (.len (.t 46)),
 o 48 (.bin .lss (.t 44) (.t 47))] [44, 45, 46, 47])
 (.cond (.t 48)
 .skip
 (.exit 2)))
 (.seq
 (.block 3
 (.seq
 (.draw 1088 [
 o 51 (.fieldA 2 (.t 1)),
 o 52 (.load none (.t 51)),
 o 53 (.mv (.t 8)),
 o 54 (.bin .sub (.t 53) (ki 1)),
 o 55 (.idxA none 3 (.t 52) (.t 54)),
 o 56 (.load (some 3) (.t 55)),
 o 57 (.call 62 [(.t 56)]),
 o 58 (.fieldA 2 (.t 1)),
 o 59 (.load none (.t 58)),
 o 60 (.mv (.t 8)),
 o 61 (.idxA none 3 (.t 59) (.t 60)),
 o 62 (.load (some 3) (.t 61)),
 o 63 (.call 62 [(.t 62)]),
 o 64 (.call 61 [(.t 57), (.t 63)]),
 o 65 (.bin .geq (.t 64) (ki 0))]
 [[], [0], [], [2], [1, 3], [4], [5], [], [7], [], [8, 9], [10], [11, 6], [6, 12, 12], [13]]
 [0, 1, 2, 3, 4, 5, 6, 7, 8, 9, 10, 11, 12, 13, 14] [48, 51, 52, 53, 54, 55, 56, 57, 58, 59, 60, 61, 62, 63, 64])
 (.cond (.t 65)
 (.seq
 (.reg 1152 [
 o 2 (.mv (ki 6))] [8, 1, 65])
 .ret)
 .skip)))
 (.reg 1024 [
 o 49 (.mv (.t 8)),
 o 50 (.bin .add (.t 49) (ki 1)),
 o 8 (.mv (.t 50))] [2, 65, 49, 50]))))))
 (.seq
 (.reg 1216 [
 o 2 (.mv (ki 0))] [1, 8])
 .ret))))))
def fe27 : FnE := ⟨66, [(2, none)], xc27⟩
theorem ok27 : FnOk Tryd.prog 27 fe27 := fnOk_of Tryd.func27 (by kernel_rfl : chkF Tryd.prog hs27 Tryd.f27 = some fe27)
/- 28 crimp/crimpref06.Other -/
def hs28 : Hints := [(0, ([], [2])), (1, ([], [3])), (2, ([], [0, 4])), (3, ([], [2, 4, 5])), (4, ([], [0, 6])), (5, ([], [0, 6, 7]))]
def xc28 : XC :=
 (.seq
 (.reg 64 [
 o 2 (.mv (ku 0))] [2])
 (.seq
 (.seq
 (.reg 128 [
 o 3 (.mv (.t 0)),
 o 4 (.bin .eql (.t 3) (ku 1))] [3])
 (.cond (.t 4)
 (.seq
 (.reg 192 [
 o 2 (.mv (ku 2))] [0, 4])
 .ret)
 .skip))
 (.seq
 (.seq
 (.reg 256 [
 o 5 (.mv (.t 0)),
 o 6 (.bin .eql (.t 5) (ku 2))] [2, 4, 5])
 (.cond (.t 6)
 (.seq
 (.reg 320 [
 o 2 (.mv (ku 1))] [0, 6])
 .ret)
 .skip))
 (.seq
 (.reg 384 [
 o 7 (.mv (.t 0)),
 o 2 (.mv (.t 7))] [0, 6, 7])
 .ret))))
def fe28 : FnE := ⟨8, [(2, none)], xc28⟩
theorem ok28 : FnOk Tryd.prog 28 fe28 := fnOk_of Tryd.func28 (by kernel_rfl : chkF Tryd.prog hs28 Tryd.f28 = some fe28)
/- 29 crimp/crimpref05.Valid -/
def hs29 : Hints := [(0, ([], [0, 2])), (1, ([], [1, 3, 4, 5, 6, 7, 8, 9, 10, 11, 12, 13, 14, 15, 16, 17, 18, 19, 20, 21, 22, 23, 24, 25, 26, 27])), (2, ([], [28])), (3, ([], [28]))]
def xc29 : XC :=
 (.seq
 (.reg 64 [
 o 1 (.box (.t 0)),
 o 2 (.mv (ki 0))] [0, 2])
 (.seq
 (.seq
 (.reg 128 [
 o 3 (.fieldA 0 (.t 1)),
 o 4 (.load none (.t 3)),
 o 5 (.bin .lss (.t 4) (ki 1)),
 o 6 (.mv (.t 5)),
 oi 7 6 false (.fieldA 1 (.t 1)),
 oi 8 6 false (.load none (.t 7)),
 oi 9 6 false (.bin .lss (.t 8) (ki 1)),
 o 10 (.pick (.t 6) (.c (.bool true)) (.t 9)),
 o 11 (.mv (.t 10)),
 oi 12 11 false (.fieldA 0 (.t 1)),
 oi 13 11 false (.load none (.t 12)),
 oi 14 11 false (.bin .gtr (.t 13) (ki 256)),
 o 15 (.pick (.t 11) (.c (.bool true)) (.t 14)),
 o 16 (.mv (.t 15)),
 oi 17 16 false (.fieldA 1 (.t 1)),
 oi 18 16 false (.load none (.t 17)),
 oi 19 16 false (.bin .gtr (.t 18) (ki 256)),
 o 20 (.pick (.t 16) (.c (.bool true)) (.t 19)),
 o 21 (.mv (.t 20)),
 oi 22 21 false (.fieldA 0 (.t 1)),
 oi 23 21 false (.load none (.t 22)),
 oi 24 21 false (.fieldA 1 (.t 1)),
 oi 25 21 false (.load none (.t 24)),
 oi 26 21 false (.bin .mul (.t 23) (.t 25)),
 oi 27 21 false (.bin .gtr (.t 26) (ki 256)),
 o 28 (.pick (.t 21) (.c (.bool true)) (.t 27))] [1, 3, 4, 5, 6, 7, 8, 9, 10, 11, 12, 13, 14, 15, 16, 17, 18, 19, 20, 21, 22, 23, 24, 25, 26, 27])
 (.cond (.t 28)
 (.seq
 (.reg 192 [
 o 2 (.mv (ki 0))] [28])
 .ret)
 .skip))
 (.seq
 (.reg 256 [
 o 2 (.mv (ki 1))] [28])
 .ret)))
def fe29 : FnE := ⟨29, [(2, none)], xc29⟩
theorem ok29 : FnOk Tryd.prog 29 fe29 := fnOk_of Tryd.func29 (by kernel_rfl : chkF Tryd.prog hs29 Tryd.f29 = some fe29)
/- 30 crimp/crimpref06.Check -/
def hs30 : Hints := [(0, ([], [0, 2])), (1, ([], [10, 11, 12])), (2, ([], [1, 13])), (3, ([], [2, 13])), (4, ([], [14, 15, 16, 17])), (6, ([], [18, 21, 22, 23, 24, 25, 26, 27, 28])), (7, ([], [3, 35, 34, 33, 32, 30, 31, 29, 1, 36])), (5, ([], [2, 36, 19, 20])), (8, ([], [3, 37, 38, 39])), (12, ([], [40, 41, 42, 43])), (14, ([], [44])), (16, ([], [47, 48, 49])), (18, ([0, 1, 2, 3, 4, 5, 6, 7, 8, 9, 10, 11, 12, 13, 14, 15, 16, 17], [50, 53, 54, 55, 56, 57, 58, 59, 60, 61, 62, 63, 64, 65, 66, 67, 68, 69])), (19, ([], [70, 71])), (17, ([], [70, 51, 52])), (20, ([], [9, 72])), (21, ([], [7, 1, 4, 5, 6, 8, 73])), (22, ([], [2, 5, 73, 74, 75])), (23, ([], [76])), (24, ([], [8, 76, 77])), (13, ([], [45, 46])), (25, ([], [1, 4, 5, 6, 7, 78]))]
def xc30 : XC :=
 (.seq
 (.reg 64 [
 o 1 (.box (.t 0)),
 o 2 (.mv (ki 0))] [0, 2])
 (.seq
 (.seq
 (.reg 128 [
 o 10 (.fieldA 0 (.t 1)),
 o 11 (.load (some 2) (.t 10)),
 o 12 (.call 29 [(.t 11)]),
 o 13 (.bin .eql (.t 12) (ki 0))] [10, 11, 12])
 (.cond (.t 13)
 (.seq
 (.reg 192 [
 o 2 (.mv (ki 1))] [1, 13])
 .ret)
 .skip))
 (.seq
 (.seq
 (.reg 256 [
 o 3 (.mv (ki 0))] [2, 13])
 (.block 0
 (.loop
 (.seq
 (.seq
 (.reg 320 [
 o 14 (.mv (.t 3)),
 o 15 (.fieldA 2 (.t 1)),
 o 16 (.load none (.t 15)),
 o 17 (.len (.t 16)),
 o 18 (.bin .lss (.t 14) (.t 17))] [14, 15, 16, 17])
 (.cond (.t 18)
 .skip
 (.exit 0)))
 (.seq
 (.block 1
 (.seq
 (.reg 448 [
 o 21 (.fieldA 2 (.t 1)),
 o 22 (.load none (.t 21)),
 o 23 (.mv (.t 3)),
 o 24 (.idxA none 3 (.t 22) (.t 23)),
 o 25 (.fieldA 2 (.t 24)),
 o 26 (.load none (.t 25)),
 o 27 (.bin .lss (.t 26) (ku 1)),
 o 28 (.mv (.t 27)),
 oi 29 28 false (.fieldA 2 (.t 1)),
 oi 30 28 false (.load none (.t 29)),
 oi 31 28 false (.mv (.t 3)),
 oi 32 28 false (.idxA none 3 (.t 30) (.t 31)),
 oi 33 28 false (.fieldA 2 (.t 32)),
 oi 34 28 false (.load none (.t 33)),
 oi 35 28 false (.bin .gtr (.t 34) (ku 3)),
 o 36 (.pick (.t 28) (.c (.bool true)) (.t 35))] [18, 21, 22, 23, 24, 25, 26, 27, 28])
 (.cond (.t 36)
 (.seq
 (.reg 512 [
 o 2 (.mv (ki 1))] [3, 35, 34, 33, 32, 30, 31, 29, 1, 36])
 .ret)
 .skip)))
 (.reg 384 [
 o 19 (.mv (.t 3)),
 o 20 (.bin .add (.t 19) (ki 1)),
 o 3 (.mv (.t 20))] [2, 36, 19, 20]))))))
 (.seq
 (.reg 576 [
 o 37 (.fieldA 0 (.t 1)),
 o 38 (.load (some 2) (.t 37)),
 o 39 (.call 20 [(.t 38)]),
 o 4 (.mv (.t 39))] [3, 37, 38, 39])
 (.seq
 (.reg 640 [
 o 5 (.mv (ki (-1)))] [])
 (.seq
 (.reg 704 [
 o 6 (.mv (ki 0))] [])
 (.seq
 (.seq
 (.reg 768 [
 o 7 (.mv (ki 0))] [])
 (.block 2
 (.loop
 (.seq
 (.seq
 (.reg 832 [
 o 40 (.mv (.t 7)),
 o 41 (.fieldA 2 (.t 1)),
 o 42 (.load none (.t 41)),
 o 43 (.len (.t 42)),
 o 44 (.bin .lss (.t 40) (.t 43))] [40, 41, 42, 43])
 (.cond (.t 44)
 .skip
 (.exit 2)))
 (.seq
 (.block 3
 (.seq
 (.reg 960 [
 o 8 (.mv (ki (-1)))] [44])
 (.seq
 (.seq
 (.reg 1024 [
 o 9 (.mv (ki 0))] [])
 (.block 4
 (.loop
 (.seq
 (.seq
 (.reg 1088 [
 o 47 (.mv (.t 9)),
 o 48 (.mv (.t 4)),
 o 49 (.len (.t 48)),
 o 50 (.bin .lss (.t 47) (.t 49))] [47, 48, 49])
 (.cond (.t 50)
 .skip
 (.exit 4)))
 (.seq
 (.block 5
 (.seq
 (.draw 1216 [
 o 53 (.mv (.t 4)),
 o 54 (.mv (.t 9)),
 o 55 (.idxA none 2 (.t 53) (.t 54)),
 o 56 (.load (some 2) (.t 55)),
 o 57 (.fieldA 2 (.t 1)),
 o 58 (.load none (.t 57)),
 o 59 (.mv (.t 7)),
 o 60 (.idxA none 3 (.t 58) (.t 59)),
 o 61 (.fieldA 0 (.t 60)),
 o 62 (.load none (.t 61)),
 o 63 (.fieldA 2 (.t 1)),
 o 64 (.load none (.t 63)),
 o 65 (.mv (.t 7)),
 o 66 (.idxA none 3 (.t 64) (.t 65)),
 o 67 (.fieldA 1 (.t 66)),
 o 68 (.load none (.t 67)),
 o 69 (.build [(.int .i64 0), (.int .u8 0)] [(0, 1, (.t 62)), (1, 1, (.t 68))]),
 o 70 (.eqa false 2 [(0, 0), (1, 0)] (.t 56) (.t 69))]
 [[], [], [0, 1], [2], [], [4], [], [5, 6], [7], [8], [], [10], [], [11, 12], [13], [14], [9, 15], [3, 16]]
 [0, 1, 2, 3, 4, 5, 6, 7, 8, 9, 10, 11, 12, 13, 14, 15, 16, 17] [50, 53, 54, 55, 56, 57, 58, 59, 60, 61, 62, 63, 64, 65, 66, 67, 68, 69])
 (.cond (.t 70)
 (.reg 1280 [
 o 71 (.mv (.t 9)),
 o 8 (.mv (.t 71))] [70, 71])
 .skip)))
 (.reg 1152 [
 o 51 (.mv (.t 9)),
 o 52 (.bin .add (.t 51) (ki 1)),
 o 9 (.mv (.t 52))] [70, 51, 52]))))))
 (.seq
 (.seq
 (.reg 1344 [
 o 72 (.mv (.t 8)),
 o 73 (.bin .lss (.t 72) (ki 0))] [9, 72])
 (.cond (.t 73)
 (.seq
 (.reg 1408 [
 o 2 (.mv (ki 7))] [7, 1, 4, 5, 6, 8, 73])
 .ret)
 .skip))
 (.seq
 (.seq
 (.reg 1472 [
 o 74 (.mv (.t 8)),
 o 75 (.mv (.t 5)),
 o 76 (.bin .leq (.t 74) (.t 75))] [2, 5, 73, 74, 75])
 (.cond (.t 76)
 (.reg 1536 [
 o 6 (.mv (ki 6))] [76])
 .skip))
 (.reg 1600 [
 o 77 (.mv (.t 8)),
 o 5 (.mv (.t 77))] [8, 76, 77]))))))
 (.reg 896 [
 o 45 (.mv (.t 7)),
 o 46 (.bin .add (.t 45) (ki 1)),
 o 7 (.mv (.t 46))] [45, 46]))))))
 (.seq
 (.reg 1664 [
 o 78 (.mv (.t 6)),
 o 2 (.mv (.t 78))] [1, 4, 5, 6, 7, 78])
 .ret))))))))
def fe30 : FnE := ⟨79, [(2, none)], xc30⟩
theorem ok30 : FnOk Tryd.prog 30 fe30 := fnOk_of Tryd.func30 (by kernel_rfl : chkF Tryd.prog hs30 Tryd.f30 = some fe30)
/- 31 crimp/patterns.Empty -/
def hs31 : Hints := [(0, ([], [0, 3])), (1, ([], [5, 6])), (2, ([], [7])), (3, ([], [1, 4, 8, 9, 10])), (4, ([], [1, 4, 8, 11, 12]))]
def xc31 : XC :=
 (.seq
 (.reg 64 [
 o 1 (.box (.t 0)),
 o 2 (.new (.cells [(.int .i64 0), (.int .i64 0), .nils]) 1 3),
 o 3 (.mv (ki 0))] [0, 3])
 (.seq
 (.seq
 (.reg 128 [
 o 5 (.load (some 2) (.t 1)),
 o 6 (.call 64 [(.t 5)]),
 o 4 (.mv (.t 6))] [5, 6])
 (.seq
 (.reg 192 [
 o 7 (.mv (.t 4)),
 o 8 (.bin .neq (.t 7) (ki 0))] [7])
 (.cond (.t 8)
 (.seq
 (.reg 256 [
 o 9 (.build [(.int .i64 0), (.int .i64 0), .nils] []),
 o 10 (.mv (.t 4)),
 ⟨none, .store 3 (.t 2) (.t 9), none⟩,
 o 3 (.mv (.t 10))] [1, 4, 8, 9, 10])
 .ret)
 .skip)))
 (.seq
 (.reg 320 [
 o 11 (.load (some 2) (.t 1)),
 o 12 (.build [(.int .i64 0), (.int .i64 0), .nils] [(0, 2, (.t 11))]),
 ⟨none, .store 3 (.t 2) (.t 12), none⟩,
 o 3 (.mv (ki 0))] [1, 4, 8, 11, 12])
 .ret)))
def fe31 : FnE := ⟨13, [(2, some (some 3)), (3, none)], xc31⟩
theorem ok31 : FnOk Tryd.prog 31 fe31 := fnOk_of Tryd.func31 (by kernel_rfl : chkF Tryd.prog hs31 Tryd.f31 = some fe31)
/- 32 crimp/patterns.Same -/
def hs32 : Hints := [(0, ([], [0, 1, 4])), (1, ([], [2, 3, 5, 6, 7, 8, 9, 10, 11, 12, 13, 14, 15, 16]))]
def xc32 : XC :=
 (.seq
 (.reg 64 [
 o 2 (.box (.t 0)),
 o 3 (.box (.t 1)),
 o 4 (.mv (.c (.bool false)))] [0, 1, 4])
 (.seq
 (.reg 128 [
 o 5 (.fieldA 0 (.t 2)),
 o 6 (.load (some 2) (.t 5)),
 o 7 (.fieldA 0 (.t 3)),
 o 8 (.load (some 2) (.t 7)),
 o 9 (.eqa false 2 [(0, 0), (1, 0)] (.t 6) (.t 8)),
 o 10 (.mv (.t 9)),
 oi 11 10 true (.fieldA 2 (.t 2)),
 oi 12 10 true (.load none (.t 11)),
 oi 13 10 true (.fieldA 2 (.t 3)),
 oi 14 10 true (.load none (.t 13)),
 oi 15 10 true (.call 67 [(.t 12), (.t 14)]),
 o 16 (.pick (.t 10) (.t 15) (.c (.bool false))),
 o 4 (.mv (.t 16))] [2, 3, 5, 6, 7, 8, 9, 10, 11, 12, 13, 14, 15, 16])
 .ret))
def fe32 : FnE := ⟨17, [(4, none)], xc32⟩
theorem ok32 : FnOk Tryd.prog 32 fe32 := fnOk_of Tryd.func32 (by kernel_rfl : chkF Tryd.prog hs32 Tryd.f32 = some fe32)
/- 33 crimp/patterns.Fits -/
def hs33 : Hints := [(0, ([], [0, 1, 4])), (1, ([], [2, 3, 5, 6, 7, 8, 9, 10, 11, 12, 13, 14, 15, 16]))]
def xc33 : XC :=
 (.seq
 (.reg 64 [
 o 2 (.box (.t 0)),
 o 3 (.box (.t 1)),
 o 4 (.mv (.c (.bool false)))] [0, 1, 4])
 (.seq
 (.reg 128 [
 o 5 (.fieldA 0 (.t 2)),
 o 6 (.load (some 2) (.t 5)),
 o 7 (.fieldA 0 (.t 3)),
 o 8 (.load (some 2) (.t 7)),
 o 9 (.eqa false 2 [(0, 0), (1, 0)] (.t 6) (.t 8)),
 o 10 (.mv (.t 9)),
 oi 11 10 true (.fieldA 2 (.t 2)),
 oi 12 10 true (.load none (.t 11)),
 oi 13 10 true (.fieldA 2 (.t 3)),
 oi 14 10 true (.load none (.t 13)),
 oi 15 10 true (.call 68 [(.t 12), (.t 14), (.c (.fn 69 [] []))]),
 o 16 (.pick (.t 10) (.t 15) (.c (.bool false))),
 o 4 (.mv (.t 16))] [2, 3, 5, 6, 7, 8, 9, 10, 11, 12, 13, 14, 15, 16])
 .ret))
def fe33 : FnE := ⟨17, [(4, none)], xc33⟩
theorem ok33 : FnOk Tryd.prog 33 fe33 := fnOk_of Tryd.func33 (by kernel_rfl : chkF Tryd.prog hs33 Tryd.f33 = some fe33)
/- 34 crimp/patterns.Count -/
def hs34 : Hints := [(0, ([], [0, 4])), (2, ([], [2, 8])), (4, ([], [12, 13, 14])), (5, ([], [7, 15, 16, 17])), (6, ([], [18, 19, 20])), (7, ([], [18, 21])), (8, ([], [1, 5, 9, 10, 11, 22]))]
def xc34 : XC :=
 (.seq
 (.reg 64 [
 o 2 (.box (.t 0)),
 o 4 (.mv (ki 0))] [0, 4])
 (.seq
 (.reg 128 [
 o 5 (.mv (ki 0))] [])
 (.seq
 (.seq
 (.reg 192 [
 o 8 (.fieldA 2 (.t 2)),
 o 9 (.load none (.t 8)),
 o 10 (.len (.t 9)),
 o 11 (.mv (ki 0))] [2, 8])
 (.block 0
 (.loop
 (.seq
 (.reg 256 [
 o 12 (.bin .lss (.t 11) (.t 10))] [])
 (.seq
 (.cond (.t 12)
 .skip
 (.exit 0))
 (.seq
 (.block 1
 (.seq
 (.reg 320 [
 o 13 (.idxA none 3 (.t 9) (.t 11)),
 o 14 (.load (some 3) (.t 13)),
 o 7 (.new (.cells [(.int .i64 0), (.int .u8 0), (.int .u8 0)]) 1 3),
 ⟨none, .store 3 (.t 7) (.t 14), none⟩] [12, 13, 14])
 (.seq
 (.reg 384 [
 o 15 (.fieldA 2 (.t 7)),
 o 16 (.load none (.t 15)),
 o 17 (.mv (.t 1)),
 o 18 (.bin .eql (.t 16) (.t 17))] [7, 15, 16, 17])
 (.cond (.t 18)
 (.reg 448 [
 o 19 (.mv (.t 5)),
 o 20 (.bin .add (.t 19) (ki 1)),
 o 5 (.mv (.t 20))] [18, 19, 20])
 .skip))))
 (.reg 512 [
 o 21 (.bin .add (.t 11) (ki 1)),
 o 11 (.mv (.t 21))] [18, 21])))))))
 (.seq
 (.reg 576 [
 o 22 (.mv (.t 5)),
 o 4 (.mv (.t 22))] [1, 5, 9, 10, 11, 22])
 .ret))))
def fe34 : FnE := ⟨23, [(4, none)], xc34⟩
theorem ok34 : FnOk Tryd.prog 34 fe34 := fnOk_of Tryd.func34 (by kernel_rfl : chkF Tryd.prog hs34 Tryd.f34 = some fe34)
/- 35 (crimp/crimplaw05.W).Of -/
def hs35 : Hints := [(0, ([], [0])), (1, ([], [1, 3, 4, 5, 6, 7, 8, 9, 10, 11, 12, 13]))]
def xc35 : XC :=
 (.seq
 (.reg 64 [
 o 1 (.box (.t 0)),
 o 2 (.new (.cells [(.int .i64 0), (.int .i64 0)]) 1 2)] [0])
 (.seq
 (.reg 128 [
 o 3 (.fieldA 0 (.t 1)),
 o 4 (.load none (.t 3)),
 o 5 (.bin .rem (.t 4) (ku 5)),
 o 6 (.conv .i64 (.t 5)),
 o 7 (.bin .add (ki 1) (.t 6)),
 o 8 (.fieldA 1 (.t 1)),
 o 9 (.load none (.t 8)),
 o 10 (.bin .rem (.t 9) (ku 5)),
 o 11 (.conv .i64 (.t 10)),
 o 12 (.bin .add (ki 1) (.t 11)),
 o 13 (.build [(.int .i64 0), (.int .i64 0)] [(0, 1, (.t 7)), (1, 1, (.t 12))]),
 ⟨none, .store 2 (.t 2) (.t 13), none⟩] [1, 3, 4, 5, 6, 7, 8, 9, 10, 11, 12, 13])
 .ret))
def fe35 : FnE := ⟨14, [(2, some (some 2))], xc35⟩
theorem ok35 : FnOk Tryd.prog 35 fe35 := fnOk_of Tryd.func35 (by kernel_rfl : chkF Tryd.prog hs35 Tryd.f35 = some fe35)
/- 36 crimp/crimplaw06.crease -/
def hs36 : Hints := [(1, ([], [0, 1, 2, 7, 8, 9, 10]))]
def xc36 : XC :=
 (.seq
 (.reg 64 [
 o 6 (.new (.cells [(.int .i64 0), (.int .u8 0), (.int .u8 0)]) 1 3)] [])
 (.seq
 (.reg 128 [
 o 7 (.mv (.t 0)),
 o 8 (.mv (.t 1)),
 o 9 (.mv (.t 2)),
 o 10 (.build [(.int .i64 0), (.int .u8 0), (.int .u8 0)] [(0, 1, (.t 7)), (1, 1, (.t 8)), (2, 1, (.t 9))]),
 ⟨none, .store 3 (.t 6) (.t 10), none⟩] [0, 1, 2, 7, 8, 9, 10])
 .ret))
def fe36 : FnE := ⟨11, [(6, some (some 3))], xc36⟩
theorem ok36 : FnOk Tryd.prog 36 fe36 := fnOk_of Tryd.func36 (by kernel_rfl : chkF Tryd.prog hs36 Tryd.f36 = some fe36)
/- 42 crimp/crimpref03.Line -/
def hs42 : Hints := [(0, ([], [0])), (1, ([], [2, 12, 13])), (2, ([0, 1, 2, 3, 4, 5, 6, 7, 8, 9, 10, 11, 12, 13], [1, 5, 14, 15, 16, 17, 18, 19, 20, 21, 22, 23])), (5, ([], [24])), (7, ([], [25, 29, 30, 28, 31, 32])), (8, ([], [33, 34, 35, 36, 37, 38, 39, 40, 41, 42, 43, 44, 45, 46, 47, 48, 49, 50])), (9, ([], [10, 11, 51, 52, 53, 54, 55, 56, 57, 58, 59, 60, 61, 62, 63])), (6, ([], [10, 11, 51, 26, 27])), (10, ([], [6, 7, 8, 9, 64]))]
def xc42 : XC :=
 (.seq
 (.reg 64 [
 o 2 (.box (.t 0)),
 o 4 (.new (.cells [(.int .u8 0), (.int .i64 0)]) 1 2)] [0])
 (.seq
 (.reg 128 [
 o 12 (.load (some 3) (.t 2)),
 o 13 (.call 76 [(.t 12)]),
 o 5 (.new (.cells [(.int .i64 0), (.int .i64 0), (.int .i64 0), (.int .i64 0), (.int .i64 0), (.int .i64 0)]) 3 2),
 ⟨none, .store 6 (.t 5) (.t 13), none⟩] [2, 12, 13])
 (.seq
 (.draw 192 [
 o 14 (.mv (.t 1)),
 o 15 (.bin .add (.t 14) (ki 1)),
 o 16 (.bin .rem (.t 15) (ki 3)),
 o 17 (.idxA (some 3) 2 (.t 5) (.t 16)),
 o 18 (.load (some 2) (.t 17)),
 o 19 (.mv (.t 1)),
 o 20 (.bin .add (.t 19) (ki 2)),
 o 21 (.bin .rem (.t 20) (ki 3)),
 o 22 (.idxA (some 3) 2 (.t 5) (.t 21)),
 o 23 (.load (some 2) (.t 22)),
 o 6 (.new (.cells [(.int .i64 0), (.int .i64 0)]) 1 2),
 o 7 (.new (.cells [(.int .i64 0), (.int .i64 0)]) 1 2),
 ⟨none, .store 2 (.t 6) (.t 18), none⟩,
 ⟨none, .store 2 (.t 7) (.t 23), none⟩]
 [[], [0], [1], [2], [3], [], [5], [6], [7], [8], [], [], [10, 4, 0, 1, 2, 3, 4, 10, 11], [11, 9, 12, 0, 1, 2, 3, 4, 5, 6, 7, 8, 9, 10, 11, 12]]
 [0, 1, 2, 3, 4, 5, 6, 7, 8, 9, 10, 11, 12, 13] [1, 5, 14, 15, 16, 17, 18, 19, 20, 21, 22, 23])
 (.seq
 (.reg 256 [
 o 8 (.new (.cells [(.int .u8 0), (.int .i64 0)]) 1 2)] [])
 (.seq
 (.seq
 (.reg 320 [
 o 9 (.mv (ku 1))] [])
 (.block 0
 (.loop
 (.seq
 (.seq
 (.reg 384 [
 o 24 (.mv (.t 9)),
 o 25 (.bin .leq (.t 24) (ku 4))] [24])
 (.cond (.t 25)
 .skip
 (.exit 0)))
 (.seq
 (.block 1
 (.seq
 (.reg 512 [
 o 29 (.mv (.t 9)),
 o 30 (.call 77 [(.t 29)]),
 o 28 (.mv (.t 30)),
 o 31 (.ext (.t 28) 0),
 o 32 (.ext (.t 28) 1),
 o 10 (.mv (.t 31)),
 o 11 (.mv (.t 32))] [25, 29, 30, 28, 31, 32])
 (.seq
 (.reg 576 [
 o 33 (.mv (.t 10)),
 o 34 (.fieldA 0 (.t 6)),
 o 35 (.load none (.t 34)),
 o 36 (.bin .mul (.t 33) (.t 35)),
 o 37 (.mv (.t 11)),
 o 38 (.fieldA 1 (.t 6)),
 o 39 (.load none (.t 38)),
 o 40 (.bin .mul (.t 37) (.t 39)),
 o 41 (.bin .add (.t 36) (.t 40)),
 o 42 (.mv (.t 10)),
 o 43 (.fieldA 0 (.t 7)),
 o 44 (.load none (.t 43)),
 o 45 (.bin .mul (.t 42) (.t 44)),
 o 46 (.mv (.t 11)),
 o 47 (.fieldA 1 (.t 7)),
 o 48 (.load none (.t 47)),
 o 49 (.bin .mul (.t 46) (.t 48)),
 o 50 (.bin .add (.t 45) (.t 49)),
 o 51 (.bin .eql (.t 41) (.t 50))] [33, 34, 35, 36, 37, 38, 39, 40, 41, 42, 43, 44, 45, 46, 47, 48, 49, 50])
 (.cond (.t 51)
 (.reg 640 [
 o 52 (.mv (.t 9)),
 o 53 (.mv (.t 10)),
 o 54 (.fieldA 0 (.t 6)),
 o 55 (.load none (.t 54)),
 o 56 (.bin .mul (.t 53) (.t 55)),
 o 57 (.mv (.t 11)),
 o 58 (.fieldA 1 (.t 6)),
 o 59 (.load none (.t 58)),
 o 60 (.bin .mul (.t 57) (.t 59)),
 o 61 (.bin .add (.t 56) (.t 60)),
 o 62 (.bin .quo (.t 61) (ki 2)),
 o 63 (.build [(.int .u8 0), (.int .i64 0)] [(0, 1, (.t 52)), (1, 1, (.t 62))]),
 ⟨none, .store 2 (.t 8) (.t 63), none⟩] [10, 11, 51, 52, 53, 54, 55, 56, 57, 58, 59, 60, 61, 62, 63])
 .skip))))
 (.reg 448 [
 o 26 (.mv (.t 9)),
 o 27 (.bin .add (.t 26) (ku 1)),
 o 9 (.mv (.t 27))] [10, 11, 51, 26, 27]))))))
 (.seq
 (.reg 704 [
 o 64 (.load (some 2) (.t 8)),
 ⟨none, .store 2 (.t 4) (.t 64), none⟩] [6, 7, 8, 9, 64])
 .ret))))))
def fe42 : FnE := ⟨65, [(4, some (some 2))], xc42⟩
theorem ok42 : FnOk Tryd.prog 42 fe42 := fnOk_of Tryd.func42 (by kernel_rfl : chkF Tryd.prog hs42 Tryd.f42 = some fe42)
/- 50 crimp/patterns.at -/
def hs50 : Hints := [(0, ([], [0, 7, 8, 9])), (1, ([], [15, 16])), (2, ([], [17])), (3, ([], [1, 2, 3, 10, 18, 19, 20])), (4, ([], [7, 8, 9, 1, 2, 10, 18, 22, 23, 24, 25, 26, 21, 27, 28])), (5, ([], [29])), (6, ([], [3, 11, 12, 30, 31, 32])), (7, ([], [7, 8, 9, 3, 12, 30, 34, 35, 36, 37, 33, 38, 39])), (8, ([], [11, 13, 14, 40, 41, 42]))]
def xc50 : XC :=
 (.seq
 (.reg 64 [
 o 3 (.box (.t 0)),
 o 6 (.new (.cells [(.int .i64 0), (.int .u8 0)]) 1 2),
 o 7 (.mv (ki 0)),
 o 8 (.mv (.c (.bool false))),
 o 9 (.mv (ki 0))] [0, 7, 8, 9])
 (.seq
 (.seq
 (.reg 128 [
 o 15 (.load (some 3) (.t 3)),
 o 16 (.call 27 [(.t 15)]),
 o 10 (.mv (.t 16))] [15, 16])
 (.seq
 (.reg 192 [
 o 17 (.mv (.t 10)),
 o 18 (.bin .neq (.t 17) (ki 0))] [17])
 (.cond (.t 18)
 (.seq
 (.reg 256 [
 o 19 (.build [(.int .i64 0), (.int .u8 0)] []),
 o 20 (.mv (.t 10)),
 ⟨none, .store 2 (.t 6) (.t 19), none⟩,
 o 7 (.mv (ki 0)),
 o 8 (.mv (.c (.bool false))),
 o 9 (.mv (.t 20))] [1, 2, 3, 10, 18, 19, 20])
 .ret)
 .skip)))
 (.seq
 (.reg 320 [
 o 22 (.fieldA 0 (.t 3)),
 o 23 (.load (some 2) (.t 22)),
 o 24 (.mv (.t 1)),
 o 25 (.mv (.t 2)),
 o 26 (.call 58 [(.t 23), (.t 24), (.t 25)]),
 o 21 (.mv (.t 26)),
 o 27 (.ext (.t 21) 0),
 o 28 (.ext (.t 21) 1),
 o 11 (.new (.cells [(.int .i64 0), (.int .u8 0)]) 1 2),
 ⟨none, .store 2 (.t 11) (.t 27), none⟩,
 o 12 (.mv (.t 28))] [7, 8, 9, 1, 2, 10, 18, 22, 23, 24, 25, 26, 21, 27, 28])
 (.seq
 (.seq
 (.reg 384 [
 o 29 (.mv (.t 12)),
 o 30 (.bin .neq (.t 29) (ki 0))] [29])
 (.cond (.t 30)
 (.seq
 (.reg 448 [
 o 31 (.build [(.int .i64 0), (.int .u8 0)] []),
 o 32 (.mv (.t 12)),
 ⟨none, .store 2 (.t 6) (.t 31), none⟩,
 o 7 (.mv (ki 0)),
 o 8 (.mv (.c (.bool false))),
 o 9 (.mv (.t 32))] [3, 11, 12, 30, 31, 32])
 .ret)
 .skip))
 (.seq
 (.reg 512 [
 o 34 (.fieldA 2 (.t 3)),
 o 35 (.load none (.t 34)),
 o 36 (.load (some 2) (.t 11)),
 o 37 (.call 87 [(.t 35), (.t 36)]),
 o 33 (.mv (.t 37)),
 o 38 (.ext (.t 33) 0),
 o 39 (.ext (.t 33) 1),
 o 13 (.mv (.t 38)),
 o 14 (.mv (.t 39))] [7, 8, 9, 3, 12, 30, 34, 35, 36, 37, 33, 38, 39])
 (.seq
 (.reg 576 [
 o 40 (.load (some 2) (.t 11)),
 o 41 (.mv (.t 13)),
 o 42 (.mv (.t 14)),
 ⟨none, .store 2 (.t 6) (.t 40), none⟩,
 o 7 (.mv (.t 41)),
 o 8 (.mv (.t 42)),
 o 9 (.mv (ki 0))] [11, 13, 14, 40, 41, 42])
 .ret))))))
def fe50 : FnE := ⟨43, [(6, some (some 2)), (7, none), (8, none), (9, none)], xc50⟩
theorem ok50 : FnOk Tryd.prog 50 fe50 := fnOk_of Tryd.func50 (by kernel_rfl : chkF Tryd.prog hs50 Tryd.f50 = some fe50)
/- 51 crimp/patterns.isKind -/
def hs51 : Hints := [(0, ([], [2])), (1, ([], [0, 3, 4, 5, 6, 7, 8]))]
def xc51 : XC :=
 (.seq
 (.reg 64 [
 o 2 (.mv (.c (.bool false)))] [2])
 (.seq
 (.reg 128 [
 o 3 (.mv (.t 0)),
 o 4 (.bin .geq (.t 3) (ku 1)),
 o 5 (.mv (.t 4)),
 oi 6 5 true (.mv (.t 0)),
 oi 7 5 true (.bin .leq (.t 6) (ku 3)),
 o 8 (.pick (.t 5) (.t 7) (.c (.bool false))),
 o 2 (.mv (.t 8))] [0, 3, 4, 5, 6, 7, 8])
 .ret))
def fe51 : FnE := ⟨9, [(2, none)], xc51⟩
theorem ok51 : FnOk Tryd.prog 51 fe51 := fnOk_of Tryd.func51 (by kernel_rfl : chkF Tryd.prog hs51 Tryd.f51 = some fe51)
/- 52 slices.Clip[[]crimp/patterns.Crease,crimp/patterns.Crease] -/
def hs52 : Hints := [(0, ([], [2])), (1, ([], [0, 3, 4, 5, 6, 7, 8]))]
def xc52 : XC :=
 (.seq
 (.reg 64 [
 o 2 (.mv (.c .nils))] [2])
 (.seq
 (.reg 128 [
 o 3 (.mv (.t 0)),
 o 4 (.mv (.t 0)),
 o 5 (.len (.t 4)),
 o 6 (.mv (.t 0)),
 o 7 (.len (.t 6)),
 o 8 (.slice 3 (.t 3) none (some (.t 5)) (some (.t 7))),
 o 2 (.mv (.t 8))] [0, 3, 4, 5, 6, 7, 8])
 .ret))
def fe52 : FnE := ⟨9, [(2, none)], xc52⟩
theorem ok52 : FnOk Tryd.prog 52 fe52 := fnOk_of Tryd.func52 (by kernel_rfl : chkF Tryd.prog hs52 Tryd.f52 = some fe52)
/- 53 crimp/crimplaw06.on -/
def hs53 : Hints := [(1, ([], [0, 3, 4, 5]))]
def xc53 : XC :=
 (.seq
 (.reg 64 [
 o 2 (.new (.cells [(.int .i64 0), (.int .i64 0), .nils]) 1 3)] [])
 (.seq
 (.reg 128 [
 o 3 (.build [(.int .i64 0), (.int .i64 0)] [(0, 1, (ki 2)), (1, 1, (ki 1))]),
 o 4 (.mv (.t 0)),
 o 5 (.build [(.int .i64 0), (.int .i64 0), .nils] [(0, 2, (.t 3)), (2, 1, (.t 4))]),
 ⟨none, .store 3 (.t 2) (.t 5), none⟩] [0, 3, 4, 5])
 .ret))
def fe53 : FnE := ⟨6, [(2, some (some 3))], xc53⟩
theorem ok53 : FnOk Tryd.prog 53 fe53 := fnOk_of Tryd.func53 (by kernel_rfl : chkF Tryd.prog hs53 Tryd.f53 = some fe53)
/- 54 crimp/crimpref05.Id -/
def hs54 : Hints := [(0, ([], [0, 1, 4])), (1, ([], [5, 6, 7, 8, 9, 10, 11, 12, 13, 14, 15, 16, 17, 18, 19, 20, 21, 22, 23, 24, 25, 26, 27, 28, 29, 30])), (2, ([], [2, 3, 31])), (3, ([], [2, 3, 31, 32, 33, 34, 35, 36, 37, 38, 39, 40, 41, 42, 43, 44, 45]))]
def xc54 : XC :=
 (.seq
 (.reg 64 [
 o 2 (.box (.t 0)),
 o 3 (.box (.t 1)),
 o 4 (.mv (ki 0))] [0, 1, 4])
 (.seq
 (.seq
 (.reg 128 [
 o 5 (.fieldA 0 (.t 3)),
 o 6 (.load none (.t 5)),
 o 7 (.bin .lss (.t 6) (ki 0)),
 o 8 (.mv (.t 7)),
 oi 9 8 false (.fieldA 1 (.t 3)),
 oi 10 8 false (.load none (.t 9)),
 oi 11 8 false (.bin .lss (.t 10) (ki 0)),
 o 12 (.pick (.t 8) (.c (.bool true)) (.t 11)),
 o 13 (.mv (.t 12)),
 oi 14 13 false (.fieldA 0 (.t 3)),
 oi 15 13 false (.load none (.t 14)),
 oi 16 13 false (.fieldA 0 (.t 2)),
 oi 17 13 false (.load none (.t 16)),
 oi 18 13 false (.bin .geq (.t 15) (.t 17)),
 o 19 (.pick (.t 13) (.c (.bool true)) (.t 18)),
 o 20 (.mv (.t 19)),
 oi 21 20 false (.fieldA 1 (.t 3)),
 oi 22 20 false (.load none (.t 21)),
 oi 23 20 false (.fieldA 1 (.t 2)),
 oi 24 20 false (.load none (.t 23)),
 oi 25 20 false (.bin .geq (.t 22) (.t 24)),
 o 26 (.pick (.t 20) (.c (.bool true)) (.t 25)),
 o 27 (.mv (.t 26)),
 oi 28 27 false (.fieldA 2 (.t 3)),
 oi 29 27 false (.load none (.t 28)),
 oi 30 27 false (.bin .gtr (.t 29) (ku 3)),
 o 31 (.pick (.t 27) (.c (.bool true)) (.t 30))] [5, 6, 7, 8, 9, 10, 11, 12, 13, 14, 15, 16, 17, 18, 19, 20, 21, 22, 23, 24, 25, 26, 27, 28, 29, 30])
 (.cond (.t 31)
 (.seq
 (.reg 192 [
 o 4 (.mv (ki (-1)))] [2, 3, 31])
 .ret)
 .skip))
 (.seq
 (.reg 256 [
 o 32 (.fieldA 0 (.t 2)),
 o 33 (.load none (.t 32)),
 o 34 (.bin .mul (ki 4) (.t 33)),
 o 35 (.fieldA 1 (.t 3)),
 o 36 (.load none (.t 35)),
 o 37 (.bin .mul (.t 34) (.t 36)),
 o 38 (.fieldA 0 (.t 3)),
 o 39 (.load none (.t 38)),
 o 40 (.bin .mul (ki 4) (.t 39)),
 o 41 (.bin .add (.t 37) (.t 40)),
 o 42 (.fieldA 2 (.t 3)),
 o 43 (.load none (.t 42)),
 o 44 (.conv .i64 (.t 43)),
 o 45 (.bin .add (.t 41) (.t 44)),
 o 4 (.mv (.t 45))] [2, 3, 31, 32, 33, 34, 35, 36, 37, 38, 39, 40, 41, 42, 43, 44, 45])
 .ret)))
def fe54 : FnE := ⟨46, [(4, none)], xc54⟩
theorem ok54 : FnOk Tryd.prog 54 fe54 := fnOk_of Tryd.func54 (by kernel_rfl : chkF Tryd.prog hs54 Tryd.f54 = some fe54)
/- 55 crimp/crimpref03.Neighbour -/
def hs55 : Hints := [(0, ([], [0])), (1, ([], [1, 8, 9, 10])), (2, ([], [2, 11, 12])), (4, ([], [13])), (6, ([0, 1, 2, 3, 4, 5, 6, 7], [14, 17, 18, 19, 20, 21, 22, 23])), (5, ([], [15, 16])), (7, ([], [5, 6, 7, 24, 25]))]
def xc55 : XC :=
 (.seq
 (.reg 64 [
 o 2 (.box (.t 0)),
 o 4 (.new (.cells [(.int .i64 0), (.int .i64 0), (.int .u8 0)]) 1 3)] [0])
 (.seq
 (.reg 128 [
 o 8 (.load (some 3) (.t 2)),
 o 9 (.mv (.t 1)),
 o 10 (.call 42 [(.t 8), (.t 9)]),
 o 5 (.new (.cells [(.int .u8 0), (.int .i64 0)]) 1 2),
 ⟨none, .store 2 (.t 5) (.t 10), none⟩] [1, 8, 9, 10])
 (.seq
 (.reg 192 [
 o 11 (.load (some 3) (.t 2)),
 o 12 (.call 76 [(.t 11)]),
 o 6 (.new (.cells [(.int .i64 0), (.int .i64 0), (.int .i64 0), (.int .i64 0), (.int .i64 0), (.int .i64 0)]) 3 2),
 ⟨none, .store 6 (.t 6) (.t 12), none⟩] [2, 11, 12])
 (.seq
 (.seq
 (.reg 256 [
 o 7 (.mv (ki 0))] [])
 (.block 0
 (.loop
 (.seq
 (.seq
 (.reg 320 [
 o 13 (.mv (.t 7)),
 o 14 (.bin .lss (.t 13) (ki 3))] [13])
 (.cond (.t 14)
 .skip
 (.exit 0)))
 (.seq
 (.block 1
 (.draw 448 [
 o 17 (.mv (.t 7)),
 o 18 (.load (some 2) (.t 5)),
 o 19 (.mv (.t 7)),
 o 20 (.idxA (some 3) 2 (.t 6) (.t 19)),
 o 21 (.load (some 2) (.t 20)),
 o 22 (.call 88 [(.t 18), (.t 21)]),
 o 23 (.idxA (some 3) 2 (.t 6) (.t 17)),
 ⟨none, .store 2 (.t 23) (.t 22), none⟩]
 [[], [], [], [2], [3], [1, 4], [0, 0, 1, 2, 3, 4, 5], [6, 5, 5, 0, 1, 2, 3, 4, 5]]
 [0, 1, 2, 3, 4, 5, 6, 7] [14, 17, 18, 19, 20, 21, 22, 23]))
 (.reg 384 [
 o 15 (.mv (.t 7)),
 o 16 (.bin .add (.t 15) (ki 1)),
 o 7 (.mv (.t 16))] [15, 16]))))))
 (.seq
 (.reg 512 [
 o 24 (.load (some 6) (.t 6)),
 o 25 (.call 89 [(.t 24)]),
 ⟨none, .store 3 (.t 4) (.t 25), none⟩] [5, 6, 7, 24, 25])
 .ret)))))
def fe55 : FnE := ⟨26, [(4, some (some 3))], xc55⟩
theorem ok55 : FnOk Tryd.prog 55 fe55 := fnOk_of Tryd.func55 (by kernel_rfl : chkF Tryd.prog hs55 Tryd.f55 = some fe55)
/- 56 crimp/sheets.Cell -/
def hs56 : Hints := [(0, ([], [0, 5])), (1, ([], [7, 8])), (2, ([], [9])), (3, ([], [1, 2, 6, 10, 11, 12])), (4, ([], [5, 6, 10, 13, 14, 15])), (5, ([], [1, 2, 16, 17])), (6, ([], [1, 2, 16, 18, 19, 20]))]
def xc56 : XC :=
 (.seq
 (.reg 64 [
 o 2 (.box (.t 0)),
 o 4 (.new (.cells [(.int .i64 0), (.int .i64 0), (.int .u8 0)]) 1 3),
 o 5 (.mv (ki 0))] [0, 5])
 (.seq
 (.seq
 (.reg 128 [
 o 7 (.load (some 2) (.t 2)),
 o 8 (.call 64 [(.t 7)]),
 o 6 (.mv (.t 8))] [7, 8])
 (.seq
 (.reg 192 [
 o 9 (.mv (.t 6)),
 o 10 (.bin .neq (.t 9) (ki 0))] [9])
 (.cond (.t 10)
 (.seq
 (.reg 256 [
 o 11 (.build [(.int .i64 0), (.int .i64 0), (.int .u8 0)] []),
 o 12 (.mv (.t 6)),
 ⟨none, .store 3 (.t 4) (.t 11), none⟩,
 o 5 (.mv (.t 12))] [1, 2, 6, 10, 11, 12])
 .ret)
 .skip)))
 (.seq
 (.seq
 (.reg 320 [
 o 13 (.load (some 2) (.t 2)),
 o 14 (.mv (.t 1)),
 o 15 (.call 90 [(.t 13), (.t 14)]),
 o 16 (.un .not (.t 15))] [5, 6, 10, 13, 14, 15])
 (.cond (.t 16)
 (.seq
 (.reg 384 [
 o 17 (.build [(.int .i64 0), (.int .i64 0), (.int .u8 0)] []),
 ⟨none, .store 3 (.t 4) (.t 17), none⟩,
 o 5 (.mv (ki 7))] [1, 2, 16, 17])
 .ret)
 .skip))
 (.seq
 (.reg 448 [
 o 18 (.load (some 2) (.t 2)),
 o 19 (.mv (.t 1)),
 o 20 (.call 91 [(.t 18), (.t 19)]),
 ⟨none, .store 3 (.t 4) (.t 20), none⟩,
 o 5 (.mv (ki 0))] [1, 2, 16, 18, 19, 20])
 .ret))))
def fe56 : FnE := ⟨21, [(4, some (some 3)), (5, none)], xc56⟩
theorem ok56 : FnOk Tryd.prog 56 fe56 := fnOk_of Tryd.func56 (by kernel_rfl : chkF Tryd.prog hs56 Tryd.f56 = some fe56)
/- 57 crimp/sheets.Id -/
def hs57 : Hints := [(0, ([], [0, 1, 4, 5])), (1, ([], [7, 8])), (2, ([], [9])), (3, ([], [2, 3, 6, 10, 11])), (4, ([], [4, 5, 6, 10, 12, 13, 14, 15, 16, 17, 18, 19, 20, 21, 22, 23, 24, 25, 26, 27, 28, 29, 30, 31, 32, 33, 34, 35, 36, 37])), (5, ([], [2, 3, 38])), (6, ([], [2, 3, 38, 39, 40, 41, 42, 43, 44, 45, 46, 47, 48, 49, 50, 51]))]
def xc57 : XC :=
 (.seq
 (.reg 64 [
 o 2 (.box (.t 0)),
 o 3 (.box (.t 1)),
 o 4 (.mv (ki 0)),
 o 5 (.mv (ki 0))] [0, 1, 4, 5])
 (.seq
 (.seq
 (.reg 128 [
 o 7 (.load (some 2) (.t 2)),
 o 8 (.call 64 [(.t 7)]),
 o 6 (.mv (.t 8))] [7, 8])
 (.seq
 (.reg 192 [
 o 9 (.mv (.t 6)),
 o 10 (.bin .neq (.t 9) (ki 0))] [9])
 (.cond (.t 10)
 (.seq
 (.reg 256 [
 o 11 (.mv (.t 6)),
 o 4 (.mv (ki 0)),
 o 5 (.mv (.t 11))] [2, 3, 6, 10, 11])
 .ret)
 .skip)))
 (.seq
 (.seq
 (.reg 320 [
 o 12 (.load (some 3) (.t 3)),
 o 13 (.call 92 [(.t 12)]),
 o 14 (.bin .neq (.t 13) (ki 0)),
 o 15 (.mv (.t 14)),
 oi 16 15 false (.fieldA 0 (.t 3)),
 oi 17 15 false (.load none (.t 16)),
 oi 18 15 false (.bin .lss (.t 17) (ki 0)),
 o 19 (.pick (.t 15) (.c (.bool true)) (.t 18)),
 o 20 (.mv (.t 19)),
 oi 21 20 false (.fieldA 0 (.t 3)),
 oi 22 20 false (.load none (.t 21)),
 oi 23 20 false (.fieldA 0 (.t 2)),
 oi 24 20 false (.load none (.t 23)),
 oi 25 20 false (.bin .geq (.t 22) (.t 24)),
 o 26 (.pick (.t 20) (.c (.bool true)) (.t 25)),
 o 27 (.mv (.t 26)),
 oi 28 27 false (.fieldA 1 (.t 3)),
 oi 29 27 false (.load none (.t 28)),
 oi 30 27 false (.bin .lss (.t 29) (ki 0)),
 o 31 (.pick (.t 27) (.c (.bool true)) (.t 30)),
 o 32 (.mv (.t 31)),
 oi 33 32 false (.fieldA 1 (.t 3)),
 oi 34 32 false (.load none (.t 33)),
 oi 35 32 false (.fieldA 1 (.t 2)),
 oi 36 32 false (.load none (.t 35)),
 oi 37 32 false (.bin .geq (.t 34) (.t 36)),
 o 38 (.pick (.t 32) (.c (.bool true)) (.t 37))] [4, 5, 6, 10, 12, 13, 14, 15, 16, 17, 18, 19, 20, 21, 22, 23, 24, 25, 26, 27, 28, 29, 30, 31, 32, 33, 34, 35, 36, 37])
 (.cond (.t 38)
 (.seq
 (.reg 384 [
 o 4 (.mv (ki 0)),
 o 5 (.mv (ki 7))] [2, 3, 38])
 .ret)
 .skip))
 (.seq
 (.reg 448 [
 o 39 (.fieldA 1 (.t 3)),
 o 40 (.load none (.t 39)),
 o 41 (.fieldA 0 (.t 2)),
 o 42 (.load none (.t 41)),
 o 43 (.bin .mul (.t 40) (.t 42)),
 o 44 (.fieldA 0 (.t 3)),
 o 45 (.load none (.t 44)),
 o 46 (.bin .add (.t 43) (.t 45)),
 o 47 (.bin .mul (ki 4) (.t 46)),
 o 48 (.fieldA 2 (.t 3)),
 o 49 (.load none (.t 48)),
 o 50 (.conv .i64 (.t 49)),
 o 51 (.bin .add (.t 47) (.t 50)),
 o 4 (.mv (.t 51)),
 o 5 (.mv (ki 0))] [2, 3, 38, 39, 40, 41, 42, 43, 44, 45, 46, 47, 48, 49, 50, 51])
 .ret))))
def fe57 : FnE := ⟨52, [(4, none), (5, none)], xc57⟩
theorem ok57 : FnOk Tryd.prog 57 fe57 := fnOk_of Tryd.func57 (by kernel_rfl : chkF Tryd.prog hs57 Tryd.f57 = some fe57)
/- 58 crimp/sheets.Name -/
def hs58 : Hints := [(0, ([], [0, 7])), (1, ([], [3, 11, 12, 13, 14, 10, 15, 16])), (2, ([], [17])), (3, ([], [1, 2, 8, 9, 18, 19, 20])), (4, ([], [1, 2, 8, 9, 18, 21, 22, 23, 24, 25]))]
def xc58 : XC :=
 (.seq
 (.reg 64 [
 o 3 (.box (.t 0)),
 o 6 (.new (.cells [(.int .i64 0), (.int .u8 0)]) 1 2),
 o 7 (.mv (ki 0))] [0, 7])
 (.seq
 (.reg 128 [
 o 11 (.load (some 2) (.t 3)),
 o 12 (.mv (.t 1)),
 o 13 (.mv (.t 2)),
 o 14 (.call 70 [(.t 11), (.t 12), (.t 13)]),
 o 10 (.mv (.t 14)),
 o 15 (.ext (.t 10) 0),
 o 16 (.ext (.t 10) 1),
 o 8 (.mv (.t 15)),
 o 9 (.mv (.t 16))] [3, 11, 12, 13, 14, 10, 15, 16])
 (.seq
 (.seq
 (.reg 192 [
 o 17 (.mv (.t 9)),
 o 18 (.bin .neq (.t 17) (ki 0))] [17])
 (.cond (.t 18)
 (.seq
 (.reg 256 [
 o 19 (.build [(.int .i64 0), (.int .u8 0)] []),
 o 20 (.mv (.t 9)),
 ⟨none, .store 2 (.t 6) (.t 19), none⟩,
 o 7 (.mv (.t 20))] [1, 2, 8, 9, 18, 19, 20])
 .ret)
 .skip))
 (.seq
 (.reg 320 [
 o 21 (.mv (.t 1)),
 o 22 (.mv (.t 8)),
 o 23 (.mm false [(.t 21), (.t 22)]),
 o 24 (.mv (.t 2)),
 o 25 (.build [(.int .i64 0), (.int .u8 0)] [(0, 1, (.t 23)), (1, 1, (.t 24))]),
 ⟨none, .store 2 (.t 6) (.t 25), none⟩,
 o 7 (.mv (ki 0))] [1, 2, 8, 9, 18, 21, 22, 23, 24, 25])
 .ret))))
def fe58 : FnE := ⟨26, [(6, some (some 2)), (7, none)], xc58⟩
theorem ok58 : FnOk Tryd.prog 58 fe58 := fnOk_of Tryd.func58 (by kernel_rfl : chkF Tryd.prog hs58 Tryd.f58 = some fe58)
/- 59 slices.SortFunc[[]crimp/patterns.Crease,crimp/patterns.Crease] -/
def hs59 : Hints := [(0, ([], [5, 6])), (1, ([], [0, 1, 4, 7, 8, 9, 10, 11, 12, 13]))]
def xc59 : XC :=
 (.seq
 (.reg 64 [
 o 5 (.mv (.t 0)),
 o 6 (.len (.t 5)),
 o 4 (.mv (.t 6))] [5, 6])
 (.reg 128 [
 o 7 (.mv (.t 0)),
 o 8 (.mv (.t 4)),
 o 9 (.mv (.t 4)),
 o 10 (.conv .u64 (.t 9)),
 o 11 (.call 94 [(.t 10)]),
 o 12 (.mv (.t 1)),
 o 13 (.call 93 [(.t 7), (ki 0), (.t 8), (.t 11), (.t 12)])] [0, 1, 4, 7, 8, 9, 10, 11, 12, 13]))
def fe59 : FnE := ⟨14, [], xc59⟩
theorem ok59 : FnOk Tryd.prog 59 fe59 := fnOk_of Tryd.func59 (by kernel_rfl : chkF Tryd.prog hs59 Tryd.f59 = some fe59)
/- 60 crimp/patterns.Turned$1 -/
def hs60 : Hints := [(0, ([], [0, 1, 4])), (1, ([0, 1, 2, 3, 4, 5], [2, 3, 5, 6, 7, 8, 9]))]
def xc60 : XC :=
 (.seq
 (.reg 64 [
 o 2 (.box (.t 0)),
 o 3 (.box (.t 1)),
 o 4 (.mv (ki 0))] [0, 1, 4])
 (.seq
 (.draw 128 [
 o 5 (.load (some 3) (.t 2)),
 o 6 (.call 62 [(.t 5)]),
 o 7 (.load (some 3) (.t 3)),
 o 8 (.call 62 [(.t 7)]),
 o 9 (.call 61 [(.t 6), (.t 8)]),
 o 4 (.mv (.t 9))]
 [[], [0], [], [2, 1], [1, 3, 3], [4, 4, 0, 1, 2, 3, 4]]
 [0, 1, 2, 3, 4, 5] [2, 3, 5, 6, 7, 8, 9])
 .ret))
def fe60 : FnE := ⟨10, [(4, none)], xc60⟩
theorem ok60 : FnOk Tryd.prog 60 fe60 := fnOk_of Tryd.func60 (by kernel_rfl : chkF Tryd.prog hs60 Tryd.f60 = some fe60)
/- 61 crimp/patterns.order -/
def hs61 : Hints := [(0, ([], [0, 1, 4])), (1, ([], [5, 6, 7, 8])), (2, ([], [2, 3, 9, 10, 11, 12, 13, 14])), (3, ([], [2, 3, 9, 15, 16, 17, 18, 19, 20, 21]))]
def xc61 : XC :=
 (.seq
 (.reg 64 [
 o 2 (.box (.t 0)),
 o 3 (.box (.t 1)),
 o 4 (.mv (ki 0))] [0, 1, 4])
 (.seq
 (.seq
 (.reg 128 [
 o 5 (.fieldA 0 (.t 2)),
 o 6 (.load none (.t 5)),
 o 7 (.fieldA 0 (.t 3)),
 o 8 (.load none (.t 7)),
 o 9 (.bin .neq (.t 6) (.t 8))] [5, 6, 7, 8])
 (.cond (.t 9)
 (.seq
 (.reg 192 [
 o 10 (.fieldA 0 (.t 2)),
 o 11 (.load none (.t 10)),
 o 12 (.fieldA 0 (.t 3)),
 o 13 (.load none (.t 12)),
 o 14 (.bin .sub (.t 11) (.t 13)),
 o 4 (.mv (.t 14))] [2, 3, 9, 10, 11, 12, 13, 14])
 .ret)
 .skip))
 (.seq
 (.reg 256 [
 o 15 (.fieldA 1 (.t 2)),
 o 16 (.load none (.t 15)),
 o 17 (.conv .i64 (.t 16)),
 o 18 (.fieldA 1 (.t 3)),
 o 19 (.load none (.t 18)),
 o 20 (.conv .i64 (.t 19)),
 o 21 (.bin .sub (.t 17) (.t 20)),
 o 4 (.mv (.t 21))] [2, 3, 9, 15, 16, 17, 18, 19, 20, 21])
 .ret)))
def fe61 : FnE := ⟨22, [(4, none)], xc61⟩
theorem ok61 : FnOk Tryd.prog 61 fe61 := fnOk_of Tryd.func61 (by kernel_rfl : chkF Tryd.prog hs61 Tryd.f61 = some fe61)
/- 62 (crimp/patterns.Crease).unit -/
def hs62 : Hints := [(0, ([], [0])), (1, ([], [1, 3, 4, 5, 6, 7]))]
def xc62 : XC :=
 (.seq
 (.reg 64 [
 o 1 (.box (.t 0)),
 o 2 (.new (.cells [(.int .i64 0), (.int .u8 0)]) 1 2)] [0])
 (.seq
 (.reg 128 [
 o 3 (.fieldA 0 (.t 1)),
 o 4 (.load none (.t 3)),
 o 5 (.fieldA 1 (.t 1)),
 o 6 (.load none (.t 5)),
 o 7 (.build [(.int .i64 0), (.int .u8 0)] [(0, 1, (.t 4)), (1, 1, (.t 6))]),
 ⟨none, .store 2 (.t 2) (.t 7), none⟩] [1, 3, 4, 5, 6, 7])
 .ret))
def fe62 : FnE := ⟨8, [(2, some (some 2))], xc62⟩
theorem ok62 : FnOk Tryd.prog 62 fe62 := fnOk_of Tryd.func62 (by kernel_rfl : chkF Tryd.prog hs62 Tryd.f62 = some fe62)
/- 64 crimp/sheets.Check -/
def hs64 : Hints := [(0, ([], [0, 2])), (1, ([], [1, 3, 4, 5, 6, 7, 8, 9, 10, 11, 12, 13, 14, 15, 16, 17, 18, 19, 20, 21, 22, 23, 24, 25, 26, 27])), (2, ([], [28])), (3, ([], [28]))]
def xc64 : XC :=
 (.seq
 (.reg 64 [
 o 1 (.box (.t 0)),
 o 2 (.mv (ki 0))] [0, 2])
 (.seq
 (.seq
 (.reg 128 [
 o 3 (.fieldA 0 (.t 1)),
 o 4 (.load none (.t 3)),
 o 5 (.bin .lss (.t 4) (ki 1)),
 o 6 (.mv (.t 5)),
 oi 7 6 false (.fieldA 1 (.t 1)),
 oi 8 6 false (.load none (.t 7)),
 oi 9 6 false (.bin .lss (.t 8) (ki 1)),
 o 10 (.pick (.t 6) (.c (.bool true)) (.t 9)),
 o 11 (.mv (.t 10)),
 oi 12 11 false (.fieldA 0 (.t 1)),
 oi 13 11 false (.load none (.t 12)),
 oi 14 11 false (.bin .gtr (.t 13) (ki 256)),
 o 15 (.pick (.t 11) (.c (.bool true)) (.t 14)),
 o 16 (.mv (.t 15)),
 oi 17 16 false (.fieldA 1 (.t 1)),
 oi 18 16 false (.load none (.t 17)),
 oi 19 16 false (.bin .gtr (.t 18) (ki 256)),
 o 20 (.pick (.t 16) (.c (.bool true)) (.t 19)),
 o 21 (.mv (.t 20)),
 oi 22 21 false (.fieldA 0 (.t 1)),
 oi 23 21 false (.load none (.t 22)),
 oi 24 21 false (.fieldA 1 (.t 1)),
 oi 25 21 false (.load none (.t 24)),
 oi 26 21 false (.bin .mul (.t 23) (.t 25)),
 oi 27 21 false (.bin .gtr (.t 26) (ki 256)),
 o 28 (.pick (.t 21) (.c (.bool true)) (.t 27))] [1, 3, 4, 5, 6, 7, 8, 9, 10, 11, 12, 13, 14, 15, 16, 17, 18, 19, 20, 21, 22, 23, 24, 25, 26, 27])
 (.cond (.t 28)
 (.seq
 (.reg 192 [
 o 2 (.mv (ki 1))] [28])
 .ret)
 .skip))
 (.seq
 (.reg 256 [
 o 2 (.mv (ki 0))] [28])
 .ret)))
def fe64 : FnE := ⟨29, [(2, none)], xc64⟩
theorem ok64 : FnOk Tryd.prog 64 fe64 := fnOk_of Tryd.func64 (by kernel_rfl : chkF Tryd.prog hs64 Tryd.f64 = some fe64)
/- 65 slices.ContainsFunc[[]crimp/patterns.Crease,crimp/patterns.Crease] -/
def hs65 : Hints := [(0, ([], [4])), (1, ([], [0, 1, 5, 6, 7, 8]))]
def xc65 : XC :=
 (.seq
 (.reg 64 [
 o 4 (.mv (.c (.bool false)))] [4])
 (.seq
 (.reg 128 [
 o 5 (.mv (.t 0)),
 o 6 (.mv (.t 1)),
 o 7 (.call 95 [(.t 5), (.t 6)]),
 o 8 (.bin .geq (.t 7) (ki 0)),
 o 4 (.mv (.t 8))] [0, 1, 5, 6, 7, 8])
 .ret))
def fe65 : FnE := ⟨9, [(4, none)], xc65⟩
theorem ok65 : FnOk Tryd.prog 65 fe65 := fnOk_of Tryd.func65 (by kernel_rfl : chkF Tryd.prog hs65 Tryd.f65 = some fe65)
/- 66 crimp/patterns.Check$1 -/
def hs66 : Hints := [(0, ([], [0, 2])), (1, ([], [1, 3, 4, 5, 6]))]
def xc66 : XC :=
 (.seq
 (.reg 64 [
 o 1 (.box (.t 0)),
 o 2 (.mv (.c (.bool false)))] [0, 2])
 (.seq
 (.reg 128 [
 o 3 (.fieldA 2 (.t 1)),
 o 4 (.load none (.t 3)),
 o 5 (.call 51 [(.t 4)]),
 o 6 (.un .not (.t 5)),
 o 2 (.mv (.t 6))] [1, 3, 4, 5, 6])
 .ret))
def fe66 : FnE := ⟨7, [(2, none)], xc66⟩
theorem ok66 : FnOk Tryd.prog 66 fe66 := fnOk_of Tryd.func66 (by kernel_rfl : chkF Tryd.prog hs66 Tryd.f66 = some fe66)
/- 67 slices.Equal[[]crimp/patterns.Crease,crimp/patterns.Crease] -/
def hs67 : Hints := [(0, ([], [4])), (1, ([], [6, 7, 8, 9])), (2, ([], [0, 1, 10])), (3, ([], [4, 10, 11])), (5, ([], [14, 15])), (6, ([0, 1, 2, 3, 4, 5, 6, 7, 8], [5, 16, 17, 18, 19, 20, 21, 22, 23])), (7, ([], [13, 1, 0, 12, 24])), (8, ([], [4, 24, 25])), (9, ([], [0, 1, 12, 13]))]
def xc67 : XC :=
 (.seq
 (.reg 64 [
 o 4 (.mv (.c (.bool false)))] [4])
 (.seq
 (.seq
 (.reg 128 [
 o 6 (.mv (.t 0)),
 o 7 (.len (.t 6)),
 o 8 (.mv (.t 1)),
 o 9 (.len (.t 8)),
 o 10 (.bin .neq (.t 7) (.t 9))] [6, 7, 8, 9])
 (.cond (.t 10)
 (.seq
 (.reg 192 [
 o 4 (.mv (.c (.bool false)))] [0, 1, 10])
 .ret)
 .skip))
 (.seq
 (.seq
 (.reg 256 [
 o 11 (.mv (.t 0)),
 o 12 (.len (.t 11)),
 o 13 (.mv (ki 0))] [4, 10, 11])
 (.block 0
 (.loop
 (.seq
 (.reg 320 [
 o 14 (.bin .lss (.t 13) (.t 12))] [])
 (.seq
 (.cond (.t 14)
 .skip
 (.exit 0))
 (.seq
 (.block 1
 (.seq
 (.reg 384 [
 o 15 (.mv (.t 13)),
 o 5 (.mv (.t 15))] [14, 15])
 (.seq
 (.draw 448 [
 o 16 (.mv (.t 0)),
 o 17 (.mv (.t 5)),
 o 18 (.idxA none 3 (.t 16) (.t 17)),
 o 19 (.load (some 3) (.t 18)),
 o 20 (.mv (.t 1)),
 o 21 (.mv (.t 5)),
 o 22 (.idxA none 3 (.t 20) (.t 21)),
 o 23 (.load (some 3) (.t 22)),
 o 24 (.eqa true 3 [(0, 0), (1, 0), (2, 0)] (.t 19) (.t 23))]
 [[], [], [0, 1], [2], [], [], [4, 5], [6], [3, 7]]
 [0, 1, 2, 3, 4, 5, 6, 7, 8] [5, 16, 17, 18, 19, 20, 21, 22, 23])
 (.cond (.t 24)
 (.seq
 (.reg 512 [
 o 4 (.mv (.c (.bool false)))] [13, 1, 0, 12, 24])
 .ret)
 .skip))))
 (.reg 576 [
 o 25 (.bin .add (.t 13) (ki 1)),
 o 13 (.mv (.t 25))] [4, 24, 25])))))))
 (.seq
 (.reg 640 [
 o 4 (.mv (.c (.bool true)))] [0, 1, 12, 13])
 .ret))))
def fe67 : FnE := ⟨26, [(4, none)], xc67⟩
theorem ok67 : FnOk Tryd.prog 67 fe67 := fnOk_of Tryd.func67 (by kernel_rfl : chkF Tryd.prog hs67 Tryd.f67 = some fe67)
/- 68 slices.EqualFunc[[]crimp/patterns.Crease,[]crimp/patterns.Crease,crimp/patterns.Crease,crimp/patterns.Crease] -/
def hs68 : Hints := [(0, ([], [6])), (1, ([], [10, 11, 12, 13])), (2, ([], [0, 1, 2, 14])), (3, ([], [6, 0, 14])), (5, ([], [18, 19, 20, 21])), (6, ([], [7, 22, 23, 24, 25])), (7, ([], [8, 9, 26, 27, 28, 29])), (8, ([], [17, 2, 1, 15, 16, 30])), (9, ([], [6, 30, 31])), (10, ([], [1, 2, 15, 16, 17]))]
def xc68 : XC :=
 (.seq
 (.reg 64 [
 o 6 (.mv (.c (.bool false)))] [6])
 (.seq
 (.seq
 (.reg 128 [
 o 10 (.mv (.t 0)),
 o 11 (.len (.t 10)),
 o 12 (.mv (.t 1)),
 o 13 (.len (.t 12)),
 o 14 (.bin .neq (.t 11) (.t 13))] [10, 11, 12, 13])
 (.cond (.t 14)
 (.seq
 (.reg 192 [
 o 6 (.mv (.c (.bool false)))] [0, 1, 2, 14])
 .ret)
 .skip))
 (.seq
 (.seq
 (.reg 256 [
 o 15 (.mv (.t 0)),
 o 16 (.len (.t 15)),
 o 17 (.mv (ki 0))] [6, 0, 14])
 (.block 0
 (.loop
 (.seq
 (.reg 320 [
 o 18 (.bin .lss (.t 17) (.t 16))] [])
 (.seq
 (.cond (.t 18)
 .skip
 (.exit 0))
 (.seq
 (.block 1
 (.seq
 (.reg 384 [
 o 19 (.mv (.t 17)),
 o 20 (.idxA none 3 (.t 15) (.t 17)),
 o 21 (.load (some 3) (.t 20)),
 o 8 (.new (.cells [(.int .i64 0), (.int .u8 0), (.int .u8 0)]) 1 3),
 o 7 (.mv (.t 19)),
 ⟨none, .store 3 (.t 8) (.t 21), none⟩] [18, 19, 20, 21])
 (.seq
 (.reg 448 [
 o 22 (.mv (.t 1)),
 o 23 (.mv (.t 7)),
 o 24 (.idxA none 3 (.t 22) (.t 23)),
 o 25 (.load (some 3) (.t 24)),
 o 9 (.new (.cells [(.int .i64 0), (.int .u8 0), (.int .u8 0)]) 1 3),
 ⟨none, .store 3 (.t 9) (.t 25), none⟩] [7, 22, 23, 24, 25])
 (.seq
 (.reg 512 [
 o 26 (.mv (.t 2)),
 o 27 (.load (some 3) (.t 8)),
 o 28 (.load (some 3) (.t 9)),
 o 29 (.callv (.t 26) [(.t 27), (.t 28)]),
 o 30 (.un .not (.t 29))] [8, 9, 26, 27, 28, 29])
 (.cond (.t 30)
 (.seq
 (.reg 576 [
 o 6 (.mv (.c (.bool false)))] [17, 2, 1, 15, 16, 30])
 .ret)
 .skip)))))
 (.reg 640 [
 o 31 (.bin .add (.t 17) (ki 1)),
 o 17 (.mv (.t 31))] [6, 30, 31])))))))
 (.seq
 (.reg 704 [
 o 6 (.mv (.c (.bool true)))] [1, 2, 15, 16, 17])
 .ret))))
def fe68 : FnE := ⟨32, [(6, none)], xc68⟩
theorem ok68 : FnOk Tryd.prog 68 fe68 := fnOk_of Tryd.func68 (by kernel_rfl : chkF Tryd.prog hs68 Tryd.f68 = some fe68)
/- 69 crimp/patterns.Fits$1 -/
def hs69 : Hints := [(0, ([], [0, 1, 4])), (1, ([0, 1, 2, 3, 4, 5, 6, 7, 8, 9, 10, 11, 12, 13, 14, 15, 16, 17], [2, 3, 5, 6, 7, 8, 9, 10, 11, 12, 13, 14, 15, 16, 17, 18, 19, 20, 21]))]
def xc69 : XC :=
 (.seq
 (.reg 64 [
 o 2 (.box (.t 0)),
 o 3 (.box (.t 1)),
 o 4 (.mv (.c (.bool false)))] [0, 1, 4])
 (.seq
 (.draw 128 [
 o 5 (.load (some 3) (.t 2)),
 o 6 (.call 62 [(.t 5)]),
 o 7 (.load (some 3) (.t 3)),
 o 8 (.call 62 [(.t 7)]),
 o 9 (.eqa false 2 [(0, 0), (1, 0)] (.t 6) (.t 8)),
 o 10 (.mv (.t 9)),
 oi 11 10 true (.fieldA 2 (.t 2)),
 oi 12 10 true (.load none (.t 11)),
 oi 13 10 true (.fieldA 2 (.t 3)),
 oi 14 10 true (.load none (.t 13)),
 oi 15 10 true (.bin .eql (.t 12) (.t 14)),
 oi 16 10 true (.mv (.t 15)),
 oi 17 16 false (.fieldA 2 (.t 3)),
 oi 18 16 false (.load none (.t 17)),
 oi 19 16 false (.bin .eql (.t 18) (ku 3)),
 oi 20 10 true (.pick (.t 16) (.c (.bool true)) (.t 19)),
 o 21 (.pick (.t 10) (.t 20) (.c (.bool false))),
 o 4 (.mv (.t 21))]
 [[], [0], [], [2, 1], [1, 3], [4, 3], [5], [6, 5], [5], [8, 5], [7, 9, 5], [10, 5, 5], [11], [12, 11], [13, 11], [11, 14, 5], [5, 15], [16, 11, 0, 1, 2, 3, 4, 5, 6, 7, 8, 9, 10, 11, 12, 13, 14, 15, 16]]
 [0, 1, 2, 3, 4, 5, 6, 7, 8, 9, 10, 11, 12, 13, 14, 15, 16, 17] [2, 3, 5, 6, 7, 8, 9, 10, 11, 12, 13, 14, 15, 16, 17, 18, 19, 20, 21])
 .ret))
def fe69 : FnE := ⟨22, [(4, none)], xc69⟩
theorem ok69 : FnOk Tryd.prog 69 fe69 := fnOk_of Tryd.func69 (by kernel_rfl : chkF Tryd.prog hs69 Tryd.f69 = some fe69)
/- 70 crimp/sheets.Neighbour -/
def hs70 : Hints := [(0, ([], [0, 6, 7])), (1, ([], [1, 12, 13, 14, 11, 15, 16])), (2, ([], [17])), (3, ([], [2, 3, 8, 9, 18, 19])), (4, ([], [6, 7, 2, 8, 18, 21, 22, 23, 20, 24, 25])), (5, ([], [9, 26])), (6, ([], [3, 10, 27])), (7, ([], [3, 10, 27, 28, 29, 30, 31, 32]))]
def xc70 : XC :=
 (.seq
 (.reg 64 [
 o 3 (.box (.t 0)),
 o 6 (.mv (ki 0)),
 o 7 (.mv (ki 0))] [0, 6, 7])
 (.seq
 (.reg 128 [
 o 12 (.load (some 2) (.t 3)),
 o 13 (.mv (.t 1)),
 o 14 (.call 56 [(.t 12), (.t 13)]),
 o 11 (.mv (.t 14)),
 o 15 (.ext (.t 11) 0),
 o 16 (.ext (.t 11) 1),
 o 8 (.new (.cells [(.int .i64 0), (.int .i64 0), (.int .u8 0)]) 1 3),
 ⟨none, .store 3 (.t 8) (.t 15), none⟩,
 o 9 (.mv (.t 16))] [1, 12, 13, 14, 11, 15, 16])
 (.seq
 (.seq
 (.reg 192 [
 o 17 (.mv (.t 9)),
 o 18 (.bin .neq (.t 17) (ki 0))] [17])
 (.cond (.t 18)
 (.seq
 (.reg 256 [
 o 19 (.mv (.t 9)),
 o 6 (.mv (ki 0)),
 o 7 (.mv (.t 19))] [2, 3, 8, 9, 18, 19])
 .ret)
 .skip))
 (.seq
 (.reg 320 [
 o 21 (.load (some 3) (.t 8)),
 o 22 (.mv (.t 2)),
 o 23 (.call 96 [(.t 21), (.t 22)]),
 o 20 (.mv (.t 23)),
 o 24 (.ext (.t 20) 0),
 o 25 (.ext (.t 20) 1),
 o 10 (.new (.cells [(.int .i64 0), (.int .i64 0), (.int .u8 0)]) 1 3),
 ⟨none, .store 3 (.t 10) (.t 24), none⟩,
 o 9 (.mv (.t 25))] [6, 7, 2, 8, 18, 21, 22, 23, 20, 24, 25])
 (.seq
 (.seq
 (.reg 384 [
 o 26 (.mv (.t 9)),
 o 27 (.bin .neq (.t 26) (ki 0))] [9, 26])
 (.cond (.t 27)
 (.seq
 (.reg 448 [
 o 6 (.mv (ki 0)),
 o 7 (.mv (ki 1))] [3, 10, 27])
 .ret)
 .skip))
 (.seq
 (.reg 512 [
 o 28 (.load (some 2) (.t 3)),
 o 29 (.load (some 3) (.t 10)),
 o 30 (.call 57 [(.t 28), (.t 29)]),
 o 31 (.ext (.t 30) 0),
 o 32 (.ext (.t 30) 1),
 o 6 (.mv (.t 31)),
 o 7 (.mv (.t 32))] [3, 10, 27, 28, 29, 30, 31, 32])
 .ret))))))
def fe70 : FnE := ⟨33, [(6, none), (7, none)], xc70⟩
theorem ok70 : FnOk Tryd.prog 70 fe70 := fnOk_of Tryd.func70 (by kernel_rfl : chkF Tryd.prog hs70 Tryd.f70 = some fe70)
/- 76 crimp/crimpref03.Corners -/
def hs76 : Hints := [(0, ([], [0])), (1, ([0, 1, 2, 3, 4, 5, 6, 7], [8, 9, 10, 11, 12, 13])), (2, ([], [14, 15, 16, 17, 18, 19, 20, 21, 22, 23, 24, 25, 26, 27, 28, 29, 30])), (3, ([0, 1, 2, 3, 4, 5, 6, 7, 8, 9], [1, 31, 32, 33, 34, 35, 36, 37, 38])), (4, ([], [39, 40])), (5, ([], [41, 42, 43])), (6, ([0, 1, 2, 3, 4, 5, 6, 7, 8, 9, 10, 11, 12], [3, 4, 5, 6, 7, 41, 44, 45, 46, 47, 48, 49, 50, 51, 52, 53, 54, 55]))]
def xc76 : XC :=
 (.seq
 (.reg 64 [
 o 1 (.box (.t 0)),
 o 2 (.new (.cells [(.int .i64 0), (.int .i64 0), (.int .i64 0), (.int .i64 0), (.int .i64 0), (.int .i64 0)]) 3 2)] [0])
 (.seq
 (.draw 128 [
 o 8 (.fieldA 0 (.t 1)),
 o 9 (.load none (.t 8)),
 o 10 (.bin .mul (ki 2) (.t 9)),
 o 11 (.fieldA 1 (.t 1)),
 o 12 (.load none (.t 11)),
 o 13 (.bin .mul (ki 2) (.t 12)),
 o 3 (.mv (.t 10)),
 o 4 (.mv (.t 13))]
 [[], [0], [1], [], [3], [4], [2, 0, 1, 2], [5, 6, 0, 1, 2, 3, 4, 5, 6]]
 [0, 1, 2, 3, 4, 5, 6, 7] [8, 9, 10, 11, 12, 13])
 (.seq
 (.reg 192 [
 o 14 (.mv (.t 3)),
 o 15 (.mv (.t 4)),
 o 16 (.build [(.int .i64 0), (.int .i64 0)] [(0, 1, (.t 14)), (1, 1, (.t 15))]),
 o 17 (.mv (.t 3)),
 o 18 (.bin .add (.t 17) (ki 2)),
 o 19 (.mv (.t 4)),
 o 20 (.build [(.int .i64 0), (.int .i64 0)] [(0, 1, (.t 18)), (1, 1, (.t 19))]),
 o 21 (.mv (.t 3)),
 o 22 (.bin .add (.t 21) (ki 2)),
 o 23 (.mv (.t 4)),
 o 24 (.bin .add (.t 23) (ki 2)),
 o 25 (.build [(.int .i64 0), (.int .i64 0)] [(0, 1, (.t 22)), (1, 1, (.t 24))]),
 o 26 (.mv (.t 3)),
 o 27 (.mv (.t 4)),
 o 28 (.bin .add (.t 27) (ki 2)),
 o 29 (.build [(.int .i64 0), (.int .i64 0)] [(0, 1, (.t 26)), (1, 1, (.t 28))]),
 o 30 (.build [(.int .i64 0), (.int .i64 0), (.int .i64 0), (.int .i64 0), (.int .i64 0), (.int .i64 0), (.int .i64 0), (.int .i64 0)] [(0, 2, (.t 16)), (2, 2, (.t 20)), (4, 2, (.t 25)), (6, 2, (.t 29))]),
 o 5 (.new (.cells [(.int .i64 0), (.int .i64 0), (.int .i64 0), (.int .i64 0), (.int .i64 0), (.int .i64 0), (.int .i64 0), (.int .i64 0)]) 4 2),
 ⟨none, .store 8 (.t 5) (.t 30), none⟩] [14, 15, 16, 17, 18, 19, 20, 21, 22, 23, 24, 25, 26, 27, 28, 29, 30])
 (.seq
 (.draw 256 [
 o 31 (.fieldA 2 (.t 1)),
 o 32 (.load none (.t 31)),
 o 33 (.conv .i64 (.t 32)),
 o 34 (.fieldA 2 (.t 1)),
 o 35 (.load none (.t 34)),
 o 36 (.conv .i64 (.t 35)),
 o 37 (.bin .add (.t 36) (ki 1)),
 o 38 (.bin .rem (.t 37) (ki 4)),
 o 6 (.mv (.t 33)),
 o 7 (.mv (.t 38))]
 [[], [0], [1], [], [3], [4], [5], [6], [2, 0, 1, 2], [7, 8, 0, 1, 2, 3, 4, 5, 6, 7, 8]]
 [0, 1, 2, 3, 4, 5, 6, 7, 8, 9] [1, 31, 32, 33, 34, 35, 36, 37, 38])
 (.seq
 (.seq
 (.reg 320 [
 o 39 (.mv (.t 6)),
 o 40 (.bin .rem (.t 39) (ki 2)),
 o 41 (.bin .eql (.t 40) (ki 1))] [39, 40])
 (.cond (.t 41)
 (.reg 384 [
 o 42 (.mv (.t 7)),
 o 43 (.mv (.t 6)),
 o 6 (.mv (.t 42)),
 o 7 (.mv (.t 43))] [41, 42, 43])
 .skip))
 (.seq
 (.draw 448 [
 o 44 (.mv (.t 3)),
 o 45 (.bin .add (.t 44) (ki 1)),
 o 46 (.mv (.t 4)),
 o 47 (.bin .add (.t 46) (ki 1)),
 o 48 (.build [(.int .i64 0), (.int .i64 0)] [(0, 1, (.t 45)), (1, 1, (.t 47))]),
 o 49 (.mv (.t 6)),
 o 50 (.idxA (some 4) 2 (.t 5) (.t 49)),
 o 51 (.load (some 2) (.t 50)),
 o 52 (.mv (.t 7)),
 o 53 (.idxA (some 4) 2 (.t 5) (.t 52)),
 o 54 (.load (some 2) (.t 53)),
 o 55 (.build [(.int .i64 0), (.int .i64 0), (.int .i64 0), (.int .i64 0), (.int .i64 0), (.int .i64 0)] [(0, 2, (.t 48)), (2, 2, (.t 51)), (4, 2, (.t 54))]),
 ⟨none, .store 6 (.t 2) (.t 55), none⟩]
 [[], [0], [], [2], [1, 3], [], [5], [6], [], [8], [9], [4, 7, 10], [11, 0, 1, 2, 3, 4, 5, 6, 7, 8, 9, 10, 11]]
 [0, 1, 2, 3, 4, 5, 6, 7, 8, 9, 10, 11, 12] [3, 4, 5, 6, 7, 41, 44, 45, 46, 47, 48, 49, 50, 51, 52, 53, 54, 55])
 .ret))))))
def fe76 : FnE := ⟨56, [(2, some (some 6))], xc76⟩
theorem ok76 : FnOk Tryd.prog 76 fe76 := fnOk_of Tryd.func76 (by kernel_rfl : chkF Tryd.prog hs76 Tryd.f76 = some fe76)
/- 77 crimp/crimpref01.Across -/
def hs77 : Hints := [(0, ([], [2, 3])), (1, ([], [4])), (2, ([], [0, 5])), (3, ([], [2, 3, 5, 6])), (4, ([], [0, 7])), (5, ([], [2, 3, 0, 7, 8])), (6, ([], [9])), (7, ([], [9]))]
def xc77 : XC :=
 (.seq
 (.reg 64 [
 o 2 (.mv (ki 0)),
 o 3 (.mv (ki 0))] [2, 3])
 (.seq
 (.seq
 (.reg 128 [
 o 4 (.mv (.t 0)),
 o 5 (.bin .eql (.t 4) (ku 1))] [4])
 (.cond (.t 5)
 (.seq
 (.reg 192 [
 o 2 (.mv (ki 1)),
 o 3 (.mv (ki 0))] [0, 5])
 .ret)
 .skip))
 (.seq
 (.seq
 (.reg 256 [
 o 6 (.mv (.t 0)),
 o 7 (.bin .eql (.t 6) (ku 2))] [2, 3, 5, 6])
 (.cond (.t 7)
 (.seq
 (.reg 320 [
 o 2 (.mv (ki 0)),
 o 3 (.mv (ki 1))] [0, 7])
 .ret)
 .skip))
 (.seq
 (.seq
 (.reg 384 [
 o 8 (.mv (.t 0)),
 o 9 (.bin .eql (.t 8) (ku 3))] [2, 3, 0, 7, 8])
 (.cond (.t 9)
 (.seq
 (.reg 448 [
 o 2 (.mv (ki 1)),
 o 3 (.mv (ki 1))] [9])
 .ret)
 .skip))
 (.seq
 (.reg 512 [
 o 2 (.mv (ki (-1))),
 o 3 (.mv (ki 1))] [9])
 .ret)))))
def fe77 : FnE := ⟨10, [(2, none), (3, none)], xc77⟩
theorem ok77 : FnOk Tryd.prog 77 fe77 := fnOk_of Tryd.func77 (by kernel_rfl : chkF Tryd.prog hs77 Tryd.f77 = some fe77)
/- 87 crimp/patterns.find -/
def hs87 : Hints := [(0, ([], [1, 4, 5])), (1, ([], [0, 3, 6, 7, 8, 9, 10]))]
def xc87 : XC :=
 (.seq
 (.reg 64 [
 o 3 (.box (.t 1)),
 o 4 (.mv (ki 0)),
 o 5 (.mv (.c (.bool false)))] [1, 4, 5])
 (.seq
 (.reg 128 [
 o 6 (.mv (.t 0)),
 o 7 (.load (some 2) (.t 3)),
 o 8 (.call 100 [(.t 6), (.t 7), (.c (.fn 101 [] []))]),
 o 9 (.ext (.t 8) 0),
 o 10 (.ext (.t 8) 1),
 o 4 (.mv (.t 9)),
 o 5 (.mv (.t 10))] [0, 3, 6, 7, 8, 9, 10])
 .ret))
def fe87 : FnE := ⟨11, [(4, none), (5, none)], xc87⟩
theorem ok87 : FnOk Tryd.prog 87 fe87 := fnOk_of Tryd.func87 (by kernel_rfl : chkF Tryd.prog hs87 Tryd.f87 = some fe87)
/- 88 crimp/crimpref01.Reflect -/
def hs88 : Hints := [(0, ([], [0, 1])), (1, ([], [9, 10, 11, 8, 12, 13])), (2, ([], [2, 14, 15, 16, 17, 18, 19, 20, 21, 22, 23, 24, 25])), (3, ([], [3, 5, 6, 7, 26, 27, 28, 29, 30, 31, 32, 33, 34, 35, 36, 37, 38]))]
def xc88 : XC :=
 (.seq
 (.reg 64 [
 o 2 (.box (.t 0)),
 o 3 (.box (.t 1)),
 o 4 (.new (.cells [(.int .i64 0), (.int .i64 0)]) 1 2)] [0, 1])
 (.seq
 (.reg 128 [
 o 9 (.fieldA 0 (.t 2)),
 o 10 (.load none (.t 9)),
 o 11 (.call 77 [(.t 10)]),
 o 8 (.mv (.t 11)),
 o 12 (.ext (.t 8) 0),
 o 13 (.ext (.t 8) 1),
 o 5 (.mv (.t 12)),
 o 6 (.mv (.t 13))] [9, 10, 11, 8, 12, 13])
 (.seq
 (.reg 192 [
 o 14 (.load (some 2) (.t 2)),
 o 15 (.load (some 2) (.t 3)),
 o 16 (.call 102 [(.t 14), (.t 15)]),
 o 17 (.bin .mul (ki 2) (.t 16)),
 o 18 (.mv (.t 5)),
 o 19 (.mv (.t 5)),
 o 20 (.bin .mul (.t 18) (.t 19)),
 o 21 (.mv (.t 6)),
 o 22 (.mv (.t 6)),
 o 23 (.bin .mul (.t 21) (.t 22)),
 o 24 (.bin .add (.t 20) (.t 23)),
 o 25 (.bin .quo (.t 17) (.t 24)),
 o 7 (.mv (.t 25))] [2, 14, 15, 16, 17, 18, 19, 20, 21, 22, 23, 24, 25])
 (.seq
 (.reg 256 [
 o 26 (.fieldA 0 (.t 3)),
 o 27 (.load none (.t 26)),
 o 28 (.mv (.t 7)),
 o 29 (.mv (.t 5)),
 o 30 (.bin .mul (.t 28) (.t 29)),
 o 31 (.bin .sub (.t 27) (.t 30)),
 o 32 (.fieldA 1 (.t 3)),
 o 33 (.load none (.t 32)),
 o 34 (.mv (.t 7)),
 o 35 (.mv (.t 6)),
 o 36 (.bin .mul (.t 34) (.t 35)),
 o 37 (.bin .sub (.t 33) (.t 36)),
 o 38 (.build [(.int .i64 0), (.int .i64 0)] [(0, 1, (.t 31)), (1, 1, (.t 37))]),
 ⟨none, .store 2 (.t 4) (.t 38), none⟩] [3, 5, 6, 7, 26, 27, 28, 29, 30, 31, 32, 33, 34, 35, 36, 37, 38])
 .ret))))
def fe88 : FnE := ⟨39, [(4, some (some 2))], xc88⟩
theorem ok88 : FnOk Tryd.prog 88 fe88 := fnOk_of Tryd.func88 (by kernel_rfl : chkF Tryd.prog hs88 Tryd.f88 = some fe88)
/- 89 crimp/crimpref03.With -/
def hs89 : Hints := [(0, ([], [0])), (2, ([], [10])), (4, ([0, 1, 2, 3, 4, 5, 6, 7, 8, 9, 10, 11, 12, 13, 14, 15, 16, 17, 18], [11, 14, 15, 16, 17, 18, 19, 20, 21, 22, 23, 24, 25, 26])), (5, ([], [27, 28, 29, 30, 31])), (6, ([], [36])), (7, ([], [37])), (9, ([], [38, 41, 42, 43, 44, 45, 46, 47, 48, 49, 50])), (10, ([], [51, 52])), (11, ([], [9, 53, 54, 55, 56, 57, 62, 63])), (12, ([], [7, 73, 68, 72, 70, 71, 5, 69, 67, 65, 66, 6, 64, 61, 59, 60, 58, 4, 35, 34, 33, 32, 1, 3, 8, 74, 75])), (8, ([], [8, 74, 39, 40])), (3, ([], [4, 5, 6, 7, 12, 13])), (13, ([], [1, 3, 76]))]
def xc89 : XC :=
 (.seq
 (.reg 64 [
 o 1 (.box (.t 0)),
 o 2 (.new (.cells [(.int .i64 0), (.int .i64 0), (.int .u8 0)]) 1 3)] [0])
 (.seq
 (.seq
 (.reg 128 [
 o 3 (.mv (ki 0))] [])
 (.block 0
 (.loop
 (.seq
 (.seq
 (.reg 192 [
 o 10 (.mv (.t 3)),
 o 11 (.bin .lss (.t 10) (ki 3))] [10])
 (.cond (.t 11)
 .skip
 (.exit 0)))
 (.seq
 (.block 1
 (.seq
 (.draw 320 [
 o 14 (.mv (.t 3)),
 o 15 (.idxA (some 3) 2 (.t 1) (.t 14)),
 o 16 (.load (some 2) (.t 15)),
 o 17 (.mv (.t 3)),
 o 18 (.bin .add (.t 17) (ki 1)),
 o 19 (.bin .rem (.t 18) (ki 3)),
 o 20 (.idxA (some 3) 2 (.t 1) (.t 19)),
 o 21 (.load (some 2) (.t 20)),
 o 22 (.mv (.t 3)),
 o 23 (.bin .add (.t 22) (ki 2)),
 o 24 (.bin .rem (.t 23) (ki 3)),
 o 25 (.idxA (some 3) 2 (.t 1) (.t 24)),
 o 26 (.load (some 2) (.t 25)),
 o 4 (.new (.cells [(.int .i64 0), (.int .i64 0)]) 1 2),
 o 5 (.new (.cells [(.int .i64 0), (.int .i64 0)]) 1 2),
 o 6 (.new (.cells [(.int .i64 0), (.int .i64 0)]) 1 2),
 ⟨none, .store 2 (.t 4) (.t 16), none⟩,
 ⟨none, .store 2 (.t 5) (.t 21), none⟩,
 ⟨none, .store 2 (.t 6) (.t 26), none⟩]
 [[], [0], [1], [], [3], [4], [5], [6], [], [8], [9], [10], [11], [], [], [], [13, 2, 0, 1, 2, 13, 14, 15], [14, 7, 16, 0, 1, 2, 3, 4, 5, 6, 7, 13, 14, 15, 16], [15, 12, 17, 0, 1, 2, 3, 4, 5, 6, 7, 8, 9, 10, 11, 12, 13, 14, 15, 16, 17]]
 [0, 1, 2, 3, 4, 5, 6, 7, 8, 9, 10, 11, 12, 13, 14, 15, 16, 17, 18] [11, 14, 15, 16, 17, 18, 19, 20, 21, 22, 23, 24, 25, 26])
 (.seq
 (.seq
 (.reg 384 [
 o 27 (.fieldA 0 (.t 4)),
 o 28 (.load none (.t 27)),
 o 29 (.bin .rem (.t 28) (ki 2)),
 o 30 (.bin .eql (.t 29) (ki 0)),
 o 31 (.mv (.t 30)),
 oi 32 31 false (.fieldA 1 (.t 4)),
 oi 33 31 false (.load none (.t 32)),
 oi 34 31 false (.bin .rem (.t 33) (ki 2)),
 oi 35 31 false (.bin .eql (.t 34) (ki 0)),
 o 36 (.pick (.t 31) (.c (.bool true)) (.t 35))] [27, 28, 29, 30, 31])
 (.cond (.t 36)
 (.exit 1)
 .skip))
 (.seq
 (.reg 448 [
 o 7 (.mv (ku 0))] [36])
 (.block 2
 (.loop
 (.seq
 (.seq
 (.reg 512 [
 o 37 (.mv (.t 7)),
 o 38 (.bin .lss (.t 37) (ku 4))] [37])
 (.cond (.t 38)
 .skip
 (.exit 2)))
 (.seq
 (.block 3
 (.seq
 (.reg 640 [
 o 41 (.fieldA 0 (.t 4)),
 o 42 (.load none (.t 41)),
 o 43 (.bin .sub (.t 42) (ki 1)),
 o 44 (.bin .quo (.t 43) (ki 2)),
 o 45 (.fieldA 1 (.t 4)),
 o 46 (.load none (.t 45)),
 o 47 (.bin .sub (.t 46) (ki 1)),
 o 48 (.bin .quo (.t 47) (ki 2)),
 o 49 (.mv (.t 7)),
 o 50 (.build [(.int .i64 0), (.int .i64 0), (.int .u8 0)] [(0, 1, (.t 44)), (1, 1, (.t 48)), (2, 1, (.t 49))]),
 o 8 (.new (.cells [(.int .i64 0), (.int .i64 0), (.int .u8 0)]) 1 3),
 ⟨none, .store 3 (.t 8) (.t 50), none⟩] [38, 41, 42, 43, 44, 45, 46, 47, 48, 49, 50])
 (.seq
 (.reg 704 [
 o 51 (.load (some 3) (.t 8)),
 o 52 (.call 76 [(.t 51)]),
 o 9 (.new (.cells [(.int .i64 0), (.int .i64 0), (.int .i64 0), (.int .i64 0), (.int .i64 0), (.int .i64 0)]) 3 2),
 ⟨none, .store 6 (.t 9) (.t 52), none⟩] [51, 52])
 (.seq
 (.reg 768 [
 o 53 (.idxA (some 3) 2 (.t 9) (ki 1)),
 o 54 (.load (some 2) (.t 53)),
 o 55 (.load (some 2) (.t 5)),
 o 56 (.eqa false 2 [(0, 0), (1, 0)] (.t 54) (.t 55)),
 o 57 (.mv (.t 56)),
 oi 58 57 true (.idxA (some 3) 2 (.t 9) (ki 2)),
 oi 59 57 true (.load (some 2) (.t 58)),
 oi 60 57 true (.load (some 2) (.t 6)),
 oi 61 57 true (.eqa false 2 [(0, 0), (1, 0)] (.t 59) (.t 60)),
 o 62 (.pick (.t 57) (.t 61) (.c (.bool false))),
 o 63 (.mv (.t 62)),
 oi 64 63 false (.idxA (some 3) 2 (.t 9) (ki 1)),
 oi 65 63 false (.load (some 2) (.t 64)),
 oi 66 63 false (.load (some 2) (.t 6)),
 oi 67 63 false (.eqa false 2 [(0, 0), (1, 0)] (.t 65) (.t 66)),
 oi 68 63 false (.mv (.t 67)),
 oi 69 68 true (.idxA (some 3) 2 (.t 9) (ki 2)),
 oi 70 68 true (.load (some 2) (.t 69)),
 oi 71 68 true (.load (some 2) (.t 5)),
 oi 72 68 true (.eqa false 2 [(0, 0), (1, 0)] (.t 70) (.t 71)),
 oi 73 63 false (.pick (.t 68) (.t 72) (.c (.bool false))),
 o 74 (.pick (.t 63) (.c (.bool true)) (.t 73))] [9, 53, 54, 55, 56, 57, 62, 63])
 (.cond (.t 74)
 (.seq
 (.reg 832 [
 o 75 (.load (some 3) (.t 8)),
 ⟨none, .store 3 (.t 2) (.t 75), none⟩] [7, 73, 68, 72, 70, 71, 5, 69, 67, 65, 66, 6, 64, 61, 59, 60, 58, 4, 35, 34, 33, 32, 1, 3, 8, 74, 75])
 .ret)
 .skip)))))
 (.reg 576 [
 o 39 (.mv (.t 7)),
 o 40 (.bin .add (.t 39) (ku 1)),
 o 7 (.mv (.t 40))] [8, 74, 39, 40])))))))))
 (.reg 256 [
 o 12 (.mv (.t 3)),
 o 13 (.bin .add (.t 12) (ki 1)),
 o 3 (.mv (.t 13))] [4, 5, 6, 7, 12, 13]))))))
 (.seq
 (.reg 896 [
 o 76 (.build [(.int .i64 0), (.int .i64 0), (.int .u8 0)] [(2, 1, (ku 4))]),
 ⟨none, .store 3 (.t 2) (.t 76), none⟩] [1, 3, 76])
 .ret)))
def fe89 : FnE := ⟨77, [(2, some (some 3))], xc89⟩
theorem ok89 : FnOk Tryd.prog 89 fe89 := fnOk_of Tryd.func89 (by kernel_rfl : chkF Tryd.prog hs89 Tryd.f89 = some fe89)
/- 90 (crimp/sheets.Sheet).has -/
def hs90 : Hints := [(0, ([], [0, 4])), (1, ([], [1, 2, 5, 6, 7, 8, 9, 10, 11, 12, 13, 14, 15, 16]))]
def xc90 : XC :=
 (.seq
 (.reg 64 [
 o 2 (.box (.t 0)),
 o 4 (.mv (.c (.bool false)))] [0, 4])
 (.seq
 (.reg 128 [
 o 5 (.mv (.t 1)),
 o 6 (.bin .geq (.t 5) (ki 0)),
 o 7 (.mv (.t 6)),
 oi 8 7 true (.mv (.t 1)),
 oi 9 7 true (.fieldA 0 (.t 2)),
 oi 10 7 true (.load none (.t 9)),
 oi 11 7 true (.bin .mul (ki 4) (.t 10)),
 oi 12 7 true (.fieldA 1 (.t 2)),
 oi 13 7 true (.load none (.t 12)),
 oi 14 7 true (.bin .mul (.t 11) (.t 13)),
 oi 15 7 true (.bin .lss (.t 8) (.t 14)),
 o 16 (.pick (.t 7) (.t 15) (.c (.bool false))),
 o 4 (.mv (.t 16))] [1, 2, 5, 6, 7, 8, 9, 10, 11, 12, 13, 14, 15, 16])
 .ret))
def fe90 : FnE := ⟨17, [(4, none)], xc90⟩
theorem ok90 : FnOk Tryd.prog 90 fe90 := fnOk_of Tryd.func90 (by kernel_rfl : chkF Tryd.prog hs90 Tryd.f90 = some fe90)
/- 91 (crimp/sheets.Sheet).cell -/
def hs91 : Hints := [(0, ([], [0])), (1, ([0, 1, 2, 3, 4, 5, 6, 7, 8, 9, 10, 11, 12, 13, 14], [1, 2, 5, 6, 7, 8, 9, 10, 11, 12, 13, 14, 15, 16, 17, 18]))]
def xc91 : XC :=
 (.seq
 (.reg 64 [
 o 2 (.box (.t 0)),
 o 4 (.new (.cells [(.int .i64 0), (.int .i64 0), (.int .u8 0)]) 1 3)] [0])
 (.seq
 (.draw 128 [
 o 5 (.mv (.t 1)),
 o 6 (.bin .quo (.t 5) (ki 4)),
 o 7 (.fieldA 0 (.t 2)),
 o 8 (.load none (.t 7)),
 o 9 (.bin .rem (.t 6) (.t 8)),
 o 10 (.mv (.t 1)),
 o 11 (.bin .quo (.t 10) (ki 4)),
 o 12 (.fieldA 0 (.t 2)),
 o 13 (.load none (.t 12)),
 o 14 (.bin .quo (.t 11) (.t 13)),
 o 15 (.mv (.t 1)),
 o 16 (.bin .rem (.t 15) (ki 4)),
 o 17 (.conv .u8 (.t 16)),
 o 18 (.build [(.int .i64 0), (.int .i64 0), (.int .u8 0)] [(0, 1, (.t 9)), (1, 1, (.t 14)), (2, 1, (.t 17))]),
 ⟨none, .store 3 (.t 4) (.t 18), none⟩]
 [[], [0], [], [2], [1, 3], [], [5], [], [7], [6, 8], [], [10], [11], [4, 9, 12], [13, 0, 1, 2, 3, 4, 5, 6, 7, 8, 9, 10, 11, 12, 13]]
 [0, 1, 2, 3, 4, 5, 6, 7, 8, 9, 10, 11, 12, 13, 14] [1, 2, 5, 6, 7, 8, 9, 10, 11, 12, 13, 14, 15, 16, 17, 18])
 .ret))
def fe91 : FnE := ⟨19, [(4, some (some 3))], xc91⟩
theorem ok91 : FnOk Tryd.prog 91 fe91 := fnOk_of Tryd.func91 (by kernel_rfl : chkF Tryd.prog hs91 Tryd.f91 = some fe91)
/- 92 crimp/cells.Check -/
def hs92 : Hints := [(0, ([], [0, 2])), (1, ([], [1, 3, 4, 5, 6, 7, 8, 9, 10, 11, 12, 13, 14, 15, 16, 17, 18, 19, 20, 21, 22, 23, 24])), (2, ([], [25])), (3, ([], [25]))]
def xc92 : XC :=
 (.seq
 (.reg 64 [
 o 1 (.box (.t 0)),
 o 2 (.mv (ki 0))] [0, 2])
 (.seq
 (.seq
 (.reg 128 [
 o 3 (.fieldA 0 (.t 1)),
 o 4 (.load none (.t 3)),
 o 5 (.bin .lss (.t 4) (ki (-4096))),
 o 6 (.mv (.t 5)),
 oi 7 6 false (.fieldA 0 (.t 1)),
 oi 8 6 false (.load none (.t 7)),
 oi 9 6 false (.bin .gtr (.t 8) (ki 4096)),
 o 10 (.pick (.t 6) (.c (.bool true)) (.t 9)),
 o 11 (.mv (.t 10)),
 oi 12 11 false (.fieldA 1 (.t 1)),
 oi 13 11 false (.load none (.t 12)),
 oi 14 11 false (.bin .lss (.t 13) (ki (-4096))),
 o 15 (.pick (.t 11) (.c (.bool true)) (.t 14)),
 o 16 (.mv (.t 15)),
 oi 17 16 false (.fieldA 1 (.t 1)),
 oi 18 16 false (.load none (.t 17)),
 oi 19 16 false (.bin .gtr (.t 18) (ki 4096)),
 o 20 (.pick (.t 16) (.c (.bool true)) (.t 19)),
 o 21 (.mv (.t 20)),
 oi 22 21 false (.fieldA 2 (.t 1)),
 oi 23 21 false (.load none (.t 22)),
 oi 24 21 false (.bin .gtr (.t 23) (ku 3)),
 o 25 (.pick (.t 21) (.c (.bool true)) (.t 24))] [1, 3, 4, 5, 6, 7, 8, 9, 10, 11, 12, 13, 14, 15, 16, 17, 18, 19, 20, 21, 22, 23, 24])
 (.cond (.t 25)
 (.seq
 (.reg 192 [
 o 2 (.mv (ki 1))] [25])
 .ret)
 .skip))
 (.seq
 (.reg 256 [
 o 2 (.mv (ki 0))] [25])
 .ret)))
def fe92 : FnE := ⟨26, [(2, none)], xc92⟩
theorem ok92 : FnOk Tryd.prog 92 fe92 := fnOk_of Tryd.func92 (by kernel_rfl : chkF Tryd.prog hs92 Tryd.f92 = some fe92)
/- 93 slices.pdqsortCmpFunc[crimp/patterns.Crease] -/
def hs93 : Hints := [(2, ([], [21, 22, 23])), (3, ([], [24])), (4, ([], [4, 2, 1, 0, 96, 95, 94, 84, 89, 93, 92, 90, 91, 88, 85, 87, 86, 74, 73, 70, 11, 10, 3, 12, 25, 26, 27, 28, 29, 30])), (5, ([], [25, 31])), (6, ([], [4, 2, 1, 0, 96, 95, 94, 84, 89, 93, 92, 90, 91, 88, 85, 87, 86, 74, 73, 70, 11, 10, 3, 12, 32, 33, 34, 35, 36, 37])), (7, ([], [32, 38])), (8, ([], [39, 40, 41, 42, 43, 44])), (9, ([], [45, 46])), (10, ([], [39, 48, 49, 50, 51, 52, 47, 53, 54])), (11, ([], [55])), (12, ([], [14, 56, 57, 58, 59, 60, 61])), (13, ([], [62, 63, 64, 65, 66, 67])), (15, ([], [14, 56, 68, 69, 71, 72])), (16, ([], [75, 76, 77, 78, 79])), (17, ([0, 1, 2, 3, 4, 5, 6, 7, 8, 9, 10, 11, 12, 13, 14, 15, 16], [80, 75, 81, 82, 83])), (18, ([], [1, 12, 13, 97, 98, 99, 100, 101, 102, 103])), (19, ([], [15, 104])), (20, ([], [11, 10, 13, 97, 106, 107, 108, 109, 110, 111, 105, 112, 113])), (21, ([], [17, 114])), (22, ([], [115, 116, 117, 118, 119, 120])), (23, ([], [12, 121, 122])), (24, ([], [123, 124])), (25, ([], [18, 19, 20, 125, 126, 127, 128])), (26, ([], [1, 129, 130, 131, 132, 133, 134])), (27, ([], [16, 135, 136])), (28, ([], [18, 19, 20, 125, 137, 138, 139])), (29, ([], [2, 140, 141, 142, 143, 144, 145, 146])), (30, ([], [16, 147]))]
def xc93 : XC :=
 (.seq
 (.reg 64 [
 o 10 (.mv (.c (.bool true)))] [])
 (.seq
 (.reg 128 [
 o 11 (.mv (.c (.bool true)))] [])
 (.block 0
 (.loop
 (.block 1
 (.seq
 (.reg 192 [
 o 21 (.mv (.t 2)),
 o 22 (.mv (.t 1)),
 o 23 (.bin .sub (.t 21) (.t 22)),
 o 12 (.mv (.t 23))] [21, 22, 23])
 (.seq
 (.seq
 (.reg 256 [
 o 24 (.mv (.t 12)),
 o 25 (.bin .leq (.t 24) (ki 12))] [24])
 (.cond (.t 25)
 (.seq
 (.reg 320 [
 o 26 (.mv (.t 0)),
 o 27 (.mv (.t 1)),
 o 28 (.mv (.t 2)),
 o 29 (.mv (.t 4)),
 o 30 (.call 103 [(.t 26), (.t 27), (.t 28), (.t 29)])] [4, 2, 1, 0, 96, 95, 94, 84, 89, 93, 92, 90, 91, 88, 85, 87, 86, 74, 73, 70, 11, 10, 3, 12, 25, 26, 27, 28, 29, 30])
 .ret)
 .skip))
 (.seq
 (.seq
 (.reg 384 [
 o 31 (.mv (.t 3)),
 o 32 (.bin .eql (.t 31) (ki 0))] [25, 31])
 (.cond (.t 32)
 (.seq
 (.reg 448 [
 o 33 (.mv (.t 0)),
 o 34 (.mv (.t 1)),
 o 35 (.mv (.t 2)),
 o 36 (.mv (.t 4)),
 o 37 (.call 104 [(.t 33), (.t 34), (.t 35), (.t 36)])] [4, 2, 1, 0, 96, 95, 94, 84, 89, 93, 92, 90, 91, 88, 85, 87, 86, 74, 73, 70, 11, 10, 3, 12, 32, 33, 34, 35, 36, 37])
 .ret)
 .skip))
 (.seq
 (.seq
 (.reg 512 [
 o 38 (.mv (.t 10)),
 o 39 (.un .not (.t 38))] [32, 38])
 (.cond (.t 39)
 (.seq
 (.reg 576 [
 o 40 (.mv (.t 0)),
 o 41 (.mv (.t 1)),
 o 42 (.mv (.t 2)),
 o 43 (.mv (.t 4)),
 o 44 (.call 105 [(.t 40), (.t 41), (.t 42), (.t 43)])] [39, 40, 41, 42, 43, 44])
 (.reg 640 [
 o 45 (.mv (.t 3)),
 o 46 (.bin .sub (.t 45) (ki 1)),
 o 3 (.mv (.t 46))] [45, 46]))
 .skip))
 (.seq
 (.reg 704 [
 o 48 (.mv (.t 0)),
 o 49 (.mv (.t 1)),
 o 50 (.mv (.t 2)),
 o 51 (.mv (.t 4)),
 o 52 (.call 106 [(.t 48), (.t 49), (.t 50), (.t 51)]),
 o 47 (.mv (.t 52)),
 o 53 (.ext (.t 47) 0),
 o 54 (.ext (.t 47) 1),
 o 13 (.mv (.t 53)),
 o 14 (.mv (.t 54))] [39, 48, 49, 50, 51, 52, 47, 53, 54])
 (.seq
 (.seq
 (.reg 768 [
 o 55 (.mv (.t 14)),
 o 56 (.bin .eql (.t 55) (ki 2))] [55])
 (.cond (.t 56)
 (.seq
 (.reg 832 [
 o 57 (.mv (.t 0)),
 o 58 (.mv (.t 1)),
 o 59 (.mv (.t 2)),
 o 60 (.mv (.t 4)),
 o 61 (.call 107 [(.t 57), (.t 58), (.t 59), (.t 60)])] [14, 56, 57, 58, 59, 60, 61])
 (.seq
 (.reg 896 [
 o 62 (.mv (.t 2)),
 o 63 (.bin .sub (.t 62) (ki 1)),
 o 64 (.mv (.t 13)),
 o 65 (.mv (.t 1)),
 o 66 (.bin .sub (.t 64) (.t 65)),
 o 67 (.bin .sub (.t 63) (.t 66)),
 o 13 (.mv (.t 67))] [62, 63, 64, 65, 66, 67])
 (.reg 960 [
 o 14 (.mv (ki 1))] [])))
 .skip))
 (.seq
 (.seq
 (.reg 1024 [
 o 68 (.mv (.t 10)),
 o 69 (.mv (.t 68)),
 oi 70 69 true (.mv (.t 11)),
 o 71 (.pick (.t 69) (.t 70) (.c (.bool false))),
 o 72 (.mv (.t 71)),
 oi 73 72 true (.mv (.t 14)),
 oi 74 72 true (.bin .eql (.t 73) (ki 1)),
 o 75 (.pick (.t 72) (.t 74) (.c (.bool false)))] [14, 56, 68, 69, 71, 72])
 (.cond (.t 75)
 (.seq
 (.reg 1088 [
 o 76 (.mv (.t 0)),
 o 77 (.mv (.t 1)),
 o 78 (.mv (.t 2)),
 o 79 (.mv (.t 4)),
 o 80 (.call 108 [(.t 76), (.t 77), (.t 78), (.t 79)])] [75, 76, 77, 78, 79])
 (.cond (.t 80)
 .ret
 .skip))
 .skip))
 (.seq
 (.seq
 (.draw 1152 [
 o 81 (.mv (.t 1)),
 o 82 (.bin .gtr (.t 81) (ki 0)),
 o 83 (.mv (.t 82)),
 oi 84 83 true (.mv (.t 4)),
 oi 85 83 true (.mv (.t 0)),
 oi 86 83 true (.mv (.t 1)),
 oi 87 83 true (.bin .sub (.t 86) (ki 1)),
 oi 88 83 true (.idxA none 3 (.t 85) (.t 87)),
 oi 89 83 true (.load (some 3) (.t 88)),
 oi 90 83 true (.mv (.t 0)),
 oi 91 83 true (.mv (.t 13)),
 oi 92 83 true (.idxA none 3 (.t 90) (.t 91)),
 oi 93 83 true (.load (some 3) (.t 92)),
 oi 94 83 true (.callv (.t 84) [(.t 89), (.t 93)]),
 oi 95 83 true (.bin .lss (.t 94) (ki 0)),
 oi 96 83 true (.un .not (.t 95)),
 o 97 (.pick (.t 83) (.t 96) (.c (.bool false)))]
 [[], [0], [1], [2], [2], [2], [5, 2], [4, 6, 2], [7, 2], [2], [2], [9, 10, 2], [11, 2], [3, 8, 12, 2, 2], [13, 2], [14, 2], [2, 15]]
 [0, 1, 2, 3, 4, 5, 6, 7, 8, 9, 10, 11, 12, 13, 14, 15, 16] [80, 75, 81, 82, 83])
 (.cond (.t 97)
 (.seq
 (.reg 1216 [
 o 98 (.mv (.t 0)),
 o 99 (.mv (.t 1)),
 o 100 (.mv (.t 2)),
 o 101 (.mv (.t 13)),
 o 102 (.mv (.t 4)),
 o 103 (.call 109 [(.t 98), (.t 99), (.t 100), (.t 101), (.t 102)]),
 o 15 (.mv (.t 103))] [1, 12, 13, 97, 98, 99, 100, 101, 102, 103])
 (.seq
 (.reg 1280 [
 o 104 (.mv (.t 15)),
 o 1 (.mv (.t 104))] [15, 104])
 (.exit 1)))
 .skip))
 (.seq
 (.reg 1344 [
 o 106 (.mv (.t 0)),
 o 107 (.mv (.t 1)),
 o 108 (.mv (.t 2)),
 o 109 (.mv (.t 13)),
 o 110 (.mv (.t 4)),
 o 111 (.call 110 [(.t 106), (.t 107), (.t 108), (.t 109), (.t 110)]),
 o 105 (.mv (.t 111)),
 o 112 (.ext (.t 105) 0),
 o 113 (.ext (.t 105) 1),
 o 16 (.mv (.t 112)),
 o 17 (.mv (.t 113))] [11, 10, 13, 97, 106, 107, 108, 109, 110, 111, 105, 112, 113])
 (.seq
 (.reg 1408 [
 o 114 (.mv (.t 17)),
 o 11 (.mv (.t 114))] [17, 114])
 (.seq
 (.reg 1472 [
 o 115 (.mv (.t 16)),
 o 116 (.mv (.t 1)),
 o 117 (.bin .sub (.t 115) (.t 116)),
 o 118 (.mv (.t 2)),
 o 119 (.mv (.t 16)),
 o 120 (.bin .sub (.t 118) (.t 119)),
 o 18 (.mv (.t 117)),
 o 19 (.mv (.t 120))] [115, 116, 117, 118, 119, 120])
 (.seq
 (.reg 1536 [
 o 121 (.mv (.t 12)),
 o 122 (.bin .quo (.t 121) (ki 8)),
 o 20 (.mv (.t 122))] [12, 121, 122])
 (.seq
 (.reg 1600 [
 o 123 (.mv (.t 18)),
 o 124 (.mv (.t 19)),
 o 125 (.bin .lss (.t 123) (.t 124))] [123, 124])
 (.cond (.t 125)
 (.seq
 (.reg 1664 [
 o 126 (.mv (.t 18)),
 o 127 (.mv (.t 20)),
 o 128 (.bin .geq (.t 126) (.t 127)),
 o 10 (.mv (.t 128))] [18, 19, 20, 125, 126, 127, 128])
 (.seq
 (.reg 1728 [
 o 129 (.mv (.t 0)),
 o 130 (.mv (.t 1)),
 o 131 (.mv (.t 16)),
 o 132 (.mv (.t 3)),
 o 133 (.mv (.t 4)),
 o 134 (.call 93 [(.t 129), (.t 130), (.t 131), (.t 132), (.t 133)])] [1, 129, 130, 131, 132, 133, 134])
 (.reg 1792 [
 o 135 (.mv (.t 16)),
 o 136 (.bin .add (.t 135) (ki 1)),
 o 1 (.mv (.t 136))] [16, 135, 136])))
 (.seq
 (.reg 1856 [
 o 137 (.mv (.t 19)),
 o 138 (.mv (.t 20)),
 o 139 (.bin .geq (.t 137) (.t 138)),
 o 10 (.mv (.t 139))] [18, 19, 20, 125, 137, 138, 139])
 (.seq
 (.reg 1920 [
 o 140 (.mv (.t 0)),
 o 141 (.mv (.t 16)),
 o 142 (.bin .add (.t 141) (ki 1)),
 o 143 (.mv (.t 2)),
 o 144 (.mv (.t 3)),
 o 145 (.mv (.t 4)),
 o 146 (.call 93 [(.t 140), (.t 142), (.t 143), (.t 144), (.t 145)])] [2, 140, 141, 142, 143, 144, 145, 146])
 (.reg 1984 [
 o 147 (.mv (.t 16)),
 o 2 (.mv (.t 147))] [16, 147]))))))))))))))))))))))
def fe93 : FnE := ⟨148, [], xc93⟩
theorem ok93 : FnOk Tryd.prog 93 fe93 := fnOk_of Tryd.func93 (by kernel_rfl : chkF Tryd.prog hs93 Tryd.f93 = some fe93)
/- 94 math/bits.Len -/
def hs94 : Hints := [(0, ([], [2])), (1, ([], [0, 3, 4, 5])), (2, ([], [0, 6, 7]))]
def xc94 : XC :=
 (.seq
 (.reg 64 [
 o 2 (.mv (ki 0))] [2])
 (.seq
 (.cond (.c (.bool false))
 (.seq
 (.reg 128 [
 o 3 (.mv (.t 0)),
 o 4 (.conv .u32 (.t 3)),
 o 5 (.call 111 [(.t 4)]),
 o 2 (.mv (.t 5))] [0, 3, 4, 5])
 .ret)
 .skip)
 (.seq
 (.reg 192 [
 o 6 (.mv (.t 0)),
 o 7 (.call 112 [(.t 6)]),
 o 2 (.mv (.t 7))] [0, 6, 7])
 .ret)))
def fe94 : FnE := ⟨8, [(2, none)], xc94⟩
theorem ok94 : FnOk Tryd.prog 94 fe94 := fnOk_of Tryd.func94 (by kernel_rfl : chkF Tryd.prog hs94 Tryd.f94 = some fe94)
/- 95 slices.IndexFunc[[]crimp/patterns.Crease,crimp/patterns.Crease] -/
def hs95 : Hints := [(0, ([], [4])), (1, ([], [6])), (3, ([], [9, 10])), (4, ([], [11, 12, 13, 14, 15])), (5, ([], [8, 0, 1, 7, 5, 16, 17])), (6, ([], [4, 5, 16, 18])), (7, ([], [0, 1, 7, 8]))]
def xc95 : XC :=
 (.seq
 (.reg 64 [
 o 4 (.mv (ki 0))] [4])
 (.seq
 (.seq
 (.reg 128 [
 o 6 (.mv (.t 0)),
 o 7 (.len (.t 6)),
 o 8 (.mv (ki 0))] [6])
 (.block 0
 (.loop
 (.seq
 (.reg 192 [
 o 9 (.bin .lss (.t 8) (.t 7))] [])
 (.seq
 (.cond (.t 9)
 .skip
 (.exit 0))
 (.seq
 (.block 1
 (.seq
 (.reg 256 [
 o 10 (.mv (.t 8)),
 o 5 (.mv (.t 10))] [9, 10])
 (.seq
 (.reg 320 [
 o 11 (.mv (.t 1)),
 o 12 (.mv (.t 0)),
 o 13 (.mv (.t 5)),
 o 14 (.idxA none 3 (.t 12) (.t 13)),
 o 15 (.load (some 3) (.t 14)),
 o 16 (.callv (.t 11) [(.t 15)])] [11, 12, 13, 14, 15])
 (.cond (.t 16)
 (.seq
 (.reg 384 [
 o 17 (.mv (.t 5)),
 o 4 (.mv (.t 17))] [8, 0, 1, 7, 5, 16, 17])
 .ret)
 .skip))))
 (.reg 448 [
 o 18 (.bin .add (.t 8) (ki 1)),
 o 8 (.mv (.t 18))] [4, 5, 16, 18])))))))
 (.seq
 (.reg 512 [
 o 4 (.mv (ki (-1)))] [0, 1, 7, 8])
 .ret)))
def fe95 : FnE := ⟨19, [(4, none)], xc95⟩
theorem ok95 : FnOk Tryd.prog 95 fe95 := fnOk_of Tryd.func95 (by kernel_rfl : chkF Tryd.prog hs95 Tryd.f95 = some fe95)
/- 96 crimp/cells.Neighbour -/
def hs96 : Hints := [(0, ([], [0, 5])), (1, ([], [7, 8, 9, 10, 11, 12])), (2, ([], [1, 2, 13, 14])), (3, ([], [5, 1, 13, 15, 16, 17, 18, 19, 20, 21])), (4, ([0, 1, 2, 3, 4, 5, 6, 7, 8, 9, 10, 11, 12, 13], [2, 22, 23, 24, 25, 26, 27, 28, 29, 30, 31, 32, 33])), (5, ([], [34, 35])), (6, ([], [6, 36, 37])), (7, ([], [6, 36, 38]))]
def xc96 : XC :=
 (.seq
 (.reg 64 [
 o 2 (.box (.t 0)),
 o 4 (.new (.cells [(.int .i64 0), (.int .i64 0), (.int .u8 0)]) 1 3),
 o 5 (.mv (ki 0))] [0, 5])
 (.seq
 (.seq
 (.reg 128 [
 o 7 (.load (some 3) (.t 2)),
 o 8 (.call 92 [(.t 7)]),
 o 9 (.bin .neq (.t 8) (ki 0)),
 o 10 (.mv (.t 9)),
 oi 11 10 false (.mv (.t 1)),
 oi 12 10 false (.bin .gtr (.t 11) (ku 2)),
 o 13 (.pick (.t 10) (.c (.bool true)) (.t 12))] [7, 8, 9, 10, 11, 12])
 (.cond (.t 13)
 (.seq
 (.reg 192 [
 o 14 (.build [(.int .i64 0), (.int .i64 0), (.int .u8 0)] []),
 ⟨none, .store 3 (.t 4) (.t 14), none⟩,
 o 5 (.mv (ki 1))] [1, 2, 13, 14])
 .ret)
 .skip))
 (.seq
 (.reg 256 [
 o 15 (.fieldA 2 (.t 2)),
 o 16 (.load none (.t 15)),
 o 17 (.mv (.t 1)),
 o 18 (.idxA (some 4) 17 (.g 1) (.t 16)),
 o 19 (.fieldA 4 (.t 18)),
 o 20 (.idxA (some 3) 3 (.t 19) (.t 17)),
 o 21 (.load (some 3) (.t 20)),
 o 6 (.new (.cells [(.int .i64 0), (.int .i64 0), (.int .u8 0)]) 1 3),
 ⟨none, .store 3 (.t 6) (.t 21), none⟩] [5, 1, 13, 15, 16, 17, 18, 19, 20, 21])
 (.seq
 (.draw 320 [
 o 22 (.fieldA 0 (.t 6)),
 o 23 (.load none (.t 22)),
 o 24 (.fieldA 0 (.t 2)),
 o 25 (.load none (.t 24)),
 o 26 (.bin .add (.t 23) (.t 25)),
 o 27 (.fieldA 1 (.t 6)),
 o 28 (.load none (.t 27)),
 o 29 (.fieldA 1 (.t 2)),
 o 30 (.load none (.t 29)),
 o 31 (.bin .add (.t 28) (.t 30)),
 o 32 (.fieldA 0 (.t 6)),
 ⟨none, .store 1 (.t 32) (.t 26), none⟩,
 o 33 (.fieldA 1 (.t 6)),
 ⟨none, .store 1 (.t 33) (.t 31), none⟩]
 [[], [0], [], [2], [1, 3], [], [5], [], [7], [6, 8], [0, 1, 2, 3, 4, 5, 6], [10, 4, 0, 1, 2, 3, 4, 5, 6], [0, 1, 2, 3, 4, 5, 6, 7, 8, 9, 10, 11], [12, 9, 11, 0, 1, 2, 3, 4, 5, 6, 7, 8, 9, 10, 11]]
 [0, 1, 2, 3, 4, 5, 6, 7, 8, 9, 10, 11, 12, 13] [2, 22, 23, 24, 25, 26, 27, 28, 29, 30, 31, 32, 33])
 (.seq
 (.seq
 (.reg 384 [
 o 34 (.load (some 3) (.t 6)),
 o 35 (.call 92 [(.t 34)]),
 o 36 (.bin .neq (.t 35) (ki 0))] [34, 35])
 (.cond (.t 36)
 (.seq
 (.reg 448 [
 o 37 (.build [(.int .i64 0), (.int .i64 0), (.int .u8 0)] []),
 ⟨none, .store 3 (.t 4) (.t 37), none⟩,
 o 5 (.mv (ki 3))] [6, 36, 37])
 .ret)
 .skip))
 (.seq
 (.reg 512 [
 o 38 (.load (some 3) (.t 6)),
 ⟨none, .store 3 (.t 4) (.t 38), none⟩,
 o 5 (.mv (ki 0))] [6, 36, 38])
 .ret))))))
def fe96 : FnE := ⟨39, [(4, some (some 3)), (5, none)], xc96⟩
theorem ok96 : FnOk Tryd.prog 96 fe96 := fnOk_of Tryd.func96 (by kernel_rfl : chkF Tryd.prog hs96 Tryd.f96 = some fe96)
/- 100 slices.BinarySearchFunc[[]crimp/patterns.Crease,crimp/patterns.Crease,crimp/sheets.Unit] -/
def hs100 : Hints := [(0, ([], [1, 6, 7])), (1, ([], [12, 13])), (2, ([], [14])), (3, ([], [15, 16])), (4, ([], [17, 18, 19, 20, 21, 22, 23])), (5, ([0, 1, 2, 3, 4, 5, 6, 7], [24, 25, 26, 27, 28, 29, 30])), (6, ([], [11, 31, 32, 33])), (7, ([], [11, 31, 34])), (8, ([0, 1, 2, 3, 4, 5, 6, 7, 8, 9, 10, 11, 12, 13, 14, 15], [0, 2, 4, 8, 9, 10, 47, 46, 40, 44, 45, 43, 41, 42, 35, 36, 37, 38, 39, 48]))]
def xc100 : XC :=
 (.seq
 (.reg 64 [
 o 4 (.box (.t 1)),
 o 6 (.mv (ki 0)),
 o 7 (.mv (.c (.bool false)))] [1, 6, 7])
 (.seq
 (.reg 128 [
 o 12 (.mv (.t 0)),
 o 13 (.len (.t 12)),
 o 8 (.mv (.t 13))] [12, 13])
 (.seq
 (.reg 192 [
 o 14 (.mv (.t 8)),
 o 9 (.mv (ki 0)),
 o 10 (.mv (.t 14))] [14])
 (.seq
 (.block 0
 (.loop
 (.seq
 (.seq
 (.reg 256 [
 o 15 (.mv (.t 9)),
 o 16 (.mv (.t 10)),
 o 17 (.bin .lss (.t 15) (.t 16))] [15, 16])
 (.cond (.t 17)
 .skip
 (.exit 0)))
 (.block 1
 (.seq
 (.reg 320 [
 o 18 (.mv (.t 9)),
 o 19 (.mv (.t 10)),
 o 20 (.bin .add (.t 18) (.t 19)),
 o 21 (.conv .u64 (.t 20)),
 o 22 (.bin .shr (.t 21) (.c (.int .u64 1))),
 o 23 (.conv .i64 (.t 22)),
 o 11 (.mv (.t 23))] [17, 18, 19, 20, 21, 22, 23])
 (.seq
 (.draw 384 [
 o 24 (.mv (.t 2)),
 o 25 (.mv (.t 0)),
 o 26 (.mv (.t 11)),
 o 27 (.idxA none 3 (.t 25) (.t 26)),
 o 28 (.load (some 3) (.t 27)),
 o 29 (.load (some 2) (.t 4)),
 o 30 (.callv (.t 24) [(.t 28), (.t 29)]),
 o 31 (.bin .lss (.t 30) (ki 0))]
 [[], [], [], [1, 2], [3], [], [0, 4, 5], [6]]
 [0, 1, 2, 3, 4, 5, 6, 7] [24, 25, 26, 27, 28, 29, 30])
 (.cond (.t 31)
 (.reg 448 [
 o 32 (.mv (.t 11)),
 o 33 (.bin .add (.t 32) (ki 1)),
 o 9 (.mv (.t 33))] [11, 31, 32, 33])
 (.reg 512 [
 o 34 (.mv (.t 11)),
 o 10 (.mv (.t 34))] [11, 31, 34]))))))))
 (.seq
 (.draw 576 [
 o 35 (.mv (.t 9)),
 o 36 (.mv (.t 9)),
 o 37 (.mv (.t 8)),
 o 38 (.bin .lss (.t 36) (.t 37)),
 o 39 (.mv (.t 38)),
 oi 40 39 true (.mv (.t 2)),
 oi 41 39 true (.mv (.t 0)),
 oi 42 39 true (.mv (.t 9)),
 oi 43 39 true (.idxA none 3 (.t 41) (.t 42)),
 oi 44 39 true (.load (some 3) (.t 43)),
 oi 45 39 true (.load (some 2) (.t 4)),
 oi 46 39 true (.callv (.t 40) [(.t 44), (.t 45)]),
 oi 47 39 true (.bin .eql (.t 46) (ki 0)),
 o 48 (.pick (.t 39) (.t 47) (.c (.bool false))),
 o 6 (.mv (.t 35)),
 o 7 (.mv (.t 48))]
 [[], [], [], [1, 2], [3], [4], [4], [4], [6, 7, 4], [8, 4], [4], [5, 9, 10, 4, 4], [11, 4], [4, 12], [0, 11, 0], [13, 14, 0, 1, 2, 3, 4, 5, 6, 7, 8, 9, 10, 11, 12, 13, 14]]
 [0, 1, 2, 3, 4, 5, 6, 7, 8, 9, 10, 11, 12, 13, 14, 15] [0, 2, 4, 8, 9, 10, 47, 46, 40, 44, 45, 43, 41, 42, 35, 36, 37, 38, 39, 48])
 .ret)))))
def fe100 : FnE := ⟨49, [(6, none), (7, none)], xc100⟩
theorem ok100 : FnOk Tryd.prog 100 fe100 := fnOk_of Tryd.func100 (by kernel_rfl : chkF Tryd.prog hs100 Tryd.f100 = some fe100)
/- 101 crimp/patterns.find$1 -/
def hs101 : Hints := [(0, ([], [0, 1, 4])), (1, ([0, 1, 2, 3, 4], [2, 3, 5, 6, 7, 8]))]
def xc101 : XC :=
 (.seq
 (.reg 64 [
 o 2 (.box (.t 0)),
 o 3 (.box (.t 1)),
 o 4 (.mv (ki 0))] [0, 1, 4])
 (.seq
 (.draw 128 [
 o 5 (.load (some 3) (.t 2)),
 o 6 (.call 62 [(.t 5)]),
 o 7 (.load (some 2) (.t 3)),
 o 8 (.call 61 [(.t 6), (.t 7)]),
 o 4 (.mv (.t 8))]
 [[], [0], [], [1, 2, 1], [3, 3, 0, 1, 2, 3]]
 [0, 1, 2, 3, 4] [2, 3, 5, 6, 7, 8])
 .ret))
def fe101 : FnE := ⟨9, [(4, none)], xc101⟩
theorem ok101 : FnOk Tryd.prog 101 fe101 := fnOk_of Tryd.func101 (by kernel_rfl : chkF Tryd.prog hs101 Tryd.f101 = some fe101)
/- 102 crimp/crimpref01.Far -/
def hs102 : Hints := [(0, ([], [0, 1, 4])), (1, ([], [8, 9, 10, 7, 11, 12])), (2, ([], [2, 3, 5, 6, 13, 14, 15, 16, 17, 18, 19, 20, 21, 22, 23, 24, 25]))]
def xc102 : XC :=
 (.seq
 (.reg 64 [
 o 2 (.box (.t 0)),
 o 3 (.box (.t 1)),
 o 4 (.mv (ki 0))] [0, 1, 4])
 (.seq
 (.reg 128 [
 o 8 (.fieldA 0 (.t 2)),
 o 9 (.load none (.t 8)),
 o 10 (.call 77 [(.t 9)]),
 o 7 (.mv (.t 10)),
 o 11 (.ext (.t 7) 0),
 o 12 (.ext (.t 7) 1),
 o 5 (.mv (.t 11)),
 o 6 (.mv (.t 12))] [8, 9, 10, 7, 11, 12])
 (.seq
 (.reg 192 [
 o 13 (.mv (.t 5)),
 o 14 (.fieldA 0 (.t 3)),
 o 15 (.load none (.t 14)),
 o 16 (.bin .mul (.t 13) (.t 15)),
 o 17 (.mv (.t 6)),
 o 18 (.fieldA 1 (.t 3)),
 o 19 (.load none (.t 18)),
 o 20 (.bin .mul (.t 17) (.t 19)),
 o 21 (.bin .add (.t 16) (.t 20)),
 o 22 (.fieldA 1 (.t 2)),
 o 23 (.load none (.t 22)),
 o 24 (.bin .mul (ki 2) (.t 23)),
 o 25 (.bin .sub (.t 21) (.t 24)),
 o 4 (.mv (.t 25))] [2, 3, 5, 6, 13, 14, 15, 16, 17, 18, 19, 20, 21, 22, 23, 24, 25])
 .ret)))
def fe102 : FnE := ⟨26, [(4, none)], xc102⟩
theorem ok102 : FnOk Tryd.prog 102 fe102 := fnOk_of Tryd.func102 (by kernel_rfl : chkF Tryd.prog hs102 Tryd.f102 = some fe102)
/- 103 slices.insertionSortCmpFunc[crimp/patterns.Crease] -/
def hs103 : Hints := [(0, ([], [10, 11])), (1, ([], [12, 13])), (3, ([], [14, 17])), (4, ([0, 1, 2, 3, 4, 5, 6, 7, 8, 9, 10, 11, 12, 13, 14, 15, 16], [18, 19, 20, 21])), (6, ([0, 1, 2, 3, 4, 5, 6, 7, 8, 9, 10, 11, 12, 13, 14, 15, 16, 17], [34, 37, 38, 39, 40, 41, 42, 43, 44, 45, 46, 47, 48, 49, 50, 51, 52])), (5, ([], [35, 36])), (2, ([], [9, 15, 16]))]
def xc103 : XC :=
 (.seq
 (.reg 64 [
 o 10 (.mv (.t 1)),
 o 11 (.bin .add (.t 10) (ki 1)),
 o 8 (.mv (.t 11))] [10, 11])
 (.block 0
 (.loop
 (.seq
 (.seq
 (.reg 128 [
 o 12 (.mv (.t 8)),
 o 13 (.mv (.t 2)),
 o 14 (.bin .lss (.t 12) (.t 13))] [12, 13])
 (.cond (.t 14)
 .skip
 (.exit 0)))
 (.seq
 (.block 1
 (.seq
 (.reg 256 [
 o 17 (.mv (.t 8)),
 o 9 (.mv (.t 17))] [14, 17])
 (.block 2
 (.loop
 (.seq
 (.seq
 (.draw 320 [
 o 18 (.mv (.t 9)),
 o 19 (.mv (.t 1)),
 o 20 (.bin .gtr (.t 18) (.t 19)),
 o 21 (.mv (.t 20)),
 oi 22 21 true (.mv (.t 3)),
 oi 23 21 true (.mv (.t 0)),
 oi 24 21 true (.mv (.t 9)),
 oi 25 21 true (.idxA none 3 (.t 23) (.t 24)),
 oi 26 21 true (.load (some 3) (.t 25)),
 oi 27 21 true (.mv (.t 0)),
 oi 28 21 true (.mv (.t 9)),
 oi 29 21 true (.bin .sub (.t 28) (ki 1)),
 oi 30 21 true (.idxA none 3 (.t 27) (.t 29)),
 oi 31 21 true (.load (some 3) (.t 30)),
 oi 32 21 true (.callv (.t 22) [(.t 26), (.t 31)]),
 oi 33 21 true (.bin .lss (.t 32) (ki 0)),
 o 34 (.pick (.t 21) (.t 33) (.c (.bool false)))]
 [[], [], [0, 1], [2], [3], [3], [3], [5, 6, 3], [7, 3], [3], [3], [10, 3], [9, 11, 3], [12, 3], [4, 8, 13, 3, 3], [14, 3], [3, 15]]
 [0, 1, 2, 3, 4, 5, 6, 7, 8, 9, 10, 11, 12, 13, 14, 15, 16] [18, 19, 20, 21])
 (.cond (.t 34)
 .skip
 (.exit 2)))
 (.seq
 (.block 3
 (.draw 448 [
 o 37 (.mv (.t 0)),
 o 38 (.mv (.t 9)),
 o 39 (.mv (.t 0)),
 o 40 (.mv (.t 9)),
 o 41 (.bin .sub (.t 40) (ki 1)),
 o 42 (.mv (.t 0)),
 o 43 (.mv (.t 9)),
 o 44 (.bin .sub (.t 43) (ki 1)),
 o 45 (.idxA none 3 (.t 42) (.t 44)),
 o 46 (.load (some 3) (.t 45)),
 o 47 (.mv (.t 0)),
 o 48 (.mv (.t 9)),
 o 49 (.idxA none 3 (.t 47) (.t 48)),
 o 50 (.load (some 3) (.t 49)),
 o 51 (.idxA none 3 (.t 37) (.t 38)),
 ⟨none, .store 3 (.t 51) (.t 46), none⟩,
 o 52 (.idxA none 3 (.t 39) (.t 41)),
 ⟨none, .store 3 (.t 52) (.t 50), none⟩]
 [[], [], [], [], [3], [], [], [6], [5, 7], [8], [], [], [10, 11], [12], [0, 1, 0, 1, 5, 6, 7, 8, 9, 13], [14, 9, 0, 1, 5, 6, 7, 8, 9, 13], [2, 4, 0, 1, 2, 3, 4, 5, 6, 7, 8, 9, 10, 11, 12, 13, 14, 15], [16, 13, 15, 0, 1, 2, 3, 4, 5, 6, 7, 8, 9, 10, 11, 12, 13, 14, 15]]
 [0, 1, 2, 3, 4, 5, 6, 7, 8, 9, 10, 11, 12, 13, 14, 15, 16, 17] [34, 37, 38, 39, 40, 41, 42, 43, 44, 45, 46, 47, 48, 49, 50, 51, 52]))
 (.reg 384 [
 o 35 (.mv (.t 9)),
 o 36 (.bin .sub (.t 35) (ki 1)),
 o 9 (.mv (.t 36))] [35, 36])))))))
 (.reg 192 [
 o 15 (.mv (.t 8)),
 o 16 (.bin .add (.t 15) (ki 1)),
 o 8 (.mv (.t 16))] [9, 15, 16]))))))
def fe103 : FnE := ⟨53, [], xc103⟩
theorem ok103 : FnOk Tryd.prog 103 fe103 := fnOk_of Tryd.func103 (by kernel_rfl : chkF Tryd.prog hs103 Tryd.f103 = some fe103)
/- 112 math/bits.Len64 -/
def hs112 : Hints := [(1, ([], [3])), (2, ([], [2, 4, 5, 6])), (4, ([], [4, 7])), (5, ([], [8, 9, 10])), (6, ([], [11, 12])), (7, ([], [8, 13])), (8, ([], [14, 15, 16])), (9, ([], [17, 18])), (10, ([], [0, 14, 19, 20, 21, 22, 23, 24]))]
def xc112 : XC :=
 (.seq
 (.reg 64 [
 o 2 (.mv (ki 0))] [])
 (.seq
 (.seq
 (.reg 128 [
 o 3 (.mv (.t 0)),
 o 4 (.bin .geq (.t 3) (.c (.int .u64 4294967296)))] [3])
 (.cond (.t 4)
 (.seq
 (.reg 192 [
 o 5 (.mv (.t 0)),
 o 6 (.bin .shr (.t 5) (.c (.int .u64 32))),
 o 0 (.mv (.t 6))] [2, 4, 5, 6])
 (.reg 256 [
 o 2 (.mv (ki 32))] []))
 .skip))
 (.seq
 (.seq
 (.reg 320 [
 o 7 (.mv (.t 0)),
 o 8 (.bin .geq (.t 7) (.c (.int .u64 65536)))] [4, 7])
 (.cond (.t 8)
 (.seq
 (.reg 384 [
 o 9 (.mv (.t 0)),
 o 10 (.bin .shr (.t 9) (.c (.int .u64 16))),
 o 0 (.mv (.t 10))] [8, 9, 10])
 (.reg 448 [
 o 11 (.mv (.t 2)),
 o 12 (.bin .add (.t 11) (ki 16)),
 o 2 (.mv (.t 12))] [11, 12]))
 .skip))
 (.seq
 (.seq
 (.reg 512 [
 o 13 (.mv (.t 0)),
 o 14 (.bin .geq (.t 13) (.c (.int .u64 256)))] [8, 13])
 (.cond (.t 14)
 (.seq
 (.reg 576 [
 o 15 (.mv (.t 0)),
 o 16 (.bin .shr (.t 15) (.c (.int .u64 8))),
 o 0 (.mv (.t 16))] [14, 15, 16])
 (.reg 640 [
 o 17 (.mv (.t 2)),
 o 18 (.bin .add (.t 17) (ki 8)),
 o 2 (.mv (.t 18))] [17, 18]))
 .skip))
 (.seq
 (.reg 704 [
 o 19 (.mv (.t 2)),
 o 20 (.mv (.t 0)),
 o 21 (.conv .u8 (.t 20)),
 o 22 (.idxs (.c (.str [0, 1, 2, 2, 3, 3, 3, 3, 4, 4, 4, 4, 4, 4, 4, 4, 5, 5, 5, 5, 5, 5, 5, 5, 5, 5, 5, 5, 5, 5, 5, 5, 6, 6, 6, 6, 6, 6, 6, 6, 6, 6, 6, 6, 6, 6, 6, 6, 6, 6, 6, 6, 6, 6, 6, 6, 6, 6, 6, 6, 6, 6, 6, 6, 7, 7, 7, 7, 7, 7, 7, 7, 7, 7, 7, 7, 7, 7, 7, 7, 7, 7, 7, 7, 7, 7, 7, 7, 7, 7, 7, 7, 7, 7, 7, 7, 7, 7, 7, 7, 7, 7, 7, 7, 7, 7, 7, 7, 7, 7, 7, 7, 7, 7, 7, 7, 7, 7, 7, 7, 7, 7, 7, 7, 7, 7, 7, 7, 8, 8, 8, 8, 8, 8, 8, 8, 8, 8, 8, 8, 8, 8, 8, 8, 8, 8, 8, 8, 8, 8, 8, 8, 8, 8, 8, 8, 8, 8, 8, 8, 8, 8, 8, 8, 8, 8, 8, 8, 8, 8, 8, 8, 8, 8, 8, 8, 8, 8, 8, 8, 8, 8, 8, 8, 8, 8, 8, 8, 8, 8, 8, 8, 8, 8, 8, 8, 8, 8, 8, 8, 8, 8, 8, 8, 8, 8, 8, 8, 8, 8, 8, 8, 8, 8, 8, 8, 8, 8, 8, 8, 8, 8, 8, 8, 8, 8, 8, 8, 8, 8, 8, 8, 8, 8, 8, 8, 8, 8, 8, 8, 8, 8, 8, 8, 8, 8, 8, 8, 8, 8, 8, 8, 8, 8, 8, 8])) (.t 21)),
 o 23 (.conv .i64 (.t 22)),
 o 24 (.bin .add (.t 19) (.t 23)),
 o 2 (.mv (.t 24))] [0, 14, 19, 20, 21, 22, 23, 24])
 .ret)))))
def fe112 : FnE := ⟨25, [(2, none)], xc112⟩
theorem ok112 : FnOk Tryd.prog 112 fe112 := fnOk_of Tryd.func112 (by kernel_rfl : chkF Tryd.prog hs112 Tryd.f112 = some fe112)
def xpl : List (Nat × FnE) := [(7, fe7), (14, fe14), (15, fe15), (16, fe16), (17, fe17), (18, fe18), (19, fe19), (20, fe20), (21, fe21), (22, fe22), (23, fe23), (24, fe24), (25, fe25), (27, fe27), (28, fe28), (29, fe29), (30, fe30), (31, fe31), (32, fe32), (33, fe33), (34, fe34), (35, fe35), (36, fe36), (42, fe42), (50, fe50), (51, fe51), (52, fe52), (53, fe53), (54, fe54), (55, fe55), (56, fe56), (57, fe57), (58, fe58), (59, fe59), (60, fe60), (61, fe61), (62, fe62), (64, fe64), (65, fe65), (66, fe66), (67, fe67), (68, fe68), (69, fe69), (70, fe70), (76, fe76), (77, fe77), (87, fe87), (88, fe88), (89, fe89), (90, fe90), (91, fe91), (92, fe92), (93, fe93), (94, fe94), (95, fe95), (96, fe96), (100, fe100), (101, fe101), (102, fe102), (103, fe103), (112, fe112)]
theorem xpOk : XpOk Tryd.prog (aget xpl) := xpOk_of (l := xpl) ⟨ok7, ok14, ok15, ok16, ok17, ok18, ok19, ok20, ok21, ok22, ok23, ok24, ok25, ok27, ok28, ok29, ok30, ok31, ok32, ok33, ok34, ok35, ok36, ok42, ok50, ok51, ok52, ok53, ok54, ok55, ok56, ok57, ok58, ok59, ok60, ok61, ok62, ok64, ok65, ok66, ok67, ok68, ok69, ok70, ok76, ok77, ok87, ok88, ok89, ok90, ok91, ok92, ok93, ok94, ok95, ok96, ok100, ok101, ok102, ok103, ok112, trivial⟩
end Go.Proofs.YtfpcbimohikhmaaDoor.X
