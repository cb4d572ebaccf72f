/-
  The functions of the translation, with types resolved (made by a program).
-/
import Derived.Test.YtidpllnmghgomaaDoorProg
import Derived.Test.YtidpllnmghgomaaDoorAb5
import Derived.KernelRfl
set_option linter.unusedVariables false
set_option maxRecDepth 1000000
namespace Go.Proofs.YtidpllnmghgomaaDoor.X
open Go Go.Ab

abbrev o (d : Nat) (x : XOp) : XO := ⟨some d, x, none⟩
abbrev oi (d g : Nat) (b : Bool) (x : XOp) : XO := ⟨some d, x, some (g, b)⟩
abbrev ki (n : Int) : Opd := .c (.int .i64 n)
abbrev ku (n : Int) : Opd := .c (.int .u8 n)
abbrev tt (n : Nat) : Opd := .t n

/- 3 crimp/crimplaw13.BalancesRange -/
def hs3 : Hints := [(0, ([], [0, 2])), (1, ([], [1, 21, 22])), (2, ([], [24, 25, 23, 26, 27, 28])), (3, ([], [30, 31, 29, 32, 33])), (4, ([], [6, 8, 34, 35, 36, 37, 38])), (5, ([], [3, 4, 5, 7, 39])), (6, ([], [2, 39])), (8, ([], [40, 41, 42, 43])), (10, ([], [44, 47, 48, 49, 50, 51])), (11, ([], [52, 53, 54])), (9, ([], [52, 45, 46])), (12, ([], [10])), (13, ([], [55, 56])), (15, ([], [57, 58, 59])), (17, ([], [60])), (19, ([], [63, 64, 65, 66, 67, 68, 69])), (21, ([], [70, 73, 74, 75, 76, 77, 78, 79, 80])), (22, ([], [81, 82, 83])), (23, ([], [84, 85])), (24, ([], [81, 86, 87])), (20, ([], [71, 72])), (25, ([], [17, 88, 89, 90, 91, 95, 96])), (26, ([], [14, 13, 12, 9, 116, 115, 114, 113, 3, 110, 109, 11, 101, 100, 99, 97, 98, 4, 94, 92, 93, 5, 153, 7, 15, 16, 102])), (27, ([], [2, 102, 103, 104, 105])), (28, ([], [15, 106, 107, 108, 111, 112])), (29, ([], [16, 117, 118, 119, 120, 121])), (16, ([], [16, 117, 61, 62])), (30, ([], [3, 4, 9, 116, 115, 114, 113, 110, 109, 101, 100, 99, 97, 98, 94, 92, 93, 13, 14, 122])), (31, ([], [123, 124])), (33, ([], [125, 128, 129, 130, 131])), (34, ([], [18, 11, 12, 153, 7, 5, 132])), (32, ([], [2, 132, 126, 127])), (35, ([], [5, 11, 18])), (37, ([], [133])), (39, ([], [134, 137, 138])), (40, ([], [139, 140, 141, 142, 143])), (38, ([], [139, 135, 136])), (41, ([], [7, 153, 12, 19, 20, 144, 145, 146, 147, 148, 149, 150, 151, 152, 154]))]
def xc3 : XC :=
 (.seq
 (.reg 64 [
 o 1 (.box (.t 0)),
 o 2 (.mv (.c (.bool false)))] [0, 2])
 (.seq
 (.reg 128 [
 o 21 (.load (some 3) (.t 1)),
 o 22 (.call 9 [(.t 21)]),
 o 3 (.new (.cells [.nils, .nils]) 1 2),
 ⟨none, .store 2 (.t 3) (.t 22), none⟩] [1, 21, 22])
 (.seq
 (.reg 192 [
 o 24 (.load (some 2) (.t 3)),
 o 25 (.call 10 [(.t 24)]),
 o 23 (.mv (.t 25)),
 o 26 (.ext (.t 23) 0),
 o 27 (.ext (.t 23) 1),
 o 28 (.ext (.t 23) 2),
 o 4 (.mv (.t 26)),
 o 5 (.mv (.t 27)),
 o 6 (.mv (.t 28))] [24, 25, 23, 26, 27, 28])
 (.seq
 (.reg 256 [
 o 30 (.load (some 2) (.t 3)),
 o 31 (.call 11 [(.t 30)]),
 o 29 (.mv (.t 31)),
 o 32 (.ext (.t 29) 0),
 o 33 (.ext (.t 29) 1),
 o 7 (.mv (.t 32)),
 o 8 (.mv (.t 33))] [30, 31, 29, 32, 33])
 (.seq
 (.seq
 (.reg 320 [
 o 34 (.mv (.t 6)),
 o 35 (.bin .neq (.t 34) (ki 0)),
 o 36 (.mv (.t 35)),
 oi 37 36 false (.mv (.t 8)),
 oi 38 36 false (.bin .neq (.t 37) (ki 0)),
 o 39 (.pick (.t 36) (.c (.bool true)) (.t 38))] [6, 8, 34, 35, 36, 37, 38])
 (.cond (.t 39)
 (.seq
 (.reg 384 [
 o 2 (.mv (.c (.bool false)))] [3, 4, 5, 7, 39])
 .ret)
 .skip))
 (.seq
 (.reg 448 [
 o 9 (.mv (ki 0))] [2, 39])
 (.seq
 (.seq
 (.reg 512 [
 o 10 (.mv (ki 0))] [])
 (.block 0
 (.loop
 (.seq
 (.seq
 (.reg 576 [
 o 40 (.mv (.t 10)),
 o 41 (.fieldA 1 (.t 3)),
 o 42 (.load none (.t 41)),
 o 43 (.len (.t 42)),
 o 44 (.bin .lss (.t 40) (.t 43))] [40, 41, 42, 43])
 (.cond (.t 44)
 .skip
 (.exit 0)))
 (.seq
 (.block 1
 (.seq
 (.reg 704 [
 o 47 (.fieldA 1 (.t 3)),
 o 48 (.load none (.t 47)),
 o 49 (.mv (.t 10)),
 o 50 (.idxA none 1 (.t 48) (.t 49)),
 o 51 (.load none (.t 50)),
 o 52 (.bin .eql (.t 51) (ku 1))] [44, 47, 48, 49, 50, 51])
 (.cond (.t 52)
 (.reg 768 [
 o 53 (.mv (.t 9)),
 o 54 (.bin .add (.t 53) (ki 1)),
 o 9 (.mv (.t 54))] [52, 53, 54])
 .skip)))
 (.reg 640 [
 o 45 (.mv (.t 10)),
 o 46 (.bin .add (.t 45) (ki 1)),
 o 10 (.mv (.t 46))] [52, 45, 46]))))))
 (.seq
 (.reg 832 [
 o 11 (.new (.bools [false, false, false, false, false, false, false, false, false, false, false, false, false, false, false, false, false]) 17 1),
 o 12 (.new (.bools [false, false, false, false, false, false, false, false, false, false, false, false, false, false, false, false, false]) 17 1)] [10])
 (.seq
 (.reg 896 [
 o 55 (.load (some 2) (.t 3)),
 o 56 (.call 12 [(.t 55)]),
 o 13 (.mv (.t 56))] [55, 56])
 (.seq
 (.seq
 (.reg 960 [
 o 14 (.mv (ki 0))] [])
 (.block 2
 (.loop
 (.seq
 (.seq
 (.reg 1024 [
 o 57 (.mv (.t 14)),
 o 58 (.mv (.t 13)),
 o 59 (.len (.t 58)),
 o 60 (.bin .lss (.t 57) (.t 59))] [57, 58, 59])
 (.cond (.t 60)
 .skip
 (.exit 2)))
 (.seq
 (.block 3
 (.seq
 (.reg 1152 [
 o 15 (.mv (ki 0)),
 o 16 (.mv (ki 0))] [60])
 (.seq
 (.seq
 (.reg 1216 [
 o 17 (.mv (ki 0))] [])
 (.block 4
 (.loop
 (.seq
 (.seq
 (.reg 1280 [
 o 63 (.mv (.t 17)),
 o 64 (.mv (.t 13)),
 o 65 (.mv (.t 14)),
 o 66 (.idxA none 2 (.t 64) (.t 65)),
 o 67 (.fieldA 1 (.t 66)),
 o 68 (.load none (.t 67)),
 o 69 (.len (.t 68)),
 o 70 (.bin .lss (.t 63) (.t 69))] [63, 64, 65, 66, 67, 68, 69])
 (.cond (.t 70)
 .skip
 (.exit 4)))
 (.seq
 (.block 5
 (.seq
 (.reg 1408 [
 o 73 (.mv (.t 13)),
 o 74 (.mv (.t 14)),
 o 75 (.idxA none 2 (.t 73) (.t 74)),
 o 76 (.fieldA 1 (.t 75)),
 o 77 (.load none (.t 76)),
 o 78 (.mv (.t 17)),
 o 79 (.idxA none 1 (.t 77) (.t 78)),
 o 80 (.load none (.t 79)),
 o 81 (.bin .eql (.t 80) (ku 1))] [70, 73, 74, 75, 76, 77, 78, 79, 80])
 (.cond (.t 81)
 (.seq
 (.reg 1472 [
 o 82 (.mv (.t 15)),
 o 83 (.bin .add (.t 82) (ki 1)),
 o 15 (.mv (.t 83))] [81, 82, 83])
 (.reg 1536 [
 o 84 (.mv (.t 16)),
 o 85 (.bin .add (.t 84) (ki 1)),
 o 16 (.mv (.t 85))] [84, 85]))
 (.reg 1600 [
 o 86 (.mv (.t 15)),
 o 87 (.bin .sub (.t 86) (ki 1)),
 o 15 (.mv (.t 87))] [81, 86, 87]))))
 (.reg 1344 [
 o 71 (.mv (.t 17)),
 o 72 (.bin .add (.t 71) (ki 1)),
 o 17 (.mv (.t 72))] [71, 72]))))))
 (.seq
 (.seq
 (.reg 1664 [
 o 88 (.mv (.t 15)),
 o 89 (.mv (.t 4)),
 o 90 (.bin .lss (.t 88) (.t 89)),
 o 91 (.mv (.t 90)),
 oi 92 91 false (.mv (.t 15)),
 oi 93 91 false (.mv (.t 5)),
 oi 94 91 false (.bin .gtr (.t 92) (.t 93)),
 o 95 (.pick (.t 91) (.c (.bool true)) (.t 94)),
 o 96 (.mv (.t 95)),
 oi 97 96 false (.mv (.t 15)),
 oi 98 96 false (.mv (.t 4)),
 oi 99 96 false (.bin .sub (.t 97) (.t 98)),
 oi 100 96 false (.bin .rem (.t 99) (ki 2)),
 oi 101 96 false (.bin .neq (.t 100) (ki 0)),
 o 102 (.pick (.t 96) (.c (.bool true)) (.t 101))] [17, 88, 89, 90, 91, 95, 96])
 (.cond (.t 102)
 (.seq
 (.reg 1728 [
 o 2 (.mv (.c (.bool false)))] [14, 13, 12, 9, 116, 115, 114, 113, 3, 110, 109, 11, 101, 100, 99, 97, 98, 4, 94, 92, 93, 5, 153, 7, 15, 16, 102])
 .ret)
 .skip))
 (.seq
 (.reg 1792 [
 o 103 (.mv (.t 15)),
 o 104 (.bin .add (.t 103) (ki 8)),
 o 105 (.idxA (some 17) 1 (.t 11) (.t 104)),
 ⟨none, .store 1 (.t 105) (.c (.bool true)), none⟩] [2, 102, 103, 104, 105])
 (.seq
 (.reg 1856 [
 o 106 (.mv (.t 15)),
 o 107 (.bin .eql (.t 106) (ki 2)),
 o 108 (.mv (.t 107)),
 oi 109 108 false (.mv (.t 15)),
 oi 110 108 false (.bin .eql (.t 109) (ki (-2))),
 o 111 (.pick (.t 108) (.c (.bool true)) (.t 110)),
 o 112 (.mv (.t 111)),
 oi 113 112 false (.fieldA 1 (.t 3)),
 oi 114 112 false (.load none (.t 113)),
 oi 115 112 false (.len (.t 114)),
 oi 116 112 false (.bin .eql (.t 115) (ki 0)),
 o 117 (.pick (.t 112) (.c (.bool true)) (.t 116))] [15, 106, 107, 108, 111, 112])
 (.cond (.t 117)
 (.reg 1920 [
 o 118 (.mv (.t 16)),
 o 119 (.mv (.t 9)),
 o 120 (.bin .sub (.t 118) (.t 119)),
 o 121 (.idxA (some 17) 1 (.t 12) (.t 120)),
 ⟨none, .store 1 (.t 121) (.c (.bool true)), none⟩] [16, 117, 118, 119, 120, 121])
 .skip)))))))
 (.reg 1088 [
 o 61 (.mv (.t 14)),
 o 62 (.bin .add (.t 61) (ki 1)),
 o 14 (.mv (.t 62))] [16, 117, 61, 62]))))))
 (.seq
 (.seq
 (.reg 1984 [
 o 122 (.mv (.t 4)),
 o 18 (.mv (.t 122))] [3, 4, 9, 116, 115, 114, 113, 110, 109, 101, 100, 99, 97, 98, 94, 92, 93, 13, 14, 122])
 (.block 6
 (.loop
 (.seq
 (.seq
 (.reg 2048 [
 o 123 (.mv (.t 18)),
 o 124 (.mv (.t 5)),
 o 125 (.bin .leq (.t 123) (.t 124))] [123, 124])
 (.cond (.t 125)
 .skip
 (.exit 6)))
 (.seq
 (.block 7
 (.seq
 (.reg 2176 [
 o 128 (.mv (.t 18)),
 o 129 (.bin .add (.t 128) (ki 8)),
 o 130 (.idxA (some 17) 1 (.t 11) (.t 129)),
 o 131 (.load none (.t 130)),
 o 132 (.un .not (.t 131))] [125, 128, 129, 130, 131])
 (.cond (.t 132)
 (.seq
 (.reg 2240 [
 o 2 (.mv (.c (.bool false)))] [18, 11, 12, 153, 7, 5, 132])
 .ret)
 .skip)))
 (.reg 2112 [
 o 126 (.mv (.t 18)),
 o 127 (.bin .add (.t 126) (ki 2)),
 o 18 (.mv (.t 127))] [2, 132, 126, 127]))))))
 (.seq
 (.reg 2304 [
 o 19 (.mv (.c .nils))] [5, 11, 18])
 (.seq
 (.seq
 (.reg 2368 [
 o 20 (.mv (ki 0))] [])
 (.block 8
 (.loop
 (.seq
 (.seq
 (.reg 2432 [
 o 133 (.mv (.t 20)),
 o 134 (.bin .lss (.t 133) (ki 17))] [133])
 (.cond (.t 134)
 .skip
 (.exit 8)))
 (.seq
 (.block 9
 (.seq
 (.reg 2560 [
 o 137 (.mv (.t 20)),
 o 138 (.idxA (some 17) 1 (.t 12) (.t 137)),
 o 139 (.load none (.t 138))] [134, 137, 138])
 (.cond (.t 139)
 (.reg 2624 [
 o 140 (.mv (.t 19)),
 o 141 (.mv (.t 20)),
 o 142 (.buildS 1 1 4 [(.int .i64 0)] [(0, 1, (.t 141))]),
 o 143 (.append 1 8 4 (.t 140) (.t 142)),
 o 19 (.mv (.t 143))] [139, 140, 141, 142, 143])
 .skip)))
 (.reg 2496 [
 o 135 (.mv (.t 20)),
 o 136 (.bin .add (.t 135) (ki 1)),
 o 20 (.mv (.t 136))] [139, 135, 136]))))))
 (.seq
 (.reg 2688 [
 o 144 (.mv (.t 7)),
 o 145 (.mv (.t 19)),
 o 146 (.mv (.t 19)),
 o 147 (.len (.t 146)),
 o 148 (.mv (.t 19)),
 o 149 (.len (.t 148)),
 o 150 (.slice 1 (.t 145) none (some (.t 147)) (some (.t 149))),
 o 151 (.call 13 [(.t 144), (.t 150)]),
 o 152 (.mv (.t 151)),
 oi 153 152 true (.call 14 []),
 o 154 (.pick (.t 152) (.t 153) (.c (.bool false))),
 o 2 (.mv (.t 154))] [7, 153, 12, 19, 20, 144, 145, 146, 147, 148, 149, 150, 151, 152, 154])
 .ret))))))))))))))
def fe3 : FnE := ⟨155, [(2, none)], xc3⟩
theorem ok3 : FnOk Tryd.prog 3 fe3 := fnOk_of Tryd.func3 (by kernel_rfl : chkF Tryd.prog hs3 Tryd.f3 = some fe3)
/- 4 crimp/crimplaw13.BalancesSharp -/
def hs4 : Hints := [(0, ([], [0, 2])), (1, ([], [1, 11, 12])), (2, ([], [14, 15, 13, 16, 17])), (3, ([], [18, 19, 20])), (6, ([], [21, 22, 23, 24])), (8, ([], [27, 30, 31, 32, 33])), (9, ([], [34])), (10, ([], [35, 36, 37])), (11, ([], [35, 38, 39, 40])), (12, ([], [41])), (13, ([0, 1, 2, 3, 4, 5, 6, 7, 8, 9, 10, 11, 12, 13, 14, 15, 16, 17, 18, 19, 20, 21, 22, 23, 24, 25, 26, 27, 28, 29, 30, 31, 32, 33, 34, 35, 36, 37, 38, 39, 40, 41, 42, 43, 44], [9, 10, 41, 42, 43, 44, 45, 46, 47, 48, 49, 50, 51, 52, 53, 65, 66, 78, 79])), (14, ([], [86, 87, 88, 89, 90])), (7, ([], [86, 28, 29])), (15, ([], [3, 4, 5, 6, 7, 8, 104, 101, 94, 100, 95, 97, 99, 98, 96, 91, 92, 93, 102, 103, 105]))]
def xc4 : XC :=
 (.seq
 (.reg 64 [
 o 1 (.box (.t 0)),
 o 2 (.mv (.c (.bool false)))] [0, 2])
 (.seq
 (.reg 128 [
 o 11 (.load (some 3) (.t 1)),
 o 12 (.call 9 [(.t 11)]),
 o 3 (.new (.cells [.nils, .nils]) 1 2),
 ⟨none, .store 2 (.t 3) (.t 12), none⟩] [1, 11, 12])
 (.seq
 (.reg 192 [
 o 14 (.load (some 2) (.t 3)),
 o 15 (.call 15 [(.t 14)]),
 o 13 (.mv (.t 15)),
 o 16 (.ext (.t 13) 0),
 o 17 (.ext (.t 13) 1),
 o 4 (.mv (.t 16)),
 o 5 (.mv (.t 17))] [14, 15, 13, 16, 17])
 (.seq
 (.reg 256 [
 o 18 (.fieldA 0 (.t 3)),
 o 19 (.load none (.t 18)),
 o 20 (.len (.t 19)),
 o 6 (.mv (.t 20))] [18, 19, 20])
 (.seq
 (.reg 320 [
 o 7 (.mv (.c .nils))] [])
 (.seq
 (.seq
 (.reg 384 [
 o 8 (.mv (ki 0))] [])
 (.block 0
 (.loop
 (.seq
 (.seq
 (.reg 448 [
 o 21 (.mv (.t 8)),
 o 22 (.mv (.t 6)),
 o 23 (.bin .lss (.t 21) (.t 22)),
 o 24 (.mv (.t 23)),
 oi 25 24 true (.mv (.t 6)),
 oi 26 24 true (.bin .gtr (.t 25) (ki 3)),
 o 27 (.pick (.t 24) (.t 26) (.c (.bool false)))] [21, 22, 23, 24])
 (.cond (.t 27)
 .skip
 (.exit 0)))
 (.seq
 (.block 1
 (.seq
 (.reg 576 [
 o 30 (.mv (.t 8)),
 o 31 (.bin .sub (.t 30) (ki 1)),
 o 32 (.mv (.t 8)),
 o 33 (.bin .add (.t 32) (ki 1)),
 o 9 (.mv (.t 31)),
 o 10 (.mv (.t 33))] [27, 30, 31, 32, 33])
 (.seq
 (.seq
 (.reg 640 [
 o 34 (.mv (.t 8)),
 o 35 (.bin .eql (.t 34) (ki 0))] [34])
 (.cond (.t 35)
 (.reg 704 [
 o 36 (.mv (.t 6)),
 o 37 (.bin .sub (.t 36) (ki 1)),
 o 9 (.mv (.t 37))] [35, 36, 37])
 .skip))
 (.seq
 (.seq
 (.reg 768 [
 o 38 (.mv (.t 8)),
 o 39 (.mv (.t 6)),
 o 40 (.bin .sub (.t 39) (ki 1)),
 o 41 (.bin .eql (.t 38) (.t 40))] [35, 38, 39, 40])
 (.cond (.t 41)
 (.reg 832 [
 o 10 (.mv (ki 0))] [41])
 .skip))
 (.seq
 (.draw 896 [
 o 42 (.fieldA 0 (.t 3)),
 o 43 (.load none (.t 42)),
 o 44 (.mv (.t 9)),
 o 45 (.idxA none 1 (.t 43) (.t 44)),
 o 46 (.load none (.t 45)),
 o 47 (.fieldA 0 (.t 3)),
 o 48 (.load none (.t 47)),
 o 49 (.mv (.t 8)),
 o 50 (.idxA none 1 (.t 48) (.t 49)),
 o 51 (.load none (.t 50)),
 o 52 (.bin .gtr (.t 46) (.t 51)),
 o 53 (.mv (.t 52)),
 oi 54 53 true (.fieldA 0 (.t 3)),
 oi 55 53 true (.load none (.t 54)),
 oi 56 53 true (.mv (.t 10)),
 oi 57 53 true (.idxA none 1 (.t 55) (.t 56)),
 oi 58 53 true (.load none (.t 57)),
 oi 59 53 true (.fieldA 0 (.t 3)),
 oi 60 53 true (.load none (.t 59)),
 oi 61 53 true (.mv (.t 8)),
 oi 62 53 true (.idxA none 1 (.t 60) (.t 61)),
 oi 63 53 true (.load none (.t 62)),
 oi 64 53 true (.bin .gtr (.t 58) (.t 63)),
 o 65 (.pick (.t 53) (.t 64) (.c (.bool false))),
 o 66 (.mv (.t 65)),
 oi 67 66 true (.fieldA 1 (.t 3)),
 oi 68 66 true (.load none (.t 67)),
 oi 69 66 true (.mv (.t 8)),
 oi 70 66 true (.idxA none 1 (.t 68) (.t 69)),
 oi 71 66 true (.load none (.t 70)),
 oi 72 66 true (.fieldA 1 (.t 3)),
 oi 73 66 true (.load none (.t 72)),
 oi 74 66 true (.mv (.t 10)),
 oi 75 66 true (.idxA none 1 (.t 73) (.t 74)),
 oi 76 66 true (.load none (.t 75)),
 oi 77 66 true (.bin .eql (.t 71) (.t 76)),
 o 78 (.pick (.t 66) (.t 77) (.c (.bool false))),
 o 79 (.mv (.t 78)),
 oi 80 79 true (.fieldA 1 (.t 3)),
 oi 81 79 true (.load none (.t 80)),
 oi 82 79 true (.mv (.t 8)),
 oi 83 79 true (.idxA none 1 (.t 81) (.t 82)),
 oi 84 79 true (.load none (.t 83)),
 oi 85 79 true (.bin .lss (.t 84) (ku 3)),
 o 86 (.pick (.t 79) (.t 85) (.c (.bool false)))]
 [[], [0], [], [1, 2], [3], [], [5], [], [6, 7], [8], [4, 9], [10], [11], [12, 11], [11], [13, 14, 11], [15, 11], [11], [17, 11], [11], [18, 19, 11], [20, 11], [16, 21, 11], [11, 22], [23, 11], [24], [25, 24], [24], [26, 27, 24], [28, 24], [24], [30, 24], [24], [31, 32, 24], [33, 24], [29, 34, 24], [24, 35], [36, 24], [37], [38, 37], [37], [39, 40, 37], [41, 37], [42, 37], [37, 43]]
 [0, 1, 2, 3, 4, 5, 6, 7, 8, 9, 10, 11, 12, 13, 14, 15, 16, 17, 18, 19, 20, 21, 22, 23, 24, 25, 26, 27, 28, 29, 30, 31, 32, 33, 34, 35, 36, 37, 38, 39, 40, 41, 42, 43, 44] [9, 10, 41, 42, 43, 44, 45, 46, 47, 48, 49, 50, 51, 52, 53, 65, 66, 78, 79])
 (.cond (.t 86)
 (.reg 960 [
 o 87 (.mv (.t 7)),
 o 88 (.mv (.t 8)),
 o 89 (.buildS 1 1 4 [(.int .i64 0)] [(0, 1, (.t 88))]),
 o 90 (.append 1 8 4 (.t 87) (.t 89)),
 o 7 (.mv (.t 90))] [86, 87, 88, 89, 90])
 .skip))))))
 (.reg 512 [
 o 28 (.mv (.t 8)),
 o 29 (.bin .add (.t 28) (ki 1)),
 o 8 (.mv (.t 29))] [86, 28, 29]))))))
 (.seq
 (.reg 1024 [
 o 91 (.mv (.t 5)),
 o 92 (.bin .eql (.t 91) (ki 0)),
 o 93 (.mv (.t 92)),
 oi 94 93 true (.mv (.t 4)),
 oi 95 93 true (.mv (.t 7)),
 oi 96 93 true (.mv (.t 7)),
 oi 97 93 true (.len (.t 96)),
 oi 98 93 true (.mv (.t 7)),
 oi 99 93 true (.len (.t 98)),
 oi 100 93 true (.slice 1 (.t 95) none (some (.t 97)) (some (.t 99))),
 oi 101 93 true (.call 13 [(.t 94), (.t 100)]),
 o 102 (.pick (.t 93) (.t 101) (.c (.bool false))),
 o 103 (.mv (.t 102)),
 oi 104 103 true (.call 14 []),
 o 105 (.pick (.t 103) (.t 104) (.c (.bool false))),
 o 2 (.mv (.t 105))] [3, 4, 5, 6, 7, 8, 104, 101, 94, 100, 95, 97, 99, 98, 96, 91, 92, 93, 102, 103, 105])
 .ret)))))))
def fe4 : FnE := ⟨106, [(2, none)], xc4⟩
theorem ok4 : FnOk Tryd.prog 4 fe4 := fnOk_of Tryd.func4 (by kernel_rfl : chkF Tryd.prog hs4 Tryd.f4 = some fe4)
/- 5 crimp/crimplaw13.BalancesSums -/
def hs5 : Hints := [(0, ([], [0, 2])), (1, ([], [1, 13, 14])), (2, ([], [16, 17, 15, 18, 19, 20])), (3, ([], [22, 23, 21, 24, 25])), (6, ([], [26, 27, 28, 29])), (8, ([], [30, 33, 34, 35, 36, 37, 38, 39])), (7, ([], [31, 32])), (9, ([], [11])), (10, ([], [40, 41, 42, 43])), (12, ([], [44, 47, 48, 49, 50, 51, 52, 53])), (11, ([], [45, 46])), (13, ([], [3, 4, 5, 6, 7, 8, 9, 10, 85, 82, 71, 81, 75, 80, 79, 78, 77, 76, 74, 72, 73, 68, 66, 67, 63, 61, 62, 58, 57, 12, 54, 55, 56, 59, 60, 64, 65, 69, 70, 83, 84, 86]))]
def xc5 : XC :=
 (.seq
 (.reg 64 [
 o 1 (.box (.t 0)),
 o 2 (.mv (.c (.bool false)))] [0, 2])
 (.seq
 (.reg 128 [
 o 13 (.load (some 3) (.t 1)),
 o 14 (.call 9 [(.t 13)]),
 o 3 (.new (.cells [.nils, .nils]) 1 2),
 ⟨none, .store 2 (.t 3) (.t 14), none⟩] [1, 13, 14])
 (.seq
 (.reg 192 [
 o 16 (.load (some 2) (.t 3)),
 o 17 (.call 16 [(.t 16)]),
 o 15 (.mv (.t 17)),
 o 18 (.ext (.t 15) 0),
 o 19 (.ext (.t 15) 1),
 o 20 (.ext (.t 15) 2),
 o 4 (.mv (.t 18)),
 o 5 (.mv (.t 19)),
 o 6 (.mv (.t 20))] [16, 17, 15, 18, 19, 20])
 (.seq
 (.reg 256 [
 o 22 (.load (some 2) (.t 3)),
 o 23 (.call 17 [(.t 22)]),
 o 21 (.mv (.t 23)),
 o 24 (.ext (.t 21) 0),
 o 25 (.ext (.t 21) 1),
 o 7 (.mv (.t 24)),
 o 8 (.mv (.t 25))] [22, 23, 21, 24, 25])
 (.seq
 (.reg 320 [
 o 9 (.mv (ki 0)),
 o 10 (.mv (ki 0))] [])
 (.seq
 (.seq
 (.reg 384 [
 o 11 (.mv (ki 0))] [])
 (.block 0
 (.loop
 (.seq
 (.seq
 (.reg 448 [
 o 26 (.mv (.t 11)),
 o 27 (.fieldA 0 (.t 3)),
 o 28 (.load none (.t 27)),
 o 29 (.len (.t 28)),
 o 30 (.bin .lss (.t 26) (.t 29))] [26, 27, 28, 29])
 (.cond (.t 30)
 .skip
 (.exit 0)))
 (.seq
 (.block 1
 (.reg 576 [
 o 33 (.mv (.t 9)),
 o 34 (.fieldA 0 (.t 3)),
 o 35 (.load none (.t 34)),
 o 36 (.mv (.t 11)),
 o 37 (.idxA none 1 (.t 35) (.t 36)),
 o 38 (.load none (.t 37)),
 o 39 (.bin .add (.t 33) (.t 38)),
 o 9 (.mv (.t 39))] [30, 33, 34, 35, 36, 37, 38, 39]))
 (.reg 512 [
 o 31 (.mv (.t 11)),
 o 32 (.bin .add (.t 31) (ki 2)),
 o 11 (.mv (.t 32))] [31, 32]))))))
 (.seq
 (.seq
 (.reg 640 [
 o 12 (.mv (ki 1))] [11])
 (.block 2
 (.loop
 (.seq
 (.seq
 (.reg 704 [
 o 40 (.mv (.t 12)),
 o 41 (.fieldA 0 (.t 3)),
 o 42 (.load none (.t 41)),
 o 43 (.len (.t 42)),
 o 44 (.bin .lss (.t 40) (.t 43))] [40, 41, 42, 43])
 (.cond (.t 44)
 .skip
 (.exit 2)))
 (.seq
 (.block 3
 (.reg 832 [
 o 47 (.mv (.t 10)),
 o 48 (.fieldA 0 (.t 3)),
 o 49 (.load none (.t 48)),
 o 50 (.mv (.t 12)),
 o 51 (.idxA none 1 (.t 49) (.t 50)),
 o 52 (.load none (.t 51)),
 o 53 (.bin .add (.t 47) (.t 52)),
 o 10 (.mv (.t 53))] [44, 47, 48, 49, 50, 51, 52, 53]))
 (.reg 768 [
 o 45 (.mv (.t 12)),
 o 46 (.bin .add (.t 45) (ki 2)),
 o 12 (.mv (.t 46))] [45, 46]))))))
 (.seq
 (.reg 896 [
 o 54 (.mv (.t 6)),
 o 55 (.bin .eql (.t 54) (ki 0)),
 o 56 (.mv (.t 55)),
 oi 57 56 true (.mv (.t 8)),
 oi 58 56 true (.bin .eql (.t 57) (ki 0)),
 o 59 (.pick (.t 56) (.t 58) (.c (.bool false))),
 o 60 (.mv (.t 59)),
 oi 61 60 true (.mv (.t 4)),
 oi 62 60 true (.mv (.t 9)),
 oi 63 60 true (.bin .eql (.t 61) (.t 62)),
 o 64 (.pick (.t 60) (.t 63) (.c (.bool false))),
 o 65 (.mv (.t 64)),
 oi 66 65 true (.mv (.t 5)),
 oi 67 65 true (.mv (.t 10)),
 oi 68 65 true (.bin .eql (.t 66) (.t 67)),
 o 69 (.pick (.t 65) (.t 68) (.c (.bool false))),
 o 70 (.mv (.t 69)),
 oi 71 70 true (.mv (.t 7)),
 oi 72 70 true (.mv (.t 9)),
 oi 73 70 true (.mv (.t 10)),
 oi 74 70 true (.bin .eql (.t 72) (.t 73)),
 oi 75 70 true (.mv (.t 74)),
 oi 76 75 true (.fieldA 0 (.t 3)),
 oi 77 75 true (.load none (.t 76)),
 oi 78 75 true (.len (.t 77)),
 oi 79 75 true (.bin .rem (.t 78) (ki 2)),
 oi 80 75 true (.bin .eql (.t 79) (ki 0)),
 oi 81 70 true (.pick (.t 75) (.t 80) (.c (.bool false))),
 oi 82 70 true (.eqb false (.t 71) (.t 81)),
 o 83 (.pick (.t 70) (.t 82) (.c (.bool false))),
 o 84 (.mv (.t 83)),
 oi 85 84 true (.call 14 []),
 o 86 (.pick (.t 84) (.t 85) (.c (.bool false))),
 o 2 (.mv (.t 86))] [3, 4, 5, 6, 7, 8, 9, 10, 85, 82, 71, 81, 75, 80, 79, 78, 77, 76, 74, 72, 73, 68, 66, 67, 63, 61, 62, 58, 57, 12, 54, 55, 56, 59, 60, 64, 65, 69, 70, 83, 84, 86])
 .ret))))))))
def fe5 : FnE := ⟨87, [(2, none)], xc5⟩
theorem ok5 : FnOk Tryd.prog 5 fe5 := fnOk_of Tryd.func5 (by kernel_rfl : chkF Tryd.prog hs5 Tryd.f5 = some fe5)
/- 6 crimp/crimplaw13.BalancesErrors -/
def hs6 : Hints := [(0, ([], [0, 2])), (1, ([], [18, 19, 20, 21, 22, 23, 24, 25, 26])), (2, ([], [1, 27, 28])), (3, ([], [2, 27, 29, 30])), (4, ([], [32, 33, 31, 34, 35, 36])), (5, ([], [38, 39, 37, 40, 41])), (6, ([], [43, 44, 42, 45, 46, 47])), (7, ([], [49, 50, 48, 51, 52])), (8, ([], [54, 55, 53, 56, 57])), (9, ([], [1, 59, 60, 58, 61, 62])), (10, ([], [6, 8, 11, 13, 15, 17, 63, 64, 65, 66, 67, 68, 69, 70, 71, 72, 73, 74, 75, 76, 77, 78, 79, 80, 81, 82, 83, 84, 85, 86, 87, 88, 89])), (11, ([], [3, 4, 5, 7, 9, 10, 12, 14, 16, 90])), (12, ([], [3, 4, 5, 7, 9, 10, 12, 14, 16, 90, 91, 92, 93, 94, 95, 96, 97, 98, 99, 100, 101, 102, 103, 104, 105, 106, 107, 108, 109, 110, 111, 112, 113, 114, 115, 116, 117, 118, 119, 120, 121, 122, 123, 124, 125, 126, 127]))]
def xc6 : XC :=
 (.seq
 (.reg 64 [
 o 1 (.box (.t 0)),
 o 2 (.mv (.c (.bool false)))] [0, 2])
 (.seq
 (.seq
 (.reg 128 [
 o 18 (.fieldA 0 (.t 1)),
 o 19 (.load none (.t 18)),
 o 20 (.len (.t 19)),
 o 21 (.bin .gtr (.t 20) (ki 12)),
 o 22 (.mv (.t 21)),
 oi 23 22 false (.fieldA 1 (.t 1)),
 oi 24 22 false (.load none (.t 23)),
 oi 25 22 false (.len (.t 24)),
 oi 26 22 false (.bin .gtr (.t 25) (ki 12)),
 o 27 (.pick (.t 22) (.c (.bool true)) (.t 26))] [18, 19, 20, 21, 22, 23, 24, 25, 26])
 (.cond (.t 27)
 (.seq
 (.reg 192 [
 o 28 (.call 14 []),
 o 2 (.mv (.t 28))] [1, 27, 28])
 .ret)
 .skip))
 (.seq
 (.reg 256 [
 o 29 (.load (some 2) (.t 1)),
 o 30 (.call 18 [(.t 29)]),
 o 3 (.mv (.t 30))] [2, 27, 29, 30])
 (.seq
 (.reg 320 [
 o 32 (.load (some 2) (.t 1)),
 o 33 (.call 16 [(.t 32)]),
 o 31 (.mv (.t 33)),
 o 34 (.ext (.t 31) 0),
 o 35 (.ext (.t 31) 1),
 o 36 (.ext (.t 31) 2),
 o 4 (.mv (.t 34)),
 o 5 (.mv (.t 35)),
 o 6 (.mv (.t 36))] [32, 33, 31, 34, 35, 36])
 (.seq
 (.reg 384 [
 o 38 (.load (some 2) (.t 1)),
 o 39 (.call 17 [(.t 38)]),
 o 37 (.mv (.t 39)),
 o 40 (.ext (.t 37) 0),
 o 41 (.ext (.t 37) 1),
 o 7 (.mv (.t 40)),
 o 8 (.mv (.t 41))] [38, 39, 37, 40, 41])
 (.seq
 (.reg 448 [
 o 43 (.load (some 2) (.t 1)),
 o 44 (.call 10 [(.t 43)]),
 o 42 (.mv (.t 44)),
 o 45 (.ext (.t 42) 0),
 o 46 (.ext (.t 42) 1),
 o 47 (.ext (.t 42) 2),
 o 9 (.mv (.t 45)),
 o 10 (.mv (.t 46)),
 o 11 (.mv (.t 47))] [43, 44, 42, 45, 46, 47])
 (.seq
 (.reg 512 [
 o 49 (.load (some 2) (.t 1)),
 o 50 (.call 15 [(.t 49)]),
 o 48 (.mv (.t 50)),
 o 51 (.ext (.t 48) 0),
 o 52 (.ext (.t 48) 1),
 o 12 (.mv (.t 51)),
 o 13 (.mv (.t 52))] [49, 50, 48, 51, 52])
 (.seq
 (.reg 576 [
 o 54 (.load (some 2) (.t 1)),
 o 55 (.call 19 [(.t 54)]),
 o 53 (.mv (.t 55)),
 o 56 (.ext (.t 53) 0),
 o 57 (.ext (.t 53) 1),
 o 14 (.mv (.t 56)),
 o 15 (.mv (.t 57))] [54, 55, 53, 56, 57])
 (.seq
 (.reg 640 [
 o 59 (.load (some 2) (.t 1)),
 o 60 (.call 11 [(.t 59)]),
 o 58 (.mv (.t 60)),
 o 61 (.ext (.t 58) 0),
 o 62 (.ext (.t 58) 1),
 o 16 (.mv (.t 61)),
 o 17 (.mv (.t 62))] [1, 59, 60, 58, 61, 62])
 (.seq
 (.seq
 (.reg 704 [
 o 63 (.mv (.t 6)),
 o 64 (.mv (.t 3)),
 o 65 (.bin .neq (.t 63) (.t 64)),
 o 66 (.mv (.t 65)),
 oi 67 66 false (.mv (.t 8)),
 oi 68 66 false (.mv (.t 3)),
 oi 69 66 false (.bin .neq (.t 67) (.t 68)),
 o 70 (.pick (.t 66) (.c (.bool true)) (.t 69)),
 o 71 (.mv (.t 70)),
 oi 72 71 false (.mv (.t 11)),
 oi 73 71 false (.mv (.t 3)),
 oi 74 71 false (.bin .neq (.t 72) (.t 73)),
 o 75 (.pick (.t 71) (.c (.bool true)) (.t 74)),
 o 76 (.mv (.t 75)),
 oi 77 76 false (.mv (.t 13)),
 oi 78 76 false (.mv (.t 3)),
 oi 79 76 false (.bin .neq (.t 77) (.t 78)),
 o 80 (.pick (.t 76) (.c (.bool true)) (.t 79)),
 o 81 (.mv (.t 80)),
 oi 82 81 false (.mv (.t 15)),
 oi 83 81 false (.mv (.t 3)),
 oi 84 81 false (.bin .neq (.t 82) (.t 83)),
 o 85 (.pick (.t 81) (.c (.bool true)) (.t 84)),
 o 86 (.mv (.t 85)),
 oi 87 86 false (.mv (.t 17)),
 oi 88 86 false (.mv (.t 3)),
 oi 89 86 false (.bin .neq (.t 87) (.t 88)),
 o 90 (.pick (.t 86) (.c (.bool true)) (.t 89))] [6, 8, 11, 13, 15, 17, 63, 64, 65, 66, 67, 68, 69, 70, 71, 72, 73, 74, 75, 76, 77, 78, 79, 80, 81, 82, 83, 84, 85, 86, 87, 88, 89])
 (.cond (.t 90)
 (.seq
 (.reg 768 [
 o 2 (.mv (.c (.bool false)))] [3, 4, 5, 7, 9, 10, 12, 14, 16, 90])
 .ret)
 .skip))
 (.seq
 (.reg 832 [
 o 91 (.mv (.t 3)),
 o 92 (.bin .eql (.t 91) (ki 0)),
 o 93 (.mv (.t 92)),
 oi 94 93 false (.mv (.t 4)),
 oi 95 93 false (.bin .eql (.t 94) (ki 0)),
 oi 96 93 false (.mv (.t 95)),
 oi 97 96 true (.mv (.t 5)),
 oi 98 96 true (.bin .eql (.t 97) (ki 0)),
 oi 99 93 false (.pick (.t 96) (.t 98) (.c (.bool false))),
 oi 100 93 false (.mv (.t 99)),
 oi 101 100 true (.mv (.t 7)),
 oi 102 100 true (.un .not (.t 101)),
 oi 103 93 false (.pick (.t 100) (.t 102) (.c (.bool false))),
 oi 104 93 false (.mv (.t 103)),
 oi 105 104 true (.mv (.t 9)),
 oi 106 104 true (.bin .eql (.t 105) (ki 0)),
 oi 107 93 false (.pick (.t 104) (.t 106) (.c (.bool false))),
 oi 108 93 false (.mv (.t 107)),
 oi 109 108 true (.mv (.t 10)),
 oi 110 108 true (.bin .eql (.t 109) (ki 0)),
 oi 111 93 false (.pick (.t 108) (.t 110) (.c (.bool false))),
 oi 112 93 false (.mv (.t 111)),
 oi 113 112 true (.mv (.t 12)),
 oi 114 112 true (.len (.t 113)),
 oi 115 112 true (.mv (.t 16)),
 oi 116 112 true (.len (.t 115)),
 oi 117 112 true (.bin .add (.t 114) (.t 116)),
 oi 118 112 true (.bin .eql (.t 117) (ki 0)),
 oi 119 93 false (.pick (.t 112) (.t 118) (.c (.bool false))),
 oi 120 93 false (.mv (.t 119)),
 oi 121 120 true (.mv (.t 14)),
 oi 122 120 true (.bin .eql (.t 121) (ku 0)),
 oi 123 93 false (.pick (.t 120) (.t 122) (.c (.bool false))),
 o 124 (.pick (.t 93) (.c (.bool true)) (.t 123)),
 o 125 (.mv (.t 124)),
 oi 126 125 true (.call 14 []),
 o 127 (.pick (.t 125) (.t 126) (.c (.bool false))),
 o 2 (.mv (.t 127))] [3, 4, 5, 7, 9, 10, 12, 14, 16, 90, 91, 92, 93, 94, 95, 96, 97, 98, 99, 100, 101, 102, 103, 104, 105, 106, 107, 108, 109, 110, 111, 112, 113, 114, 115, 116, 117, 118, 119, 120, 121, 122, 123, 124, 125, 126, 127])
 .ret)))))))))))
def fe6 : FnE := ⟨128, [(2, none)], xc6⟩
theorem ok6 : FnOk Tryd.prog 6 fe6 := fnOk_of Tryd.func6 (by kernel_rfl : chkF Tryd.prog hs6 Tryd.f6 = some fe6)
/- 7 crimp/crimplaw13.BalancesLacks -/
def hs7 : Hints := [(0, ([], [0, 4])), (1, ([], [2, 28, 29])), (2, ([], [30, 31, 32])), (3, ([], [34, 35, 33, 36, 37])), (4, ([], [39, 40, 38, 41, 42, 43])), (5, ([], [45, 46, 44, 47, 48, 49])), (6, ([], [51, 52, 50, 53, 54])), (7, ([], [8, 11, 14, 16, 55, 56, 57, 58, 59, 60, 61, 62, 63, 64, 65, 66, 67])), (8, ([], [1, 5, 6, 7, 9, 10, 12, 13, 15, 68])), (9, ([], [4, 68])), (10, ([], [15, 69, 70])), (11, ([], [71])), (12, ([], [71, 72, 73, 74, 75, 76, 77, 78, 79, 80, 81, 82, 83, 84, 85, 86, 87, 88, 89, 90, 91, 92, 93, 94, 95, 96, 97, 98, 99, 100])), (13, ([], [101])), (14, ([], [9, 10, 101, 102, 103])), (15, ([], [104])), (16, ([], [104, 105, 106])), (17, ([], [107])), (18, ([], [17, 107, 108, 109])), (19, ([], [1, 5, 6, 7, 12, 13, 110])), (20, ([], [4, 110, 111])), (21, ([], [112])), (22, ([0, 1, 2, 3, 4, 5, 6, 7, 8, 9, 10, 11], [1, 6, 113, 115, 116, 117, 118, 119, 120, 114, 121, 122])), (23, ([], [20, 123])), (24, ([], [5, 7, 12, 13, 18, 19, 124])), (25, ([], [4, 19, 124, 125])), (26, ([0, 1, 2, 3, 4, 5, 6], [5, 18, 1, 6, 113, 126, 127, 128, 129, 130, 131])), (28, ([], [132])), (30, ([], [133, 137, 138, 139, 140, 141, 136, 142, 143])), (31, ([], [145, 146, 147, 148, 149, 144, 150, 151, 152])), (32, ([], [153])), (33, ([], [154, 155, 156, 157, 158])), (34, ([], [23, 24, 25, 26, 27, 154, 159, 160, 161, 164, 165, 169, 170, 174, 175])), (35, ([], [22, 178, 176, 177, 13, 173, 171, 172, 12, 168, 166, 167, 7, 163, 162, 21, 179])), (29, ([], [4, 179, 134, 135])), (36, ([], [7, 12, 13, 21, 22, 180]))]
def xc7 : XC :=
 (.seq
 (.reg 64 [
 o 2 (.box (.t 0)),
 o 4 (.mv (.c (.bool false)))] [0, 4])
 (.seq
 (.reg 128 [
 o 28 (.load (some 3) (.t 2)),
 o 29 (.call 9 [(.t 28)]),
 o 5 (.new (.cells [.nils, .nils]) 1 2),
 ⟨none, .store 2 (.t 5) (.t 29), none⟩] [2, 28, 29])
 (.seq
 (.reg 192 [
 o 30 (.fieldA 0 (.t 5)),
 o 31 (.load none (.t 30)),
 o 32 (.len (.t 31)),
 o 6 (.mv (.t 32))] [30, 31, 32])
 (.seq
 (.reg 256 [
 o 34 (.load (some 2) (.t 5)),
 o 35 (.call 19 [(.t 34)]),
 o 33 (.mv (.t 35)),
 o 36 (.ext (.t 33) 0),
 o 37 (.ext (.t 33) 1),
 o 7 (.mv (.t 36)),
 o 8 (.mv (.t 37))] [34, 35, 33, 36, 37])
 (.seq
 (.reg 320 [
 o 39 (.load (some 2) (.t 5)),
 o 40 (.call 16 [(.t 39)]),
 o 38 (.mv (.t 40)),
 o 41 (.ext (.t 38) 0),
 o 42 (.ext (.t 38) 1),
 o 43 (.ext (.t 38) 2),
 o 9 (.mv (.t 41)),
 o 10 (.mv (.t 42)),
 o 11 (.mv (.t 43))] [39, 40, 38, 41, 42, 43])
 (.seq
 (.reg 384 [
 o 45 (.load (some 2) (.t 5)),
 o 46 (.call 10 [(.t 45)]),
 o 44 (.mv (.t 46)),
 o 47 (.ext (.t 44) 0),
 o 48 (.ext (.t 44) 1),
 o 49 (.ext (.t 44) 2),
 o 12 (.mv (.t 47)),
 o 13 (.mv (.t 48)),
 o 14 (.mv (.t 49))] [45, 46, 44, 47, 48, 49])
 (.seq
 (.reg 448 [
 o 51 (.load (some 2) (.t 5)),
 o 52 (.call 15 [(.t 51)]),
 o 50 (.mv (.t 52)),
 o 53 (.ext (.t 50) 0),
 o 54 (.ext (.t 50) 1),
 o 15 (.mv (.t 53)),
 o 16 (.mv (.t 54))] [51, 52, 50, 53, 54])
 (.seq
 (.seq
 (.reg 512 [
 o 55 (.mv (.t 8)),
 o 56 (.bin .neq (.t 55) (ki 0)),
 o 57 (.mv (.t 56)),
 oi 58 57 false (.mv (.t 11)),
 oi 59 57 false (.bin .neq (.t 58) (ki 0)),
 o 60 (.pick (.t 57) (.c (.bool true)) (.t 59)),
 o 61 (.mv (.t 60)),
 oi 62 61 false (.mv (.t 14)),
 oi 63 61 false (.bin .neq (.t 62) (ki 0)),
 o 64 (.pick (.t 61) (.c (.bool true)) (.t 63)),
 o 65 (.mv (.t 64)),
 oi 66 65 false (.mv (.t 16)),
 oi 67 65 false (.bin .neq (.t 66) (ki 0)),
 o 68 (.pick (.t 65) (.c (.bool true)) (.t 67))] [8, 11, 14, 16, 55, 56, 57, 58, 59, 60, 61, 62, 63, 64, 65, 66, 67])
 (.cond (.t 68)
 (.seq
 (.reg 576 [
 o 4 (.mv (.c (.bool false)))] [1, 5, 6, 7, 9, 10, 12, 13, 15, 68])
 .ret)
 .skip))
 (.seq
 (.reg 640 [
 o 17 (.mv (ku 0))] [4, 68])
 (.seq
 (.seq
 (.reg 704 [
 o 69 (.mv (.t 15)),
 o 70 (.len (.t 69)),
 o 71 (.bin .gtr (.t 70) (ki 0))] [15, 69, 70])
 (.cond (.t 71)
 (.reg 768 [
 o 17 (.mv (ku 4))] [71])
 .skip))
 (.seq
 (.seq
 (.reg 832 [
 o 72 (.mv (.t 6)),
 o 73 (.bin .gtr (.t 72) (ki 0)),
 o 74 (.mv (.t 73)),
 oi 75 74 true (.mv (.t 12)),
 oi 76 74 true (.bin .leq (.t 75) (ki 2)),
 oi 77 74 true (.mv (.t 76)),
 oi 78 77 true (.mv (.t 13)),
 oi 79 77 true (.bin .geq (.t 78) (ki 2)),
 oi 80 74 true (.pick (.t 77) (.t 79) (.c (.bool false))),
 oi 81 74 true (.mv (.t 80)),
 oi 82 81 true (.mv (.t 12)),
 oi 83 81 true (.bin .rem (.t 82) (ki 2)),
 oi 84 81 true (.bin .eql (.t 83) (ki 0)),
 oi 85 74 true (.pick (.t 81) (.t 84) (.c (.bool false))),
 oi 86 74 true (.un .not (.t 85)),
 o 87 (.pick (.t 74) (.t 86) (.c (.bool false))),
 o 88 (.mv (.t 87)),
 oi 89 88 true (.mv (.t 12)),
 oi 90 88 true (.bin .leq (.t 89) (ki (-2))),
 oi 91 88 true (.mv (.t 90)),
 oi 92 91 true (.mv (.t 13)),
 oi 93 91 true (.bin .geq (.t 92) (ki (-2))),
 oi 94 88 true (.pick (.t 91) (.t 93) (.c (.bool false))),
 oi 95 88 true (.mv (.t 94)),
 oi 96 95 true (.mv (.t 12)),
 oi 97 95 true (.bin .rem (.t 96) (ki 2)),
 oi 98 95 true (.bin .eql (.t 97) (ki 0)),
 oi 99 88 true (.pick (.t 95) (.t 98) (.c (.bool false))),
 oi 100 88 true (.un .not (.t 99)),
 o 101 (.pick (.t 88) (.t 100) (.c (.bool false)))] [71, 72, 73, 74, 75, 76, 77, 78, 79, 80, 81, 82, 83, 84, 85, 86, 87, 88, 89, 90, 91, 92, 93, 94, 95, 96, 97, 98, 99, 100])
 (.cond (.t 101)
 (.reg 896 [
 o 17 (.mv (ku 3))] [101])
 .skip))
 (.seq
 (.seq
 (.reg 960 [
 o 102 (.mv (.t 9)),
 o 103 (.mv (.t 10)),
 o 104 (.bin .neq (.t 102) (.t 103))] [9, 10, 101, 102, 103])
 (.cond (.t 104)
 (.reg 1024 [
 o 17 (.mv (ku 2))] [104])
 .skip))
 (.seq
 (.seq
 (.reg 1088 [
 o 105 (.mv (.t 6)),
 o 106 (.bin .rem (.t 105) (ki 2)),
 o 107 (.bin .eql (.t 106) (ki 1))] [104, 105, 106])
 (.cond (.t 107)
 (.reg 1152 [
 o 17 (.mv (ku 1))] [107])
 .skip))
 (.seq
 (.seq
 (.reg 1216 [
 o 108 (.mv (.t 7)),
 o 109 (.mv (.t 17)),
 o 110 (.bin .neq (.t 108) (.t 109))] [17, 107, 108, 109])
 (.cond (.t 110)
 (.seq
 (.reg 1280 [
 o 4 (.mv (.c (.bool false)))] [1, 5, 6, 7, 12, 13, 110])
 .ret)
 .skip))
 (.seq
 (.reg 1344 [
 o 111 (.load (some 2) (.t 5)),
 o 18 (.new (.cells [.nils, .nils]) 1 2),
 ⟨none, .store 2 (.t 18) (.t 111), none⟩] [4, 110, 111])
 (.seq
 (.seq
 (.reg 1408 [
 o 112 (.mv (.t 6)),
 o 113 (.bin .gtr (.t 112) (ki 0))] [112])
 (.cond (.t 113)
 (.seq
 (.draw 1472 [
 o 115 (.load (some 2) (.t 5)),
 o 116 (.mv (.t 1)),
 o 117 (.conv .i64 (.t 116)),
 o 118 (.mv (.t 6)),
 o 119 (.bin .rem (.t 117) (.t 118)),
 o 120 (.call 20 [(.t 115), (.t 119)]),
 o 114 (.mv (.t 120)),
 o 121 (.ext (.t 114) 0),
 o 122 (.ext (.t 114) 1),
 o 19 (.new (.cells [.nils, .nils]) 1 2),
 ⟨none, .store 2 (.t 19) (.t 121), none⟩,
 o 20 (.mv (.t 122))]
 [[], [], [1], [], [2, 3], [0, 4], [5], [6], [6], [], [9, 7, 5, 0, 1, 2, 3, 4, 5, 6, 7, 9], [8, 10, 0, 1, 2, 3, 4, 5, 6, 7, 8, 9, 10]]
 [0, 1, 2, 3, 4, 5, 6, 7, 8, 9, 10, 11] [1, 6, 113, 115, 116, 117, 118, 119, 120, 114, 121, 122])
 (.seq
 (.seq
 (.reg 1536 [
 o 123 (.mv (.t 20)),
 o 124 (.bin .neq (.t 123) (ki 0))] [20, 123])
 (.cond (.t 124)
 (.seq
 (.reg 1600 [
 o 4 (.mv (.c (.bool false)))] [5, 7, 12, 13, 18, 19, 124])
 .ret)
 .skip))
 (.reg 1664 [
 o 125 (.load (some 2) (.t 19)),
 ⟨none, .store 2 (.t 18) (.t 125), none⟩] [4, 19, 124, 125])))
 .skip))
 (.seq
 (.draw 1728 [
 o 126 (.load (some 2) (.t 18)),
 o 127 (.load (some 2) (.t 5)),
 o 128 (.call 21 [(.t 127)]),
 o 129 (.load (some 2) (.t 5)),
 o 130 (.call 22 [(.t 129)]),
 o 131 (.buildS 2 3 0 [.nils, .nils] [(0, 2, (.t 126)), (2, 2, (.t 128)), (4, 2, (.t 130))]),
 o 21 (.mv (.t 131))]
 [[], [], [1], [], [3, 2], [0, 2, 4], [5, 4, 0, 1, 2, 3, 4, 5]]
 [0, 1, 2, 3, 4, 5, 6] [5, 18, 1, 6, 113, 126, 127, 128, 129, 130, 131])
 (.seq
 (.seq
 (.reg 1792 [
 o 22 (.mv (ki 0))] [])
 (.block 0
 (.loop
 (.seq
 (.seq
 (.reg 1856 [
 o 132 (.mv (.t 22)),
 o 133 (.bin .lss (.t 132) (ki 3))] [132])
 (.cond (.t 133)
 .skip
 (.exit 0)))
 (.seq
 (.block 1
 (.seq
 (.reg 1984 [
 o 137 (.mv (.t 21)),
 o 138 (.mv (.t 22)),
 o 139 (.idxA none 2 (.t 137) (.t 138)),
 o 140 (.load (some 2) (.t 139)),
 o 141 (.call 19 [(.t 140)]),
 o 136 (.mv (.t 141)),
 o 142 (.ext (.t 136) 0),
 o 143 (.ext (.t 136) 1),
 o 23 (.mv (.t 142)),
 o 24 (.mv (.t 143))] [133, 137, 138, 139, 140, 141, 136, 142, 143])
 (.seq
 (.reg 2048 [
 o 145 (.mv (.t 21)),
 o 146 (.mv (.t 22)),
 o 147 (.idxA none 2 (.t 145) (.t 146)),
 o 148 (.load (some 2) (.t 147)),
 o 149 (.call 10 [(.t 148)]),
 o 144 (.mv (.t 149)),
 o 150 (.ext (.t 144) 0),
 o 151 (.ext (.t 144) 1),
 o 152 (.ext (.t 144) 2),
 o 25 (.mv (.t 150)),
 o 26 (.mv (.t 151)),
 o 27 (.mv (.t 152))] [145, 146, 147, 148, 149, 144, 150, 151, 152])
 (.seq
 (.seq
 (.reg 2112 [
 o 153 (.mv (.t 22)),
 o 154 (.bin .eql (.t 153) (ki 2))] [153])
 (.cond (.t 154)
 (.reg 2176 [
 o 155 (.mv (.t 26)),
 o 156 (.un .neg (.t 155)),
 o 157 (.mv (.t 25)),
 o 158 (.un .neg (.t 157)),
 o 25 (.mv (.t 156)),
 o 26 (.mv (.t 158))] [154, 155, 156, 157, 158])
 .skip))
 (.seq
 (.reg 2240 [
 o 159 (.mv (.t 24)),
 o 160 (.bin .neq (.t 159) (ki 0)),
 o 161 (.mv (.t 160)),
 oi 162 161 false (.mv (.t 27)),
 oi 163 161 false (.bin .neq (.t 162) (ki 0)),
 o 164 (.pick (.t 161) (.c (.bool true)) (.t 163)),
 o 165 (.mv (.t 164)),
 oi 166 165 false (.mv (.t 23)),
 oi 167 165 false (.mv (.t 7)),
 oi 168 165 false (.bin .neq (.t 166) (.t 167)),
 o 169 (.pick (.t 165) (.c (.bool true)) (.t 168)),
 o 170 (.mv (.t 169)),
 oi 171 170 false (.mv (.t 25)),
 oi 172 170 false (.mv (.t 12)),
 oi 173 170 false (.bin .neq (.t 171) (.t 172)),
 o 174 (.pick (.t 170) (.c (.bool true)) (.t 173)),
 o 175 (.mv (.t 174)),
 oi 176 175 false (.mv (.t 26)),
 oi 177 175 false (.mv (.t 13)),
 oi 178 175 false (.bin .neq (.t 176) (.t 177)),
 o 179 (.pick (.t 175) (.c (.bool true)) (.t 178))] [23, 24, 25, 26, 27, 154, 159, 160, 161, 164, 165, 169, 170, 174, 175])
 (.cond (.t 179)
 (.seq
 (.reg 2304 [
 o 4 (.mv (.c (.bool false)))] [22, 178, 176, 177, 13, 173, 171, 172, 12, 168, 166, 167, 7, 163, 162, 21, 179])
 .ret)
 .skip))))))
 (.reg 1920 [
 o 134 (.mv (.t 22)),
 o 135 (.bin .add (.t 134) (ki 1)),
 o 22 (.mv (.t 135))] [4, 179, 134, 135]))))))
 (.seq
 (.reg 2368 [
 o 180 (.call 14 []),
 o 4 (.mv (.t 180))] [7, 12, 13, 21, 22, 180])
 .ret)))))))))))))))))))
def fe7 : FnE := ⟨181, [(4, none)], xc7⟩
theorem ok7 : FnOk Tryd.prog 7 fe7 := fnOk_of Tryd.func7 (by kernel_rfl : chkF Tryd.prog hs7 Tryd.f7 = some fe7)
/- 8 crimp/crimplaw13.BalancesKnown -/
def hs8 : Hints := [(0, ([], [0])), (3, ([], [4])), (5, ([], [5, 8, 9, 10, 11, 12, 13, 14, 15, 16, 17, 18, 19, 20, 21, 22, 23, 24, 25, 26])), (6, ([], [3, 27, 28, 29, 30])), (7, ([], [2, 1, 50, 34, 49, 43, 48, 47, 44, 46, 45, 42, 38, 41, 40, 39, 37, 36, 35, 33, 32, 31, 51])), (8, ([], [0, 51, 52, 53, 54, 55])), (4, ([], [6, 7])), (9, ([], [1, 2, 56]))]
def xc8 : XC :=
 (.seq
 (.reg 64 [
 o 0 (.mv (.c (.bool false)))] [0])
 (.seq
 (.reg 128 [
 o 1 (.mv (ki 1))] [])
 (.seq
 (.seq
 (.reg 192 [
 o 2 (.mv (ki 0))] [])
 (.block 0
 (.loop
 (.seq
 (.seq
 (.reg 256 [
 o 4 (.mv (.t 2)),
 o 5 (.bin .lss (.t 4) (ki 256))] [4])
 (.cond (.t 5)
 .skip
 (.exit 0)))
 (.seq
 (.block 1
 (.seq
 (.reg 384 [
 o 8 (.mv (.t 2)),
 o 9 (.conv .u8 (.t 8)),
 o 10 (.mv (.t 1)),
 o 11 (.conv .u8 (.t 10)),
 o 12 (.mv (.t 1)),
 o 13 (.conv .u8 (.t 12)),
 o 14 (.mv (.t 1)),
 o 15 (.bin .quo (.t 14) (ki 3)),
 o 16 (.conv .u8 (.t 15)),
 o 17 (.mv (.t 1)),
 o 18 (.bin .quo (.t 17) (ki 7)),
 o 19 (.conv .u8 (.t 18)),
 o 20 (.mv (.t 1)),
 o 21 (.bin .quo (.t 20) (ki 11)),
 o 22 (.conv .u8 (.t 21)),
 o 23 (.mv (.t 2)),
 o 24 (.conv .u8 (.t 23)),
 o 25 (.buildS 1 5 5 [(.int .u8 0)] [(0, 1, (.t 13)), (1, 1, (.t 16)), (2, 1, (.t 19)), (3, 1, (.t 22)), (4, 1, (.t 24))]),
 o 26 (.build [(.int .u8 0), (.int .u8 0), .nils] [(0, 1, (.t 9)), (1, 1, (.t 11)), (2, 1, (.t 25))]),
 o 3 (.new (.cells [(.int .u8 0), (.int .u8 0), .nils]) 1 3),
 ⟨none, .store 3 (.t 3) (.t 26), none⟩] [5, 8, 9, 10, 11, 12, 13, 14, 15, 16, 17, 18, 19, 20, 21, 22, 23, 24, 25, 26])
 (.seq
 (.seq
 (.reg 448 [
 o 27 (.load (some 3) (.t 3)),
 o 28 (.call 5 [(.t 27)]),
 o 29 (.un .not (.t 28)),
 o 30 (.mv (.t 29)),
 oi 31 30 false (.mv (.t 2)),
 oi 32 30 false (.bin .rem (.t 31) (ki 4)),
 oi 33 30 false (.bin .eql (.t 32) (ki 0)),
 oi 34 30 false (.mv (.t 33)),
 oi 35 34 true (.load (some 3) (.t 3)),
 oi 36 34 true (.call 3 [(.t 35)]),
 oi 37 34 true (.un .not (.t 36)),
 oi 38 34 true (.mv (.t 37)),
 oi 39 38 false (.load (some 3) (.t 3)),
 oi 40 38 false (.call 4 [(.t 39)]),
 oi 41 38 false (.un .not (.t 40)),
 oi 42 34 true (.pick (.t 38) (.c (.bool true)) (.t 41)),
 oi 43 34 true (.mv (.t 42)),
 oi 44 43 false (.load (some 3) (.t 3)),
 oi 45 43 false (.mv (.t 1)),
 oi 46 43 false (.conv .u8 (.t 45)),
 oi 47 43 false (.call 7 [(.t 44), (.t 46)]),
 oi 48 43 false (.un .not (.t 47)),
 oi 49 34 true (.pick (.t 43) (.c (.bool true)) (.t 48)),
 oi 50 30 false (.pick (.t 34) (.t 49) (.c (.bool false))),
 o 51 (.pick (.t 30) (.c (.bool true)) (.t 50))] [3, 27, 28, 29, 30])
 (.cond (.t 51)
 (.seq
 (.reg 512 [
 o 0 (.mv (.c (.bool false)))] [2, 1, 50, 34, 49, 43, 48, 47, 44, 46, 45, 42, 38, 41, 40, 39, 37, 36, 35, 33, 32, 31, 51])
 .ret)
 .skip))
 (.reg 576 [
 o 52 (.mv (.t 1)),
 o 53 (.bin .mul (.t 52) (ki 31)),
 o 54 (.bin .add (.t 53) (ki 11)),
 o 55 (.bin .rem (.t 54) (ki 100003)),
 o 1 (.mv (.t 55))] [0, 51, 52, 53, 54, 55]))))
 (.reg 320 [
 o 6 (.mv (.t 2)),
 o 7 (.bin .add (.t 6) (ki 1)),
 o 2 (.mv (.t 7))] [6, 7]))))))
 (.seq
 (.reg 640 [
 o 56 (.call 14 []),
 o 0 (.mv (.t 56))] [1, 2, 56])
 .ret))))
def fe8 : FnE := ⟨57, [(0, none)], xc8⟩
theorem ok8 : FnOk Tryd.prog 8 fe8 := fnOk_of Tryd.func8 (by kernel_rfl : chkF Tryd.prog hs8 Tryd.f8 = some fe8)
/- 9 (crimp/crimplaw12.F).Of -/
def hs9 : Hints := [(0, ([], [0])), (5, ([], [9])), (7, ([], [10, 13, 14, 15, 16, 17])), (8, ([], [18, 19])), (9, ([], [4, 20, 21, 22, 23, 24, 25, 26, 27, 28])), (10, ([], [4, 20, 29])), (11, ([], [30])), (13, ([], [31, 32, 33, 34, 35, 36])), (14, ([], [37, 38, 39, 40, 41, 42, 43, 44, 45, 46])), (15, ([], [7, 37, 47, 48, 49, 50, 51, 52])), (6, ([], [11, 12])), (16, ([], [6, 53])), (17, ([], [4, 5, 54, 55, 56, 57, 58, 59, 60, 61, 62, 63])), (18, ([], [4, 5, 54])), (19, ([], [64, 65, 66, 67])), (21, ([], [68, 71, 72, 73, 74, 75, 76, 77])), (22, ([], [84, 85, 86, 87, 88, 89, 90, 91])), (20, ([], [84, 69, 70])), (23, ([], [1, 3, 83, 82, 81, 79, 80, 78, 8, 92]))]
def xc9 : XC :=
 (.seq
 (.reg 64 [
 o 1 (.box (.t 0)),
 o 2 (.new (.cells [.nils, .nils]) 1 2)] [0])
 (.seq
 (.reg 128 [
 o 3 (.new (.cells [.nils, .nils]) 1 2)] [])
 (.seq
 (.reg 192 [
 o 4 (.mv (ki (-1)))] [])
 (.seq
 (.reg 256 [
 o 5 (.mv (ki (-1)))] [])
 (.seq
 (.seq
 (.reg 320 [
 o 6 (.mv (ki 0))] [])
 (.block 0
 (.loop
 (.seq
 (.seq
 (.reg 384 [
 o 9 (.mv (.t 6)),
 o 10 (.bin .lss (.t 9) (ki 8))] [9])
 (.cond (.t 10)
 .skip
 (.exit 0)))
 (.seq
 (.block 1
 (.seq
 (.seq
 (.reg 512 [
 o 13 (.fieldA 0 (.t 1)),
 o 14 (.load none (.t 13)),
 o 15 (.mv (.t 6)),
 o 16 (.bin .shr (.t 14) (.t 15)),
 o 17 (.bin .rem (.t 16) (ku 2)),
 o 18 (.bin .eql (.t 17) (ku 0))] [10, 13, 14, 15, 16, 17])
 (.cond (.t 18)
 (.exit 1)
 .skip))
 (.seq
 (.seq
 (.reg 576 [
 o 19 (.mv (.t 4)),
 o 20 (.bin .geq (.t 19) (ki 0))] [18, 19])
 (.cond (.t 20)
 (.reg 640 [
 o 21 (.fieldA 0 (.t 3)),
 o 22 (.load none (.t 21)),
 o 23 (.mv (.t 6)),
 o 24 (.mv (.t 4)),
 o 25 (.bin .sub (.t 23) (.t 24)),
 o 26 (.buildS 1 1 4 [(.int .i64 0)] [(0, 1, (.t 25))]),
 o 27 (.append 1 8 4 (.t 22) (.t 26)),
 o 28 (.fieldA 0 (.t 3)),
 ⟨none, .store 1 (.t 28) (.t 27), none⟩] [4, 20, 21, 22, 23, 24, 25, 26, 27, 28])
 (.reg 704 [
 o 29 (.mv (.t 6)),
 o 5 (.mv (.t 29))] [4, 20, 29])))
 (.seq
 (.reg 768 [
 o 30 (.mv (.t 6)),
 o 4 (.mv (.t 30))] [30])
 (.seq
 (.reg 832 [
 o 7 (.mv (ku 1))] [])
 (.seq
 (.seq
 (.reg 896 [
 o 31 (.fieldA 1 (.t 3)),
 o 32 (.load none (.t 31)),
 o 33 (.len (.t 32)),
 o 34 (.fieldA 2 (.t 1)),
 o 35 (.load none (.t 34)),
 o 36 (.len (.t 35)),
 o 37 (.bin .lss (.t 33) (.t 36))] [31, 32, 33, 34, 35, 36])
 (.cond (.t 37)
 (.reg 960 [
 o 38 (.fieldA 2 (.t 1)),
 o 39 (.load none (.t 38)),
 o 40 (.fieldA 1 (.t 3)),
 o 41 (.load none (.t 40)),
 o 42 (.len (.t 41)),
 o 43 (.idxA none 1 (.t 39) (.t 42)),
 o 44 (.load none (.t 43)),
 o 45 (.bin .rem (.t 44) (ku 3)),
 o 46 (.bin .add (ku 1) (.t 45)),
 o 7 (.mv (.t 46))] [37, 38, 39, 40, 41, 42, 43, 44, 45, 46])
 .skip))
 (.reg 1024 [
 o 47 (.fieldA 1 (.t 3)),
 o 48 (.load none (.t 47)),
 o 49 (.mv (.t 7)),
 o 50 (.buildS 1 1 5 [(.int .u8 0)] [(0, 1, (.t 49))]),
 o 51 (.append 1 1 5 (.t 48) (.t 50)),
 o 52 (.fieldA 1 (.t 3)),
 ⟨none, .store 1 (.t 52) (.t 51), none⟩] [7, 37, 47, 48, 49, 50, 51, 52])))))))
 (.reg 448 [
 o 11 (.mv (.t 6)),
 o 12 (.bin .add (.t 11) (ki 1)),
 o 6 (.mv (.t 12))] [11, 12]))))))
 (.seq
 (.seq
 (.reg 1088 [
 o 53 (.mv (.t 5)),
 o 54 (.bin .geq (.t 53) (ki 0))] [6, 53])
 (.cond (.t 54)
 (.reg 1152 [
 o 55 (.fieldA 0 (.t 3)),
 o 56 (.load none (.t 55)),
 o 57 (.mv (.t 5)),
 o 58 (.bin .add (.t 57) (ki 8)),
 o 59 (.mv (.t 4)),
 o 60 (.bin .sub (.t 58) (.t 59)),
 o 61 (.buildS 1 1 4 [(.int .i64 0)] [(0, 1, (.t 60))]),
 o 62 (.append 1 8 4 (.t 56) (.t 61)),
 o 63 (.fieldA 0 (.t 3)),
 ⟨none, .store 1 (.t 63) (.t 62), none⟩] [4, 5, 54, 55, 56, 57, 58, 59, 60, 61, 62, 63])
 .skip))
 (.seq
 (.seq
 (.reg 1216 [
 o 8 (.mv (ki 0))] [4, 5, 54])
 (.block 2
 (.loop
 (.seq
 (.seq
 (.reg 1280 [
 o 64 (.mv (.t 8)),
 o 65 (.fieldA 0 (.t 3)),
 o 66 (.load none (.t 65)),
 o 67 (.len (.t 66)),
 o 68 (.bin .lss (.t 64) (.t 67))] [64, 65, 66, 67])
 (.cond (.t 68)
 .skip
 (.exit 2)))
 (.seq
 (.block 3
 (.seq
 (.reg 1408 [
 o 71 (.fieldA 1 (.t 1)),
 o 72 (.load none (.t 71)),
 o 73 (.mv (.t 8)),
 o 74 (.bin .shr (.t 72) (.t 73)),
 o 75 (.bin .rem (.t 74) (ku 2)),
 o 76 (.bin .eql (.t 75) (ku 1)),
 o 77 (.mv (.t 76)),
 oi 78 77 true (.fieldA 0 (.t 3)),
 oi 79 77 true (.load none (.t 78)),
 oi 80 77 true (.mv (.t 8)),
 oi 81 77 true (.idxA none 1 (.t 79) (.t 80)),
 oi 82 77 true (.load none (.t 81)),
 oi 83 77 true (.bin .gtr (.t 82) (ki 1)),
 o 84 (.pick (.t 77) (.t 83) (.c (.bool false)))] [68, 71, 72, 73, 74, 75, 76, 77])
 (.cond (.t 84)
 (.reg 1472 [
 o 85 (.fieldA 0 (.t 3)),
 o 86 (.load none (.t 85)),
 o 87 (.mv (.t 8)),
 o 88 (.idxA none 1 (.t 86) (.t 87)),
 o 89 (.load none (.t 88)),
 o 90 (.bin .sub (.t 89) (ki 1)),
 o 91 (.idxA none 1 (.t 86) (.t 87)),
 ⟨none, .store 1 (.t 91) (.t 90), none⟩] [84, 85, 86, 87, 88, 89, 90, 91])
 .skip)))
 (.reg 1344 [
 o 69 (.mv (.t 8)),
 o 70 (.bin .add (.t 69) (ki 1)),
 o 8 (.mv (.t 70))] [84, 69, 70]))))))
 (.seq
 (.reg 1536 [
 o 92 (.load (some 2) (.t 3)),
 ⟨none, .store 2 (.t 2) (.t 92), none⟩] [1, 3, 83, 82, 81, 79, 80, 78, 8, 92])
 .ret))))))))
def fe9 : FnE := ⟨93, [(2, some (some 2))], xc9⟩
theorem ok9 : FnOk Tryd.prog 9 fe9 := fnOk_of Tryd.func9 (by kernel_rfl : chkF Tryd.prog hs9 Tryd.f9 = some fe9)
/- 10 crimp/balances.Range -/
def hs10 : Hints := [(0, ([], [0, 2, 3, 4])), (1, ([], [8, 9])), (2, ([], [10])), (3, ([], [1, 5, 11, 12])), (4, ([0, 1, 2, 3, 4, 5, 6, 7, 8], [2, 3, 4, 1, 5, 11, 13, 14, 15, 16, 17, 18, 19])), (5, ([], [6, 7, 20, 21, 22, 23, 24, 25]))]
def xc10 : XC :=
 (.seq
 (.reg 64 [
 o 1 (.box (.t 0)),
 o 2 (.mv (ki 0)),
 o 3 (.mv (ki 0)),
 o 4 (.mv (ki 0))] [0, 2, 3, 4])
 (.seq
 (.seq
 (.reg 128 [
 o 8 (.load (some 2) (.t 1)),
 o 9 (.call 18 [(.t 8)]),
 o 5 (.mv (.t 9))] [8, 9])
 (.seq
 (.reg 192 [
 o 10 (.mv (.t 5)),
 o 11 (.bin .neq (.t 10) (ki 0))] [10])
 (.cond (.t 11)
 (.seq
 (.reg 256 [
 o 12 (.mv (.t 5)),
 o 2 (.mv (ki 0)),
 o 3 (.mv (ki 0)),
 o 4 (.mv (.t 12))] [1, 5, 11, 12])
 .ret)
 .skip)))
 (.seq
 (.draw 320 [
 o 13 (.load (some 2) (.t 1)),
 o 14 (.call 23 [(.t 13), (ku 1)]),
 o 15 (.load (some 2) (.t 1)),
 o 16 (.call 23 [(.t 15), (ku 2)]),
 o 17 (.bin .sub (.t 14) (.t 16)),
 o 18 (.load (some 2) (.t 1)),
 o 19 (.call 23 [(.t 18), (ku 3)]),
 o 6 (.mv (.t 17)),
 o 7 (.mv (.t 19))]
 [[], [0], [], [2, 1], [1, 3], [], [5, 3], [4, 6, 0, 1, 2, 3, 4], [6, 7, 0, 1, 2, 3, 4, 5, 6, 7]]
 [0, 1, 2, 3, 4, 5, 6, 7, 8] [2, 3, 4, 1, 5, 11, 13, 14, 15, 16, 17, 18, 19])
 (.seq
 (.reg 384 [
 o 20 (.mv (.t 6)),
 o 21 (.mv (.t 7)),
 o 22 (.bin .sub (.t 20) (.t 21)),
 o 23 (.mv (.t 6)),
 o 24 (.mv (.t 7)),
 o 25 (.bin .add (.t 23) (.t 24)),
 o 2 (.mv (.t 22)),
 o 3 (.mv (.t 25)),
 o 4 (.mv (ki 0))] [6, 7, 20, 21, 22, 23, 24, 25])
 .ret))))
def fe10 : FnE := ⟨26, [(2, none), (3, none), (4, none)], xc10⟩
theorem ok10 : FnOk Tryd.prog 10 fe10 := fnOk_of Tryd.func10 (by kernel_rfl : chkF Tryd.prog hs10 Tryd.f10 = some fe10)
/- 11 crimp/balances.Choices -/
def hs11 : Hints := [(0, ([], [0, 2, 3])), (1, ([], [5, 6])), (2, ([], [7])), (3, ([], [1, 4, 8, 9])), (4, ([], [1, 4, 8, 10, 11]))]
def xc11 : XC :=
 (.seq
 (.reg 64 [
 o 1 (.box (.t 0)),
 o 2 (.mv (.c .nils)),
 o 3 (.mv (ki 0))] [0, 2, 3])
 (.seq
 (.seq
 (.reg 128 [
 o 5 (.load (some 2) (.t 1)),
 o 6 (.call 18 [(.t 5)]),
 o 4 (.mv (.t 6))] [5, 6])
 (.seq
 (.reg 192 [
 o 7 (.mv (.t 4)),
 o 8 (.bin .neq (.t 7) (ki 0))] [7])
 (.cond (.t 8)
 (.seq
 (.reg 256 [
 o 9 (.mv (.t 4)),
 o 2 (.mv (.c .nils)),
 o 3 (.mv (.t 9))] [1, 4, 8, 9])
 .ret)
 .skip)))
 (.seq
 (.reg 320 [
 o 10 (.load (some 2) (.t 1)),
 o 11 (.call 24 [(.t 10)]),
 o 2 (.mv (.t 11)),
 o 3 (.mv (ki 0))] [1, 4, 8, 10, 11])
 .ret)))
def fe11 : FnE := ⟨12, [(2, none), (3, none)], xc11⟩
theorem ok11 : FnOk Tryd.prog 11 fe11 := fnOk_of Tryd.func11 (by kernel_rfl : chkF Tryd.prog hs11 Tryd.f11 = some fe11)
/- 12 crimp/crimplaw13.decided -/
def hs12 : Hints := [(0, ([], [0, 2])), (1, ([], [8, 9])), (3, ([], [10, 11, 12, 13])), (5, ([], [14])), (7, ([], [17, 18, 19])), (9, ([], [20])), (10, ([], [23])), (12, ([], [24, 27, 28, 29, 30, 31, 32, 33])), (13, ([0, 1, 2, 3, 4, 5, 6, 7, 8, 9, 10, 11, 12, 13, 14, 15, 16, 17, 18, 19, 20, 21, 22, 23, 24, 25, 26, 27, 28], [41, 42, 43, 44, 45, 46, 47, 48, 49, 50, 51, 52, 53, 54, 55, 56, 57, 58, 59, 60, 61, 62, 63, 64, 65, 66, 67, 68, 69])), (11, ([], [41, 25, 26])), (8, ([], [7, 21, 22])), (14, ([], [5, 6, 70])), (4, ([], [15, 16])), (15, ([], [1, 3, 4, 71]))]
def xc12 : XC :=
 (.seq
 (.reg 64 [
 o 1 (.box (.t 0)),
 o 2 (.mv (.c .nils))] [0, 2])
 (.seq
 (.reg 128 [
 o 8 (.build [.nils, .nils] []),
 o 9 (.buildS 2 1 0 [.nils, .nils] [(0, 2, (.t 8))]),
 o 3 (.mv (.t 9))] [8, 9])
 (.seq
 (.seq
 (.reg 192 [
 o 4 (.mv (ki 0))] [])
 (.block 0
 (.loop
 (.seq
 (.seq
 (.reg 256 [
 o 10 (.mv (.t 4)),
 o 11 (.fieldA 0 (.t 1)),
 o 12 (.load none (.t 11)),
 o 13 (.len (.t 12)),
 o 14 (.bin .lss (.t 10) (.t 13))] [10, 11, 12, 13])
 (.cond (.t 14)
 .skip
 (.exit 0)))
 (.seq
 (.block 1
 (.seq
 (.reg 384 [
 o 5 (.mv (.c .nils))] [14])
 (.seq
 (.seq
 (.reg 448 [
 o 6 (.mv (ki 0))] [])
 (.block 2
 (.loop
 (.seq
 (.seq
 (.reg 512 [
 o 17 (.mv (.t 6)),
 o 18 (.mv (.t 3)),
 o 19 (.len (.t 18)),
 o 20 (.bin .lss (.t 17) (.t 19))] [17, 18, 19])
 (.cond (.t 20)
 .skip
 (.exit 2)))
 (.seq
 (.block 3
 (.seq
 (.reg 640 [
 o 7 (.mv (ku 1))] [20])
 (.block 4
 (.loop
 (.seq
 (.seq
 (.reg 704 [
 o 23 (.mv (.t 7)),
 o 24 (.bin .leq (.t 23) (ku 2))] [23])
 (.cond (.t 24)
 .skip
 (.exit 4)))
 (.seq
 (.block 5
 (.seq
 (.reg 832 [
 o 27 (.fieldA 1 (.t 1)),
 o 28 (.load none (.t 27)),
 o 29 (.mv (.t 4)),
 o 30 (.idxA none 1 (.t 28) (.t 29)),
 o 31 (.load none (.t 30)),
 o 32 (.bin .eql (.t 31) (ku 3)),
 o 33 (.mv (.t 32)),
 oi 34 33 false (.fieldA 1 (.t 1)),
 oi 35 33 false (.load none (.t 34)),
 oi 36 33 false (.mv (.t 4)),
 oi 37 33 false (.idxA none 1 (.t 35) (.t 36)),
 oi 38 33 false (.load none (.t 37)),
 oi 39 33 false (.mv (.t 7)),
 oi 40 33 false (.bin .eql (.t 38) (.t 39)),
 o 41 (.pick (.t 33) (.c (.bool true)) (.t 40))] [24, 27, 28, 29, 30, 31, 32, 33])
 (.cond (.t 41)
 (.draw 896 [
 o 42 (.mv (.t 5)),
 o 43 (.buildS 1 0 4 [(.int .i64 0)] []),
 o 44 (.mv (.t 3)),
 o 45 (.mv (.t 6)),
 o 46 (.idxA none 2 (.t 44) (.t 45)),
 o 47 (.fieldA 0 (.t 46)),
 o 48 (.load none (.t 47)),
 o 49 (.append 1 8 4 (.t 43) (.t 48)),
 o 50 (.fieldA 0 (.t 1)),
 o 51 (.load none (.t 50)),
 o 52 (.mv (.t 4)),
 o 53 (.idxA none 1 (.t 51) (.t 52)),
 o 54 (.load none (.t 53)),
 o 55 (.buildS 1 1 4 [(.int .i64 0)] [(0, 1, (.t 54))]),
 o 56 (.append 1 8 4 (.t 49) (.t 55)),
 o 57 (.buildS 1 0 5 [(.int .u8 0)] []),
 o 58 (.mv (.t 3)),
 o 59 (.mv (.t 6)),
 o 60 (.idxA none 2 (.t 58) (.t 59)),
 o 61 (.fieldA 1 (.t 60)),
 o 62 (.load none (.t 61)),
 o 63 (.append 1 1 5 (.t 57) (.t 62)),
 o 64 (.mv (.t 7)),
 o 65 (.buildS 1 1 5 [(.int .u8 0)] [(0, 1, (.t 64))]),
 o 66 (.append 1 1 5 (.t 63) (.t 65)),
 o 67 (.build [.nils, .nils] [(0, 1, (.t 56)), (1, 1, (.t 66))]),
 o 68 (.buildS 2 1 0 [.nils, .nils] [(0, 2, (.t 67))]),
 o 69 (.append 2 48 0 (.t 42) (.t 68)),
 o 5 (.mv (.t 69))]
 [[], [], [], [], [2, 3], [4], [5], [1, 6], [], [8], [], [9, 10], [11], [12], [7, 13, 7], [], [], [], [16, 17], [18], [19], [15, 20, 14], [], [22], [21, 23, 21], [14, 24], [25], [0, 26, 24], [27, 27, 0, 1, 2, 3, 4, 5, 6, 7, 8, 9, 10, 11, 12, 13, 14, 15, 16, 17, 18, 19, 20, 21, 22, 23, 24, 25, 26, 27]]
 [0, 1, 2, 3, 4, 5, 6, 7, 8, 9, 10, 11, 12, 13, 14, 15, 16, 17, 18, 19, 20, 21, 22, 23, 24, 25, 26, 27, 28] [41, 42, 43, 44, 45, 46, 47, 48, 49, 50, 51, 52, 53, 54, 55, 56, 57, 58, 59, 60, 61, 62, 63, 64, 65, 66, 67, 68, 69])
 .skip)))
 (.reg 768 [
 o 25 (.mv (.t 7)),
 o 26 (.bin .add (.t 25) (ku 1)),
 o 7 (.mv (.t 26))] [41, 25, 26])))))))
 (.reg 576 [
 o 21 (.mv (.t 6)),
 o 22 (.bin .add (.t 21) (ki 1)),
 o 6 (.mv (.t 22))] [7, 21, 22]))))))
 (.reg 960 [
 o 70 (.mv (.t 5)),
 o 3 (.mv (.t 70))] [5, 6, 70]))))
 (.reg 320 [
 o 15 (.mv (.t 4)),
 o 16 (.bin .add (.t 15) (ki 1)),
 o 4 (.mv (.t 16))] [15, 16]))))))
 (.seq
 (.reg 1024 [
 o 71 (.mv (.t 3)),
 o 2 (.mv (.t 71))] [1, 3, 4, 71])
 .ret))))
def fe12 : FnE := ⟨72, [(2, none)], xc12⟩
theorem ok12 : FnOk Tryd.prog 12 fe12 := fnOk_of Tryd.func12 (by kernel_rfl : chkF Tryd.prog hs12 Tryd.f12 = some fe12)
/- 13 crimp/crimplaw13.list -/
def hs13 : Hints := [(0, ([], [4])), (1, ([], [6, 7, 8, 9, 10, 11, 12, 13, 14, 15, 16])), (2, ([], [0, 1, 17])), (3, ([], [4, 17])), (4, ([], [18, 19, 20])), (6, ([0, 1, 2, 3, 4, 5, 6, 7, 8], [21, 24, 25, 26, 27, 28, 29, 30, 31])), (7, ([], [5, 1, 0, 32])), (5, ([], [4, 32, 22, 23])), (8, ([], [0, 1, 5]))]
def xc13 : XC :=
 (.seq
 (.reg 64 [
 o 4 (.mv (.c (.bool false)))] [4])
 (.seq
 (.seq
 (.reg 128 [
 o 6 (.mv (.t 0)),
 o 7 (.len (.t 6)),
 o 8 (.mv (.t 1)),
 o 9 (.len (.t 8)),
 o 10 (.bin .neq (.t 7) (.t 9)),
 o 11 (.mv (.t 10)),
 oi 12 11 false (.mv (.t 0)),
 oi 13 11 false (.cap (.t 12)),
 oi 14 11 false (.mv (.t 0)),
 oi 15 11 false (.len (.t 14)),
 oi 16 11 false (.bin .neq (.t 13) (.t 15)),
 o 17 (.pick (.t 11) (.c (.bool true)) (.t 16))] [6, 7, 8, 9, 10, 11, 12, 13, 14, 15, 16])
 (.cond (.t 17)
 (.seq
 (.reg 192 [
 o 4 (.mv (.c (.bool false)))] [0, 1, 17])
 .ret)
 .skip))
 (.seq
 (.seq
 (.reg 256 [
 o 5 (.mv (ki 0))] [4, 17])
 (.block 0
 (.loop
 (.seq
 (.seq
 (.reg 320 [
 o 18 (.mv (.t 5)),
 o 19 (.mv (.t 0)),
 o 20 (.len (.t 19)),
 o 21 (.bin .lss (.t 18) (.t 20))] [18, 19, 20])
 (.cond (.t 21)
 .skip
 (.exit 0)))
 (.seq
 (.block 1
 (.seq
 (.draw 448 [
 o 24 (.mv (.t 0)),
 o 25 (.mv (.t 5)),
 o 26 (.idxA none 1 (.t 24) (.t 25)),
 o 27 (.load none (.t 26)),
 o 28 (.mv (.t 1)),
 o 29 (.mv (.t 5)),
 o 30 (.idxA none 1 (.t 28) (.t 29)),
 o 31 (.load none (.t 30)),
 o 32 (.bin .neq (.t 27) (.t 31))]
 [[], [], [0, 1], [2], [], [], [4, 5], [6], [3, 7]]
 [0, 1, 2, 3, 4, 5, 6, 7, 8] [21, 24, 25, 26, 27, 28, 29, 30, 31])
 (.cond (.t 32)
 (.seq
 (.reg 512 [
 o 4 (.mv (.c (.bool false)))] [5, 1, 0, 32])
 .ret)
 .skip)))
 (.reg 384 [
 o 22 (.mv (.t 5)),
 o 23 (.bin .add (.t 22) (ki 1)),
 o 5 (.mv (.t 23))] [4, 32, 22, 23]))))))
 (.seq
 (.reg 576 [
 o 4 (.mv (.c (.bool true)))] [0, 1, 5])
 .ret))))
def fe13 : FnE := ⟨33, [(4, none)], xc13⟩
theorem ok13 : FnOk Tryd.prog 13 fe13 := fnOk_of Tryd.func13 (by kernel_rfl : chkF Tryd.prog hs13 Tryd.f13 = some fe13)
/- 14 crimp/crimplaw13.lives -/
def hs14 : Hints := [(0, ([], [0])), (1, ([], [18])), (2, ([], [19, 20, 21, 22, 23, 24, 25, 26])), (3, ([], [27])), (5, ([], [28, 29, 30])), (7, ([], [31, 34, 35, 36, 37, 38])), (8, ([], [40, 41, 39, 42, 43, 44])), (9, ([], [46, 47, 45, 48, 49, 50])), (10, ([], [5, 52, 53, 51, 54, 55])), (11, ([], [6, 7, 8, 9, 10, 11, 12, 13, 56, 57, 58, 61, 62, 65, 66, 77, 78])), (12, ([], [4, 84, 79, 83, 82, 80, 81, 3, 76, 70, 75, 71, 72, 73, 74, 69, 67, 68, 2, 64, 63, 60, 59, 1, 110, 108, 109, 105, 103, 104, 100, 99, 85])), (6, ([], [0, 85, 32, 33])), (13, ([], [1, 2, 3, 4, 87, 88, 86, 89, 90])), (14, ([], [92, 93, 91, 94, 95])), (15, ([], [110, 108, 109, 105, 103, 104, 100, 99, 14, 15, 16, 17, 96, 97, 98, 101, 102, 106, 107, 111]))]
def xc14 : XC :=
 (.seq
 (.reg 64 [
 o 0 (.mv (.c (.bool false)))] [0])
 (.seq
 (.reg 128 [
 o 18 (.buildS 1 7 10 [(.str [])] [(0, 1, (.c (.str [109, 50, 32, 118, 50, 32, 109, 50, 32, 109, 50]))), (1, 1, (.c (.str [109, 50, 32, 118, 50, 32, 109, 50, 32, 118, 50]))), (2, 1, (.c (.str [109, 51, 32, 109, 49, 32, 118, 51, 32, 109, 49]))), (3, 1, (.c (.str [109, 49, 32, 109, 51, 32, 109, 51, 32, 118, 49]))), (4, 1, (.c (.str [109, 50, 32, 109, 49, 32, 109, 50, 32, 118, 51]))), (5, 1, (.c (.str [97, 52, 32, 97, 52]))), (6, 1, (.c (.str [109, 56])))]),
 o 1 (.mv (.t 18))] [18])
 (.seq
 (.reg 192 [
 o 19 (.build [(.int .i64 0), (.int .i64 0), (.int .i64 0), (.int .i64 0)] [(0, 1, (ki 4)), (1, 1, (ki 4)), (2, 1, (ki 2)), (3, 1, (ki 2))]),
 o 20 (.build [(.int .i64 0), (.int .i64 0), (.int .i64 0), (.int .i64 0)] [(0, 1, (ki 4)), (1, 1, (ki 4)), (2, 1, (ki 0)), (3, 1, (ki 0))]),
 o 21 (.build [(.int .i64 0), (.int .i64 0), (.int .i64 0), (.int .i64 0)] [(0, 1, (ki 6)), (1, 1, (ki 2)), (2, 1, (ki 2)), (3, 1, (ki 2))]),
 o 22 (.build [(.int .i64 0), (.int .i64 0), (.int .i64 0), (.int .i64 0)] [(0, 1, (ki 4)), (1, 1, (ki 4)), (2, 1, (ki 2)), (3, 1, (ki 2))]),
 o 23 (.build [(.int .i64 0), (.int .i64 0), (.int .i64 0), (.int .i64 0)] [(0, 1, (ki 4)), (1, 1, (ki 4)), (2, 1, (ki 2)), (3, 1, (ki 2))]),
 o 24 (.build [(.int .i64 0), (.int .i64 0), (.int .i64 0), (.int .i64 0)] [(0, 1, (ki 4)), (1, 1, (ki 4)), (2, 1, (ki (-2))), (3, 1, (ki 2))]),
 o 25 (.build [(.int .i64 0), (.int .i64 0), (.int .i64 0), (.int .i64 0)] [(0, 1, (ki 8)), (1, 1, (ki 0)), (2, 1, (ki 1)), (3, 1, (ki 1))]),
 o 26 (.buildS 4 7 0 [(.int .i64 0), (.int .i64 0), (.int .i64 0), (.int .i64 0)] [(0, 4, (.t 19)), (4, 4, (.t 20)), (8, 4, (.t 21)), (12, 4, (.t 22)), (16, 4, (.t 23)), (20, 4, (.t 24)), (24, 4, (.t 25))]),
 o 2 (.mv (.t 26))] [19, 20, 21, 22, 23, 24, 25, 26])
 (.seq
 (.reg 256 [
 o 27 (.buildS 1 7 5 [(.int .u8 0)] [(0, 1, (ku 0)), (1, 1, (ku 3)), (2, 1, (ku 2)), (3, 1, (ku 0)), (4, 1, (ku 4)), (5, 1, (ku 0)), (6, 1, (ku 1))]),
 o 3 (.mv (.t 27))] [27])
 (.seq
 (.seq
 (.reg 320 [
 o 4 (.mv (ki 0))] [])
 (.block 0
 (.loop
 (.seq
 (.seq
 (.reg 384 [
 o 28 (.mv (.t 4)),
 o 29 (.mv (.t 1)),
 o 30 (.len (.t 29)),
 o 31 (.bin .lss (.t 28) (.t 30))] [28, 29, 30])
 (.cond (.t 31)
 .skip
 (.exit 0)))
 (.seq
 (.block 1
 (.seq
 (.reg 512 [
 o 34 (.mv (.t 1)),
 o 35 (.mv (.t 4)),
 o 36 (.idxA none 1 (.t 34) (.t 35)),
 o 37 (.load none (.t 36)),
 o 38 (.call 25 [(.t 37)]),
 o 5 (.new (.cells [.nils, .nils]) 1 2),
 ⟨none, .store 2 (.t 5) (.t 38), none⟩] [31, 34, 35, 36, 37, 38])
 (.seq
 (.reg 576 [
 o 40 (.load (some 2) (.t 5)),
 o 41 (.call 16 [(.t 40)]),
 o 39 (.mv (.t 41)),
 o 42 (.ext (.t 39) 0),
 o 43 (.ext (.t 39) 1),
 o 44 (.ext (.t 39) 2),
 o 6 (.mv (.t 42)),
 o 7 (.mv (.t 43)),
 o 8 (.mv (.t 44))] [40, 41, 39, 42, 43, 44])
 (.seq
 (.reg 640 [
 o 46 (.load (some 2) (.t 5)),
 o 47 (.call 10 [(.t 46)]),
 o 45 (.mv (.t 47)),
 o 48 (.ext (.t 45) 0),
 o 49 (.ext (.t 45) 1),
 o 50 (.ext (.t 45) 2),
 o 9 (.mv (.t 48)),
 o 10 (.mv (.t 49)),
 o 11 (.mv (.t 50))] [46, 47, 45, 48, 49, 50])
 (.seq
 (.reg 704 [
 o 52 (.load (some 2) (.t 5)),
 o 53 (.call 19 [(.t 52)]),
 o 51 (.mv (.t 53)),
 o 54 (.ext (.t 51) 0),
 o 55 (.ext (.t 51) 1),
 o 12 (.mv (.t 54)),
 o 13 (.mv (.t 55))] [5, 52, 53, 51, 54, 55])
 (.seq
 (.reg 768 [
 o 56 (.mv (.t 8)),
 o 57 (.bin .neq (.t 56) (ki 0)),
 o 58 (.mv (.t 57)),
 oi 59 58 false (.mv (.t 11)),
 oi 60 58 false (.bin .neq (.t 59) (ki 0)),
 o 61 (.pick (.t 58) (.c (.bool true)) (.t 60)),
 o 62 (.mv (.t 61)),
 oi 63 62 false (.mv (.t 13)),
 oi 64 62 false (.bin .neq (.t 63) (ki 0)),
 o 65 (.pick (.t 62) (.c (.bool true)) (.t 64)),
 o 66 (.mv (.t 65)),
 oi 67 66 false (.mv (.t 2)),
 oi 68 66 false (.mv (.t 4)),
 oi 69 66 false (.idxA none 4 (.t 67) (.t 68)),
 oi 70 66 false (.load (some 4) (.t 69)),
 oi 71 66 false (.mv (.t 6)),
 oi 72 66 false (.mv (.t 7)),
 oi 73 66 false (.mv (.t 9)),
 oi 74 66 false (.mv (.t 10)),
 oi 75 66 false (.build [(.int .i64 0), (.int .i64 0), (.int .i64 0), (.int .i64 0)] [(0, 1, (.t 71)), (1, 1, (.t 72)), (2, 1, (.t 73)), (3, 1, (.t 74))]),
 oi 76 66 false (.eqa true 4 [(0, 0), (1, 0), (2, 0), (3, 0)] (.t 70) (.t 75)),
 o 77 (.pick (.t 66) (.c (.bool true)) (.t 76)),
 o 78 (.mv (.t 77)),
 oi 79 78 false (.mv (.t 12)),
 oi 80 78 false (.mv (.t 3)),
 oi 81 78 false (.mv (.t 4)),
 oi 82 78 false (.idxA none 1 (.t 80) (.t 81)),
 oi 83 78 false (.load none (.t 82)),
 oi 84 78 false (.bin .neq (.t 79) (.t 83)),
 o 85 (.pick (.t 78) (.c (.bool true)) (.t 84))] [6, 7, 8, 9, 10, 11, 12, 13, 56, 57, 58, 61, 62, 65, 66, 77, 78])
 (.cond (.t 85)
 (.seq
 (.reg 832 [
 o 0 (.mv (.c (.bool false)))] [4, 84, 79, 83, 82, 80, 81, 3, 76, 70, 75, 71, 72, 73, 74, 69, 67, 68, 2, 64, 63, 60, 59, 1, 110, 108, 109, 105, 103, 104, 100, 99, 85])
 .ret)
 .skip)))))))
 (.reg 448 [
 o 32 (.mv (.t 4)),
 o 33 (.bin .add (.t 32) (ki 1)),
 o 4 (.mv (.t 33))] [0, 85, 32, 33]))))))
 (.seq
 (.reg 896 [
 o 87 (.call 25 [(.c (.str [97, 52, 32, 97, 52]))]),
 o 88 (.call 11 [(.t 87)]),
 o 86 (.mv (.t 88)),
 o 89 (.ext (.t 86) 0),
 o 90 (.ext (.t 86) 1),
 o 14 (.mv (.t 89)),
 o 15 (.mv (.t 90))] [1, 2, 3, 4, 87, 88, 86, 89, 90])
 (.seq
 (.reg 960 [
 o 92 (.call 25 [(.c (.str [109, 50, 32, 109, 49, 32, 109, 50, 32, 118, 51]))]),
 o 93 (.call 15 [(.t 92)]),
 o 91 (.mv (.t 93)),
 o 94 (.ext (.t 91) 0),
 o 95 (.ext (.t 91) 1),
 o 16 (.mv (.t 94)),
 o 17 (.mv (.t 95))] [92, 93, 91, 94, 95])
 (.seq
 (.reg 1024 [
 o 96 (.mv (.t 15)),
 o 97 (.bin .eql (.t 96) (ki 0)),
 o 98 (.mv (.t 97)),
 oi 99 98 true (.mv (.t 17)),
 oi 100 98 true (.bin .eql (.t 99) (ki 0)),
 o 101 (.pick (.t 98) (.t 100) (.c (.bool false))),
 o 102 (.mv (.t 101)),
 oi 103 102 true (.mv (.t 14)),
 oi 104 102 true (.buildS 1 2 4 [(.int .i64 0)] [(0, 1, (ki 0)), (1, 1, (ki 2))]),
 oi 105 102 true (.call 13 [(.t 103), (.t 104)]),
 o 106 (.pick (.t 102) (.t 105) (.c (.bool false))),
 o 107 (.mv (.t 106)),
 oi 108 107 true (.mv (.t 16)),
 oi 109 107 true (.buildS 1 1 4 [(.int .i64 0)] [(0, 1, (ki 1))]),
 oi 110 107 true (.call 13 [(.t 108), (.t 109)]),
 o 111 (.pick (.t 107) (.t 110) (.c (.bool false))),
 o 0 (.mv (.t 111))] [110, 108, 109, 105, 103, 104, 100, 99, 14, 15, 16, 17, 96, 97, 98, 101, 102, 106, 107, 111])
 .ret))))))))
def fe14 : FnE := ⟨112, [(0, none)], xc14⟩
theorem ok14 : FnOk Tryd.prog 14 fe14 := fnOk_of Tryd.func14 (by kernel_rfl : chkF Tryd.prog hs14 Tryd.f14 = some fe14)
/- 15 crimp/balances.SharpAt -/
def hs15 : Hints := [(0, ([], [0, 2, 3])), (1, ([], [5, 6])), (2, ([], [7])), (3, ([], [1, 4, 8, 9])), (4, ([], [1, 4, 8, 10, 11, 12, 13]))]
def xc15 : XC :=
 (.seq
 (.reg 64 [
 o 1 (.box (.t 0)),
 o 2 (.mv (.c .nils)),
 o 3 (.mv (ki 0))] [0, 2, 3])
 (.seq
 (.seq
 (.reg 128 [
 o 5 (.load (some 2) (.t 1)),
 o 6 (.call 18 [(.t 5)]),
 o 4 (.mv (.t 6))] [5, 6])
 (.seq
 (.reg 192 [
 o 7 (.mv (.t 4)),
 o 8 (.bin .neq (.t 7) (ki 0))] [7])
 (.cond (.t 8)
 (.seq
 (.reg 256 [
 o 9 (.mv (.t 4)),
 o 2 (.mv (.c .nils)),
 o 3 (.mv (.t 9))] [1, 4, 8, 9])
 .ret)
 .skip)))
 (.seq
 (.reg 320 [
 o 10 (.load (some 2) (.t 1)),
 o 11 (.call 28 [(.t 10)]),
 o 12 (.call 27 [(.t 11)]),
 o 13 (.call 26 [(.t 12)]),
 o 2 (.mv (.t 13)),
 o 3 (.mv (ki 0))] [1, 4, 8, 10, 11, 12, 13])
 .ret)))
def fe15 : FnE := ⟨14, [(2, none), (3, none)], xc15⟩
theorem ok15 : FnOk Tryd.prog 15 fe15 := fnOk_of Tryd.func15 (by kernel_rfl : chkF Tryd.prog hs15 Tryd.f15 = some fe15)
/- 16 crimp/balances.Sums -/
def hs16 : Hints := [(0, ([], [0, 2, 3, 4])), (1, ([], [6, 7])), (2, ([], [8])), (3, ([], [1, 5, 9, 10])), (4, ([], [4, 1, 5, 9, 12, 13, 11, 14, 15])), (5, ([], [16, 17]))]
def xc16 : XC :=
 (.seq
 (.reg 64 [
 o 1 (.box (.t 0)),
 o 2 (.mv (ki 0)),
 o 3 (.mv (ki 0)),
 o 4 (.mv (ki 0))] [0, 2, 3, 4])
 (.seq
 (.seq
 (.reg 128 [
 o 6 (.load (some 2) (.t 1)),
 o 7 (.call 18 [(.t 6)]),
 o 5 (.mv (.t 7))] [6, 7])
 (.seq
 (.reg 192 [
 o 8 (.mv (.t 5)),
 o 9 (.bin .neq (.t 8) (ki 0))] [8])
 (.cond (.t 9)
 (.seq
 (.reg 256 [
 o 10 (.mv (.t 5)),
 o 2 (.mv (ki 0)),
 o 3 (.mv (ki 0)),
 o 4 (.mv (.t 10))] [1, 5, 9, 10])
 .ret)
 .skip)))
 (.seq
 (.reg 320 [
 o 12 (.load (some 2) (.t 1)),
 o 13 (.call 29 [(.t 12)]),
 o 11 (.mv (.t 13)),
 o 14 (.ext (.t 11) 0),
 o 15 (.ext (.t 11) 1),
 o 2 (.mv (.t 14)),
 o 3 (.mv (.t 15))] [4, 1, 5, 9, 12, 13, 11, 14, 15])
 (.seq
 (.reg 384 [
 o 16 (.mv (.t 2)),
 o 17 (.mv (.t 3)),
 o 2 (.mv (.t 16)),
 o 3 (.mv (.t 17)),
 o 4 (.mv (ki 0))] [16, 17])
 .ret))))
def fe16 : FnE := ⟨18, [(2, none), (3, none), (4, none)], xc16⟩
theorem ok16 : FnOk Tryd.prog 16 fe16 := fnOk_of Tryd.func16 (by kernel_rfl : chkF Tryd.prog hs16 Tryd.f16 = some fe16)
/- 17 crimp/balances.Alternates -/
def hs17 : Hints := [(0, ([], [0, 2, 3])), (1, ([], [5, 6])), (2, ([], [7])), (3, ([], [1, 4, 8, 9])), (4, ([], [1, 4, 8, 10, 11, 12, 13, 14, 15, 16, 17]))]
def xc17 : XC :=
 (.seq
 (.reg 64 [
 o 1 (.box (.t 0)),
 o 2 (.mv (.c (.bool false))),
 o 3 (.mv (ki 0))] [0, 2, 3])
 (.seq
 (.seq
 (.reg 128 [
 o 5 (.load (some 2) (.t 1)),
 o 6 (.call 18 [(.t 5)]),
 o 4 (.mv (.t 6))] [5, 6])
 (.seq
 (.reg 192 [
 o 7 (.mv (.t 4)),
 o 8 (.bin .neq (.t 7) (ki 0))] [7])
 (.cond (.t 8)
 (.seq
 (.reg 256 [
 o 9 (.mv (.t 4)),
 o 2 (.mv (.c (.bool false))),
 o 3 (.mv (.t 9))] [1, 4, 8, 9])
 .ret)
 .skip)))
 (.seq
 (.reg 320 [
 o 10 (.load (some 2) (.t 1)),
 o 11 (.call 30 [(.t 10)]),
 o 12 (.un .not (.t 11)),
 o 13 (.mv (.t 12)),
 oi 14 13 true (.load (some 2) (.t 1)),
 oi 15 13 true (.call 31 [(.t 14)]),
 oi 16 13 true (.un .not (.t 15)),
 o 17 (.pick (.t 13) (.t 16) (.c (.bool false))),
 o 2 (.mv (.t 17)),
 o 3 (.mv (ki 0))] [1, 4, 8, 10, 11, 12, 13, 14, 15, 16, 17])
 .ret)))
def fe17 : FnE := ⟨18, [(2, none), (3, none)], xc17⟩
theorem ok17 : FnOk Tryd.prog 17 fe17 := fnOk_of Tryd.func17 (by kernel_rfl : chkF Tryd.prog hs17 Tryd.f17 = some fe17)
/- 18 crimp/fans.Check -/
def hs18 : Hints := [(0, ([], [0, 2])), (1, ([], [6, 7, 8, 9, 10, 11])), (2, ([], [1, 12])), (3, ([], [2, 12])), (4, ([], [13])), (6, ([], [17, 18, 19, 20])), (7, ([], [4, 21, 22, 23, 28, 29, 36, 37])), (8, ([], [16, 3, 43, 42, 41, 39, 40, 38, 1, 35, 34, 33, 31, 32, 30, 27, 24, 26, 25, 14, 15, 5, 44])), (9, ([], [2, 5, 44, 45, 46, 47])), (10, ([], [48])), (11, ([], [1, 3, 14, 15, 16]))]
def xc18 : XC :=
 (.seq
 (.reg 64 [
 o 1 (.box (.t 0)),
 o 2 (.mv (ki 0))] [0, 2])
 (.seq
 (.seq
 (.reg 128 [
 o 6 (.fieldA 0 (.t 1)),
 o 7 (.load none (.t 6)),
 o 8 (.len (.t 7)),
 o 9 (.fieldA 1 (.t 1)),
 o 10 (.load none (.t 9)),
 o 11 (.len (.t 10)),
 o 12 (.bin .neq (.t 8) (.t 11))] [6, 7, 8, 9, 10, 11])
 (.cond (.t 12)
 (.seq
 (.reg 192 [
 o 2 (.mv (ki 5))] [1, 12])
 .ret)
 .skip))
 (.seq
 (.reg 256 [
 o 3 (.mv (ki 0))] [2, 12])
 (.seq
 (.seq
 (.reg 320 [
 o 13 (.fieldA 0 (.t 1)),
 o 14 (.load none (.t 13)),
 o 15 (.len (.t 14)),
 o 16 (.mv (ki 0))] [13])
 (.block 0
 (.loop
 (.seq
 (.reg 384 [
 o 17 (.bin .lss (.t 16) (.t 15))] [])
 (.seq
 (.cond (.t 17)
 .skip
 (.exit 0))
 (.seq
 (.block 1
 (.seq
 (.reg 448 [
 o 18 (.mv (.t 16)),
 o 19 (.idxA none 1 (.t 14) (.t 16)),
 o 20 (.load none (.t 19)),
 o 4 (.mv (.t 18)),
 o 5 (.mv (.t 20))] [17, 18, 19, 20])
 (.seq
 (.seq
 (.reg 512 [
 o 21 (.mv (.t 5)),
 o 22 (.bin .lss (.t 21) (ki 1)),
 o 23 (.mv (.t 22)),
 oi 24 23 false (.mv (.t 5)),
 oi 25 23 false (.mv (.t 3)),
 oi 26 23 false (.bin .sub (ki 8) (.t 25)),
 oi 27 23 false (.bin .gtr (.t 24) (.t 26)),
 o 28 (.pick (.t 23) (.c (.bool true)) (.t 27)),
 o 29 (.mv (.t 28)),
 oi 30 29 false (.fieldA 1 (.t 1)),
 oi 31 29 false (.load none (.t 30)),
 oi 32 29 false (.mv (.t 4)),
 oi 33 29 false (.idxA none 1 (.t 31) (.t 32)),
 oi 34 29 false (.load none (.t 33)),
 oi 35 29 false (.bin .lss (.t 34) (ku 1)),
 o 36 (.pick (.t 29) (.c (.bool true)) (.t 35)),
 o 37 (.mv (.t 36)),
 oi 38 37 false (.fieldA 1 (.t 1)),
 oi 39 37 false (.load none (.t 38)),
 oi 40 37 false (.mv (.t 4)),
 oi 41 37 false (.idxA none 1 (.t 39) (.t 40)),
 oi 42 37 false (.load none (.t 41)),
 oi 43 37 false (.bin .gtr (.t 42) (ku 3)),
 o 44 (.pick (.t 37) (.c (.bool true)) (.t 43))] [4, 21, 22, 23, 28, 29, 36, 37])
 (.cond (.t 44)
 (.seq
 (.reg 576 [
 o 2 (.mv (ki 1))] [16, 3, 43, 42, 41, 39, 40, 38, 1, 35, 34, 33, 31, 32, 30, 27, 24, 26, 25, 14, 15, 5, 44])
 .ret)
 .skip))
 (.reg 640 [
 o 45 (.mv (.t 3)),
 o 46 (.mv (.t 5)),
 o 47 (.bin .add (.t 45) (.t 46)),
 o 3 (.mv (.t 47))] [2, 5, 44, 45, 46, 47]))))
 (.reg 704 [
 o 48 (.bin .add (.t 16) (ki 1)),
 o 16 (.mv (.t 48))] [48])))))))
 (.seq
 (.reg 768 [
 o 2 (.mv (ki 0))] [1, 3, 14, 15, 16])
 .ret)))))
def fe18 : FnE := ⟨49, [(2, none)], xc18⟩
theorem ok18 : FnOk Tryd.prog 18 fe18 := fnOk_of Tryd.func18 (by kernel_rfl : chkF Tryd.prog hs18 Tryd.f18 = some fe18)
/- 19 crimp/balances.Lacks -/
def hs19 : Hints := [(0, ([], [0, 2, 3])), (1, ([], [7, 8])), (2, ([], [9])), (3, ([], [1, 4, 10, 11])), (4, ([], [2, 3, 4, 10])), (6, ([], [14, 15, 16])), (7, ([], [6, 17, 18])), (8, ([], [13, 1, 12, 5, 19, 20, 21])), (9, ([], [2, 3, 5, 19, 22])), (10, ([], [1, 12, 13]))]
def xc19 : XC :=
 (.seq
 (.reg 64 [
 o 1 (.box (.t 0)),
 o 2 (.mv (ku 0)),
 o 3 (.mv (ki 0))] [0, 2, 3])
 (.seq
 (.seq
 (.reg 128 [
 o 7 (.load (some 2) (.t 1)),
 o 8 (.call 18 [(.t 7)]),
 o 4 (.mv (.t 8))] [7, 8])
 (.seq
 (.reg 192 [
 o 9 (.mv (.t 4)),
 o 10 (.bin .neq (.t 9) (ki 0))] [9])
 (.cond (.t 10)
 (.seq
 (.reg 256 [
 o 11 (.mv (.t 4)),
 o 2 (.mv (ku 0)),
 o 3 (.mv (.t 11))] [1, 4, 10, 11])
 .ret)
 .skip)))
 (.seq
 (.seq
 (.reg 320 [
 o 12 (.load (some 5) (.g 0)),
 o 13 (.mv (ki 0))] [2, 3, 4, 10])
 (.block 0
 (.loop
 (.seq
 (.reg 384 [
 o 14 (.bin .lss (.t 13) (ki 5))] [])
 (.seq
 (.cond (.t 14)
 .skip
 (.exit 0))
 (.seq
 (.block 1
 (.seq
 (.reg 448 [
 o 15 (.mv (.t 13)),
 o 16 (.idx 5 1 false (.t 12) (.t 13)),
 o 5 (.mv (.t 15)),
 o 6 (.mv (.t 16))] [14, 15, 16])
 (.seq
 (.reg 512 [
 o 17 (.mv (.t 6)),
 o 18 (.load (some 2) (.t 1)),
 o 19 (.callv (.t 17) [(.t 18)])] [6, 17, 18])
 (.cond (.t 19)
 (.seq
 (.reg 576 [
 o 20 (.mv (.t 5)),
 o 21 (.conv .u8 (.t 20)),
 o 2 (.mv (.t 21)),
 o 3 (.mv (ki 0))] [13, 1, 12, 5, 19, 20, 21])
 .ret)
 .skip))))
 (.reg 640 [
 o 22 (.bin .add (.t 13) (ki 1)),
 o 13 (.mv (.t 22))] [2, 3, 5, 19, 22])))))))
 (.seq
 (.reg 704 [
 o 2 (.mv (ku 0)),
 o 3 (.mv (ki 0))] [1, 12, 13])
 .ret))))
def fe19 : FnE := ⟨23, [(2, none), (3, none)], xc19⟩
theorem ok19 : FnOk Tryd.prog 19 fe19 := fnOk_of Tryd.func19 (by kernel_rfl : chkF Tryd.prog hs19 Tryd.f19 = some fe19)
/- 20 crimp/fans.Turn -/
def hs20 : Hints := [(0, ([], [0, 5])), (1, ([], [7, 8])), (2, ([], [9])), (3, ([], [1, 2, 6, 10, 11, 12])), (4, ([], [5, 6, 10, 13, 14, 15, 16, 17, 18, 19, 20, 21])), (5, ([], [1, 2, 22, 23])), (6, ([0, 1, 2, 3, 4, 5, 6, 7, 8, 9, 10], [1, 2, 22, 24, 25, 26, 27, 28, 29, 30, 31, 32]))]
def xc20 : XC :=
 (.seq
 (.reg 64 [
 o 2 (.box (.t 0)),
 o 4 (.new (.cells [.nils, .nils]) 1 2),
 o 5 (.mv (ki 0))] [0, 5])
 (.seq
 (.seq
 (.reg 128 [
 o 7 (.load (some 2) (.t 2)),
 o 8 (.call 18 [(.t 7)]),
 o 6 (.mv (.t 8))] [7, 8])
 (.seq
 (.reg 192 [
 o 9 (.mv (.t 6)),
 o 10 (.bin .neq (.t 9) (ki 0))] [9])
 (.cond (.t 10)
 (.seq
 (.reg 256 [
 o 11 (.build [.nils, .nils] []),
 o 12 (.mv (.t 6)),
 ⟨none, .store 2 (.t 4) (.t 11), none⟩,
 o 5 (.mv (.t 12))] [1, 2, 6, 10, 11, 12])
 .ret)
 .skip)))
 (.seq
 (.seq
 (.reg 320 [
 o 13 (.mv (.t 1)),
 o 14 (.bin .lss (.t 13) (ki 0)),
 o 15 (.mv (.t 14)),
 oi 16 15 false (.mv (.t 1)),
 oi 17 15 false (.fieldA 0 (.t 2)),
 oi 18 15 false (.load none (.t 17)),
 oi 19 15 false (.len (.t 18)),
 oi 20 15 false (.mm true [(.t 19), (ki 1)]),
 oi 21 15 false (.bin .geq (.t 16) (.t 20)),
 o 22 (.pick (.t 15) (.c (.bool true)) (.t 21))] [5, 6, 10, 13, 14, 15, 16, 17, 18, 19, 20, 21])
 (.cond (.t 22)
 (.seq
 (.reg 384 [
 o 23 (.build [.nils, .nils] []),
 ⟨none, .store 2 (.t 4) (.t 23), none⟩,
 o 5 (.mv (ki 1))] [1, 2, 22, 23])
 .ret)
 .skip))
 (.seq
 (.draw 448 [
 o 24 (.fieldA 0 (.t 2)),
 o 25 (.load none (.t 24)),
 o 26 (.mv (.t 1)),
 o 27 (.call 32 [(.t 25), (.t 26)]),
 o 28 (.fieldA 1 (.t 2)),
 o 29 (.load none (.t 28)),
 o 30 (.mv (.t 1)),
 o 31 (.call 33 [(.t 29), (.t 30)]),
 o 32 (.build [.nils, .nils] [(0, 1, (.t 27)), (1, 1, (.t 31))]),
 ⟨none, .store 2 (.t 4) (.t 32), none⟩,
 o 5 (.mv (ki 0))]
 [[], [0], [], [1, 2], [], [4], [], [5, 6, 3], [3, 7], [8, 7, 0, 1, 2, 3, 4, 5, 6, 7, 8], [9, 0, 1, 2, 3, 4, 5, 6, 7, 8, 9]]
 [0, 1, 2, 3, 4, 5, 6, 7, 8, 9, 10] [1, 2, 22, 24, 25, 26, 27, 28, 29, 30, 31, 32])
 .ret))))
def fe20 : FnE := ⟨33, [(4, some (some 2)), (5, none)], xc20⟩
theorem ok20 : FnOk Tryd.prog 20 fe20 := fnOk_of Tryd.func20 (by kernel_rfl : chkF Tryd.prog hs20 Tryd.f20 = some fe20)
/- 21 crimp/fans.Mirror -/
def hs21 : Hints := [(0, ([], [0])), (1, ([0, 1, 2, 3, 4, 5, 6, 7, 8], [1, 5, 6, 7, 8, 9, 10, 11])), (2, ([], [12, 13, 14])), (3, ([], [15])), (4, ([], [4, 16, 17, 18, 19, 20, 21, 22])), (5, ([], [3, 4, 16, 23]))]
def xc21 : XC :=
 (.seq
 (.reg 64 [
 o 1 (.box (.t 0)),
 o 2 (.new (.cells [.nils, .nils]) 1 2)] [0])
 (.seq
 (.draw 128 [
 o 5 (.fieldA 0 (.t 1)),
 o 6 (.load none (.t 5)),
 o 7 (.call 34 [(.t 6)]),
 o 8 (.fieldA 1 (.t 1)),
 o 9 (.load none (.t 8)),
 o 10 (.call 35 [(.t 9)]),
 o 11 (.build [.nils, .nils] [(0, 1, (.t 7)), (1, 1, (.t 10))]),
 o 3 (.new (.cells [.nils, .nils]) 1 2),
 ⟨none, .store 2 (.t 3) (.t 11), none⟩]
 [[], [0], [1], [], [3], [4, 2], [2, 5], [], [7, 6, 5, 0, 1, 2, 3, 4, 5, 6, 7]]
 [0, 1, 2, 3, 4, 5, 6, 7, 8] [1, 5, 6, 7, 8, 9, 10, 11])
 (.seq
 (.seq
 (.reg 192 [
 o 12 (.fieldA 1 (.t 3)),
 o 13 (.load none (.t 12)),
 o 14 (.len (.t 13)),
 o 4 (.mv (.t 14))] [12, 13, 14])
 (.seq
 (.reg 256 [
 o 15 (.mv (.t 4)),
 o 16 (.bin .gtr (.t 15) (ki 0))] [15])
 (.cond (.t 16)
 (.reg 320 [
 o 17 (.fieldA 1 (.t 3)),
 o 18 (.load none (.t 17)),
 o 19 (.mv (.t 4)),
 o 20 (.bin .sub (.t 19) (ki 1)),
 o 21 (.call 33 [(.t 18), (.t 20)]),
 o 22 (.fieldA 1 (.t 3)),
 ⟨none, .store 1 (.t 22) (.t 21), none⟩] [4, 16, 17, 18, 19, 20, 21, 22])
 .skip)))
 (.seq
 (.reg 384 [
 o 23 (.load (some 2) (.t 3)),
 ⟨none, .store 2 (.t 2) (.t 23), none⟩] [3, 4, 16, 23])
 .ret))))
def fe21 : FnE := ⟨24, [(2, some (some 2))], xc21⟩
theorem ok21 : FnOk Tryd.prog 21 fe21 := fnOk_of Tryd.func21 (by kernel_rfl : chkF Tryd.prog hs21 Tryd.f21 = some fe21)
/- 22 crimp/fans.Over -/
def hs22 : Hints := [(0, ([], [0])), (1, ([], [1, 6, 7])), (2, ([], [8])), (4, ([], [12, 13, 14, 15])), (5, ([], [16, 17, 18])), (6, ([], [4, 5, 21, 22, 23, 24, 25, 26, 27])), (7, ([], [4, 5, 21, 28])), (8, ([], [3, 9, 10, 11, 29]))]
def xc22 : XC :=
 (.seq
 (.reg 64 [
 o 1 (.box (.t 0)),
 o 2 (.new (.cells [.nils, .nils]) 1 2)] [0])
 (.seq
 (.reg 128 [
 o 6 (.load (some 2) (.t 1)),
 o 7 (.call 21 [(.t 6)]),
 o 3 (.new (.cells [.nils, .nils]) 1 2),
 ⟨none, .store 2 (.t 3) (.t 7), none⟩] [1, 6, 7])
 (.seq
 (.seq
 (.reg 192 [
 o 8 (.fieldA 1 (.t 3)),
 o 9 (.load none (.t 8)),
 o 10 (.len (.t 9)),
 o 11 (.mv (ki 0))] [8])
 (.block 0
 (.loop
 (.seq
 (.reg 256 [
 o 12 (.bin .lss (.t 11) (.t 10))] [])
 (.seq
 (.cond (.t 12)
 .skip
 (.exit 0))
 (.seq
 (.block 1
 (.seq
 (.reg 320 [
 o 13 (.mv (.t 11)),
 o 14 (.idxA none 1 (.t 9) (.t 11)),
 o 15 (.load none (.t 14)),
 o 4 (.mv (.t 13)),
 o 5 (.mv (.t 15))] [12, 13, 14, 15])
 (.seq
 (.reg 384 [
 o 16 (.mv (.t 5)),
 o 17 (.bin .eql (.t 16) (ku 1)),
 o 18 (.mv (.t 17)),
 oi 19 18 false (.mv (.t 5)),
 oi 20 18 false (.bin .eql (.t 19) (ku 2)),
 o 21 (.pick (.t 18) (.c (.bool true)) (.t 20))] [16, 17, 18])
 (.cond (.t 21)
 (.reg 448 [
 o 22 (.fieldA 1 (.t 3)),
 o 23 (.load none (.t 22)),
 o 24 (.mv (.t 4)),
 o 25 (.mv (.t 5)),
 o 26 (.bin .sub (ku 3) (.t 25)),
 o 27 (.idxA none 1 (.t 23) (.t 24)),
 ⟨none, .store 1 (.t 27) (.t 26), none⟩] [4, 5, 21, 22, 23, 24, 25, 26, 27])
 .skip))))
 (.reg 512 [
 o 28 (.bin .add (.t 11) (ki 1)),
 o 11 (.mv (.t 28))] [4, 5, 21, 28])))))))
 (.seq
 (.reg 576 [
 o 29 (.load (some 2) (.t 3)),
 ⟨none, .store 2 (.t 2) (.t 29), none⟩] [3, 9, 10, 11, 29])
 .ret))))
def fe22 : FnE := ⟨30, [(2, some (some 2))], xc22⟩
theorem ok22 : FnOk Tryd.prog 22 fe22 := fnOk_of Tryd.func22 (by kernel_rfl : chkF Tryd.prog hs22 Tryd.f22 = some fe22)
/- 23 crimp/balances.count -/
def hs23 : Hints := [(0, ([], [0, 4])), (2, ([], [2, 8])), (4, ([], [12, 13, 14])), (5, ([], [7, 15, 16])), (6, ([], [17, 18, 19])), (7, ([], [17, 20])), (8, ([], [1, 5, 9, 10, 11, 21]))]
def xc23 : XC :=
 (.seq
 (.reg 64 [
 o 2 (.box (.t 0)),
 o 4 (.mv (ki 0))] [0, 4])
 (.seq
 (.reg 128 [
 o 5 (.mv (ki 0))] [])
 (.seq
 (.seq
 (.reg 192 [
 o 8 (.fieldA 1 (.t 2)),
 o 9 (.load none (.t 8)),
 o 10 (.len (.t 9)),
 o 11 (.mv (ki 0))] [2, 8])
 (.block 0
 (.loop
 (.seq
 (.reg 256 [
 o 12 (.bin .lss (.t 11) (.t 10))] [])
 (.seq
 (.cond (.t 12)
 .skip
 (.exit 0))
 (.seq
 (.block 1
 (.seq
 (.reg 320 [
 o 13 (.idxA none 1 (.t 9) (.t 11)),
 o 14 (.load none (.t 13)),
 o 7 (.mv (.t 14))] [12, 13, 14])
 (.seq
 (.reg 384 [
 o 15 (.mv (.t 7)),
 o 16 (.mv (.t 1)),
 o 17 (.bin .eql (.t 15) (.t 16))] [7, 15, 16])
 (.cond (.t 17)
 (.reg 448 [
 o 18 (.mv (.t 5)),
 o 19 (.bin .add (.t 18) (ki 1)),
 o 5 (.mv (.t 19))] [17, 18, 19])
 .skip))))
 (.reg 512 [
 o 20 (.bin .add (.t 11) (ki 1)),
 o 11 (.mv (.t 20))] [17, 20])))))))
 (.seq
 (.reg 576 [
 o 21 (.mv (.t 5)),
 o 4 (.mv (.t 21))] [1, 5, 9, 10, 11, 21])
 .ret))))
def fe23 : FnE := ⟨22, [(4, none)], xc23⟩
theorem ok23 : FnOk Tryd.prog 23 fe23 := fnOk_of Tryd.func23 (by kernel_rfl : chkF Tryd.prog hs23 Tryd.f23 = some fe23)
/- 24 crimp/balances.choices -/
def hs24 : Hints := [(0, ([], [0, 2])), (1, ([], [8, 9, 10])), (2, ([], [1, 11, 12])), (3, ([0, 1, 2, 3, 4, 5, 6, 7, 8], [2, 1, 11, 13, 14, 15, 16, 17, 18, 19])), (5, ([], [20])), (7, ([], [23, 24])), (8, ([], [25, 26, 27, 28, 29, 30])), (9, ([], [7, 31, 32, 33])), (10, ([], [6, 36, 37, 38, 39, 40])), (11, ([], [6, 36, 41])), (12, ([], [3, 4, 5, 21, 22, 42, 43]))]
def xc24 : XC :=
 (.seq
 (.reg 64 [
 o 1 (.box (.t 0)),
 o 2 (.mv (.c .nils))] [0, 2])
 (.seq
 (.seq
 (.reg 128 [
 o 8 (.fieldA 0 (.t 1)),
 o 9 (.load none (.t 8)),
 o 10 (.len (.t 9)),
 o 11 (.bin .eql (.t 10) (ki 0))] [8, 9, 10])
 (.cond (.t 11)
 (.seq
 (.reg 192 [
 o 12 (.buildS 1 1 4 [(.int .i64 0)] [(0, 1, (ki 0))]),
 o 2 (.mv (.t 12))] [1, 11, 12])
 .ret)
 .skip))
 (.seq
 (.draw 256 [
 o 13 (.load (some 2) (.t 1)),
 o 14 (.call 23 [(.t 13), (ku 1)]),
 o 15 (.load (some 2) (.t 1)),
 o 16 (.call 23 [(.t 15), (ku 2)]),
 o 17 (.bin .sub (.t 14) (.t 16)),
 o 18 (.load (some 2) (.t 1)),
 o 19 (.call 23 [(.t 18), (ku 3)]),
 o 3 (.mv (.t 17)),
 o 4 (.mv (.t 19))]
 [[], [0], [], [2, 1], [1, 3], [], [5, 3], [4, 6, 0, 1, 2, 3, 4], [6, 7, 0, 1, 2, 3, 4, 5, 6, 7]]
 [0, 1, 2, 3, 4, 5, 6, 7, 8] [2, 1, 11, 13, 14, 15, 16, 17, 18, 19])
 (.seq
 (.reg 320 [
 o 5 (.mv (.c .nils))] [])
 (.seq
 (.seq
 (.reg 384 [
 o 20 (.mv (.t 4)),
 o 21 (.bin .add (.t 20) (ki 1)),
 o 22 (.mv (ki 0))] [20])
 (.block 0
 (.loop
 (.seq
 (.reg 448 [
 o 23 (.bin .lss (.t 22) (.t 21))] [])
 (.seq
 (.cond (.t 23)
 .skip
 (.exit 0))
 (.seq
 (.block 1
 (.seq
 (.reg 512 [
 o 24 (.mv (.t 22)),
 o 6 (.mv (.t 24))] [23, 24])
 (.seq
 (.reg 576 [
 o 25 (.mv (.t 3)),
 o 26 (.mv (.t 6)),
 o 27 (.bin .mul (ki 2) (.t 26)),
 o 28 (.bin .add (.t 25) (.t 27)),
 o 29 (.mv (.t 4)),
 o 30 (.bin .sub (.t 28) (.t 29)),
 o 7 (.mv (.t 30))] [25, 26, 27, 28, 29, 30])
 (.seq
 (.reg 640 [
 o 31 (.mv (.t 7)),
 o 32 (.bin .eql (.t 31) (ki 2)),
 o 33 (.mv (.t 32)),
 oi 34 33 false (.mv (.t 7)),
 oi 35 33 false (.bin .eql (.t 34) (ki (-2))),
 o 36 (.pick (.t 33) (.c (.bool true)) (.t 35))] [7, 31, 32, 33])
 (.cond (.t 36)
 (.reg 704 [
 o 37 (.mv (.t 5)),
 o 38 (.mv (.t 6)),
 o 39 (.buildS 1 1 4 [(.int .i64 0)] [(0, 1, (.t 38))]),
 o 40 (.append 1 8 4 (.t 37) (.t 39)),
 o 5 (.mv (.t 40))] [6, 36, 37, 38, 39, 40])
 .skip)))))
 (.reg 768 [
 o 41 (.bin .add (.t 22) (ki 1)),
 o 22 (.mv (.t 41))] [6, 36, 41])))))))
 (.seq
 (.reg 832 [
 o 42 (.mv (.t 5)),
 o 43 (.call 26 [(.t 42)]),
 o 2 (.mv (.t 43))] [3, 4, 5, 21, 22, 42, 43])
 .ret))))))
def fe24 : FnE := ⟨44, [(2, none)], xc24⟩
theorem ok24 : FnOk Tryd.prog 24 fe24 := fnOk_of Tryd.func24 (by kernel_rfl : chkF Tryd.prog hs24 Tryd.f24 = some fe24)
/- 25 crimp/crimplaw13.fan -/
def hs25 : Hints := [(1, ([], [0, 6, 7, 5, 8, 9, 4])), (2, ([], [3, 10]))]
def xc25 : XC :=
 (.seq
 (.reg 64 [
 o 2 (.new (.cells [.nils, .nils]) 1 2)] [])
 (.seq
 (.reg 128 [
 o 6 (.mv (.t 0)),
 o 7 (.call 36 [(.t 6)]),
 o 5 (.mv (.t 7)),
 o 8 (.ext (.t 5) 0),
 o 9 (.ext (.t 5) 1),
 o 3 (.new (.cells [.nils, .nils]) 1 2),
 ⟨none, .store 2 (.t 3) (.t 8), none⟩,
 o 4 (.mv (.t 9))] [0, 6, 7, 5, 8, 9, 4])
 (.seq
 (.reg 192 [
 o 10 (.load (some 2) (.t 3)),
 ⟨none, .store 2 (.t 2) (.t 10), none⟩] [3, 10])
 .ret)))
def fe25 : FnE := ⟨11, [(2, some (some 2))], xc25⟩
theorem ok25 : FnOk Tryd.prog 25 fe25 := fnOk_of Tryd.func25 (by kernel_rfl : chkF Tryd.prog hs25 Tryd.f25 = some fe25)
/- 26 slices.Clip[[]int,int] -/
def hs26 : Hints := [(0, ([], [2])), (1, ([], [0, 3, 4, 5, 6, 7, 8]))]
def xc26 : XC :=
 (.seq
 (.reg 64 [
 o 2 (.mv (.c .nils))] [2])
 (.seq
 (.reg 128 [
 o 3 (.mv (.t 0)),
 o 4 (.mv (.t 0)),
 o 5 (.len (.t 4)),
 o 6 (.mv (.t 0)),
 o 7 (.len (.t 6)),
 o 8 (.slice 1 (.t 3) none (some (.t 5)) (some (.t 7))),
 o 2 (.mv (.t 8))] [0, 3, 4, 5, 6, 7, 8])
 .ret))
def fe26 : FnE := ⟨9, [(2, none)], xc26⟩
theorem ok26 : FnOk Tryd.prog 26 fe26 := fnOk_of Tryd.func26 (by kernel_rfl : chkF Tryd.prog hs26 Tryd.f26 = some fe26)
/- 27 slices.Collect[int] -/
def hs27 : Hints := [(0, ([], [2])), (1, ([], [0, 3, 4]))]
def xc27 : XC :=
 (.seq
 (.reg 64 [
 o 2 (.mv (.c .nils))] [2])
 (.seq
 (.reg 128 [
 o 3 (.mv (.t 0)),
 o 4 (.call 37 [(.c .nils), (.t 3)]),
 o 2 (.mv (.t 4))] [0, 3, 4])
 .ret))
def fe27 : FnE := ⟨5, [(2, none)], xc27⟩
theorem ok27 : FnOk Tryd.prog 27 fe27 := fnOk_of Tryd.func27 (by kernel_rfl : chkF Tryd.prog hs27 Tryd.f27 = some fe27)
/- 28 crimp/balances.sharp -/
def hs28 : Hints := [(0, ([], [0, 2])), (1, ([], [1, 3]))]
def xc28 : XC :=
 (.seq
 (.reg 64 [
 o 1 (.box (.t 0)),
 o 2 (.mv (.c .nilf))] [0, 2])
 (.seq
 (.reg 128 [
 o 3 (.mkf 38 [] [(.t 1)]),
 o 2 (.mv (.t 3))] [1, 3])
 .ret))
def fe28 : FnE := ⟨4, [(2, none)], xc28⟩
theorem ok28 : FnOk Tryd.prog 28 fe28 := fnOk_of Tryd.func28 (by kernel_rfl : chkF Tryd.prog hs28 Tryd.f28 = some fe28)
/- 29 crimp/balances.sums -/
def hs29 : Hints := [(0, ([], [0])), (1, ([], [1, 6])), (3, ([], [10, 11, 12, 13])), (4, ([], [4, 14, 15])), (5, ([], [5, 16, 17, 18, 19])), (6, ([], [5, 16, 20, 21, 22])), (7, ([], [23])), (8, ([], [7, 8, 9, 24, 25]))]
def xc29 : XC :=
 (.seq
 (.reg 64 [
 o 1 (.box (.t 0)),
 o 2 (.mv (ki 0)),
 o 3 (.mv (ki 0))] [0])
 (.seq
 (.seq
 (.reg 128 [
 o 6 (.fieldA 0 (.t 1)),
 o 7 (.load none (.t 6)),
 o 8 (.len (.t 7)),
 o 9 (.mv (ki 0))] [1, 6])
 (.block 0
 (.loop
 (.seq
 (.reg 192 [
 o 10 (.bin .lss (.t 9) (.t 8))] [])
 (.seq
 (.cond (.t 10)
 .skip
 (.exit 0))
 (.seq
 (.block 1
 (.seq
 (.reg 256 [
 o 11 (.mv (.t 9)),
 o 12 (.idxA none 1 (.t 7) (.t 9)),
 o 13 (.load none (.t 12)),
 o 4 (.mv (.t 11)),
 o 5 (.mv (.t 13))] [10, 11, 12, 13])
 (.seq
 (.reg 320 [
 o 14 (.mv (.t 4)),
 o 15 (.bin .rem (.t 14) (ki 2)),
 o 16 (.bin .eql (.t 15) (ki 0))] [4, 14, 15])
 (.cond (.t 16)
 (.reg 384 [
 o 17 (.mv (.t 2)),
 o 18 (.mv (.t 5)),
 o 19 (.bin .add (.t 17) (.t 18)),
 o 2 (.mv (.t 19))] [5, 16, 17, 18, 19])
 (.reg 448 [
 o 20 (.mv (.t 3)),
 o 21 (.mv (.t 5)),
 o 22 (.bin .add (.t 20) (.t 21)),
 o 3 (.mv (.t 22))] [5, 16, 20, 21, 22])))))
 (.reg 512 [
 o 23 (.bin .add (.t 9) (ki 1)),
 o 9 (.mv (.t 23))] [23])))))))
 (.seq
 (.reg 576 [
 o 24 (.mv (.t 2)),
 o 25 (.mv (.t 3)),
 o 2 (.mv (.t 24)),
 o 3 (.mv (.t 25))] [7, 8, 9, 24, 25])
 .ret)))
def fe29 : FnE := ⟨26, [(2, none), (3, none)], xc29⟩
theorem ok29 : FnOk Tryd.prog 29 fe29 := fnOk_of Tryd.func29 (by kernel_rfl : chkF Tryd.prog hs29 Tryd.f29 = some fe29)
/- 30 crimp/balances.odd -/
def hs30 : Hints := [(0, ([], [0, 2])), (1, ([], [1, 3, 4, 5, 6, 7]))]
def xc30 : XC :=
 (.seq
 (.reg 64 [
 o 1 (.box (.t 0)),
 o 2 (.mv (.c (.bool false)))] [0, 2])
 (.seq
 (.reg 128 [
 o 3 (.fieldA 0 (.t 1)),
 o 4 (.load none (.t 3)),
 o 5 (.len (.t 4)),
 o 6 (.bin .rem (.t 5) (ki 2)),
 o 7 (.bin .eql (.t 6) (ki 1)),
 o 2 (.mv (.t 7))] [1, 3, 4, 5, 6, 7])
 .ret))
def fe30 : FnE := ⟨8, [(2, none)], xc30⟩
theorem ok30 : FnOk Tryd.prog 30 fe30 := fnOk_of Tryd.func30 (by kernel_rfl : chkF Tryd.prog hs30 Tryd.f30 = some fe30)
/- 31 crimp/balances.uneven -/
def hs31 : Hints := [(0, ([], [0, 2])), (1, ([], [1, 6, 7, 5, 8, 9])), (2, ([], [3, 4, 10, 11, 12]))]
def xc31 : XC :=
 (.seq
 (.reg 64 [
 o 1 (.box (.t 0)),
 o 2 (.mv (.c (.bool false)))] [0, 2])
 (.seq
 (.reg 128 [
 o 6 (.load (some 2) (.t 1)),
 o 7 (.call 29 [(.t 6)]),
 o 5 (.mv (.t 7)),
 o 8 (.ext (.t 5) 0),
 o 9 (.ext (.t 5) 1),
 o 3 (.mv (.t 8)),
 o 4 (.mv (.t 9))] [1, 6, 7, 5, 8, 9])
 (.seq
 (.reg 192 [
 o 10 (.mv (.t 3)),
 o 11 (.mv (.t 4)),
 o 12 (.bin .neq (.t 10) (.t 11)),
 o 2 (.mv (.t 12))] [3, 4, 10, 11, 12])
 .ret)))
def fe31 : FnE := ⟨13, [(2, none)], xc31⟩
theorem ok31 : FnOk Tryd.prog 31 fe31 := fnOk_of Tryd.func31 (by kernel_rfl : chkF Tryd.prog hs31 Tryd.f31 = some fe31)
/- 32 crimp/fans.begun[int] -/
def hs32 : Hints := [(0, ([], [4])), (1, ([0, 1, 2, 3, 4, 5, 6, 7, 8, 9], [0, 1, 5, 6, 7, 8, 9, 10, 11, 12, 13]))]
def xc32 : XC :=
 (.seq
 (.reg 64 [
 o 4 (.mv (.c .nils))] [4])
 (.seq
 (.draw 128 [
 o 5 (.mv (.t 0)),
 o 6 (.mv (.t 1)),
 o 7 (.slice 1 (.t 5) (some (.t 6)) none none),
 o 8 (.mv (.t 0)),
 o 9 (.mv (.t 1)),
 o 10 (.slice 1 (.t 8) none (some (.t 9)) none),
 o 11 (.buildS 1 2 0 [.nils] [(0, 1, (.t 7)), (1, 1, (.t 10))]),
 o 12 (.call 39 [(.t 11)]),
 o 13 (.call 26 [(.t 12)]),
 o 4 (.mv (.t 13))]
 [[], [], [0, 1], [], [], [3, 4], [2, 5], [6], [7, 7], [8, 8, 0, 1, 2, 3, 4, 5, 6, 7, 8]]
 [0, 1, 2, 3, 4, 5, 6, 7, 8, 9] [0, 1, 5, 6, 7, 8, 9, 10, 11, 12, 13])
 .ret))
def fe32 : FnE := ⟨14, [(4, none)], xc32⟩
theorem ok32 : FnOk Tryd.prog 32 fe32 := fnOk_of Tryd.func32 (by kernel_rfl : chkF Tryd.prog hs32 Tryd.f32 = some fe32)
/- 33 crimp/fans.begun[crimp/api.Kind] -/
def hs33 : Hints := [(0, ([], [4])), (1, ([0, 1, 2, 3, 4, 5, 6, 7, 8, 9], [0, 1, 5, 6, 7, 8, 9, 10, 11, 12, 13]))]
def xc33 : XC :=
 (.seq
 (.reg 64 [
 o 4 (.mv (.c .nils))] [4])
 (.seq
 (.draw 128 [
 o 5 (.mv (.t 0)),
 o 6 (.mv (.t 1)),
 o 7 (.slice 1 (.t 5) (some (.t 6)) none none),
 o 8 (.mv (.t 0)),
 o 9 (.mv (.t 1)),
 o 10 (.slice 1 (.t 8) none (some (.t 9)) none),
 o 11 (.buildS 1 2 0 [.nils] [(0, 1, (.t 7)), (1, 1, (.t 10))]),
 o 12 (.call 41 [(.t 11)]),
 o 13 (.call 40 [(.t 12)]),
 o 4 (.mv (.t 13))]
 [[], [], [0, 1], [], [], [3, 4], [2, 5], [6], [7, 7], [8, 8, 0, 1, 2, 3, 4, 5, 6, 7, 8]]
 [0, 1, 2, 3, 4, 5, 6, 7, 8, 9] [0, 1, 5, 6, 7, 8, 9, 10, 11, 12, 13])
 .ret))
def fe33 : FnE := ⟨14, [(4, none)], xc33⟩
theorem ok33 : FnOk Tryd.prog 33 fe33 := fnOk_of Tryd.func33 (by kernel_rfl : chkF Tryd.prog hs33 Tryd.f33 = some fe33)
/- 34 crimp/fans.turned[int] -/
def hs34 : Hints := [(0, ([], [2])), (1, ([], [0, 4, 5, 6])), (2, ([], [7, 8])), (3, ([], [3, 9]))]
def xc34 : XC :=
 (.seq
 (.reg 64 [
 o 2 (.mv (.c .nils))] [2])
 (.seq
 (.reg 128 [
 o 4 (.mv (.t 0)),
 o 5 (.call 42 [(.t 4)]),
 o 6 (.call 26 [(.t 5)]),
 o 3 (.mv (.t 6))] [0, 4, 5, 6])
 (.seq
 (.reg 192 [
 o 7 (.mv (.t 3)),
 o 8 (.call 43 [(.t 7)])] [7, 8])
 (.seq
 (.reg 256 [
 o 9 (.mv (.t 3)),
 o 2 (.mv (.t 9))] [3, 9])
 .ret))))
def fe34 : FnE := ⟨10, [(2, none)], xc34⟩
theorem ok34 : FnOk Tryd.prog 34 fe34 := fnOk_of Tryd.func34 (by kernel_rfl : chkF Tryd.prog hs34 Tryd.f34 = some fe34)
/- 35 crimp/fans.turned[crimp/api.Kind] -/
def hs35 : Hints := [(0, ([], [2])), (1, ([], [0, 4, 5, 6])), (2, ([], [7, 8])), (3, ([], [3, 9]))]
def xc35 : XC :=
 (.seq
 (.reg 64 [
 o 2 (.mv (.c .nils))] [2])
 (.seq
 (.reg 128 [
 o 4 (.mv (.t 0)),
 o 5 (.call 44 [(.t 4)]),
 o 6 (.call 40 [(.t 5)]),
 o 3 (.mv (.t 6))] [0, 4, 5, 6])
 (.seq
 (.reg 192 [
 o 7 (.mv (.t 3)),
 o 8 (.call 45 [(.t 7)])] [7, 8])
 (.seq
 (.reg 256 [
 o 9 (.mv (.t 3)),
 o 2 (.mv (.t 9))] [3, 9])
 .ret))))
def fe35 : FnE := ⟨10, [(2, none)], xc35⟩
theorem ok35 : FnOk Tryd.prog 35 fe35 := fnOk_of Tryd.func35 (by kernel_rfl : chkF Tryd.prog hs35 Tryd.f35 = some fe35)
/- 36 crimp/fans.Parse -/
def hs36 : Hints := [(0, ([], [3])), (1, ([], [7])), (2, ([], [0, 8, 9])), (3, ([], [3, 8])), (4, ([], [0, 10])), (6, ([], [14, 15, 16])), (7, ([], [17, 18, 19, 20, 24, 25])), (8, ([], [13, 4, 28, 27, 26, 23, 22, 21, 11, 12, 6, 29, 30])), (9, ([0, 1, 2, 3, 4, 5, 6, 7, 8, 9, 10, 11, 12, 13, 14, 15, 16, 17, 18, 19, 20], [3, 6, 29, 31, 32, 33, 34, 35, 36, 37, 38, 39, 40, 41, 42, 43, 44, 45, 46, 47, 48, 49])), (10, ([], [50])), (11, ([], [11, 12, 13, 51, 52])), (12, ([], [4, 53, 54])), (13, ([0, 1, 2, 3, 4, 5, 6, 7, 8], [4, 53, 55, 56, 57, 58, 59, 60, 61]))]
def xc36 : XC :=
 (.seq
 (.reg 64 [
 o 2 (.new (.cells [.nils, .nils]) 1 2),
 o 3 (.mv (ki 0))] [3])
 (.seq
 (.seq
 (.reg 128 [
 o 7 (.mv (.t 0)),
 o 8 (.bin .eql (.t 7) (.c (.str [45])))] [7])
 (.cond (.t 8)
 (.seq
 (.reg 192 [
 o 9 (.build [.nils, .nils] []),
 ⟨none, .store 2 (.t 2) (.t 9), none⟩,
 o 3 (.mv (ki 0))] [0, 8, 9])
 .ret)
 .skip))
 (.seq
 (.reg 256 [
 o 4 (.new (.cells [.nils, .nils]) 1 2)] [3, 8])
 (.seq
 (.seq
 (.reg 320 [
 o 10 (.mv (.t 0)),
 o 11 (.call 46 [(.t 10), (.c (.str [32]))]),
 o 12 (.len (.t 11)),
 o 13 (.mv (ki 0))] [0, 10])
 (.block 0
 (.loop
 (.seq
 (.reg 384 [
 o 14 (.bin .lss (.t 13) (.t 12))] [])
 (.seq
 (.cond (.t 14)
 .skip
 (.exit 0))
 (.seq
 (.block 1
 (.seq
 (.reg 448 [
 o 15 (.idxA none 1 (.t 11) (.t 13)),
 o 16 (.load none (.t 15)),
 o 6 (.mv (.t 16))] [14, 15, 16])
 (.seq
 (.seq
 (.reg 512 [
 o 17 (.mv (.t 6)),
 o 18 (.lens (.t 17)),
 o 19 (.bin .neq (.t 18) (ki 2)),
 o 20 (.mv (.t 19)),
 oi 21 20 false (.mv (.t 6)),
 oi 22 20 false (.idxs (.t 21) (ki 1)),
 oi 23 20 false (.bin .lss (.t 22) (ku 49)),
 o 24 (.pick (.t 20) (.c (.bool true)) (.t 23)),
 o 25 (.mv (.t 24)),
 oi 26 25 false (.mv (.t 6)),
 oi 27 25 false (.idxs (.t 26) (ki 1)),
 oi 28 25 false (.bin .gtr (.t 27) (ku 56)),
 o 29 (.pick (.t 25) (.c (.bool true)) (.t 28))] [17, 18, 19, 20, 24, 25])
 (.cond (.t 29)
 (.seq
 (.reg 576 [
 o 30 (.build [.nils, .nils] []),
 ⟨none, .store 2 (.t 2) (.t 30), none⟩,
 o 3 (.mv (ki 4))] [13, 4, 28, 27, 26, 23, 22, 21, 11, 12, 6, 29, 30])
 .ret)
 .skip))
 (.draw 640 [
 o 31 (.fieldA 0 (.t 4)),
 o 32 (.load none (.t 31)),
 o 33 (.mv (.t 6)),
 o 34 (.idxs (.t 33) (ki 1)),
 o 35 (.bin .sub (.t 34) (ku 48)),
 o 36 (.conv .i64 (.t 35)),
 o 37 (.buildS 1 1 4 [(.int .i64 0)] [(0, 1, (.t 36))]),
 o 38 (.append 1 8 4 (.t 32) (.t 37)),
 o 39 (.fieldA 1 (.t 4)),
 o 40 (.load none (.t 39)),
 o 41 (.mv (.t 6)),
 o 42 (.idxs (.t 41) (ki 0)),
 o 43 (.call 47 [(.c (.str [109, 118, 97])), (.t 42)]),
 o 44 (.bin .add (ki 1) (.t 43)),
 o 45 (.conv .u8 (.t 44)),
 o 46 (.buildS 1 1 5 [(.int .u8 0)] [(0, 1, (.t 45))]),
 o 47 (.append 1 1 5 (.t 40) (.t 46)),
 o 48 (.fieldA 0 (.t 4)),
 ⟨none, .store 1 (.t 48) (.t 38), none⟩,
 o 49 (.fieldA 1 (.t 4)),
 ⟨none, .store 1 (.t 49) (.t 47), none⟩]
 [[], [0], [], [2], [3], [4], [5], [1, 6], [], [8], [], [10], [11, 7], [12], [13], [14], [9, 15, 12], [0, 1, 2, 3, 4, 5, 6, 7, 8, 9], [17, 7, 16, 0, 1, 2, 3, 4, 5, 6, 7, 8, 9], [0, 1, 2, 3, 4, 5, 6, 7, 8, 9, 10, 11, 12, 13, 14, 15, 16, 17, 18], [19, 16, 18, 0, 1, 2, 3, 4, 5, 6, 7, 8, 9, 10, 11, 12, 13, 14, 15, 16, 17, 18]]
 [0, 1, 2, 3, 4, 5, 6, 7, 8, 9, 10, 11, 12, 13, 14, 15, 16, 17, 18, 19, 20] [3, 6, 29, 31, 32, 33, 34, 35, 36, 37, 38, 39, 40, 41, 42, 43, 44, 45, 46, 47, 48, 49]))))
 (.reg 704 [
 o 50 (.bin .add (.t 13) (ki 1)),
 o 13 (.mv (.t 50))] [50])))))))
 (.seq
 (.seq
 (.reg 768 [
 o 51 (.load (some 2) (.t 4)),
 o 52 (.call 18 [(.t 51)]),
 o 53 (.bin .neq (.t 52) (ki 0))] [11, 12, 13, 51, 52])
 (.cond (.t 53)
 (.seq
 (.reg 832 [
 o 54 (.build [.nils, .nils] []),
 ⟨none, .store 2 (.t 2) (.t 54), none⟩,
 o 3 (.mv (ki 4))] [4, 53, 54])
 .ret)
 .skip))
 (.seq
 (.draw 896 [
 o 55 (.fieldA 0 (.t 4)),
 o 56 (.load none (.t 55)),
 o 57 (.call 26 [(.t 56)]),
 o 58 (.fieldA 1 (.t 4)),
 o 59 (.load none (.t 58)),
 o 60 (.call 40 [(.t 59)]),
 o 61 (.build [.nils, .nils] [(0, 1, (.t 57)), (1, 1, (.t 60))]),
 ⟨none, .store 2 (.t 2) (.t 61), none⟩,
 o 3 (.mv (ki 0))]
 [[], [0], [1], [], [3], [4, 2], [2, 5], [6, 5, 0, 1, 2, 3, 4, 5, 6], [7, 0, 1, 2, 3, 4, 5, 6, 7]]
 [0, 1, 2, 3, 4, 5, 6, 7, 8] [4, 53, 55, 56, 57, 58, 59, 60, 61])
 .ret))))))
def fe36 : FnE := ⟨62, [(2, some (some 2)), (3, none)], xc36⟩
theorem ok36 : FnOk Tryd.prog 36 fe36 := fnOk_of Tryd.func36 (by kernel_rfl : chkF Tryd.prog hs36 Tryd.f36 = some fe36)
/- 37 slices.AppendSeq[[]int,int] -/
def hs37 : Hints := [(0, ([], [0, 4])), (1, ([], [1])), (2, ([], [6, 7])), (3, ([], [5, 8, 9, 10, 11])), (4, ([], [2, 6, 12]))]
def xc37 : XC :=
 (.seq
 (.reg 64 [
 o 2 (.box (.t 0)),
 o 4 (.mv (.c .nils))] [0, 4])
 (.seq
 (.seq
 (.reg 128 [
 o 6 (.mv (.t 1))] [1])
 (.block 0
 (.rangeF (.t 6) [7]
 (.reg 192 [
 o 5 (.mv (.t 7))] [6, 7])
 (.block 1
 (.reg 256 [
 o 8 (.load none (.t 2)),
 o 9 (.mv (.t 5)),
 o 10 (.buildS 1 1 4 [(.int .i64 0)] [(0, 1, (.t 9))]),
 o 11 (.append 1 8 4 (.t 8) (.t 10)),
 ⟨none, .store 1 (.t 2) (.t 11), none⟩] [5, 8, 9, 10, 11])))))
 (.seq
 (.reg 320 [
 o 12 (.load none (.t 2)),
 o 4 (.mv (.t 12))] [2, 6, 12])
 .ret)))
def fe37 : FnE := ⟨13, [(4, none)], xc37⟩
theorem ok37 : FnOk Tryd.prog 37 fe37 := fnOk_of Tryd.func37 (by kernel_rfl : chkF Tryd.prog hs37 Tryd.f37 = some fe37)
/- 38 crimp/balances.sharp$1 -/
def hs38 : Hints := [(0, ([], [7, 8, 9])), (1, ([], [10])), (2, ([], [11, 12])), (4, ([], [16, 17, 18, 19])), (5, ([], [20, 21, 22, 23])), (6, ([0, 1, 2, 3, 4, 5, 6, 7, 8, 9, 10, 11, 12, 13, 14, 15, 16, 17, 18, 19, 20, 21, 22, 23, 24, 25, 26, 27, 28, 29, 30, 31, 32, 33, 34, 35, 36, 37, 38, 39, 40, 41, 42, 43, 44, 45, 46, 47], [4, 5, 6, 24, 25, 26, 27, 28, 29, 30, 31, 44, 45, 57, 58, 65, 66])), (7, ([], [71, 72]))]
def xc38 : XC :=
 (.seq
 (.reg 64 [
 o 7 (.fieldA 0 (.t 1)),
 o 8 (.load none (.t 7)),
 o 9 (.len (.t 8)),
 o 3 (.mv (.t 9))] [7, 8, 9])
 (.seq
 (.seq
 (.reg 128 [
 o 10 (.mv (.t 3)),
 o 11 (.bin .lss (.t 10) (ki 4))] [10])
 (.cond (.t 11)
 .ret
 .skip))
 (.seq
 (.reg 192 [
 o 12 (.fieldA 0 (.t 1)),
 o 13 (.load none (.t 12)),
 o 14 (.len (.t 13)),
 o 15 (.mv (ki 0))] [11, 12])
 (.block 0
 (.loop
 (.seq
 (.reg 256 [
 o 16 (.bin .lss (.t 15) (.t 14))] [])
 (.seq
 (.cond (.t 16)
 .skip
 (.exit 0))
 (.seq
 (.block 1
 (.seq
 (.reg 320 [
 o 17 (.mv (.t 15)),
 o 18 (.idxA none 1 (.t 13) (.t 15)),
 o 19 (.load none (.t 18)),
 o 4 (.mv (.t 17)),
 o 5 (.mv (.t 19))] [16, 17, 18, 19])
 (.seq
 (.reg 384 [
 o 20 (.mv (.t 4)),
 o 21 (.bin .add (.t 20) (ki 1)),
 o 22 (.mv (.t 3)),
 o 23 (.bin .rem (.t 21) (.t 22)),
 o 6 (.mv (.t 23))] [20, 21, 22, 23])
 (.seq
 (.draw 448 [
 o 24 (.mv (.t 5)),
 o 25 (.fieldA 0 (.t 1)),
 o 26 (.load none (.t 25)),
 o 27 (.mv (.t 6)),
 o 28 (.idxA none 1 (.t 26) (.t 27)),
 o 29 (.load none (.t 28)),
 o 30 (.bin .lss (.t 24) (.t 29)),
 o 31 (.mv (.t 30)),
 oi 32 31 true (.mv (.t 5)),
 oi 33 31 true (.fieldA 0 (.t 1)),
 oi 34 31 true (.load none (.t 33)),
 oi 35 31 true (.mv (.t 4)),
 oi 36 31 true (.mv (.t 3)),
 oi 37 31 true (.bin .add (.t 35) (.t 36)),
 oi 38 31 true (.bin .sub (.t 37) (ki 1)),
 oi 39 31 true (.mv (.t 3)),
 oi 40 31 true (.bin .rem (.t 38) (.t 39)),
 oi 41 31 true (.idxA none 1 (.t 34) (.t 40)),
 oi 42 31 true (.load none (.t 41)),
 oi 43 31 true (.bin .lss (.t 32) (.t 42)),
 o 44 (.pick (.t 31) (.t 43) (.c (.bool false))),
 o 45 (.mv (.t 44)),
 oi 46 45 true (.fieldA 1 (.t 1)),
 oi 47 45 true (.load none (.t 46)),
 oi 48 45 true (.mv (.t 4)),
 oi 49 45 true (.idxA none 1 (.t 47) (.t 48)),
 oi 50 45 true (.load none (.t 49)),
 oi 51 45 true (.fieldA 1 (.t 1)),
 oi 52 45 true (.load none (.t 51)),
 oi 53 45 true (.mv (.t 6)),
 oi 54 45 true (.idxA none 1 (.t 52) (.t 53)),
 oi 55 45 true (.load none (.t 54)),
 oi 56 45 true (.bin .eql (.t 50) (.t 55)),
 o 57 (.pick (.t 45) (.t 56) (.c (.bool false))),
 o 58 (.mv (.t 57)),
 oi 59 58 true (.fieldA 1 (.t 1)),
 oi 60 58 true (.load none (.t 59)),
 oi 61 58 true (.mv (.t 4)),
 oi 62 58 true (.idxA none 1 (.t 60) (.t 61)),
 oi 63 58 true (.load none (.t 62)),
 oi 64 58 true (.bin .neq (.t 63) (ku 3)),
 o 65 (.pick (.t 58) (.t 64) (.c (.bool false))),
 o 66 (.mv (.t 65)),
 oi 67 66 true (.mv (.t 0)),
 oi 68 66 true (.mv (.t 4)),
 oi 69 66 true (.callv (.t 67) [(.t 68)]),
 oi 70 66 true (.un .not (.t 69)),
 o 71 (.pick (.t 66) (.t 70) (.c (.bool false)))]
 [[], [], [1], [], [2, 3], [4], [0, 5], [6], [7], [7], [9, 7], [7], [7], [11, 12, 7], [13, 7], [7], [14, 15, 7], [10, 16, 7], [17, 7], [8, 18, 7], [7, 19], [20, 7], [21], [22, 21], [21], [23, 24, 21], [25, 21], [21], [27, 21], [21], [28, 29, 21], [30, 21], [26, 31, 21], [21, 32], [33, 21], [34], [35, 34], [34], [36, 37, 34], [38, 34], [39, 34], [34, 40], [41, 34], [42], [42], [43, 44, 42, 42], [45, 42], [42, 46]]
 [0, 1, 2, 3, 4, 5, 6, 7, 8, 9, 10, 11, 12, 13, 14, 15, 16, 17, 18, 19, 20, 21, 22, 23, 24, 25, 26, 27, 28, 29, 30, 31, 32, 33, 34, 35, 36, 37, 38, 39, 40, 41, 42, 43, 44, 45, 46, 47] [4, 5, 6, 24, 25, 26, 27, 28, 29, 30, 31, 44, 45, 57, 58, 65, 66])
 (.cond (.t 71)
 .ret
 .skip)))))
 (.reg 512 [
 o 72 (.bin .add (.t 15) (ki 1)),
 o 15 (.mv (.t 72))] [71, 72])))))))))
def fe38 : FnE := ⟨73, [], xc38⟩
theorem ok38 : FnOk Tryd.prog 38 fe38 := fnOk_of Tryd.func38 (by kernel_rfl : chkF Tryd.prog hs38 Tryd.f38 = some fe38)
/- 39 slices.Concat[[]int,int] -/
def hs39 : Hints := [(0, ([], [2])), (4, ([], [12, 13, 14])), (5, ([], [5, 15, 16, 17, 18])), (6, ([], [19])), (7, ([], [20, 21])), (8, ([], [20, 22])), (9, ([], [3, 9, 10, 11, 23, 24])), (10, ([], [0])), (12, ([], [28, 29, 30])), (13, ([], [8, 31, 32, 33])), (14, ([], [34])), (15, ([], [6, 25, 26, 27, 35]))]
def xc39 : XC :=
 (.seq
 (.reg 64 [
 o 2 (.mv (.c .nils))] [2])
 (.seq
 (.reg 128 [
 o 3 (.mv (ki 0))] [])
 (.seq
 (.seq
 (.reg 192 [
 o 9 (.mv (.t 0)),
 o 10 (.len (.t 9)),
 o 11 (.mv (ki 0))] [])
 (.block 0
 (.loop
 (.seq
 (.reg 256 [
 o 12 (.bin .lss (.t 11) (.t 10))] [])
 (.seq
 (.cond (.t 12)
 .skip
 (.exit 0))
 (.seq
 (.block 1
 (.seq
 (.reg 320 [
 o 13 (.idxA none 1 (.t 9) (.t 11)),
 o 14 (.load none (.t 13)),
 o 5 (.mv (.t 14))] [12, 13, 14])
 (.seq
 (.reg 384 [
 o 15 (.mv (.t 3)),
 o 16 (.mv (.t 5)),
 o 17 (.len (.t 16)),
 o 18 (.bin .add (.t 15) (.t 17)),
 o 3 (.mv (.t 18))] [5, 15, 16, 17, 18])
 (.seq
 (.reg 448 [
 o 19 (.mv (.t 3)),
 o 20 (.bin .lss (.t 19) (ki 0))] [19])
 (.cond (.t 20)
 (.reg 512 [
 o 21 (.bad),
 ⟨none, .bad, none⟩] [20, 21])
 .skip)))))
 (.reg 576 [
 o 22 (.bin .add (.t 11) (ki 1)),
 o 11 (.mv (.t 22))] [20, 22])))))))
 (.seq
 (.reg 640 [
 o 23 (.mv (.t 3)),
 o 24 (.call 48 [(.c .nils), (.t 23)]),
 o 6 (.mv (.t 24))] [3, 9, 10, 11, 23, 24])
 (.seq
 (.seq
 (.reg 704 [
 o 25 (.mv (.t 0)),
 o 26 (.len (.t 25)),
 o 27 (.mv (ki 0))] [0])
 (.block 2
 (.loop
 (.seq
 (.reg 768 [
 o 28 (.bin .lss (.t 27) (.t 26))] [])
 (.seq
 (.cond (.t 28)
 .skip
 (.exit 2))
 (.seq
 (.block 3
 (.seq
 (.reg 832 [
 o 29 (.idxA none 1 (.t 25) (.t 27)),
 o 30 (.load none (.t 29)),
 o 8 (.mv (.t 30))] [28, 29, 30])
 (.reg 896 [
 o 31 (.mv (.t 6)),
 o 32 (.mv (.t 8)),
 o 33 (.append 1 8 4 (.t 31) (.t 32)),
 o 6 (.mv (.t 33))] [8, 31, 32, 33])))
 (.reg 960 [
 o 34 (.bin .add (.t 27) (ki 1)),
 o 27 (.mv (.t 34))] [34])))))))
 (.seq
 (.reg 1024 [
 o 35 (.mv (.t 6)),
 o 2 (.mv (.t 35))] [6, 25, 26, 27, 35])
 .ret))))))
def fe39 : FnE := ⟨36, [(2, none)], xc39⟩
theorem ok39 : FnOk Tryd.prog 39 fe39 := fnOk_of Tryd.func39 (by kernel_rfl : chkF Tryd.prog hs39 Tryd.f39 = some fe39)
/- 40 slices.Clip[[]crimp/api.Kind,crimp/api.Kind] -/
def hs40 : Hints := [(0, ([], [2])), (1, ([], [0, 3, 4, 5, 6, 7, 8]))]
def xc40 : XC :=
 (.seq
 (.reg 64 [
 o 2 (.mv (.c .nils))] [2])
 (.seq
 (.reg 128 [
 o 3 (.mv (.t 0)),
 o 4 (.mv (.t 0)),
 o 5 (.len (.t 4)),
 o 6 (.mv (.t 0)),
 o 7 (.len (.t 6)),
 o 8 (.slice 1 (.t 3) none (some (.t 5)) (some (.t 7))),
 o 2 (.mv (.t 8))] [0, 3, 4, 5, 6, 7, 8])
 .ret))
def fe40 : FnE := ⟨9, [(2, none)], xc40⟩
theorem ok40 : FnOk Tryd.prog 40 fe40 := fnOk_of Tryd.func40 (by kernel_rfl : chkF Tryd.prog hs40 Tryd.f40 = some fe40)
/- 41 slices.Concat[[]crimp/api.Kind,crimp/api.Kind] -/
def hs41 : Hints := [(0, ([], [2])), (4, ([], [12, 13, 14])), (5, ([], [5, 15, 16, 17, 18])), (6, ([], [19])), (7, ([], [20, 21])), (8, ([], [20, 22])), (9, ([], [3, 9, 10, 11, 23, 24])), (10, ([], [0])), (12, ([], [28, 29, 30])), (13, ([], [8, 31, 32, 33])), (14, ([], [34])), (15, ([], [6, 25, 26, 27, 35]))]
def xc41 : XC :=
 (.seq
 (.reg 64 [
 o 2 (.mv (.c .nils))] [2])
 (.seq
 (.reg 128 [
 o 3 (.mv (ki 0))] [])
 (.seq
 (.seq
 (.reg 192 [
 o 9 (.mv (.t 0)),
 o 10 (.len (.t 9)),
 o 11 (.mv (ki 0))] [])
 (.block 0
 (.loop
 (.seq
 (.reg 256 [
 o 12 (.bin .lss (.t 11) (.t 10))] [])
 (.seq
 (.cond (.t 12)
 .skip
 (.exit 0))
 (.seq
 (.block 1
 (.seq
 (.reg 320 [
 o 13 (.idxA none 1 (.t 9) (.t 11)),
 o 14 (.load none (.t 13)),
 o 5 (.mv (.t 14))] [12, 13, 14])
 (.seq
 (.reg 384 [
 o 15 (.mv (.t 3)),
 o 16 (.mv (.t 5)),
 o 17 (.len (.t 16)),
 o 18 (.bin .add (.t 15) (.t 17)),
 o 3 (.mv (.t 18))] [5, 15, 16, 17, 18])
 (.seq
 (.reg 448 [
 o 19 (.mv (.t 3)),
 o 20 (.bin .lss (.t 19) (ki 0))] [19])
 (.cond (.t 20)
 (.reg 512 [
 o 21 (.bad),
 ⟨none, .bad, none⟩] [20, 21])
 .skip)))))
 (.reg 576 [
 o 22 (.bin .add (.t 11) (ki 1)),
 o 11 (.mv (.t 22))] [20, 22])))))))
 (.seq
 (.reg 640 [
 o 23 (.mv (.t 3)),
 o 24 (.call 49 [(.c .nils), (.t 23)]),
 o 6 (.mv (.t 24))] [3, 9, 10, 11, 23, 24])
 (.seq
 (.seq
 (.reg 704 [
 o 25 (.mv (.t 0)),
 o 26 (.len (.t 25)),
 o 27 (.mv (ki 0))] [0])
 (.block 2
 (.loop
 (.seq
 (.reg 768 [
 o 28 (.bin .lss (.t 27) (.t 26))] [])
 (.seq
 (.cond (.t 28)
 .skip
 (.exit 2))
 (.seq
 (.block 3
 (.seq
 (.reg 832 [
 o 29 (.idxA none 1 (.t 25) (.t 27)),
 o 30 (.load none (.t 29)),
 o 8 (.mv (.t 30))] [28, 29, 30])
 (.reg 896 [
 o 31 (.mv (.t 6)),
 o 32 (.mv (.t 8)),
 o 33 (.append 1 1 5 (.t 31) (.t 32)),
 o 6 (.mv (.t 33))] [8, 31, 32, 33])))
 (.reg 960 [
 o 34 (.bin .add (.t 27) (ki 1)),
 o 27 (.mv (.t 34))] [34])))))))
 (.seq
 (.reg 1024 [
 o 35 (.mv (.t 6)),
 o 2 (.mv (.t 35))] [6, 25, 26, 27, 35])
 .ret))))))
def fe41 : FnE := ⟨36, [(2, none)], xc41⟩
theorem ok41 : FnOk Tryd.prog 41 fe41 := fnOk_of Tryd.func41 (by kernel_rfl : chkF Tryd.prog hs41 Tryd.f41 = some fe41)
/- 42 slices.Clone[[]int,int] -/
def hs42 : Hints := [(0, ([], [2])), (1, ([], [3])), (2, ([], [0, 4])), (3, ([], [0, 4, 5, 6, 7]))]
def xc42 : XC :=
 (.seq
 (.reg 64 [
 o 2 (.mv (.c .nils))] [2])
 (.seq
 (.seq
 (.reg 128 [
 o 3 (.mv (.t 0)),
 o 4 (.isnil false 0 (.t 3))] [3])
 (.cond (.t 4)
 (.seq
 (.reg 192 [
 o 2 (.mv (.c .nils))] [0, 4])
 .ret)
 .skip))
 (.seq
 (.reg 256 [
 o 5 (.buildS 1 0 4 [(.int .i64 0)] []),
 o 6 (.mv (.t 0)),
 o 7 (.append 1 8 4 (.t 5) (.t 6)),
 o 2 (.mv (.t 7))] [0, 4, 5, 6, 7])
 .ret)))
def fe42 : FnE := ⟨8, [(2, none)], xc42⟩
theorem ok42 : FnOk Tryd.prog 42 fe42 := fnOk_of Tryd.func42 (by kernel_rfl : chkF Tryd.prog hs42 Tryd.f42 = some fe42)
/- 43 slices.Reverse[[]int,int] -/
def hs43 : Hints := [(0, ([], [4, 5, 6])), (1, ([], [7, 8])), (3, ([0, 1, 2, 3, 4, 5, 6, 7, 8, 9, 10, 11, 12, 13, 14, 15], [9, 14, 15, 16, 17, 18, 19, 20, 21, 22, 23, 24, 25, 26, 27])), (2, ([], [10, 11, 12, 13]))]
def xc43 : XC :=
 (.seq
 (.reg 64 [
 o 4 (.mv (.t 0)),
 o 5 (.len (.t 4)),
 o 6 (.bin .sub (.t 5) (ki 1)),
 o 2 (.mv (ki 0)),
 o 3 (.mv (.t 6))] [4, 5, 6])
 (.block 0
 (.loop
 (.seq
 (.seq
 (.reg 128 [
 o 7 (.mv (.t 2)),
 o 8 (.mv (.t 3)),
 o 9 (.bin .lss (.t 7) (.t 8))] [7, 8])
 (.cond (.t 9)
 .skip
 (.exit 0)))
 (.seq
 (.block 1
 (.draw 256 [
 o 14 (.mv (.t 0)),
 o 15 (.mv (.t 2)),
 o 16 (.mv (.t 0)),
 o 17 (.mv (.t 3)),
 o 18 (.mv (.t 0)),
 o 19 (.mv (.t 3)),
 o 20 (.idxA none 1 (.t 18) (.t 19)),
 o 21 (.load none (.t 20)),
 o 22 (.mv (.t 0)),
 o 23 (.mv (.t 2)),
 o 24 (.idxA none 1 (.t 22) (.t 23)),
 o 25 (.load none (.t 24)),
 o 26 (.idxA none 1 (.t 14) (.t 15)),
 ⟨none, .store 1 (.t 26) (.t 21), none⟩,
 o 27 (.idxA none 1 (.t 16) (.t 17)),
 ⟨none, .store 1 (.t 27) (.t 25), none⟩]
 [[], [], [], [], [], [], [4, 5], [6], [], [], [8, 9], [10], [0, 1, 0, 1, 4, 5, 6, 7, 11], [12, 7, 0, 1, 4, 5, 6, 7, 11], [2, 3, 0, 1, 2, 3, 4, 5, 6, 7, 8, 9, 10, 11, 12, 13], [14, 11, 13, 0, 1, 2, 3, 4, 5, 6, 7, 8, 9, 10, 11, 12, 13]]
 [0, 1, 2, 3, 4, 5, 6, 7, 8, 9, 10, 11, 12, 13, 14, 15] [9, 14, 15, 16, 17, 18, 19, 20, 21, 22, 23, 24, 25, 26, 27]))
 (.reg 192 [
 o 10 (.mv (.t 2)),
 o 11 (.bin .add (.t 10) (ki 1)),
 o 12 (.mv (.t 3)),
 o 13 (.bin .sub (.t 12) (ki 1)),
 o 2 (.mv (.t 11)),
 o 3 (.mv (.t 13))] [10, 11, 12, 13]))))))
def fe43 : FnE := ⟨28, [], xc43⟩
theorem ok43 : FnOk Tryd.prog 43 fe43 := fnOk_of Tryd.func43 (by kernel_rfl : chkF Tryd.prog hs43 Tryd.f43 = some fe43)
/- 44 slices.Clone[[]crimp/api.Kind,crimp/api.Kind] -/
def hs44 : Hints := [(0, ([], [2])), (1, ([], [3])), (2, ([], [0, 4])), (3, ([], [0, 4, 5, 6, 7]))]
def xc44 : XC :=
 (.seq
 (.reg 64 [
 o 2 (.mv (.c .nils))] [2])
 (.seq
 (.seq
 (.reg 128 [
 o 3 (.mv (.t 0)),
 o 4 (.isnil false 0 (.t 3))] [3])
 (.cond (.t 4)
 (.seq
 (.reg 192 [
 o 2 (.mv (.c .nils))] [0, 4])
 .ret)
 .skip))
 (.seq
 (.reg 256 [
 o 5 (.buildS 1 0 5 [(.int .u8 0)] []),
 o 6 (.mv (.t 0)),
 o 7 (.append 1 1 5 (.t 5) (.t 6)),
 o 2 (.mv (.t 7))] [0, 4, 5, 6, 7])
 .ret)))
def fe44 : FnE := ⟨8, [(2, none)], xc44⟩
theorem ok44 : FnOk Tryd.prog 44 fe44 := fnOk_of Tryd.func44 (by kernel_rfl : chkF Tryd.prog hs44 Tryd.f44 = some fe44)
/- 45 slices.Reverse[[]crimp/api.Kind,crimp/api.Kind] -/
def hs45 : Hints := [(0, ([], [4, 5, 6])), (1, ([], [7, 8])), (3, ([0, 1, 2, 3, 4, 5, 6, 7, 8, 9, 10, 11, 12, 13, 14, 15], [9, 14, 15, 16, 17, 18, 19, 20, 21, 22, 23, 24, 25, 26, 27])), (2, ([], [10, 11, 12, 13]))]
def xc45 : XC :=
 (.seq
 (.reg 64 [
 o 4 (.mv (.t 0)),
 o 5 (.len (.t 4)),
 o 6 (.bin .sub (.t 5) (ki 1)),
 o 2 (.mv (ki 0)),
 o 3 (.mv (.t 6))] [4, 5, 6])
 (.block 0
 (.loop
 (.seq
 (.seq
 (.reg 128 [
 o 7 (.mv (.t 2)),
 o 8 (.mv (.t 3)),
 o 9 (.bin .lss (.t 7) (.t 8))] [7, 8])
 (.cond (.t 9)
 .skip
 (.exit 0)))
 (.seq
 (.block 1
 (.draw 256 [
 o 14 (.mv (.t 0)),
 o 15 (.mv (.t 2)),
 o 16 (.mv (.t 0)),
 o 17 (.mv (.t 3)),
 o 18 (.mv (.t 0)),
 o 19 (.mv (.t 3)),
 o 20 (.idxA none 1 (.t 18) (.t 19)),
 o 21 (.load none (.t 20)),
 o 22 (.mv (.t 0)),
 o 23 (.mv (.t 2)),
 o 24 (.idxA none 1 (.t 22) (.t 23)),
 o 25 (.load none (.t 24)),
 o 26 (.idxA none 1 (.t 14) (.t 15)),
 ⟨none, .store 1 (.t 26) (.t 21), none⟩,
 o 27 (.idxA none 1 (.t 16) (.t 17)),
 ⟨none, .store 1 (.t 27) (.t 25), none⟩]
 [[], [], [], [], [], [], [4, 5], [6], [], [], [8, 9], [10], [0, 1, 0, 1, 4, 5, 6, 7, 11], [12, 7, 0, 1, 4, 5, 6, 7, 11], [2, 3, 0, 1, 2, 3, 4, 5, 6, 7, 8, 9, 10, 11, 12, 13], [14, 11, 13, 0, 1, 2, 3, 4, 5, 6, 7, 8, 9, 10, 11, 12, 13]]
 [0, 1, 2, 3, 4, 5, 6, 7, 8, 9, 10, 11, 12, 13, 14, 15] [9, 14, 15, 16, 17, 18, 19, 20, 21, 22, 23, 24, 25, 26, 27]))
 (.reg 192 [
 o 10 (.mv (.t 2)),
 o 11 (.bin .add (.t 10) (ki 1)),
 o 12 (.mv (.t 3)),
 o 13 (.bin .sub (.t 12) (ki 1)),
 o 2 (.mv (.t 11)),
 o 3 (.mv (.t 13))] [10, 11, 12, 13]))))))
def fe45 : FnE := ⟨28, [], xc45⟩
theorem ok45 : FnOk Tryd.prog 45 fe45 := fnOk_of Tryd.func45 (by kernel_rfl : chkF Tryd.prog hs45 Tryd.f45 = some fe45)
/- 46 strings.Split -/
def hs46 : Hints := [(0, ([], [4])), (1, ([], [0, 1, 5, 6, 7]))]
def xc46 : XC :=
 (.seq
 (.reg 64 [
 o 4 (.mv (.c .nils))] [4])
 (.seq
 (.reg 128 [
 o 5 (.mv (.t 0)),
 o 6 (.mv (.t 1)),
 o 7 (.call 50 [(.t 5), (.t 6), (ki 0), (ki (-1))]),
 o 4 (.mv (.t 7))] [0, 1, 5, 6, 7])
 .ret))
def fe46 : FnE := ⟨8, [(4, none)], xc46⟩
theorem ok46 : FnOk Tryd.prog 46 fe46 := fnOk_of Tryd.func46 (by kernel_rfl : chkF Tryd.prog hs46 Tryd.f46 = some fe46)
/- 47 strings.IndexByte -/
def hs47 : Hints := [(0, ([], [4])), (1, ([], [0, 1, 5, 6, 7]))]
def xc47 : XC :=
 (.seq
 (.reg 64 [
 o 4 (.mv (ki 0))] [4])
 (.seq
 (.reg 128 [
 o 5 (.mv (.t 0)),
 o 6 (.mv (.t 1)),
 o 7 (.call 51 [(.t 5), (.t 6)]),
 o 4 (.mv (.t 7))] [0, 1, 5, 6, 7])
 .ret))
def fe47 : FnE := ⟨8, [(4, none)], xc47⟩
theorem ok47 : FnOk Tryd.prog 47 fe47 := fnOk_of Tryd.func47 (by kernel_rfl : chkF Tryd.prog hs47 Tryd.f47 = some fe47)
/- 48 slices.Grow[[]int,int] -/
def hs48 : Hints := [(0, ([], [4])), (1, ([], [5])), (2, ([], [6, 7])), (3, ([], [6, 8, 9, 10, 11, 12, 13, 14])), (4, ([], [15])), (5, ([], [1, 16, 17, 18, 19, 20, 21, 22, 23, 24, 25])), (6, ([], [0, 1, 16, 26]))]
def xc48 : XC :=
 (.seq
 (.reg 64 [
 o 4 (.mv (.c .nils))] [4])
 (.seq
 (.seq
 (.reg 128 [
 o 5 (.mv (.t 1)),
 o 6 (.bin .lss (.t 5) (ki 0))] [5])
 (.cond (.t 6)
 (.reg 192 [
 o 7 (.bad),
 ⟨none, .bad, none⟩] [6, 7])
 .skip))
 (.seq
 (.seq
 (.reg 256 [
 o 8 (.mv (.t 1)),
 o 9 (.mv (.t 0)),
 o 10 (.cap (.t 9)),
 o 11 (.mv (.t 0)),
 o 12 (.len (.t 11)),
 o 13 (.bin .sub (.t 10) (.t 12)),
 o 14 (.bin .sub (.t 8) (.t 13)),
 o 1 (.mv (.t 14))] [6, 8, 9, 10, 11, 12, 13, 14])
 (.seq
 (.reg 320 [
 o 15 (.mv (.t 1)),
 o 16 (.bin .gtr (.t 15) (ki 0))] [15])
 (.cond (.t 16)
 (.reg 384 [
 o 17 (.mv (.t 0)),
 o 18 (.mv (.t 0)),
 o 19 (.cap (.t 18)),
 o 20 (.slice 1 (.t 17) none (some (.t 19)) none),
 o 21 (.mv (.t 1)),
 o 22 (.growz 1 8 4 (.t 20) (.t 21)),
 o 23 (.mv (.t 0)),
 o 24 (.len (.t 23)),
 o 25 (.slice 1 (.t 22) none (some (.t 24)) none),
 o 0 (.mv (.t 25))] [1, 16, 17, 18, 19, 20, 21, 22, 23, 24, 25])
 .skip)))
 (.seq
 (.reg 448 [
 o 26 (.mv (.t 0)),
 o 4 (.mv (.t 26))] [0, 1, 16, 26])
 .ret))))
def fe48 : FnE := ⟨27, [(4, none)], xc48⟩
theorem ok48 : FnOk Tryd.prog 48 fe48 := fnOk_of Tryd.func48 (by kernel_rfl : chkF Tryd.prog hs48 Tryd.f48 = some fe48)
/- 49 slices.Grow[[]crimp/api.Kind,crimp/api.Kind] -/
def hs49 : Hints := [(0, ([], [4])), (1, ([], [5])), (2, ([], [6, 7])), (3, ([], [6, 8, 9, 10, 11, 12, 13, 14])), (4, ([], [15])), (5, ([], [1, 16, 17, 18, 19, 20, 21, 22, 23, 24, 25])), (6, ([], [0, 1, 16, 26]))]
def xc49 : XC :=
 (.seq
 (.reg 64 [
 o 4 (.mv (.c .nils))] [4])
 (.seq
 (.seq
 (.reg 128 [
 o 5 (.mv (.t 1)),
 o 6 (.bin .lss (.t 5) (ki 0))] [5])
 (.cond (.t 6)
 (.reg 192 [
 o 7 (.bad),
 ⟨none, .bad, none⟩] [6, 7])
 .skip))
 (.seq
 (.seq
 (.reg 256 [
 o 8 (.mv (.t 1)),
 o 9 (.mv (.t 0)),
 o 10 (.cap (.t 9)),
 o 11 (.mv (.t 0)),
 o 12 (.len (.t 11)),
 o 13 (.bin .sub (.t 10) (.t 12)),
 o 14 (.bin .sub (.t 8) (.t 13)),
 o 1 (.mv (.t 14))] [6, 8, 9, 10, 11, 12, 13, 14])
 (.seq
 (.reg 320 [
 o 15 (.mv (.t 1)),
 o 16 (.bin .gtr (.t 15) (ki 0))] [15])
 (.cond (.t 16)
 (.reg 384 [
 o 17 (.mv (.t 0)),
 o 18 (.mv (.t 0)),
 o 19 (.cap (.t 18)),
 o 20 (.slice 1 (.t 17) none (some (.t 19)) none),
 o 21 (.mv (.t 1)),
 o 22 (.growz 1 1 5 (.t 20) (.t 21)),
 o 23 (.mv (.t 0)),
 o 24 (.len (.t 23)),
 o 25 (.slice 1 (.t 22) none (some (.t 24)) none),
 o 0 (.mv (.t 25))] [1, 16, 17, 18, 19, 20, 21, 22, 23, 24, 25])
 .skip)))
 (.seq
 (.reg 448 [
 o 26 (.mv (.t 0)),
 o 4 (.mv (.t 26))] [0, 1, 16, 26])
 .ret))))
def fe49 : FnE := ⟨27, [(4, none)], xc49⟩
theorem ok49 : FnOk Tryd.prog 49 fe49 := fnOk_of Tryd.func49 (by kernel_rfl : chkF Tryd.prog hs49 Tryd.f49 = some fe49)
/- 50 strings.genSplit -/
def hs50 : Hints := [(0, ([], [8])), (1, ([], [12])), (2, ([], [0, 1, 2, 3, 13])), (3, ([], [8, 13, 14])), (4, ([], [0, 1, 2, 3, 15, 16, 17, 18])), (5, ([], [8, 15, 19])), (6, ([], [20, 21, 22, 23, 24])), (7, ([], [20, 25, 26, 27, 28, 29])), (8, ([], [30, 31])), (9, ([], [32, 33])), (11, ([], [34, 35])), (12, ([], [36, 37, 38, 39])), (13, ([], [40])), (14, ([], [41, 42, 43, 44, 45, 46, 47, 48, 49])), (15, ([], [11, 50, 51, 52, 53, 54, 55])), (16, ([], [56, 57])), (17, ([], [0, 1, 2, 3, 58, 59, 60, 61])), (18, ([], [9, 10, 62, 63, 64, 65]))]
def xc50 : XC :=
 (.seq
 (.reg 64 [
 o 8 (.mv (.c .nils))] [8])
 (.seq
 (.seq
 (.reg 128 [
 o 12 (.mv (.t 3)),
 o 13 (.bin .eql (.t 12) (ki 0))] [12])
 (.cond (.t 13)
 (.seq
 (.reg 192 [
 o 8 (.mv (.c .nils))] [0, 1, 2, 3, 13])
 .ret)
 .skip))
 (.seq
 (.seq
 (.reg 256 [
 o 14 (.mv (.t 1)),
 o 15 (.bin .eql (.t 14) (.c (.str [])))] [8, 13, 14])
 (.cond (.t 15)
 (.seq
 (.reg 320 [
 o 16 (.mv (.t 0)),
 o 17 (.mv (.t 3)),
 o 18 (.call 52 [(.t 16), (.t 17)]),
 o 8 (.mv (.t 18))] [0, 1, 2, 3, 15, 16, 17, 18])
 .ret)
 .skip))
 (.seq
 (.seq
 (.reg 384 [
 o 19 (.mv (.t 3)),
 o 20 (.bin .lss (.t 19) (ki 0))] [8, 15, 19])
 (.cond (.t 20)
 (.reg 448 [
 o 21 (.mv (.t 0)),
 o 22 (.mv (.t 1)),
 o 23 (.call 53 [(.t 21), (.t 22)]),
 o 24 (.bin .add (.t 23) (ki 1)),
 o 3 (.mv (.t 24))] [20, 21, 22, 23, 24])
 .skip))
 (.seq
 (.reg 512 [
 o 25 (.mv (.t 3)),
 o 26 (.mv (.t 0)),
 o 27 (.lens (.t 26)),
 o 28 (.bin .add (.t 27) (ki 1)),
 o 29 (.mm false [(.t 25), (.t 28)]),
 o 3 (.mv (.t 29))] [20, 25, 26, 27, 28, 29])
 (.seq
 (.reg 576 [
 o 30 (.mv (.t 3)),
 o 31 (.mks 1 16 10 [(.str [])] (.t 30) (.t 30)),
 o 9 (.mv (.t 31))] [30, 31])
 (.seq
 (.reg 640 [
 o 32 (.mv (.t 3)),
 o 33 (.bin .sub (.t 32) (ki 1)),
 o 3 (.mv (.t 33))] [32, 33])
 (.seq
 (.reg 704 [
 o 10 (.mv (ki 0))] [])
 (.seq
 (.block 0
 (.loop
 (.seq
 (.seq
 (.reg 768 [
 o 34 (.mv (.t 10)),
 o 35 (.mv (.t 3)),
 o 36 (.bin .lss (.t 34) (.t 35))] [34, 35])
 (.cond (.t 36)
 .skip
 (.exit 0)))
 (.block 1
 (.seq
 (.reg 832 [
 o 37 (.mv (.t 0)),
 o 38 (.mv (.t 1)),
 o 39 (.call 54 [(.t 37), (.t 38)]),
 o 11 (.mv (.t 39))] [36, 37, 38, 39])
 (.seq
 (.seq
 (.reg 896 [
 o 40 (.mv (.t 11)),
 o 41 (.bin .lss (.t 40) (ki 0))] [40])
 (.cond (.t 41)
 (.exit 0)
 .skip))
 (.seq
 (.reg 960 [
 o 42 (.mv (.t 9)),
 o 43 (.mv (.t 10)),
 o 44 (.mv (.t 0)),
 o 45 (.mv (.t 11)),
 o 46 (.mv (.t 2)),
 o 47 (.bin .add (.t 45) (.t 46)),
 o 48 (.slices (.t 44) none (some (.t 47))),
 o 49 (.idxA none 1 (.t 42) (.t 43)),
 ⟨none, .store 1 (.t 49) (.t 48), none⟩] [41, 42, 43, 44, 45, 46, 47, 48, 49])
 (.seq
 (.reg 1024 [
 o 50 (.mv (.t 0)),
 o 51 (.mv (.t 11)),
 o 52 (.mv (.t 1)),
 o 53 (.lens (.t 52)),
 o 54 (.bin .add (.t 51) (.t 53)),
 o 55 (.slices (.t 50) (some (.t 54)) none),
 o 0 (.mv (.t 55))] [11, 50, 51, 52, 53, 54, 55])
 (.reg 1088 [
 o 56 (.mv (.t 10)),
 o 57 (.bin .add (.t 56) (ki 1)),
 o 10 (.mv (.t 57))] [56, 57])))))))))
 (.seq
 (.reg 1152 [
 o 58 (.mv (.t 9)),
 o 59 (.mv (.t 10)),
 o 60 (.mv (.t 0)),
 o 61 (.idxA none 1 (.t 58) (.t 59)),
 ⟨none, .store 1 (.t 61) (.t 60), none⟩] [0, 1, 2, 3, 58, 59, 60, 61])
 (.seq
 (.reg 1216 [
 o 62 (.mv (.t 9)),
 o 63 (.mv (.t 10)),
 o 64 (.bin .add (.t 63) (ki 1)),
 o 65 (.slice 1 (.t 62) none (some (.t 64)) none),
 o 8 (.mv (.t 65))] [9, 10, 62, 63, 64, 65])
 .ret)))))))))))
def fe50 : FnE := ⟨66, [(8, none)], xc50⟩
theorem ok50 : FnOk Tryd.prog 50 fe50 := fnOk_of Tryd.func50 (by kernel_rfl : chkF Tryd.prog hs50 Tryd.f50 = some fe50)
/- 51 internal/stringslite.IndexByte -/
def hs51 : Hints := [(0, ([], [4])), (1, ([], [0, 1, 5, 6, 7]))]
def xc51 : XC :=
 (.seq
 (.reg 64 [
 o 4 (.mv (ki 0))] [4])
 (.seq
 (.reg 128 [
 o 5 (.mv (.t 0)),
 o 6 (.mv (.t 1)),
 o 7 (.call 55 [(.t 5), (.t 6)]),
 o 4 (.mv (.t 7))] [0, 1, 5, 6, 7])
 .ret))
def fe51 : FnE := ⟨8, [(4, none)], xc51⟩
theorem ok51 : FnOk Tryd.prog 51 fe51 := fnOk_of Tryd.func51 (by kernel_rfl : chkF Tryd.prog hs51 Tryd.f51 = some fe51)
/- 52 strings.explode -/
def hs52 : Hints := [(0, ([], [4])), (1, ([], [10, 11])), (2, ([], [12, 13, 14, 15, 16, 17])), (3, ([], [5, 18, 19])), (4, ([], [5, 18, 20, 21])), (6, ([], [22, 23, 24])), (8, ([], [25, 29, 30, 28, 31, 32, 8])), (9, ([], [33, 34, 35, 36, 37, 38])), (10, ([], [9, 39, 40, 41])), (7, ([], [26, 27])), (11, ([], [7, 42])), (12, ([], [0, 1, 43, 44, 45, 46, 47, 48])), (13, ([], [6, 0, 1, 43, 49]))]
def xc52 : XC :=
 (.seq
 (.reg 64 [
 o 4 (.mv (.c .nils))] [4])
 (.seq
 (.reg 128 [
 o 10 (.mv (.t 0)),
 o 11 (.call 56 [(.t 10)]),
 o 5 (.mv (.t 11))] [10, 11])
 (.seq
 (.seq
 (.reg 192 [
 o 12 (.mv (.t 1)),
 o 13 (.bin .lss (.t 12) (ki 0)),
 o 14 (.mv (.t 13)),
 oi 15 14 false (.mv (.t 1)),
 oi 16 14 false (.mv (.t 5)),
 oi 17 14 false (.bin .gtr (.t 15) (.t 16)),
 o 18 (.pick (.t 14) (.c (.bool true)) (.t 17))] [12, 13, 14, 15, 16, 17])
 (.cond (.t 18)
 (.reg 256 [
 o 19 (.mv (.t 5)),
 o 1 (.mv (.t 19))] [5, 18, 19])
 .skip))
 (.seq
 (.reg 320 [
 o 20 (.mv (.t 1)),
 o 21 (.mks 1 16 10 [(.str [])] (.t 20) (.t 20)),
 o 6 (.mv (.t 21))] [5, 18, 20, 21])
 (.seq
 (.seq
 (.reg 384 [
 o 7 (.mv (ki 0))] [])
 (.block 0
 (.loop
 (.seq
 (.seq
 (.reg 448 [
 o 22 (.mv (.t 7)),
 o 23 (.mv (.t 1)),
 o 24 (.bin .sub (.t 23) (ki 1)),
 o 25 (.bin .lss (.t 22) (.t 24))] [22, 23, 24])
 (.cond (.t 25)
 .skip
 (.exit 0)))
 (.seq
 (.block 1
 (.seq
 (.reg 576 [
 o 29 (.mv (.t 0)),
 o 30 (.call 57 [(.t 29)]),
 o 28 (.mv (.t 30)),
 o 31 (.ext (.t 28) 0),
 o 32 (.ext (.t 28) 1),
 o 8 (.mv (.t 31)),
 o 9 (.mv (.t 32))] [25, 29, 30, 28, 31, 32, 8])
 (.seq
 (.reg 640 [
 o 33 (.mv (.t 6)),
 o 34 (.mv (.t 7)),
 o 35 (.mv (.t 0)),
 o 36 (.mv (.t 9)),
 o 37 (.slices (.t 35) none (some (.t 36))),
 o 38 (.idxA none 1 (.t 33) (.t 34)),
 ⟨none, .store 1 (.t 38) (.t 37), none⟩] [33, 34, 35, 36, 37, 38])
 (.reg 704 [
 o 39 (.mv (.t 0)),
 o 40 (.mv (.t 9)),
 o 41 (.slices (.t 39) (some (.t 40)) none),
 o 0 (.mv (.t 41))] [9, 39, 40, 41]))))
 (.reg 512 [
 o 26 (.mv (.t 7)),
 o 27 (.bin .add (.t 26) (ki 1)),
 o 7 (.mv (.t 27))] [26, 27]))))))
 (.seq
 (.seq
 (.reg 768 [
 o 42 (.mv (.t 1)),
 o 43 (.bin .gtr (.t 42) (ki 0))] [7, 42])
 (.cond (.t 43)
 (.reg 832 [
 o 44 (.mv (.t 6)),
 o 45 (.mv (.t 1)),
 o 46 (.bin .sub (.t 45) (ki 1)),
 o 47 (.mv (.t 0)),
 o 48 (.idxA none 1 (.t 44) (.t 46)),
 ⟨none, .store 1 (.t 48) (.t 47), none⟩] [0, 1, 43, 44, 45, 46, 47, 48])
 .skip))
 (.seq
 (.reg 896 [
 o 49 (.mv (.t 6)),
 o 4 (.mv (.t 49))] [6, 0, 1, 43, 49])
 .ret)))))))
def fe52 : FnE := ⟨50, [(4, none)], xc52⟩
theorem ok52 : FnOk Tryd.prog 52 fe52 := fnOk_of Tryd.func52 (by kernel_rfl : chkF Tryd.prog hs52 Tryd.f52 = some fe52)
/- 53 strings.Count -/
def hs53 : Hints := [(0, ([], [4])), (1, ([], [7, 8])), (2, ([], [0, 1, 9, 10, 11, 12])), (3, ([], [4, 9, 13, 14])), (4, ([], [0, 1, 15, 16, 17, 18, 19])), (5, ([], [4, 15])), (6, ([], [20, 21, 22])), (7, ([], [23])), (8, ([], [5, 1, 0, 6, 24, 25])), (9, ([], [4, 24, 26, 27])), (10, ([], [6, 28, 29, 30, 31, 32, 33]))]
def xc53 : XC :=
 (.seq
 (.reg 64 [
 o 4 (.mv (ki 0))] [4])
 (.seq
 (.seq
 (.reg 128 [
 o 7 (.mv (.t 1)),
 o 8 (.lens (.t 7)),
 o 9 (.bin .eql (.t 8) (ki 0))] [7, 8])
 (.cond (.t 9)
 (.seq
 (.reg 192 [
 o 10 (.mv (.t 0)),
 o 11 (.call 56 [(.t 10)]),
 o 12 (.bin .add (.t 11) (ki 1)),
 o 4 (.mv (.t 12))] [0, 1, 9, 10, 11, 12])
 .ret)
 .skip))
 (.seq
 (.seq
 (.reg 256 [
 o 13 (.mv (.t 1)),
 o 14 (.lens (.t 13)),
 o 15 (.bin .eql (.t 14) (ki 1))] [4, 9, 13, 14])
 (.cond (.t 15)
 (.seq
 (.reg 320 [
 o 16 (.mv (.t 0)),
 o 17 (.mv (.t 1)),
 o 18 (.idxs (.t 17) (ki 0)),
 o 19 (.call 58 [(.t 16), (.t 18)]),
 o 4 (.mv (.t 19))] [0, 1, 15, 16, 17, 18, 19])
 .ret)
 .skip))
 (.seq
 (.reg 384 [
 o 5 (.mv (ki 0))] [4, 15])
 (.block 0
 (.loop
 (.block 1
 (.seq
 (.reg 448 [
 o 20 (.mv (.t 0)),
 o 21 (.mv (.t 1)),
 o 22 (.call 54 [(.t 20), (.t 21)]),
 o 6 (.mv (.t 22))] [20, 21, 22])
 (.seq
 (.seq
 (.reg 512 [
 o 23 (.mv (.t 6)),
 o 24 (.bin .eql (.t 23) (ki (-1)))] [23])
 (.cond (.t 24)
 (.seq
 (.reg 576 [
 o 25 (.mv (.t 5)),
 o 4 (.mv (.t 25))] [5, 1, 0, 6, 24, 25])
 .ret)
 .skip))
 (.seq
 (.reg 640 [
 o 26 (.mv (.t 5)),
 o 27 (.bin .add (.t 26) (ki 1)),
 o 5 (.mv (.t 27))] [4, 24, 26, 27])
 (.reg 704 [
 o 28 (.mv (.t 0)),
 o 29 (.mv (.t 6)),
 o 30 (.mv (.t 1)),
 o 31 (.lens (.t 30)),
 o 32 (.bin .add (.t 29) (.t 31)),
 o 33 (.slices (.t 28) (some (.t 32)) none),
 o 0 (.mv (.t 33))] [6, 28, 29, 30, 31, 32, 33])))))))))))
def fe53 : FnE := ⟨34, [(4, none)], xc53⟩
theorem ok53 : FnOk Tryd.prog 53 fe53 := fnOk_of Tryd.func53 (by kernel_rfl : chkF Tryd.prog hs53 Tryd.f53 = some fe53)
/- 54 strings.Index -/
def hs54 : Hints := [(0, ([], [4])), (1, ([], [0, 1, 5, 6, 7]))]
def xc54 : XC :=
 (.seq
 (.reg 64 [
 o 4 (.mv (ki 0))] [4])
 (.seq
 (.reg 128 [
 o 5 (.mv (.t 0)),
 o 6 (.mv (.t 1)),
 o 7 (.call 59 [(.t 5), (.t 6)]),
 o 4 (.mv (.t 7))] [0, 1, 5, 6, 7])
 .ret))
def fe54 : FnE := ⟨8, [(4, none)], xc54⟩
theorem ok54 : FnOk Tryd.prog 54 fe54 := fnOk_of Tryd.func54 (by kernel_rfl : chkF Tryd.prog hs54 Tryd.f54 = some fe54)
/- 56 unicode/utf8.RuneCountInString -/
def hs56 : Hints := [(1, ([], [0, 3])), (2, ([], [5])), (3, ([], [6, 7, 8])), (4, ([], [4, 9]))]
def xc56 : XC :=
 (.seq
 (.reg 64 [
 o 2 (.mv (ki 0))] [])
 (.seq
 (.seq
 (.reg 128 [
 o 3 (.mv (.t 0)),
 o 4 (.rng (.t 3))] [0, 3])
 (.block 0
 (.loop
 (.seq
 (.reg 192 [
 o 5 (.nxt (.t 4)),
 o 6 (.ext (.t 5) 0)] [5])
 (.seq
 (.cond (.t 6)
 .skip
 (.exit 0))
 (.block 1
 (.reg 256 [
 o 7 (.mv (.t 2)),
 o 8 (.bin .add (.t 7) (ki 1)),
 o 2 (.mv (.t 8))] [6, 7, 8])))))))
 (.seq
 (.reg 320 [
 o 9 (.mv (.t 2)),
 o 2 (.mv (.t 9))] [4, 9])
 .ret)))
def fe56 : FnE := ⟨10, [(2, none)], xc56⟩
theorem ok56 : FnOk Tryd.prog 56 fe56 := fnOk_of Tryd.func56 (by kernel_rfl : chkF Tryd.prog hs56 Tryd.f56 = some fe56)
/- 57 unicode/utf8.DecodeRuneInString -/
def hs57 : Hints := [(0, ([], [2, 3])), (1, ([], [4, 5, 6, 7, 8, 9])), (2, ([], [0, 10, 11, 12, 13])), (3, ([], [0, 10, 15, 16, 14, 17, 18]))]
def xc57 : XC :=
 (.seq
 (.reg 64 [
 o 2 (.mv (.c (.int .i32 0))),
 o 3 (.mv (ki 0))] [2, 3])
 (.seq
 (.seq
 (.reg 128 [
 o 4 (.mv (.t 0)),
 o 5 (.bin .neq (.t 4) (.c (.str []))),
 o 6 (.mv (.t 5)),
 oi 7 6 true (.mv (.t 0)),
 oi 8 6 true (.idxs (.t 7) (ki 0)),
 oi 9 6 true (.bin .lss (.t 8) (ku 128)),
 o 10 (.pick (.t 6) (.t 9) (.c (.bool false)))] [4, 5, 6, 7, 8, 9])
 (.cond (.t 10)
 (.seq
 (.reg 192 [
 o 11 (.mv (.t 0)),
 o 12 (.idxs (.t 11) (ki 0)),
 o 13 (.conv .i32 (.t 12)),
 o 2 (.mv (.t 13)),
 o 3 (.mv (ki 1))] [0, 10, 11, 12, 13])
 .ret)
 (.reg 256 [
 o 15 (.mv (.t 0)),
 o 16 (.call 60 [(.t 15)]),
 o 14 (.mv (.t 16)),
 o 17 (.ext (.t 14) 0),
 o 18 (.ext (.t 14) 1),
 o 2 (.mv (.t 17)),
 o 3 (.mv (.t 18))] [0, 10, 15, 16, 14, 17, 18])))
 .ret))
def fe57 : FnE := ⟨19, [(2, none), (3, none)], xc57⟩
theorem ok57 : FnOk Tryd.prog 57 fe57 := fnOk_of Tryd.func57 (by kernel_rfl : chkF Tryd.prog hs57 Tryd.f57 = some fe57)
/- 59 internal/stringslite.Index -/
def hs59 : Hints := [(0, ([], [4])), (1, ([], [14, 15])), (2, ([], [17, 18, 19, 20, 21, 22, 23])), (3, ([], [0, 1, 5, 16])), (4, ([], [16, 25, 26])), (5, ([], [0, 1, 5, 24, 27, 28, 29, 30])), (6, ([], [24, 32, 33, 34, 35])), (7, ([], [0, 1, 5, 31])), (8, ([], [31, 37, 38, 39, 40, 41, 42, 43, 44])), (9, ([], [0, 1, 5, 36, 45, 46, 47])), (10, ([], [4, 36, 48, 49])), (11, ([], [50, 51])), (13, ([], [52, 53, 54, 55, 56])), (15, ([], [57, 58])), (16, ([], [59, 60, 61, 62, 63])), (17, ([], [64, 65, 66, 67, 68, 69, 70, 71])), (18, ([], [72])), (19, ([], [1, 0, 131, 129, 130, 9, 126, 122, 125, 124, 123, 5, 106, 103, 105, 104, 10, 92, 90, 91, 85, 86, 89, 87, 88, 7, 8, 6, 11, 73])), (20, ([], [4, 11, 73, 74, 75, 76, 77])), (21, ([], [64, 78, 79, 80, 81, 82, 83, 84])), (22, ([], [1, 0, 131, 129, 130, 9, 126, 122, 125, 124, 123, 5, 106, 103, 105, 104, 10, 92, 90, 91, 85, 86, 89, 87, 88, 7, 8, 6, 93, 94])), (23, ([], [4, 93, 95, 96])), (24, ([], [97, 98])), (25, ([], [99, 100, 101, 102])), (26, ([], [1, 0, 131, 129, 130, 9, 126, 122, 125, 124, 123, 5, 106, 103, 105, 104, 10, 92, 90, 91, 85, 86, 89, 87, 88, 7, 6, 107, 108, 109, 110, 111, 112])), (27, ([], [113])), (28, ([], [8, 12, 114, 115, 116, 117])), (29, ([], [8, 12, 114])), (30, ([], [107, 118, 119, 120, 121, 127, 128])), (31, ([], [1, 0, 131, 129, 130, 9, 126, 122, 125, 124, 123, 5, 106, 103, 105, 104, 10, 92, 90, 91, 85, 86, 89, 87, 88, 7, 6, 132, 133, 134, 135, 136, 137])), (32, ([], [138])), (33, ([], [8, 13, 139])), (34, ([], [8, 13, 139, 140, 141, 142])), (35, ([], [0, 1, 5, 131, 129, 130, 126, 122, 125, 124, 123, 106, 103, 105, 104, 92, 90, 91, 85, 86, 89, 87, 88, 6, 7, 8, 9, 10]))]
def xc59 : XC :=
 (.seq
 (.reg 64 [
 o 4 (.mv (ki 0))] [4])
 (.seq
 (.reg 128 [
 o 14 (.mv (.t 1)),
 o 15 (.lens (.t 14)),
 o 5 (.mv (.t 15))] [14, 15])
 (.seq
 (.block 0
 (.seq
 (.reg 192 [
 o 17 (.mv (.t 5)),
 o 18 (.bin .eql (.t 17) (ki 0)),
 o 19 (.mv (.t 18)),
 oi 20 19 false (.mv (.t 1)),
 oi 21 19 false (.mv (.t 0)),
 oi 22 19 false (.bin .eql (.t 20) (.t 21)),
 o 23 (.pick (.t 19) (.c (.bool true)) (.t 22)),
 o 16 (.mv (.t 23))] [17, 18, 19, 20, 21, 22, 23])
 (.cond (.t 16)
 (.seq
 (.reg 256 [
 o 4 (.mv (ki 0))] [0, 1, 5, 16])
 .ret)
 (.seq
 (.reg 320 [
 o 25 (.mv (.t 5)),
 o 26 (.bin .eql (.t 25) (ki 1)),
 o 24 (.mv (.t 26))] [16, 25, 26])
 (.cond (.t 24)
 (.seq
 (.reg 384 [
 o 27 (.mv (.t 0)),
 o 28 (.mv (.t 1)),
 o 29 (.idxs (.t 28) (ki 0)),
 o 30 (.call 51 [(.t 27), (.t 29)]),
 o 4 (.mv (.t 30))] [0, 1, 5, 24, 27, 28, 29, 30])
 .ret)
 (.seq
 (.reg 448 [
 o 32 (.mv (.t 5)),
 o 33 (.mv (.t 0)),
 o 34 (.lens (.t 33)),
 o 35 (.bin .geq (.t 32) (.t 34)),
 o 31 (.mv (.t 35))] [24, 32, 33, 34, 35])
 (.cond (.t 31)
 (.seq
 (.reg 512 [
 o 4 (.mv (ki (-1)))] [0, 1, 5, 31])
 .ret)
 (.seq
 (.reg 576 [
 o 37 (.mv (.t 5)),
 o 38 (.load none (.g 1)),
 o 39 (.bin .leq (.t 37) (.t 38)),
 o 40 (.mv (.t 39)),
 oi 41 40 true (.mv (.t 0)),
 oi 42 40 true (.lens (.t 41)),
 oi 43 40 true (.bin .leq (.t 42) (ki 64)),
 o 44 (.pick (.t 40) (.t 43) (.c (.bool false))),
 o 36 (.mv (.t 44))] [31, 37, 38, 39, 40, 41, 42, 43, 44])
 (.cond (.t 36)
 (.seq
 (.reg 640 [
 o 45 (.mv (.t 0)),
 o 46 (.mv (.t 1)),
 o 47 (.call 61 [(.t 45), (.t 46)]),
 o 4 (.mv (.t 47))] [0, 1, 5, 36, 45, 46, 47])
 .ret)
 .skip)))))))))
 (.seq
 (.reg 704 [
 o 48 (.mv (.t 1)),
 o 49 (.idxs (.t 48) (ki 0)),
 o 6 (.mv (.t 49))] [4, 36, 48, 49])
 (.seq
 (.reg 768 [
 o 50 (.mv (.t 1)),
 o 51 (.idxs (.t 50) (ki 1)),
 o 7 (.mv (.t 51))] [50, 51])
 (.seq
 (.reg 832 [
 o 8 (.mv (ki 0))] [])
 (.seq
 (.reg 896 [
 o 52 (.mv (.t 0)),
 o 53 (.lens (.t 52)),
 o 54 (.mv (.t 5)),
 o 55 (.bin .sub (.t 53) (.t 54)),
 o 56 (.bin .add (.t 55) (ki 1)),
 o 9 (.mv (.t 56))] [52, 53, 54, 55, 56])
 (.seq
 (.reg 960 [
 o 10 (.mv (ki 0))] [])
 (.seq
 (.block 1
 (.loop
 (.seq
 (.seq
 (.reg 1024 [
 o 57 (.mv (.t 8)),
 o 58 (.mv (.t 9)),
 o 59 (.bin .lss (.t 57) (.t 58))] [57, 58])
 (.cond (.t 59)
 .skip
 (.exit 1)))
 (.block 2
 (.seq
 (.seq
 (.reg 1088 [
 o 60 (.mv (.t 0)),
 o 61 (.mv (.t 8)),
 o 62 (.idxs (.t 60) (.t 61)),
 o 63 (.mv (.t 6)),
 o 64 (.bin .neq (.t 62) (.t 63))] [59, 60, 61, 62, 63])
 (.cond (.t 64)
 (.seq
 (.reg 1152 [
 o 65 (.mv (.t 0)),
 o 66 (.mv (.t 8)),
 o 67 (.bin .add (.t 66) (ki 1)),
 o 68 (.mv (.t 9)),
 o 69 (.slices (.t 65) (some (.t 67)) (some (.t 68))),
 o 70 (.mv (.t 6)),
 o 71 (.call 51 [(.t 69), (.t 70)]),
 o 11 (.mv (.t 71))] [64, 65, 66, 67, 68, 69, 70, 71])
 (.seq
 (.seq
 (.reg 1216 [
 o 72 (.mv (.t 11)),
 o 73 (.bin .lss (.t 72) (ki 0))] [72])
 (.cond (.t 73)
 (.seq
 (.reg 1280 [
 o 4 (.mv (ki (-1)))] [1, 0, 131, 129, 130, 9, 126, 122, 125, 124, 123, 5, 106, 103, 105, 104, 10, 92, 90, 91, 85, 86, 89, 87, 88, 7, 8, 6, 11, 73])
 .ret)
 .skip))
 (.reg 1344 [
 o 74 (.mv (.t 8)),
 o 75 (.mv (.t 11)),
 o 76 (.bin .add (.t 75) (ki 1)),
 o 77 (.bin .add (.t 74) (.t 76)),
 o 8 (.mv (.t 77))] [4, 11, 73, 74, 75, 76, 77])))
 .skip))
 (.seq
 (.seq
 (.reg 1408 [
 o 78 (.mv (.t 0)),
 o 79 (.mv (.t 8)),
 o 80 (.bin .add (.t 79) (ki 1)),
 o 81 (.idxs (.t 78) (.t 80)),
 o 82 (.mv (.t 7)),
 o 83 (.bin .eql (.t 81) (.t 82)),
 o 84 (.mv (.t 83)),
 oi 85 84 true (.mv (.t 0)),
 oi 86 84 true (.mv (.t 8)),
 oi 87 84 true (.mv (.t 8)),
 oi 88 84 true (.mv (.t 5)),
 oi 89 84 true (.bin .add (.t 87) (.t 88)),
 oi 90 84 true (.slices (.t 85) (some (.t 86)) (some (.t 89))),
 oi 91 84 true (.mv (.t 1)),
 oi 92 84 true (.bin .eql (.t 90) (.t 91)),
 o 93 (.pick (.t 84) (.t 92) (.c (.bool false)))] [64, 78, 79, 80, 81, 82, 83, 84])
 (.cond (.t 93)
 (.seq
 (.reg 1472 [
 o 94 (.mv (.t 8)),
 o 4 (.mv (.t 94))] [1, 0, 131, 129, 130, 9, 126, 122, 125, 124, 123, 5, 106, 103, 105, 104, 10, 92, 90, 91, 85, 86, 89, 87, 88, 7, 8, 6, 93, 94])
 .ret)
 .skip))
 (.seq
 (.reg 1536 [
 o 95 (.mv (.t 8)),
 o 96 (.bin .add (.t 95) (ki 1)),
 o 8 (.mv (.t 96))] [4, 93, 95, 96])
 (.seq
 (.reg 1600 [
 o 97 (.mv (.t 10)),
 o 98 (.bin .add (.t 97) (ki 1)),
 o 10 (.mv (.t 98))] [97, 98])
 (.seq
 (.reg 1664 [
 o 99 (.mv (.t 5)),
 o 100 (.load none (.g 1)),
 o 101 (.bin .leq (.t 99) (.t 100)),
 o 102 (.mv (.t 101)),
 oi 103 102 true (.mv (.t 10)),
 oi 104 102 true (.mv (.t 8)),
 oi 105 102 true (.call 62 [(.t 104)]),
 oi 106 102 true (.bin .gtr (.t 103) (.t 105)),
 o 107 (.pick (.t 102) (.t 106) (.c (.bool false)))] [99, 100, 101, 102])
 (.cond (.t 107)
 (.seq
 (.reg 1728 [
 o 108 (.mv (.t 0)),
 o 109 (.mv (.t 8)),
 o 110 (.slices (.t 108) (some (.t 109)) none),
 o 111 (.mv (.t 1)),
 o 112 (.call 61 [(.t 110), (.t 111)]),
 o 12 (.mv (.t 112))] [1, 0, 131, 129, 130, 9, 126, 122, 125, 124, 123, 5, 106, 103, 105, 104, 10, 92, 90, 91, 85, 86, 89, 87, 88, 7, 6, 107, 108, 109, 110, 111, 112])
 (.seq
 (.seq
 (.reg 1792 [
 o 113 (.mv (.t 12)),
 o 114 (.bin .geq (.t 113) (ki 0))] [113])
 (.cond (.t 114)
 (.seq
 (.reg 1856 [
 o 115 (.mv (.t 12)),
 o 116 (.mv (.t 8)),
 o 117 (.bin .add (.t 115) (.t 116)),
 o 4 (.mv (.t 117))] [8, 12, 114, 115, 116, 117])
 .ret)
 .skip))
 (.seq
 (.reg 1920 [
 o 4 (.mv (ki (-1)))] [8, 12, 114])
 .ret)))
 (.seq
 (.reg 1984 [
 o 118 (.mv (.t 5)),
 o 119 (.load none (.g 1)),
 o 120 (.bin .gtr (.t 118) (.t 119)),
 o 121 (.mv (.t 120)),
 oi 122 121 true (.mv (.t 10)),
 oi 123 121 true (.mv (.t 8)),
 oi 124 121 true (.bin .shr (.t 123) (.c (.int .u64 4))),
 oi 125 121 true (.bin .add (ki 4) (.t 124)),
 oi 126 121 true (.bin .geq (.t 122) (.t 125)),
 o 127 (.pick (.t 121) (.t 126) (.c (.bool false))),
 o 128 (.mv (.t 127)),
 oi 129 128 true (.mv (.t 8)),
 oi 130 128 true (.mv (.t 9)),
 oi 131 128 true (.bin .lss (.t 129) (.t 130)),
 o 132 (.pick (.t 128) (.t 131) (.c (.bool false)))] [107, 118, 119, 120, 121, 127, 128])
 (.cond (.t 132)
 (.seq
 (.reg 2048 [
 o 133 (.mv (.t 0)),
 o 134 (.mv (.t 8)),
 o 135 (.slices (.t 133) (some (.t 134)) none),
 o 136 (.mv (.t 1)),
 o 137 (.call 63 [(.t 135), (.t 136)]),
 o 13 (.mv (.t 137))] [1, 0, 131, 129, 130, 9, 126, 122, 125, 124, 123, 5, 106, 103, 105, 104, 10, 92, 90, 91, 85, 86, 89, 87, 88, 7, 6, 132, 133, 134, 135, 136, 137])
 (.seq
 (.seq
 (.reg 2112 [
 o 138 (.mv (.t 13)),
 o 139 (.bin .lss (.t 138) (ki 0))] [138])
 (.cond (.t 139)
 (.seq
 (.reg 2176 [
 o 4 (.mv (ki (-1)))] [8, 13, 139])
 .ret)
 .skip))
 (.seq
 (.reg 2240 [
 o 140 (.mv (.t 8)),
 o 141 (.mv (.t 13)),
 o 142 (.bin .add (.t 140) (.t 141)),
 o 4 (.mv (.t 142))] [8, 13, 139, 140, 141, 142])
 .ret)))
 .skip))))))))))))
 (.seq
 (.reg 2304 [
 o 4 (.mv (ki (-1)))] [0, 1, 5, 131, 129, 130, 126, 122, 125, 124, 123, 106, 103, 105, 104, 92, 90, 91, 85, 86, 89, 87, 88, 6, 7, 8, 9, 10])
 .ret))))))))))
def fe59 : FnE := ⟨143, [(4, none)], xc59⟩
theorem ok59 : FnOk Tryd.prog 59 fe59 := fnOk_of Tryd.func59 (by kernel_rfl : chkF Tryd.prog hs59 Tryd.f59 = some fe59)
/- 60 unicode/utf8.decodeRuneInStringSlow -/
def hs60 : Hints := [(0, ([], [2, 3])), (1, ([], [13, 14])), (2, ([], [15])), (3, ([], [0, 4, 16])), (4, ([], [2, 3, 16, 17, 18])), (5, ([], [19, 20, 21])), (6, ([], [22])), (7, ([], [4, 5, 6, 23, 24, 25, 26, 27])), (8, ([], [0, 7, 28, 29, 30, 31, 32, 33, 34, 35])), (9, ([], [2, 3, 23, 36, 37, 38])), (10, ([], [6, 39, 40, 41, 42])), (11, ([], [4, 43, 44])), (12, ([], [0, 5, 8, 9, 45])), (13, ([], [2, 3, 45, 46, 47])), (14, ([], [9, 48, 49, 50, 51, 52, 53, 54, 55, 56])), (15, ([], [0, 5, 8, 10, 57])), (16, ([], [2, 3, 57, 58])), (17, ([], [0, 5, 8, 10, 59, 60, 61, 62, 63, 64, 65, 66, 67])), (18, ([], [2, 3, 59, 68, 69])), (19, ([], [70, 71, 72, 73, 74])), (20, ([], [0, 5, 8, 10, 11, 75])), (21, ([], [2, 3, 8, 75, 76])), (22, ([], [0, 5, 10, 11, 77, 78, 79, 80, 81, 82, 83, 84, 85, 86, 87, 88, 89, 90])), (23, ([], [2, 3, 0, 77, 91, 92])), (24, ([], [93, 94, 95, 96, 97])), (25, ([], [5, 10, 11, 12, 98])), (26, ([], [5, 10, 11, 12, 98, 99, 100, 101, 102, 103, 104, 105, 106, 107, 108, 109, 110, 111, 112, 113, 114, 115, 116]))]
def xc60 : XC :=
 (.seq
 (.reg 64 [
 o 2 (.mv (.c (.int .i32 0))),
 o 3 (.mv (ki 0))] [2, 3])
 (.seq
 (.reg 128 [
 o 13 (.mv (.t 0)),
 o 14 (.lens (.t 13)),
 o 4 (.mv (.t 14))] [13, 14])
 (.seq
 (.seq
 (.reg 192 [
 o 15 (.mv (.t 4)),
 o 16 (.bin .lss (.t 15) (ki 1))] [15])
 (.cond (.t 16)
 (.seq
 (.reg 256 [
 o 2 (.mv (.c (.int .i32 65533))),
 o 3 (.mv (ki 0))] [0, 4, 16])
 .ret)
 .skip))
 (.seq
 (.reg 320 [
 o 17 (.mv (.t 0)),
 o 18 (.idxs (.t 17) (ki 0)),
 o 5 (.mv (.t 18))] [2, 3, 16, 17, 18])
 (.seq
 (.reg 384 [
 o 19 (.mv (.t 5)),
 o 20 (.idxA (some 256) 1 (.g 2) (.t 19)),
 o 21 (.load none (.t 20)),
 o 6 (.mv (.t 21))] [19, 20, 21])
 (.seq
 (.seq
 (.reg 448 [
 o 22 (.mv (.t 6)),
 o 23 (.bin .geq (.t 22) (ku 240))] [22])
 (.cond (.t 23)
 (.seq
 (.reg 512 [
 o 24 (.mv (.t 6)),
 o 25 (.conv .i32 (.t 24)),
 o 26 (.bin .shl (.t 25) (.c (.int .u64 31))),
 o 27 (.bin .shr (.t 26) (.c (.int .u64 31))),
 o 7 (.mv (.t 27))] [4, 5, 6, 23, 24, 25, 26, 27])
 (.seq
 (.reg 576 [
 o 28 (.mv (.t 0)),
 o 29 (.idxs (.t 28) (ki 0)),
 o 30 (.conv .i32 (.t 29)),
 o 31 (.mv (.t 7)),
 o 32 (.bin .andNot (.t 30) (.t 31)),
 o 33 (.mv (.t 7)),
 o 34 (.bin .and (.c (.int .i32 65533)) (.t 33)),
 o 35 (.bin .or (.t 32) (.t 34)),
 o 2 (.mv (.t 35)),
 o 3 (.mv (ki 1))] [0, 7, 28, 29, 30, 31, 32, 33, 34, 35])
 .ret))
 .skip))
 (.seq
 (.reg 640 [
 o 36 (.mv (.t 6)),
 o 37 (.bin .and (.t 36) (ku 7)),
 o 38 (.conv .i64 (.t 37)),
 o 8 (.mv (.t 38))] [2, 3, 23, 36, 37, 38])
 (.seq
 (.reg 704 [
 o 39 (.mv (.t 6)),
 o 40 (.bin .shr (.t 39) (.c (.int .u64 4))),
 o 41 (.idxA (some 16) 2 (.g 3) (.t 40)),
 o 42 (.load (some 2) (.t 41)),
 o 9 (.new (.cells [(.int .u8 0), (.int .u8 0)]) 1 2),
 ⟨none, .store 2 (.t 9) (.t 42), none⟩] [6, 39, 40, 41, 42])
 (.seq
 (.seq
 (.reg 768 [
 o 43 (.mv (.t 4)),
 o 44 (.mv (.t 8)),
 o 45 (.bin .lss (.t 43) (.t 44))] [4, 43, 44])
 (.cond (.t 45)
 (.seq
 (.reg 832 [
 o 2 (.mv (.c (.int .i32 65533))),
 o 3 (.mv (ki 1))] [0, 5, 8, 9, 45])
 .ret)
 .skip))
 (.seq
 (.reg 896 [
 o 46 (.mv (.t 0)),
 o 47 (.idxs (.t 46) (ki 1)),
 o 10 (.mv (.t 47))] [2, 3, 45, 46, 47])
 (.seq
 (.seq
 (.reg 960 [
 o 48 (.mv (.t 10)),
 o 49 (.fieldA 0 (.t 9)),
 o 50 (.load none (.t 49)),
 o 51 (.bin .lss (.t 48) (.t 50)),
 o 52 (.mv (.t 51)),
 oi 53 52 false (.fieldA 1 (.t 9)),
 oi 54 52 false (.load none (.t 53)),
 oi 55 52 false (.mv (.t 10)),
 oi 56 52 false (.bin .lss (.t 54) (.t 55)),
 o 57 (.pick (.t 52) (.c (.bool true)) (.t 56))] [9, 48, 49, 50, 51, 52, 53, 54, 55, 56])
 (.cond (.t 57)
 (.seq
 (.reg 1024 [
 o 2 (.mv (.c (.int .i32 65533))),
 o 3 (.mv (ki 1))] [0, 5, 8, 10, 57])
 .ret)
 .skip))
 (.seq
 (.seq
 (.reg 1088 [
 o 58 (.mv (.t 8)),
 o 59 (.bin .leq (.t 58) (ki 2))] [2, 3, 57, 58])
 (.cond (.t 59)
 (.seq
 (.reg 1152 [
 o 60 (.mv (.t 5)),
 o 61 (.bin .and (.t 60) (ku 31)),
 o 62 (.conv .i32 (.t 61)),
 o 63 (.bin .shl (.t 62) (.c (.int .u64 6))),
 o 64 (.mv (.t 10)),
 o 65 (.bin .and (.t 64) (ku 63)),
 o 66 (.conv .i32 (.t 65)),
 o 67 (.bin .or (.t 63) (.t 66)),
 o 2 (.mv (.t 67)),
 o 3 (.mv (ki 2))] [0, 5, 8, 10, 59, 60, 61, 62, 63, 64, 65, 66, 67])
 .ret)
 .skip))
 (.seq
 (.reg 1216 [
 o 68 (.mv (.t 0)),
 o 69 (.idxs (.t 68) (ki 2)),
 o 11 (.mv (.t 69))] [2, 3, 59, 68, 69])
 (.seq
 (.seq
 (.reg 1280 [
 o 70 (.mv (.t 11)),
 o 71 (.bin .lss (.t 70) (ku 128)),
 o 72 (.mv (.t 71)),
 oi 73 72 false (.mv (.t 11)),
 oi 74 72 false (.bin .lss (ku 191) (.t 73)),
 o 75 (.pick (.t 72) (.c (.bool true)) (.t 74))] [70, 71, 72, 73, 74])
 (.cond (.t 75)
 (.seq
 (.reg 1344 [
 o 2 (.mv (.c (.int .i32 65533))),
 o 3 (.mv (ki 1))] [0, 5, 8, 10, 11, 75])
 .ret)
 .skip))
 (.seq
 (.seq
 (.reg 1408 [
 o 76 (.mv (.t 8)),
 o 77 (.bin .leq (.t 76) (ki 3))] [2, 3, 8, 75, 76])
 (.cond (.t 77)
 (.seq
 (.reg 1472 [
 o 78 (.mv (.t 5)),
 o 79 (.bin .and (.t 78) (ku 15)),
 o 80 (.conv .i32 (.t 79)),
 o 81 (.bin .shl (.t 80) (.c (.int .u64 12))),
 o 82 (.mv (.t 10)),
 o 83 (.bin .and (.t 82) (ku 63)),
 o 84 (.conv .i32 (.t 83)),
 o 85 (.bin .shl (.t 84) (.c (.int .u64 6))),
 o 86 (.bin .or (.t 81) (.t 85)),
 o 87 (.mv (.t 11)),
 o 88 (.bin .and (.t 87) (ku 63)),
 o 89 (.conv .i32 (.t 88)),
 o 90 (.bin .or (.t 86) (.t 89)),
 o 2 (.mv (.t 90)),
 o 3 (.mv (ki 3))] [0, 5, 10, 11, 77, 78, 79, 80, 81, 82, 83, 84, 85, 86, 87, 88, 89, 90])
 .ret)
 .skip))
 (.seq
 (.reg 1536 [
 o 91 (.mv (.t 0)),
 o 92 (.idxs (.t 91) (ki 3)),
 o 12 (.mv (.t 92))] [2, 3, 0, 77, 91, 92])
 (.seq
 (.seq
 (.reg 1600 [
 o 93 (.mv (.t 12)),
 o 94 (.bin .lss (.t 93) (ku 128)),
 o 95 (.mv (.t 94)),
 oi 96 95 false (.mv (.t 12)),
 oi 97 95 false (.bin .lss (ku 191) (.t 96)),
 o 98 (.pick (.t 95) (.c (.bool true)) (.t 97))] [93, 94, 95, 96, 97])
 (.cond (.t 98)
 (.seq
 (.reg 1664 [
 o 2 (.mv (.c (.int .i32 65533))),
 o 3 (.mv (ki 1))] [5, 10, 11, 12, 98])
 .ret)
 .skip))
 (.seq
 (.reg 1728 [
 o 99 (.mv (.t 5)),
 o 100 (.bin .and (.t 99) (ku 7)),
 o 101 (.conv .i32 (.t 100)),
 o 102 (.bin .shl (.t 101) (.c (.int .u64 18))),
 o 103 (.mv (.t 10)),
 o 104 (.bin .and (.t 103) (ku 63)),
 o 105 (.conv .i32 (.t 104)),
 o 106 (.bin .shl (.t 105) (.c (.int .u64 12))),
 o 107 (.bin .or (.t 102) (.t 106)),
 o 108 (.mv (.t 11)),
 o 109 (.bin .and (.t 108) (ku 63)),
 o 110 (.conv .i32 (.t 109)),
 o 111 (.bin .shl (.t 110) (.c (.int .u64 6))),
 o 112 (.bin .or (.t 107) (.t 111)),
 o 113 (.mv (.t 12)),
 o 114 (.bin .and (.t 113) (ku 63)),
 o 115 (.conv .i32 (.t 114)),
 o 116 (.bin .or (.t 112) (.t 115)),
 o 2 (.mv (.t 116)),
 o 3 (.mv (ki 4))] [5, 10, 11, 12, 98, 99, 100, 101, 102, 103, 104, 105, 106, 107, 108, 109, 110, 111, 112, 113, 114, 115, 116])
 .ret))))))))))))))))))
def fe60 : FnE := ⟨117, [(2, none), (3, none)], xc60⟩
theorem ok60 : FnOk Tryd.prog 60 fe60 := fnOk_of Tryd.func60 (by kernel_rfl : chkF Tryd.prog hs60 Tryd.f60 = some fe60)
/- 62 internal/bytealg.Cutover -/
def hs62 : Hints := [(0, ([], [2])), (1, ([], [0, 3, 4, 5]))]
def xc62 : XC :=
 (.seq
 (.reg 64 [
 o 2 (.mv (ki 0))] [2])
 (.seq
 (.reg 128 [
 o 3 (.mv (.t 0)),
 o 4 (.bin .add (.t 3) (ki 16)),
 o 5 (.bin .quo (.t 4) (ki 8)),
 o 2 (.mv (.t 5))] [0, 3, 4, 5])
 .ret))
def fe62 : FnE := ⟨6, [(2, none)], xc62⟩
theorem ok62 : FnOk Tryd.prog 62 fe62 := fnOk_of Tryd.func62 (by kernel_rfl : chkF Tryd.prog hs62 Tryd.f62 = some fe62)
/- 63 internal/bytealg.IndexRabinKarp[string] -/
def hs63 : Hints := [(0, ([], [4])), (1, ([], [12, 13, 11, 14, 15])), (2, ([], [16, 17])), (5, ([], [18, 19])), (7, ([], [20, 23, 24, 25, 26, 27, 28, 29])), (6, ([], [21, 22])), (8, ([], [9, 38, 36, 37, 34, 35, 30, 31, 32, 33])), (9, ([], [0, 1, 5, 6, 7, 8, 76, 74, 75, 69, 72, 73, 70, 71, 39])), (10, ([], [4, 39, 40])), (11, ([], [41, 42, 43])), (12, ([], [44, 45, 46])), (13, ([], [47, 48, 49, 50, 51, 52])), (14, ([], [53, 54, 55, 56, 57, 58, 59, 60, 61, 62])), (15, ([], [63, 64])), (16, ([], [65, 66, 67, 68])), (17, ([], [7, 76, 74, 75, 1, 69, 72, 73, 70, 71, 0, 5, 10, 6, 8, 77, 78, 79, 80])), (18, ([], [0, 1, 5, 6, 7, 8, 76, 74, 75, 69, 72, 73, 70, 71, 10]))]
def xc63 : XC :=
 (.seq
 (.reg 64 [
 o 4 (.mv (ki 0))] [4])
 (.seq
 (.reg 128 [
 o 12 (.mv (.t 1)),
 o 13 (.call 64 [(.t 12)]),
 o 11 (.mv (.t 13)),
 o 14 (.ext (.t 11) 0),
 o 15 (.ext (.t 11) 1),
 o 5 (.mv (.t 14)),
 o 6 (.mv (.t 15))] [12, 13, 11, 14, 15])
 (.seq
 (.reg 192 [
 o 16 (.mv (.t 1)),
 o 17 (.lens (.t 16)),
 o 7 (.mv (.t 17))] [16, 17])
 (.seq
 (.reg 256 [
 o 8 (.mv (.c (.int .u32 0)))] [])
 (.seq
 (.seq
 (.reg 320 [
 o 9 (.mv (ki 0))] [])
 (.block 0
 (.loop
 (.seq
 (.seq
 (.reg 384 [
 o 18 (.mv (.t 9)),
 o 19 (.mv (.t 7)),
 o 20 (.bin .lss (.t 18) (.t 19))] [18, 19])
 (.cond (.t 20)
 .skip
 (.exit 0)))
 (.seq
 (.block 1
 (.reg 512 [
 o 23 (.mv (.t 8)),
 o 24 (.bin .mul (.t 23) (.c (.int .u32 16777619))),
 o 25 (.mv (.t 0)),
 o 26 (.mv (.t 9)),
 o 27 (.idxs (.t 25) (.t 26)),
 o 28 (.conv .u32 (.t 27)),
 o 29 (.bin .add (.t 24) (.t 28)),
 o 8 (.mv (.t 29))] [20, 23, 24, 25, 26, 27, 28, 29]))
 (.reg 448 [
 o 21 (.mv (.t 9)),
 o 22 (.bin .add (.t 21) (ki 1)),
 o 9 (.mv (.t 22))] [21, 22]))))))
 (.seq
 (.seq
 (.reg 576 [
 o 30 (.mv (.t 8)),
 o 31 (.mv (.t 5)),
 o 32 (.bin .eql (.t 30) (.t 31)),
 o 33 (.mv (.t 32)),
 oi 34 33 true (.mv (.t 0)),
 oi 35 33 true (.mv (.t 7)),
 oi 36 33 true (.slices (.t 34) none (some (.t 35))),
 oi 37 33 true (.mv (.t 1)),
 oi 38 33 true (.bin .eql (.t 36) (.t 37)),
 o 39 (.pick (.t 33) (.t 38) (.c (.bool false)))] [9, 38, 36, 37, 34, 35, 30, 31, 32, 33])
 (.cond (.t 39)
 (.seq
 (.reg 640 [
 o 4 (.mv (ki 0))] [0, 1, 5, 6, 7, 8, 76, 74, 75, 69, 72, 73, 70, 71, 39])
 .ret)
 .skip))
 (.seq
 (.seq
 (.reg 704 [
 o 40 (.mv (.t 7)),
 o 10 (.mv (.t 40))] [4, 39, 40])
 (.block 2
 (.loop
 (.seq
 (.seq
 (.reg 768 [
 o 41 (.mv (.t 10)),
 o 42 (.mv (.t 0)),
 o 43 (.lens (.t 42)),
 o 44 (.bin .lss (.t 41) (.t 43))] [41, 42, 43])
 (.cond (.t 44)
 .skip
 (.exit 2)))
 (.block 3
 (.seq
 (.reg 832 [
 o 45 (.mv (.t 8)),
 o 46 (.bin .mul (.t 45) (.c (.int .u32 16777619))),
 o 8 (.mv (.t 46))] [44, 45, 46])
 (.seq
 (.reg 896 [
 o 47 (.mv (.t 8)),
 o 48 (.mv (.t 0)),
 o 49 (.mv (.t 10)),
 o 50 (.idxs (.t 48) (.t 49)),
 o 51 (.conv .u32 (.t 50)),
 o 52 (.bin .add (.t 47) (.t 51)),
 o 8 (.mv (.t 52))] [47, 48, 49, 50, 51, 52])
 (.seq
 (.reg 960 [
 o 53 (.mv (.t 8)),
 o 54 (.mv (.t 6)),
 o 55 (.mv (.t 0)),
 o 56 (.mv (.t 10)),
 o 57 (.mv (.t 7)),
 o 58 (.bin .sub (.t 56) (.t 57)),
 o 59 (.idxs (.t 55) (.t 58)),
 o 60 (.conv .u32 (.t 59)),
 o 61 (.bin .mul (.t 54) (.t 60)),
 o 62 (.bin .sub (.t 53) (.t 61)),
 o 8 (.mv (.t 62))] [53, 54, 55, 56, 57, 58, 59, 60, 61, 62])
 (.seq
 (.reg 1024 [
 o 63 (.mv (.t 10)),
 o 64 (.bin .add (.t 63) (ki 1)),
 o 10 (.mv (.t 64))] [63, 64])
 (.seq
 (.reg 1088 [
 o 65 (.mv (.t 8)),
 o 66 (.mv (.t 5)),
 o 67 (.bin .eql (.t 65) (.t 66)),
 o 68 (.mv (.t 67)),
 oi 69 68 true (.mv (.t 0)),
 oi 70 68 true (.mv (.t 10)),
 oi 71 68 true (.mv (.t 7)),
 oi 72 68 true (.bin .sub (.t 70) (.t 71)),
 oi 73 68 true (.mv (.t 10)),
 oi 74 68 true (.slices (.t 69) (some (.t 72)) (some (.t 73))),
 oi 75 68 true (.mv (.t 1)),
 oi 76 68 true (.bin .eql (.t 74) (.t 75)),
 o 77 (.pick (.t 68) (.t 76) (.c (.bool false)))] [65, 66, 67, 68])
 (.cond (.t 77)
 (.seq
 (.reg 1152 [
 o 78 (.mv (.t 10)),
 o 79 (.mv (.t 7)),
 o 80 (.bin .sub (.t 78) (.t 79)),
 o 4 (.mv (.t 80))] [7, 76, 74, 75, 1, 69, 72, 73, 70, 71, 0, 5, 10, 6, 8, 77, 78, 79, 80])
 .ret)
 .skip)))))))))))
 (.seq
 (.reg 1216 [
 o 4 (.mv (ki (-1)))] [0, 1, 5, 6, 7, 8, 76, 74, 75, 69, 72, 73, 70, 71, 10])
 .ret))))))))
def fe63 : FnE := ⟨81, [(4, none)], xc63⟩
theorem ok63 : FnOk Tryd.prog 63 fe63 := fnOk_of Tryd.func63 (by kernel_rfl : chkF Tryd.prog hs63 Tryd.f63 = some fe63)
/- 64 internal/bytealg.hashStr[string] -/
def hs64 : Hints := [(0, ([], [2, 3])), (3, ([], [9, 10, 11])), (5, ([], [12, 15, 16, 17, 18, 19, 20, 21])), (4, ([], [13, 14])), (6, ([], [5])), (7, ([], [0, 22, 23])), (8, ([], [24])), (10, ([], [25, 28, 29])), (11, ([], [30, 31, 32, 33])), (12, ([], [30, 34, 35, 36])), (9, ([], [26, 27])), (13, ([], [4, 6, 7, 8, 37, 38]))]
def xc64 : XC :=
 (.seq
 (.reg 64 [
 o 2 (.mv (.c (.int .u32 0))),
 o 3 (.mv (.c (.int .u32 0)))] [2, 3])
 (.seq
 (.reg 128 [
 o 4 (.mv (.c (.int .u32 0)))] [])
 (.seq
 (.seq
 (.reg 192 [
 o 5 (.mv (ki 0))] [])
 (.block 0
 (.loop
 (.seq
 (.seq
 (.reg 256 [
 o 9 (.mv (.t 5)),
 o 10 (.mv (.t 0)),
 o 11 (.lens (.t 10)),
 o 12 (.bin .lss (.t 9) (.t 11))] [9, 10, 11])
 (.cond (.t 12)
 .skip
 (.exit 0)))
 (.seq
 (.block 1
 (.reg 384 [
 o 15 (.mv (.t 4)),
 o 16 (.bin .mul (.t 15) (.c (.int .u32 16777619))),
 o 17 (.mv (.t 0)),
 o 18 (.mv (.t 5)),
 o 19 (.idxs (.t 17) (.t 18)),
 o 20 (.conv .u32 (.t 19)),
 o 21 (.bin .add (.t 16) (.t 20)),
 o 4 (.mv (.t 21))] [12, 15, 16, 17, 18, 19, 20, 21]))
 (.reg 320 [
 o 13 (.mv (.t 5)),
 o 14 (.bin .add (.t 13) (ki 1)),
 o 5 (.mv (.t 14))] [13, 14]))))))
 (.seq
 (.reg 448 [
 o 6 (.mv (.c (.int .u32 1))),
 o 7 (.mv (.c (.int .u32 16777619)))] [5])
 (.seq
 (.seq
 (.reg 512 [
 o 22 (.mv (.t 0)),
 o 23 (.lens (.t 22)),
 o 8 (.mv (.t 23))] [0, 22, 23])
 (.block 2
 (.loop
 (.seq
 (.seq
 (.reg 576 [
 o 24 (.mv (.t 8)),
 o 25 (.bin .gtr (.t 24) (ki 0))] [24])
 (.cond (.t 25)
 .skip
 (.exit 2)))
 (.seq
 (.block 3
 (.seq
 (.seq
 (.reg 704 [
 o 28 (.mv (.t 8)),
 o 29 (.bin .and (.t 28) (ki 1)),
 o 30 (.bin .neq (.t 29) (ki 0))] [25, 28, 29])
 (.cond (.t 30)
 (.reg 768 [
 o 31 (.mv (.t 6)),
 o 32 (.mv (.t 7)),
 o 33 (.bin .mul (.t 31) (.t 32)),
 o 6 (.mv (.t 33))] [30, 31, 32, 33])
 .skip))
 (.reg 832 [
 o 34 (.mv (.t 7)),
 o 35 (.mv (.t 7)),
 o 36 (.bin .mul (.t 34) (.t 35)),
 o 7 (.mv (.t 36))] [30, 34, 35, 36])))
 (.reg 640 [
 o 26 (.mv (.t 8)),
 o 27 (.bin .shr (.t 26) (.c (.int .u64 1))),
 o 8 (.mv (.t 27))] [26, 27]))))))
 (.seq
 (.reg 896 [
 o 37 (.mv (.t 4)),
 o 38 (.mv (.t 6)),
 o 2 (.mv (.t 37)),
 o 3 (.mv (.t 38))] [4, 6, 7, 8, 37, 38])
 .ret))))))
def fe64 : FnE := ⟨39, [(2, none), (3, none)], xc64⟩
theorem ok64 : FnOk Tryd.prog 64 fe64 := fnOk_of Tryd.func64 (by kernel_rfl : chkF Tryd.prog hs64 Tryd.f64 = some fe64)
/- 82 crimp/balances.lacks$1 -/
def hs82 : Hints := [(0, ([], [0, 1, 2]))]
def xc82 : XC :=
 (.seq
 (.reg 64 [
 o 1 (.box (.t 0)),
 o 2 (.mv (.c (.bool false)))] [0, 1, 2])
 (.seq
 (.reg 128 [
 o 2 (.mv (.c (.bool false)))] [])
 .ret))
def fe82 : FnE := ⟨3, [(2, none)], xc82⟩
theorem ok82 : FnOk Tryd.prog 82 fe82 := fnOk_of Tryd.func82 (by kernel_rfl : chkF Tryd.prog hs82 Tryd.f82 = some fe82)
/- 83 crimp/balances.unbalanced -/
def hs83 : Hints := [(0, ([], [0, 2])), (1, ([], [1, 3, 4, 5, 6]))]
def xc83 : XC :=
 (.seq
 (.reg 64 [
 o 1 (.box (.t 0)),
 o 2 (.mv (.c (.bool false)))] [0, 2])
 (.seq
 (.reg 128 [
 o 3 (.load (some 2) (.t 1)),
 o 4 (.call 24 [(.t 3)]),
 o 5 (.len (.t 4)),
 o 6 (.bin .eql (.t 5) (ki 0)),
 o 2 (.mv (.t 6))] [1, 3, 4, 5, 6])
 .ret))
def fe83 : FnE := ⟨7, [(2, none)], xc83⟩
theorem ok83 : FnOk Tryd.prog 83 fe83 := fnOk_of Tryd.func83 (by kernel_rfl : chkF Tryd.prog hs83 Tryd.f83 = some fe83)
/- 84 crimp/balances.pointed -/
def hs84 : Hints := [(0, ([], [0])), (1, ([], [1, 3])), (2, ([], [4, 5])), (3, ([], [4]))]
def xc84 : XC :=
 (.seq
 (.reg 64 [
 o 1 (.box (.t 0)),
 o 2 (.new (.cells [(.bool false)]) 1 1)] [0])
 (.seq
 (.seq
 (.reg 128 [
 o 3 (.load (some 2) (.t 1)),
 o 4 (.call 28 [(.t 3)])] [1, 3])
 (.block 0
 (.rangeF (.t 4) [5]
 .skip
 (.block 1
 (.seq
 (.reg 192 [
 ⟨none, .store 1 (.t 2) (.c (.bool true)), none⟩] [4, 5])
 .ret)))))
 (.seq
 (.reg 256 [
 ⟨none, .store 1 (.t 2) (.c (.bool false)), none⟩] [4])
 .ret)))
def fe84 : FnE := ⟨6, [(2, some none)], xc84⟩
theorem ok84 : FnOk Tryd.prog 84 fe84 := fnOk_of Tryd.func84 (by kernel_rfl : chkF Tryd.prog hs84 Tryd.f84 = some fe84)
def xpl : List (Nat × FnE) := [(3, fe3), (4, fe4), (5, fe5), (6, fe6), (7, fe7), (8, fe8), (9, fe9), (10, fe10), (11, fe11), (12, fe12), (13, fe13), (14, fe14), (15, fe15), (16, fe16), (17, fe17), (18, fe18), (19, fe19), (20, fe20), (21, fe21), (22, fe22), (23, fe23), (24, fe24), (25, fe25), (26, fe26), (27, fe27), (28, fe28), (29, fe29), (30, fe30), (31, fe31), (32, fe32), (33, fe33), (34, fe34), (35, fe35), (36, fe36), (37, fe37), (38, fe38), (39, fe39), (40, fe40), (41, fe41), (42, fe42), (43, fe43), (44, fe44), (45, fe45), (46, fe46), (47, fe47), (48, fe48), (49, fe49), (50, fe50), (51, fe51), (52, fe52), (53, fe53), (54, fe54), (56, fe56), (57, fe57), (59, fe59), (60, fe60), (62, fe62), (63, fe63), (64, fe64), (82, fe82), (83, fe83), (84, fe84)]
theorem xpOk : XpOk Tryd.prog (aget xpl) := xpOk_of (l := xpl) ⟨ok3, ok4, ok5, ok6, ok7, ok8, ok9, ok10, ok11, ok12, ok13, ok14, ok15, ok16, ok17, ok18, ok19, ok20, ok21, ok22, ok23, ok24, ok25, ok26, ok27, ok28, ok29, ok30, ok31, ok32, ok33, ok34, ok35, ok36, ok37, ok38, ok39, ok40, ok41, ok42, ok43, ok44, ok45, ok46, ok47, ok48, ok49, ok50, ok51, ok52, ok53, ok54, ok56, ok57, ok59, ok60, ok62, ok63, ok64, ok82, ok83, ok84, trivial⟩
end Go.Proofs.YtidpllnmghgomaaDoor.X
