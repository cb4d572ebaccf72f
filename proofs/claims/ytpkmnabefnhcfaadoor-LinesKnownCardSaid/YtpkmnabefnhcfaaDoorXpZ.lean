/-
  The functions of the translation, with types resolved (made by a program).
-/
import Derived.Test.YtpkmnabefnhcfaaDoorProg
import Derived.Test.YtpkmnabefnhcfaaDoorAb5
import Derived.KernelRfl
set_option linter.unusedVariables false
set_option maxRecDepth 1000000
namespace Go.Proofs.YtpkmnabefnhcfaaDoor.X
open Go Go.Ab

abbrev o (d : Nat) (x : XOp) : XO := ⟨some d, x, none⟩
abbrev oi (d g : Nat) (b : Bool) (x : XOp) : XO := ⟨some d, x, some (g, b)⟩
abbrev ki (n : Int) : Opd := .c (.int .i64 n)
abbrev ku (n : Int) : Opd := .c (.int .u8 n)
abbrev tt (n : Nat) : Opd := .t n

/- 3 crimp/crimplaw01.LinesSide -/
def hs3 : Hints := [(0, ([], [0, 1, 4])), (1, ([], [11, 12, 13])), (2, ([], [14, 15, 16])), (3, ([], [17, 18, 19, 20, 21, 22, 23, 24, 25, 26, 27, 28, 29, 30, 31, 32, 33, 34, 35, 36, 37, 38, 39, 40, 41, 42, 43, 44, 45])), (4, ([], [2, 3, 5, 6, 46])), (5, ([], [4, 46, 47, 48, 49])), (6, ([], [5, 6, 50, 51, 52, 53, 54])), (7, ([], [2, 3, 7, 55, 56, 57, 58, 59, 60])), (8, ([], [4, 55])), (9, ([], [61, 62, 63])), (10, ([], [64])), (11, ([], [64, 65, 66, 67])), (12, ([], [68])), (13, ([], [3, 68, 70, 71, 72, 69, 73, 74])), (14, ([], [2, 7, 8, 9, 10, 75, 76, 77, 78, 79, 80, 81, 82, 83, 84, 85, 86, 87, 88, 89, 90, 91, 92]))]
def xc3 : XC :=
 (.seq
 (.reg 64 [
 o 2 (.box (.t 0)),
 o 3 (.box (.t 1)),
 o 4 (.mv (.c (.bool false)))] [0, 1, 4])
 (.seq
 (.reg 128 [
 o 11 (.load (some 2) (.t 2)),
 o 12 (.call 11 [(.t 11)]),
 o 13 (.bin .eql (.t 12) (ki 1)),
 o 5 (.mv (.t 13))] [11, 12, 13])
 (.seq
 (.reg 192 [
 o 14 (.load (some 2) (.t 3)),
 o 15 (.call 12 [(.t 14)]),
 o 16 (.bin .eql (.t 15) (ki 1)),
 o 6 (.mv (.t 16))] [14, 15, 16])
 (.seq
 (.seq
 (.reg 256 [
 o 17 (.load (some 2) (.t 2)),
 o 18 (.call 13 [(.t 17)]),
 o 19 (.bin .eql (.t 18) (ki 0)),
 o 20 (.mv (.t 5)),
 o 21 (.eqb true (.t 19) (.t 20)),
 o 22 (.mv (.t 21)),
 oi 23 22 false (.mv (.t 5)),
 oi 24 22 false (.un .not (.t 23)),
 oi 25 22 false (.mv (.t 24)),
 oi 26 25 true (.load (some 2) (.t 2)),
 oi 27 25 true (.call 13 [(.t 26)]),
 oi 28 25 true (.bin .neq (.t 27) (ki 1)),
 oi 29 22 false (.pick (.t 25) (.t 28) (.c (.bool false))),
 o 30 (.pick (.t 22) (.c (.bool true)) (.t 29)),
 o 31 (.mv (.t 30)),
 oi 32 31 false (.load (some 2) (.t 3)),
 oi 33 31 false (.call 14 [(.t 32)]),
 oi 34 31 false (.bin .eql (.t 33) (ki 0)),
 oi 35 31 false (.mv (.t 6)),
 oi 36 31 false (.eqb true (.t 34) (.t 35)),
 o 37 (.pick (.t 31) (.c (.bool true)) (.t 36)),
 o 38 (.mv (.t 37)),
 oi 39 38 false (.mv (.t 6)),
 oi 40 38 false (.un .not (.t 39)),
 oi 41 38 false (.mv (.t 40)),
 oi 42 41 true (.load (some 2) (.t 3)),
 oi 43 41 true (.call 14 [(.t 42)]),
 oi 44 41 true (.bin .neq (.t 43) (ki 1)),
 oi 45 38 false (.pick (.t 41) (.t 44) (.c (.bool false))),
 o 46 (.pick (.t 38) (.c (.bool true)) (.t 45))] [17, 18, 19, 20, 21, 22, 23, 24, 25, 26, 27, 28, 29, 30, 31, 32, 33, 34, 35, 36, 37, 38, 39, 40, 41, 42, 43, 44, 45])
 (.cond (.t 46)
 (.seq
 (.reg 320 [
 o 4 (.mv (.c (.bool false)))] [2, 3, 5, 6, 46])
 .ret)
 .skip))
 (.seq
 (.reg 384 [
 o 47 (.load (some 2) (.t 2)),
 o 48 (.load (some 2) (.t 3)),
 o 49 (.call 15 [(.t 47), (.t 48)]),
 o 7 (.mv (.t 49))] [4, 46, 47, 48, 49])
 (.seq
 (.seq
 (.reg 448 [
 o 50 (.mv (.t 5)),
 o 51 (.un .not (.t 50)),
 o 52 (.mv (.t 51)),
 oi 53 52 false (.mv (.t 6)),
 oi 54 52 false (.un .not (.t 53)),
 o 55 (.pick (.t 52) (.c (.bool true)) (.t 54))] [5, 6, 50, 51, 52, 53, 54])
 (.cond (.t 55)
 (.seq
 (.reg 512 [
 o 56 (.mv (.t 7)),
 o 57 (.bin .eql (.t 56) (ki 0)),
 o 58 (.mv (.t 57)),
 oi 59 58 true (.call 16 []),
 o 60 (.pick (.t 58) (.t 59) (.c (.bool false))),
 o 4 (.mv (.t 60))] [2, 3, 7, 55, 56, 57, 58, 59, 60])
 .ret)
 .skip))
 (.seq
 (.reg 576 [
 o 8 (.mv (ki 0))] [4, 55])
 (.seq
 (.seq
 (.reg 640 [
 o 61 (.load (some 2) (.t 2)),
 o 62 (.load (some 2) (.t 3)),
 o 63 (.call 17 [(.t 61), (.t 62)]),
 o 64 (.bin .lss (.t 63) (ki 0))] [61, 62, 63])
 (.cond (.t 64)
 (.reg 704 [
 o 8 (.mv (ki (-1)))] [64])
 .skip))
 (.seq
 (.seq
 (.reg 768 [
 o 65 (.load (some 2) (.t 2)),
 o 66 (.load (some 2) (.t 3)),
 o 67 (.call 17 [(.t 65), (.t 66)]),
 o 68 (.bin .gtr (.t 67) (ki 0))] [64, 65, 66, 67])
 (.cond (.t 68)
 (.reg 832 [
 o 8 (.mv (ki 1))] [68])
 .skip))
 (.seq
 (.reg 896 [
 o 70 (.load (some 2) (.t 2)),
 o 71 (.load (some 2) (.t 3)),
 o 72 (.call 18 [(.t 70), (.t 71)]),
 o 69 (.mv (.t 72)),
 o 73 (.ext (.t 69) 0),
 o 74 (.ext (.t 69) 1),
 o 9 (.new (.cells [(.int .i64 0), (.int .i64 0)]) 1 2),
 ⟨none, .store 2 (.t 9) (.t 73), none⟩,
 o 10 (.mv (.t 74))] [3, 68, 70, 71, 72, 69, 73, 74])
 (.seq
 (.reg 960 [
 o 75 (.mv (.t 7)),
 o 76 (.mv (.t 8)),
 o 77 (.bin .eql (.t 75) (.t 76)),
 o 78 (.mv (.t 77)),
 oi 79 78 true (.mv (.t 10)),
 oi 80 78 true (.bin .neq (.t 79) (ki 0)),
 oi 81 78 true (.mv (.t 80)),
 oi 82 81 false (.load (some 2) (.t 2)),
 oi 83 81 false (.load (some 2) (.t 9)),
 oi 84 81 false (.call 15 [(.t 82), (.t 83)]),
 oi 85 81 false (.mv (.t 8)),
 oi 86 81 false (.un .neg (.t 85)),
 oi 87 81 false (.bin .eql (.t 84) (.t 86)),
 oi 88 78 true (.pick (.t 81) (.c (.bool true)) (.t 87)),
 o 89 (.pick (.t 78) (.t 88) (.c (.bool false))),
 o 90 (.mv (.t 89)),
 oi 91 90 true (.call 16 []),
 o 92 (.pick (.t 90) (.t 91) (.c (.bool false))),
 o 4 (.mv (.t 92))] [2, 7, 8, 9, 10, 75, 76, 77, 78, 79, 80, 81, 82, 83, 84, 85, 86, 87, 88, 89, 90, 91, 92])
 .ret)))))))))))
def fe3 : FnE := ⟨93, [(4, none)], xc3⟩
theorem ok3 : FnOk Tryd.prog 3 fe3 := fnOk_of Tryd.func3 (by kernel_rfl : chkF Tryd.prog hs3 Tryd.f3 = some fe3)
/- 4 crimp/crimplaw01.LinesReflect -/
def hs4 : Hints := [(0, ([], [0, 1, 4])), (1, ([], [13, 14, 15, 12, 16, 17])), (2, ([], [18, 19, 20, 21, 22, 23, 24])), (3, ([], [2, 3, 5, 6, 25, 26, 27, 28, 29, 30, 31, 32, 33, 34, 35])), (4, ([], [4, 25, 36, 37, 38])), (5, ([], [39, 40])), (6, ([], [2, 3, 5, 6, 7, 41, 42, 43, 44, 45, 46, 47, 48, 49, 50, 51])), (7, ([], [4, 41, 53, 54, 55, 52, 56, 57])), (8, ([], [59, 60, 61, 58, 62, 63])), (9, ([0, 1, 2, 3, 4, 5, 6, 7, 8, 9, 10, 11, 12, 13, 14, 15, 16, 17, 18, 19, 20, 21, 22, 23, 24, 25, 26, 27, 28, 29, 30, 31, 32, 33, 34, 35, 36, 37, 38, 39, 40, 41, 42, 43, 44, 45, 46], [2, 3, 5, 6, 7, 8, 9, 10, 11, 64, 65, 66, 67, 68, 69, 70, 71, 72, 73, 74, 75, 76, 77, 78, 79, 80, 81, 82, 83, 84, 85, 86, 87, 88, 89, 90, 91, 92, 93, 94, 95, 96, 97, 98, 99, 100, 101, 102, 103, 104, 105, 106, 107, 108, 109]))]
def xc4 : XC :=
 (.seq
 (.reg 64 [
 o 2 (.box (.t 0)),
 o 3 (.box (.t 1)),
 o 4 (.mv (.c (.bool false)))] [0, 1, 4])
 (.seq
 (.reg 128 [
 o 13 (.load (some 2) (.t 2)),
 o 14 (.load (some 2) (.t 3)),
 o 15 (.call 18 [(.t 13), (.t 14)]),
 o 12 (.mv (.t 15)),
 o 16 (.ext (.t 12) 0),
 o 17 (.ext (.t 12) 1),
 o 5 (.new (.cells [(.int .i64 0), (.int .i64 0)]) 1 2),
 ⟨none, .store 2 (.t 5) (.t 16), none⟩,
 o 6 (.mv (.t 17))] [13, 14, 15, 12, 16, 17])
 (.seq
 (.seq
 (.reg 192 [
 o 18 (.load (some 2) (.t 2)),
 o 19 (.call 11 [(.t 18)]),
 o 20 (.bin .eql (.t 19) (ki 0)),
 o 21 (.mv (.t 20)),
 oi 22 21 false (.load (some 2) (.t 3)),
 oi 23 21 false (.call 12 [(.t 22)]),
 oi 24 21 false (.bin .eql (.t 23) (ki 0)),
 o 25 (.pick (.t 21) (.c (.bool true)) (.t 24))] [18, 19, 20, 21, 22, 23, 24])
 (.cond (.t 25)
 (.seq
 (.reg 256 [
 o 26 (.mv (.t 6)),
 o 27 (.bin .eql (.t 26) (ki 1)),
 o 28 (.mv (.t 27)),
 oi 29 28 true (.load (some 2) (.t 5)),
 oi 30 28 true (.build [(.int .i64 0), (.int .i64 0)] []),
 oi 31 28 true (.eqa false 2 [(0, 0), (1, 0)] (.t 29) (.t 30)),
 o 32 (.pick (.t 28) (.t 31) (.c (.bool false))),
 o 33 (.mv (.t 32)),
 oi 34 33 true (.call 16 []),
 o 35 (.pick (.t 33) (.t 34) (.c (.bool false))),
 o 4 (.mv (.t 35))] [2, 3, 5, 6, 25, 26, 27, 28, 29, 30, 31, 32, 33, 34, 35])
 .ret)
 .skip))
 (.seq
 (.reg 320 [
 o 36 (.load (some 2) (.t 2)),
 o 37 (.load (some 2) (.t 3)),
 o 38 (.call 19 [(.t 36), (.t 37)]),
 o 7 (.new (.cells [(.int .i64 0), (.int .i64 0)]) 1 2),
 ⟨none, .store 2 (.t 7) (.t 38), none⟩] [4, 25, 36, 37, 38])
 (.seq
 (.seq
 (.reg 384 [
 o 39 (.load (some 2) (.t 7)),
 o 40 (.call 12 [(.t 39)]),
 o 41 (.bin .eql (.t 40) (ki 0))] [39, 40])
 (.cond (.t 41)
 (.seq
 (.reg 448 [
 o 42 (.mv (.t 6)),
 o 43 (.bin .eql (.t 42) (ki 3)),
 o 44 (.mv (.t 43)),
 oi 45 44 true (.load (some 2) (.t 5)),
 oi 46 44 true (.build [(.int .i64 0), (.int .i64 0)] []),
 oi 47 44 true (.eqa false 2 [(0, 0), (1, 0)] (.t 45) (.t 46)),
 o 48 (.pick (.t 44) (.t 47) (.c (.bool false))),
 o 49 (.mv (.t 48)),
 oi 50 49 true (.call 16 []),
 o 51 (.pick (.t 49) (.t 50) (.c (.bool false))),
 o 4 (.mv (.t 51))] [2, 3, 5, 6, 7, 41, 42, 43, 44, 45, 46, 47, 48, 49, 50, 51])
 .ret)
 .skip))
 (.seq
 (.reg 512 [
 o 53 (.load (some 2) (.t 2)),
 o 54 (.load (some 2) (.t 5)),
 o 55 (.call 18 [(.t 53), (.t 54)]),
 o 52 (.mv (.t 55)),
 o 56 (.ext (.t 52) 0),
 o 57 (.ext (.t 52) 1),
 o 8 (.new (.cells [(.int .i64 0), (.int .i64 0)]) 1 2),
 ⟨none, .store 2 (.t 8) (.t 56), none⟩,
 o 9 (.mv (.t 57))] [4, 41, 53, 54, 55, 52, 56, 57])
 (.seq
 (.reg 576 [
 o 59 (.fieldA 0 (.t 2)),
 o 60 (.load none (.t 59)),
 o 61 (.call 20 [(.t 60)]),
 o 58 (.mv (.t 61)),
 o 62 (.ext (.t 58) 0),
 o 63 (.ext (.t 58) 1),
 o 10 (.mv (.t 62)),
 o 11 (.mv (.t 63))] [59, 60, 61, 58, 62, 63])
 (.seq
 (.draw 640 [
 o 64 (.mv (.t 6)),
 o 65 (.bin .eql (.t 64) (ki 0)),
 o 66 (.mv (.t 65)),
 oi 67 66 true (.load (some 2) (.t 5)),
 oi 68 66 true (.load (some 2) (.t 7)),
 oi 69 66 true (.eqa false 2 [(0, 0), (1, 0)] (.t 67) (.t 68)),
 o 70 (.pick (.t 66) (.t 69) (.c (.bool false))),
 o 71 (.mv (.t 70)),
 oi 72 71 true (.mv (.t 9)),
 oi 73 71 true (.bin .eql (.t 72) (ki 0)),
 o 74 (.pick (.t 71) (.t 73) (.c (.bool false))),
 o 75 (.mv (.t 74)),
 oi 76 75 true (.load (some 2) (.t 8)),
 oi 77 75 true (.load (some 2) (.t 3)),
 oi 78 75 true (.eqa false 2 [(0, 0), (1, 0)] (.t 76) (.t 77)),
 o 79 (.pick (.t 75) (.t 78) (.c (.bool false))),
 o 80 (.mv (.t 79)),
 oi 81 80 true (.mv (.t 11)),
 oi 82 80 true (.fieldA 0 (.t 5)),
 oi 83 80 true (.load none (.t 82)),
 oi 84 80 true (.fieldA 0 (.t 3)),
 oi 85 80 true (.load none (.t 84)),
 oi 86 80 true (.bin .sub (.t 83) (.t 85)),
 oi 87 80 true (.bin .mul (.t 81) (.t 86)),
 oi 88 80 true (.mv (.t 10)),
 oi 89 80 true (.fieldA 1 (.t 5)),
 oi 90 80 true (.load none (.t 89)),
 oi 91 80 true (.fieldA 1 (.t 3)),
 oi 92 80 true (.load none (.t 91)),
 oi 93 80 true (.bin .sub (.t 90) (.t 92)),
 oi 94 80 true (.bin .mul (.t 88) (.t 93)),
 oi 95 80 true (.bin .eql (.t 87) (.t 94)),
 o 96 (.pick (.t 80) (.t 95) (.c (.bool false))),
 o 97 (.mv (.t 96)),
 oi 98 97 true (.load (some 2) (.t 2)),
 oi 99 97 true (.load (some 2) (.t 5)),
 oi 100 97 true (.call 17 [(.t 98), (.t 99)]),
 oi 101 97 true (.load (some 2) (.t 2)),
 oi 102 97 true (.load (some 2) (.t 3)),
 oi 103 97 true (.call 17 [(.t 101), (.t 102)]),
 oi 104 97 true (.un .neg (.t 103)),
 oi 105 97 true (.bin .eql (.t 100) (.t 104)),
 o 106 (.pick (.t 97) (.t 105) (.c (.bool false))),
 o 107 (.mv (.t 106)),
 oi 108 107 true (.call 16 []),
 o 109 (.pick (.t 107) (.t 108) (.c (.bool false))),
 o 4 (.mv (.t 109))]
 [[], [0], [1], [2], [2], [3, 4, 2], [2, 5], [6, 2], [7], [8, 7], [7, 9], [10, 7], [11], [11], [12, 13, 11], [11, 14], [15, 11], [16], [16], [18, 16], [16], [20, 16], [19, 21, 16], [17, 22, 16], [16], [16], [25, 16], [16], [27, 16], [26, 28, 16], [24, 29, 16], [23, 30, 16], [16, 31], [32, 16], [33], [33], [34, 35, 33, 33], [33], [33], [37, 38, 36, 33], [39, 33], [36, 40, 33], [33, 41], [42, 39], [43, 43], [43, 44], [45, 44, 0, 1, 2, 3, 4, 5, 6, 7, 8, 9, 10, 11, 12, 13, 14, 15, 16, 17, 18, 19, 20, 21, 22, 23, 24, 25, 26, 27, 28, 29, 30, 31, 32, 33, 34, 35, 36, 37, 38, 39, 40, 41, 42, 43, 44, 45]]
 [0, 1, 2, 3, 4, 5, 6, 7, 8, 9, 10, 11, 12, 13, 14, 15, 16, 17, 18, 19, 20, 21, 22, 23, 24, 25, 26, 27, 28, 29, 30, 31, 32, 33, 34, 35, 36, 37, 38, 39, 40, 41, 42, 43, 44, 45, 46] [2, 3, 5, 6, 7, 8, 9, 10, 11, 64, 65, 66, 67, 68, 69, 70, 71, 72, 73, 74, 75, 76, 77, 78, 79, 80, 81, 82, 83, 84, 85, 86, 87, 88, 89, 90, 91, 92, 93, 94, 95, 96, 97, 98, 99, 100, 101, 102, 103, 104, 105, 106, 107, 108, 109])
 .ret))))))))
def fe4 : FnE := ⟨110, [(4, none)], xc4⟩
theorem ok4 : FnOk Tryd.prog 4 fe4 := fnOk_of Tryd.func4 (by kernel_rfl : chkF Tryd.prog hs4 Tryd.f4 = some fe4)
/- 5 crimp/crimplaw01.LinesImage -/
def hs5 : Hints := [(0, ([], [0, 1, 4])), (1, ([], [18, 19, 20, 17, 21, 22])), (2, ([], [23, 24, 25, 26, 27, 28, 29])), (3, ([], [2, 3, 5, 6, 30, 31, 32, 33, 34, 35, 36, 37, 38, 39, 40])), (4, ([], [4, 30, 42, 43, 41, 44, 45])), (5, ([0, 1, 2, 3, 4, 5, 6, 7, 8, 9], [7, 8, 46, 47, 48, 49, 50, 51])), (8, ([], [52])), (10, ([], [53, 57, 58, 56, 59, 60])), (11, ([], [61, 62, 63, 64, 65, 66, 67, 68, 69, 70, 71, 72, 73, 74, 75, 76, 77, 78])), (12, ([], [13, 14, 79, 80, 81, 82, 83, 84, 85, 86, 87, 88, 89, 90, 91])), (9, ([], [13, 14, 79, 54, 55])), (13, ([], [9, 10, 12, 92, 93])), (14, ([], [2, 3, 5, 6, 11, 103, 100, 98, 99, 128, 125, 123, 124, 120, 119, 116, 114, 115, 94, 95, 96, 97, 101, 102, 104])), (15, ([], [4, 2, 103, 100, 98, 99, 94, 106, 107, 108, 105, 109, 110])), (16, ([], [3, 5, 6, 11, 128, 125, 123, 124, 120, 119, 116, 114, 115, 15, 16, 111, 112, 113, 117, 118, 121, 122, 126, 127, 129]))]
def xc5 : XC :=
 (.seq
 (.reg 64 [
 o 2 (.box (.t 0)),
 o 3 (.box (.t 1)),
 o 4 (.mv (.c (.bool false)))] [0, 1, 4])
 (.seq
 (.reg 128 [
 o 18 (.load (some 2) (.t 2)),
 o 19 (.load (some 2) (.t 3)),
 o 20 (.call 21 [(.t 18), (.t 19)]),
 o 17 (.mv (.t 20)),
 o 21 (.ext (.t 17) 0),
 o 22 (.ext (.t 17) 1),
 o 5 (.new (.cells [(.int .u8 0), (.int .i64 0)]) 1 2),
 ⟨none, .store 2 (.t 5) (.t 21), none⟩,
 o 6 (.mv (.t 22))] [18, 19, 20, 17, 21, 22])
 (.seq
 (.seq
 (.reg 192 [
 o 23 (.load (some 2) (.t 2)),
 o 24 (.call 11 [(.t 23)]),
 o 25 (.bin .eql (.t 24) (ki 0)),
 o 26 (.mv (.t 25)),
 oi 27 26 false (.load (some 2) (.t 3)),
 oi 28 26 false (.call 11 [(.t 27)]),
 oi 29 26 false (.bin .eql (.t 28) (ki 0)),
 o 30 (.pick (.t 26) (.c (.bool true)) (.t 29))] [23, 24, 25, 26, 27, 28, 29])
 (.cond (.t 30)
 (.seq
 (.reg 256 [
 o 31 (.mv (.t 6)),
 o 32 (.bin .eql (.t 31) (ki 1)),
 o 33 (.mv (.t 32)),
 oi 34 33 true (.load (some 2) (.t 5)),
 oi 35 33 true (.build [(.int .u8 0), (.int .i64 0)] []),
 oi 36 33 true (.eqa false 2 [(0, 0), (1, 0)] (.t 34) (.t 35)),
 o 37 (.pick (.t 33) (.t 36) (.c (.bool false))),
 o 38 (.mv (.t 37)),
 oi 39 38 true (.call 16 []),
 o 40 (.pick (.t 38) (.t 39) (.c (.bool false))),
 o 4 (.mv (.t 40))] [2, 3, 5, 6, 30, 31, 32, 33, 34, 35, 36, 37, 38, 39, 40])
 .ret)
 .skip))
 (.seq
 (.reg 320 [
 o 42 (.load (some 2) (.t 3)),
 o 43 (.call 22 [(.t 42)]),
 o 41 (.mv (.t 43)),
 o 44 (.ext (.t 41) 0),
 o 45 (.ext (.t 41) 1),
 o 7 (.new (.cells [(.int .i64 0), (.int .i64 0)]) 1 2),
 o 8 (.new (.cells [(.int .i64 0), (.int .i64 0)]) 1 2),
 ⟨none, .store 2 (.t 7) (.t 44), none⟩,
 ⟨none, .store 2 (.t 8) (.t 45), none⟩] [4, 30, 42, 43, 41, 44, 45])
 (.seq
 (.draw 384 [
 o 46 (.load (some 2) (.t 2)),
 o 47 (.load (some 2) (.t 7)),
 o 48 (.call 19 [(.t 46), (.t 47)]),
 o 49 (.load (some 2) (.t 2)),
 o 50 (.load (some 2) (.t 8)),
 o 51 (.call 19 [(.t 49), (.t 50)]),
 o 9 (.new (.cells [(.int .i64 0), (.int .i64 0)]) 1 2),
 o 10 (.new (.cells [(.int .i64 0), (.int .i64 0)]) 1 2),
 ⟨none, .store 2 (.t 9) (.t 48), none⟩,
 ⟨none, .store 2 (.t 10) (.t 51), none⟩]
 [[], [], [0, 1], [], [], [3, 4, 2], [], [], [6, 2, 5, 0, 1, 2, 6, 7], [7, 5, 8, 0, 1, 2, 3, 4, 5, 6, 7, 8]]
 [0, 1, 2, 3, 4, 5, 6, 7, 8, 9] [7, 8, 46, 47, 48, 49, 50, 51])
 (.seq
 (.reg 448 [
 o 11 (.new (.cells [(.int .u8 0), (.int .i64 0)]) 1 2)] [])
 (.seq
 (.seq
 (.reg 512 [
 o 12 (.mv (ku 1))] [])
 (.block 0
 (.loop
 (.seq
 (.seq
 (.reg 576 [
 o 52 (.mv (.t 12)),
 o 53 (.bin .leq (.t 52) (ku 4))] [52])
 (.cond (.t 53)
 .skip
 (.exit 0)))
 (.seq
 (.block 1
 (.seq
 (.reg 704 [
 o 57 (.mv (.t 12)),
 o 58 (.call 20 [(.t 57)]),
 o 56 (.mv (.t 58)),
 o 59 (.ext (.t 56) 0),
 o 60 (.ext (.t 56) 1),
 o 13 (.mv (.t 59)),
 o 14 (.mv (.t 60))] [53, 57, 58, 56, 59, 60])
 (.seq
 (.reg 768 [
 o 61 (.mv (.t 13)),
 o 62 (.fieldA 0 (.t 9)),
 o 63 (.load none (.t 62)),
 o 64 (.bin .mul (.t 61) (.t 63)),
 o 65 (.mv (.t 14)),
 o 66 (.fieldA 1 (.t 9)),
 o 67 (.load none (.t 66)),
 o 68 (.bin .mul (.t 65) (.t 67)),
 o 69 (.bin .add (.t 64) (.t 68)),
 o 70 (.mv (.t 13)),
 o 71 (.fieldA 0 (.t 10)),
 o 72 (.load none (.t 71)),
 o 73 (.bin .mul (.t 70) (.t 72)),
 o 74 (.mv (.t 14)),
 o 75 (.fieldA 1 (.t 10)),
 o 76 (.load none (.t 75)),
 o 77 (.bin .mul (.t 74) (.t 76)),
 o 78 (.bin .add (.t 73) (.t 77)),
 o 79 (.bin .eql (.t 69) (.t 78))] [61, 62, 63, 64, 65, 66, 67, 68, 69, 70, 71, 72, 73, 74, 75, 76, 77, 78])
 (.cond (.t 79)
 (.reg 832 [
 o 80 (.mv (.t 12)),
 o 81 (.mv (.t 13)),
 o 82 (.fieldA 0 (.t 9)),
 o 83 (.load none (.t 82)),
 o 84 (.bin .mul (.t 81) (.t 83)),
 o 85 (.mv (.t 14)),
 o 86 (.fieldA 1 (.t 9)),
 o 87 (.load none (.t 86)),
 o 88 (.bin .mul (.t 85) (.t 87)),
 o 89 (.bin .add (.t 84) (.t 88)),
 o 90 (.bin .quo (.t 89) (ki 2)),
 o 91 (.build [(.int .u8 0), (.int .i64 0)] [(0, 1, (.t 80)), (1, 1, (.t 90))]),
 ⟨none, .store 2 (.t 11) (.t 91), none⟩] [13, 14, 79, 80, 81, 82, 83, 84, 85, 86, 87, 88, 89, 90, 91])
 .skip))))
 (.reg 640 [
 o 54 (.mv (.t 12)),
 o 55 (.bin .add (.t 54) (ku 1)),
 o 12 (.mv (.t 55))] [13, 14, 79, 54, 55]))))))
 (.seq
 (.seq
 (.reg 896 [
 o 92 (.load (some 2) (.t 11)),
 o 93 (.call 11 [(.t 92)]),
 o 94 (.bin .eql (.t 93) (ki 0))] [9, 10, 12, 92, 93])
 (.cond (.t 94)
 (.seq
 (.reg 960 [
 o 95 (.mv (.t 6)),
 o 96 (.bin .eql (.t 95) (ki 3)),
 o 97 (.mv (.t 96)),
 oi 98 97 true (.load (some 2) (.t 5)),
 oi 99 97 true (.build [(.int .u8 0), (.int .i64 0)] []),
 oi 100 97 true (.eqa false 2 [(0, 0), (1, 0)] (.t 98) (.t 99)),
 o 101 (.pick (.t 97) (.t 100) (.c (.bool false))),
 o 102 (.mv (.t 101)),
 oi 103 102 true (.call 16 []),
 o 104 (.pick (.t 102) (.t 103) (.c (.bool false))),
 o 4 (.mv (.t 104))] [2, 3, 5, 6, 11, 103, 100, 98, 99, 128, 125, 123, 124, 120, 119, 116, 114, 115, 94, 95, 96, 97, 101, 102, 104])
 .ret)
 .skip))
 (.seq
 (.reg 1024 [
 o 106 (.load (some 2) (.t 2)),
 o 107 (.load (some 2) (.t 5)),
 o 108 (.call 21 [(.t 106), (.t 107)]),
 o 105 (.mv (.t 108)),
 o 109 (.ext (.t 105) 0),
 o 110 (.ext (.t 105) 1),
 o 15 (.new (.cells [(.int .u8 0), (.int .i64 0)]) 1 2),
 ⟨none, .store 2 (.t 15) (.t 109), none⟩,
 o 16 (.mv (.t 110))] [4, 2, 103, 100, 98, 99, 94, 106, 107, 108, 105, 109, 110])
 (.seq
 (.reg 1088 [
 o 111 (.mv (.t 6)),
 o 112 (.bin .eql (.t 111) (ki 0)),
 o 113 (.mv (.t 112)),
 oi 114 113 true (.load (some 2) (.t 5)),
 oi 115 113 true (.load (some 2) (.t 11)),
 oi 116 113 true (.eqa false 2 [(0, 0), (1, 0)] (.t 114) (.t 115)),
 o 117 (.pick (.t 113) (.t 116) (.c (.bool false))),
 o 118 (.mv (.t 117)),
 oi 119 118 true (.mv (.t 16)),
 oi 120 118 true (.bin .eql (.t 119) (ki 0)),
 o 121 (.pick (.t 118) (.t 120) (.c (.bool false))),
 o 122 (.mv (.t 121)),
 oi 123 122 true (.load (some 2) (.t 15)),
 oi 124 122 true (.load (some 2) (.t 3)),
 oi 125 122 true (.eqa false 2 [(0, 0), (1, 0)] (.t 123) (.t 124)),
 o 126 (.pick (.t 122) (.t 125) (.c (.bool false))),
 o 127 (.mv (.t 126)),
 oi 128 127 true (.call 16 []),
 o 129 (.pick (.t 127) (.t 128) (.c (.bool false))),
 o 4 (.mv (.t 129))] [3, 5, 6, 11, 128, 125, 123, 124, 120, 119, 116, 114, 115, 15, 16, 111, 112, 113, 117, 118, 121, 122, 126, 127, 129])
 .ret))))))))))
def fe5 : FnE := ⟨130, [(4, none)], xc5⟩
theorem ok5 : FnOk Tryd.prog 5 fe5 := fnOk_of Tryd.func5 (by kernel_rfl : chkF Tryd.prog hs5 Tryd.f5 = some fe5)
/- 6 crimp/crimplaw01.LinesMeet -/
def hs6 : Hints := [(0, ([], [0, 1, 4])), (1, ([], [10, 11, 12, 9, 13, 14])), (2, ([], [16, 17, 18, 19, 20, 21, 22, 23])), (3, ([], [2, 3, 5, 6, 15, 24, 25, 26, 27, 28, 29, 30, 31, 32, 33])), (4, ([], [15, 35, 36, 37, 38, 39])), (5, ([], [2, 3, 5, 6, 34, 40, 41, 42, 43, 44, 45, 46, 47, 48, 49])), (6, ([], [4, 34, 51, 52, 53, 50, 54, 55])), (7, ([], [2, 3, 5, 6, 89, 86, 85, 84, 81, 83, 82, 80, 77, 76, 74, 75, 71, 70, 68, 69, 65, 63, 64, 60, 59, 7, 8, 56, 57, 58, 61, 62, 66, 67, 72, 73, 78, 79, 87, 88, 90]))]
def xc6 : XC :=
 (.seq
 (.reg 64 [
 o 2 (.box (.t 0)),
 o 3 (.box (.t 1)),
 o 4 (.mv (.c (.bool false)))] [0, 1, 4])
 (.seq
 (.reg 128 [
 o 10 (.load (some 2) (.t 2)),
 o 11 (.load (some 2) (.t 3)),
 o 12 (.call 23 [(.t 10), (.t 11)]),
 o 9 (.mv (.t 12)),
 o 13 (.ext (.t 9) 0),
 o 14 (.ext (.t 9) 1),
 o 5 (.new (.cells [(.int .i64 0), (.int .i64 0)]) 1 2),
 ⟨none, .store 2 (.t 5) (.t 13), none⟩,
 o 6 (.mv (.t 14))] [10, 11, 12, 9, 13, 14])
 (.seq
 (.block 0
 (.seq
 (.reg 192 [
 o 16 (.load (some 2) (.t 2)),
 o 17 (.call 11 [(.t 16)]),
 o 18 (.bin .eql (.t 17) (ki 0)),
 o 19 (.mv (.t 18)),
 oi 20 19 false (.load (some 2) (.t 3)),
 oi 21 19 false (.call 11 [(.t 20)]),
 oi 22 19 false (.bin .eql (.t 21) (ki 0)),
 o 23 (.pick (.t 19) (.c (.bool true)) (.t 22)),
 o 15 (.mv (.t 23))] [16, 17, 18, 19, 20, 21, 22, 23])
 (.cond (.t 15)
 (.seq
 (.reg 256 [
 o 24 (.mv (.t 6)),
 o 25 (.bin .eql (.t 24) (ki 1)),
 o 26 (.mv (.t 25)),
 oi 27 26 true (.load (some 2) (.t 5)),
 oi 28 26 true (.build [(.int .i64 0), (.int .i64 0)] []),
 oi 29 26 true (.eqa false 2 [(0, 0), (1, 0)] (.t 27) (.t 28)),
 o 30 (.pick (.t 26) (.t 29) (.c (.bool false))),
 o 31 (.mv (.t 30)),
 oi 32 31 true (.call 16 []),
 o 33 (.pick (.t 31) (.t 32) (.c (.bool false))),
 o 4 (.mv (.t 33))] [2, 3, 5, 6, 15, 24, 25, 26, 27, 28, 29, 30, 31, 32, 33])
 .ret)
 (.seq
 (.reg 320 [
 o 35 (.fieldA 0 (.t 2)),
 o 36 (.load none (.t 35)),
 o 37 (.fieldA 0 (.t 3)),
 o 38 (.load none (.t 37)),
 o 39 (.bin .eql (.t 36) (.t 38)),
 o 34 (.mv (.t 39))] [15, 35, 36, 37, 38, 39])
 (.cond (.t 34)
 (.seq
 (.reg 384 [
 o 40 (.mv (.t 6)),
 o 41 (.bin .eql (.t 40) (ki 7)),
 o 42 (.mv (.t 41)),
 oi 43 42 true (.load (some 2) (.t 5)),
 oi 44 42 true (.build [(.int .i64 0), (.int .i64 0)] []),
 oi 45 42 true (.eqa false 2 [(0, 0), (1, 0)] (.t 43) (.t 44)),
 o 46 (.pick (.t 42) (.t 45) (.c (.bool false))),
 o 47 (.mv (.t 46)),
 oi 48 47 true (.call 16 []),
 o 49 (.pick (.t 47) (.t 48) (.c (.bool false))),
 o 4 (.mv (.t 49))] [2, 3, 5, 6, 34, 40, 41, 42, 43, 44, 45, 46, 47, 48, 49])
 .ret)
 .skip)))))
 (.seq
 (.reg 448 [
 o 51 (.load (some 2) (.t 3)),
 o 52 (.load (some 2) (.t 2)),
 o 53 (.call 23 [(.t 51), (.t 52)]),
 o 50 (.mv (.t 53)),
 o 54 (.ext (.t 50) 0),
 o 55 (.ext (.t 50) 1),
 o 7 (.new (.cells [(.int .i64 0), (.int .i64 0)]) 1 2),
 ⟨none, .store 2 (.t 7) (.t 54), none⟩,
 o 8 (.mv (.t 55))] [4, 34, 51, 52, 53, 50, 54, 55])
 (.seq
 (.reg 512 [
 o 56 (.mv (.t 6)),
 o 57 (.bin .eql (.t 56) (ki 0)),
 o 58 (.mv (.t 57)),
 oi 59 58 true (.mv (.t 8)),
 oi 60 58 true (.bin .eql (.t 59) (ki 0)),
 o 61 (.pick (.t 58) (.t 60) (.c (.bool false))),
 o 62 (.mv (.t 61)),
 oi 63 62 true (.load (some 2) (.t 5)),
 oi 64 62 true (.load (some 2) (.t 7)),
 oi 65 62 true (.eqa false 2 [(0, 0), (1, 0)] (.t 63) (.t 64)),
 o 66 (.pick (.t 62) (.t 65) (.c (.bool false))),
 o 67 (.mv (.t 66)),
 oi 68 67 true (.load (some 2) (.t 2)),
 oi 69 67 true (.load (some 2) (.t 5)),
 oi 70 67 true (.call 17 [(.t 68), (.t 69)]),
 oi 71 67 true (.bin .eql (.t 70) (ki 0)),
 o 72 (.pick (.t 67) (.t 71) (.c (.bool false))),
 o 73 (.mv (.t 72)),
 oi 74 73 true (.load (some 2) (.t 3)),
 oi 75 73 true (.load (some 2) (.t 5)),
 oi 76 73 true (.call 17 [(.t 74), (.t 75)]),
 oi 77 73 true (.bin .eql (.t 76) (ki 0)),
 o 78 (.pick (.t 73) (.t 77) (.c (.bool false))),
 o 79 (.mv (.t 78)),
 oi 80 79 true (.fieldA 0 (.t 5)),
 oi 81 79 true (.load none (.t 80)),
 oi 82 79 true (.fieldA 1 (.t 5)),
 oi 83 79 true (.load none (.t 82)),
 oi 84 79 true (.bin .add (.t 81) (.t 83)),
 oi 85 79 true (.bin .rem (.t 84) (ki 2)),
 oi 86 79 true (.bin .eql (.t 85) (ki 0)),
 o 87 (.pick (.t 79) (.t 86) (.c (.bool false))),
 o 88 (.mv (.t 87)),
 oi 89 88 true (.call 16 []),
 o 90 (.pick (.t 88) (.t 89) (.c (.bool false))),
 o 4 (.mv (.t 90))] [2, 3, 5, 6, 89, 86, 85, 84, 81, 83, 82, 80, 77, 76, 74, 75, 71, 70, 68, 69, 65, 63, 64, 60, 59, 7, 8, 56, 57, 58, 61, 62, 66, 67, 72, 73, 78, 79, 87, 88, 90])
 .ret)))))
def fe6 : FnE := ⟨91, [(4, none)], xc6⟩
theorem ok6 : FnOk Tryd.prog 6 fe6 := fnOk_of Tryd.func6 (by kernel_rfl : chkF Tryd.prog hs6 Tryd.f6 = some fe6)
/- 7 crimp/crimplaw01.LinesThrough -/
def hs7 : Hints := [(0, ([], [1, 4])), (1, ([], [17, 18, 19, 16, 20, 21])), (2, ([], [22, 23, 24, 25, 26, 27, 28, 29, 30, 31])), (3, ([], [0, 3, 5, 6, 32, 33, 34, 35, 36, 37, 38, 39, 40, 41, 42])), (4, ([], [4, 32, 44, 45, 43, 46, 47])), (5, ([], [7, 8, 48, 49, 50, 51, 52, 53, 54, 55, 56])), (7, ([], [57, 58, 59, 60, 61])), (8, ([], [62])), (9, ([], [9, 62, 63, 64])), (10, ([], [65])), (11, ([], [6, 65, 66, 67, 68, 69, 70, 71, 72, 73, 74, 75, 76])), (12, ([], [0, 3, 5, 10, 77])), (13, ([], [4, 77])), (15, ([], [78])), (17, ([], [79, 83, 84, 85, 82, 86, 87, 13])), (18, ([], [14, 88])), (19, ([], [89, 90, 91])), (16, ([], [89, 80, 81])), (20, ([], [12])), (21, ([], [100, 99, 98, 97, 92, 93, 94, 95, 96])), (22, ([], [110, 109, 108, 107, 101])), (23, ([], [110, 109, 108, 107, 101, 102, 103, 104, 105, 106])), (24, ([], [111])), (25, ([], [0, 3, 5, 10, 11, 132, 129, 118, 128, 123, 127, 125, 126, 124, 122, 121, 119, 120, 117, 116, 15, 111, 112, 113, 114, 115, 130, 131, 133]))]
def xc7 : XC :=
 (.seq
 (.reg 64 [
 o 3 (.box (.t 1)),
 o 4 (.mv (.c (.bool false)))] [1, 4])
 (.seq
 (.reg 128 [
 o 17 (.mv (.t 0)),
 o 18 (.load (some 2) (.t 3)),
 o 19 (.call 24 [(.t 17), (.t 18)]),
 o 16 (.mv (.t 19)),
 o 20 (.ext (.t 16) 0),
 o 21 (.ext (.t 16) 1),
 o 5 (.new (.cells [(.int .u8 0), (.int .i64 0)]) 1 2),
 ⟨none, .store 2 (.t 5) (.t 20), none⟩,
 o 6 (.mv (.t 21))] [17, 18, 19, 16, 20, 21])
 (.seq
 (.seq
 (.reg 192 [
 o 22 (.mv (.t 0)),
 o 23 (.bin .lss (.t 22) (ku 1)),
 o 24 (.mv (.t 23)),
 oi 25 24 false (.mv (.t 0)),
 oi 26 24 false (.bin .gtr (.t 25) (ku 4)),
 o 27 (.pick (.t 24) (.c (.bool true)) (.t 26)),
 o 28 (.mv (.t 27)),
 oi 29 28 false (.load (some 2) (.t 3)),
 oi 30 28 false (.call 12 [(.t 29)]),
 oi 31 28 false (.bin .eql (.t 30) (ki 0)),
 o 32 (.pick (.t 28) (.c (.bool true)) (.t 31))] [22, 23, 24, 25, 26, 27, 28, 29, 30, 31])
 (.cond (.t 32)
 (.seq
 (.reg 256 [
 o 33 (.mv (.t 6)),
 o 34 (.bin .eql (.t 33) (ki 1)),
 o 35 (.mv (.t 34)),
 oi 36 35 true (.load (some 2) (.t 5)),
 oi 37 35 true (.build [(.int .u8 0), (.int .i64 0)] []),
 oi 38 35 true (.eqa false 2 [(0, 0), (1, 0)] (.t 36) (.t 37)),
 o 39 (.pick (.t 35) (.t 38) (.c (.bool false))),
 o 40 (.mv (.t 39)),
 oi 41 40 true (.call 16 []),
 o 42 (.pick (.t 40) (.t 41) (.c (.bool false))),
 o 4 (.mv (.t 42))] [0, 3, 5, 6, 32, 33, 34, 35, 36, 37, 38, 39, 40, 41, 42])
 .ret)
 .skip))
 (.seq
 (.reg 320 [
 o 44 (.mv (.t 0)),
 o 45 (.call 20 [(.t 44)]),
 o 43 (.mv (.t 45)),
 o 46 (.ext (.t 43) 0),
 o 47 (.ext (.t 43) 1),
 o 7 (.mv (.t 46)),
 o 8 (.mv (.t 47))] [4, 32, 44, 45, 43, 46, 47])
 (.seq
 (.reg 384 [
 o 48 (.mv (.t 7)),
 o 49 (.fieldA 0 (.t 3)),
 o 50 (.load none (.t 49)),
 o 51 (.bin .mul (.t 48) (.t 50)),
 o 52 (.mv (.t 8)),
 o 53 (.fieldA 1 (.t 3)),
 o 54 (.load none (.t 53)),
 o 55 (.bin .mul (.t 52) (.t 54)),
 o 56 (.bin .add (.t 51) (.t 55)),
 o 9 (.mv (.t 56))] [7, 8, 48, 49, 50, 51, 52, 53, 54, 55, 56])
 (.seq
 (.reg 448 [
 o 10 (.mv (ki 0))] [])
 (.seq
 (.seq
 (.reg 512 [
 o 57 (.mv (.t 9)),
 o 58 (.bin .lss (.t 57) (ki (-8192))),
 o 59 (.mv (.t 58)),
 oi 60 59 false (.mv (.t 9)),
 oi 61 59 false (.bin .gtr (.t 60) (ki 8192)),
 o 62 (.pick (.t 59) (.c (.bool true)) (.t 61))] [57, 58, 59, 60, 61])
 (.cond (.t 62)
 (.reg 576 [
 o 10 (.mv (ki 3))] [62])
 .skip))
 (.seq
 (.seq
 (.reg 640 [
 o 63 (.mv (.t 9)),
 o 64 (.bin .rem (.t 63) (ki 2)),
 o 65 (.bin .neq (.t 64) (ki 0))] [9, 62, 63, 64])
 (.cond (.t 65)
 (.reg 704 [
 o 10 (.mv (ki 7))] [65])
 .skip))
 (.seq
 (.seq
 (.reg 768 [
 o 66 (.mv (.t 6)),
 o 67 (.mv (.t 10)),
 o 68 (.bin .neq (.t 66) (.t 67)),
 o 69 (.mv (.t 68)),
 oi 70 69 false (.mv (.t 10)),
 oi 71 69 false (.bin .neq (.t 70) (ki 0)),
 oi 72 69 false (.mv (.t 71)),
 oi 73 72 true (.load (some 2) (.t 5)),
 oi 74 72 true (.build [(.int .u8 0), (.int .i64 0)] []),
 oi 75 72 true (.eqa true 2 [(0, 0), (1, 0)] (.t 73) (.t 74)),
 oi 76 69 false (.pick (.t 72) (.t 75) (.c (.bool false))),
 o 77 (.pick (.t 69) (.c (.bool true)) (.t 76))] [6, 65, 66, 67, 68, 69, 70, 71, 72, 73, 74, 75, 76])
 (.cond (.t 77)
 (.seq
 (.reg 832 [
 o 4 (.mv (.c (.bool false)))] [0, 3, 5, 10, 77])
 .ret)
 .skip))
 (.seq
 (.reg 896 [
 o 11 (.mv (ki 0))] [4, 77])
 (.seq
 (.seq
 (.reg 960 [
 o 12 (.mv (ku 1))] [])
 (.block 0
 (.loop
 (.seq
 (.seq
 (.reg 1024 [
 o 78 (.mv (.t 12)),
 o 79 (.bin .leq (.t 78) (ku 4))] [78])
 (.cond (.t 79)
 .skip
 (.exit 0)))
 (.seq
 (.block 1
 (.seq
 (.reg 1152 [
 o 83 (.mv (.t 12)),
 o 84 (.load (some 2) (.t 3)),
 o 85 (.call 24 [(.t 83), (.t 84)]),
 o 82 (.mv (.t 85)),
 o 86 (.ext (.t 82) 0),
 o 87 (.ext (.t 82) 1),
 o 13 (.new (.cells [(.int .u8 0), (.int .i64 0)]) 1 2),
 ⟨none, .store 2 (.t 13) (.t 86), none⟩,
 o 14 (.mv (.t 87))] [79, 83, 84, 85, 82, 86, 87, 13])
 (.seq
 (.reg 1216 [
 o 88 (.mv (.t 14)),
 o 89 (.bin .neq (.t 88) (ki 7))] [14, 88])
 (.cond (.t 89)
 (.reg 1280 [
 o 90 (.mv (.t 11)),
 o 91 (.bin .add (.t 90) (ki 1)),
 o 11 (.mv (.t 91))] [89, 90, 91])
 .skip))))
 (.reg 1088 [
 o 80 (.mv (.t 12)),
 o 81 (.bin .add (.t 80) (ku 1)),
 o 12 (.mv (.t 81))] [89, 80, 81]))))))
 (.seq
 (.reg 1344 [
 o 15 (.mv (ki 1))] [12])
 (.seq
 (.seq
 (.reg 1408 [
 o 92 (.fieldA 0 (.t 3)),
 o 93 (.load none (.t 92)),
 o 94 (.bin .rem (.t 93) (ki 2)),
 o 95 (.bin .eql (.t 94) (ki 0)),
 o 96 (.mv (.t 95)),
 oi 97 96 true (.fieldA 1 (.t 3)),
 oi 98 96 true (.load none (.t 97)),
 oi 99 96 true (.bin .rem (.t 98) (ki 2)),
 oi 100 96 true (.bin .eql (.t 99) (ki 0)),
 o 101 (.pick (.t 96) (.t 100) (.c (.bool false)))] [100, 99, 98, 97, 92, 93, 94, 95, 96])
 (.cond (.t 101)
 (.reg 1472 [
 o 15 (.mv (ki 4))] [110, 109, 108, 107, 101])
 (.seq
 (.reg 1536 [
 o 102 (.fieldA 0 (.t 3)),
 o 103 (.load none (.t 102)),
 o 104 (.bin .rem (.t 103) (ki 2)),
 o 105 (.bin .neq (.t 104) (ki 0)),
 o 106 (.mv (.t 105)),
 oi 107 106 true (.fieldA 1 (.t 3)),
 oi 108 106 true (.load none (.t 107)),
 oi 109 106 true (.bin .rem (.t 108) (ki 2)),
 oi 110 106 true (.bin .neq (.t 109) (ki 0)),
 o 111 (.pick (.t 106) (.t 110) (.c (.bool false)))] [110, 109, 108, 107, 101, 102, 103, 104, 105, 106])
 (.cond (.t 111)
 (.reg 1600 [
 o 15 (.mv (ki 2))] [111])
 .skip))))
 (.seq
 (.reg 1664 [
 o 112 (.mv (.t 11)),
 o 113 (.mv (.t 15)),
 o 114 (.bin .eql (.t 112) (.t 113)),
 o 115 (.mv (.t 114)),
 oi 116 115 true (.mv (.t 10)),
 oi 117 115 true (.bin .neq (.t 116) (ki 0)),
 oi 118 115 true (.mv (.t 117)),
 oi 119 118 false (.load (some 2) (.t 5)),
 oi 120 118 false (.load (some 2) (.t 3)),
 oi 121 118 false (.call 17 [(.t 119), (.t 120)]),
 oi 122 118 false (.bin .eql (.t 121) (ki 0)),
 oi 123 118 false (.mv (.t 122)),
 oi 124 123 true (.fieldA 0 (.t 5)),
 oi 125 123 true (.load none (.t 124)),
 oi 126 123 true (.mv (.t 0)),
 oi 127 123 true (.bin .eql (.t 125) (.t 126)),
 oi 128 118 false (.pick (.t 123) (.t 127) (.c (.bool false))),
 oi 129 115 true (.pick (.t 118) (.c (.bool true)) (.t 128)),
 o 130 (.pick (.t 115) (.t 129) (.c (.bool false))),
 o 131 (.mv (.t 130)),
 oi 132 131 true (.call 16 []),
 o 133 (.pick (.t 131) (.t 132) (.c (.bool false))),
 o 4 (.mv (.t 133))] [0, 3, 5, 10, 11, 132, 129, 118, 128, 123, 127, 125, 126, 124, 122, 121, 119, 120, 117, 116, 15, 111, 112, 113, 114, 115, 130, 131, 133])
 .ret))))))))))))))
def fe7 : FnE := ⟨134, [(4, none)], xc7⟩
theorem ok7 : FnOk Tryd.prog 7 fe7 := fnOk_of Tryd.func7 (by kernel_rfl : chkF Tryd.prog hs7 Tryd.f7 = some fe7)
/- 8 crimp/crimplaw01.LinesTwice -/
def hs8 : Hints := [(0, ([], [0, 1, 2, 6])), (1, ([0, 1, 2, 3, 4, 5, 6, 7], [3, 4, 17, 18, 19, 20])), (2, ([], [21, 22, 23])), (3, ([], [5, 24, 25, 26, 27, 28, 29, 30])), (4, ([], [32, 33, 34, 31, 35, 36])), (5, ([], [10, 38, 39, 40, 37, 41, 42])), (6, ([], [44, 45, 46, 43, 47, 48])), (7, ([], [7, 8, 49, 50, 51, 52, 53, 54, 55, 56, 57, 58, 59, 60, 61, 62])), (8, ([0, 1, 2, 3, 4, 5, 6, 7, 8, 9, 10, 11, 12, 13, 14, 15, 16, 17, 18, 19, 20, 21, 22, 23, 24, 25, 26], [9, 11, 12, 13, 14, 15, 16, 63, 64, 65, 66, 67, 68, 69, 70, 71, 72, 73, 74, 75, 76, 77, 78, 79, 80, 81, 82, 83, 84, 85, 86, 87, 88]))]
def xc8 : XC :=
 (.seq
 (.reg 64 [
 o 3 (.box (.t 0)),
 o 4 (.box (.t 1)),
 o 5 (.box (.t 2)),
 o 6 (.mv (.c (.bool false)))] [0, 1, 2, 6])
 (.seq
 (.draw 128 [
 o 17 (.load (some 2) (.t 3)),
 o 18 (.call 25 [(.t 17)]),
 o 19 (.load (some 2) (.t 4)),
 o 20 (.call 25 [(.t 19)]),
 o 7 (.new (.cells [(.int .u8 0), (.int .i64 0)]) 1 2),
 o 8 (.new (.cells [(.int .u8 0), (.int .i64 0)]) 1 2),
 ⟨none, .store 2 (.t 7) (.t 18), none⟩,
 ⟨none, .store 2 (.t 8) (.t 20), none⟩]
 [[], [0], [], [2, 1], [], [], [4, 1, 3, 0, 1, 4, 5], [5, 3, 6, 0, 1, 2, 3, 4, 5, 6]]
 [0, 1, 2, 3, 4, 5, 6, 7] [3, 4, 17, 18, 19, 20])
 (.seq
 (.reg 192 [
 o 21 (.fieldA 0 (.t 7)),
 o 22 (.load none (.t 21)),
 o 23 (.fieldA 0 (.t 8)),
 ⟨none, .store 1 (.t 23) (.t 22), none⟩] [21, 22, 23])
 (.seq
 (.reg 256 [
 o 24 (.idxA (some 2) 1 (.t 5) (ki 0)),
 o 25 (.load none (.t 24)),
 o 26 (.conv .i64 (.t 25)),
 o 27 (.idxA (some 2) 1 (.t 5) (ki 1)),
 o 28 (.load none (.t 27)),
 o 29 (.conv .i64 (.t 28)),
 o 30 (.call 26 [(.t 26), (.t 29)]),
 o 9 (.new (.cells [(.int .i64 0), (.int .i64 0)]) 1 2),
 ⟨none, .store 2 (.t 9) (.t 30), none⟩] [5, 24, 25, 26, 27, 28, 29, 30])
 (.seq
 (.reg 320 [
 o 32 (.load (some 2) (.t 7)),
 o 33 (.load (some 2) (.t 9)),
 o 34 (.call 18 [(.t 32), (.t 33)]),
 o 31 (.mv (.t 34)),
 o 35 (.ext (.t 31) 0),
 o 36 (.ext (.t 31) 1),
 o 10 (.new (.cells [(.int .i64 0), (.int .i64 0)]) 1 2),
 ⟨none, .store 2 (.t 10) (.t 35), none⟩,
 o 11 (.mv (.t 36))] [32, 33, 34, 31, 35, 36])
 (.seq
 (.reg 384 [
 o 38 (.load (some 2) (.t 8)),
 o 39 (.load (some 2) (.t 10)),
 o 40 (.call 18 [(.t 38), (.t 39)]),
 o 37 (.mv (.t 40)),
 o 41 (.ext (.t 37) 0),
 o 42 (.ext (.t 37) 1),
 o 12 (.new (.cells [(.int .i64 0), (.int .i64 0)]) 1 2),
 ⟨none, .store 2 (.t 12) (.t 41), none⟩,
 o 13 (.mv (.t 42))] [10, 38, 39, 40, 37, 41, 42])
 (.seq
 (.reg 448 [
 o 44 (.fieldA 0 (.t 7)),
 o 45 (.load none (.t 44)),
 o 46 (.call 20 [(.t 45)]),
 o 43 (.mv (.t 46)),
 o 47 (.ext (.t 43) 0),
 o 48 (.ext (.t 43) 1),
 o 14 (.mv (.t 47)),
 o 15 (.mv (.t 48))] [44, 45, 46, 43, 47, 48])
 (.seq
 (.reg 512 [
 o 49 (.fieldA 1 (.t 8)),
 o 50 (.load none (.t 49)),
 o 51 (.fieldA 1 (.t 7)),
 o 52 (.load none (.t 51)),
 o 53 (.bin .sub (.t 50) (.t 52)),
 o 54 (.bin .mul (ki 4) (.t 53)),
 o 55 (.mv (.t 14)),
 o 56 (.mv (.t 14)),
 o 57 (.bin .mul (.t 55) (.t 56)),
 o 58 (.mv (.t 15)),
 o 59 (.mv (.t 15)),
 o 60 (.bin .mul (.t 58) (.t 59)),
 o 61 (.bin .add (.t 57) (.t 60)),
 o 62 (.bin .quo (.t 54) (.t 61)),
 o 16 (.mv (.t 62))] [7, 8, 49, 50, 51, 52, 53, 54, 55, 56, 57, 58, 59, 60, 61, 62])
 (.seq
 (.draw 576 [
 o 63 (.mv (.t 11)),
 o 64 (.bin .eql (.t 63) (ki 0)),
 o 65 (.mv (.t 64)),
 oi 66 65 true (.mv (.t 13)),
 oi 67 65 true (.bin .eql (.t 66) (ki 0)),
 o 68 (.pick (.t 65) (.t 67) (.c (.bool false))),
 o 69 (.mv (.t 68)),
 oi 70 69 true (.load (some 2) (.t 12)),
 oi 71 69 true (.fieldA 0 (.t 9)),
 oi 72 69 true (.load none (.t 71)),
 oi 73 69 true (.mv (.t 16)),
 oi 74 69 true (.mv (.t 14)),
 oi 75 69 true (.bin .mul (.t 73) (.t 74)),
 oi 76 69 true (.bin .add (.t 72) (.t 75)),
 oi 77 69 true (.fieldA 1 (.t 9)),
 oi 78 69 true (.load none (.t 77)),
 oi 79 69 true (.mv (.t 16)),
 oi 80 69 true (.mv (.t 15)),
 oi 81 69 true (.bin .mul (.t 79) (.t 80)),
 oi 82 69 true (.bin .add (.t 78) (.t 81)),
 oi 83 69 true (.call 26 [(.t 76), (.t 82)]),
 oi 84 69 true (.eqa false 2 [(0, 0), (1, 0)] (.t 70) (.t 83)),
 o 85 (.pick (.t 69) (.t 84) (.c (.bool false))),
 o 86 (.mv (.t 85)),
 oi 87 86 true (.call 16 []),
 o 88 (.pick (.t 86) (.t 87) (.c (.bool false))),
 o 6 (.mv (.t 88))]
 [[], [0], [1], [2], [3, 2], [2, 4], [5, 2], [6], [6], [8, 6], [6], [6], [10, 11, 6], [9, 12, 6], [6], [14, 6], [6], [6], [16, 17, 6], [15, 18, 6], [13, 19, 6, 6], [7, 20, 6], [6, 21], [22, 20], [23, 23], [23, 24], [25, 24, 0, 1, 2, 3, 4, 5, 6, 7, 8, 9, 10, 11, 12, 13, 14, 15, 16, 17, 18, 19, 20, 21, 22, 23, 24, 25]]
 [0, 1, 2, 3, 4, 5, 6, 7, 8, 9, 10, 11, 12, 13, 14, 15, 16, 17, 18, 19, 20, 21, 22, 23, 24, 25, 26] [9, 11, 12, 13, 14, 15, 16, 63, 64, 65, 66, 67, 68, 69, 70, 71, 72, 73, 74, 75, 76, 77, 78, 79, 80, 81, 82, 83, 84, 85, 86, 87, 88])
 .ret)))))))))
def fe8 : FnE := ⟨89, [(6, none)], xc8⟩
theorem ok8 : FnOk Tryd.prog 8 fe8 := fnOk_of Tryd.func8 (by kernel_rfl : chkF Tryd.prog hs8 Tryd.f8 = some fe8)
/- 9 crimp/crimplaw01.LinesText -/
def hs9 : Hints := [(0, ([], [0, 4])), (1, ([], [10, 11])), (2, ([], [1, 2, 12])), (3, ([], [4, 12])), (4, ([], [13, 14])), (5, ([], [15, 16, 17])), (6, ([], [19, 20, 18, 21, 22])), (7, ([], [6, 7, 23, 24, 25, 26, 27, 28])), (8, ([], [1, 2, 5, 29])), (9, ([], [4, 2, 5, 29, 15, 30, 31, 32])), (10, ([], [1, 33])), (11, ([], [4, 33, 35, 36, 34, 37, 38])), (12, ([], [39])), (13, ([], [1, 8, 9, 40, 41, 42, 43, 44, 45, 46, 47, 48, 49, 50])), (14, ([], [1, 8, 9, 40, 51, 52, 53, 54, 55, 56, 57, 58, 59, 60, 61, 62]))]
def xc9 : XC :=
 (.seq
 (.reg 64 [
 o 2 (.box (.t 0)),
 o 4 (.mv (.c (.bool false)))] [0, 4])
 (.seq
 (.seq
 (.reg 128 [
 o 10 (.mv (.t 1)),
 o 11 (.lens (.t 10)),
 o 12 (.bin .gtr (.t 11) (ki 20))] [10, 11])
 (.cond (.t 12)
 (.seq
 (.reg 192 [
 o 4 (.mv (.c (.bool true)))] [1, 2, 12])
 .ret)
 .skip))
 (.seq
 (.reg 256 [
 o 5 (.mv (.c (.str [])))] [4, 12])
 (.seq
 (.seq
 (.reg 320 [
 o 13 (.load (some 2) (.t 2)),
 o 14 (.call 11 [(.t 13)]),
 o 15 (.bin .eql (.t 14) (ki 1))] [13, 14])
 (.cond (.t 15)
 (.seq
 (.reg 384 [
 o 16 (.load (some 2) (.t 2)),
 o 17 (.call 27 [(.t 16)]),
 o 5 (.mv (.t 17))] [15, 16, 17])
 (.seq
 (.reg 448 [
 o 19 (.mv (.t 5)),
 o 20 (.call 28 [(.t 19)]),
 o 18 (.mv (.t 20)),
 o 21 (.ext (.t 18) 0),
 o 22 (.ext (.t 18) 1),
 o 6 (.new (.cells [(.int .u8 0), (.int .i64 0)]) 1 2),
 ⟨none, .store 2 (.t 6) (.t 21), none⟩,
 o 7 (.mv (.t 22))] [19, 20, 18, 21, 22])
 (.seq
 (.reg 512 [
 o 23 (.load (some 2) (.t 6)),
 o 24 (.load (some 2) (.t 2)),
 o 25 (.eqa true 2 [(0, 0), (1, 0)] (.t 23) (.t 24)),
 o 26 (.mv (.t 25)),
 oi 27 26 false (.mv (.t 7)),
 oi 28 26 false (.bin .neq (.t 27) (ki 0)),
 o 29 (.pick (.t 26) (.c (.bool true)) (.t 28))] [6, 7, 23, 24, 25, 26, 27, 28])
 (.cond (.t 29)
 (.seq
 (.reg 576 [
 o 4 (.mv (.c (.bool false)))] [1, 2, 5, 29])
 .ret)
 .skip))))
 .skip))
 (.seq
 (.seq
 (.reg 640 [
 o 30 (.load (some 2) (.t 2)),
 o 31 (.call 29 [(.t 30)]),
 o 32 (.mv (.t 5)),
 o 33 (.bin .neq (.t 31) (.t 32))] [4, 2, 5, 29, 15, 30, 31, 32])
 (.cond (.t 33)
 (.seq
 (.reg 704 [
 o 4 (.mv (.c (.bool false)))] [1, 33])
 .ret)
 .skip))
 (.seq
 (.reg 768 [
 o 35 (.mv (.t 1)),
 o 36 (.call 28 [(.t 35)]),
 o 34 (.mv (.t 36)),
 o 37 (.ext (.t 34) 0),
 o 38 (.ext (.t 34) 1),
 o 8 (.new (.cells [(.int .u8 0), (.int .i64 0)]) 1 2),
 ⟨none, .store 2 (.t 8) (.t 37), none⟩,
 o 9 (.mv (.t 38))] [4, 33, 35, 36, 34, 37, 38])
 (.seq
 (.seq
 (.reg 832 [
 o 39 (.mv (.t 9)),
 o 40 (.bin .neq (.t 39) (ki 0))] [39])
 (.cond (.t 40)
 (.seq
 (.reg 896 [
 o 41 (.mv (.t 9)),
 o 42 (.bin .eql (.t 41) (ki 4)),
 o 43 (.mv (.t 42)),
 oi 44 43 true (.load (some 2) (.t 8)),
 oi 45 43 true (.build [(.int .u8 0), (.int .i64 0)] []),
 oi 46 43 true (.eqa false 2 [(0, 0), (1, 0)] (.t 44) (.t 45)),
 o 47 (.pick (.t 43) (.t 46) (.c (.bool false))),
 o 48 (.mv (.t 47)),
 oi 49 48 true (.call 16 []),
 o 50 (.pick (.t 48) (.t 49) (.c (.bool false))),
 o 4 (.mv (.t 50))] [1, 8, 9, 40, 41, 42, 43, 44, 45, 46, 47, 48, 49, 50])
 .ret)
 .skip))
 (.seq
 (.reg 960 [
 o 51 (.load (some 2) (.t 8)),
 o 52 (.call 11 [(.t 51)]),
 o 53 (.bin .eql (.t 52) (ki 1)),
 o 54 (.mv (.t 53)),
 oi 55 54 true (.load (some 2) (.t 8)),
 oi 56 54 true (.call 27 [(.t 55)]),
 oi 57 54 true (.mv (.t 1)),
 oi 58 54 true (.bin .eql (.t 56) (.t 57)),
 o 59 (.pick (.t 54) (.t 58) (.c (.bool false))),
 o 60 (.mv (.t 59)),
 oi 61 60 true (.call 16 []),
 o 62 (.pick (.t 60) (.t 61) (.c (.bool false))),
 o 4 (.mv (.t 62))] [1, 8, 9, 40, 51, 52, 53, 54, 55, 56, 57, 58, 59, 60, 61, 62])
 .ret))))))))
def fe9 : FnE := ⟨63, [(4, none)], xc9⟩
theorem ok9 : FnOk Tryd.prog 9 fe9 := fnOk_of Tryd.func9 (by kernel_rfl : chkF Tryd.prog hs9 Tryd.f9 = some fe9)
/- 10 crimp/crimplaw01.LinesKnown -/
def hs10 : Hints := [(0, ([], [0])), (3, ([], [8])), (5, ([], [9, 12, 13, 14, 15, 16, 17, 18, 19, 20, 21, 22, 23, 24, 25, 26])), (6, ([], [27, 28, 29, 30, 31, 32, 33])), (7, ([0, 1, 2, 3, 4, 5, 6, 7, 8, 9, 10, 11, 12, 13, 14, 15, 16, 17, 18, 19, 20, 21, 22, 23, 24, 25, 26, 27, 28, 29, 30, 31, 32, 33, 34, 35, 36, 37, 38, 39, 40, 41, 42, 43, 44, 45, 46, 47], [3, 4, 5, 34, 35, 36, 37, 38, 39, 45, 46, 53, 54, 61, 62, 69, 70])), (8, ([], [2, 1, 80, 79, 71, 72, 78, 74, 77, 76, 75, 73, 68, 67, 65, 66, 64, 63, 60, 59, 56, 58, 57, 55, 52, 51, 48, 50, 49, 47, 44, 43, 41, 42, 40, 81])), (9, ([], [0, 81, 82, 83, 84, 85, 86, 87, 88])), (4, ([], [10, 11])), (10, ([], [1, 2, 89])), (12, ([], [90, 91, 92])), (14, ([0, 1, 2, 3, 4, 5, 6, 7, 8, 9, 10, 11], [93, 96, 97, 98, 99, 100, 101, 102, 103, 104, 105, 106])), (15, ([], [7, 6, 107])), (13, ([], [0, 107, 94, 95])), (16, ([], [6, 7, 108]))]
def xc10 : XC :=
 (.seq
 (.reg 64 [
 o 0 (.mv (.c (.bool false)))] [0])
 (.seq
 (.reg 128 [
 o 1 (.mv (ki 1))] [])
 (.seq
 (.seq
 (.reg 192 [
 o 2 (.mv (ki 0))] [])
 (.block 0
 (.loop
 (.seq
 (.seq
 (.reg 256 [
 o 8 (.mv (.t 2)),
 o 9 (.bin .lss (.t 8) (ki 60))] [8])
 (.cond (.t 9)
 .skip
 (.exit 0)))
 (.seq
 (.block 1
 (.seq
 (.reg 384 [
 o 12 (.mv (.t 2)),
 o 13 (.conv .u8 (.t 12)),
 o 14 (.mv (.t 1)),
 o 15 (.bin .rem (.t 14) (ki 100)),
 o 16 (.conv .i8 (.t 15)),
 o 17 (.build [(.int .u8 0), (.int .i8 0)] [(0, 1, (.t 13)), (1, 1, (.t 16))]),
 o 18 (.mv (.t 1)),
 o 19 (.bin .quo (.t 18) (ki 7)),
 o 20 (.conv .u8 (.t 19)),
 o 21 (.mv (.t 1)),
 o 22 (.bin .quo (.t 21) (ki 3)),
 o 23 (.un .neg (.t 22)),
 o 24 (.bin .rem (.t 23) (ki 100)),
 o 25 (.conv .i8 (.t 24)),
 o 26 (.build [(.int .u8 0), (.int .i8 0)] [(0, 1, (.t 20)), (1, 1, (.t 25))]),
 o 3 (.new (.cells [(.int .u8 0), (.int .i8 0)]) 1 2),
 o 4 (.new (.cells [(.int .u8 0), (.int .i8 0)]) 1 2),
 ⟨none, .store 2 (.t 3) (.t 17), none⟩,
 ⟨none, .store 2 (.t 4) (.t 26), none⟩] [9, 12, 13, 14, 15, 16, 17, 18, 19, 20, 21, 22, 23, 24, 25, 26])
 (.seq
 (.reg 448 [
 o 27 (.mv (.t 1)),
 o 28 (.bin .rem (.t 27) (ki 9000)),
 o 29 (.bin .sub (.t 28) (ki 4000)),
 o 30 (.mv (.t 1)),
 o 31 (.bin .quo (.t 30) (ki 11)),
 o 32 (.bin .sub (.t 31) (ki 3000)),
 o 33 (.call 26 [(.t 29), (.t 32)]),
 o 5 (.new (.cells [(.int .i64 0), (.int .i64 0)]) 1 2),
 ⟨none, .store 2 (.t 5) (.t 33), none⟩] [27, 28, 29, 30, 31, 32, 33])
 (.seq
 (.seq
 (.draw 512 [
 o 34 (.load (some 2) (.t 3)),
 o 35 (.call 25 [(.t 34)]),
 o 36 (.load (some 2) (.t 5)),
 o 37 (.call 3 [(.t 35), (.t 36)]),
 o 38 (.un .not (.t 37)),
 o 39 (.mv (.t 38)),
 oi 40 39 false (.load (some 2) (.t 3)),
 oi 41 39 false (.call 25 [(.t 40)]),
 oi 42 39 false (.load (some 2) (.t 5)),
 oi 43 39 false (.call 4 [(.t 41), (.t 42)]),
 oi 44 39 false (.un .not (.t 43)),
 o 45 (.pick (.t 39) (.c (.bool true)) (.t 44)),
 o 46 (.mv (.t 45)),
 oi 47 46 false (.load (some 2) (.t 3)),
 oi 48 46 false (.call 25 [(.t 47)]),
 oi 49 46 false (.load (some 2) (.t 4)),
 oi 50 46 false (.call 25 [(.t 49)]),
 oi 51 46 false (.call 5 [(.t 48), (.t 50)]),
 oi 52 46 false (.un .not (.t 51)),
 o 53 (.pick (.t 46) (.c (.bool true)) (.t 52)),
 o 54 (.mv (.t 53)),
 oi 55 54 false (.load (some 2) (.t 3)),
 oi 56 54 false (.call 25 [(.t 55)]),
 oi 57 54 false (.load (some 2) (.t 4)),
 oi 58 54 false (.call 25 [(.t 57)]),
 oi 59 54 false (.call 6 [(.t 56), (.t 58)]),
 oi 60 54 false (.un .not (.t 59)),
 o 61 (.pick (.t 54) (.c (.bool true)) (.t 60)),
 o 62 (.mv (.t 61)),
 oi 63 62 false (.mv (.t 2)),
 oi 64 62 false (.bin .rem (.t 63) (ki 6)),
 oi 65 62 false (.conv .u8 (.t 64)),
 oi 66 62 false (.load (some 2) (.t 5)),
 oi 67 62 false (.call 7 [(.t 65), (.t 66)]),
 oi 68 62 false (.un .not (.t 67)),
 o 69 (.pick (.t 62) (.c (.bool true)) (.t 68)),
 o 70 (.mv (.t 69)),
 oi 71 70 false (.load (some 2) (.t 3)),
 oi 72 70 false (.load (some 2) (.t 4)),
 oi 73 70 false (.mv (.t 2)),
 oi 74 70 false (.conv .i8 (.t 73)),
 oi 75 70 false (.mv (.t 1)),
 oi 76 70 false (.bin .rem (.t 75) (ki 50)),
 oi 77 70 false (.conv .i8 (.t 76)),
 oi 78 70 false (.build [(.int .i8 0), (.int .i8 0)] [(0, 1, (.t 74)), (1, 1, (.t 77))]),
 oi 79 70 false (.call 8 [(.t 71), (.t 72), (.t 78)]),
 oi 80 70 false (.un .not (.t 79)),
 o 81 (.pick (.t 70) (.c (.bool true)) (.t 80))]
 [[], [0], [], [1, 2, 1], [3], [4, 3], [5], [6, 5, 5], [5], [7, 8, 7, 5], [9, 5], [5, 10], [11, 9], [12], [13, 12, 12], [12], [15, 14, 12], [14, 16, 16, 12], [17, 12], [12, 18], [19, 17], [20], [21, 20, 20], [20], [23, 22, 20], [22, 24, 24, 20], [25, 20], [20, 26], [27, 25], [28], [29, 28], [30, 28], [28], [31, 32, 28, 28], [33, 28], [28, 34], [35, 33], [36], [36], [36], [39, 36], [36], [41, 36], [42, 36], [40, 43, 36], [37, 38, 44, 36, 36], [45, 36], [36, 46]]
 [0, 1, 2, 3, 4, 5, 6, 7, 8, 9, 10, 11, 12, 13, 14, 15, 16, 17, 18, 19, 20, 21, 22, 23, 24, 25, 26, 27, 28, 29, 30, 31, 32, 33, 34, 35, 36, 37, 38, 39, 40, 41, 42, 43, 44, 45, 46, 47] [3, 4, 5, 34, 35, 36, 37, 38, 39, 45, 46, 53, 54, 61, 62, 69, 70])
 (.cond (.t 81)
 (.seq
 (.reg 576 [
 o 0 (.mv (.c (.bool false)))] [2, 1, 80, 79, 71, 72, 78, 74, 77, 76, 75, 73, 68, 67, 65, 66, 64, 63, 60, 59, 56, 58, 57, 55, 52, 51, 48, 50, 49, 47, 44, 43, 41, 42, 40, 81])
 .ret)
 .skip))
 (.reg 640 [
 o 82 (.mv (.t 1)),
 o 83 (.bin .mul (.t 82) (ki 31)),
 o 84 (.mv (.t 2)),
 o 85 (.bin .mul (ki 7) (.t 84)),
 o 86 (.bin .add (.t 83) (.t 85)),
 o 87 (.bin .add (.t 86) (ki 11)),
 o 88 (.bin .rem (.t 87) (ki 100003)),
 o 1 (.mv (.t 88))] [0, 81, 82, 83, 84, 85, 86, 87, 88])))))
 (.reg 320 [
 o 10 (.mv (.t 2)),
 o 11 (.bin .add (.t 10) (ki 1)),
 o 2 (.mv (.t 11))] [10, 11]))))))
 (.seq
 (.reg 704 [
 o 89 (.buildS 1 16 10 [(.str [])] [(0, 1, (.c (.str [120, 32, 48]))), (1, 1, (.c (.str [120, 32, 45, 48]))), (2, 1, (.c (.str [120, 32, 32, 49]))), (3, 1, (.c (.str [120, 32, 48, 49]))), (4, 1, (.c (.str [120]))), (5, 1, (.c (.str [120, 32]))), (6, 1, (.c (.str []))), (7, 1, (.c (.str [117, 32, 52, 48, 57, 54]))), (8, 1, (.c (.str [117, 32, 45, 52, 48, 57, 54]))), (9, 1, (.c (.str [100, 32, 52, 48, 57, 55]))), (10, 1, (.c (.str [120, 32, 49, 32]))), (11, 1, (.c (.str [88, 32, 49]))), (12, 1, (.c (.str [120, 32, 43, 49]))), (13, 1, (.c (.str [120, 32, 57, 57, 57, 57, 57, 57, 57, 57, 57, 57, 57, 57, 57, 57, 57, 57, 57]))), (14, 1, (.c (.str [120, 32, 45, 45, 49]))), (15, 1, (.c (.str [120, 32, 49, 45])))]),
 o 6 (.mv (.t 89))] [1, 2, 89])
 (.seq
 (.seq
 (.reg 768 [
 o 7 (.mv (ki 0))] [])
 (.block 2
 (.loop
 (.seq
 (.seq
 (.reg 832 [
 o 90 (.mv (.t 7)),
 o 91 (.mv (.t 6)),
 o 92 (.len (.t 91)),
 o 93 (.bin .lss (.t 90) (.t 92))] [90, 91, 92])
 (.cond (.t 93)
 .skip
 (.exit 2)))
 (.seq
 (.block 3
 (.seq
 (.draw 960 [
 o 96 (.mv (.t 7)),
 o 97 (.bin .rem (.t 96) (ki 6)),
 o 98 (.conv .u8 (.t 97)),
 o 99 (.mv (.t 7)),
 o 100 (.bin .add (ki 4090) (.t 99)),
 o 101 (.call 30 [(.t 98), (.t 100)]),
 o 102 (.mv (.t 6)),
 o 103 (.mv (.t 7)),
 o 104 (.idxA none 1 (.t 102) (.t 103)),
 o 105 (.load none (.t 104)),
 o 106 (.call 9 [(.t 101), (.t 105)]),
 o 107 (.un .not (.t 106))]
 [[], [0], [1], [], [3], [2, 4], [], [], [6, 7], [8], [5, 9, 5], [10]]
 [0, 1, 2, 3, 4, 5, 6, 7, 8, 9, 10, 11] [93, 96, 97, 98, 99, 100, 101, 102, 103, 104, 105, 106])
 (.cond (.t 107)
 (.seq
 (.reg 1024 [
 o 0 (.mv (.c (.bool false)))] [7, 6, 107])
 .ret)
 .skip)))
 (.reg 896 [
 o 94 (.mv (.t 7)),
 o 95 (.bin .add (.t 94) (ki 1)),
 o 7 (.mv (.t 95))] [0, 107, 94, 95]))))))
 (.seq
 (.reg 1088 [
 o 108 (.call 16 []),
 o 0 (.mv (.t 108))] [6, 7, 108])
 .ret))))))
def fe10 : FnE := ⟨109, [(0, none)], xc10⟩
theorem ok10 : FnOk Tryd.prog 10 fe10 := fnOk_of Tryd.func10 (by kernel_rfl : chkF Tryd.prog hs10 Tryd.f10 = some fe10)
/- 11 crimp/crimpref01.Valid -/
def hs11 : Hints := [(0, ([], [0, 2])), (1, ([], [1, 3, 4, 5, 6, 7, 8, 9, 10, 11, 12, 13, 14, 15, 16, 17, 18, 19])), (2, ([], [20])), (3, ([], [20]))]
def xc11 : XC :=
 (.seq
 (.reg 64 [
 o 1 (.box (.t 0)),
 o 2 (.mv (ki 0))] [0, 2])
 (.seq
 (.seq
 (.reg 128 [
 o 3 (.fieldA 0 (.t 1)),
 o 4 (.load none (.t 3)),
 o 5 (.bin .geq (.t 4) (ku 1)),
 o 6 (.mv (.t 5)),
 oi 7 6 true (.fieldA 0 (.t 1)),
 oi 8 6 true (.load none (.t 7)),
 oi 9 6 true (.bin .leq (.t 8) (ku 4)),
 o 10 (.pick (.t 6) (.t 9) (.c (.bool false))),
 o 11 (.mv (.t 10)),
 oi 12 11 true (.fieldA 1 (.t 1)),
 oi 13 11 true (.load none (.t 12)),
 oi 14 11 true (.bin .geq (.t 13) (ki (-4096))),
 o 15 (.pick (.t 11) (.t 14) (.c (.bool false))),
 o 16 (.mv (.t 15)),
 oi 17 16 true (.fieldA 1 (.t 1)),
 oi 18 16 true (.load none (.t 17)),
 oi 19 16 true (.bin .leq (.t 18) (ki 4096)),
 o 20 (.pick (.t 16) (.t 19) (.c (.bool false)))] [1, 3, 4, 5, 6, 7, 8, 9, 10, 11, 12, 13, 14, 15, 16, 17, 18, 19])
 (.cond (.t 20)
 (.seq
 (.reg 192 [
 o 2 (.mv (ki 1))] [20])
 .ret)
 .skip))
 (.seq
 (.reg 256 [
 o 2 (.mv (ki 0))] [20])
 .ret)))
def fe11 : FnE := ⟨21, [(2, none)], xc11⟩
theorem ok11 : FnOk Tryd.prog 11 fe11 := fnOk_of Tryd.func11 (by kernel_rfl : chkF Tryd.prog hs11 Tryd.f11 = some fe11)
/- 12 crimp/crimpref01.Inside -/
def hs12 : Hints := [(0, ([], [0, 2])), (1, ([], [1, 3, 4, 5, 6, 7, 8, 9, 10, 11, 12, 13, 14, 15, 16, 17, 18, 19])), (2, ([], [20])), (3, ([], [20]))]
def xc12 : XC :=
 (.seq
 (.reg 64 [
 o 1 (.box (.t 0)),
 o 2 (.mv (ki 0))] [0, 2])
 (.seq
 (.seq
 (.reg 128 [
 o 3 (.fieldA 0 (.t 1)),
 o 4 (.load none (.t 3)),
 o 5 (.bin .geq (.t 4) (ki (-65536))),
 o 6 (.mv (.t 5)),
 oi 7 6 true (.fieldA 0 (.t 1)),
 oi 8 6 true (.load none (.t 7)),
 oi 9 6 true (.bin .leq (.t 8) (ki 65536)),
 o 10 (.pick (.t 6) (.t 9) (.c (.bool false))),
 o 11 (.mv (.t 10)),
 oi 12 11 true (.fieldA 1 (.t 1)),
 oi 13 11 true (.load none (.t 12)),
 oi 14 11 true (.bin .geq (.t 13) (ki (-65536))),
 o 15 (.pick (.t 11) (.t 14) (.c (.bool false))),
 o 16 (.mv (.t 15)),
 oi 17 16 true (.fieldA 1 (.t 1)),
 oi 18 16 true (.load none (.t 17)),
 oi 19 16 true (.bin .leq (.t 18) (ki 65536)),
 o 20 (.pick (.t 16) (.t 19) (.c (.bool false)))] [1, 3, 4, 5, 6, 7, 8, 9, 10, 11, 12, 13, 14, 15, 16, 17, 18, 19])
 (.cond (.t 20)
 (.seq
 (.reg 192 [
 o 2 (.mv (ki 1))] [20])
 .ret)
 .skip))
 (.seq
 (.reg 256 [
 o 2 (.mv (ki 0))] [20])
 .ret)))
def fe12 : FnE := ⟨21, [(2, none)], xc12⟩
theorem ok12 : FnOk Tryd.prog 12 fe12 := fnOk_of Tryd.func12 (by kernel_rfl : chkF Tryd.prog hs12 Tryd.f12 = some fe12)
/- 13 crimp/lines.Check -/
def hs13 : Hints := [(0, ([], [0, 2])), (1, ([], [1, 3, 4, 5, 6, 7, 8, 9, 10, 11, 12, 13, 14, 15, 16, 17, 18, 19])), (2, ([], [20])), (3, ([], [20]))]
def xc13 : XC :=
 (.seq
 (.reg 64 [
 o 1 (.box (.t 0)),
 o 2 (.mv (ki 0))] [0, 2])
 (.seq
 (.seq
 (.reg 128 [
 o 3 (.fieldA 0 (.t 1)),
 o 4 (.load none (.t 3)),
 o 5 (.bin .lss (.t 4) (ku 1)),
 o 6 (.mv (.t 5)),
 oi 7 6 false (.fieldA 0 (.t 1)),
 oi 8 6 false (.load none (.t 7)),
 oi 9 6 false (.bin .gtr (.t 8) (ku 4)),
 o 10 (.pick (.t 6) (.c (.bool true)) (.t 9)),
 o 11 (.mv (.t 10)),
 oi 12 11 false (.fieldA 1 (.t 1)),
 oi 13 11 false (.load none (.t 12)),
 oi 14 11 false (.bin .lss (.t 13) (ki (-4096))),
 o 15 (.pick (.t 11) (.c (.bool true)) (.t 14)),
 o 16 (.mv (.t 15)),
 oi 17 16 false (.fieldA 1 (.t 1)),
 oi 18 16 false (.load none (.t 17)),
 oi 19 16 false (.bin .gtr (.t 18) (ki 4096)),
 o 20 (.pick (.t 16) (.c (.bool true)) (.t 19))] [1, 3, 4, 5, 6, 7, 8, 9, 10, 11, 12, 13, 14, 15, 16, 17, 18, 19])
 (.cond (.t 20)
 (.seq
 (.reg 192 [
 o 2 (.mv (ki 1))] [20])
 .ret)
 .skip))
 (.seq
 (.reg 256 [
 o 2 (.mv (ki 0))] [20])
 .ret)))
def fe13 : FnE := ⟨21, [(2, none)], xc13⟩
theorem ok13 : FnOk Tryd.prog 13 fe13 := fnOk_of Tryd.func13 (by kernel_rfl : chkF Tryd.prog hs13 Tryd.f13 = some fe13)
/- 14 crimp/lines.CheckPoint -/
def hs14 : Hints := [(0, ([], [0, 2])), (1, ([], [1, 3, 4, 5, 6, 7, 8, 9, 10, 11, 12, 13, 14, 15, 16, 17, 18, 19])), (2, ([], [20])), (3, ([], [20]))]
def xc14 : XC :=
 (.seq
 (.reg 64 [
 o 1 (.box (.t 0)),
 o 2 (.mv (ki 0))] [0, 2])
 (.seq
 (.seq
 (.reg 128 [
 o 3 (.fieldA 0 (.t 1)),
 o 4 (.load none (.t 3)),
 o 5 (.bin .lss (.t 4) (ki (-65536))),
 o 6 (.mv (.t 5)),
 oi 7 6 false (.fieldA 0 (.t 1)),
 oi 8 6 false (.load none (.t 7)),
 oi 9 6 false (.bin .gtr (.t 8) (ki 65536)),
 o 10 (.pick (.t 6) (.c (.bool true)) (.t 9)),
 o 11 (.mv (.t 10)),
 oi 12 11 false (.fieldA 1 (.t 1)),
 oi 13 11 false (.load none (.t 12)),
 oi 14 11 false (.bin .lss (.t 13) (ki (-65536))),
 o 15 (.pick (.t 11) (.c (.bool true)) (.t 14)),
 o 16 (.mv (.t 15)),
 oi 17 16 false (.fieldA 1 (.t 1)),
 oi 18 16 false (.load none (.t 17)),
 oi 19 16 false (.bin .gtr (.t 18) (ki 65536)),
 o 20 (.pick (.t 16) (.c (.bool true)) (.t 19))] [1, 3, 4, 5, 6, 7, 8, 9, 10, 11, 12, 13, 14, 15, 16, 17, 18, 19])
 (.cond (.t 20)
 (.seq
 (.reg 192 [
 o 2 (.mv (ki 1))] [20])
 .ret)
 .skip))
 (.seq
 (.reg 256 [
 o 2 (.mv (ki 0))] [20])
 .ret)))
def fe14 : FnE := ⟨21, [(2, none)], xc14⟩
theorem ok14 : FnOk Tryd.prog 14 fe14 := fnOk_of Tryd.func14 (by kernel_rfl : chkF Tryd.prog hs14 Tryd.f14 = some fe14)
/- 15 crimp/lines.Side -/
def hs15 : Hints := [(0, ([], [0, 1, 4])), (1, ([], [6, 7, 8, 9, 10, 11, 12])), (2, ([], [2, 3, 13])), (3, ([0, 1, 2, 3, 4, 5, 6, 7], [4, 3, 13, 14, 15, 16, 17, 18, 19, 20])), (4, ([], [22, 23, 24, 25, 26])), (5, ([], [2, 5, 21])), (6, ([], [2, 5, 21, 28, 29, 30, 31, 32])), (7, ([], [27])), (8, ([], [27]))]
def xc15 : XC :=
 (.seq
 (.reg 64 [
 o 2 (.box (.t 0)),
 o 3 (.box (.t 1)),
 o 4 (.mv (ki 0))] [0, 1, 4])
 (.seq
 (.seq
 (.reg 128 [
 o 6 (.load (some 2) (.t 2)),
 o 7 (.call 13 [(.t 6)]),
 o 8 (.bin .neq (.t 7) (ki 0)),
 o 9 (.mv (.t 8)),
 oi 10 9 false (.load (some 2) (.t 3)),
 oi 11 9 false (.call 14 [(.t 10)]),
 oi 12 9 false (.bin .neq (.t 11) (ki 0)),
 o 13 (.pick (.t 9) (.c (.bool true)) (.t 12))] [6, 7, 8, 9, 10, 11, 12])
 (.cond (.t 13)
 (.seq
 (.reg 192 [
 o 4 (.mv (ki 0))] [2, 3, 13])
 .ret)
 .skip))
 (.seq
 (.seq
 (.draw 256 [
 o 14 (.call 31 []),
 o 15 (.fieldA 0 (.t 2)),
 o 16 (.load none (.t 15)),
 o 17 (.idx 5 3 true (.t 14) (.t 16)),
 o 18 (.field 0 none (.t 17)),
 o 19 (.load (some 2) (.t 3)),
 o 20 (.callv (.t 18) [(.t 19)]),
 o 5 (.mv (.t 20))]
 [[], [], [1], [0, 2], [3], [], [4, 5, 0], [6, 6, 0, 1, 2, 3, 4, 5, 6]]
 [0, 1, 2, 3, 4, 5, 6, 7] [4, 3, 13, 14, 15, 16, 17, 18, 19, 20])
 (.block 0
 (.seq
 (.reg 320 [
 o 22 (.mv (.t 5)),
 o 23 (.fieldA 1 (.t 2)),
 o 24 (.load none (.t 23)),
 o 25 (.bin .mul (ki 2) (.t 24)),
 o 26 (.bin .lss (.t 22) (.t 25)),
 o 21 (.mv (.t 26))] [22, 23, 24, 25, 26])
 (.cond (.t 21)
 (.seq
 (.reg 384 [
 o 4 (.mv (ki (-1)))] [2, 5, 21])
 .ret)
 (.seq
 (.reg 448 [
 o 28 (.mv (.t 5)),
 o 29 (.fieldA 1 (.t 2)),
 o 30 (.load none (.t 29)),
 o 31 (.bin .mul (ki 2) (.t 30)),
 o 32 (.bin .gtr (.t 28) (.t 31)),
 o 27 (.mv (.t 32))] [2, 5, 21, 28, 29, 30, 31, 32])
 (.cond (.t 27)
 (.seq
 (.reg 512 [
 o 4 (.mv (ki 1))] [27])
 .ret)
 .skip))))))
 (.seq
 (.reg 576 [
 o 4 (.mv (ki 0))] [27])
 .ret))))
def fe15 : FnE := ⟨33, [(4, none)], xc15⟩
theorem ok15 : FnOk Tryd.prog 15 fe15 := fnOk_of Tryd.func15 (by kernel_rfl : chkF Tryd.prog hs15 Tryd.f15 = some fe15)
/- 16 crimp/crimplaw01.lives -/
def hs16 : Hints := [(0, ([], [0])), (1, ([], [38, 39, 40, 41, 42, 43, 44, 45, 46, 47, 48, 49, 50, 51, 52, 53, 54, 55, 56, 57, 58, 59, 60, 61, 62, 63, 64])), (2, ([], [65])), (3, ([], [0, 65, 66, 67, 68, 69, 70])), (4, ([], [71, 72, 73, 74, 75])), (6, ([], [76])), (8, ([0, 1, 2, 3, 4, 5, 6, 7, 8, 9, 10, 11], [77, 81, 82, 83, 84, 85, 86, 80, 87, 88])), (9, ([0, 1, 2, 3, 4, 5, 6, 7, 8, 9], [4, 5, 89, 90, 91, 92, 93, 94, 95])), (10, ([], [3, 97, 96, 2, 1, 254, 253, 250, 249, 246, 245, 242, 241, 219, 217, 218, 214, 212, 213, 209, 208, 205, 204, 201, 199, 200, 160, 159, 156, 154, 155, 151, 149, 150, 146, 144, 145, 141, 139, 140, 98])), (7, ([], [0, 98, 78, 79])), (11, ([], [1, 2, 3, 100, 101, 102, 99, 103, 104, 7])), (12, ([], [106, 107, 108, 105, 109, 110, 9])), (13, ([], [112, 113, 114, 111, 115, 116, 11])), (14, ([], [118, 119, 120, 117, 121, 122, 13])), (15, ([], [124, 125, 126, 123, 127, 128, 15])), (16, ([], [130, 131, 132, 129, 133, 134, 16])), (17, ([0, 1, 2, 3, 4, 5, 6, 7, 8, 9, 10, 11, 12, 13, 14, 15, 16, 17, 18, 19, 20, 21, 22, 23, 24, 25, 26], [160, 159, 156, 154, 155, 151, 149, 150, 146, 144, 145, 141, 139, 140, 6, 8, 10, 12, 14, 17, 135, 136, 137, 138, 142, 143, 147, 148, 152, 153, 157, 158])), (18, ([], [254, 253, 250, 249, 246, 245, 242, 241, 219, 217, 218, 214, 212, 213, 209, 208, 205, 204, 201, 199, 200, 161])), (19, ([], [0, 161, 163, 164, 165, 162, 166, 167, 19])), (20, ([], [169, 170, 171, 168, 172, 173, 21])), (21, ([], [175, 176, 177, 174, 178, 179, 22])), (22, ([], [181, 182, 180, 183, 184, 24])), (23, ([], [186, 187, 185, 188, 189, 27])), (24, ([], [191, 192, 190, 193, 194, 29])), (25, ([0, 1, 2, 3, 4, 5, 6, 7, 8, 9, 10, 11, 12, 13, 14, 15, 16, 17, 18, 19, 20, 21, 22, 23, 24, 25], [219, 217, 218, 214, 212, 213, 209, 208, 205, 204, 201, 199, 200, 18, 20, 23, 25, 26, 28, 195, 196, 197, 198, 202, 203, 206, 207, 210, 211, 215, 216])), (26, ([], [254, 253, 250, 249, 246, 245, 242, 241, 220])), (27, ([], [0, 220, 222, 221, 223, 224])), (28, ([], [226, 225, 227, 228, 32])), (29, ([], [230, 229, 231, 232, 34])), (30, ([], [234, 233, 235, 236, 36])), (31, ([0, 1, 2, 3, 4, 5, 6, 7, 8, 9, 10, 11, 12, 13, 14, 15, 16, 17, 18, 19], [254, 253, 250, 249, 246, 245, 242, 241, 30, 31, 33, 35, 37, 237, 238, 239, 240, 243, 244, 247, 248, 251, 252, 255]))]
def xc16 : XC :=
 (.seq
 (.reg 64 [
 o 0 (.mv (.c (.bool false)))] [0])
 (.seq
 (.seq
 (.reg 128 [
 o 38 (.call 30 [(ku 1), (ki 2)]),
 o 39 (.call 26 [(ki 3), (ki 9)]),
 o 40 (.call 15 [(.t 38), (.t 39)]),
 o 41 (.bin .neq (.t 40) (ki (-1))),
 o 42 (.mv (.t 41)),
 oi 43 42 false (.call 30 [(ku 1), (ki 2)]),
 oi 44 42 false (.call 26 [(ki 4), (ki 0)]),
 oi 45 42 false (.call 15 [(.t 43), (.t 44)]),
 oi 46 42 false (.bin .neq (.t 45) (ki 0)),
 o 47 (.pick (.t 42) (.c (.bool true)) (.t 46)),
 o 48 (.mv (.t 47)),
 oi 49 48 false (.call 30 [(ku 1), (ki 2)]),
 oi 50 48 false (.call 26 [(ki 5), (ki 0)]),
 oi 51 48 false (.call 15 [(.t 49), (.t 50)]),
 oi 52 48 false (.bin .neq (.t 51) (ki 1)),
 o 53 (.pick (.t 48) (.c (.bool true)) (.t 52)),
 o 54 (.mv (.t 53)),
 oi 55 54 false (.call 30 [(ku 3), (ki 5)]),
 oi 56 54 false (.call 26 [(ki 5), (ki 5)]),
 oi 57 54 false (.call 15 [(.t 55), (.t 56)]),
 oi 58 54 false (.bin .neq (.t 57) (ki 0)),
 o 59 (.pick (.t 54) (.c (.bool true)) (.t 58)),
 o 60 (.mv (.t 59)),
 oi 61 60 false (.call 30 [(ku 4), (ki (-1))]),
 oi 62 60 false (.call 26 [(ki 0), (ki 0)]),
 oi 63 60 false (.call 15 [(.t 61), (.t 62)]),
 oi 64 60 false (.bin .neq (.t 63) (ki 1)),
 o 65 (.pick (.t 60) (.c (.bool true)) (.t 64))] [38, 39, 40, 41, 42, 43, 44, 45, 46, 47, 48, 49, 50, 51, 52, 53, 54, 55, 56, 57, 58, 59, 60, 61, 62, 63, 64])
 (.cond (.t 65)
 (.seq
 (.reg 192 [
 o 0 (.mv (.c (.bool false)))] [65])
 .ret)
 .skip))
 (.seq
 (.reg 256 [
 o 66 (.call 30 [(ku 1), (ki 2)]),
 o 67 (.call 30 [(ku 2), (ki 2)]),
 o 68 (.call 30 [(ku 3), (ki 2)]),
 o 69 (.call 30 [(ku 4), (ki 2)]),
 o 70 (.buildS 2 4 0 [(.int .u8 0), (.int .i64 0)] [(0, 2, (.t 66)), (2, 2, (.t 67)), (4, 2, (.t 68)), (6, 2, (.t 69))]),
 o 1 (.mv (.t 70))] [0, 65, 66, 67, 68, 69, 70])
 (.seq
 (.reg 320 [
 o 71 (.call 26 [(ki 7), (ki 3)]),
 o 72 (.call 26 [(ki 1), (ki 5)]),
 o 73 (.call 26 [(ki 1), (ki 3)]),
 o 74 (.call 26 [(ki (-1)), (ki 5)]),
 o 75 (.buildS 2 4 0 [(.int .i64 0), (.int .i64 0)] [(0, 2, (.t 71)), (2, 2, (.t 72)), (4, 2, (.t 73)), (6, 2, (.t 74))]),
 o 2 (.mv (.t 75))] [71, 72, 73, 74, 75])
 (.seq
 (.seq
 (.reg 384 [
 o 3 (.mv (ki 0))] [])
 (.block 0
 (.loop
 (.seq
 (.seq
 (.reg 448 [
 o 76 (.mv (.t 3)),
 o 77 (.bin .lss (.t 76) (ki 4))] [76])
 (.cond (.t 77)
 .skip
 (.exit 0)))
 (.seq
 (.block 1
 (.seq
 (.draw 576 [
 o 81 (.mv (.t 1)),
 o 82 (.mv (.t 3)),
 o 83 (.idxA none 2 (.t 81) (.t 82)),
 o 84 (.load (some 2) (.t 83)),
 o 85 (.call 26 [(ki 1), (ki 3)]),
 o 86 (.call 18 [(.t 84), (.t 85)]),
 o 80 (.mv (.t 86)),
 o 87 (.ext (.t 80) 0),
 o 88 (.ext (.t 80) 1),
 o 4 (.new (.cells [(.int .i64 0), (.int .i64 0)]) 1 2),
 ⟨none, .store 2 (.t 4) (.t 87), none⟩,
 o 5 (.mv (.t 88))]
 [[], [], [0, 1], [2], [], [3, 4, 4], [5], [6], [6], [], [9, 7, 5, 0, 1, 2, 3, 4, 5, 6, 7, 9], [8, 10, 0, 1, 2, 3, 4, 5, 6, 7, 8, 9, 10]]
 [0, 1, 2, 3, 4, 5, 6, 7, 8, 9, 10, 11] [77, 81, 82, 83, 84, 85, 86, 80, 87, 88])
 (.seq
 (.draw 640 [
 o 89 (.load (some 2) (.t 4)),
 o 90 (.mv (.t 2)),
 o 91 (.mv (.t 3)),
 o 92 (.idxA none 2 (.t 90) (.t 91)),
 o 93 (.load (some 2) (.t 92)),
 o 94 (.eqa true 2 [(0, 0), (1, 0)] (.t 89) (.t 93)),
 o 95 (.mv (.t 94)),
 oi 96 95 false (.mv (.t 5)),
 oi 97 95 false (.bin .neq (.t 96) (ki 0)),
 o 98 (.pick (.t 95) (.c (.bool true)) (.t 97))]
 [[], [], [], [1, 2], [3], [0, 4], [5], [6], [7, 6], [6, 8]]
 [0, 1, 2, 3, 4, 5, 6, 7, 8, 9] [4, 5, 89, 90, 91, 92, 93, 94, 95])
 (.cond (.t 98)
 (.seq
 (.reg 704 [
 o 0 (.mv (.c (.bool false)))] [3, 97, 96, 2, 1, 254, 253, 250, 249, 246, 245, 242, 241, 219, 217, 218, 214, 212, 213, 209, 208, 205, 204, 201, 199, 200, 160, 159, 156, 154, 155, 151, 149, 150, 146, 144, 145, 141, 139, 140, 98])
 .ret)
 .skip))))
 (.reg 512 [
 o 78 (.mv (.t 3)),
 o 79 (.bin .add (.t 78) (ki 1)),
 o 3 (.mv (.t 79))] [0, 98, 78, 79]))))))
 (.seq
 (.reg 768 [
 o 100 (.call 30 [(ku 3), (ki 3)]),
 o 101 (.call 30 [(ku 1), (ki 1)]),
 o 102 (.call 21 [(.t 100), (.t 101)]),
 o 99 (.mv (.t 102)),
 o 103 (.ext (.t 99) 0),
 o 104 (.ext (.t 99) 1),
 o 6 (.new (.cells [(.int .u8 0), (.int .i64 0)]) 1 2),
 ⟨none, .store 2 (.t 6) (.t 103), none⟩,
 o 7 (.mv (.t 104))] [1, 2, 3, 100, 101, 102, 99, 103, 104, 7])
 (.seq
 (.reg 832 [
 o 106 (.call 30 [(ku 3), (ki 3)]),
 o 107 (.call 30 [(ku 3), (ki 1)]),
 o 108 (.call 21 [(.t 106), (.t 107)]),
 o 105 (.mv (.t 108)),
 o 109 (.ext (.t 105) 0),
 o 110 (.ext (.t 105) 1),
 o 8 (.new (.cells [(.int .u8 0), (.int .i64 0)]) 1 2),
 ⟨none, .store 2 (.t 8) (.t 109), none⟩,
 o 9 (.mv (.t 110))] [106, 107, 108, 105, 109, 110, 9])
 (.seq
 (.reg 896 [
 o 112 (.call 30 [(ku 3), (ki 3)]),
 o 113 (.call 30 [(ku 4), (ki 1)]),
 o 114 (.call 21 [(.t 112), (.t 113)]),
 o 111 (.mv (.t 114)),
 o 115 (.ext (.t 111) 0),
 o 116 (.ext (.t 111) 1),
 o 10 (.new (.cells [(.int .u8 0), (.int .i64 0)]) 1 2),
 ⟨none, .store 2 (.t 10) (.t 115), none⟩,
 o 11 (.mv (.t 116))] [112, 113, 114, 111, 115, 116, 11])
 (.seq
 (.reg 960 [
 o 118 (.call 30 [(ku 1), (ki 1)]),
 o 119 (.call 30 [(ku 3), (ki 3)]),
 o 120 (.call 21 [(.t 118), (.t 119)]),
 o 117 (.mv (.t 120)),
 o 121 (.ext (.t 117) 0),
 o 122 (.ext (.t 117) 1),
 o 12 (.new (.cells [(.int .u8 0), (.int .i64 0)]) 1 2),
 ⟨none, .store 2 (.t 12) (.t 121), none⟩,
 o 13 (.mv (.t 122))] [118, 119, 120, 117, 121, 122, 13])
 (.seq
 (.reg 1024 [
 o 124 (.call 30 [(ku 1), (ki 1)]),
 o 125 (.call 30 [(ku 4), (ki 3)]),
 o 126 (.call 21 [(.t 124), (.t 125)]),
 o 123 (.mv (.t 126)),
 o 127 (.ext (.t 123) 0),
 o 128 (.ext (.t 123) 1),
 o 14 (.new (.cells [(.int .u8 0), (.int .i64 0)]) 1 2),
 ⟨none, .store 2 (.t 14) (.t 127), none⟩,
 o 15 (.mv (.t 128))] [124, 125, 126, 123, 127, 128, 15])
 (.seq
 (.reg 1088 [
 o 130 (.call 30 [(ku 2), (ki 4096)]),
 o 131 (.call 30 [(ku 2), (ki (-1))]),
 o 132 (.call 21 [(.t 130), (.t 131)]),
 o 129 (.mv (.t 132)),
 o 133 (.ext (.t 129) 0),
 o 134 (.ext (.t 129) 1),
 o 16 (.new (.cells [(.int .u8 0), (.int .i64 0)]) 1 2),
 ⟨none, .store 2 (.t 16) (.t 133), none⟩,
 o 17 (.mv (.t 134))] [130, 131, 132, 129, 133, 134, 16])
 (.seq
 (.seq
 (.draw 1152 [
 o 135 (.load (some 2) (.t 6)),
 o 136 (.call 30 [(ku 2), (ki 2)]),
 o 137 (.eqa true 2 [(0, 0), (1, 0)] (.t 135) (.t 136)),
 o 138 (.mv (.t 137)),
 oi 139 138 false (.load (some 2) (.t 8)),
 oi 140 138 false (.call 30 [(ku 3), (ki 5)]),
 oi 141 138 false (.eqa true 2 [(0, 0), (1, 0)] (.t 139) (.t 140)),
 o 142 (.pick (.t 138) (.c (.bool true)) (.t 141)),
 o 143 (.mv (.t 142)),
 oi 144 143 false (.load (some 2) (.t 10)),
 oi 145 143 false (.call 30 [(ku 4), (ki 1)]),
 oi 146 143 false (.eqa true 2 [(0, 0), (1, 0)] (.t 144) (.t 145)),
 o 147 (.pick (.t 143) (.c (.bool true)) (.t 146)),
 o 148 (.mv (.t 147)),
 oi 149 148 false (.load (some 2) (.t 12)),
 oi 150 148 false (.call 30 [(ku 4), (ki 1)]),
 oi 151 148 false (.eqa true 2 [(0, 0), (1, 0)] (.t 149) (.t 150)),
 o 152 (.pick (.t 148) (.c (.bool true)) (.t 151)),
 o 153 (.mv (.t 152)),
 oi 154 153 false (.load (some 2) (.t 14)),
 oi 155 153 false (.call 30 [(ku 3), (ki 5)]),
 oi 156 153 false (.eqa true 2 [(0, 0), (1, 0)] (.t 154) (.t 155)),
 o 157 (.pick (.t 153) (.c (.bool true)) (.t 156)),
 o 158 (.mv (.t 157)),
 oi 159 158 false (.mv (.t 17)),
 oi 160 158 false (.bin .neq (.t 159) (ki 3)),
 o 161 (.pick (.t 158) (.c (.bool true)) (.t 160))]
 [[], [], [0, 1], [2, 1], [3], [3, 3], [4, 5, 3], [3, 6], [7, 5], [8], [8, 8], [9, 10, 8], [8, 11], [12, 10], [13], [13, 13], [14, 15, 13], [13, 16], [17, 15], [18], [18, 18], [19, 20, 18], [18, 21], [22, 20], [23], [24, 23], [23, 25]]
 [0, 1, 2, 3, 4, 5, 6, 7, 8, 9, 10, 11, 12, 13, 14, 15, 16, 17, 18, 19, 20, 21, 22, 23, 24, 25, 26] [160, 159, 156, 154, 155, 151, 149, 150, 146, 144, 145, 141, 139, 140, 6, 8, 10, 12, 14, 17, 135, 136, 137, 138, 142, 143, 147, 148, 152, 153, 157, 158])
 (.cond (.t 161)
 (.seq
 (.reg 1216 [
 o 0 (.mv (.c (.bool false)))] [254, 253, 250, 249, 246, 245, 242, 241, 219, 217, 218, 214, 212, 213, 209, 208, 205, 204, 201, 199, 200, 161])
 .ret)
 .skip))
 (.seq
 (.reg 1280 [
 o 163 (.call 30 [(ku 1), (ki 1)]),
 o 164 (.call 30 [(ku 3), (ki 4)]),
 o 165 (.call 23 [(.t 163), (.t 164)]),
 o 162 (.mv (.t 165)),
 o 166 (.ext (.t 162) 0),
 o 167 (.ext (.t 162) 1),
 o 18 (.new (.cells [(.int .i64 0), (.int .i64 0)]) 1 2),
 ⟨none, .store 2 (.t 18) (.t 166), none⟩,
 o 19 (.mv (.t 167))] [0, 161, 163, 164, 165, 162, 166, 167, 19])
 (.seq
 (.reg 1344 [
 o 169 (.call 30 [(ku 3), (ki 3)]),
 o 170 (.call 30 [(ku 4), (ki 2)]),
 o 171 (.call 23 [(.t 169), (.t 170)]),
 o 168 (.mv (.t 171)),
 o 172 (.ext (.t 168) 0),
 o 173 (.ext (.t 168) 1),
 o 20 (.new (.cells [(.int .i64 0), (.int .i64 0)]) 1 2),
 ⟨none, .store 2 (.t 20) (.t 172), none⟩,
 o 21 (.mv (.t 173))] [169, 170, 171, 168, 172, 173, 21])
 (.seq
 (.reg 1408 [
 o 175 (.call 30 [(ku 1), (ki 1)]),
 o 176 (.call 30 [(ku 1), (ki 2)]),
 o 177 (.call 23 [(.t 175), (.t 176)]),
 o 174 (.mv (.t 177)),
 o 178 (.ext (.t 174) 0),
 o 179 (.ext (.t 174) 1),
 o 22 (.new (.cells [(.int .i64 0), (.int .i64 0)]) 1 2),
 ⟨none, .store 2 (.t 22) (.t 178), none⟩,
 o 23 (.mv (.t 179))] [175, 176, 177, 174, 178, 179, 22])
 (.seq
 (.reg 1472 [
 o 181 (.call 26 [(ki 3), (ki 0)]),
 o 182 (.call 24 [(ku 1), (.t 181)]),
 o 180 (.mv (.t 182)),
 o 183 (.ext (.t 180) 0),
 o 184 (.ext (.t 180) 1),
 o 24 (.new (.cells [(.int .u8 0), (.int .i64 0)]) 1 2),
 ⟨none, .store 2 (.t 24) (.t 183), none⟩,
 o 25 (.mv (.t 184))] [181, 182, 180, 183, 184, 24])
 (.seq
 (.reg 1536 [
 o 186 (.call 26 [(ki 3), (ki 1)]),
 o 187 (.call 24 [(ku 3), (.t 186)]),
 o 185 (.mv (.t 187)),
 o 188 (.ext (.t 185) 0),
 o 189 (.ext (.t 185) 1),
 o 26 (.new (.cells [(.int .u8 0), (.int .i64 0)]) 1 2),
 ⟨none, .store 2 (.t 26) (.t 188), none⟩,
 o 27 (.mv (.t 189))] [186, 187, 185, 188, 189, 27])
 (.seq
 (.reg 1600 [
 o 191 (.call 26 [(ki 3), (ki 1)]),
 o 192 (.call 24 [(ku 4), (.t 191)]),
 o 190 (.mv (.t 192)),
 o 193 (.ext (.t 190) 0),
 o 194 (.ext (.t 190) 1),
 o 28 (.new (.cells [(.int .u8 0), (.int .i64 0)]) 1 2),
 ⟨none, .store 2 (.t 28) (.t 193), none⟩,
 o 29 (.mv (.t 194))] [191, 192, 190, 193, 194, 29])
 (.seq
 (.seq
 (.draw 1664 [
 o 195 (.load (some 2) (.t 18)),
 o 196 (.call 26 [(ki 2), (ki 6)]),
 o 197 (.eqa true 2 [(0, 0), (1, 0)] (.t 195) (.t 196)),
 o 198 (.mv (.t 197)),
 oi 199 198 false (.load (some 2) (.t 20)),
 oi 200 198 false (.call 26 [(ki 1), (ki 5)]),
 oi 201 198 false (.eqa true 2 [(0, 0), (1, 0)] (.t 199) (.t 200)),
 o 202 (.pick (.t 198) (.c (.bool true)) (.t 201)),
 o 203 (.mv (.t 202)),
 oi 204 203 false (.mv (.t 23)),
 oi 205 203 false (.bin .neq (.t 204) (ki 7)),
 o 206 (.pick (.t 203) (.c (.bool true)) (.t 205)),
 o 207 (.mv (.t 206)),
 oi 208 207 false (.mv (.t 25)),
 oi 209 207 false (.bin .neq (.t 208) (ki 7)),
 o 210 (.pick (.t 207) (.c (.bool true)) (.t 209)),
 o 211 (.mv (.t 210)),
 oi 212 211 false (.load (some 2) (.t 26)),
 oi 213 211 false (.call 30 [(ku 3), (ki 2)]),
 oi 214 211 false (.eqa true 2 [(0, 0), (1, 0)] (.t 212) (.t 213)),
 o 215 (.pick (.t 211) (.c (.bool true)) (.t 214)),
 o 216 (.mv (.t 215)),
 oi 217 216 false (.load (some 2) (.t 28)),
 oi 218 216 false (.call 30 [(ku 4), (ki (-1))]),
 oi 219 216 false (.eqa true 2 [(0, 0), (1, 0)] (.t 217) (.t 218)),
 o 220 (.pick (.t 216) (.c (.bool true)) (.t 219))]
 [[], [], [0, 1], [2, 1], [3], [3, 3], [4, 5, 3], [3, 6], [7, 5], [8], [9, 8], [8, 10], [11, 8], [12], [13, 12], [12, 14], [15, 12], [16], [16, 16], [17, 18, 16], [16, 19], [20, 18], [21], [21, 21], [22, 23, 21], [21, 24]]
 [0, 1, 2, 3, 4, 5, 6, 7, 8, 9, 10, 11, 12, 13, 14, 15, 16, 17, 18, 19, 20, 21, 22, 23, 24, 25] [219, 217, 218, 214, 212, 213, 209, 208, 205, 204, 201, 199, 200, 18, 20, 23, 25, 26, 28, 195, 196, 197, 198, 202, 203, 206, 207, 210, 211, 215, 216])
 (.cond (.t 220)
 (.seq
 (.reg 1728 [
 o 0 (.mv (.c (.bool false)))] [254, 253, 250, 249, 246, 245, 242, 241, 220])
 .ret)
 .skip))
 (.seq
 (.reg 1792 [
 o 222 (.call 28 [(.c (.str [121, 32, 45, 50]))]),
 o 221 (.mv (.t 222)),
 o 223 (.ext (.t 221) 0),
 o 224 (.ext (.t 221) 1),
 o 30 (.new (.cells [(.int .u8 0), (.int .i64 0)]) 1 2),
 ⟨none, .store 2 (.t 30) (.t 223), none⟩,
 o 31 (.mv (.t 224))] [0, 220, 222, 221, 223, 224])
 (.seq
 (.reg 1856 [
 o 226 (.call 28 [(.c (.str [121, 32, 45, 48]))]),
 o 225 (.mv (.t 226)),
 o 227 (.ext (.t 225) 0),
 o 228 (.ext (.t 225) 1),
 o 32 (.new (.cells [(.int .u8 0), (.int .i64 0)]) 1 2),
 ⟨none, .store 2 (.t 32) (.t 227), none⟩,
 o 33 (.mv (.t 228))] [226, 225, 227, 228, 32])
 (.seq
 (.reg 1920 [
 o 230 (.call 28 [(.c (.str [120, 32, 52, 48, 57, 55]))]),
 o 229 (.mv (.t 230)),
 o 231 (.ext (.t 229) 0),
 o 232 (.ext (.t 229) 1),
 o 34 (.new (.cells [(.int .u8 0), (.int .i64 0)]) 1 2),
 ⟨none, .store 2 (.t 34) (.t 231), none⟩,
 o 35 (.mv (.t 232))] [230, 229, 231, 232, 34])
 (.seq
 (.reg 1984 [
 o 234 (.call 28 [(.c (.str [122, 32, 49]))]),
 o 233 (.mv (.t 234)),
 o 235 (.ext (.t 233) 0),
 o 236 (.ext (.t 233) 1),
 o 36 (.new (.cells [(.int .u8 0), (.int .i64 0)]) 1 2),
 ⟨none, .store 2 (.t 36) (.t 235), none⟩,
 o 37 (.mv (.t 236))] [234, 233, 235, 236, 36])
 (.seq
 (.draw 2048 [
 o 237 (.load (some 2) (.t 30)),
 o 238 (.call 30 [(ku 2), (ki (-2))]),
 o 239 (.eqa false 2 [(0, 0), (1, 0)] (.t 237) (.t 238)),
 o 240 (.mv (.t 239)),
 oi 241 240 true (.mv (.t 31)),
 oi 242 240 true (.bin .eql (.t 241) (ki 0)),
 o 243 (.pick (.t 240) (.t 242) (.c (.bool false))),
 o 244 (.mv (.t 243)),
 oi 245 244 true (.mv (.t 33)),
 oi 246 244 true (.bin .eql (.t 245) (ki 4)),
 o 247 (.pick (.t 244) (.t 246) (.c (.bool false))),
 o 248 (.mv (.t 247)),
 oi 249 248 true (.mv (.t 35)),
 oi 250 248 true (.bin .eql (.t 249) (ki 4)),
 o 251 (.pick (.t 248) (.t 250) (.c (.bool false))),
 o 252 (.mv (.t 251)),
 oi 253 252 true (.mv (.t 37)),
 oi 254 252 true (.bin .eql (.t 253) (ki 4)),
 o 255 (.pick (.t 252) (.t 254) (.c (.bool false))),
 o 0 (.mv (.t 255))]
 [[], [], [0, 1], [2, 1], [3], [4, 3], [3, 5], [6, 3], [7], [8, 7], [7, 9], [10, 7], [11], [12, 11], [11, 13], [14, 11], [15], [16, 15], [15, 17], [18, 15, 0, 1, 2, 3, 4, 5, 6, 7, 8, 9, 10, 11, 12, 13, 14, 15, 16, 17, 18]]
 [0, 1, 2, 3, 4, 5, 6, 7, 8, 9, 10, 11, 12, 13, 14, 15, 16, 17, 18, 19] [254, 253, 250, 249, 246, 245, 242, 241, 30, 31, 33, 35, 37, 237, 238, 239, 240, 243, 244, 247, 248, 251, 252, 255])
 .ret))))))))))))))))))))))))
def fe16 : FnE := ⟨256, [(0, none)], xc16⟩
theorem ok16 : FnOk Tryd.prog 16 fe16 := fnOk_of Tryd.func16 (by kernel_rfl : chkF Tryd.prog hs16 Tryd.f16 = some fe16)
/- 17 crimp/crimpref01.Far -/
def hs17 : Hints := [(0, ([], [0, 1, 4])), (1, ([], [8, 9, 10, 7, 11, 12])), (2, ([], [2, 3, 5, 6, 13, 14, 15, 16, 17, 18, 19, 20, 21, 22, 23, 24, 25]))]
def xc17 : XC :=
 (.seq
 (.reg 64 [
 o 2 (.box (.t 0)),
 o 3 (.box (.t 1)),
 o 4 (.mv (ki 0))] [0, 1, 4])
 (.seq
 (.reg 128 [
 o 8 (.fieldA 0 (.t 2)),
 o 9 (.load none (.t 8)),
 o 10 (.call 20 [(.t 9)]),
 o 7 (.mv (.t 10)),
 o 11 (.ext (.t 7) 0),
 o 12 (.ext (.t 7) 1),
 o 5 (.mv (.t 11)),
 o 6 (.mv (.t 12))] [8, 9, 10, 7, 11, 12])
 (.seq
 (.reg 192 [
 o 13 (.mv (.t 5)),
 o 14 (.fieldA 0 (.t 3)),
 o 15 (.load none (.t 14)),
 o 16 (.bin .mul (.t 13) (.t 15)),
 o 17 (.mv (.t 6)),
 o 18 (.fieldA 1 (.t 3)),
 o 19 (.load none (.t 18)),
 o 20 (.bin .mul (.t 17) (.t 19)),
 o 21 (.bin .add (.t 16) (.t 20)),
 o 22 (.fieldA 1 (.t 2)),
 o 23 (.load none (.t 22)),
 o 24 (.bin .mul (ki 2) (.t 23)),
 o 25 (.bin .sub (.t 21) (.t 24)),
 o 4 (.mv (.t 25))] [2, 3, 5, 6, 13, 14, 15, 16, 17, 18, 19, 20, 21, 22, 23, 24, 25])
 .ret)))
def fe17 : FnE := ⟨26, [(4, none)], xc17⟩
theorem ok17 : FnOk Tryd.prog 17 fe17 := fnOk_of Tryd.func17 (by kernel_rfl : chkF Tryd.prog hs17 Tryd.f17 = some fe17)
/- 18 crimp/lines.Reflect -/
def hs18 : Hints := [(0, ([], [0, 1, 5])), (1, ([], [7, 8, 9, 10, 11, 12, 13])), (2, ([], [2, 3, 14, 15])), (3, ([0, 1, 2, 3, 4, 5, 6, 7, 8, 9, 10], [5, 2, 3, 14, 16, 17, 18, 19, 20, 21, 22, 23, 24])), (4, ([], [25, 26])), (5, ([], [6, 27, 28])), (6, ([], [6, 27, 29]))]
def xc18 : XC :=
 (.seq
 (.reg 64 [
 o 2 (.box (.t 0)),
 o 3 (.box (.t 1)),
 o 4 (.new (.cells [(.int .i64 0), (.int .i64 0)]) 1 2),
 o 5 (.mv (ki 0))] [0, 1, 5])
 (.seq
 (.seq
 (.reg 128 [
 o 7 (.load (some 2) (.t 2)),
 o 8 (.call 13 [(.t 7)]),
 o 9 (.bin .neq (.t 8) (ki 0)),
 o 10 (.mv (.t 9)),
 oi 11 10 false (.load (some 2) (.t 3)),
 oi 12 10 false (.call 14 [(.t 11)]),
 oi 13 10 false (.bin .neq (.t 12) (ki 0)),
 o 14 (.pick (.t 10) (.c (.bool true)) (.t 13))] [7, 8, 9, 10, 11, 12, 13])
 (.cond (.t 14)
 (.seq
 (.reg 192 [
 o 15 (.build [(.int .i64 0), (.int .i64 0)] []),
 ⟨none, .store 2 (.t 4) (.t 15), none⟩,
 o 5 (.mv (ki 1))] [2, 3, 14, 15])
 .ret)
 .skip))
 (.seq
 (.draw 256 [
 o 16 (.call 31 []),
 o 17 (.fieldA 0 (.t 2)),
 o 18 (.load none (.t 17)),
 o 19 (.idx 5 3 true (.t 16) (.t 18)),
 o 20 (.field 1 none (.t 19)),
 o 21 (.fieldA 1 (.t 2)),
 o 22 (.load none (.t 21)),
 o 23 (.load (some 2) (.t 3)),
 o 24 (.callv (.t 20) [(.t 22), (.t 23)]),
 o 6 (.new (.cells [(.int .i64 0), (.int .i64 0)]) 1 2),
 ⟨none, .store 2 (.t 6) (.t 24), none⟩]
 [[], [], [1], [0, 2], [3], [], [5], [], [4, 6, 7, 0], [], [9, 8, 8, 0, 1, 2, 3, 4, 5, 6, 7, 8, 9]]
 [0, 1, 2, 3, 4, 5, 6, 7, 8, 9, 10] [5, 2, 3, 14, 16, 17, 18, 19, 20, 21, 22, 23, 24])
 (.seq
 (.seq
 (.reg 320 [
 o 25 (.load (some 2) (.t 6)),
 o 26 (.call 14 [(.t 25)]),
 o 27 (.bin .neq (.t 26) (ki 0))] [25, 26])
 (.cond (.t 27)
 (.seq
 (.reg 384 [
 o 28 (.build [(.int .i64 0), (.int .i64 0)] []),
 ⟨none, .store 2 (.t 4) (.t 28), none⟩,
 o 5 (.mv (ki 3))] [6, 27, 28])
 .ret)
 .skip))
 (.seq
 (.reg 448 [
 o 29 (.load (some 2) (.t 6)),
 ⟨none, .store 2 (.t 4) (.t 29), none⟩,
 o 5 (.mv (ki 0))] [6, 27, 29])
 .ret)))))
def fe18 : FnE := ⟨30, [(4, some (some 2)), (5, none)], xc18⟩
theorem ok18 : FnOk Tryd.prog 18 fe18 := fnOk_of Tryd.func18 (by kernel_rfl : chkF Tryd.prog hs18 Tryd.f18 = some fe18)
/- 19 crimp/crimpref01.Reflect -/
def hs19 : Hints := [(0, ([], [0, 1])), (1, ([], [9, 10, 11, 8, 12, 13])), (2, ([], [2, 14, 15, 16, 17, 18, 19, 20, 21, 22, 23, 24, 25])), (3, ([], [3, 5, 6, 7, 26, 27, 28, 29, 30, 31, 32, 33, 34, 35, 36, 37, 38]))]
def xc19 : XC :=
 (.seq
 (.reg 64 [
 o 2 (.box (.t 0)),
 o 3 (.box (.t 1)),
 o 4 (.new (.cells [(.int .i64 0), (.int .i64 0)]) 1 2)] [0, 1])
 (.seq
 (.reg 128 [
 o 9 (.fieldA 0 (.t 2)),
 o 10 (.load none (.t 9)),
 o 11 (.call 20 [(.t 10)]),
 o 8 (.mv (.t 11)),
 o 12 (.ext (.t 8) 0),
 o 13 (.ext (.t 8) 1),
 o 5 (.mv (.t 12)),
 o 6 (.mv (.t 13))] [9, 10, 11, 8, 12, 13])
 (.seq
 (.reg 192 [
 o 14 (.load (some 2) (.t 2)),
 o 15 (.load (some 2) (.t 3)),
 o 16 (.call 17 [(.t 14), (.t 15)]),
 o 17 (.bin .mul (ki 2) (.t 16)),
 o 18 (.mv (.t 5)),
 o 19 (.mv (.t 5)),
 o 20 (.bin .mul (.t 18) (.t 19)),
 o 21 (.mv (.t 6)),
 o 22 (.mv (.t 6)),
 o 23 (.bin .mul (.t 21) (.t 22)),
 o 24 (.bin .add (.t 20) (.t 23)),
 o 25 (.bin .quo (.t 17) (.t 24)),
 o 7 (.mv (.t 25))] [2, 14, 15, 16, 17, 18, 19, 20, 21, 22, 23, 24, 25])
 (.seq
 (.reg 256 [
 o 26 (.fieldA 0 (.t 3)),
 o 27 (.load none (.t 26)),
 o 28 (.mv (.t 7)),
 o 29 (.mv (.t 5)),
 o 30 (.bin .mul (.t 28) (.t 29)),
 o 31 (.bin .sub (.t 27) (.t 30)),
 o 32 (.fieldA 1 (.t 3)),
 o 33 (.load none (.t 32)),
 o 34 (.mv (.t 7)),
 o 35 (.mv (.t 6)),
 o 36 (.bin .mul (.t 34) (.t 35)),
 o 37 (.bin .sub (.t 33) (.t 36)),
 o 38 (.build [(.int .i64 0), (.int .i64 0)] [(0, 1, (.t 31)), (1, 1, (.t 37))]),
 ⟨none, .store 2 (.t 4) (.t 38), none⟩] [3, 5, 6, 7, 26, 27, 28, 29, 30, 31, 32, 33, 34, 35, 36, 37, 38])
 .ret))))
def fe19 : FnE := ⟨39, [(4, some (some 2))], xc19⟩
theorem ok19 : FnOk Tryd.prog 19 fe19 := fnOk_of Tryd.func19 (by kernel_rfl : chkF Tryd.prog hs19 Tryd.f19 = some fe19)
/- 20 crimp/crimpref01.Across -/
def hs20 : Hints := [(0, ([], [2, 3])), (1, ([], [4])), (2, ([], [0, 5])), (3, ([], [2, 3, 5, 6])), (4, ([], [0, 7])), (5, ([], [2, 3, 0, 7, 8])), (6, ([], [9])), (7, ([], [9]))]
def xc20 : XC :=
 (.seq
 (.reg 64 [
 o 2 (.mv (ki 0)),
 o 3 (.mv (ki 0))] [2, 3])
 (.seq
 (.seq
 (.reg 128 [
 o 4 (.mv (.t 0)),
 o 5 (.bin .eql (.t 4) (ku 1))] [4])
 (.cond (.t 5)
 (.seq
 (.reg 192 [
 o 2 (.mv (ki 1)),
 o 3 (.mv (ki 0))] [0, 5])
 .ret)
 .skip))
 (.seq
 (.seq
 (.reg 256 [
 o 6 (.mv (.t 0)),
 o 7 (.bin .eql (.t 6) (ku 2))] [2, 3, 5, 6])
 (.cond (.t 7)
 (.seq
 (.reg 320 [
 o 2 (.mv (ki 0)),
 o 3 (.mv (ki 1))] [0, 7])
 .ret)
 .skip))
 (.seq
 (.seq
 (.reg 384 [
 o 8 (.mv (.t 0)),
 o 9 (.bin .eql (.t 8) (ku 3))] [2, 3, 0, 7, 8])
 (.cond (.t 9)
 (.seq
 (.reg 448 [
 o 2 (.mv (ki 1)),
 o 3 (.mv (ki 1))] [9])
 .ret)
 .skip))
 (.seq
 (.reg 512 [
 o 2 (.mv (ki (-1))),
 o 3 (.mv (ki 1))] [9])
 .ret)))))
def fe20 : FnE := ⟨10, [(2, none), (3, none)], xc20⟩
theorem ok20 : FnOk Tryd.prog 20 fe20 := fnOk_of Tryd.func20 (by kernel_rfl : chkF Tryd.prog hs20 Tryd.f20 = some fe20)
/- 21 crimp/lines.Image -/
def hs21 : Hints := [(0, ([], [0, 1, 5])), (1, ([], [7, 8, 9, 10, 11, 12, 13])), (2, ([], [2, 3, 14, 15])), (3, ([0, 1, 2, 3, 4, 5, 6, 7, 8, 9, 10], [5, 2, 3, 14, 16, 17, 18, 19, 20, 21, 22, 23, 24])), (4, ([], [25, 26])), (5, ([], [6, 27, 28])), (6, ([], [6, 27, 29]))]
def xc21 : XC :=
 (.seq
 (.reg 64 [
 o 2 (.box (.t 0)),
 o 3 (.box (.t 1)),
 o 4 (.new (.cells [(.int .u8 0), (.int .i64 0)]) 1 2),
 o 5 (.mv (ki 0))] [0, 1, 5])
 (.seq
 (.seq
 (.reg 128 [
 o 7 (.load (some 2) (.t 2)),
 o 8 (.call 13 [(.t 7)]),
 o 9 (.bin .neq (.t 8) (ki 0)),
 o 10 (.mv (.t 9)),
 oi 11 10 false (.load (some 2) (.t 3)),
 oi 12 10 false (.call 13 [(.t 11)]),
 oi 13 10 false (.bin .neq (.t 12) (ki 0)),
 o 14 (.pick (.t 10) (.c (.bool true)) (.t 13))] [7, 8, 9, 10, 11, 12, 13])
 (.cond (.t 14)
 (.seq
 (.reg 192 [
 o 15 (.build [(.int .u8 0), (.int .i64 0)] []),
 ⟨none, .store 2 (.t 4) (.t 15), none⟩,
 o 5 (.mv (ki 1))] [2, 3, 14, 15])
 .ret)
 .skip))
 (.seq
 (.draw 256 [
 o 16 (.call 31 []),
 o 17 (.fieldA 0 (.t 2)),
 o 18 (.load none (.t 17)),
 o 19 (.idx 5 3 true (.t 16) (.t 18)),
 o 20 (.field 2 none (.t 19)),
 o 21 (.fieldA 1 (.t 2)),
 o 22 (.load none (.t 21)),
 o 23 (.load (some 2) (.t 3)),
 o 24 (.callv (.t 20) [(.t 22), (.t 23)]),
 o 6 (.new (.cells [(.int .u8 0), (.int .i64 0)]) 1 2),
 ⟨none, .store 2 (.t 6) (.t 24), none⟩]
 [[], [], [1], [0, 2], [3], [], [5], [], [4, 6, 7, 0], [], [9, 8, 8, 0, 1, 2, 3, 4, 5, 6, 7, 8, 9]]
 [0, 1, 2, 3, 4, 5, 6, 7, 8, 9, 10] [5, 2, 3, 14, 16, 17, 18, 19, 20, 21, 22, 23, 24])
 (.seq
 (.seq
 (.reg 320 [
 o 25 (.load (some 2) (.t 6)),
 o 26 (.call 13 [(.t 25)]),
 o 27 (.bin .neq (.t 26) (ki 0))] [25, 26])
 (.cond (.t 27)
 (.seq
 (.reg 384 [
 o 28 (.build [(.int .u8 0), (.int .i64 0)] []),
 ⟨none, .store 2 (.t 4) (.t 28), none⟩,
 o 5 (.mv (ki 3))] [6, 27, 28])
 .ret)
 .skip))
 (.seq
 (.reg 448 [
 o 29 (.load (some 2) (.t 6)),
 ⟨none, .store 2 (.t 4) (.t 29), none⟩,
 o 5 (.mv (ki 0))] [6, 27, 29])
 .ret)))))
def fe21 : FnE := ⟨30, [(4, some (some 2)), (5, none)], xc21⟩
theorem ok21 : FnOk Tryd.prog 21 fe21 := fnOk_of Tryd.func21 (by kernel_rfl : chkF Tryd.prog hs21 Tryd.f21 = some fe21)
/- 22 crimp/crimpref01.On -/
def hs22 : Hints := [(0, ([], [0])), (1, ([], [8, 9, 10, 7, 11, 12])), (2, ([], [13, 14, 15, 16, 17, 18, 19, 20, 21, 22, 23])), (3, ([], [24, 25, 26, 27, 28, 29, 30])), (4, ([], [1, 31, 32, 33, 34, 35, 36, 37, 38, 39, 40])), (5, ([0, 1, 2, 3, 4, 5, 6, 7, 8, 9, 10, 11, 12, 13], [4, 5, 6, 1, 31, 41, 42, 43, 44, 45, 46, 47, 48, 49, 50, 51, 52]))]
def xc22 : XC :=
 (.seq
 (.reg 64 [
 o 1 (.box (.t 0)),
 o 2 (.new (.cells [(.int .i64 0), (.int .i64 0)]) 1 2),
 o 3 (.new (.cells [(.int .i64 0), (.int .i64 0)]) 1 2)] [0])
 (.seq
 (.reg 128 [
 o 8 (.fieldA 0 (.t 1)),
 o 9 (.load none (.t 8)),
 o 10 (.call 20 [(.t 9)]),
 o 7 (.mv (.t 10)),
 o 11 (.ext (.t 7) 0),
 o 12 (.ext (.t 7) 1),
 o 4 (.mv (.t 11)),
 o 5 (.mv (.t 12))] [8, 9, 10, 7, 11, 12])
 (.seq
 (.reg 192 [
 o 13 (.fieldA 1 (.t 1)),
 o 14 (.load none (.t 13)),
 o 15 (.bin .mul (ki 2) (.t 14)),
 o 16 (.mv (.t 4)),
 o 17 (.bin .mul (.t 15) (.t 16)),
 o 18 (.fieldA 1 (.t 1)),
 o 19 (.load none (.t 18)),
 o 20 (.bin .mul (ki 2) (.t 19)),
 o 21 (.mv (.t 5)),
 o 22 (.bin .mul (.t 20) (.t 21)),
 o 23 (.build [(.int .i64 0), (.int .i64 0)] [(0, 1, (.t 17)), (1, 1, (.t 22))]),
 o 6 (.new (.cells [(.int .i64 0), (.int .i64 0)]) 1 2),
 ⟨none, .store 2 (.t 6) (.t 23), none⟩] [13, 14, 15, 16, 17, 18, 19, 20, 21, 22, 23])
 (.seq
 (.seq
 (.reg 256 [
 o 24 (.mv (.t 4)),
 o 25 (.mv (.t 4)),
 o 26 (.bin .mul (.t 24) (.t 25)),
 o 27 (.mv (.t 5)),
 o 28 (.mv (.t 5)),
 o 29 (.bin .mul (.t 27) (.t 28)),
 o 30 (.bin .add (.t 26) (.t 29)),
 o 31 (.bin .eql (.t 30) (ki 2))] [24, 25, 26, 27, 28, 29, 30])
 (.cond (.t 31)
 (.reg 320 [
 o 32 (.fieldA 1 (.t 1)),
 o 33 (.load none (.t 32)),
 o 34 (.mv (.t 4)),
 o 35 (.bin .mul (.t 33) (.t 34)),
 o 36 (.fieldA 1 (.t 1)),
 o 37 (.load none (.t 36)),
 o 38 (.mv (.t 5)),
 o 39 (.bin .mul (.t 37) (.t 38)),
 o 40 (.build [(.int .i64 0), (.int .i64 0)] [(0, 1, (.t 35)), (1, 1, (.t 39))]),
 ⟨none, .store 2 (.t 6) (.t 40), none⟩] [1, 31, 32, 33, 34, 35, 36, 37, 38, 39, 40])
 .skip))
 (.seq
 (.draw 384 [
 o 41 (.load (some 2) (.t 6)),
 o 42 (.fieldA 0 (.t 6)),
 o 43 (.load none (.t 42)),
 o 44 (.mv (.t 5)),
 o 45 (.bin .mul (ki 2) (.t 44)),
 o 46 (.bin .sub (.t 43) (.t 45)),
 o 47 (.fieldA 1 (.t 6)),
 o 48 (.load none (.t 47)),
 o 49 (.mv (.t 4)),
 o 50 (.bin .mul (ki 2) (.t 49)),
 o 51 (.bin .add (.t 48) (.t 50)),
 o 52 (.build [(.int .i64 0), (.int .i64 0)] [(0, 1, (.t 46)), (1, 1, (.t 51))]),
 ⟨none, .store 2 (.t 2) (.t 41), none⟩,
 ⟨none, .store 2 (.t 3) (.t 52), none⟩]
 [[], [], [1], [], [3], [2, 4], [], [6], [], [8], [7, 9], [5, 10], [0, 0], [11, 12, 0, 1, 2, 3, 4, 5, 6, 7, 8, 9, 10, 11, 12]]
 [0, 1, 2, 3, 4, 5, 6, 7, 8, 9, 10, 11, 12, 13] [4, 5, 6, 1, 31, 41, 42, 43, 44, 45, 46, 47, 48, 49, 50, 51, 52])
 .ret)))))
def fe22 : FnE := ⟨53, [(2, some (some 2)), (3, some (some 2))], xc22⟩
theorem ok22 : FnOk Tryd.prog 22 fe22 := fnOk_of Tryd.func22 (by kernel_rfl : chkF Tryd.prog hs22 Tryd.f22 = some fe22)
/- 23 crimp/lines.Meet -/
def hs23 : Hints := [(0, ([], [0, 1, 5])), (1, ([], [9, 10, 11, 12, 13, 14, 15, 16])), (2, ([], [2, 3, 8, 17])), (3, ([], [8, 19, 20, 21, 22, 23])), (4, ([], [2, 3, 18, 24])), (5, ([], [18, 26, 27, 28, 29, 30])), (6, ([], [2, 3, 25, 31, 32, 33, 34, 35])), (7, ([0, 1, 2, 3, 4, 5, 6, 7], [5, 25, 36, 37, 38, 39, 40, 41])), (8, ([], [42, 43, 44, 45])), (9, ([], [48, 49])), (10, ([], [2, 3, 6, 7, 46, 47, 50, 51, 52])), (11, ([], [47, 54, 55])), (12, ([], [2, 3, 6, 7, 46, 53, 56, 57, 58, 59, 60])), (13, ([], [53, 62, 63])), (14, ([], [2, 3, 6, 7, 46, 61, 64, 65, 66, 67, 68])), (15, ([], [61, 70, 71])), (16, ([], [2, 3, 6, 7, 46, 69, 72, 73, 74, 75, 76])), (17, ([], [46, 69, 78, 79])), (18, ([], [2, 3, 6, 7, 77, 80, 81, 82, 83, 84])), (19, ([], [2, 3, 6, 7, 77, 85, 86, 87, 88, 89, 90, 91, 92, 93, 94, 95]))]
def xc23 : XC :=
 (.seq
 (.reg 64 [
 o 2 (.box (.t 0)),
 o 3 (.box (.t 1)),
 o 4 (.new (.cells [(.int .i64 0), (.int .i64 0)]) 1 2),
 o 5 (.mv (ki 0))] [0, 1, 5])
 (.seq
 (.block 0
 (.seq
 (.reg 128 [
 o 9 (.load (some 2) (.t 2)),
 o 10 (.call 13 [(.t 9)]),
 o 11 (.bin .neq (.t 10) (ki 0)),
 o 12 (.mv (.t 11)),
 oi 13 12 false (.load (some 2) (.t 3)),
 oi 14 12 false (.call 13 [(.t 13)]),
 oi 15 12 false (.bin .neq (.t 14) (ki 0)),
 o 16 (.pick (.t 12) (.c (.bool true)) (.t 15)),
 o 8 (.mv (.t 16))] [9, 10, 11, 12, 13, 14, 15, 16])
 (.cond (.t 8)
 (.seq
 (.reg 192 [
 o 17 (.build [(.int .i64 0), (.int .i64 0)] []),
 ⟨none, .store 2 (.t 4) (.t 17), none⟩,
 o 5 (.mv (ki 1))] [2, 3, 8, 17])
 .ret)
 (.seq
 (.reg 256 [
 o 19 (.fieldA 0 (.t 2)),
 o 20 (.load none (.t 19)),
 o 21 (.fieldA 0 (.t 3)),
 o 22 (.load none (.t 21)),
 o 23 (.bin .eql (.t 20) (.t 22)),
 o 18 (.mv (.t 23))] [8, 19, 20, 21, 22, 23])
 (.cond (.t 18)
 (.seq
 (.reg 320 [
 o 24 (.build [(.int .i64 0), (.int .i64 0)] []),
 ⟨none, .store 2 (.t 4) (.t 24), none⟩,
 o 5 (.mv (ki 7))] [2, 3, 18, 24])
 .ret)
 (.seq
 (.reg 384 [
 o 26 (.fieldA 0 (.t 2)),
 o 27 (.load none (.t 26)),
 o 28 (.fieldA 0 (.t 3)),
 o 29 (.load none (.t 28)),
 o 30 (.bin .gtr (.t 27) (.t 29)),
 o 25 (.mv (.t 30))] [18, 26, 27, 28, 29, 30])
 (.cond (.t 25)
 (.seq
 (.reg 448 [
 o 31 (.load (some 2) (.t 3)),
 o 32 (.load (some 2) (.t 2)),
 o 33 (.call 23 [(.t 31), (.t 32)]),
 o 34 (.ext (.t 33) 0),
 o 35 (.ext (.t 33) 1),
 ⟨none, .store 2 (.t 4) (.t 34), none⟩,
 o 5 (.mv (.t 35))] [2, 3, 25, 31, 32, 33, 34, 35])
 .ret)
 .skip)))))))
 (.seq
 (.draw 512 [
 o 36 (.fieldA 1 (.t 2)),
 o 37 (.load none (.t 36)),
 o 38 (.bin .mul (ki 2) (.t 37)),
 o 39 (.fieldA 1 (.t 3)),
 o 40 (.load none (.t 39)),
 o 41 (.bin .mul (ki 2) (.t 40)),
 o 6 (.mv (.t 38)),
 o 7 (.mv (.t 41))]
 [[], [0], [1], [], [3], [4], [2, 0, 1, 2], [5, 6, 0, 1, 2, 3, 4, 5, 6]]
 [0, 1, 2, 3, 4, 5, 6, 7] [5, 25, 36, 37, 38, 39, 40, 41])
 (.seq
 (.seq
 (.reg 576 [
 o 42 (.fieldA 0 (.t 2)),
 o 43 (.load none (.t 42)),
 o 44 (.fieldA 0 (.t 3)),
 o 45 (.load none (.t 44)),
 o 46 (.build [(.int .u8 0), (.int .u8 0)] [(0, 1, (.t 43)), (1, 1, (.t 45))])] [42, 43, 44, 45])
 (.block 1
 (.seq
 (.reg 640 [
 o 48 (.build [(.int .u8 0), (.int .u8 0)] [(0, 1, (ku 1)), (1, 1, (ku 2))]),
 o 49 (.eqa false 2 [(0, 0), (1, 0)] (.t 46) (.t 48)),
 o 47 (.mv (.t 49))] [48, 49])
 (.cond (.t 47)
 (.seq
 (.reg 704 [
 o 50 (.mv (.t 6)),
 o 51 (.mv (.t 7)),
 o 52 (.build [(.int .i64 0), (.int .i64 0)] [(0, 1, (.t 50)), (1, 1, (.t 51))]),
 ⟨none, .store 2 (.t 4) (.t 52), none⟩,
 o 5 (.mv (ki 0))] [2, 3, 6, 7, 46, 47, 50, 51, 52])
 .ret)
 (.seq
 (.reg 768 [
 o 54 (.build [(.int .u8 0), (.int .u8 0)] [(0, 1, (ku 1)), (1, 1, (ku 3))]),
 o 55 (.eqa false 2 [(0, 0), (1, 0)] (.t 46) (.t 54)),
 o 53 (.mv (.t 55))] [47, 54, 55])
 (.cond (.t 53)
 (.seq
 (.reg 832 [
 o 56 (.mv (.t 6)),
 o 57 (.mv (.t 7)),
 o 58 (.mv (.t 6)),
 o 59 (.bin .sub (.t 57) (.t 58)),
 o 60 (.build [(.int .i64 0), (.int .i64 0)] [(0, 1, (.t 56)), (1, 1, (.t 59))]),
 ⟨none, .store 2 (.t 4) (.t 60), none⟩,
 o 5 (.mv (ki 0))] [2, 3, 6, 7, 46, 53, 56, 57, 58, 59, 60])
 .ret)
 (.seq
 (.reg 896 [
 o 62 (.build [(.int .u8 0), (.int .u8 0)] [(0, 1, (ku 1)), (1, 1, (ku 4))]),
 o 63 (.eqa false 2 [(0, 0), (1, 0)] (.t 46) (.t 62)),
 o 61 (.mv (.t 63))] [53, 62, 63])
 (.cond (.t 61)
 (.seq
 (.reg 960 [
 o 64 (.mv (.t 6)),
 o 65 (.mv (.t 7)),
 o 66 (.mv (.t 6)),
 o 67 (.bin .add (.t 65) (.t 66)),
 o 68 (.build [(.int .i64 0), (.int .i64 0)] [(0, 1, (.t 64)), (1, 1, (.t 67))]),
 ⟨none, .store 2 (.t 4) (.t 68), none⟩,
 o 5 (.mv (ki 0))] [2, 3, 6, 7, 46, 61, 64, 65, 66, 67, 68])
 .ret)
 (.seq
 (.reg 1024 [
 o 70 (.build [(.int .u8 0), (.int .u8 0)] [(0, 1, (ku 2)), (1, 1, (ku 3))]),
 o 71 (.eqa false 2 [(0, 0), (1, 0)] (.t 46) (.t 70)),
 o 69 (.mv (.t 71))] [61, 70, 71])
 (.cond (.t 69)
 (.seq
 (.reg 1088 [
 o 72 (.mv (.t 7)),
 o 73 (.mv (.t 6)),
 o 74 (.bin .sub (.t 72) (.t 73)),
 o 75 (.mv (.t 6)),
 o 76 (.build [(.int .i64 0), (.int .i64 0)] [(0, 1, (.t 74)), (1, 1, (.t 75))]),
 ⟨none, .store 2 (.t 4) (.t 76), none⟩,
 o 5 (.mv (ki 0))] [2, 3, 6, 7, 46, 69, 72, 73, 74, 75, 76])
 .ret)
 (.seq
 (.reg 1152 [
 o 78 (.build [(.int .u8 0), (.int .u8 0)] [(0, 1, (ku 2)), (1, 1, (ku 4))]),
 o 79 (.eqa false 2 [(0, 0), (1, 0)] (.t 46) (.t 78)),
 o 77 (.mv (.t 79))] [46, 69, 78, 79])
 (.cond (.t 77)
 (.seq
 (.reg 1216 [
 o 80 (.mv (.t 6)),
 o 81 (.mv (.t 7)),
 o 82 (.bin .sub (.t 80) (.t 81)),
 o 83 (.mv (.t 6)),
 o 84 (.build [(.int .i64 0), (.int .i64 0)] [(0, 1, (.t 82)), (1, 1, (.t 83))]),
 ⟨none, .store 2 (.t 4) (.t 84), none⟩,
 o 5 (.mv (ki 0))] [2, 3, 6, 7, 77, 80, 81, 82, 83, 84])
 .ret)
 .skip))))))))))))
 (.seq
 (.reg 1280 [
 o 85 (.fieldA 1 (.t 2)),
 o 86 (.load none (.t 85)),
 o 87 (.fieldA 1 (.t 3)),
 o 88 (.load none (.t 87)),
 o 89 (.bin .sub (.t 86) (.t 88)),
 o 90 (.fieldA 1 (.t 2)),
 o 91 (.load none (.t 90)),
 o 92 (.fieldA 1 (.t 3)),
 o 93 (.load none (.t 92)),
 o 94 (.bin .add (.t 91) (.t 93)),
 o 95 (.build [(.int .i64 0), (.int .i64 0)] [(0, 1, (.t 89)), (1, 1, (.t 94))]),
 ⟨none, .store 2 (.t 4) (.t 95), none⟩,
 o 5 (.mv (ki 0))] [2, 3, 6, 7, 77, 85, 86, 87, 88, 89, 90, 91, 92, 93, 94, 95])
 .ret)))))
def fe23 : FnE := ⟨96, [(4, some (some 2)), (5, none)], xc23⟩
theorem ok23 : FnOk Tryd.prog 23 fe23 := fnOk_of Tryd.func23 (by kernel_rfl : chkF Tryd.prog hs23 Tryd.f23 = some fe23)
/- 24 crimp/lines.Through -/
def hs24 : Hints := [(0, ([], [1, 5])), (1, ([], [8, 9, 10, 11, 12, 13, 14, 15, 16, 17])), (2, ([], [0, 3, 18, 19])), (3, ([], [5, 3, 18, 20, 21, 22])), (4, ([], [0, 23, 24, 25, 26])), (5, ([], [6, 28, 29, 30])), (6, ([], [7, 27, 31])), (7, ([], [27, 33, 34, 35])), (8, ([], [7, 32, 36])), (9, ([], [7, 32, 37]))]
def xc24 : XC :=
 (.seq
 (.reg 64 [
 o 3 (.box (.t 1)),
 o 4 (.new (.cells [(.int .u8 0), (.int .i64 0)]) 1 2),
 o 5 (.mv (ki 0))] [1, 5])
 (.seq
 (.seq
 (.reg 128 [
 o 8 (.mv (.t 0)),
 o 9 (.bin .lss (.t 8) (ku 1)),
 o 10 (.mv (.t 9)),
 oi 11 10 false (.mv (.t 0)),
 oi 12 10 false (.bin .gtr (.t 11) (ku 4)),
 o 13 (.pick (.t 10) (.c (.bool true)) (.t 12)),
 o 14 (.mv (.t 13)),
 oi 15 14 false (.load (some 2) (.t 3)),
 oi 16 14 false (.call 14 [(.t 15)]),
 oi 17 14 false (.bin .neq (.t 16) (ki 0)),
 o 18 (.pick (.t 14) (.c (.bool true)) (.t 17))] [8, 9, 10, 11, 12, 13, 14, 15, 16, 17])
 (.cond (.t 18)
 (.seq
 (.reg 192 [
 o 19 (.build [(.int .u8 0), (.int .i64 0)] []),
 ⟨none, .store 2 (.t 4) (.t 19), none⟩,
 o 5 (.mv (ki 1))] [0, 3, 18, 19])
 .ret)
 .skip))
 (.seq
 (.reg 256 [
 o 20 (.mv (.t 0)),
 o 21 (.load (some 2) (.t 3)),
 o 22 (.call 32 [(.t 20), (.t 21)]),
 o 6 (.mv (.t 22))] [5, 3, 18, 20, 21, 22])
 (.seq
 (.reg 320 [
 o 23 (.mv (.t 0)),
 o 24 (.mv (.t 6)),
 o 25 (.bin .quo (.t 24) (ki 2)),
 o 26 (.build [(.int .u8 0), (.int .i64 0)] [(0, 1, (.t 23)), (1, 1, (.t 25))]),
 o 7 (.new (.cells [(.int .u8 0), (.int .i64 0)]) 1 2),
 ⟨none, .store 2 (.t 7) (.t 26), none⟩] [0, 23, 24, 25, 26])
 (.seq
 (.block 0
 (.seq
 (.reg 384 [
 o 28 (.mv (.t 6)),
 o 29 (.bin .rem (.t 28) (ki 2)),
 o 30 (.bin .neq (.t 29) (ki 0)),
 o 27 (.mv (.t 30))] [6, 28, 29, 30])
 (.cond (.t 27)
 (.seq
 (.reg 448 [
 o 31 (.build [(.int .u8 0), (.int .i64 0)] []),
 ⟨none, .store 2 (.t 4) (.t 31), none⟩,
 o 5 (.mv (ki 7))] [7, 27, 31])
 .ret)
 (.seq
 (.reg 512 [
 o 33 (.load (some 2) (.t 7)),
 o 34 (.call 13 [(.t 33)]),
 o 35 (.bin .neq (.t 34) (ki 0)),
 o 32 (.mv (.t 35))] [27, 33, 34, 35])
 (.cond (.t 32)
 (.seq
 (.reg 576 [
 o 36 (.build [(.int .u8 0), (.int .i64 0)] []),
 ⟨none, .store 2 (.t 4) (.t 36), none⟩,
 o 5 (.mv (ki 3))] [7, 32, 36])
 .ret)
 .skip)))))
 (.seq
 (.reg 640 [
 o 37 (.load (some 2) (.t 7)),
 ⟨none, .store 2 (.t 4) (.t 37), none⟩,
 o 5 (.mv (ki 0))] [7, 32, 37])
 .ret))))))
def fe24 : FnE := ⟨38, [(4, some (some 2)), (5, none)], xc24⟩
theorem ok24 : FnOk Tryd.prog 24 fe24 := fnOk_of Tryd.func24 (by kernel_rfl : chkF Tryd.prog hs24 Tryd.f24 = some fe24)
/- 25 (crimp/crimplaw01.L).Of -/
def hs25 : Hints := [(0, ([], [0])), (1, ([], [1, 3, 4, 5, 6, 7, 8, 9, 10]))]
def xc25 : XC :=
 (.seq
 (.reg 64 [
 o 1 (.box (.t 0)),
 o 2 (.new (.cells [(.int .u8 0), (.int .i64 0)]) 1 2)] [0])
 (.seq
 (.reg 128 [
 o 3 (.fieldA 0 (.t 1)),
 o 4 (.load none (.t 3)),
 o 5 (.bin .rem (.t 4) (ku 4)),
 o 6 (.bin .add (ku 1) (.t 5)),
 o 7 (.fieldA 1 (.t 1)),
 o 8 (.load none (.t 7)),
 o 9 (.conv .i64 (.t 8)),
 o 10 (.build [(.int .u8 0), (.int .i64 0)] [(0, 1, (.t 6)), (1, 1, (.t 9))]),
 ⟨none, .store 2 (.t 2) (.t 10), none⟩] [1, 3, 4, 5, 6, 7, 8, 9, 10])
 .ret))
def fe25 : FnE := ⟨11, [(2, some (some 2))], xc25⟩
theorem ok25 : FnOk Tryd.prog 25 fe25 := fnOk_of Tryd.func25 (by kernel_rfl : chkF Tryd.prog hs25 Tryd.f25 = some fe25)
/- 26 crimp/crimplaw01.point -/
def hs26 : Hints := [(1, ([], [0, 1, 5, 6, 7]))]
def xc26 : XC :=
 (.seq
 (.reg 64 [
 o 4 (.new (.cells [(.int .i64 0), (.int .i64 0)]) 1 2)] [])
 (.seq
 (.reg 128 [
 o 5 (.mv (.t 0)),
 o 6 (.mv (.t 1)),
 o 7 (.build [(.int .i64 0), (.int .i64 0)] [(0, 1, (.t 5)), (1, 1, (.t 6))]),
 ⟨none, .store 2 (.t 4) (.t 7), none⟩] [0, 1, 5, 6, 7])
 .ret))
def fe26 : FnE := ⟨8, [(4, some (some 2))], xc26⟩
theorem ok26 : FnOk Tryd.prog 26 fe26 := fnOk_of Tryd.func26 (by kernel_rfl : chkF Tryd.prog hs26 Tryd.f26 = some fe26)
/- 27 crimp/crimpref01.Text -/
def hs27 : Hints := [(0, ([], [0, 2])), (1, ([0, 1, 2, 3, 4, 5, 6, 7, 8, 9], [1, 3, 4, 5, 6, 7, 8, 9, 10, 11]))]
def xc27 : XC :=
 (.seq
 (.reg 64 [
 o 1 (.box (.t 0)),
 o 2 (.mv (.c (.str [])))] [0, 2])
 (.seq
 (.draw 128 [
 o 3 (.buildS 1 5 10 [(.str [])] [(0, 1, (.c (.str []))), (1, 1, (.c (.str [120, 32]))), (2, 1, (.c (.str [121, 32]))), (3, 1, (.c (.str [117, 32]))), (4, 1, (.c (.str [100, 32])))]),
 o 4 (.fieldA 0 (.t 1)),
 o 5 (.load none (.t 4)),
 o 6 (.idxA none 1 (.t 3) (.t 5)),
 o 7 (.load none (.t 6)),
 o 8 (.fieldA 1 (.t 1)),
 o 9 (.load none (.t 8)),
 o 10 (.call 33 [(.t 9)]),
 o 11 (.bin .add (.t 7) (.t 10)),
 o 2 (.mv (.t 11))]
 [[], [], [1], [0, 2], [3], [], [5], [6], [4, 7], [8, 7, 0, 1, 2, 3, 4, 5, 6, 7, 8]]
 [0, 1, 2, 3, 4, 5, 6, 7, 8, 9] [1, 3, 4, 5, 6, 7, 8, 9, 10, 11])
 .ret))
def fe27 : FnE := ⟨12, [(2, none)], xc27⟩
theorem ok27 : FnOk Tryd.prog 27 fe27 := fnOk_of Tryd.func27 (by kernel_rfl : chkF Tryd.prog hs27 Tryd.f27 = some fe27)
/- 28 crimp/lines.Parse -/
def hs28 : Hints := [(0, ([], [3])), (2, ([], [7])), (4, ([], [9, 10, 11, 12])), (5, ([], [13])), (6, ([], [5, 6, 14, 15, 16, 17, 18, 19])), (7, ([], [5, 14, 20, 21, 22, 25, 26, 29, 30, 33, 34])), (8, ([], [6, 38, 39, 40, 41, 42, 43, 44, 45, 46])), (9, ([], [8, 47])), (10, ([], [48, 49, 50, 51, 52])), (11, ([], [0, 59, 57, 58, 56, 48, 53, 54, 55])), (12, ([], [4, 60, 61])), (13, ([], [4, 60, 62]))]
def xc28 : XC :=
 (.seq
 (.reg 64 [
 o 2 (.new (.cells [(.int .u8 0), (.int .i64 0)]) 1 2),
 o 3 (.mv (ki 0))] [3])
 (.seq
 (.reg 128 [
 o 4 (.new (.cells [(.int .u8 0), (.int .i64 0)]) 1 2)] [])
 (.seq
 (.seq
 (.reg 192 [
 o 7 (.mv (.t 0)),
 o 8 (.rng (.t 7))] [7])
 (.block 0
 (.loop
 (.seq
 (.reg 256 [
 o 9 (.nxt (.t 8)),
 o 10 (.ext (.t 9) 0)] [])
 (.seq
 (.cond (.t 10)
 .skip
 (.exit 0))
 (.block 1
 (.seq
 (.reg 320 [
 o 11 (.ext (.t 9) 1),
 o 12 (.ext (.t 9) 2),
 o 5 (.mv (.t 11)),
 o 6 (.mv (.t 12))] [9, 10, 11, 12])
 (.seq
 (.seq
 (.reg 384 [
 o 13 (.mv (.t 5)),
 o 14 (.bin .eql (.t 13) (ki 0))] [13])
 (.cond (.t 14)
 (.seq
 (.reg 448 [
 o 15 (.mv (.t 6)),
 o 16 (.call 34 [(.c (.str [32, 120, 121, 117, 100])), (.t 15)]),
 o 17 (.mm true [(.t 16), (ki 0)]),
 o 18 (.conv .u8 (.t 17)),
 o 19 (.fieldA 0 (.t 4)),
 ⟨none, .store 1 (.t 19) (.t 18), none⟩] [5, 6, 14, 15, 16, 17, 18, 19])
 (.exit 1))
 .skip))
 (.seq
 (.reg 512 [
 o 20 (.mv (.t 5)),
 o 21 (.bin .gtr (.t 20) (ki 1)),
 o 22 (.mv (.t 21)),
 oi 23 22 true (.mv (.t 6)),
 oi 24 22 true (.bin .neq (.t 23) (.c (.int .i32 45))),
 o 25 (.pick (.t 22) (.t 24) (.c (.bool false))),
 o 26 (.mv (.t 25)),
 oi 27 26 true (.mv (.t 6)),
 oi 28 26 true (.bin .geq (.t 27) (.c (.int .i32 48))),
 o 29 (.pick (.t 26) (.t 28) (.c (.bool false))),
 o 30 (.mv (.t 29)),
 oi 31 30 true (.mv (.t 6)),
 oi 32 30 true (.bin .leq (.t 31) (.c (.int .i32 57))),
 o 33 (.pick (.t 30) (.t 32) (.c (.bool false))),
 o 34 (.mv (.t 33)),
 oi 35 34 true (.fieldA 1 (.t 4)),
 oi 36 34 true (.load none (.t 35)),
 oi 37 34 true (.bin .leq (.t 36) (ki 4096)),
 o 38 (.pick (.t 34) (.t 37) (.c (.bool false)))] [5, 14, 20, 21, 22, 25, 26, 29, 30, 33, 34])
 (.cond (.t 38)
 (.reg 576 [
 o 39 (.fieldA 1 (.t 4)),
 o 40 (.load none (.t 39)),
 o 41 (.bin .mul (ki 10) (.t 40)),
 o 42 (.mv (.t 6)),
 o 43 (.bin .sub (.t 42) (.c (.int .i32 48))),
 o 44 (.conv .i64 (.t 43)),
 o 45 (.bin .add (.t 41) (.t 44)),
 o 46 (.fieldA 1 (.t 4)),
 ⟨none, .store 1 (.t 46) (.t 45), none⟩] [6, 38, 39, 40, 41, 42, 43, 44, 45, 46])
 .skip))))))))))
 (.seq
 (.seq
 (.reg 640 [
 o 47 (.mv (.t 0)),
 o 48 (.call 35 [(.t 47), (.c (.str [45]))])] [8, 47])
 (.cond (.t 48)
 (.reg 704 [
 o 49 (.fieldA 1 (.t 4)),
 o 50 (.load none (.t 49)),
 o 51 (.un .neg (.t 50)),
 o 52 (.fieldA 1 (.t 4)),
 ⟨none, .store 1 (.t 52) (.t 51), none⟩] [48, 49, 50, 51, 52])
 .skip))
 (.seq
 (.seq
 (.reg 768 [
 o 53 (.mv (.t 0)),
 o 54 (.bin .eql (.t 53) (.c (.str []))),
 o 55 (.mv (.t 54)),
 oi 56 55 false (.load (some 2) (.t 4)),
 oi 57 55 false (.call 29 [(.t 56)]),
 oi 58 55 false (.mv (.t 0)),
 oi 59 55 false (.bin .neq (.t 57) (.t 58)),
 o 60 (.pick (.t 55) (.c (.bool true)) (.t 59))] [0, 59, 57, 58, 56, 48, 53, 54, 55])
 (.cond (.t 60)
 (.seq
 (.reg 832 [
 o 61 (.build [(.int .u8 0), (.int .i64 0)] []),
 ⟨none, .store 2 (.t 2) (.t 61), none⟩,
 o 3 (.mv (ki 4))] [4, 60, 61])
 .ret)
 .skip))
 (.seq
 (.reg 896 [
 o 62 (.load (some 2) (.t 4)),
 ⟨none, .store 2 (.t 2) (.t 62), none⟩,
 o 3 (.mv (ki 0))] [4, 60, 62])
 .ret))))))
def fe28 : FnE := ⟨63, [(2, some (some 2)), (3, none)], xc28⟩
theorem ok28 : FnOk Tryd.prog 28 fe28 := fnOk_of Tryd.func28 (by kernel_rfl : chkF Tryd.prog hs28 Tryd.f28 = some fe28)
/- 29 crimp/lines.Text -/
def hs29 : Hints := [(0, ([], [0, 2])), (1, ([], [3, 4])), (2, ([], [1, 5])), (3, ([0, 1, 2, 3, 4, 5, 6, 7, 8, 9, 10, 11], [1, 5, 6, 7, 8, 9, 10, 11, 12, 13, 14, 15, 16]))]
def xc29 : XC :=
 (.seq
 (.reg 64 [
 o 1 (.box (.t 0)),
 o 2 (.mv (.c (.str [])))] [0, 2])
 (.seq
 (.seq
 (.reg 128 [
 o 3 (.load (some 2) (.t 1)),
 o 4 (.call 13 [(.t 3)]),
 o 5 (.bin .neq (.t 4) (ki 0))] [3, 4])
 (.cond (.t 5)
 (.seq
 (.reg 192 [
 o 2 (.mv (.c (.str [])))] [1, 5])
 .ret)
 .skip))
 (.seq
 (.draw 256 [
 o 6 (.fieldA 0 (.t 1)),
 o 7 (.load none (.t 6)),
 o 8 (.fieldA 0 (.t 1)),
 o 9 (.load none (.t 8)),
 o 10 (.bin .add (.t 9) (ku 1)),
 o 11 (.slices (.c (.str [32, 120, 121, 117, 100])) (some (.t 7)) (some (.t 10))),
 o 12 (.bin .add (.t 11) (.c (.str [32]))),
 o 13 (.fieldA 1 (.t 1)),
 o 14 (.load none (.t 13)),
 o 15 (.call 36 [(.t 14)]),
 o 16 (.bin .add (.t 12) (.t 15)),
 o 2 (.mv (.t 16))]
 [[], [0], [], [2], [3], [1, 4], [5], [], [7], [8], [6, 9], [10, 9, 0, 1, 2, 3, 4, 5, 6, 7, 8, 9, 10]]
 [0, 1, 2, 3, 4, 5, 6, 7, 8, 9, 10, 11] [1, 5, 6, 7, 8, 9, 10, 11, 12, 13, 14, 15, 16])
 .ret)))
def fe29 : FnE := ⟨17, [(2, none)], xc29⟩
theorem ok29 : FnOk Tryd.prog 29 fe29 := fnOk_of Tryd.func29 (by kernel_rfl : chkF Tryd.prog hs29 Tryd.f29 = some fe29)
/- 30 crimp/crimplaw01.line -/
def hs30 : Hints := [(1, ([], [0, 1, 5, 6, 7]))]
def xc30 : XC :=
 (.seq
 (.reg 64 [
 o 4 (.new (.cells [(.int .u8 0), (.int .i64 0)]) 1 2)] [])
 (.seq
 (.reg 128 [
 o 5 (.mv (.t 0)),
 o 6 (.mv (.t 1)),
 o 7 (.build [(.int .u8 0), (.int .i64 0)] [(0, 1, (.t 5)), (1, 1, (.t 6))]),
 ⟨none, .store 2 (.t 4) (.t 7), none⟩] [0, 1, 5, 6, 7])
 .ret))
def fe30 : FnE := ⟨8, [(4, some (some 2))], xc30⟩
theorem ok30 : FnOk Tryd.prog 30 fe30 := fnOk_of Tryd.func30 (by kernel_rfl : chkF Tryd.prog hs30 Tryd.f30 = some fe30)
/- 31 crimp/lines.rules -/
def hs31 : Hints := [(1, ([], [2])), (2, ([], [1, 3, 4, 5, 6, 7, 8, 9]))]
def xc31 : XC :=
 (.seq
 (.reg 64 [
 o 0 (.new (.cells [.nilf, .nilf, .nilf, .nilf, .nilf, .nilf, .nilf, .nilf, .nilf, .nilf, .nilf, .nilf, .nilf, .nilf, .nilf]) 5 3)] [])
 (.seq
 (.reg 128 [
 o 2 (.build [(.int .u8 0), (.int .u8 0), (.int .u8 0), (.int .u8 0), (.int .u8 0)] [(1, 1, (ku 2)), (2, 1, (ku 1)), (3, 1, (ku 4)), (4, 1, (ku 3))]),
 o 1 (.new (.ints .u8 [0, 0, 0, 0, 0]) 5 1),
 ⟨none, .store 5 (.t 1) (.t 2), none⟩] [2])
 (.seq
 (.reg 192 [
 o 3 (.build [.nilf, .nilf, .nilf] [(0, 1, (.c (.fn 37 [] []))), (1, 1, (.c (.fn 38 [] []))), (2, 1, (.c (.fn 39 [] [])))]),
 o 4 (.build [.nilf, .nilf, .nilf] [(0, 1, (.c (.fn 40 [] []))), (1, 1, (.c (.fn 41 [] []))), (2, 1, (.c (.fn 42 [] [])))]),
 o 5 (.mkf 45 [] [(.t 1)]),
 o 6 (.build [.nilf, .nilf, .nilf] [(0, 1, (.c (.fn 43 [] []))), (1, 1, (.c (.fn 44 [] []))), (2, 1, (.t 5))]),
 o 7 (.mkf 48 [] [(.t 1)]),
 o 8 (.build [.nilf, .nilf, .nilf] [(0, 1, (.c (.fn 46 [] []))), (1, 1, (.c (.fn 47 [] []))), (2, 1, (.t 7))]),
 o 9 (.build [.nilf, .nilf, .nilf, .nilf, .nilf, .nilf, .nilf, .nilf, .nilf, .nilf, .nilf, .nilf, .nilf, .nilf, .nilf] [(3, 3, (.t 3)), (6, 3, (.t 4)), (9, 3, (.t 6)), (12, 3, (.t 8))]),
 ⟨none, .store 15 (.t 0) (.t 9), none⟩] [1, 3, 4, 5, 6, 7, 8, 9])
 .ret)))
def fe31 : FnE := ⟨10, [(0, some (some 15))], xc31⟩
theorem ok31 : FnOk Tryd.prog 31 fe31 := fnOk_of Tryd.func31 (by kernel_rfl : chkF Tryd.prog hs31 Tryd.f31 = some fe31)
/- 32 crimp/lines.along -/
def hs32 : Hints := [(0, ([], [1, 4])), (1, ([], [0])), (2, ([], [7])), (3, ([], [3, 5, 6, 8, 9])), (4, ([], [6, 11])), (5, ([], [3, 5, 10, 12, 13])), (6, ([], [5, 10, 15])), (7, ([], [3, 14, 16, 17, 18, 19, 20])), (8, ([], [3, 14, 21, 22, 23, 24, 25]))]
def xc32 : XC :=
 (.seq
 (.reg 64 [
 o 3 (.box (.t 1)),
 o 4 (.mv (ki 0))] [1, 4])
 (.seq
 (.seq
 (.reg 128 [
 o 5 (.mv (.t 0))] [0])
 (.block 0
 (.seq
 (.reg 192 [
 o 7 (.bin .eql (.t 5) (ku 1)),
 o 6 (.mv (.t 7))] [7])
 (.cond (.t 6)
 (.seq
 (.reg 256 [
 o 8 (.fieldA 0 (.t 3)),
 o 9 (.load none (.t 8)),
 o 4 (.mv (.t 9))] [3, 5, 6, 8, 9])
 .ret)
 (.seq
 (.reg 320 [
 o 11 (.bin .eql (.t 5) (ku 2)),
 o 10 (.mv (.t 11))] [6, 11])
 (.cond (.t 10)
 (.seq
 (.reg 384 [
 o 12 (.fieldA 1 (.t 3)),
 o 13 (.load none (.t 12)),
 o 4 (.mv (.t 13))] [3, 5, 10, 12, 13])
 .ret)
 (.seq
 (.reg 448 [
 o 15 (.bin .eql (.t 5) (ku 3)),
 o 14 (.mv (.t 15))] [5, 10, 15])
 (.cond (.t 14)
 (.seq
 (.reg 512 [
 o 16 (.fieldA 0 (.t 3)),
 o 17 (.load none (.t 16)),
 o 18 (.fieldA 1 (.t 3)),
 o 19 (.load none (.t 18)),
 o 20 (.bin .add (.t 17) (.t 19)),
 o 4 (.mv (.t 20))] [3, 14, 16, 17, 18, 19, 20])
 .ret)
 .skip))))))))
 (.seq
 (.reg 576 [
 o 21 (.fieldA 1 (.t 3)),
 o 22 (.load none (.t 21)),
 o 23 (.fieldA 0 (.t 3)),
 o 24 (.load none (.t 23)),
 o 25 (.bin .sub (.t 22) (.t 24)),
 o 4 (.mv (.t 25))] [3, 14, 21, 22, 23, 24, 25])
 .ret)))
def fe32 : FnE := ⟨26, [(4, none)], xc32⟩
theorem ok32 : FnOk Tryd.prog 32 fe32 := fnOk_of Tryd.func32 (by kernel_rfl : chkF Tryd.prog hs32 Tryd.f32 = some fe32)
/- 33 crimp/crimpref01.Decimal -/
def hs33 : Hints := [(0, ([], [2])), (1, ([], [3])), (2, ([], [0, 4, 5, 6, 7, 8])), (3, ([], [2, 4, 9])), (4, ([], [0, 10, 11, 12, 13, 14, 15])), (5, ([0, 1, 2, 3, 4, 5, 6, 7, 8, 9, 10], [0, 10, 16, 17, 18, 19, 20, 21, 22, 23, 24, 25]))]
def xc33 : XC :=
 (.seq
 (.reg 64 [
 o 2 (.mv (.c (.str [])))] [2])
 (.seq
 (.seq
 (.reg 128 [
 o 3 (.mv (.t 0)),
 o 4 (.bin .lss (.t 3) (ki 0))] [3])
 (.cond (.t 4)
 (.seq
 (.reg 192 [
 o 5 (.mv (.t 0)),
 o 6 (.un .neg (.t 5)),
 o 7 (.call 33 [(.t 6)]),
 o 8 (.bin .add (.c (.str [45])) (.t 7)),
 o 2 (.mv (.t 8))] [0, 4, 5, 6, 7, 8])
 .ret)
 .skip))
 (.seq
 (.seq
 (.reg 256 [
 o 9 (.mv (.t 0)),
 o 10 (.bin .lss (.t 9) (ki 10))] [2, 4, 9])
 (.cond (.t 10)
 (.seq
 (.reg 320 [
 o 11 (.mv (.t 0)),
 o 12 (.bin .add (ki 48) (.t 11)),
 o 13 (.conv .u8 (.t 12)),
 o 14 (.buildS 1 1 5 [(.int .u8 0)] [(0, 1, (.t 13))]),
 o 15 (.bstr (.t 14)),
 o 2 (.mv (.t 15))] [0, 10, 11, 12, 13, 14, 15])
 .ret)
 .skip))
 (.seq
 (.draw 384 [
 o 16 (.mv (.t 0)),
 o 17 (.bin .quo (.t 16) (ki 10)),
 o 18 (.call 33 [(.t 17)]),
 o 19 (.mv (.t 0)),
 o 20 (.bin .rem (.t 19) (ki 10)),
 o 21 (.bin .add (ki 48) (.t 20)),
 o 22 (.conv .u8 (.t 21)),
 o 23 (.buildS 1 1 5 [(.int .u8 0)] [(0, 1, (.t 22))]),
 o 24 (.bstr (.t 23)),
 o 25 (.bin .add (.t 18) (.t 24)),
 o 2 (.mv (.t 25))]
 [[], [0], [1], [], [3], [4], [5], [6], [7], [2, 8], [9, 2, 0, 1, 2, 3, 4, 5, 6, 7, 8, 9]]
 [0, 1, 2, 3, 4, 5, 6, 7, 8, 9, 10] [0, 10, 16, 17, 18, 19, 20, 21, 22, 23, 24, 25])
 .ret))))
def fe33 : FnE := ⟨26, [(2, none)], xc33⟩
theorem ok33 : FnOk Tryd.prog 33 fe33 := fnOk_of Tryd.func33 (by kernel_rfl : chkF Tryd.prog hs33 Tryd.f33 = some fe33)
/- 34 strings.IndexRune -/
def hs34 : Hints := [(0, ([], [4])), (34, ([], [161, 162, 163, 164, 165, 166])), (35, ([], [0, 1, 160, 167, 168, 169, 170])), (36, ([], [160, 172, 173])), (37, ([], [0, 1, 171, 174])), (39, ([], [176, 177, 178, 179])), (40, ([], [6, 180])), (41, ([], [175, 5, 181, 182])), (42, ([], [175])), (43, ([], [171, 184, 185, 186])), (44, ([], [0, 1, 183])), (1, ([], [1, 183, 17, 18])), (2, ([], [19, 20, 21])), (3, ([], [22])), (4, ([], [10])), (5, ([], [23, 24, 25])), (6, ([0, 1, 2, 3, 4, 5, 6], [26, 27, 28, 29, 30, 31, 32])), (7, ([0, 1, 2, 3, 4, 5, 6, 7, 8], [33, 34, 35, 36, 37, 38, 39, 40, 41])), (8, ([], [42])), (9, ([], [8, 7, 0, 9, 11, 43])), (10, ([], [4, 11, 43, 44, 45, 46, 47])), (11, ([], [33])), (12, ([], [48, 49, 50])), (14, ([0, 1, 2, 3, 4, 5, 6, 7, 8, 9, 10], [51, 54, 55, 56, 57, 58, 59, 60, 61, 62, 63])), (13, ([], [64, 52, 53])), (15, ([], [8, 7, 0, 9, 12, 65, 66, 67])), (16, ([], [4, 68, 69])), (17, ([], [70, 71])), (18, ([], [10, 72, 73, 74, 75, 76, 77, 78, 79, 80, 81, 82, 83, 84, 85, 86, 87, 88, 89, 90, 91, 92, 93, 94, 95, 96, 97])), (19, ([], [0, 7, 8, 9])), (20, ([], [4, 99, 100, 101, 102, 103, 104, 105, 106])), (21, ([], [107])), (22, ([], [13, 108, 109, 110, 111, 112, 113])), (23, ([], [4, 114, 115, 116])), (24, ([], [117, 118, 119, 120])), (25, ([], [121, 122, 123])), (27, ([], [124, 127, 128, 129, 130, 131, 132])), (28, ([], [139])), (29, ([], [140, 141, 142])), (31, ([0, 1, 2, 3, 4, 5, 6, 7, 8, 9, 10], [143, 146, 147, 148, 149, 150, 151, 152, 153, 154, 155])), (30, ([], [156, 144, 145])), (32, ([], [9, 8, 7, 0, 138, 136, 137, 15, 133, 135, 134, 14, 16, 157, 158, 159])), (26, ([], [4, 139, 125, 126])), (33, ([], [13, 108, 14, 15]))]
def xc34 : XC :=
 (.seq
 (.reg 64 [
 o 4 (.mv (ki 0))] [4])
 (.block 0
 (.seq
 (.reg 2240 [
 o 161 (.mv (.t 1)),
 o 162 (.bin .leq (.c (.int .i32 0)) (.t 161)),
 o 163 (.mv (.t 162)),
 oi 164 163 true (.mv (.t 1)),
 oi 165 163 true (.bin .lss (.t 164) (.c (.int .i32 128))),
 o 166 (.pick (.t 163) (.t 165) (.c (.bool false))),
 o 160 (.mv (.t 166))] [161, 162, 163, 164, 165, 166])
 (.cond (.t 160)
 (.seq
 (.reg 2304 [
 o 167 (.mv (.t 0)),
 o 168 (.mv (.t 1)),
 o 169 (.conv .u8 (.t 168)),
 o 170 (.call 49 [(.t 167), (.t 169)]),
 o 4 (.mv (.t 170))] [0, 1, 160, 167, 168, 169, 170])
 .ret)
 (.seq
 (.reg 2368 [
 o 172 (.mv (.t 1)),
 o 173 (.bin .eql (.t 172) (.c (.int .i32 65533))),
 o 171 (.mv (.t 173))] [160, 172, 173])
 (.cond (.t 171)
 (.seq
 (.seq
 (.reg 2432 [
 o 174 (.mv (.t 0)),
 o 175 (.rng (.t 174))] [0, 1, 171, 174])
 (.block 9
 (.loop
 (.seq
 (.reg 2496 [
 o 176 (.nxt (.t 175)),
 o 177 (.ext (.t 176) 0)] [])
 (.seq
 (.cond (.t 177)
 .skip
 (.exit 9))
 (.block 10
 (.seq
 (.reg 2560 [
 o 178 (.ext (.t 176) 1),
 o 179 (.ext (.t 176) 2),
 o 5 (.mv (.t 178)),
 o 6 (.mv (.t 179))] [176, 177, 178, 179])
 (.seq
 (.reg 2624 [
 o 180 (.mv (.t 6)),
 o 181 (.bin .eql (.t 180) (.c (.int .i32 65533)))] [6, 180])
 (.cond (.t 181)
 (.seq
 (.reg 2688 [
 o 182 (.mv (.t 5)),
 o 4 (.mv (.t 182))] [175, 5, 181, 182])
 .ret)
 .skip)))))))))
 (.seq
 (.reg 2752 [
 o 4 (.mv (ki (-1)))] [175])
 .ret))
 (.seq
 (.reg 2816 [
 o 184 (.mv (.t 1)),
 o 185 (.call 50 [(.t 184)]),
 o 186 (.un .not (.t 185)),
 o 183 (.mv (.t 186))] [171, 184, 185, 186])
 (.cond (.t 183)
 (.seq
 (.reg 2880 [
 o 4 (.mv (ki (-1)))] [0, 1, 183])
 .ret)
 (.scope
 (.seq
 (.reg 128 [
 o 17 (.mv (.t 1)),
 o 18 (.rstr (.t 17)),
 o 7 (.mv (.t 18))] [1, 183, 17, 18])
 (.seq
 (.reg 192 [
 o 19 (.mv (.t 7)),
 o 20 (.lens (.t 19)),
 o 21 (.bin .sub (.t 20) (ki 1)),
 o 8 (.mv (.t 21))] [19, 20, 21])
 (.seq
 (.reg 256 [
 o 22 (.mv (.t 8)),
 o 9 (.mv (.t 22))] [22])
 (.seq
 (.reg 320 [
 o 10 (.mv (ki 0))] [10])
 (.seq
 (.block 1
 (.loop
 (.seq
 (.seq
 (.reg 384 [
 o 23 (.mv (.t 9)),
 o 24 (.mv (.t 0)),
 o 25 (.lens (.t 24)),
 o 26 (.bin .lss (.t 23) (.t 25))] [23, 24, 25])
 (.cond (.t 26)
 .skip
 (.exit 1)))
 (.block 2
 (.scope
 (.seq
 (.seq
 (.draw 448 [
 o 27 (.mv (.t 0)),
 o 28 (.mv (.t 9)),
 o 29 (.idxs (.t 27) (.t 28)),
 o 30 (.mv (.t 7)),
 o 31 (.mv (.t 8)),
 o 32 (.idxs (.t 30) (.t 31)),
 o 33 (.bin .neq (.t 29) (.t 32))]
 [[], [], [0, 1], [], [], [3, 4], [2, 5]]
 [0, 1, 2, 3, 4, 5, 6] [26, 27, 28, 29, 30, 31, 32])
 (.cond (.t 33)
 (.seq
 (.draw 512 [
 o 34 (.mv (.t 0)),
 o 35 (.mv (.t 9)),
 o 36 (.bin .add (.t 35) (ki 1)),
 o 37 (.slices (.t 34) (some (.t 36)) none),
 o 38 (.mv (.t 7)),
 o 39 (.mv (.t 8)),
 o 40 (.idxs (.t 38) (.t 39)),
 o 41 (.call 49 [(.t 37), (.t 40)]),
 o 11 (.mv (.t 41))]
 [[], [], [1], [0, 2], [], [], [4, 5], [3, 6], [7, 7, 0, 1, 2, 3, 4, 5, 6, 7]]
 [0, 1, 2, 3, 4, 5, 6, 7, 8] [33, 34, 35, 36, 37, 38, 39, 40, 41])
 (.seq
 (.seq
 (.reg 576 [
 o 42 (.mv (.t 11)),
 o 43 (.bin .lss (.t 42) (ki 0))] [42])
 (.cond (.t 43)
 (.seq
 (.reg 640 [
 o 4 (.mv (ki (-1)))] [8, 7, 0, 9, 11, 43])
 .ret)
 .skip))
 (.reg 704 [
 o 44 (.mv (.t 9)),
 o 45 (.mv (.t 11)),
 o 46 (.bin .add (.t 45) (ki 1)),
 o 47 (.bin .add (.t 44) (.t 46)),
 o 9 (.mv (.t 47))] [4, 11, 43, 44, 45, 46, 47])))
 .skip))
 (.seq
 (.seq
 (.reg 768 [
 o 12 (.mv (ki 1))] [33])
 (.block 3
 (.loop
 (.seq
 (.seq
 (.reg 832 [
 o 48 (.mv (.t 12)),
 o 49 (.mv (.t 7)),
 o 50 (.lens (.t 49)),
 o 51 (.bin .lss (.t 48) (.t 50))] [48, 49, 50])
 (.cond (.t 51)
 .skip
 (.exit 3)))
 (.seq
 (.block 4
 (.seq
 (.draw 960 [
 o 54 (.mv (.t 0)),
 o 55 (.mv (.t 9)),
 o 56 (.mv (.t 12)),
 o 57 (.bin .sub (.t 55) (.t 56)),
 o 58 (.idxs (.t 54) (.t 57)),
 o 59 (.mv (.t 7)),
 o 60 (.mv (.t 8)),
 o 61 (.mv (.t 12)),
 o 62 (.bin .sub (.t 60) (.t 61)),
 o 63 (.idxs (.t 59) (.t 62)),
 o 64 (.bin .neq (.t 58) (.t 63))]
 [[], [], [], [1, 2], [0, 3], [], [], [], [6, 7], [5, 8], [4, 9]]
 [0, 1, 2, 3, 4, 5, 6, 7, 8, 9, 10] [51, 54, 55, 56, 57, 58, 59, 60, 61, 62, 63])
 (.cond (.t 64)
 .bad
 .skip)))
 (.reg 896 [
 o 52 (.mv (.t 12)),
 o 53 (.bin .add (.t 52) (ki 1)),
 o 12 (.mv (.t 53))] [64, 52, 53]))))))
 (.seq
 (.seq
 (.reg 1024 [
 o 65 (.mv (.t 9)),
 o 66 (.mv (.t 8)),
 o 67 (.bin .sub (.t 65) (.t 66)),
 o 4 (.mv (.t 67))] [8, 7, 0, 9, 12, 65, 66, 67])
 .ret)
 (.seq
 .bad
 (.seq
 (.reg 1088 [
 o 68 (.mv (.t 10)),
 o 69 (.bin .add (.t 68) (ki 1)),
 o 10 (.mv (.t 69))] [4, 68, 69])
 (.seq
 (.reg 1152 [
 o 70 (.mv (.t 9)),
 o 71 (.bin .add (.t 70) (ki 1)),
 o 9 (.mv (.t 71))] [70, 71])
 (.seq
 (.reg 1216 [
 o 72 (.mv (.c (.bool true))),
 oi 73 72 true (.mv (.t 10)),
 oi 74 72 true (.mv (.t 9)),
 oi 75 72 true (.call 51 [(.t 74)]),
 oi 76 72 true (.bin .gtr (.t 73) (.t 75)),
 o 77 (.pick (.t 72) (.t 76) (.c (.bool false))),
 o 78 (.mv (.t 77)),
 oi 79 78 true (.mv (.t 9)),
 oi 80 78 true (.mv (.t 0)),
 oi 81 78 true (.lens (.t 80)),
 oi 82 78 true (.bin .lss (.t 79) (.t 81)),
 o 83 (.pick (.t 78) (.t 82) (.c (.bool false))),
 o 84 (.mv (.t 83)),
 oi 85 84 false (.mv (.c (.bool false))),
 oi 86 85 true (.mv (.t 10)),
 oi 87 85 true (.mv (.t 9)),
 oi 88 85 true (.bin .shr (.t 87) (.c (.int .u64 4))),
 oi 89 85 true (.bin .add (ki 4) (.t 88)),
 oi 90 85 true (.bin .geq (.t 86) (.t 89)),
 oi 91 84 false (.pick (.t 85) (.t 90) (.c (.bool false))),
 oi 92 84 false (.mv (.t 91)),
 oi 93 92 true (.mv (.t 9)),
 oi 94 92 true (.mv (.t 0)),
 oi 95 92 true (.lens (.t 94)),
 oi 96 92 true (.bin .lss (.t 93) (.t 95)),
 oi 97 84 false (.pick (.t 92) (.t 96) (.c (.bool false))),
 o 98 (.pick (.t 84) (.c (.bool true)) (.t 97))] [10, 72, 73, 74, 75, 76, 77, 78, 79, 80, 81, 82, 83, 84, 85, 86, 87, 88, 89, 90, 91, 92, 93, 94, 95, 96, 97])
 (.cond (.t 98)
 .bad
 .skip)))))))))))))
 (.seq
 (.seq
 (.reg 1280 [
 o 4 (.mv (ki (-1)))] [0, 7, 8, 9])
 .ret)
 (.seq
 .bad
 (.seq
 (.cond (.c (.bool true))
 (.seq
 (.reg 1344 [
 o 99 (.mv (.t 0)),
 o 100 (.mv (.t 9)),
 o 101 (.mv (.t 8)),
 o 102 (.bin .sub (.t 100) (.t 101)),
 o 103 (.slices (.t 99) (some (.t 102)) none),
 o 104 (.mv (.t 1)),
 o 105 (.rstr (.t 104)),
 o 106 (.call 52 [(.t 103), (.t 105)]),
 o 13 (.mv (.t 106))] [4, 99, 100, 101, 102, 103, 104, 105, 106])
 (.seq
 (.reg 1408 [
 o 107 (.mv (.t 13)),
 o 108 (.bin .geq (.t 107) (ki 0))] [107])
 (.cond (.t 108)
 (.seq
 (.reg 1472 [
 o 109 (.mv (.t 9)),
 o 110 (.mv (.t 13)),
 o 111 (.bin .add (.t 109) (.t 110)),
 o 112 (.mv (.t 8)),
 o 113 (.bin .sub (.t 111) (.t 112)),
 o 4 (.mv (.t 113))] [13, 108, 109, 110, 111, 112, 113])
 .ret)
 .skip)))
 (.scope
 (.seq
 (.reg 1536 [
 o 114 (.mv (.t 7)),
 o 115 (.mv (.t 8)),
 o 116 (.idxs (.t 114) (.t 115)),
 o 14 (.mv (.t 116))] [4, 114, 115, 116])
 (.seq
 (.reg 1600 [
 o 117 (.mv (.t 7)),
 o 118 (.mv (.t 8)),
 o 119 (.bin .sub (.t 118) (ki 1)),
 o 120 (.idxs (.t 117) (.t 119)),
 o 15 (.mv (.t 120))] [117, 118, 119, 120])
 (.seq
 .bad
 (.block 5
 (.loop
 (.seq
 (.seq
 (.reg 1664 [
 o 121 (.mv (.t 9)),
 o 122 (.mv (.t 0)),
 o 123 (.lens (.t 122)),
 o 124 (.bin .lss (.t 121) (.t 123))] [121, 122, 123])
 (.cond (.t 124)
 .skip
 (.exit 5)))
 (.seq
 (.block 6
 (.seq
 (.reg 1792 [
 o 127 (.mv (.t 0)),
 o 128 (.mv (.t 9)),
 o 129 (.idxs (.t 127) (.t 128)),
 o 130 (.mv (.t 14)),
 o 131 (.bin .eql (.t 129) (.t 130)),
 o 132 (.mv (.t 131)),
 oi 133 132 true (.mv (.t 0)),
 oi 134 132 true (.mv (.t 9)),
 oi 135 132 true (.bin .sub (.t 134) (ki 1)),
 oi 136 132 true (.idxs (.t 133) (.t 135)),
 oi 137 132 true (.mv (.t 15)),
 oi 138 132 true (.bin .eql (.t 136) (.t 137)),
 o 139 (.pick (.t 132) (.t 138) (.c (.bool false)))] [124, 127, 128, 129, 130, 131, 132])
 (.cond (.t 139)
 (.seq
 (.seq
 (.reg 1856 [
 o 16 (.mv (ki 2))] [139])
 (.block 7
 (.loop
 (.seq
 (.seq
 (.reg 1920 [
 o 140 (.mv (.t 16)),
 o 141 (.mv (.t 7)),
 o 142 (.lens (.t 141)),
 o 143 (.bin .lss (.t 140) (.t 142))] [140, 141, 142])
 (.cond (.t 143)
 .skip
 (.exit 7)))
 (.seq
 (.block 8
 (.seq
 (.draw 2048 [
 o 146 (.mv (.t 0)),
 o 147 (.mv (.t 9)),
 o 148 (.mv (.t 16)),
 o 149 (.bin .sub (.t 147) (.t 148)),
 o 150 (.idxs (.t 146) (.t 149)),
 o 151 (.mv (.t 7)),
 o 152 (.mv (.t 8)),
 o 153 (.mv (.t 16)),
 o 154 (.bin .sub (.t 152) (.t 153)),
 o 155 (.idxs (.t 151) (.t 154)),
 o 156 (.bin .neq (.t 150) (.t 155))]
 [[], [], [], [1, 2], [0, 3], [], [], [], [6, 7], [5, 8], [4, 9]]
 [0, 1, 2, 3, 4, 5, 6, 7, 8, 9, 10] [143, 146, 147, 148, 149, 150, 151, 152, 153, 154, 155])
 (.cond (.t 156)
 (.exit 6)
 .skip)))
 (.reg 1984 [
 o 144 (.mv (.t 16)),
 o 145 (.bin .add (.t 144) (ki 1)),
 o 16 (.mv (.t 145))] [156, 144, 145]))))))
 (.seq
 (.reg 2112 [
 o 157 (.mv (.t 9)),
 o 158 (.mv (.t 8)),
 o 159 (.bin .sub (.t 157) (.t 158)),
 o 4 (.mv (.t 159))] [9, 8, 7, 0, 138, 136, 137, 15, 133, 135, 134, 14, 16, 157, 158, 159])
 .ret))
 .skip)))
 (.reg 1728 [
 o 125 (.mv (.t 9)),
 o 126 (.bin .add (.t 125) (ki 1)),
 o 9 (.mv (.t 126))] [4, 139, 125, 126]))))))))))
 (.seq
 (.reg 2176 [
 o 4 (.mv (ki (-1)))] [13, 108, 14, 15])
 .ret))))))))))))))))))
def fe34 : FnE := ⟨187, [(4, none)], xc34⟩
theorem ok34 : FnOk Tryd.prog 34 fe34 := fnOk_of Tryd.func34 (by kernel_rfl : chkF Tryd.prog hs34 Tryd.f34 = some fe34)
/- 35 strings.Contains -/
def hs35 : Hints := [(0, ([], [4])), (1, ([], [0, 1, 5, 6, 7, 8]))]
def xc35 : XC :=
 (.seq
 (.reg 64 [
 o 4 (.mv (.c (.bool false)))] [4])
 (.seq
 (.reg 128 [
 o 5 (.mv (.t 0)),
 o 6 (.mv (.t 1)),
 o 7 (.call 53 [(.t 5), (.t 6)]),
 o 8 (.bin .geq (.t 7) (ki 0)),
 o 4 (.mv (.t 8))] [0, 1, 5, 6, 7, 8])
 .ret))
def fe35 : FnE := ⟨9, [(4, none)], xc35⟩
theorem ok35 : FnOk Tryd.prog 35 fe35 := fnOk_of Tryd.func35 (by kernel_rfl : chkF Tryd.prog hs35 Tryd.f35 = some fe35)
/- 36 strconv.Itoa -/
def hs36 : Hints := [(0, ([], [2])), (1, ([], [0, 3, 4]))]
def xc36 : XC :=
 (.seq
 (.reg 64 [
 o 2 (.mv (.c (.str [])))] [2])
 (.seq
 (.reg 128 [
 o 3 (.mv (.t 0)),
 o 4 (.call 54 [(.t 3)]),
 o 2 (.mv (.t 4))] [0, 3, 4])
 .ret))
def fe36 : FnE := ⟨5, [(2, none)], xc36⟩
theorem ok36 : FnOk Tryd.prog 36 fe36 := fnOk_of Tryd.func36 (by kernel_rfl : chkF Tryd.prog hs36 Tryd.f36 = some fe36)
/- 37 crimp/lines.rules$1 -/
def hs37 : Hints := [(0, ([], [0, 2])), (1, ([], [1, 3, 4]))]
def xc37 : XC :=
 (.seq
 (.reg 64 [
 o 1 (.box (.t 0)),
 o 2 (.mv (ki 0))] [0, 2])
 (.seq
 (.reg 128 [
 o 3 (.load (some 2) (.t 1)),
 o 4 (.call 32 [(ku 1), (.t 3)]),
 o 2 (.mv (.t 4))] [1, 3, 4])
 .ret))
def fe37 : FnE := ⟨5, [(2, none)], xc37⟩
theorem ok37 : FnOk Tryd.prog 37 fe37 := fnOk_of Tryd.func37 (by kernel_rfl : chkF Tryd.prog hs37 Tryd.f37 = some fe37)
/- 38 crimp/lines.rules$2 -/
def hs38 : Hints := [(0, ([], [1])), (1, ([], [0, 3, 5, 6, 7, 8, 9, 10, 11, 12]))]
def xc38 : XC :=
 (.seq
 (.reg 64 [
 o 3 (.box (.t 1)),
 o 4 (.new (.cells [(.int .i64 0), (.int .i64 0)]) 1 2)] [1])
 (.seq
 (.reg 128 [
 o 5 (.mv (.t 0)),
 o 6 (.bin .mul (ki 4) (.t 5)),
 o 7 (.fieldA 0 (.t 3)),
 o 8 (.load none (.t 7)),
 o 9 (.bin .sub (.t 6) (.t 8)),
 o 10 (.fieldA 1 (.t 3)),
 o 11 (.load none (.t 10)),
 o 12 (.build [(.int .i64 0), (.int .i64 0)] [(0, 1, (.t 9)), (1, 1, (.t 11))]),
 ⟨none, .store 2 (.t 4) (.t 12), none⟩] [0, 3, 5, 6, 7, 8, 9, 10, 11, 12])
 .ret))
def fe38 : FnE := ⟨13, [(4, some (some 2))], xc38⟩
theorem ok38 : FnOk Tryd.prog 38 fe38 := fnOk_of Tryd.func38 (by kernel_rfl : chkF Tryd.prog hs38 Tryd.f38 = some fe38)
/- 39 crimp/lines.rules$3 -/
def hs39 : Hints := [(0, ([], [1])), (1, ([], [0, 3, 5, 6, 7, 8, 9, 10, 11, 12, 13, 14, 15, 16, 17, 18, 19, 20, 21, 22, 23, 24, 25, 26, 27]))]
def xc39 : XC :=
 (.seq
 (.reg 64 [
 o 3 (.box (.t 1)),
 o 4 (.new (.cells [(.int .u8 0), (.int .i64 0)]) 1 2)] [1])
 (.seq
 (.reg 128 [
 o 5 (.mv (.t 0)),
 o 6 (.bin .mul (ki 2) (.t 5)),
 o 7 (.fieldA 1 (.t 3)),
 o 8 (.load none (.t 7)),
 o 9 (.bin .sub (.t 6) (.t 8)),
 o 10 (.build [(.int .u8 0), (.int .i64 0)] [(0, 1, (ku 1)), (1, 1, (.t 9))]),
 o 11 (.load (some 2) (.t 3)),
 o 12 (.fieldA 1 (.t 3)),
 o 13 (.load none (.t 12)),
 o 14 (.mv (.t 0)),
 o 15 (.bin .mul (ki 2) (.t 14)),
 o 16 (.bin .sub (.t 13) (.t 15)),
 o 17 (.build [(.int .u8 0), (.int .i64 0)] [(0, 1, (ku 4)), (1, 1, (.t 16))]),
 o 18 (.fieldA 1 (.t 3)),
 o 19 (.load none (.t 18)),
 o 20 (.mv (.t 0)),
 o 21 (.bin .mul (ki 2) (.t 20)),
 o 22 (.bin .add (.t 19) (.t 21)),
 o 23 (.build [(.int .u8 0), (.int .i64 0)] [(0, 1, (ku 3)), (1, 1, (.t 22))]),
 o 24 (.build [(.int .u8 0), (.int .i64 0), (.int .u8 0), (.int .i64 0), (.int .u8 0), (.int .i64 0), (.int .u8 0), (.int .i64 0), (.int .u8 0), (.int .i64 0)] [(2, 2, (.t 10)), (4, 2, (.t 11)), (6, 2, (.t 17)), (8, 2, (.t 23))]),
 o 25 (.fieldA 0 (.t 3)),
 o 26 (.load none (.t 25)),
 o 27 (.idx 5 2 true (.t 24) (.t 26)),
 ⟨none, .store 2 (.t 4) (.t 27), none⟩] [0, 3, 5, 6, 7, 8, 9, 10, 11, 12, 13, 14, 15, 16, 17, 18, 19, 20, 21, 22, 23, 24, 25, 26, 27])
 .ret))
def fe39 : FnE := ⟨28, [(4, some (some 2))], xc39⟩
theorem ok39 : FnOk Tryd.prog 39 fe39 := fnOk_of Tryd.func39 (by kernel_rfl : chkF Tryd.prog hs39 Tryd.f39 = some fe39)
/- 40 crimp/lines.rules$4 -/
def hs40 : Hints := [(0, ([], [0, 2])), (1, ([], [1, 3, 4]))]
def xc40 : XC :=
 (.seq
 (.reg 64 [
 o 1 (.box (.t 0)),
 o 2 (.mv (ki 0))] [0, 2])
 (.seq
 (.reg 128 [
 o 3 (.load (some 2) (.t 1)),
 o 4 (.call 32 [(ku 2), (.t 3)]),
 o 2 (.mv (.t 4))] [1, 3, 4])
 .ret))
def fe40 : FnE := ⟨5, [(2, none)], xc40⟩
theorem ok40 : FnOk Tryd.prog 40 fe40 := fnOk_of Tryd.func40 (by kernel_rfl : chkF Tryd.prog hs40 Tryd.f40 = some fe40)
/- 41 crimp/lines.rules$5 -/
def hs41 : Hints := [(0, ([], [1])), (1, ([], [0, 3, 5, 6, 7, 8, 9, 10, 11, 12]))]
def xc41 : XC :=
 (.seq
 (.reg 64 [
 o 3 (.box (.t 1)),
 o 4 (.new (.cells [(.int .i64 0), (.int .i64 0)]) 1 2)] [1])
 (.seq
 (.reg 128 [
 o 5 (.fieldA 0 (.t 3)),
 o 6 (.load none (.t 5)),
 o 7 (.mv (.t 0)),
 o 8 (.bin .mul (ki 4) (.t 7)),
 o 9 (.fieldA 1 (.t 3)),
 o 10 (.load none (.t 9)),
 o 11 (.bin .sub (.t 8) (.t 10)),
 o 12 (.build [(.int .i64 0), (.int .i64 0)] [(0, 1, (.t 6)), (1, 1, (.t 11))]),
 ⟨none, .store 2 (.t 4) (.t 12), none⟩] [0, 3, 5, 6, 7, 8, 9, 10, 11, 12])
 .ret))
def fe41 : FnE := ⟨13, [(4, some (some 2))], xc41⟩
theorem ok41 : FnOk Tryd.prog 41 fe41 := fnOk_of Tryd.func41 (by kernel_rfl : chkF Tryd.prog hs41 Tryd.f41 = some fe41)
/- 42 crimp/lines.rules$6 -/
def hs42 : Hints := [(0, ([], [1])), (1, ([], [0, 3, 5, 6, 7, 8, 9, 10, 11, 12, 13, 14, 15, 16, 17, 18, 19, 20, 21, 22, 23, 24, 25, 26, 27]))]
def xc42 : XC :=
 (.seq
 (.reg 64 [
 o 3 (.box (.t 1)),
 o 4 (.new (.cells [(.int .u8 0), (.int .i64 0)]) 1 2)] [1])
 (.seq
 (.reg 128 [
 o 5 (.load (some 2) (.t 3)),
 o 6 (.mv (.t 0)),
 o 7 (.bin .mul (ki 2) (.t 6)),
 o 8 (.fieldA 1 (.t 3)),
 o 9 (.load none (.t 8)),
 o 10 (.bin .sub (.t 7) (.t 9)),
 o 11 (.build [(.int .u8 0), (.int .i64 0)] [(0, 1, (ku 2)), (1, 1, (.t 10))]),
 o 12 (.mv (.t 0)),
 o 13 (.bin .mul (ki 2) (.t 12)),
 o 14 (.fieldA 1 (.t 3)),
 o 15 (.load none (.t 14)),
 o 16 (.bin .sub (.t 13) (.t 15)),
 o 17 (.build [(.int .u8 0), (.int .i64 0)] [(0, 1, (ku 4)), (1, 1, (.t 16))]),
 o 18 (.mv (.t 0)),
 o 19 (.bin .mul (ki 2) (.t 18)),
 o 20 (.fieldA 1 (.t 3)),
 o 21 (.load none (.t 20)),
 o 22 (.bin .sub (.t 19) (.t 21)),
 o 23 (.build [(.int .u8 0), (.int .i64 0)] [(0, 1, (ku 3)), (1, 1, (.t 22))]),
 o 24 (.build [(.int .u8 0), (.int .i64 0), (.int .u8 0), (.int .i64 0), (.int .u8 0), (.int .i64 0), (.int .u8 0), (.int .i64 0), (.int .u8 0), (.int .i64 0)] [(2, 2, (.t 5)), (4, 2, (.t 11)), (6, 2, (.t 17)), (8, 2, (.t 23))]),
 o 25 (.fieldA 0 (.t 3)),
 o 26 (.load none (.t 25)),
 o 27 (.idx 5 2 true (.t 24) (.t 26)),
 ⟨none, .store 2 (.t 4) (.t 27), none⟩] [0, 3, 5, 6, 7, 8, 9, 10, 11, 12, 13, 14, 15, 16, 17, 18, 19, 20, 21, 22, 23, 24, 25, 26, 27])
 .ret))
def fe42 : FnE := ⟨28, [(4, some (some 2))], xc42⟩
theorem ok42 : FnOk Tryd.prog 42 fe42 := fnOk_of Tryd.func42 (by kernel_rfl : chkF Tryd.prog hs42 Tryd.f42 = some fe42)
/- 43 crimp/lines.rules$7 -/
def hs43 : Hints := [(0, ([], [0, 2])), (1, ([], [1, 3, 4]))]
def xc43 : XC :=
 (.seq
 (.reg 64 [
 o 1 (.box (.t 0)),
 o 2 (.mv (ki 0))] [0, 2])
 (.seq
 (.reg 128 [
 o 3 (.load (some 2) (.t 1)),
 o 4 (.call 32 [(ku 3), (.t 3)]),
 o 2 (.mv (.t 4))] [1, 3, 4])
 .ret))
def fe43 : FnE := ⟨5, [(2, none)], xc43⟩
theorem ok43 : FnOk Tryd.prog 43 fe43 := fnOk_of Tryd.func43 (by kernel_rfl : chkF Tryd.prog hs43 Tryd.f43 = some fe43)
/- 44 crimp/lines.rules$8 -/
def hs44 : Hints := [(0, ([], [1])), (1, ([], [0, 3, 5, 6, 7, 8, 9, 10, 11, 12, 13, 14, 15]))]
def xc44 : XC :=
 (.seq
 (.reg 64 [
 o 3 (.box (.t 1)),
 o 4 (.new (.cells [(.int .i64 0), (.int .i64 0)]) 1 2)] [1])
 (.seq
 (.reg 128 [
 o 5 (.mv (.t 0)),
 o 6 (.bin .mul (ki 2) (.t 5)),
 o 7 (.fieldA 1 (.t 3)),
 o 8 (.load none (.t 7)),
 o 9 (.bin .sub (.t 6) (.t 8)),
 o 10 (.mv (.t 0)),
 o 11 (.bin .mul (ki 2) (.t 10)),
 o 12 (.fieldA 0 (.t 3)),
 o 13 (.load none (.t 12)),
 o 14 (.bin .sub (.t 11) (.t 13)),
 o 15 (.build [(.int .i64 0), (.int .i64 0)] [(0, 1, (.t 9)), (1, 1, (.t 14))]),
 ⟨none, .store 2 (.t 4) (.t 15), none⟩] [0, 3, 5, 6, 7, 8, 9, 10, 11, 12, 13, 14, 15])
 .ret))
def fe44 : FnE := ⟨16, [(4, some (some 2))], xc44⟩
theorem ok44 : FnOk Tryd.prog 44 fe44 := fnOk_of Tryd.func44 (by kernel_rfl : chkF Tryd.prog hs44 Tryd.f44 = some fe44)
/- 45 crimp/lines.rules$9 -/
def hs45 : Hints := [(0, ([], [1])), (1, ([0, 1, 2, 3, 4, 5, 6, 7, 8, 9, 10, 11, 12, 13, 14, 15, 16, 17, 18, 19, 20, 21, 22, 23, 24, 25, 26, 27, 28, 29], [0, 2, 4, 6, 7, 8, 9, 10, 11, 12, 13, 14, 15, 16, 17, 18, 19, 20, 21, 22, 23, 24, 25, 26, 27, 28, 29, 30, 31, 32, 33, 34]))]
def xc45 : XC :=
 (.seq
 (.reg 64 [
 o 4 (.box (.t 1)),
 o 5 (.new (.cells [(.int .u8 0), (.int .i64 0)]) 1 2)] [1])
 (.seq
 (.draw 128 [
 o 6 (.fieldA 0 (.t 4)),
 o 7 (.load none (.t 6)),
 o 8 (.idxA (some 5) 1 (.t 2) (.t 7)),
 o 9 (.load none (.t 8)),
 o 10 (.mv (.t 0)),
 o 11 (.fieldA 1 (.t 4)),
 o 12 (.load none (.t 11)),
 o 13 (.bin .sub (.t 10) (.t 12)),
 o 14 (.build [(.int .u8 0), (.int .i64 0)] [(0, 1, (.t 9)), (1, 1, (.t 13))]),
 o 15 (.fieldA 0 (.t 4)),
 o 16 (.load none (.t 15)),
 o 17 (.idxA (some 5) 1 (.t 2) (.t 16)),
 o 18 (.load none (.t 17)),
 o 19 (.mv (.t 0)),
 o 20 (.fieldA 1 (.t 4)),
 o 21 (.load none (.t 20)),
 o 22 (.bin .sub (.t 19) (.t 21)),
 o 23 (.build [(.int .u8 0), (.int .i64 0)] [(0, 1, (.t 18)), (1, 1, (.t 22))]),
 o 24 (.mv (.t 0)),
 o 25 (.bin .mul (ki 2) (.t 24)),
 o 26 (.fieldA 1 (.t 4)),
 o 27 (.load none (.t 26)),
 o 28 (.bin .sub (.t 25) (.t 27)),
 o 29 (.build [(.int .u8 0), (.int .i64 0)] [(0, 1, (ku 3)), (1, 1, (.t 28))]),
 o 30 (.load (some 2) (.t 4)),
 o 31 (.build [(.int .u8 0), (.int .i64 0), (.int .u8 0), (.int .i64 0), (.int .u8 0), (.int .i64 0), (.int .u8 0), (.int .i64 0), (.int .u8 0), (.int .i64 0)] [(2, 2, (.t 14)), (4, 2, (.t 23)), (6, 2, (.t 29)), (8, 2, (.t 30))]),
 o 32 (.fieldA 0 (.t 4)),
 o 33 (.load none (.t 32)),
 o 34 (.idx 5 2 true (.t 31) (.t 33)),
 ⟨none, .store 2 (.t 5) (.t 34), none⟩]
 [[], [0], [1], [2], [], [], [5], [4, 6], [3, 7], [], [9], [10], [11], [], [], [14], [13, 15], [12, 16], [], [18], [], [20], [19, 21], [22], [], [8, 17, 23, 24], [], [26], [25, 27], [28, 0, 1, 2, 3, 4, 5, 6, 7, 8, 9, 10, 11, 12, 13, 14, 15, 16, 17, 18, 19, 20, 21, 22, 23, 24, 25, 26, 27, 28]]
 [0, 1, 2, 3, 4, 5, 6, 7, 8, 9, 10, 11, 12, 13, 14, 15, 16, 17, 18, 19, 20, 21, 22, 23, 24, 25, 26, 27, 28, 29] [0, 2, 4, 6, 7, 8, 9, 10, 11, 12, 13, 14, 15, 16, 17, 18, 19, 20, 21, 22, 23, 24, 25, 26, 27, 28, 29, 30, 31, 32, 33, 34])
 .ret))
def fe45 : FnE := ⟨35, [(5, some (some 2))], xc45⟩
theorem ok45 : FnOk Tryd.prog 45 fe45 := fnOk_of Tryd.func45 (by kernel_rfl : chkF Tryd.prog hs45 Tryd.f45 = some fe45)
/- 46 crimp/lines.rules$10 -/
def hs46 : Hints := [(0, ([], [0, 2])), (1, ([], [1, 3, 4]))]
def xc46 : XC :=
 (.seq
 (.reg 64 [
 o 1 (.box (.t 0)),
 o 2 (.mv (ki 0))] [0, 2])
 (.seq
 (.reg 128 [
 o 3 (.load (some 2) (.t 1)),
 o 4 (.call 32 [(ku 4), (.t 3)]),
 o 2 (.mv (.t 4))] [1, 3, 4])
 .ret))
def fe46 : FnE := ⟨5, [(2, none)], xc46⟩
theorem ok46 : FnOk Tryd.prog 46 fe46 := fnOk_of Tryd.func46 (by kernel_rfl : chkF Tryd.prog hs46 Tryd.f46 = some fe46)
/- 47 crimp/lines.rules$11 -/
def hs47 : Hints := [(0, ([], [1])), (1, ([], [0, 3, 5, 6, 7, 8, 9, 10, 11, 12, 13, 14, 15]))]
def xc47 : XC :=
 (.seq
 (.reg 64 [
 o 3 (.box (.t 1)),
 o 4 (.new (.cells [(.int .i64 0), (.int .i64 0)]) 1 2)] [1])
 (.seq
 (.reg 128 [
 o 5 (.fieldA 1 (.t 3)),
 o 6 (.load none (.t 5)),
 o 7 (.mv (.t 0)),
 o 8 (.bin .mul (ki 2) (.t 7)),
 o 9 (.bin .sub (.t 6) (.t 8)),
 o 10 (.fieldA 0 (.t 3)),
 o 11 (.load none (.t 10)),
 o 12 (.mv (.t 0)),
 o 13 (.bin .mul (ki 2) (.t 12)),
 o 14 (.bin .add (.t 11) (.t 13)),
 o 15 (.build [(.int .i64 0), (.int .i64 0)] [(0, 1, (.t 9)), (1, 1, (.t 14))]),
 ⟨none, .store 2 (.t 4) (.t 15), none⟩] [0, 3, 5, 6, 7, 8, 9, 10, 11, 12, 13, 14, 15])
 .ret))
def fe47 : FnE := ⟨16, [(4, some (some 2))], xc47⟩
theorem ok47 : FnOk Tryd.prog 47 fe47 := fnOk_of Tryd.func47 (by kernel_rfl : chkF Tryd.prog hs47 Tryd.f47 = some fe47)
/- 48 crimp/lines.rules$12 -/
def hs48 : Hints := [(0, ([], [1])), (1, ([0, 1, 2, 3, 4, 5, 6, 7, 8, 9, 10, 11, 12, 13, 14, 15, 16, 17, 18, 19, 20, 21, 22, 23, 24, 25, 26, 27, 28, 29], [0, 2, 4, 6, 7, 8, 9, 10, 11, 12, 13, 14, 15, 16, 17, 18, 19, 20, 21, 22, 23, 24, 25, 26, 27, 28, 29, 30, 31, 32, 33, 34]))]
def xc48 : XC :=
 (.seq
 (.reg 64 [
 o 4 (.box (.t 1)),
 o 5 (.new (.cells [(.int .u8 0), (.int .i64 0)]) 1 2)] [1])
 (.seq
 (.draw 128 [
 o 6 (.fieldA 0 (.t 4)),
 o 7 (.load none (.t 6)),
 o 8 (.idxA (some 5) 1 (.t 2) (.t 7)),
 o 9 (.load none (.t 8)),
 o 10 (.fieldA 1 (.t 4)),
 o 11 (.load none (.t 10)),
 o 12 (.mv (.t 0)),
 o 13 (.bin .add (.t 11) (.t 12)),
 o 14 (.build [(.int .u8 0), (.int .i64 0)] [(0, 1, (.t 9)), (1, 1, (.t 13))]),
 o 15 (.fieldA 0 (.t 4)),
 o 16 (.load none (.t 15)),
 o 17 (.idxA (some 5) 1 (.t 2) (.t 16)),
 o 18 (.load none (.t 17)),
 o 19 (.fieldA 1 (.t 4)),
 o 20 (.load none (.t 19)),
 o 21 (.mv (.t 0)),
 o 22 (.bin .sub (.t 20) (.t 21)),
 o 23 (.build [(.int .u8 0), (.int .i64 0)] [(0, 1, (.t 18)), (1, 1, (.t 22))]),
 o 24 (.load (some 2) (.t 4)),
 o 25 (.mv (.t 0)),
 o 26 (.bin .mul (ki 2) (.t 25)),
 o 27 (.fieldA 1 (.t 4)),
 o 28 (.load none (.t 27)),
 o 29 (.bin .sub (.t 26) (.t 28)),
 o 30 (.build [(.int .u8 0), (.int .i64 0)] [(0, 1, (ku 4)), (1, 1, (.t 29))]),
 o 31 (.build [(.int .u8 0), (.int .i64 0), (.int .u8 0), (.int .i64 0), (.int .u8 0), (.int .i64 0), (.int .u8 0), (.int .i64 0), (.int .u8 0), (.int .i64 0)] [(2, 2, (.t 14)), (4, 2, (.t 23)), (6, 2, (.t 24)), (8, 2, (.t 30))]),
 o 32 (.fieldA 0 (.t 4)),
 o 33 (.load none (.t 32)),
 o 34 (.idx 5 2 true (.t 31) (.t 33)),
 ⟨none, .store 2 (.t 5) (.t 34), none⟩]
 [[], [0], [1], [2], [], [4], [], [5, 6], [3, 7], [], [9], [10], [11], [], [13], [], [14, 15], [12, 16], [], [], [19], [], [21], [20, 22], [23], [8, 17, 18, 24], [], [26], [25, 27], [28, 0, 1, 2, 3, 4, 5, 6, 7, 8, 9, 10, 11, 12, 13, 14, 15, 16, 17, 18, 19, 20, 21, 22, 23, 24, 25, 26, 27, 28]]
 [0, 1, 2, 3, 4, 5, 6, 7, 8, 9, 10, 11, 12, 13, 14, 15, 16, 17, 18, 19, 20, 21, 22, 23, 24, 25, 26, 27, 28, 29] [0, 2, 4, 6, 7, 8, 9, 10, 11, 12, 13, 14, 15, 16, 17, 18, 19, 20, 21, 22, 23, 24, 25, 26, 27, 28, 29, 30, 31, 32, 33, 34])
 .ret))
def fe48 : FnE := ⟨35, [(5, some (some 2))], xc48⟩
theorem ok48 : FnOk Tryd.prog 48 fe48 := fnOk_of Tryd.func48 (by kernel_rfl : chkF Tryd.prog hs48 Tryd.f48 = some fe48)
/- 49 strings.IndexByte -/
def hs49 : Hints := [(0, ([], [4])), (1, ([], [0, 1, 5, 6, 7]))]
def xc49 : XC :=
 (.seq
 (.reg 64 [
 o 4 (.mv (ki 0))] [4])
 (.seq
 (.reg 128 [
 o 5 (.mv (.t 0)),
 o 6 (.mv (.t 1)),
 o 7 (.call 55 [(.t 5), (.t 6)]),
 o 4 (.mv (.t 7))] [0, 1, 5, 6, 7])
 .ret))
def fe49 : FnE := ⟨8, [(4, none)], xc49⟩
theorem ok49 : FnOk Tryd.prog 49 fe49 := fnOk_of Tryd.func49 (by kernel_rfl : chkF Tryd.prog hs49 Tryd.f49 = some fe49)
/- 50 unicode/utf8.ValidRune -/
def hs50 : Hints := [(0, ([], [2])), (1, ([], [4, 5, 6, 7, 8, 9])), (2, ([], [0, 3])), (3, ([], [0, 3, 11, 12, 13, 14, 15, 16])), (4, ([], [10])), (5, ([], [10]))]
def xc50 : XC :=
 (.seq
 (.reg 64 [
 o 2 (.mv (.c (.bool false)))] [2])
 (.seq
 (.block 0
 (.seq
 (.reg 128 [
 o 4 (.mv (.t 0)),
 o 5 (.bin .leq (.c (.int .i32 0)) (.t 4)),
 o 6 (.mv (.t 5)),
 oi 7 6 true (.mv (.t 0)),
 oi 8 6 true (.bin .lss (.t 7) (.c (.int .i32 55296))),
 o 9 (.pick (.t 6) (.t 8) (.c (.bool false))),
 o 3 (.mv (.t 9))] [4, 5, 6, 7, 8, 9])
 (.cond (.t 3)
 (.seq
 (.reg 192 [
 o 2 (.mv (.c (.bool true)))] [0, 3])
 .ret)
 (.seq
 (.reg 256 [
 o 11 (.mv (.t 0)),
 o 12 (.bin .lss (.c (.int .i32 57343)) (.t 11)),
 o 13 (.mv (.t 12)),
 oi 14 13 true (.mv (.t 0)),
 oi 15 13 true (.bin .leq (.t 14) (.c (.int .i32 1114111))),
 o 16 (.pick (.t 13) (.t 15) (.c (.bool false))),
 o 10 (.mv (.t 16))] [0, 3, 11, 12, 13, 14, 15, 16])
 (.cond (.t 10)
 (.seq
 (.reg 320 [
 o 2 (.mv (.c (.bool true)))] [10])
 .ret)
 .skip)))))
 (.seq
 (.reg 384 [
 o 2 (.mv (.c (.bool false)))] [10])
 .ret)))
def fe50 : FnE := ⟨17, [(2, none)], xc50⟩
theorem ok50 : FnOk Tryd.prog 50 fe50 := fnOk_of Tryd.func50 (by kernel_rfl : chkF Tryd.prog hs50 Tryd.f50 = some fe50)
/- 51 internal/bytealg.Cutover -/
def hs51 : Hints := [(0, ([], [2])), (1, ([], [0, 3, 4, 5]))]
def xc51 : XC :=
 (.seq
 (.reg 64 [
 o 2 (.mv (ki 0))] [2])
 (.seq
 (.reg 128 [
 o 3 (.mv (.t 0)),
 o 4 (.bin .add (.t 3) (ki 16)),
 o 5 (.bin .quo (.t 4) (ki 8)),
 o 2 (.mv (.t 5))] [0, 3, 4, 5])
 .ret))
def fe51 : FnE := ⟨6, [(2, none)], xc51⟩
theorem ok51 : FnOk Tryd.prog 51 fe51 := fnOk_of Tryd.func51 (by kernel_rfl : chkF Tryd.prog hs51 Tryd.f51 = some fe51)
/- 53 strings.Index -/
def hs53 : Hints := [(0, ([], [4])), (1, ([], [0, 1, 5, 6, 7]))]
def xc53 : XC :=
 (.seq
 (.reg 64 [
 o 4 (.mv (ki 0))] [4])
 (.seq
 (.reg 128 [
 o 5 (.mv (.t 0)),
 o 6 (.mv (.t 1)),
 o 7 (.call 56 [(.t 5), (.t 6)]),
 o 4 (.mv (.t 7))] [0, 1, 5, 6, 7])
 .ret))
def fe53 : FnE := ⟨8, [(4, none)], xc53⟩
theorem ok53 : FnOk Tryd.prog 53 fe53 := fnOk_of Tryd.func53 (by kernel_rfl : chkF Tryd.prog hs53 Tryd.f53 = some fe53)
/- 54 internal/strconv.Itoa -/
def hs54 : Hints := [(0, ([], [2])), (1, ([], [0, 3, 4]))]
def xc54 : XC :=
 (.seq
 (.reg 64 [
 o 2 (.mv (.c (.str [])))] [2])
 (.seq
 (.reg 128 [
 o 3 (.mv (.t 0)),
 o 4 (.call 57 [(.t 3), (ki 10)]),
 o 2 (.mv (.t 4))] [0, 3, 4])
 .ret))
def fe54 : FnE := ⟨5, [(2, none)], xc54⟩
theorem ok54 : FnOk Tryd.prog 54 fe54 := fnOk_of Tryd.func54 (by kernel_rfl : chkF Tryd.prog hs54 Tryd.f54 = some fe54)
/- 55 internal/stringslite.IndexByte -/
def hs55 : Hints := [(0, ([], [4])), (1, ([], [0, 1, 5, 6, 7]))]
def xc55 : XC :=
 (.seq
 (.reg 64 [
 o 4 (.mv (ki 0))] [4])
 (.seq
 (.reg 128 [
 o 5 (.mv (.t 0)),
 o 6 (.mv (.t 1)),
 o 7 (.call 58 [(.t 5), (.t 6)]),
 o 4 (.mv (.t 7))] [0, 1, 5, 6, 7])
 .ret))
def fe55 : FnE := ⟨8, [(4, none)], xc55⟩
theorem ok55 : FnOk Tryd.prog 55 fe55 := fnOk_of Tryd.func55 (by kernel_rfl : chkF Tryd.prog hs55 Tryd.f55 = some fe55)
/- 56 internal/stringslite.Index -/
def hs56 : Hints := [(0, ([], [4])), (1, ([], [14, 15])), (2, ([], [17, 18, 19, 20, 21, 22, 23])), (3, ([], [0, 1, 5, 16])), (4, ([], [16, 25, 26])), (5, ([], [0, 1, 5, 24, 27, 28, 29, 30])), (6, ([], [24, 32, 33, 34, 35])), (7, ([], [0, 1, 5, 31])), (8, ([], [31, 37, 38, 39, 40, 41, 42, 43, 44])), (9, ([], [0, 1, 5, 36, 45, 46, 47])), (10, ([], [4, 36, 48, 49])), (11, ([], [50, 51])), (13, ([], [52, 53, 54, 55, 56])), (15, ([], [57, 58])), (16, ([], [59, 60, 61, 62, 63])), (17, ([], [64, 65, 66, 67, 68, 69, 70, 71])), (18, ([], [72])), (19, ([], [1, 0, 131, 129, 130, 9, 126, 122, 125, 124, 123, 5, 106, 103, 105, 104, 10, 92, 90, 91, 85, 86, 89, 87, 88, 7, 8, 6, 11, 73])), (20, ([], [4, 11, 73, 74, 75, 76, 77])), (21, ([], [64, 78, 79, 80, 81, 82, 83, 84])), (22, ([], [1, 0, 131, 129, 130, 9, 126, 122, 125, 124, 123, 5, 106, 103, 105, 104, 10, 92, 90, 91, 85, 86, 89, 87, 88, 7, 8, 6, 93, 94])), (23, ([], [4, 93, 95, 96])), (24, ([], [97, 98])), (25, ([], [99, 100, 101, 102])), (26, ([], [1, 0, 131, 129, 130, 9, 126, 122, 125, 124, 123, 5, 106, 103, 105, 104, 10, 92, 90, 91, 85, 86, 89, 87, 88, 7, 6, 107, 108, 109, 110, 111, 112])), (27, ([], [113])), (28, ([], [8, 12, 114, 115, 116, 117])), (29, ([], [8, 12, 114])), (30, ([], [107, 118, 119, 120, 121, 127, 128])), (31, ([], [1, 0, 131, 129, 130, 9, 126, 122, 125, 124, 123, 5, 106, 103, 105, 104, 10, 92, 90, 91, 85, 86, 89, 87, 88, 7, 6, 132, 133, 134, 135, 136, 137])), (32, ([], [138])), (33, ([], [8, 13, 139])), (34, ([], [8, 13, 139, 140, 141, 142])), (35, ([], [0, 1, 5, 131, 129, 130, 126, 122, 125, 124, 123, 106, 103, 105, 104, 92, 90, 91, 85, 86, 89, 87, 88, 6, 7, 8, 9, 10]))]
def xc56 : XC :=
 (.seq
 (.reg 64 [
 o 4 (.mv (ki 0))] [4])
 (.seq
 (.reg 128 [
 o 14 (.mv (.t 1)),
 o 15 (.lens (.t 14)),
 o 5 (.mv (.t 15))] [14, 15])
 (.seq
 (.block 0
 (.seq
 (.reg 192 [
 o 17 (.mv (.t 5)),
 o 18 (.bin .eql (.t 17) (ki 0)),
 o 19 (.mv (.t 18)),
 oi 20 19 false (.mv (.t 1)),
 oi 21 19 false (.mv (.t 0)),
 oi 22 19 false (.bin .eql (.t 20) (.t 21)),
 o 23 (.pick (.t 19) (.c (.bool true)) (.t 22)),
 o 16 (.mv (.t 23))] [17, 18, 19, 20, 21, 22, 23])
 (.cond (.t 16)
 (.seq
 (.reg 256 [
 o 4 (.mv (ki 0))] [0, 1, 5, 16])
 .ret)
 (.seq
 (.reg 320 [
 o 25 (.mv (.t 5)),
 o 26 (.bin .eql (.t 25) (ki 1)),
 o 24 (.mv (.t 26))] [16, 25, 26])
 (.cond (.t 24)
 (.seq
 (.reg 384 [
 o 27 (.mv (.t 0)),
 o 28 (.mv (.t 1)),
 o 29 (.idxs (.t 28) (ki 0)),
 o 30 (.call 55 [(.t 27), (.t 29)]),
 o 4 (.mv (.t 30))] [0, 1, 5, 24, 27, 28, 29, 30])
 .ret)
 (.seq
 (.reg 448 [
 o 32 (.mv (.t 5)),
 o 33 (.mv (.t 0)),
 o 34 (.lens (.t 33)),
 o 35 (.bin .geq (.t 32) (.t 34)),
 o 31 (.mv (.t 35))] [24, 32, 33, 34, 35])
 (.cond (.t 31)
 (.seq
 (.reg 512 [
 o 4 (.mv (ki (-1)))] [0, 1, 5, 31])
 .ret)
 (.seq
 (.reg 576 [
 o 37 (.mv (.t 5)),
 o 38 (.load none (.g 0)),
 o 39 (.bin .leq (.t 37) (.t 38)),
 o 40 (.mv (.t 39)),
 oi 41 40 true (.mv (.t 0)),
 oi 42 40 true (.lens (.t 41)),
 oi 43 40 true (.bin .leq (.t 42) (ki 64)),
 o 44 (.pick (.t 40) (.t 43) (.c (.bool false))),
 o 36 (.mv (.t 44))] [31, 37, 38, 39, 40, 41, 42, 43, 44])
 (.cond (.t 36)
 (.seq
 (.reg 640 [
 o 45 (.mv (.t 0)),
 o 46 (.mv (.t 1)),
 o 47 (.call 52 [(.t 45), (.t 46)]),
 o 4 (.mv (.t 47))] [0, 1, 5, 36, 45, 46, 47])
 .ret)
 .skip)))))))))
 (.seq
 (.reg 704 [
 o 48 (.mv (.t 1)),
 o 49 (.idxs (.t 48) (ki 0)),
 o 6 (.mv (.t 49))] [4, 36, 48, 49])
 (.seq
 (.reg 768 [
 o 50 (.mv (.t 1)),
 o 51 (.idxs (.t 50) (ki 1)),
 o 7 (.mv (.t 51))] [50, 51])
 (.seq
 (.reg 832 [
 o 8 (.mv (ki 0))] [])
 (.seq
 (.reg 896 [
 o 52 (.mv (.t 0)),
 o 53 (.lens (.t 52)),
 o 54 (.mv (.t 5)),
 o 55 (.bin .sub (.t 53) (.t 54)),
 o 56 (.bin .add (.t 55) (ki 1)),
 o 9 (.mv (.t 56))] [52, 53, 54, 55, 56])
 (.seq
 (.reg 960 [
 o 10 (.mv (ki 0))] [])
 (.seq
 (.block 1
 (.loop
 (.seq
 (.seq
 (.reg 1024 [
 o 57 (.mv (.t 8)),
 o 58 (.mv (.t 9)),
 o 59 (.bin .lss (.t 57) (.t 58))] [57, 58])
 (.cond (.t 59)
 .skip
 (.exit 1)))
 (.block 2
 (.seq
 (.seq
 (.reg 1088 [
 o 60 (.mv (.t 0)),
 o 61 (.mv (.t 8)),
 o 62 (.idxs (.t 60) (.t 61)),
 o 63 (.mv (.t 6)),
 o 64 (.bin .neq (.t 62) (.t 63))] [59, 60, 61, 62, 63])
 (.cond (.t 64)
 (.seq
 (.reg 1152 [
 o 65 (.mv (.t 0)),
 o 66 (.mv (.t 8)),
 o 67 (.bin .add (.t 66) (ki 1)),
 o 68 (.mv (.t 9)),
 o 69 (.slices (.t 65) (some (.t 67)) (some (.t 68))),
 o 70 (.mv (.t 6)),
 o 71 (.call 55 [(.t 69), (.t 70)]),
 o 11 (.mv (.t 71))] [64, 65, 66, 67, 68, 69, 70, 71])
 (.seq
 (.seq
 (.reg 1216 [
 o 72 (.mv (.t 11)),
 o 73 (.bin .lss (.t 72) (ki 0))] [72])
 (.cond (.t 73)
 (.seq
 (.reg 1280 [
 o 4 (.mv (ki (-1)))] [1, 0, 131, 129, 130, 9, 126, 122, 125, 124, 123, 5, 106, 103, 105, 104, 10, 92, 90, 91, 85, 86, 89, 87, 88, 7, 8, 6, 11, 73])
 .ret)
 .skip))
 (.reg 1344 [
 o 74 (.mv (.t 8)),
 o 75 (.mv (.t 11)),
 o 76 (.bin .add (.t 75) (ki 1)),
 o 77 (.bin .add (.t 74) (.t 76)),
 o 8 (.mv (.t 77))] [4, 11, 73, 74, 75, 76, 77])))
 .skip))
 (.seq
 (.seq
 (.reg 1408 [
 o 78 (.mv (.t 0)),
 o 79 (.mv (.t 8)),
 o 80 (.bin .add (.t 79) (ki 1)),
 o 81 (.idxs (.t 78) (.t 80)),
 o 82 (.mv (.t 7)),
 o 83 (.bin .eql (.t 81) (.t 82)),
 o 84 (.mv (.t 83)),
 oi 85 84 true (.mv (.t 0)),
 oi 86 84 true (.mv (.t 8)),
 oi 87 84 true (.mv (.t 8)),
 oi 88 84 true (.mv (.t 5)),
 oi 89 84 true (.bin .add (.t 87) (.t 88)),
 oi 90 84 true (.slices (.t 85) (some (.t 86)) (some (.t 89))),
 oi 91 84 true (.mv (.t 1)),
 oi 92 84 true (.bin .eql (.t 90) (.t 91)),
 o 93 (.pick (.t 84) (.t 92) (.c (.bool false)))] [64, 78, 79, 80, 81, 82, 83, 84])
 (.cond (.t 93)
 (.seq
 (.reg 1472 [
 o 94 (.mv (.t 8)),
 o 4 (.mv (.t 94))] [1, 0, 131, 129, 130, 9, 126, 122, 125, 124, 123, 5, 106, 103, 105, 104, 10, 92, 90, 91, 85, 86, 89, 87, 88, 7, 8, 6, 93, 94])
 .ret)
 .skip))
 (.seq
 (.reg 1536 [
 o 95 (.mv (.t 8)),
 o 96 (.bin .add (.t 95) (ki 1)),
 o 8 (.mv (.t 96))] [4, 93, 95, 96])
 (.seq
 (.reg 1600 [
 o 97 (.mv (.t 10)),
 o 98 (.bin .add (.t 97) (ki 1)),
 o 10 (.mv (.t 98))] [97, 98])
 (.seq
 (.reg 1664 [
 o 99 (.mv (.t 5)),
 o 100 (.load none (.g 0)),
 o 101 (.bin .leq (.t 99) (.t 100)),
 o 102 (.mv (.t 101)),
 oi 103 102 true (.mv (.t 10)),
 oi 104 102 true (.mv (.t 8)),
 oi 105 102 true (.call 51 [(.t 104)]),
 oi 106 102 true (.bin .gtr (.t 103) (.t 105)),
 o 107 (.pick (.t 102) (.t 106) (.c (.bool false)))] [99, 100, 101, 102])
 (.cond (.t 107)
 (.seq
 (.reg 1728 [
 o 108 (.mv (.t 0)),
 o 109 (.mv (.t 8)),
 o 110 (.slices (.t 108) (some (.t 109)) none),
 o 111 (.mv (.t 1)),
 o 112 (.call 52 [(.t 110), (.t 111)]),
 o 12 (.mv (.t 112))] [1, 0, 131, 129, 130, 9, 126, 122, 125, 124, 123, 5, 106, 103, 105, 104, 10, 92, 90, 91, 85, 86, 89, 87, 88, 7, 6, 107, 108, 109, 110, 111, 112])
 (.seq
 (.seq
 (.reg 1792 [
 o 113 (.mv (.t 12)),
 o 114 (.bin .geq (.t 113) (ki 0))] [113])
 (.cond (.t 114)
 (.seq
 (.reg 1856 [
 o 115 (.mv (.t 12)),
 o 116 (.mv (.t 8)),
 o 117 (.bin .add (.t 115) (.t 116)),
 o 4 (.mv (.t 117))] [8, 12, 114, 115, 116, 117])
 .ret)
 .skip))
 (.seq
 (.reg 1920 [
 o 4 (.mv (ki (-1)))] [8, 12, 114])
 .ret)))
 (.seq
 (.reg 1984 [
 o 118 (.mv (.t 5)),
 o 119 (.load none (.g 0)),
 o 120 (.bin .gtr (.t 118) (.t 119)),
 o 121 (.mv (.t 120)),
 oi 122 121 true (.mv (.t 10)),
 oi 123 121 true (.mv (.t 8)),
 oi 124 121 true (.bin .shr (.t 123) (.c (.int .u64 4))),
 oi 125 121 true (.bin .add (ki 4) (.t 124)),
 oi 126 121 true (.bin .geq (.t 122) (.t 125)),
 o 127 (.pick (.t 121) (.t 126) (.c (.bool false))),
 o 128 (.mv (.t 127)),
 oi 129 128 true (.mv (.t 8)),
 oi 130 128 true (.mv (.t 9)),
 oi 131 128 true (.bin .lss (.t 129) (.t 130)),
 o 132 (.pick (.t 128) (.t 131) (.c (.bool false)))] [107, 118, 119, 120, 121, 127, 128])
 (.cond (.t 132)
 (.seq
 (.reg 2048 [
 o 133 (.mv (.t 0)),
 o 134 (.mv (.t 8)),
 o 135 (.slices (.t 133) (some (.t 134)) none),
 o 136 (.mv (.t 1)),
 o 137 (.call 59 [(.t 135), (.t 136)]),
 o 13 (.mv (.t 137))] [1, 0, 131, 129, 130, 9, 126, 122, 125, 124, 123, 5, 106, 103, 105, 104, 10, 92, 90, 91, 85, 86, 89, 87, 88, 7, 6, 132, 133, 134, 135, 136, 137])
 (.seq
 (.seq
 (.reg 2112 [
 o 138 (.mv (.t 13)),
 o 139 (.bin .lss (.t 138) (ki 0))] [138])
 (.cond (.t 139)
 (.seq
 (.reg 2176 [
 o 4 (.mv (ki (-1)))] [8, 13, 139])
 .ret)
 .skip))
 (.seq
 (.reg 2240 [
 o 140 (.mv (.t 8)),
 o 141 (.mv (.t 13)),
 o 142 (.bin .add (.t 140) (.t 141)),
 o 4 (.mv (.t 142))] [8, 13, 139, 140, 141, 142])
 .ret)))
 .skip))))))))))))
 (.seq
 (.reg 2304 [
 o 4 (.mv (ki (-1)))] [0, 1, 5, 131, 129, 130, 126, 122, 125, 124, 123, 106, 103, 105, 104, 92, 90, 91, 85, 86, 89, 87, 88, 6, 7, 8, 9, 10])
 .ret))))))))))
def fe56 : FnE := ⟨143, [(4, none)], xc56⟩
theorem ok56 : FnOk Tryd.prog 56 fe56 := fnOk_of Tryd.func56 (by kernel_rfl : chkF Tryd.prog hs56 Tryd.f56 = some fe56)
/- 57 internal/strconv.FormatInt -/
def hs57 : Hints := [(0, ([], [4])), (1, ([], [10])), (2, ([], [1, 11, 12, 13, 14, 15, 16])), (3, ([], [0, 17, 18, 19])), (4, ([], [4, 17])), (5, ([], [20, 21])), (6, ([], [22])), (7, ([], [23, 24, 25])), (8, ([], [23, 26, 27])), (9, ([], [6, 28, 29, 30, 31, 32])), (10, ([], [0, 33])), (11, ([], [34, 35])), (12, ([], [5, 7, 36, 37, 38, 39])), (13, ([], [5, 7, 34, 40, 41, 42, 43])), (14, ([], [4, 0, 1, 11, 45, 46, 47, 48, 49, 50, 44, 51, 52, 8])), (15, ([], [9, 53]))]
def xc57 : XC :=
 (.seq
 (.reg 64 [
 o 4 (.mv (.c (.str [])))] [4])
 (.seq
 (.seq
 (.reg 128 [
 o 10 (.mv (.t 1)),
 o 11 (.bin .eql (.t 10) (ki 10))] [10])
 (.cond (.t 11)
 (.seq
 (.seq
 (.reg 192 [
 o 12 (.mv (.t 0)),
 o 13 (.bin .leq (ki 0) (.t 12)),
 o 14 (.mv (.t 13)),
 oi 15 14 true (.mv (.t 0)),
 oi 16 14 true (.bin .lss (.t 15) (ki 100)),
 o 17 (.pick (.t 14) (.t 16) (.c (.bool false)))] [1, 11, 12, 13, 14, 15, 16])
 (.cond (.t 17)
 (.seq
 (.reg 256 [
 o 18 (.mv (.t 0)),
 o 19 (.call 60 [(.t 18)]),
 o 4 (.mv (.t 19))] [0, 17, 18, 19])
 .ret)
 .skip))
 (.seq
 (.reg 320 [
 o 5 (.new (.ints .u8 [0, 0, 0, 0, 0, 0, 0, 0, 0, 0, 0, 0, 0, 0, 0, 0, 0, 0, 0, 0, 0, 0, 0, 0]) 24 1)] [4, 17])
 (.seq
 (.reg 384 [
 o 20 (.mv (.t 0)),
 o 21 (.conv .u64 (.t 20)),
 o 6 (.mv (.t 21))] [20, 21])
 (.seq
 (.seq
 (.reg 448 [
 o 22 (.mv (.t 0)),
 o 23 (.bin .lss (.t 22) (ki 0))] [22])
 (.cond (.t 23)
 (.reg 512 [
 o 24 (.mv (.t 6)),
 o 25 (.un .neg (.t 24)),
 o 6 (.mv (.t 25))] [23, 24, 25])
 .skip))
 (.seq
 (.reg 576 [
 o 26 (.mv (.t 6)),
 o 27 (.call 61 [(.t 26)]),
 o 7 (.mv (.t 27))] [23, 26, 27])
 (.seq
 (.reg 640 [
 o 28 (.mv (.t 7)),
 o 29 (.bin .add (ki 1) (.t 28)),
 o 30 (.slicea 24 1 (.t 5) (some (ki 1)) (some (.t 29)) none),
 o 31 (.mv (.t 6)),
 o 32 (.call 62 [(.t 30), (.t 31)])] [6, 28, 29, 30, 31, 32])
 (.seq
 (.seq
 (.reg 704 [
 o 33 (.mv (.t 0)),
 o 34 (.bin .lss (.t 33) (ki 0))] [0, 33])
 (.cond (.t 34)
 (.seq
 (.reg 768 [
 o 35 (.idxA (some 24) 1 (.t 5) (ki 0)),
 ⟨none, .store 1 (.t 35) (ku 45), none⟩] [34, 35])
 (.seq
 (.reg 832 [
 o 36 (.mv (.t 7)),
 o 37 (.bin .add (ki 1) (.t 36)),
 o 38 (.slicea 24 1 (.t 5) none (some (.t 37)) none),
 o 39 (.bstr (.t 38)),
 o 4 (.mv (.t 39))] [5, 7, 36, 37, 38, 39])
 .ret))
 .skip))
 (.seq
 (.reg 896 [
 o 40 (.mv (.t 7)),
 o 41 (.bin .add (ki 1) (.t 40)),
 o 42 (.slicea 24 1 (.t 5) (some (ki 1)) (some (.t 41)) none),
 o 43 (.bstr (.t 42)),
 o 4 (.mv (.t 43))] [5, 7, 34, 40, 41, 42, 43])
 .ret))))))))
 .skip))
 (.seq
 (.reg 960 [
 o 45 (.mv (.t 0)),
 o 46 (.conv .u64 (.t 45)),
 o 47 (.mv (.t 1)),
 o 48 (.mv (.t 0)),
 o 49 (.bin .lss (.t 48) (ki 0)),
 o 50 (.call 63 [(.c .nils), (.t 46), (.t 47), (.t 49), (.c (.bool false))]),
 o 44 (.mv (.t 50)),
 o 51 (.ext (.t 44) 0),
 o 52 (.ext (.t 44) 1),
 o 8 (.mv (.t 51)),
 o 9 (.mv (.t 52))] [4, 0, 1, 11, 45, 46, 47, 48, 49, 50, 44, 51, 52, 8])
 (.seq
 (.reg 1024 [
 o 53 (.mv (.t 9)),
 o 4 (.mv (.t 53))] [9, 53])
 .ret))))
def fe57 : FnE := ⟨54, [(4, none)], xc57⟩
theorem ok57 : FnOk Tryd.prog 57 fe57 := fnOk_of Tryd.func57 (by kernel_rfl : chkF Tryd.prog hs57 Tryd.f57 = some fe57)
/- 59 internal/bytealg.IndexRabinKarp[string] -/
def hs59 : Hints := [(0, ([], [4])), (1, ([], [12, 13, 11, 14, 15])), (2, ([], [16, 17])), (5, ([], [18, 19])), (7, ([], [20, 23, 24, 25, 26, 27, 28, 29])), (6, ([], [21, 22])), (8, ([], [9, 38, 36, 37, 34, 35, 30, 31, 32, 33])), (9, ([], [0, 1, 5, 6, 7, 8, 76, 74, 75, 69, 72, 73, 70, 71, 39])), (10, ([], [4, 39, 40])), (11, ([], [41, 42, 43])), (12, ([], [44, 45, 46])), (13, ([], [47, 48, 49, 50, 51, 52])), (14, ([], [53, 54, 55, 56, 57, 58, 59, 60, 61, 62])), (15, ([], [63, 64])), (16, ([], [65, 66, 67, 68])), (17, ([], [7, 76, 74, 75, 1, 69, 72, 73, 70, 71, 0, 5, 10, 6, 8, 77, 78, 79, 80])), (18, ([], [0, 1, 5, 6, 7, 8, 76, 74, 75, 69, 72, 73, 70, 71, 10]))]
def xc59 : XC :=
 (.seq
 (.reg 64 [
 o 4 (.mv (ki 0))] [4])
 (.seq
 (.reg 128 [
 o 12 (.mv (.t 1)),
 o 13 (.call 64 [(.t 12)]),
 o 11 (.mv (.t 13)),
 o 14 (.ext (.t 11) 0),
 o 15 (.ext (.t 11) 1),
 o 5 (.mv (.t 14)),
 o 6 (.mv (.t 15))] [12, 13, 11, 14, 15])
 (.seq
 (.reg 192 [
 o 16 (.mv (.t 1)),
 o 17 (.lens (.t 16)),
 o 7 (.mv (.t 17))] [16, 17])
 (.seq
 (.reg 256 [
 o 8 (.mv (.c (.int .u32 0)))] [])
 (.seq
 (.seq
 (.reg 320 [
 o 9 (.mv (ki 0))] [])
 (.block 0
 (.loop
 (.seq
 (.seq
 (.reg 384 [
 o 18 (.mv (.t 9)),
 o 19 (.mv (.t 7)),
 o 20 (.bin .lss (.t 18) (.t 19))] [18, 19])
 (.cond (.t 20)
 .skip
 (.exit 0)))
 (.seq
 (.block 1
 (.reg 512 [
 o 23 (.mv (.t 8)),
 o 24 (.bin .mul (.t 23) (.c (.int .u32 16777619))),
 o 25 (.mv (.t 0)),
 o 26 (.mv (.t 9)),
 o 27 (.idxs (.t 25) (.t 26)),
 o 28 (.conv .u32 (.t 27)),
 o 29 (.bin .add (.t 24) (.t 28)),
 o 8 (.mv (.t 29))] [20, 23, 24, 25, 26, 27, 28, 29]))
 (.reg 448 [
 o 21 (.mv (.t 9)),
 o 22 (.bin .add (.t 21) (ki 1)),
 o 9 (.mv (.t 22))] [21, 22]))))))
 (.seq
 (.seq
 (.reg 576 [
 o 30 (.mv (.t 8)),
 o 31 (.mv (.t 5)),
 o 32 (.bin .eql (.t 30) (.t 31)),
 o 33 (.mv (.t 32)),
 oi 34 33 true (.mv (.t 0)),
 oi 35 33 true (.mv (.t 7)),
 oi 36 33 true (.slices (.t 34) none (some (.t 35))),
 oi 37 33 true (.mv (.t 1)),
 oi 38 33 true (.bin .eql (.t 36) (.t 37)),
 o 39 (.pick (.t 33) (.t 38) (.c (.bool false)))] [9, 38, 36, 37, 34, 35, 30, 31, 32, 33])
 (.cond (.t 39)
 (.seq
 (.reg 640 [
 o 4 (.mv (ki 0))] [0, 1, 5, 6, 7, 8, 76, 74, 75, 69, 72, 73, 70, 71, 39])
 .ret)
 .skip))
 (.seq
 (.seq
 (.reg 704 [
 o 40 (.mv (.t 7)),
 o 10 (.mv (.t 40))] [4, 39, 40])
 (.block 2
 (.loop
 (.seq
 (.seq
 (.reg 768 [
 o 41 (.mv (.t 10)),
 o 42 (.mv (.t 0)),
 o 43 (.lens (.t 42)),
 o 44 (.bin .lss (.t 41) (.t 43))] [41, 42, 43])
 (.cond (.t 44)
 .skip
 (.exit 2)))
 (.block 3
 (.seq
 (.reg 832 [
 o 45 (.mv (.t 8)),
 o 46 (.bin .mul (.t 45) (.c (.int .u32 16777619))),
 o 8 (.mv (.t 46))] [44, 45, 46])
 (.seq
 (.reg 896 [
 o 47 (.mv (.t 8)),
 o 48 (.mv (.t 0)),
 o 49 (.mv (.t 10)),
 o 50 (.idxs (.t 48) (.t 49)),
 o 51 (.conv .u32 (.t 50)),
 o 52 (.bin .add (.t 47) (.t 51)),
 o 8 (.mv (.t 52))] [47, 48, 49, 50, 51, 52])
 (.seq
 (.reg 960 [
 o 53 (.mv (.t 8)),
 o 54 (.mv (.t 6)),
 o 55 (.mv (.t 0)),
 o 56 (.mv (.t 10)),
 o 57 (.mv (.t 7)),
 o 58 (.bin .sub (.t 56) (.t 57)),
 o 59 (.idxs (.t 55) (.t 58)),
 o 60 (.conv .u32 (.t 59)),
 o 61 (.bin .mul (.t 54) (.t 60)),
 o 62 (.bin .sub (.t 53) (.t 61)),
 o 8 (.mv (.t 62))] [53, 54, 55, 56, 57, 58, 59, 60, 61, 62])
 (.seq
 (.reg 1024 [
 o 63 (.mv (.t 10)),
 o 64 (.bin .add (.t 63) (ki 1)),
 o 10 (.mv (.t 64))] [63, 64])
 (.seq
 (.reg 1088 [
 o 65 (.mv (.t 8)),
 o 66 (.mv (.t 5)),
 o 67 (.bin .eql (.t 65) (.t 66)),
 o 68 (.mv (.t 67)),
 oi 69 68 true (.mv (.t 0)),
 oi 70 68 true (.mv (.t 10)),
 oi 71 68 true (.mv (.t 7)),
 oi 72 68 true (.bin .sub (.t 70) (.t 71)),
 oi 73 68 true (.mv (.t 10)),
 oi 74 68 true (.slices (.t 69) (some (.t 72)) (some (.t 73))),
 oi 75 68 true (.mv (.t 1)),
 oi 76 68 true (.bin .eql (.t 74) (.t 75)),
 o 77 (.pick (.t 68) (.t 76) (.c (.bool false)))] [65, 66, 67, 68])
 (.cond (.t 77)
 (.seq
 (.reg 1152 [
 o 78 (.mv (.t 10)),
 o 79 (.mv (.t 7)),
 o 80 (.bin .sub (.t 78) (.t 79)),
 o 4 (.mv (.t 80))] [7, 76, 74, 75, 1, 69, 72, 73, 70, 71, 0, 5, 10, 6, 8, 77, 78, 79, 80])
 .ret)
 .skip)))))))))))
 (.seq
 (.reg 1216 [
 o 4 (.mv (ki (-1)))] [0, 1, 5, 6, 7, 8, 76, 74, 75, 69, 72, 73, 70, 71, 10])
 .ret))))))))
def fe59 : FnE := ⟨81, [(4, none)], xc59⟩
theorem ok59 : FnOk Tryd.prog 59 fe59 := fnOk_of Tryd.func59 (by kernel_rfl : chkF Tryd.prog hs59 Tryd.f59 = some fe59)
/- 60 internal/strconv.small -/
def hs60 : Hints := [(0, ([], [2])), (1, ([], [3])), (2, ([], [0, 4, 5, 6, 7, 8])), (3, ([], [0, 4, 9, 10, 11, 12, 13, 14]))]
def xc60 : XC :=
 (.seq
 (.reg 64 [
 o 2 (.mv (.c (.str [])))] [2])
 (.seq
 (.seq
 (.reg 128 [
 o 3 (.mv (.t 0)),
 o 4 (.bin .lss (.t 3) (ki 10))] [3])
 (.cond (.t 4)
 (.seq
 (.reg 192 [
 o 5 (.mv (.t 0)),
 o 6 (.mv (.t 0)),
 o 7 (.bin .add (.t 6) (ki 1)),
 o 8 (.slices (.c (.str [48, 49, 50, 51, 52, 53, 54, 55, 56, 57, 97, 98, 99, 100, 101, 102, 103, 104, 105, 106, 107, 108, 109, 110, 111, 112, 113, 114, 115, 116, 117, 118, 119, 120, 121, 122])) (some (.t 5)) (some (.t 7))),
 o 2 (.mv (.t 8))] [0, 4, 5, 6, 7, 8])
 .ret)
 .skip))
 (.seq
 (.reg 256 [
 o 9 (.mv (.t 0)),
 o 10 (.bin .mul (.t 9) (ki 2)),
 o 11 (.mv (.t 0)),
 o 12 (.bin .mul (.t 11) (ki 2)),
 o 13 (.bin .add (.t 12) (ki 2)),
 o 14 (.slices (.c (.str [48, 48, 48, 49, 48, 50, 48, 51, 48, 52, 48, 53, 48, 54, 48, 55, 48, 56, 48, 57, 49, 48, 49, 49, 49, 50, 49, 51, 49, 52, 49, 53, 49, 54, 49, 55, 49, 56, 49, 57, 50, 48, 50, 49, 50, 50, 50, 51, 50, 52, 50, 53, 50, 54, 50, 55, 50, 56, 50, 57, 51, 48, 51, 49, 51, 50, 51, 51, 51, 52, 51, 53, 51, 54, 51, 55, 51, 56, 51, 57, 52, 48, 52, 49, 52, 50, 52, 51, 52, 52, 52, 53, 52, 54, 52, 55, 52, 56, 52, 57, 53, 48, 53, 49, 53, 50, 53, 51, 53, 52, 53, 53, 53, 54, 53, 55, 53, 56, 53, 57, 54, 48, 54, 49, 54, 50, 54, 51, 54, 52, 54, 53, 54, 54, 54, 55, 54, 56, 54, 57, 55, 48, 55, 49, 55, 50, 55, 51, 55, 52, 55, 53, 55, 54, 55, 55, 55, 56, 55, 57, 56, 48, 56, 49, 56, 50, 56, 51, 56, 52, 56, 53, 56, 54, 56, 55, 56, 56, 56, 57, 57, 48, 57, 49, 57, 50, 57, 51, 57, 52, 57, 53, 57, 54, 57, 55, 57, 56, 57, 57])) (some (.t 10)) (some (.t 13))),
 o 2 (.mv (.t 14))] [0, 4, 9, 10, 11, 12, 13, 14])
 .ret)))
def fe60 : FnE := ⟨15, [(2, none)], xc60⟩
theorem ok60 : FnOk Tryd.prog 60 fe60 := fnOk_of Tryd.func60 (by kernel_rfl : chkF Tryd.prog hs60 Tryd.f60 = some fe60)
/- 61 internal/strconv.numDigits -/
def hs61 : Hints := [(0, ([], [2])), (1, ([], [4, 5, 6])), (2, ([], [0, 3, 7, 8, 9, 10, 11, 12, 13, 14]))]
def xc61 : XC :=
 (.seq
 (.reg 64 [
 o 2 (.mv (ki 0))] [2])
 (.seq
 (.reg 128 [
 o 4 (.mv (.t 0)),
 o 5 (.call 66 [(.t 4)]),
 o 6 (.call 65 [(.t 5)]),
 o 3 (.mv (.t 6))] [4, 5, 6])
 (.seq
 (.reg 192 [
 o 7 (.mv (.t 3)),
 o 8 (.mv (.t 0)),
 o 9 (.mv (.t 3)),
 o 10 (.idxA (some 20) 1 (.g 1) (.t 9)),
 o 11 (.load none (.t 10)),
 o 12 (.bin .geq (.t 8) (.t 11)),
 o 13 (.call 67 [(.t 12)]),
 o 14 (.bin .add (.t 7) (.t 13)),
 o 2 (.mv (.t 14))] [0, 3, 7, 8, 9, 10, 11, 12, 13, 14])
 .ret)))
def fe61 : FnE := ⟨15, [(2, none)], xc61⟩
theorem ok61 : FnOk Tryd.prog 61 fe61 := fnOk_of Tryd.func61 (by kernel_rfl : chkF Tryd.prog hs61 Tryd.f61 = some fe61)
/- 62 internal/strconv.formatBase10 -/
def hs62 : Hints := [(0, ([], [17, 18])), (1, ([], [19])), (2, ([], [20, 21, 22, 23])), (3, ([], [24, 25])), (4, ([], [5, 26, 27, 28, 29])), (5, ([], [7, 30, 31, 32, 33, 34, 35])), (6, ([], [6, 36, 37, 38, 39, 40, 41])), (7, ([0, 1, 2, 3, 4, 5, 6, 7, 8, 9, 10, 11, 12, 13, 14], [9, 42, 43, 44, 45, 46, 47, 48, 49, 50, 51, 52, 53, 54])), (8, ([0, 1, 2, 3, 4, 5, 6, 7, 8, 9, 10, 11, 12, 13, 14], [8, 55, 56, 57, 58, 59, 60, 61, 62, 63, 64, 65, 66, 67])), (9, ([0, 1, 2, 3, 4, 5, 6, 7, 8, 9, 10, 11, 12, 13, 14], [11, 68, 69, 70, 71, 72, 73, 74, 75, 76, 77, 78, 79, 80])), (10, ([0, 1, 2, 3, 4, 5, 6, 7, 8, 9, 10, 11, 12, 13, 14], [10, 81, 82, 83, 84, 85, 86, 87, 88, 89, 90, 91, 92, 93])), (11, ([], [94, 95])), (12, ([], [1, 96, 97])), (13, ([], [98])), (14, ([], [99, 100, 101])), (15, ([], [102, 103])), (16, ([], [13, 104, 105, 106, 107, 108, 109])), (17, ([0, 1, 2, 3, 4, 5, 6, 7, 8, 9, 10, 11, 12, 13, 14], [15, 110, 111, 112, 113, 114, 115, 116, 117, 118, 119, 120, 121, 122])), (18, ([0, 1, 2, 3, 4, 5, 6, 7, 8, 9, 10, 11, 12, 13, 14], [14, 123, 124, 125, 126, 127, 128, 129, 130, 131, 132, 133, 134, 135])), (19, ([], [136, 137])), (20, ([], [99, 138])), (21, ([], [139, 140, 141, 142])), (22, ([], [143, 144])), (23, ([0, 1, 2, 3, 4, 5, 6, 7, 8, 9, 10, 11, 12, 13, 14], [16, 145, 146, 147, 148, 149, 150, 151, 152, 153, 154, 155, 156, 157])), (24, ([], [158, 159])), (25, ([], [4, 139, 160])), (26, ([], [0, 12, 161, 162, 163, 164, 165, 166]))]
def xc62 : XC :=
 (.seq
 (.reg 64 [
 o 17 (.mv (.t 0)),
 o 18 (.len (.t 17)),
 o 4 (.mv (.t 18))] [17, 18])
 (.seq
 (.block 0
 (.loop
 (.seq
 (.seq
 (.reg 128 [
 o 19 (.mv (.t 4)),
 o 20 (.bin .geq (.t 19) (ki 8))] [19])
 (.cond (.t 20)
 .skip
 (.exit 0)))
 (.block 1
 (.seq
 (.reg 192 [
 o 21 (.mv (.t 1)),
 o 22 (.bin .rem (.t 21) (.c (.int .u64 100000000))),
 o 23 (.conv .u32 (.t 22)),
 o 5 (.mv (.t 23))] [20, 21, 22, 23])
 (.seq
 (.reg 256 [
 o 24 (.mv (.t 1)),
 o 25 (.bin .quo (.t 24) (.c (.int .u64 100000000))),
 o 1 (.mv (.t 25))] [24, 25])
 (.seq
 (.reg 320 [
 o 26 (.mv (.t 5)),
 o 27 (.bin .quo (.t 26) (.c (.int .u32 10000))),
 o 28 (.mv (.t 5)),
 o 29 (.bin .rem (.t 28) (.c (.int .u32 10000))),
 o 6 (.mv (.t 27)),
 o 7 (.mv (.t 29))] [5, 26, 27, 28, 29])
 (.seq
 (.reg 384 [
 o 30 (.mv (.t 7)),
 o 31 (.bin .quo (.t 30) (.c (.int .u32 100))),
 o 32 (.bin .mul (.t 31) (.c (.int .u32 2))),
 o 33 (.mv (.t 7)),
 o 34 (.bin .rem (.t 33) (.c (.int .u32 100))),
 o 35 (.bin .mul (.t 34) (.c (.int .u32 2))),
 o 8 (.mv (.t 32)),
 o 9 (.mv (.t 35))] [7, 30, 31, 32, 33, 34, 35])
 (.seq
 (.reg 448 [
 o 36 (.mv (.t 6)),
 o 37 (.bin .quo (.t 36) (.c (.int .u32 100))),
 o 38 (.bin .mul (.t 37) (.c (.int .u32 2))),
 o 39 (.mv (.t 6)),
 o 40 (.bin .rem (.t 39) (.c (.int .u32 100))),
 o 41 (.bin .mul (.t 40) (.c (.int .u32 2))),
 o 10 (.mv (.t 38)),
 o 11 (.mv (.t 41))] [6, 36, 37, 38, 39, 40, 41])
 (.seq
 (.draw 512 [
 o 42 (.mv (.t 0)),
 o 43 (.mv (.t 4)),
 o 44 (.bin .sub (.t 43) (ki 1)),
 o 45 (.mv (.t 0)),
 o 46 (.mv (.t 4)),
 o 47 (.bin .sub (.t 46) (ki 2)),
 o 48 (.mv (.t 9)),
 o 49 (.bin .add (.t 48) (.c (.int .u32 1))),
 o 50 (.idxs (.c (.str [48, 48, 48, 49, 48, 50, 48, 51, 48, 52, 48, 53, 48, 54, 48, 55, 48, 56, 48, 57, 49, 48, 49, 49, 49, 50, 49, 51, 49, 52, 49, 53, 49, 54, 49, 55, 49, 56, 49, 57, 50, 48, 50, 49, 50, 50, 50, 51, 50, 52, 50, 53, 50, 54, 50, 55, 50, 56, 50, 57, 51, 48, 51, 49, 51, 50, 51, 51, 51, 52, 51, 53, 51, 54, 51, 55, 51, 56, 51, 57, 52, 48, 52, 49, 52, 50, 52, 51, 52, 52, 52, 53, 52, 54, 52, 55, 52, 56, 52, 57, 53, 48, 53, 49, 53, 50, 53, 51, 53, 52, 53, 53, 53, 54, 53, 55, 53, 56, 53, 57, 54, 48, 54, 49, 54, 50, 54, 51, 54, 52, 54, 53, 54, 54, 54, 55, 54, 56, 54, 57, 55, 48, 55, 49, 55, 50, 55, 51, 55, 52, 55, 53, 55, 54, 55, 55, 55, 56, 55, 57, 56, 48, 56, 49, 56, 50, 56, 51, 56, 52, 56, 53, 56, 54, 56, 55, 56, 56, 56, 57, 57, 48, 57, 49, 57, 50, 57, 51, 57, 52, 57, 53, 57, 54, 57, 55, 57, 56, 57, 57])) (.t 49)),
 o 51 (.mv (.t 9)),
 o 52 (.idxs (.c (.str [48, 48, 48, 49, 48, 50, 48, 51, 48, 52, 48, 53, 48, 54, 48, 55, 48, 56, 48, 57, 49, 48, 49, 49, 49, 50, 49, 51, 49, 52, 49, 53, 49, 54, 49, 55, 49, 56, 49, 57, 50, 48, 50, 49, 50, 50, 50, 51, 50, 52, 50, 53, 50, 54, 50, 55, 50, 56, 50, 57, 51, 48, 51, 49, 51, 50, 51, 51, 51, 52, 51, 53, 51, 54, 51, 55, 51, 56, 51, 57, 52, 48, 52, 49, 52, 50, 52, 51, 52, 52, 52, 53, 52, 54, 52, 55, 52, 56, 52, 57, 53, 48, 53, 49, 53, 50, 53, 51, 53, 52, 53, 53, 53, 54, 53, 55, 53, 56, 53, 57, 54, 48, 54, 49, 54, 50, 54, 51, 54, 52, 54, 53, 54, 54, 54, 55, 54, 56, 54, 57, 55, 48, 55, 49, 55, 50, 55, 51, 55, 52, 55, 53, 55, 54, 55, 55, 55, 56, 55, 57, 56, 48, 56, 49, 56, 50, 56, 51, 56, 52, 56, 53, 56, 54, 56, 55, 56, 56, 56, 57, 57, 48, 57, 49, 57, 50, 57, 51, 57, 52, 57, 53, 57, 54, 57, 55, 57, 56, 57, 57])) (.t 51)),
 o 53 (.idxA none 1 (.t 42) (.t 44)),
 ⟨none, .store 1 (.t 53) (.t 50), none⟩,
 o 54 (.idxA none 1 (.t 45) (.t 47)),
 ⟨none, .store 1 (.t 54) (.t 52), none⟩]
 [[], [], [1], [], [], [4], [], [6], [7], [], [9], [0, 2, 0, 1, 2, 6, 7, 8], [11, 8, 0, 1, 2, 6, 7, 8], [3, 5, 0, 1, 2, 3, 4, 5, 6, 7, 8, 9, 10, 11, 12], [13, 10, 12, 0, 1, 2, 3, 4, 5, 6, 7, 8, 9, 10, 11, 12]]
 [0, 1, 2, 3, 4, 5, 6, 7, 8, 9, 10, 11, 12, 13, 14] [9, 42, 43, 44, 45, 46, 47, 48, 49, 50, 51, 52, 53, 54])
 (.seq
 (.draw 576 [
 o 55 (.mv (.t 0)),
 o 56 (.mv (.t 4)),
 o 57 (.bin .sub (.t 56) (ki 3)),
 o 58 (.mv (.t 0)),
 o 59 (.mv (.t 4)),
 o 60 (.bin .sub (.t 59) (ki 4)),
 o 61 (.mv (.t 8)),
 o 62 (.bin .add (.t 61) (.c (.int .u32 1))),
 o 63 (.idxs (.c (.str [48, 48, 48, 49, 48, 50, 48, 51, 48, 52, 48, 53, 48, 54, 48, 55, 48, 56, 48, 57, 49, 48, 49, 49, 49, 50, 49, 51, 49, 52, 49, 53, 49, 54, 49, 55, 49, 56, 49, 57, 50, 48, 50, 49, 50, 50, 50, 51, 50, 52, 50, 53, 50, 54, 50, 55, 50, 56, 50, 57, 51, 48, 51, 49, 51, 50, 51, 51, 51, 52, 51, 53, 51, 54, 51, 55, 51, 56, 51, 57, 52, 48, 52, 49, 52, 50, 52, 51, 52, 52, 52, 53, 52, 54, 52, 55, 52, 56, 52, 57, 53, 48, 53, 49, 53, 50, 53, 51, 53, 52, 53, 53, 53, 54, 53, 55, 53, 56, 53, 57, 54, 48, 54, 49, 54, 50, 54, 51, 54, 52, 54, 53, 54, 54, 54, 55, 54, 56, 54, 57, 55, 48, 55, 49, 55, 50, 55, 51, 55, 52, 55, 53, 55, 54, 55, 55, 55, 56, 55, 57, 56, 48, 56, 49, 56, 50, 56, 51, 56, 52, 56, 53, 56, 54, 56, 55, 56, 56, 56, 57, 57, 48, 57, 49, 57, 50, 57, 51, 57, 52, 57, 53, 57, 54, 57, 55, 57, 56, 57, 57])) (.t 62)),
 o 64 (.mv (.t 8)),
 o 65 (.idxs (.c (.str [48, 48, 48, 49, 48, 50, 48, 51, 48, 52, 48, 53, 48, 54, 48, 55, 48, 56, 48, 57, 49, 48, 49, 49, 49, 50, 49, 51, 49, 52, 49, 53, 49, 54, 49, 55, 49, 56, 49, 57, 50, 48, 50, 49, 50, 50, 50, 51, 50, 52, 50, 53, 50, 54, 50, 55, 50, 56, 50, 57, 51, 48, 51, 49, 51, 50, 51, 51, 51, 52, 51, 53, 51, 54, 51, 55, 51, 56, 51, 57, 52, 48, 52, 49, 52, 50, 52, 51, 52, 52, 52, 53, 52, 54, 52, 55, 52, 56, 52, 57, 53, 48, 53, 49, 53, 50, 53, 51, 53, 52, 53, 53, 53, 54, 53, 55, 53, 56, 53, 57, 54, 48, 54, 49, 54, 50, 54, 51, 54, 52, 54, 53, 54, 54, 54, 55, 54, 56, 54, 57, 55, 48, 55, 49, 55, 50, 55, 51, 55, 52, 55, 53, 55, 54, 55, 55, 55, 56, 55, 57, 56, 48, 56, 49, 56, 50, 56, 51, 56, 52, 56, 53, 56, 54, 56, 55, 56, 56, 56, 57, 57, 48, 57, 49, 57, 50, 57, 51, 57, 52, 57, 53, 57, 54, 57, 55, 57, 56, 57, 57])) (.t 64)),
 o 66 (.idxA none 1 (.t 55) (.t 57)),
 ⟨none, .store 1 (.t 66) (.t 63), none⟩,
 o 67 (.idxA none 1 (.t 58) (.t 60)),
 ⟨none, .store 1 (.t 67) (.t 65), none⟩]
 [[], [], [1], [], [], [4], [], [6], [7], [], [9], [0, 2, 0, 1, 2, 6, 7, 8], [11, 8, 0, 1, 2, 6, 7, 8], [3, 5, 0, 1, 2, 3, 4, 5, 6, 7, 8, 9, 10, 11, 12], [13, 10, 12, 0, 1, 2, 3, 4, 5, 6, 7, 8, 9, 10, 11, 12]]
 [0, 1, 2, 3, 4, 5, 6, 7, 8, 9, 10, 11, 12, 13, 14] [8, 55, 56, 57, 58, 59, 60, 61, 62, 63, 64, 65, 66, 67])
 (.seq
 (.draw 640 [
 o 68 (.mv (.t 0)),
 o 69 (.mv (.t 4)),
 o 70 (.bin .sub (.t 69) (ki 5)),
 o 71 (.mv (.t 0)),
 o 72 (.mv (.t 4)),
 o 73 (.bin .sub (.t 72) (ki 6)),
 o 74 (.mv (.t 11)),
 o 75 (.bin .add (.t 74) (.c (.int .u32 1))),
 o 76 (.idxs (.c (.str [48, 48, 48, 49, 48, 50, 48, 51, 48, 52, 48, 53, 48, 54, 48, 55, 48, 56, 48, 57, 49, 48, 49, 49, 49, 50, 49, 51, 49, 52, 49, 53, 49, 54, 49, 55, 49, 56, 49, 57, 50, 48, 50, 49, 50, 50, 50, 51, 50, 52, 50, 53, 50, 54, 50, 55, 50, 56, 50, 57, 51, 48, 51, 49, 51, 50, 51, 51, 51, 52, 51, 53, 51, 54, 51, 55, 51, 56, 51, 57, 52, 48, 52, 49, 52, 50, 52, 51, 52, 52, 52, 53, 52, 54, 52, 55, 52, 56, 52, 57, 53, 48, 53, 49, 53, 50, 53, 51, 53, 52, 53, 53, 53, 54, 53, 55, 53, 56, 53, 57, 54, 48, 54, 49, 54, 50, 54, 51, 54, 52, 54, 53, 54, 54, 54, 55, 54, 56, 54, 57, 55, 48, 55, 49, 55, 50, 55, 51, 55, 52, 55, 53, 55, 54, 55, 55, 55, 56, 55, 57, 56, 48, 56, 49, 56, 50, 56, 51, 56, 52, 56, 53, 56, 54, 56, 55, 56, 56, 56, 57, 57, 48, 57, 49, 57, 50, 57, 51, 57, 52, 57, 53, 57, 54, 57, 55, 57, 56, 57, 57])) (.t 75)),
 o 77 (.mv (.t 11)),
 o 78 (.idxs (.c (.str [48, 48, 48, 49, 48, 50, 48, 51, 48, 52, 48, 53, 48, 54, 48, 55, 48, 56, 48, 57, 49, 48, 49, 49, 49, 50, 49, 51, 49, 52, 49, 53, 49, 54, 49, 55, 49, 56, 49, 57, 50, 48, 50, 49, 50, 50, 50, 51, 50, 52, 50, 53, 50, 54, 50, 55, 50, 56, 50, 57, 51, 48, 51, 49, 51, 50, 51, 51, 51, 52, 51, 53, 51, 54, 51, 55, 51, 56, 51, 57, 52, 48, 52, 49, 52, 50, 52, 51, 52, 52, 52, 53, 52, 54, 52, 55, 52, 56, 52, 57, 53, 48, 53, 49, 53, 50, 53, 51, 53, 52, 53, 53, 53, 54, 53, 55, 53, 56, 53, 57, 54, 48, 54, 49, 54, 50, 54, 51, 54, 52, 54, 53, 54, 54, 54, 55, 54, 56, 54, 57, 55, 48, 55, 49, 55, 50, 55, 51, 55, 52, 55, 53, 55, 54, 55, 55, 55, 56, 55, 57, 56, 48, 56, 49, 56, 50, 56, 51, 56, 52, 56, 53, 56, 54, 56, 55, 56, 56, 56, 57, 57, 48, 57, 49, 57, 50, 57, 51, 57, 52, 57, 53, 57, 54, 57, 55, 57, 56, 57, 57])) (.t 77)),
 o 79 (.idxA none 1 (.t 68) (.t 70)),
 ⟨none, .store 1 (.t 79) (.t 76), none⟩,
 o 80 (.idxA none 1 (.t 71) (.t 73)),
 ⟨none, .store 1 (.t 80) (.t 78), none⟩]
 [[], [], [1], [], [], [4], [], [6], [7], [], [9], [0, 2, 0, 1, 2, 6, 7, 8], [11, 8, 0, 1, 2, 6, 7, 8], [3, 5, 0, 1, 2, 3, 4, 5, 6, 7, 8, 9, 10, 11, 12], [13, 10, 12, 0, 1, 2, 3, 4, 5, 6, 7, 8, 9, 10, 11, 12]]
 [0, 1, 2, 3, 4, 5, 6, 7, 8, 9, 10, 11, 12, 13, 14] [11, 68, 69, 70, 71, 72, 73, 74, 75, 76, 77, 78, 79, 80])
 (.seq
 (.draw 704 [
 o 81 (.mv (.t 0)),
 o 82 (.mv (.t 4)),
 o 83 (.bin .sub (.t 82) (ki 7)),
 o 84 (.mv (.t 0)),
 o 85 (.mv (.t 4)),
 o 86 (.bin .sub (.t 85) (ki 8)),
 o 87 (.mv (.t 10)),
 o 88 (.bin .add (.t 87) (.c (.int .u32 1))),
 o 89 (.idxs (.c (.str [48, 48, 48, 49, 48, 50, 48, 51, 48, 52, 48, 53, 48, 54, 48, 55, 48, 56, 48, 57, 49, 48, 49, 49, 49, 50, 49, 51, 49, 52, 49, 53, 49, 54, 49, 55, 49, 56, 49, 57, 50, 48, 50, 49, 50, 50, 50, 51, 50, 52, 50, 53, 50, 54, 50, 55, 50, 56, 50, 57, 51, 48, 51, 49, 51, 50, 51, 51, 51, 52, 51, 53, 51, 54, 51, 55, 51, 56, 51, 57, 52, 48, 52, 49, 52, 50, 52, 51, 52, 52, 52, 53, 52, 54, 52, 55, 52, 56, 52, 57, 53, 48, 53, 49, 53, 50, 53, 51, 53, 52, 53, 53, 53, 54, 53, 55, 53, 56, 53, 57, 54, 48, 54, 49, 54, 50, 54, 51, 54, 52, 54, 53, 54, 54, 54, 55, 54, 56, 54, 57, 55, 48, 55, 49, 55, 50, 55, 51, 55, 52, 55, 53, 55, 54, 55, 55, 55, 56, 55, 57, 56, 48, 56, 49, 56, 50, 56, 51, 56, 52, 56, 53, 56, 54, 56, 55, 56, 56, 56, 57, 57, 48, 57, 49, 57, 50, 57, 51, 57, 52, 57, 53, 57, 54, 57, 55, 57, 56, 57, 57])) (.t 88)),
 o 90 (.mv (.t 10)),
 o 91 (.idxs (.c (.str [48, 48, 48, 49, 48, 50, 48, 51, 48, 52, 48, 53, 48, 54, 48, 55, 48, 56, 48, 57, 49, 48, 49, 49, 49, 50, 49, 51, 49, 52, 49, 53, 49, 54, 49, 55, 49, 56, 49, 57, 50, 48, 50, 49, 50, 50, 50, 51, 50, 52, 50, 53, 50, 54, 50, 55, 50, 56, 50, 57, 51, 48, 51, 49, 51, 50, 51, 51, 51, 52, 51, 53, 51, 54, 51, 55, 51, 56, 51, 57, 52, 48, 52, 49, 52, 50, 52, 51, 52, 52, 52, 53, 52, 54, 52, 55, 52, 56, 52, 57, 53, 48, 53, 49, 53, 50, 53, 51, 53, 52, 53, 53, 53, 54, 53, 55, 53, 56, 53, 57, 54, 48, 54, 49, 54, 50, 54, 51, 54, 52, 54, 53, 54, 54, 54, 55, 54, 56, 54, 57, 55, 48, 55, 49, 55, 50, 55, 51, 55, 52, 55, 53, 55, 54, 55, 55, 55, 56, 55, 57, 56, 48, 56, 49, 56, 50, 56, 51, 56, 52, 56, 53, 56, 54, 56, 55, 56, 56, 56, 57, 57, 48, 57, 49, 57, 50, 57, 51, 57, 52, 57, 53, 57, 54, 57, 55, 57, 56, 57, 57])) (.t 90)),
 o 92 (.idxA none 1 (.t 81) (.t 83)),
 ⟨none, .store 1 (.t 92) (.t 89), none⟩,
 o 93 (.idxA none 1 (.t 84) (.t 86)),
 ⟨none, .store 1 (.t 93) (.t 91), none⟩]
 [[], [], [1], [], [], [4], [], [6], [7], [], [9], [0, 2, 0, 1, 2, 6, 7, 8], [11, 8, 0, 1, 2, 6, 7, 8], [3, 5, 0, 1, 2, 3, 4, 5, 6, 7, 8, 9, 10, 11, 12], [13, 10, 12, 0, 1, 2, 3, 4, 5, 6, 7, 8, 9, 10, 11, 12]]
 [0, 1, 2, 3, 4, 5, 6, 7, 8, 9, 10, 11, 12, 13, 14] [10, 81, 82, 83, 84, 85, 86, 87, 88, 89, 90, 91, 92, 93])
 (.reg 768 [
 o 94 (.mv (.t 4)),
 o 95 (.bin .sub (.t 94) (ki 8)),
 o 4 (.mv (.t 95))] [94, 95]))))))))))))))
 (.seq
 (.reg 832 [
 o 96 (.mv (.t 1)),
 o 97 (.conv .u32 (.t 96)),
 o 12 (.mv (.t 97))] [1, 96, 97])
 (.seq
 (.seq
 (.reg 896 [
 o 98 (.mv (.t 4)),
 o 99 (.bin .geq (.t 98) (ki 4))] [98])
 (.cond (.t 99)
 (.seq
 (.reg 960 [
 o 100 (.mv (.t 12)),
 o 101 (.bin .rem (.t 100) (.c (.int .u32 10000))),
 o 13 (.mv (.t 101))] [99, 100, 101])
 (.seq
 (.reg 1024 [
 o 102 (.mv (.t 12)),
 o 103 (.bin .quo (.t 102) (.c (.int .u32 10000))),
 o 12 (.mv (.t 103))] [102, 103])
 (.seq
 (.reg 1088 [
 o 104 (.mv (.t 13)),
 o 105 (.bin .quo (.t 104) (.c (.int .u32 100))),
 o 106 (.bin .mul (.t 105) (.c (.int .u32 2))),
 o 107 (.mv (.t 13)),
 o 108 (.bin .rem (.t 107) (.c (.int .u32 100))),
 o 109 (.bin .mul (.t 108) (.c (.int .u32 2))),
 o 14 (.mv (.t 106)),
 o 15 (.mv (.t 109))] [13, 104, 105, 106, 107, 108, 109])
 (.seq
 (.draw 1152 [
 o 110 (.mv (.t 0)),
 o 111 (.mv (.t 4)),
 o 112 (.bin .sub (.t 111) (ki 1)),
 o 113 (.mv (.t 0)),
 o 114 (.mv (.t 4)),
 o 115 (.bin .sub (.t 114) (ki 2)),
 o 116 (.mv (.t 15)),
 o 117 (.bin .add (.t 116) (.c (.int .u32 1))),
 o 118 (.idxs (.c (.str [48, 48, 48, 49, 48, 50, 48, 51, 48, 52, 48, 53, 48, 54, 48, 55, 48, 56, 48, 57, 49, 48, 49, 49, 49, 50, 49, 51, 49, 52, 49, 53, 49, 54, 49, 55, 49, 56, 49, 57, 50, 48, 50, 49, 50, 50, 50, 51, 50, 52, 50, 53, 50, 54, 50, 55, 50, 56, 50, 57, 51, 48, 51, 49, 51, 50, 51, 51, 51, 52, 51, 53, 51, 54, 51, 55, 51, 56, 51, 57, 52, 48, 52, 49, 52, 50, 52, 51, 52, 52, 52, 53, 52, 54, 52, 55, 52, 56, 52, 57, 53, 48, 53, 49, 53, 50, 53, 51, 53, 52, 53, 53, 53, 54, 53, 55, 53, 56, 53, 57, 54, 48, 54, 49, 54, 50, 54, 51, 54, 52, 54, 53, 54, 54, 54, 55, 54, 56, 54, 57, 55, 48, 55, 49, 55, 50, 55, 51, 55, 52, 55, 53, 55, 54, 55, 55, 55, 56, 55, 57, 56, 48, 56, 49, 56, 50, 56, 51, 56, 52, 56, 53, 56, 54, 56, 55, 56, 56, 56, 57, 57, 48, 57, 49, 57, 50, 57, 51, 57, 52, 57, 53, 57, 54, 57, 55, 57, 56, 57, 57])) (.t 117)),
 o 119 (.mv (.t 15)),
 o 120 (.idxs (.c (.str [48, 48, 48, 49, 48, 50, 48, 51, 48, 52, 48, 53, 48, 54, 48, 55, 48, 56, 48, 57, 49, 48, 49, 49, 49, 50, 49, 51, 49, 52, 49, 53, 49, 54, 49, 55, 49, 56, 49, 57, 50, 48, 50, 49, 50, 50, 50, 51, 50, 52, 50, 53, 50, 54, 50, 55, 50, 56, 50, 57, 51, 48, 51, 49, 51, 50, 51, 51, 51, 52, 51, 53, 51, 54, 51, 55, 51, 56, 51, 57, 52, 48, 52, 49, 52, 50, 52, 51, 52, 52, 52, 53, 52, 54, 52, 55, 52, 56, 52, 57, 53, 48, 53, 49, 53, 50, 53, 51, 53, 52, 53, 53, 53, 54, 53, 55, 53, 56, 53, 57, 54, 48, 54, 49, 54, 50, 54, 51, 54, 52, 54, 53, 54, 54, 54, 55, 54, 56, 54, 57, 55, 48, 55, 49, 55, 50, 55, 51, 55, 52, 55, 53, 55, 54, 55, 55, 55, 56, 55, 57, 56, 48, 56, 49, 56, 50, 56, 51, 56, 52, 56, 53, 56, 54, 56, 55, 56, 56, 56, 57, 57, 48, 57, 49, 57, 50, 57, 51, 57, 52, 57, 53, 57, 54, 57, 55, 57, 56, 57, 57])) (.t 119)),
 o 121 (.idxA none 1 (.t 110) (.t 112)),
 ⟨none, .store 1 (.t 121) (.t 118), none⟩,
 o 122 (.idxA none 1 (.t 113) (.t 115)),
 ⟨none, .store 1 (.t 122) (.t 120), none⟩]
 [[], [], [1], [], [], [4], [], [6], [7], [], [9], [0, 2, 0, 1, 2, 6, 7, 8], [11, 8, 0, 1, 2, 6, 7, 8], [3, 5, 0, 1, 2, 3, 4, 5, 6, 7, 8, 9, 10, 11, 12], [13, 10, 12, 0, 1, 2, 3, 4, 5, 6, 7, 8, 9, 10, 11, 12]]
 [0, 1, 2, 3, 4, 5, 6, 7, 8, 9, 10, 11, 12, 13, 14] [15, 110, 111, 112, 113, 114, 115, 116, 117, 118, 119, 120, 121, 122])
 (.seq
 (.draw 1216 [
 o 123 (.mv (.t 0)),
 o 124 (.mv (.t 4)),
 o 125 (.bin .sub (.t 124) (ki 3)),
 o 126 (.mv (.t 0)),
 o 127 (.mv (.t 4)),
 o 128 (.bin .sub (.t 127) (ki 4)),
 o 129 (.mv (.t 14)),
 o 130 (.bin .add (.t 129) (.c (.int .u32 1))),
 o 131 (.idxs (.c (.str [48, 48, 48, 49, 48, 50, 48, 51, 48, 52, 48, 53, 48, 54, 48, 55, 48, 56, 48, 57, 49, 48, 49, 49, 49, 50, 49, 51, 49, 52, 49, 53, 49, 54, 49, 55, 49, 56, 49, 57, 50, 48, 50, 49, 50, 50, 50, 51, 50, 52, 50, 53, 50, 54, 50, 55, 50, 56, 50, 57, 51, 48, 51, 49, 51, 50, 51, 51, 51, 52, 51, 53, 51, 54, 51, 55, 51, 56, 51, 57, 52, 48, 52, 49, 52, 50, 52, 51, 52, 52, 52, 53, 52, 54, 52, 55, 52, 56, 52, 57, 53, 48, 53, 49, 53, 50, 53, 51, 53, 52, 53, 53, 53, 54, 53, 55, 53, 56, 53, 57, 54, 48, 54, 49, 54, 50, 54, 51, 54, 52, 54, 53, 54, 54, 54, 55, 54, 56, 54, 57, 55, 48, 55, 49, 55, 50, 55, 51, 55, 52, 55, 53, 55, 54, 55, 55, 55, 56, 55, 57, 56, 48, 56, 49, 56, 50, 56, 51, 56, 52, 56, 53, 56, 54, 56, 55, 56, 56, 56, 57, 57, 48, 57, 49, 57, 50, 57, 51, 57, 52, 57, 53, 57, 54, 57, 55, 57, 56, 57, 57])) (.t 130)),
 o 132 (.mv (.t 14)),
 o 133 (.idxs (.c (.str [48, 48, 48, 49, 48, 50, 48, 51, 48, 52, 48, 53, 48, 54, 48, 55, 48, 56, 48, 57, 49, 48, 49, 49, 49, 50, 49, 51, 49, 52, 49, 53, 49, 54, 49, 55, 49, 56, 49, 57, 50, 48, 50, 49, 50, 50, 50, 51, 50, 52, 50, 53, 50, 54, 50, 55, 50, 56, 50, 57, 51, 48, 51, 49, 51, 50, 51, 51, 51, 52, 51, 53, 51, 54, 51, 55, 51, 56, 51, 57, 52, 48, 52, 49, 52, 50, 52, 51, 52, 52, 52, 53, 52, 54, 52, 55, 52, 56, 52, 57, 53, 48, 53, 49, 53, 50, 53, 51, 53, 52, 53, 53, 53, 54, 53, 55, 53, 56, 53, 57, 54, 48, 54, 49, 54, 50, 54, 51, 54, 52, 54, 53, 54, 54, 54, 55, 54, 56, 54, 57, 55, 48, 55, 49, 55, 50, 55, 51, 55, 52, 55, 53, 55, 54, 55, 55, 55, 56, 55, 57, 56, 48, 56, 49, 56, 50, 56, 51, 56, 52, 56, 53, 56, 54, 56, 55, 56, 56, 56, 57, 57, 48, 57, 49, 57, 50, 57, 51, 57, 52, 57, 53, 57, 54, 57, 55, 57, 56, 57, 57])) (.t 132)),
 o 134 (.idxA none 1 (.t 123) (.t 125)),
 ⟨none, .store 1 (.t 134) (.t 131), none⟩,
 o 135 (.idxA none 1 (.t 126) (.t 128)),
 ⟨none, .store 1 (.t 135) (.t 133), none⟩]
 [[], [], [1], [], [], [4], [], [6], [7], [], [9], [0, 2, 0, 1, 2, 6, 7, 8], [11, 8, 0, 1, 2, 6, 7, 8], [3, 5, 0, 1, 2, 3, 4, 5, 6, 7, 8, 9, 10, 11, 12], [13, 10, 12, 0, 1, 2, 3, 4, 5, 6, 7, 8, 9, 10, 11, 12]]
 [0, 1, 2, 3, 4, 5, 6, 7, 8, 9, 10, 11, 12, 13, 14] [14, 123, 124, 125, 126, 127, 128, 129, 130, 131, 132, 133, 134, 135])
 (.reg 1280 [
 o 136 (.mv (.t 4)),
 o 137 (.bin .sub (.t 136) (ki 4)),
 o 4 (.mv (.t 137))] [136, 137]))))))
 .skip))
 (.seq
 (.seq
 (.reg 1344 [
 o 138 (.mv (.t 4)),
 o 139 (.bin .geq (.t 138) (ki 2))] [99, 138])
 (.cond (.t 139)
 (.seq
 (.reg 1408 [
 o 140 (.mv (.t 12)),
 o 141 (.bin .rem (.t 140) (.c (.int .u32 100))),
 o 142 (.bin .mul (.t 141) (.c (.int .u32 2))),
 o 16 (.mv (.t 142))] [139, 140, 141, 142])
 (.seq
 (.reg 1472 [
 o 143 (.mv (.t 12)),
 o 144 (.bin .quo (.t 143) (.c (.int .u32 100))),
 o 12 (.mv (.t 144))] [143, 144])
 (.seq
 (.draw 1536 [
 o 145 (.mv (.t 0)),
 o 146 (.mv (.t 4)),
 o 147 (.bin .sub (.t 146) (ki 1)),
 o 148 (.mv (.t 0)),
 o 149 (.mv (.t 4)),
 o 150 (.bin .sub (.t 149) (ki 2)),
 o 151 (.mv (.t 16)),
 o 152 (.bin .add (.t 151) (.c (.int .u32 1))),
 o 153 (.idxs (.c (.str [48, 48, 48, 49, 48, 50, 48, 51, 48, 52, 48, 53, 48, 54, 48, 55, 48, 56, 48, 57, 49, 48, 49, 49, 49, 50, 49, 51, 49, 52, 49, 53, 49, 54, 49, 55, 49, 56, 49, 57, 50, 48, 50, 49, 50, 50, 50, 51, 50, 52, 50, 53, 50, 54, 50, 55, 50, 56, 50, 57, 51, 48, 51, 49, 51, 50, 51, 51, 51, 52, 51, 53, 51, 54, 51, 55, 51, 56, 51, 57, 52, 48, 52, 49, 52, 50, 52, 51, 52, 52, 52, 53, 52, 54, 52, 55, 52, 56, 52, 57, 53, 48, 53, 49, 53, 50, 53, 51, 53, 52, 53, 53, 53, 54, 53, 55, 53, 56, 53, 57, 54, 48, 54, 49, 54, 50, 54, 51, 54, 52, 54, 53, 54, 54, 54, 55, 54, 56, 54, 57, 55, 48, 55, 49, 55, 50, 55, 51, 55, 52, 55, 53, 55, 54, 55, 55, 55, 56, 55, 57, 56, 48, 56, 49, 56, 50, 56, 51, 56, 52, 56, 53, 56, 54, 56, 55, 56, 56, 56, 57, 57, 48, 57, 49, 57, 50, 57, 51, 57, 52, 57, 53, 57, 54, 57, 55, 57, 56, 57, 57])) (.t 152)),
 o 154 (.mv (.t 16)),
 o 155 (.idxs (.c (.str [48, 48, 48, 49, 48, 50, 48, 51, 48, 52, 48, 53, 48, 54, 48, 55, 48, 56, 48, 57, 49, 48, 49, 49, 49, 50, 49, 51, 49, 52, 49, 53, 49, 54, 49, 55, 49, 56, 49, 57, 50, 48, 50, 49, 50, 50, 50, 51, 50, 52, 50, 53, 50, 54, 50, 55, 50, 56, 50, 57, 51, 48, 51, 49, 51, 50, 51, 51, 51, 52, 51, 53, 51, 54, 51, 55, 51, 56, 51, 57, 52, 48, 52, 49, 52, 50, 52, 51, 52, 52, 52, 53, 52, 54, 52, 55, 52, 56, 52, 57, 53, 48, 53, 49, 53, 50, 53, 51, 53, 52, 53, 53, 53, 54, 53, 55, 53, 56, 53, 57, 54, 48, 54, 49, 54, 50, 54, 51, 54, 52, 54, 53, 54, 54, 54, 55, 54, 56, 54, 57, 55, 48, 55, 49, 55, 50, 55, 51, 55, 52, 55, 53, 55, 54, 55, 55, 55, 56, 55, 57, 56, 48, 56, 49, 56, 50, 56, 51, 56, 52, 56, 53, 56, 54, 56, 55, 56, 56, 56, 57, 57, 48, 57, 49, 57, 50, 57, 51, 57, 52, 57, 53, 57, 54, 57, 55, 57, 56, 57, 57])) (.t 154)),
 o 156 (.idxA none 1 (.t 145) (.t 147)),
 ⟨none, .store 1 (.t 156) (.t 153), none⟩,
 o 157 (.idxA none 1 (.t 148) (.t 150)),
 ⟨none, .store 1 (.t 157) (.t 155), none⟩]
 [[], [], [1], [], [], [4], [], [6], [7], [], [9], [0, 2, 0, 1, 2, 6, 7, 8], [11, 8, 0, 1, 2, 6, 7, 8], [3, 5, 0, 1, 2, 3, 4, 5, 6, 7, 8, 9, 10, 11, 12], [13, 10, 12, 0, 1, 2, 3, 4, 5, 6, 7, 8, 9, 10, 11, 12]]
 [0, 1, 2, 3, 4, 5, 6, 7, 8, 9, 10, 11, 12, 13, 14] [16, 145, 146, 147, 148, 149, 150, 151, 152, 153, 154, 155, 156, 157])
 (.reg 1600 [
 o 158 (.mv (.t 4)),
 o 159 (.bin .sub (.t 158) (ki 2)),
 o 4 (.mv (.t 159))] [158, 159]))))
 .skip))
 (.seq
 (.reg 1664 [
 o 160 (.mv (.t 4)),
 o 161 (.bin .gtr (.t 160) (ki 0))] [4, 139, 160])
 (.cond (.t 161)
 (.reg 1728 [
 o 162 (.mv (.t 0)),
 o 163 (.mv (.t 12)),
 o 164 (.bin .add (.c (.int .u32 48)) (.t 163)),
 o 165 (.conv .u8 (.t 164)),
 o 166 (.idxA none 1 (.t 162) (ki 0)),
 ⟨none, .store 1 (.t 166) (.t 165), none⟩] [0, 12, 161, 162, 163, 164, 165, 166])
 .skip)))))))
def fe62 : FnE := ⟨167, [], xc62⟩
theorem ok62 : FnOk Tryd.prog 62 fe62 := fnOk_of Tryd.func62 (by kernel_rfl : chkF Tryd.prog hs62 Tryd.f62 = some fe62)
/- 63 internal/strconv.formatBits -/
def hs63 : Hints := [(1, ([], [19, 20, 21, 22, 23, 24, 25, 26, 27])), (2, ([], [28, 29])), (3, ([], [28])), (6, ([], [30, 31, 32])), (7, ([], [30, 33])), (8, ([], [34, 35, 36, 37, 38])), (9, ([], [39, 40])), (10, ([], [2, 41, 42, 43])), (11, ([], [44, 45])), (12, ([], [46, 47, 48])), (13, ([], [49, 50, 51, 52, 53, 54])), (14, ([], [55, 56, 57])), (15, ([], [14, 15, 16, 58, 59])), (16, ([], [1, 60, 61, 62, 63])), (17, ([], [2, 34, 64, 65])), (18, ([], [66, 67])), (19, ([], [68, 69, 70])), (20, ([], [71, 72, 73])), (21, ([], [1, 74, 75, 76, 77, 78, 79, 80, 81])), (22, ([], [18, 82])), (23, ([], [17, 83, 84])), (24, ([], [1, 85, 86, 87, 88])), (25, ([], [3])), (26, ([], [89, 90, 91])), (27, ([], [92, 93])), (28, ([], [4, 89])), (29, ([], [0, 12, 13, 94, 95, 96, 97, 98])), (30, ([], [0, 12, 13, 94, 99, 100, 101]))]
def xc63 : XC :=
 (.seq
 (.reg 64 [
 o 10 (.mv (.c .nils)),
 o 11 (.mv (.c (.str [])))] [])
 (.seq
 (.seq
 (.reg 128 [
 o 19 (.mv (.t 2)),
 o 20 (.bin .lss (.t 19) (ki 2)),
 o 21 (.mv (.t 20)),
 oi 22 21 false (.mv (.t 2)),
 oi 23 21 false (.bin .eql (.t 22) (ki 10)),
 o 24 (.pick (.t 21) (.c (.bool true)) (.t 23)),
 o 25 (.mv (.t 24)),
 oi 26 25 false (.mv (.t 2)),
 oi 27 25 false (.bin .gtr (.t 26) (ki 36)),
 o 28 (.pick (.t 25) (.c (.bool true)) (.t 27))] [19, 20, 21, 22, 23, 24, 25, 26, 27])
 (.cond (.t 28)
 (.reg 192 [
 o 29 (.bad),
 ⟨none, .bad, none⟩] [28, 29])
 .skip))
 (.seq
 (.reg 256 [
 o 12 (.new (.ints .u8 [0, 0, 0, 0, 0, 0, 0, 0, 0, 0, 0, 0, 0, 0, 0, 0, 0, 0, 0, 0, 0, 0, 0, 0, 0, 0, 0, 0, 0, 0, 0, 0, 0, 0, 0, 0, 0, 0, 0, 0, 0, 0, 0, 0, 0, 0, 0, 0, 0, 0, 0, 0, 0, 0, 0, 0, 0, 0, 0, 0, 0, 0, 0, 0, 0]) 65 1)] [28])
 (.seq
 (.reg 320 [
 o 13 (.mv (ki 65))] [])
 (.seq
 (.seq
 (.reg 384 [
 o 30 (.mv (.t 3))] [])
 (.cond (.t 30)
 (.reg 448 [
 o 31 (.mv (.t 1)),
 o 32 (.un .neg (.t 31)),
 o 1 (.mv (.t 32))] [30, 31, 32])
 .skip))
 (.seq
 (.seq
 (.reg 512 [
 o 33 (.mv (.t 2)),
 o 34 (.call 68 [(.t 33)])] [30, 33])
 (.cond (.t 34)
 (.seq
 (.reg 576 [
 o 35 (.mv (.t 2)),
 o 36 (.conv .u64 (.t 35)),
 o 37 (.call 69 [(.t 36)]),
 o 38 (.conv .u64 (.t 37)),
 o 14 (.mv (.t 38))] [34, 35, 36, 37, 38])
 (.seq
 (.reg 640 [
 o 39 (.mv (.t 2)),
 o 40 (.conv .u64 (.t 39)),
 o 15 (.mv (.t 40))] [39, 40])
 (.seq
 (.reg 704 [
 o 41 (.mv (.t 2)),
 o 42 (.conv .u64 (.t 41)),
 o 43 (.bin .sub (.t 42) (.c (.int .u64 1))),
 o 16 (.mv (.t 43))] [2, 41, 42, 43])
 (.seq
 (.block 0
 (.loop
 (.seq
 (.seq
 (.reg 768 [
 o 44 (.mv (.t 1)),
 o 45 (.mv (.t 15)),
 o 46 (.bin .geq (.t 44) (.t 45))] [44, 45])
 (.cond (.t 46)
 .skip
 (.exit 0)))
 (.block 1
 (.seq
 (.reg 832 [
 o 47 (.mv (.t 13)),
 o 48 (.bin .sub (.t 47) (ki 1)),
 o 13 (.mv (.t 48))] [46, 47, 48])
 (.seq
 (.reg 896 [
 o 49 (.mv (.t 13)),
 o 50 (.mv (.t 1)),
 o 51 (.mv (.t 16)),
 o 52 (.bin .and (.t 50) (.t 51)),
 o 53 (.idxs (.c (.str [48, 49, 50, 51, 52, 53, 54, 55, 56, 57, 97, 98, 99, 100, 101, 102, 103, 104, 105, 106, 107, 108, 109, 110, 111, 112, 113, 114, 115, 116, 117, 118, 119, 120, 121, 122])) (.t 52)),
 o 54 (.idxA (some 65) 1 (.t 12) (.t 49)),
 ⟨none, .store 1 (.t 54) (.t 53), none⟩] [49, 50, 51, 52, 53, 54])
 (.reg 960 [
 o 55 (.mv (.t 1)),
 o 56 (.mv (.t 14)),
 o 57 (.bin .shr (.t 55) (.t 56)),
 o 1 (.mv (.t 57))] [55, 56, 57])))))))
 (.seq
 (.reg 1024 [
 o 58 (.mv (.t 13)),
 o 59 (.bin .sub (.t 58) (ki 1)),
 o 13 (.mv (.t 59))] [14, 15, 16, 58, 59])
 (.reg 1088 [
 o 60 (.mv (.t 13)),
 o 61 (.mv (.t 1)),
 o 62 (.idxs (.c (.str [48, 49, 50, 51, 52, 53, 54, 55, 56, 57, 97, 98, 99, 100, 101, 102, 103, 104, 105, 106, 107, 108, 109, 110, 111, 112, 113, 114, 115, 116, 117, 118, 119, 120, 121, 122])) (.t 61)),
 o 63 (.idxA (some 65) 1 (.t 12) (.t 60)),
 ⟨none, .store 1 (.t 63) (.t 62), none⟩] [1, 60, 61, 62, 63]))))))
 (.seq
 (.reg 1152 [
 o 64 (.mv (.t 2)),
 o 65 (.conv .u64 (.t 64)),
 o 17 (.mv (.t 65))] [2, 34, 64, 65])
 (.seq
 (.block 2
 (.loop
 (.seq
 (.seq
 (.reg 1216 [
 o 66 (.mv (.t 1)),
 o 67 (.mv (.t 17)),
 o 68 (.bin .geq (.t 66) (.t 67))] [66, 67])
 (.cond (.t 68)
 .skip
 (.exit 2)))
 (.block 3
 (.seq
 (.reg 1280 [
 o 69 (.mv (.t 13)),
 o 70 (.bin .sub (.t 69) (ki 1)),
 o 13 (.mv (.t 70))] [68, 69, 70])
 (.seq
 (.reg 1344 [
 o 71 (.mv (.t 1)),
 o 72 (.mv (.t 17)),
 o 73 (.bin .quo (.t 71) (.t 72)),
 o 18 (.mv (.t 73))] [71, 72, 73])
 (.seq
 (.reg 1408 [
 o 74 (.mv (.t 13)),
 o 75 (.mv (.t 1)),
 o 76 (.mv (.t 18)),
 o 77 (.mv (.t 17)),
 o 78 (.bin .mul (.t 76) (.t 77)),
 o 79 (.bin .sub (.t 75) (.t 78)),
 o 80 (.idxs (.c (.str [48, 49, 50, 51, 52, 53, 54, 55, 56, 57, 97, 98, 99, 100, 101, 102, 103, 104, 105, 106, 107, 108, 109, 110, 111, 112, 113, 114, 115, 116, 117, 118, 119, 120, 121, 122])) (.t 79)),
 o 81 (.idxA (some 65) 1 (.t 12) (.t 74)),
 ⟨none, .store 1 (.t 81) (.t 80), none⟩] [1, 74, 75, 76, 77, 78, 79, 80, 81])
 (.reg 1472 [
 o 82 (.mv (.t 18)),
 o 1 (.mv (.t 82))] [18, 82]))))))))
 (.seq
 (.reg 1536 [
 o 83 (.mv (.t 13)),
 o 84 (.bin .sub (.t 83) (ki 1)),
 o 13 (.mv (.t 84))] [17, 83, 84])
 (.reg 1600 [
 o 85 (.mv (.t 13)),
 o 86 (.mv (.t 1)),
 o 87 (.idxs (.c (.str [48, 49, 50, 51, 52, 53, 54, 55, 56, 57, 97, 98, 99, 100, 101, 102, 103, 104, 105, 106, 107, 108, 109, 110, 111, 112, 113, 114, 115, 116, 117, 118, 119, 120, 121, 122])) (.t 86)),
 o 88 (.idxA (some 65) 1 (.t 12) (.t 85)),
 ⟨none, .store 1 (.t 88) (.t 87), none⟩] [1, 85, 86, 87, 88]))))))
 (.seq
 (.seq
 (.reg 1664 [
 o 89 (.mv (.t 3))] [3])
 (.cond (.t 89)
 (.seq
 (.reg 1728 [
 o 90 (.mv (.t 13)),
 o 91 (.bin .sub (.t 90) (ki 1)),
 o 13 (.mv (.t 91))] [89, 90, 91])
 (.reg 1792 [
 o 92 (.mv (.t 13)),
 o 93 (.idxA (some 65) 1 (.t 12) (.t 92)),
 ⟨none, .store 1 (.t 93) (ku 45), none⟩] [92, 93]))
 .skip))
 (.seq
 (.seq
 (.reg 1856 [
 o 94 (.mv (.t 4))] [4, 89])
 (.cond (.t 94)
 (.seq
 (.reg 1920 [
 o 95 (.mv (.t 0)),
 o 96 (.mv (.t 13)),
 o 97 (.slicea 65 1 (.t 12) (some (.t 96)) none none),
 o 98 (.append 1 1 5 (.t 95) (.t 97)),
 o 10 (.mv (.t 98))] [0, 12, 13, 94, 95, 96, 97, 98])
 .ret)
 .skip))
 (.seq
 (.reg 1984 [
 o 99 (.mv (.t 13)),
 o 100 (.slicea 65 1 (.t 12) (some (.t 99)) none none),
 o 101 (.bstr (.t 100)),
 o 11 (.mv (.t 101))] [0, 12, 13, 94, 99, 100, 101])
 .ret)))))))))
def fe63 : FnE := ⟨102, [(10, none), (11, none)], xc63⟩
theorem ok63 : FnOk Tryd.prog 63 fe63 := fnOk_of Tryd.func63 (by kernel_rfl : chkF Tryd.prog hs63 Tryd.f63 = some fe63)
/- 64 internal/bytealg.hashStr[string] -/
def hs64 : Hints := [(0, ([], [2, 3])), (3, ([], [9, 10, 11])), (5, ([], [12, 15, 16, 17, 18, 19, 20, 21])), (4, ([], [13, 14])), (6, ([], [5])), (7, ([], [0, 22, 23])), (8, ([], [24])), (10, ([], [25, 28, 29])), (11, ([], [30, 31, 32, 33])), (12, ([], [30, 34, 35, 36])), (9, ([], [26, 27])), (13, ([], [4, 6, 7, 8, 37, 38]))]
def xc64 : XC :=
 (.seq
 (.reg 64 [
 o 2 (.mv (.c (.int .u32 0))),
 o 3 (.mv (.c (.int .u32 0)))] [2, 3])
 (.seq
 (.reg 128 [
 o 4 (.mv (.c (.int .u32 0)))] [])
 (.seq
 (.seq
 (.reg 192 [
 o 5 (.mv (ki 0))] [])
 (.block 0
 (.loop
 (.seq
 (.seq
 (.reg 256 [
 o 9 (.mv (.t 5)),
 o 10 (.mv (.t 0)),
 o 11 (.lens (.t 10)),
 o 12 (.bin .lss (.t 9) (.t 11))] [9, 10, 11])
 (.cond (.t 12)
 .skip
 (.exit 0)))
 (.seq
 (.block 1
 (.reg 384 [
 o 15 (.mv (.t 4)),
 o 16 (.bin .mul (.t 15) (.c (.int .u32 16777619))),
 o 17 (.mv (.t 0)),
 o 18 (.mv (.t 5)),
 o 19 (.idxs (.t 17) (.t 18)),
 o 20 (.conv .u32 (.t 19)),
 o 21 (.bin .add (.t 16) (.t 20)),
 o 4 (.mv (.t 21))] [12, 15, 16, 17, 18, 19, 20, 21]))
 (.reg 320 [
 o 13 (.mv (.t 5)),
 o 14 (.bin .add (.t 13) (ki 1)),
 o 5 (.mv (.t 14))] [13, 14]))))))
 (.seq
 (.reg 448 [
 o 6 (.mv (.c (.int .u32 1))),
 o 7 (.mv (.c (.int .u32 16777619)))] [5])
 (.seq
 (.seq
 (.reg 512 [
 o 22 (.mv (.t 0)),
 o 23 (.lens (.t 22)),
 o 8 (.mv (.t 23))] [0, 22, 23])
 (.block 2
 (.loop
 (.seq
 (.seq
 (.reg 576 [
 o 24 (.mv (.t 8)),
 o 25 (.bin .gtr (.t 24) (ki 0))] [24])
 (.cond (.t 25)
 .skip
 (.exit 2)))
 (.seq
 (.block 3
 (.seq
 (.seq
 (.reg 704 [
 o 28 (.mv (.t 8)),
 o 29 (.bin .and (.t 28) (ki 1)),
 o 30 (.bin .neq (.t 29) (ki 0))] [25, 28, 29])
 (.cond (.t 30)
 (.reg 768 [
 o 31 (.mv (.t 6)),
 o 32 (.mv (.t 7)),
 o 33 (.bin .mul (.t 31) (.t 32)),
 o 6 (.mv (.t 33))] [30, 31, 32, 33])
 .skip))
 (.reg 832 [
 o 34 (.mv (.t 7)),
 o 35 (.mv (.t 7)),
 o 36 (.bin .mul (.t 34) (.t 35)),
 o 7 (.mv (.t 36))] [30, 34, 35, 36])))
 (.reg 640 [
 o 26 (.mv (.t 8)),
 o 27 (.bin .shr (.t 26) (.c (.int .u64 1))),
 o 8 (.mv (.t 27))] [26, 27]))))))
 (.seq
 (.reg 896 [
 o 37 (.mv (.t 4)),
 o 38 (.mv (.t 6)),
 o 2 (.mv (.t 37)),
 o 3 (.mv (.t 38))] [4, 6, 7, 8, 37, 38])
 .ret))))))
def fe64 : FnE := ⟨39, [(2, none), (3, none)], xc64⟩
theorem ok64 : FnOk Tryd.prog 64 fe64 := fnOk_of Tryd.func64 (by kernel_rfl : chkF Tryd.prog hs64 Tryd.f64 = some fe64)
/- 65 internal/strconv.log10Pow2 -/
def hs65 : Hints := [(0, ([], [2])), (1, ([], [0, 3, 4, 5]))]
def xc65 : XC :=
 (.seq
 (.reg 64 [
 o 2 (.mv (ki 0))] [2])
 (.seq
 (.reg 128 [
 o 3 (.mv (.t 0)),
 o 4 (.bin .mul (.t 3) (ki 78913)),
 o 5 (.bin .shr (.t 4) (.c (.int .u64 18))),
 o 2 (.mv (.t 5))] [0, 3, 4, 5])
 .ret))
def fe65 : FnE := ⟨6, [(2, none)], xc65⟩
theorem ok65 : FnOk Tryd.prog 65 fe65 := fnOk_of Tryd.func65 (by kernel_rfl : chkF Tryd.prog hs65 Tryd.f65 = some fe65)
/- 66 math/bits.Len64 -/
def hs66 : Hints := [(1, ([], [3])), (2, ([], [2, 4, 5, 6])), (4, ([], [4, 7])), (5, ([], [8, 9, 10])), (6, ([], [11, 12])), (7, ([], [8, 13])), (8, ([], [14, 15, 16])), (9, ([], [17, 18])), (10, ([], [0, 14, 19, 20, 21, 22, 23, 24]))]
def xc66 : XC :=
 (.seq
 (.reg 64 [
 o 2 (.mv (ki 0))] [])
 (.seq
 (.seq
 (.reg 128 [
 o 3 (.mv (.t 0)),
 o 4 (.bin .geq (.t 3) (.c (.int .u64 4294967296)))] [3])
 (.cond (.t 4)
 (.seq
 (.reg 192 [
 o 5 (.mv (.t 0)),
 o 6 (.bin .shr (.t 5) (.c (.int .u64 32))),
 o 0 (.mv (.t 6))] [2, 4, 5, 6])
 (.reg 256 [
 o 2 (.mv (ki 32))] []))
 .skip))
 (.seq
 (.seq
 (.reg 320 [
 o 7 (.mv (.t 0)),
 o 8 (.bin .geq (.t 7) (.c (.int .u64 65536)))] [4, 7])
 (.cond (.t 8)
 (.seq
 (.reg 384 [
 o 9 (.mv (.t 0)),
 o 10 (.bin .shr (.t 9) (.c (.int .u64 16))),
 o 0 (.mv (.t 10))] [8, 9, 10])
 (.reg 448 [
 o 11 (.mv (.t 2)),
 o 12 (.bin .add (.t 11) (ki 16)),
 o 2 (.mv (.t 12))] [11, 12]))
 .skip))
 (.seq
 (.seq
 (.reg 512 [
 o 13 (.mv (.t 0)),
 o 14 (.bin .geq (.t 13) (.c (.int .u64 256)))] [8, 13])
 (.cond (.t 14)
 (.seq
 (.reg 576 [
 o 15 (.mv (.t 0)),
 o 16 (.bin .shr (.t 15) (.c (.int .u64 8))),
 o 0 (.mv (.t 16))] [14, 15, 16])
 (.reg 640 [
 o 17 (.mv (.t 2)),
 o 18 (.bin .add (.t 17) (ki 8)),
 o 2 (.mv (.t 18))] [17, 18]))
 .skip))
 (.seq
 (.reg 704 [
 o 19 (.mv (.t 2)),
 o 20 (.mv (.t 0)),
 o 21 (.conv .u8 (.t 20)),
 o 22 (.idxs (.c (.str [0, 1, 2, 2, 3, 3, 3, 3, 4, 4, 4, 4, 4, 4, 4, 4, 5, 5, 5, 5, 5, 5, 5, 5, 5, 5, 5, 5, 5, 5, 5, 5, 6, 6, 6, 6, 6, 6, 6, 6, 6, 6, 6, 6, 6, 6, 6, 6, 6, 6, 6, 6, 6, 6, 6, 6, 6, 6, 6, 6, 6, 6, 6, 6, 7, 7, 7, 7, 7, 7, 7, 7, 7, 7, 7, 7, 7, 7, 7, 7, 7, 7, 7, 7, 7, 7, 7, 7, 7, 7, 7, 7, 7, 7, 7, 7, 7, 7, 7, 7, 7, 7, 7, 7, 7, 7, 7, 7, 7, 7, 7, 7, 7, 7, 7, 7, 7, 7, 7, 7, 7, 7, 7, 7, 7, 7, 7, 7, 8, 8, 8, 8, 8, 8, 8, 8, 8, 8, 8, 8, 8, 8, 8, 8, 8, 8, 8, 8, 8, 8, 8, 8, 8, 8, 8, 8, 8, 8, 8, 8, 8, 8, 8, 8, 8, 8, 8, 8, 8, 8, 8, 8, 8, 8, 8, 8, 8, 8, 8, 8, 8, 8, 8, 8, 8, 8, 8, 8, 8, 8, 8, 8, 8, 8, 8, 8, 8, 8, 8, 8, 8, 8, 8, 8, 8, 8, 8, 8, 8, 8, 8, 8, 8, 8, 8, 8, 8, 8, 8, 8, 8, 8, 8, 8, 8, 8, 8, 8, 8, 8, 8, 8, 8, 8, 8, 8, 8, 8, 8, 8, 8, 8, 8, 8, 8, 8, 8, 8, 8, 8, 8, 8, 8, 8, 8, 8])) (.t 21)),
 o 23 (.conv .i64 (.t 22)),
 o 24 (.bin .add (.t 19) (.t 23)),
 o 2 (.mv (.t 24))] [0, 14, 19, 20, 21, 22, 23, 24])
 .ret)))))
def fe66 : FnE := ⟨25, [(2, none)], xc66⟩
theorem ok66 : FnOk Tryd.prog 66 fe66 := fnOk_of Tryd.func66 (by kernel_rfl : chkF Tryd.prog hs66 Tryd.f66 = some fe66)
/- 67 internal/strconv.bool2[int] -/
def hs67 : Hints := [(0, ([], [2])), (1, ([], [0])), (2, ([], [3])), (3, ([], [3]))]
def xc67 : XC :=
 (.seq
 (.reg 64 [
 o 2 (.mv (ki 0))] [2])
 (.seq
 (.seq
 (.reg 128 [
 o 3 (.mv (.t 0))] [0])
 (.cond (.t 3)
 (.seq
 (.reg 192 [
 o 2 (.mv (ki 1))] [3])
 .ret)
 .skip))
 (.seq
 (.reg 256 [
 o 2 (.mv (ki 0))] [3])
 .ret)))
def fe67 : FnE := ⟨4, [(2, none)], xc67⟩
theorem ok67 : FnOk Tryd.prog 67 fe67 := fnOk_of Tryd.func67 (by kernel_rfl : chkF Tryd.prog hs67 Tryd.f67 = some fe67)
/- 68 internal/strconv.isPowerOfTwo -/
def hs68 : Hints := [(0, ([], [2])), (1, ([], [0, 3, 4, 5, 6, 7]))]
def xc68 : XC :=
 (.seq
 (.reg 64 [
 o 2 (.mv (.c (.bool false)))] [2])
 (.seq
 (.reg 128 [
 o 3 (.mv (.t 0)),
 o 4 (.mv (.t 0)),
 o 5 (.bin .sub (.t 4) (ki 1)),
 o 6 (.bin .and (.t 3) (.t 5)),
 o 7 (.bin .eql (.t 6) (ki 0)),
 o 2 (.mv (.t 7))] [0, 3, 4, 5, 6, 7])
 .ret))
def fe68 : FnE := ⟨8, [(2, none)], xc68⟩
theorem ok68 : FnOk Tryd.prog 68 fe68 := fnOk_of Tryd.func68 (by kernel_rfl : chkF Tryd.prog hs68 Tryd.f68 = some fe68)
/- 69 math/bits.TrailingZeros -/
def hs69 : Hints := [(0, ([], [2])), (1, ([], [0, 3, 4, 5])), (2, ([], [0, 6, 7]))]
def xc69 : XC :=
 (.seq
 (.reg 64 [
 o 2 (.mv (ki 0))] [2])
 (.seq
 (.cond (.c (.bool false))
 (.seq
 (.reg 128 [
 o 3 (.mv (.t 0)),
 o 4 (.conv .u32 (.t 3)),
 o 5 (.call 70 [(.t 4)]),
 o 2 (.mv (.t 5))] [0, 3, 4, 5])
 .ret)
 .skip)
 (.seq
 (.reg 192 [
 o 6 (.mv (.t 0)),
 o 7 (.call 71 [(.t 6)]),
 o 2 (.mv (.t 7))] [0, 6, 7])
 .ret)))
def fe69 : FnE := ⟨8, [(2, none)], xc69⟩
theorem ok69 : FnOk Tryd.prog 69 fe69 := fnOk_of Tryd.func69 (by kernel_rfl : chkF Tryd.prog hs69 Tryd.f69 = some fe69)
/- 70 math/bits.TrailingZeros32 -/
def hs70 : Hints := [(0, ([], [2])), (1, ([], [3])), (2, ([], [0, 4])), (3, ([], [0, 4, 5, 6, 7, 8, 9, 10, 11, 12, 13]))]
def xc70 : XC :=
 (.seq
 (.reg 64 [
 o 2 (.mv (ki 0))] [2])
 (.seq
 (.seq
 (.reg 128 [
 o 3 (.mv (.t 0)),
 o 4 (.bin .eql (.t 3) (.c (.int .u32 0)))] [3])
 (.cond (.t 4)
 (.seq
 (.reg 192 [
 o 2 (.mv (ki 32))] [0, 4])
 .ret)
 .skip))
 (.seq
 (.reg 256 [
 o 5 (.mv (.t 0)),
 o 6 (.mv (.t 0)),
 o 7 (.un .neg (.t 6)),
 o 8 (.bin .and (.t 5) (.t 7)),
 o 9 (.bin .mul (.t 8) (.c (.int .u32 125613361))),
 o 10 (.bin .shr (.t 9) (.c (.int .u64 27))),
 o 11 (.idxA (some 32) 1 (.g 2) (.t 10)),
 o 12 (.load none (.t 11)),
 o 13 (.conv .i64 (.t 12)),
 o 2 (.mv (.t 13))] [0, 4, 5, 6, 7, 8, 9, 10, 11, 12, 13])
 .ret)))
def fe70 : FnE := ⟨14, [(2, none)], xc70⟩
theorem ok70 : FnOk Tryd.prog 70 fe70 := fnOk_of Tryd.func70 (by kernel_rfl : chkF Tryd.prog hs70 Tryd.f70 = some fe70)
/- 71 math/bits.TrailingZeros64 -/
def hs71 : Hints := [(0, ([], [2])), (1, ([], [3])), (2, ([], [0, 4])), (3, ([], [0, 4, 5, 6, 7, 8, 9, 10, 11, 12, 13]))]
def xc71 : XC :=
 (.seq
 (.reg 64 [
 o 2 (.mv (ki 0))] [2])
 (.seq
 (.seq
 (.reg 128 [
 o 3 (.mv (.t 0)),
 o 4 (.bin .eql (.t 3) (.c (.int .u64 0)))] [3])
 (.cond (.t 4)
 (.seq
 (.reg 192 [
 o 2 (.mv (ki 64))] [0, 4])
 .ret)
 .skip))
 (.seq
 (.reg 256 [
 o 5 (.mv (.t 0)),
 o 6 (.mv (.t 0)),
 o 7 (.un .neg (.t 6)),
 o 8 (.bin .and (.t 5) (.t 7)),
 o 9 (.bin .mul (.t 8) (.c (.int .u64 285870213051353865))),
 o 10 (.bin .shr (.t 9) (.c (.int .u64 58))),
 o 11 (.idxA (some 64) 1 (.g 3) (.t 10)),
 o 12 (.load none (.t 11)),
 o 13 (.conv .i64 (.t 12)),
 o 2 (.mv (.t 13))] [0, 4, 5, 6, 7, 8, 9, 10, 11, 12, 13])
 .ret)))
def fe71 : FnE := ⟨14, [(2, none)], xc71⟩
theorem ok71 : FnOk Tryd.prog 71 fe71 := fnOk_of Tryd.func71 (by kernel_rfl : chkF Tryd.prog hs71 Tryd.f71 = some fe71)
def xpl : List (Nat × FnE) := [(3, fe3), (4, fe4), (5, fe5), (6, fe6), (7, fe7), (8, fe8), (9, fe9), (10, fe10), (11, fe11), (12, fe12), (13, fe13), (14, fe14), (15, fe15), (16, fe16), (17, fe17), (18, fe18), (19, fe19), (20, fe20), (21, fe21), (22, fe22), (23, fe23), (24, fe24), (25, fe25), (26, fe26), (27, fe27), (28, fe28), (29, fe29), (30, fe30), (31, fe31), (32, fe32), (33, fe33), (34, fe34), (35, fe35), (36, fe36), (37, fe37), (38, fe38), (39, fe39), (40, fe40), (41, fe41), (42, fe42), (43, fe43), (44, fe44), (45, fe45), (46, fe46), (47, fe47), (48, fe48), (49, fe49), (50, fe50), (51, fe51), (53, fe53), (54, fe54), (55, fe55), (56, fe56), (57, fe57), (59, fe59), (60, fe60), (61, fe61), (62, fe62), (63, fe63), (64, fe64), (65, fe65), (66, fe66), (67, fe67), (68, fe68), (69, fe69), (70, fe70), (71, fe71)]
theorem xpOk : XpOk Tryd.prog (aget xpl) := xpOk_of (l := xpl) ⟨ok3, ok4, ok5, ok6, ok7, ok8, ok9, ok10, ok11, ok12, ok13, ok14, ok15, ok16, ok17, ok18, ok19, ok20, ok21, ok22, ok23, ok24, ok25, ok26, ok27, ok28, ok29, ok30, ok31, ok32, ok33, ok34, ok35, ok36, ok37, ok38, ok39, ok40, ok41, ok42, ok43, ok44, ok45, ok46, ok47, ok48, ok49, ok50, ok51, ok53, ok54, ok55, ok56, ok57, ok59, ok60, ok61, ok62, ok63, ok64, ok65, ok66, ok67, ok68, ok69, ok70, ok71, trivial⟩
end Go.Proofs.YtpkmnabefnhcfaaDoor.X
