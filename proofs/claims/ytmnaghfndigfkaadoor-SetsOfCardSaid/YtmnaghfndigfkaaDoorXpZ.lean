/-
 The functions of the translation, with types resolved (made by a program).
-/
import Derived.Test.YtmnaghfndigfkaaDoorProg
import Derived.Test.YtmnaghfndigfkaaDoorAb6
import Derived.KernelRfl
set_option linter.unusedVariables false
set_option maxRecDepth 1000000
namespace Go.Proofs.YtmnaghfndigfkaaDoor.X
open Go Go.Ab

abbrev z (n : Nat) (l : List Nat) : Nat × (List Nat × List Nat) := (n, ([], l))
noncomputable def cdOf : Option FnE → XC
 | some f => f.xc
 | none => .skip

/- 14 crimp/crimplaw04.SetsOf -/
def hs14 : Hints := [z 0 [1,4],z 1 [9,10],z 2 [0,3,11],z 3 [4,11,13,14,12,15,16],(4,([0,1,2,3,4,5,6,7,8,9,10,11,12,13,14],[3,17,18,19,20,21,22,23,24,25,26,27,28,29,30])),z 5 [0,5,6,31],z 6 [4,31],z 7 [32,33,34],z 9 [35,38,39,40,41,42],z 10 [52,49,48,47,5,6,7,0,89,86,77,85,84,82,83,80,81,79,78,75,76,72,70,71,67,66,65,62,61,59,60,43,44,45,46,50,51,53],z 8 [4,43,36,37],z 11 [7,54,55],(12,([0,1,2,3,4,5,6,7,8,9,10,11,12,13,14,15,16,17,18,19,20,21,22,23,24,25,26,27,28,29,30,31,32,33,34,35],[0,5,6,89,86,77,85,84,82,83,80,81,79,78,75,76,72,70,71,67,66,65,62,61,59,60,8,56,57,58,63,64,68,69,73,74,87,88,90]))]
noncomputable def xc14 : XC := cdOf (chkF Tryd.prog hs14 Tryd.f14)
noncomputable def fe14 : FnE := ⟨91, [(4, none)], xc14⟩
theorem ok14 : FnOk Tryd.prog 14 fe14 := fnOk_of Tryd.func14 (by kernel_rfl : chkF Tryd.prog hs14 Tryd.f14 = some fe14)
/- 32 crimp/sets.Union -/
def hs32 : Hints := [z 0 [4,5],z 1 [0,1,6,7,8,9,10]]
noncomputable def xc32 : XC := cdOf (chkF Tryd.prog hs32 Tryd.f32)
noncomputable def fe32 : FnE := ⟨11, [(4, none), (5, none)], xc32⟩
theorem ok32 : FnOk Tryd.prog 32 fe32 := fnOk_of Tryd.func32 (by kernel_rfl : chkF Tryd.prog hs32 Tryd.f32 = some fe32)
/- 33 crimp/sets.Common -/
def hs33 : Hints := [z 0 [4,5],z 1 [0,1,6,7,8,9,10]]
noncomputable def xc33 : XC := cdOf (chkF Tryd.prog hs33 Tryd.f33)
noncomputable def fe33 : FnE := ⟨11, [(4, none), (5, none)], xc33⟩
theorem ok33 : FnOk Tryd.prog 33 fe33 := fnOk_of Tryd.func33 (by kernel_rfl : chkF Tryd.prog hs33 Tryd.f33 = some fe33)
/- 34 crimp/sets.Minus -/
def hs34 : Hints := [z 0 [4,5],z 1 [0,1,6,7,8,9,10]]
noncomputable def xc34 : XC := cdOf (chkF Tryd.prog hs34 Tryd.f34)
noncomputable def fe34 : FnE := ⟨11, [(4, none), (5, none)], xc34⟩
theorem ok34 : FnOk Tryd.prog 34 fe34 := fnOk_of Tryd.func34 (by kernel_rfl : chkF Tryd.prog hs34 Tryd.f34 = some fe34)
/- 35 crimp/crimplaw04.same -/
def hs35 : Hints := [z 0 [4],z 1 [6,7,8,9,10,11,12,13,14,15,16],z 2 [0,1,17],z 3 [4,17],z 4 [18,19,20],(6,([0,1,2,3,4,5,6,7,8],[21,24,25,26,27,28,29,30,31])),z 7 [5,1,0,32],z 5 [4,32,22,23],z 8 [0,1,5]]
noncomputable def xc35 : XC := cdOf (chkF Tryd.prog hs35 Tryd.f35)
noncomputable def fe35 : FnE := ⟨33, [(4, none)], xc35⟩
theorem ok35 : FnOk Tryd.prog 35 fe35 := fnOk_of Tryd.func35 (by kernel_rfl : chkF Tryd.prog hs35 Tryd.f35 = some fe35)
/- 37 crimp/crimplaw04.lives -/
def hs37 : Hints := [z 0 [0],z 1 [25,26,27,28,29],z 2 [30,31,32,33],z 3 [35,36,37,34,38,39],z 4 [41,42,43,40,44,45],z 5 [47,48,49,46,50,51],(6,([0,1,2,3,4,5,6,7,8,9,10,11,12,13,14,15,16,17,18,19,20,21,22,23,24,25,26,27,28,29,30,31,32,33,34,35,36,37,38,39,40,41,42,43,44,45,46,47,48,49,50,51,52,53,54,55],[3,4,5,6,7,8,52,53,54,55,56,57,58,59,60,61,62,63,64,65,66,67,68,69,70,71,72,73,74,75,76,77,78,79,80,81,82,83,84,85,86,87,88,89,90,91,92,93,94,95,96,97,98,99,100,101,102,103,104,105,106])),z 7 [1,2,107],z 8 [0,107,109,110,108,111,112,10],z 9 [114,115,113,116,117,12],z 10 [119,120,118,121,122,14],z 11 [124,125,123,126,127,16],(12,([0,1,2,3,4,5,6,7,8,9,10,11,12,13,14,15,16,17,18,19,20,21],[128,129,130,131,132,133,134,135,136,137,138,139,140,141,142,143,144,145,146,147,148])),z 13 [9,11,13,149,150,151,152,153,154,155,156,157,158,159,160,161,162,163,164,165,166],z 14 [1,2,15,17,167],z 15 [0,167],z 16 [168],(18,([0,1,2,3,4,5,6,7,8],[169,172,173,174,175,176,177,178,179])),z 19 [18,17,15,223,222,221,217,220,219,218,1,216,215,212,211,206,210,207,208,209,203,202,2,180],z 17 [0,180,170,171],z 20 [15,17,18,182,183,181,184,185,20],z 21 [187,188,189,190,186,191,192,22],z 22 [2,194,195,196,193,197,198,24],(23,([0,1,2,3,4,5,6,7,8,9,10,11,12,13,14,15,16,17,18,19,20,21,22,23,24,25,26],[1,223,222,221,217,220,219,218,216,215,212,211,206,210,207,208,209,203,202,19,21,23,199,200,201,204,205,213,214,224]))]
noncomputable def xc37 : XC := cdOf (chkF Tryd.prog hs37 Tryd.f37)
noncomputable def fe37 : FnE := ⟨225, [(0, none)], xc37⟩
theorem ok37 : FnOk Tryd.prog 37 fe37 := fnOk_of Tryd.func37 (by kernel_rfl : chkF Tryd.prog hs37 Tryd.f37 = some fe37)
/- 38 crimp/sets.Move -/
def hs38 : Hints := [z 0 [0,4,5],z 1 [12,13],z 2 [1,2,14],z 3 [4,5,14,15,16],z 4 [17],z 5 [1,2,6,18,19],z 6 [4,5,6,18,20,21,22],z 7 [1],z 9 [26,27,28,29],z 10 [9,31,32,33,30,34,35],z 11 [36],z 12 [25,7,2,23,24,8,10,11,37,38],z 13 [4,5,8,10,11,37,39,40,41,42],z 14 [43],z 15 [2,23,24,25,44,45],z 16 [7,46]]
noncomputable def xc38 : XC := cdOf (chkF Tryd.prog hs38 Tryd.f38)
noncomputable def fe38 : FnE := ⟨47, [(4, none), (5, none)], xc38⟩
theorem ok38 : FnOk Tryd.prog 38 fe38 := fnOk_of Tryd.func38 (by kernel_rfl : chkF Tryd.prog hs38 Tryd.f38 = some fe38)
/- 41 crimp/crimpref03.Valid -/
def hs41 : Hints := [z 0 [0,2],z 1 [1,3,4,5,6,7,8,9,10,11,12,13,14,15,16,17,18,19,20,21,22,23,24],z 2 [25],z 3 [25]]
noncomputable def xc41 : XC := cdOf (chkF Tryd.prog hs41 Tryd.f41)
noncomputable def fe41 : FnE := ⟨26, [(2, none)], xc41⟩
theorem ok41 : FnOk Tryd.prog 41 fe41 := fnOk_of Tryd.func41 (by kernel_rfl : chkF Tryd.prog hs41 Tryd.f41 = some fe41)
/- 42 crimp/sets.Connected -/
def hs42 : Hints := [z 0 [2,3],z 1 [11,12],z 2 [13],z 3 [0,4,14,15],z 4 [2,3,4,14,16,17],z 5 [0,18],z 6 [2,3,18,19,20],z 7 [21,22,23,24],z 8 [0,25,26,27,28],z 9 [29,30],z 10 [31,32,33,34,35,36,37],z 11 [38,39,40,41,42],z 14 [44,45],z 15 [8,47,48,49,46,50,51],z 16 [10,52,53,54],z 17 [58,59,60],z 18 [9,61,62,63,64],z 19 [9,58,65],z 20 [5,6,66,67,68]]
noncomputable def xc42 : XC := cdOf (chkF Tryd.prog hs42 Tryd.f42)
noncomputable def fe42 : FnE := ⟨69, [(2, none), (3, none)], xc42⟩
theorem ok42 : FnOk Tryd.prog 42 fe42 := fnOk_of Tryd.func42 (by kernel_rfl : chkF Tryd.prog hs42 Tryd.f42 = some fe42)
/- 43 crimp/sets.Outline -/
def hs43 : Hints := [z 0 [2,3],z 1 [12,13],z 2 [14],z 3 [0,4,15,16],z 4 [2,3,4,15,17,18],z 6 [0],z 8 [22,23,24],z 11 [26,27],z 12 [29,30,31,28,32,33],z 13 [10,11,34,35,36],z 14 [9,41,42,43,44,45,46,47],z 15 [9,41,48],z 16 [8,25,49],z 17 [5,6,19,20,21,50,51]]
noncomputable def xc43 : XC := cdOf (chkF Tryd.prog hs43 Tryd.f43)
noncomputable def fe43 : FnE := ⟨52, [(2, none), (3, none)], xc43⟩
theorem ok43 : FnOk Tryd.prog 43 fe43 := fnOk_of Tryd.func43 (by kernel_rfl : chkF Tryd.prog hs43 Tryd.f43 = some fe43)
/- 44 crimp/sets.Squares -/
def hs44 : Hints := [z 0 [2,3],z 1 [8,9],z 2 [10],z 3 [0,4,11,12],z 4 [2,3,4,11],z 7 [16,17,18,19],(8,([0,1,2,3,4,5,6,7,8,9,10,11,12,13,14,15,16,17,18,19,20,21,22],[6,20,21,22,23,29,30])),z 9 [7,42,43,44,45,46],z 10 [7,42,47],z 11 [0,5,13,14,15,48,49]]
noncomputable def xc44 : XC := cdOf (chkF Tryd.prog hs44 Tryd.f44)
noncomputable def fe44 : FnE := ⟨50, [(2, none), (3, none)], xc44⟩
theorem ok44 : FnOk Tryd.prog 44 fe44 := fnOk_of Tryd.func44 (by kernel_rfl : chkF Tryd.prog hs44 Tryd.f44 = some fe44)
/- 47 crimp/crimpref04.Has -/
def hs47 : Hints := [z 0 [1,4],z 2 [6,7,8],(4,([0,1,2,3,4,5],[9,12,13,14,15,16])),z 5 [5,3,0,17],z 3 [4,17,10,11],z 6 [0,3,5]]
noncomputable def xc47 : XC := cdOf (chkF Tryd.prog hs47 Tryd.f47)
noncomputable def fe47 : FnE := ⟨18, [(4, none)], xc47⟩
theorem ok47 : FnOk Tryd.prog 47 fe47 := fnOk_of Tryd.func47 (by kernel_rfl : chkF Tryd.prog hs47 Tryd.f47 = some fe47)
/- 48 crimp/crimplaw04.cell -/
def hs48 : Hints := [z 1 [0,1,2,7,8,9,10]]
noncomputable def xc48 : XC := cdOf (chkF Tryd.prog hs48 Tryd.f48)
noncomputable def fe48 : FnE := ⟨11, [(6, some (some 3))], xc48⟩
theorem ok48 : FnOk Tryd.prog 48 fe48 := fnOk_of Tryd.func48 (by kernel_rfl : chkF Tryd.prog hs48 Tryd.f48 = some fe48)
/- 49 crimp/sets.Text -/
def hs49 : Hints := [z 0 [2,3],z 1 [15,16],z 2 [17],z 3 [0,4,18,19],z 4 [2,3,4,18,20,21],z 5 [0,22],(6,([0,1,2,3,4,5,6,7,8,9],[2,3,22,23,24,25,26,27,28,29,30])),z 9 [34,35,36],(10,([0,1,2,3,4,5,6,7,8,9],[8,37,38,39,40,41,42,43,44])),z 11 [45],(12,([0,1,2,3,4,5,6,7,8,9,10,11,12],[31,32,33,46,47,48,49,50,51,52,53,54,55,56])),z 13 [57,58,59,60,61,62,63,64,65,66,67],z 14 [0,5,6,9,10,68],z 15 [2,3,6,68,69,70,71,72,73,74],z 16 [9,75,76,77,78,79,80,81],z 17 [0],z 19 [85,86,87],(20,([0,1,2,3,4,5,6,7,8,9,10,11,12,13,14,15,16,17,18,19,20,21,22,23],[14,88,89,90,91,92,93,94,95,96,97,98,99,100,101,102,103,104,105,106,107,108,109,110])),z 21 [111],z 22 [5,10,11,12,82,83,84,112,113]]
noncomputable def xc49 : XC := cdOf (chkF Tryd.prog hs49 Tryd.f49)
noncomputable def fe49 : FnE := ⟨114, [(2, none), (3, none)], xc49⟩
theorem ok49 : FnOk Tryd.prog 49 fe49 := fnOk_of Tryd.func49 (by kernel_rfl : chkF Tryd.prog hs49 Tryd.f49 = some fe49)
/- 52 crimp/crimpref04.Check -/
def hs52 : Hints := [z 0 [2],z 1 [5,6],z 2 [0,7],z 3 [2,7],z 4 [8,9,10],z 6 [11,14,15,16,17,18],z 7 [3,0,19],z 5 [2,19,12,13],z 8 [3],z 9 [20,21,22],(11,([0,1,2,3,4,5,6,7,8,9,10],[23,26,27,28,29,30,31,32,33,34,35])),z 12 [4,0,36],z 10 [2,36,24,25],z 13 [0,4]]
noncomputable def xc52 : XC := cdOf (chkF Tryd.prog hs52 Tryd.f52)
noncomputable def fe52 : FnE := ⟨37, [(2, none)], xc52⟩
theorem ok52 : FnOk Tryd.prog 52 fe52 := fnOk_of Tryd.func52 (by kernel_rfl : chkF Tryd.prog hs52 Tryd.f52 = some fe52)
/- 55 crimp/moves.Check -/
def hs55 : Hints := [z 0 [0,2],z 1 [1,3,4,5,6,7,8,9,10,11,12,13,14,15,16,17,18,19,20,21,22,23,24],z 2 [25],z 3 [25]]
noncomputable def xc55 : XC := cdOf (chkF Tryd.prog hs55 Tryd.f55)
noncomputable def fe55 : FnE := ⟨26, [(2, none)], xc55⟩
theorem ok55 : FnOk Tryd.prog 55 fe55 := fnOk_of Tryd.func55 (by kernel_rfl : chkF Tryd.prog hs55 Tryd.f55 = some fe55)
/- 59 crimp/sets.Of -/
def hs59 : Hints := [z 0 [2,3],z 1 [5],z 2 [0,6],z 3 [2,3,0,6,7,8],z 4 [9,10],z 5 [11,12],z 6 [13,14],z 7 [4,15],z 8 [4,15,16,17]]
noncomputable def xc59 : XC := cdOf (chkF Tryd.prog hs59 Tryd.f59)
noncomputable def fe59 : FnE := ⟨18, [(2, none), (3, none)], xc59⟩
theorem ok59 : FnOk Tryd.prog 59 fe59 := fnOk_of Tryd.func59 (by kernel_rfl : chkF Tryd.prog hs59 Tryd.f59 = some fe59)
/- 60 crimp/sets.Has -/
def hs60 : Hints := [z 0 [1,4],z 1 [0,3,5,6,7]]
noncomputable def xc60 : XC := cdOf (chkF Tryd.prog hs60 Tryd.f60)
noncomputable def fe60 : FnE := ⟨8, [(4, none)], xc60⟩
theorem ok60 : FnOk Tryd.prog 60 fe60 := fnOk_of Tryd.func60 (by kernel_rfl : chkF Tryd.prog hs60 Tryd.f60 = some fe60)
/- 61 crimp/sets.Check -/
def hs61 : Hints := [z 0 [2],z 1 [5,6,7],z 2 [0,4],z 3 [4,9,10],z 4 [0,8],z 5 [2,8],z 6 [11,12,13],(8,([0,1,2,3,4,5,6,7,8,9,10],[14,17,18,19,20,21,22,23,24,25,26])),z 9 [3,0,27],z 7 [2,27,15,16],z 10 [0,3]]
noncomputable def xc61 : XC := cdOf (chkF Tryd.prog hs61 Tryd.f61)
noncomputable def fe61 : FnE := ⟨28, [(2, none)], xc61⟩
theorem ok61 : FnOk Tryd.prog 61 fe61 := fnOk_of Tryd.func61 (by kernel_rfl : chkF Tryd.prog hs61 Tryd.f61 = some fe61)
/- 62 crimp/crimpref04.Of -/
def hs62 : Hints := [z 0 [2],z 3 [5,6,7],z 5 [8,11,12,13,14,15,16],z 4 [9,10],z 6 [0,3,4,17]]
noncomputable def xc62 : XC := cdOf (chkF Tryd.prog hs62 Tryd.f62)
noncomputable def fe62 : FnE := ⟨18, [(2, none)], xc62⟩
theorem ok62 : FnOk Tryd.prog 62 fe62 := fnOk_of Tryd.func62 (by kernel_rfl : chkF Tryd.prog hs62 Tryd.f62 = some fe62)
/- 63 crimp/sets.Same -/
def hs63 : Hints := [z 0 [4],z 1 [0,1,5,6,7]]
noncomputable def xc63 : XC := cdOf (chkF Tryd.prog hs63 Tryd.f63)
noncomputable def fe63 : FnE := ⟨8, [(4, none)], xc63⟩
theorem ok63 : FnOk Tryd.prog 63 fe63 := fnOk_of Tryd.func63 (by kernel_rfl : chkF Tryd.prog hs63 Tryd.f63 = some fe63)
/- 79 crimp/cells.Compare -/
def hs79 : Hints := [z 0 [0,1,4],z 1 [2,3,5,6,7,8,9,10,11,12,13,14,15,16,17,18,19,20,21,22,23]]
noncomputable def xc79 : XC := cdOf (chkF Tryd.prog hs79 Tryd.f79)
noncomputable def fe79 : FnE := ⟨24, [(4, none)], xc79⟩
theorem ok79 : FnOk Tryd.prog 79 fe79 := fnOk_of Tryd.func79 (by kernel_rfl : chkF Tryd.prog hs79 Tryd.f79 = some fe79)
/- 86 crimp/cells.Check -/
def hs86 : Hints := [z 0 [0,2],z 1 [1,3,4,5,6,7,8,9,10,11,12,13,14,15,16,17,18,19,20,21,22,23,24],z 2 [25],z 3 [25]]
noncomputable def xc86 : XC := cdOf (chkF Tryd.prog hs86 Tryd.f86)
noncomputable def fe86 : FnE := ⟨26, [(2, none)], xc86⟩
theorem ok86 : FnOk Tryd.prog 86 fe86 := fnOk_of Tryd.func86 (by kernel_rfl : chkF Tryd.prog hs86 Tryd.f86 = some fe86)
/- 88 crimp/sets.chosen -/
def hs88 : Hints := [z 0 [2,6,7],z 1 [12,13,14],z 2 [15],z 3 [0,1,5,8,16,17],z 4 [6,7,8,16],z 5 [0,1,18,19],z 6 [20,21],z 7 [22],z 8 [5,11,23,24],z 9 [10,25,26,27,28,29],z 10 [5,20,30,31],z 11 [9,32],z 12 [9,32,33,34]]
noncomputable def xc88 : XC := cdOf (chkF Tryd.prog hs88 Tryd.f88)
noncomputable def fe88 : FnE := ⟨35, [(6, none), (7, none)], xc88⟩
theorem ok88 : FnOk Tryd.prog 88 fe88 := fnOk_of Tryd.func88 (by kernel_rfl : chkF Tryd.prog hs88 Tryd.f88 = some fe88)
/- 89 crimp/sets.Union$1 -/
def hs89 : Hints := [z 0 [0,1,2]]
noncomputable def xc89 : XC := cdOf (chkF Tryd.prog hs89 Tryd.f89)
noncomputable def fe89 : FnE := ⟨3, [(2, none)], xc89⟩
theorem ok89 : FnOk Tryd.prog 89 fe89 := fnOk_of Tryd.func89 (by kernel_rfl : chkF Tryd.prog hs89 Tryd.f89 = some fe89)
/- 90 crimp/sets.Common$1 -/
def hs90 : Hints := [z 0 [0,2],z 1 [1,3,4,5,6,7,8]]
noncomputable def xc90 : XC := cdOf (chkF Tryd.prog hs90 Tryd.f90)
noncomputable def fe90 : FnE := ⟨9, [(2, none)], xc90⟩
theorem ok90 : FnOk Tryd.prog 90 fe90 := fnOk_of Tryd.func90 (by kernel_rfl : chkF Tryd.prog hs90 Tryd.f90 = some fe90)
/- 91 crimp/sets.Minus$1 -/
def hs91 : Hints := [z 0 [0,2],z 1 [1,3,4,5,6,7,8,9]]
noncomputable def xc91 : XC := cdOf (chkF Tryd.prog hs91 Tryd.f91)
noncomputable def fe91 : FnE := ⟨10, [(2, none)], xc91⟩
theorem ok91 : FnOk Tryd.prog 91 fe91 := fnOk_of Tryd.func91 (by kernel_rfl : chkF Tryd.prog hs91 Tryd.f91 = some fe91)
/- 92 crimp/crimpref04.Add -/
def hs92 : Hints := [z 0 [1,4],z 1 [8,9,10],z 2 [0,3,11,12],z 3 [4,11],z 6 [13,14,15],(8,([0,1,2,3,4,5,6,7,8,9,10],[16,19,20,21])),z 9 [6,29,30,31,32,33],z 11 [29,34,35,36,37,38,39,40],z 7 [17,18],z 12 [0,6,7,41],z 13 [3,42,43,44,45,46],z 14 [5,3,42,47]]
noncomputable def xc92 : XC := cdOf (chkF Tryd.prog hs92 Tryd.f92)
noncomputable def fe92 : FnE := ⟨48, [(4, none)], xc92⟩
theorem ok92 : FnOk Tryd.prog 92 fe92 := fnOk_of Tryd.func92 (by kernel_rfl : chkF Tryd.prog hs92 Tryd.f92 = some fe92)
/- 93 crimp/cells.Move -/
def hs93 : Hints := [z 0 [0,1,5],z 1 [7,8,9,10,11,12,13],z 2 [2,3,14,15],z 3 [5,2,3,14,16,17,18],z 4 [19,20],z 5 [6,21,22],z 6 [6,21,23]]
noncomputable def xc93 : XC := cdOf (chkF Tryd.prog hs93 Tryd.f93)
noncomputable def fe93 : FnE := ⟨24, [(4, some (some 3)), (5, none)], xc93⟩
theorem ok93 : FnOk Tryd.prog 93 fe93 := fnOk_of Tryd.func93 (by kernel_rfl : chkF Tryd.prog hs93 Tryd.f93 = some fe93)
/- 94 slices.SortFunc[[]crimp/api.Cell,crimp/api.Cell] -/
def hs94 : Hints := [z 0 [5,6],z 1 [0,1,4,7,8,9,10,11,12,13]]
noncomputable def xc94 : XC := cdOf (chkF Tryd.prog hs94 Tryd.f94)
noncomputable def fe94 : FnE := ⟨14, [], xc94⟩
theorem ok94 : FnOk Tryd.prog 94 fe94 := fnOk_of Tryd.func94 (by kernel_rfl : chkF Tryd.prog hs94 Tryd.f94 = some fe94)
/- 96 crimp/sets.members -/
def hs96 : Hints := [z 0 [2],z 1 [6,7,8],z 2 [0],z 4 [12,13,14],z 5 [5,15,16],z 6 [17],z 7 [3,9,10,11,18]]
noncomputable def xc96 : XC := cdOf (chkF Tryd.prog hs96 Tryd.f96)
noncomputable def fe96 : FnE := ⟨19, [(2, none)], xc96⟩
theorem ok96 : FnOk Tryd.prog 96 fe96 := fnOk_of Tryd.func96 (by kernel_rfl : chkF Tryd.prog hs96 Tryd.f96 = some fe96)
/- 97 crimp/cells.Neighbour -/
def hs97 : Hints := [z 0 [0,5],z 1 [7,8,9,10,11,12],z 2 [1,2,13,14],z 3 [5,1,13,15,16,17,18,19,20,21],(4,([0,1,2,3,4,5,6,7,8,9,10,11,12,13],[2,22,23,24,25,26,27,28,29,30,31,32,33])),z 5 [34,35],z 6 [6,36,37],z 7 [6,36,38]]
noncomputable def xc97 : XC := cdOf (chkF Tryd.prog hs97 Tryd.f97)
noncomputable def fe97 : FnE := ⟨39, [(4, some (some 3)), (5, none)], xc97⟩
theorem ok97 : FnOk Tryd.prog 97 fe97 := fnOk_of Tryd.func97 (by kernel_rfl : chkF Tryd.prog hs97 Tryd.f97 = some fe97)
/- 98 slices.Clip[[]crimp/sets.Edge,crimp/sets.Edge] -/
def hs98 : Hints := [z 0 [2],z 1 [0,3,4,5,6,7,8]]
noncomputable def xc98 : XC := cdOf (chkF Tryd.prog hs98 Tryd.f98)
noncomputable def fe98 : FnE := ⟨9, [(2, none)], xc98⟩
theorem ok98 : FnOk Tryd.prog 98 fe98 := fnOk_of Tryd.func98 (by kernel_rfl : chkF Tryd.prog hs98 Tryd.f98 = some fe98)
/- 99 slices.Clip[[]crimp/api.Cell,crimp/api.Cell] -/
def hs99 : Hints := [z 0 [2],z 1 [0,3,4,5,6,7,8]]
noncomputable def xc99 : XC := cdOf (chkF Tryd.prog hs99 Tryd.f99)
noncomputable def fe99 : FnE := ⟨9, [(2, none)], xc99⟩
theorem ok99 : FnOk Tryd.prog 99 fe99 := fnOk_of Tryd.func99 (by kernel_rfl : chkF Tryd.prog hs99 Tryd.f99 = some fe99)
/- 101 strings.Repeat -/
def hs101 : Hints := [z 0 [4],z 2 [13],z 3 [0,1,11,12],z 4 [11,12,15],z 5 [0,1,14,16],z 6 [4,14,17],z 7 [18,19],z 8 [1,18,21,22,23,24,25,26,20,27,28],z 9 [33,32,5,29,30,31],z 10 [34,35],z 11 [6,34,36,37],z 12 [38,39],z 13 [0,90,89,81,80,72,71,63,62,54,53,7,40],z 14 [4,40,41],z 15 [44],z 16 [45],z 17 [46],z 18 [47],z 19 [42,48],z 20 [54,53,42,43,50,51,52,55],z 21 [0,90,89,81,80,72,71,63,62,7,49,56,57],z 22 [63,62,49,59,60,61,64],z 23 [0,90,89,81,80,72,71,7,58,65,66],z 24 [72,71,58,68,69,70,73],z 25 [0,90,89,81,80,7,67,74,75],z 26 [81,80,67,77,78,79,82],z 27 [0,90,89,7,76,83,84],z 28 [90,89,76,86,87,88,91],z 29 [0,7,85,92,93],z 30 [4,85,90,89,81,80,72,71,63,62,54,53,42,43,94],z 31 [95],z 32 [96,97,98,99,100,101,102],z 33 [103],z 34 [104,105,106],z 35 [104,96],z 36 [107,108],z 37 [0,109,110],z 38 [111,112],z 39 [113,114,115,116,117,118,119],z 40 [10,120,121,122,123],z 41 [7,8,9,124]]
noncomputable def xc101 : XC := cdOf (chkF Tryd.prog hs101 Tryd.f101)
noncomputable def fe101 : FnE := ⟨125, [(4, none)], xc101⟩
theorem ok101 : FnOk Tryd.prog 101 fe101 := fnOk_of Tryd.func101 (by kernel_rfl : chkF Tryd.prog hs101 Tryd.f101 = some fe101)
/- 103 crimp/crimpref03.Less -/
def hs103 : Hints := [z 0 [0,1,4],z 1 [2,3,5,6,7,8,9,10,11,12,13,14,15,16,17,18,19,20,21,22,23,24,25,26,27,28,29,30,31,32,33,34,35,36],z 2 [37],z 3 [37]]
noncomputable def xc103 : XC := cdOf (chkF Tryd.prog hs103 Tryd.f103)
noncomputable def fe103 : FnE := ⟨38, [(4, none)], xc103⟩
theorem ok103 : FnOk Tryd.prog 103 fe103 := fnOk_of Tryd.func103 (by kernel_rfl : chkF Tryd.prog hs103 Tryd.f103 = some fe103)
/- 108 crimp/moves.beyond -/
def hs108 : Hints := [z 0 [2],z 1 [0,3,4,5,6,7,8]]
noncomputable def xc108 : XC := cdOf (chkF Tryd.prog hs108 Tryd.f108)
noncomputable def fe108 : FnE := ⟨9, [(2, none)], xc108⟩
theorem ok108 : FnOk Tryd.prog 108 fe108 := fnOk_of Tryd.func108 (by kernel_rfl : chkF Tryd.prog hs108 Tryd.f108 = some fe108)
/- 112 (crimp/moves.matrix).of -/
def hs112 : Hints := [z 0 [0,6,7],(1,([0,1,2,3,4,5,6,7,8,9,10,11,12,13,14,15,16,17,18,19],[1,2,3,8,9,10,11,12,13,14,15,16,17,18,19,20,21,22,23,24,25]))]
noncomputable def xc112 : XC := cdOf (chkF Tryd.prog hs112 Tryd.f112)
noncomputable def fe112 : FnE := ⟨26, [(6, none), (7, none)], xc112⟩
theorem ok112 : FnOk Tryd.prog 112 fe112 := fnOk_of Tryd.func112 (by kernel_rfl : chkF Tryd.prog hs112 Tryd.f112 = some fe112)
/- 115 crimp/sets.wrong -/
def hs115 : Hints := [z 0 [2],z 1 [0,3,4]]
noncomputable def xc115 : XC := cdOf (chkF Tryd.prog hs115 Tryd.f115)
noncomputable def fe115 : FnE := ⟨5, [(2, none)], xc115⟩
theorem ok115 : FnOk Tryd.prog 115 fe115 := fnOk_of Tryd.func115 (by kernel_rfl : chkF Tryd.prog hs115 Tryd.f115 = some fe115)
/- 116 slices.Clone[[]crimp/api.Cell,crimp/api.Cell] -/
def hs116 : Hints := [z 0 [2],z 1 [3],z 2 [0,4],z 3 [0,4,5,6,7]]
noncomputable def xc116 : XC := cdOf (chkF Tryd.prog hs116 Tryd.f116)
noncomputable def fe116 : FnE := ⟨8, [(2, none)], xc116⟩
theorem ok116 : FnOk Tryd.prog 116 fe116 := fnOk_of Tryd.func116 (by kernel_rfl : chkF Tryd.prog hs116 Tryd.f116 = some fe116)
/- 117 slices.Compact[[]crimp/api.Cell,crimp/api.Cell] -/
def hs117 : Hints := [z 0 [2],z 1 [6,7],z 2 [0,8,9],z 3 [2,8],z 4 [10,11,12],(6,([0,1,2,3,4,5,6,7,8,9],[13,16,17,18,19,20,21,22,23,24])),z 7 [25,26,27,28],z 9 [29,30,31],(11,([0,1,2,3,4,5,6,7,8,9],[32,35,36,37,38,39,40,41,42,43])),z 12 [44,45,46,47,48,49,50,51],z 13 [52,53],z 10 [44,33,34],z 14 [4,5,54,55,56],z 15 [3,0,57,58,59],z 5 [2,25,14,15],z 16 [0,3,60]]
noncomputable def xc117 : XC := cdOf (chkF Tryd.prog hs117 Tryd.f117)
noncomputable def fe117 : FnE := ⟨61, [(2, none)], xc117⟩
theorem ok117 : FnOk Tryd.prog 117 fe117 := fnOk_of Tryd.func117 (by kernel_rfl : chkF Tryd.prog hs117 Tryd.f117 = some fe117)
/- 118 slices.Contains[[]crimp/api.Cell,crimp/api.Cell] -/
def hs118 : Hints := [z 0 [1,4],z 1 [0,3,5,6,7,8]]
noncomputable def xc118 : XC := cdOf (chkF Tryd.prog hs118 Tryd.f118)
noncomputable def fe118 : FnE := ⟨9, [(4, none)], xc118⟩
theorem ok118 : FnOk Tryd.prog 118 fe118 := fnOk_of Tryd.func118 (by kernel_rfl : chkF Tryd.prog hs118 Tryd.f118 = some fe118)
/- 119 slices.Equal[[]crimp/api.Cell,crimp/api.Cell] -/
def hs119 : Hints := [z 0 [4],z 1 [6,7,8,9],z 2 [0,1,10],z 3 [4,10,11],z 5 [14,15],(6,([0,1,2,3,4,5,6,7,8],[5,16,17,18,19,20,21,22,23])),z 7 [13,1,0,12,24],z 8 [4,24,25],z 9 [0,1,12,13]]
noncomputable def xc119 : XC := cdOf (chkF Tryd.prog hs119 Tryd.f119)
noncomputable def fe119 : FnE := ⟨26, [(4, none)], xc119⟩
theorem ok119 : FnOk Tryd.prog 119 fe119 := fnOk_of Tryd.func119 (by kernel_rfl : chkF Tryd.prog hs119 Tryd.f119 = some fe119)
/- 126 math/bits.Len -/
def hs126 : Hints := [z 0 [2],z 1 [0,3,4,5],z 2 [0,6,7]]
noncomputable def xc126 : XC := cdOf (chkF Tryd.prog hs126 Tryd.f126)
noncomputable def fe126 : FnE := ⟨8, [(2, none)], xc126⟩
theorem ok126 : FnOk Tryd.prog 126 fe126 := fnOk_of Tryd.func126 (by kernel_rfl : chkF Tryd.prog hs126 Tryd.f126 = some fe126)
/- 127 crimp/cells.order[int] -/
def hs127 : Hints := [z 0 [2],z 1 [0],z 3 [9,10,11],z 4 [4,12,13,14,15,16],z 5 [17],z 6 [8,6,7,5,18,19],z 7 [2,5,18,20],z 8 [6,7,8]]
noncomputable def xc127 : XC := cdOf (chkF Tryd.prog hs127 Tryd.f127)
noncomputable def fe127 : FnE := ⟨21, [(2, none)], xc127⟩
theorem ok127 : FnOk Tryd.prog 127 fe127 := fnOk_of Tryd.func127 (by kernel_rfl : chkF Tryd.prog hs127 Tryd.f127 = some fe127)
/- 130 crimp/sets.both -/
def hs130 : Hints := [z 0 [4],z 1 [0,6,7],z 2 [8],z 3 [1,5,9,10],z 4 [1,5,9,11,12]]
noncomputable def xc130 : XC := cdOf (chkF Tryd.prog hs130 Tryd.f130)
noncomputable def fe130 : FnE := ⟨13, [(4, none)], xc130⟩
theorem ok130 : FnOk Tryd.prog 130 fe130 := fnOk_of Tryd.func130 (by kernel_rfl : chkF Tryd.prog hs130 Tryd.f130 = some fe130)
/- 131 crimp/sets.merged -/
def hs131 : Hints := [z 0 [0,1,4],z 1 [2,3,5]]
noncomputable def xc131 : XC := cdOf (chkF Tryd.prog hs131 Tryd.f131)
noncomputable def fe131 : FnE := ⟨6, [(4, none)], xc131⟩
theorem ok131 : FnOk Tryd.prog 131 fe131 := fnOk_of Tryd.func131 (by kernel_rfl : chkF Tryd.prog hs131 Tryd.f131 = some fe131)
/- 132 crimp/cells.moved -/
def hs132 : Hints := [z 0 [0,1],(1,([0,1,2,3,4,5,6,7,8,9,10],[3,10,11,12,13,14,15,16])),z 2 [18,19,20,17,21,22],z 3 [23,24],z 4 [2,26,27,28,25,29,30],z 5 [5,31,32,33,34,35,36,37,38,39,40,41,42,43,44,45],z 8 [48,49,50],z 9 [9,51,52,53],z 10 [8,54,55,56,57],z 11 [8,54,58],z 12 [6,7,46,47,59]]
noncomputable def xc132 : XC := cdOf (chkF Tryd.prog hs132 Tryd.f132)
noncomputable def fe132 : FnE := ⟨60, [(4, some (some 3))], xc132⟩
theorem ok132 : FnOk Tryd.prog 132 fe132 := fnOk_of Tryd.func132 (by kernel_rfl : chkF Tryd.prog hs132 Tryd.f132 = some fe132)
/- 133 slices.pdqsortCmpFunc[crimp/api.Cell] -/
def hs133 : Hints := [z 2 [21,22,23],z 3 [24],z 4 [4,2,1,0,96,95,94,84,89,93,92,90,91,88,85,87,86,74,73,70,11,10,3,12,25,26,27,28,29,30],z 5 [25,31],z 6 [4,2,1,0,96,95,94,84,89,93,92,90,91,88,85,87,86,74,73,70,11,10,3,12,32,33,34,35,36,37],z 7 [32,38],z 8 [39,40,41,42,43,44],z 9 [45,46],z 10 [39,48,49,50,51,52,47,53,54],z 11 [55],z 12 [14,56,57,58,59,60,61],z 13 [62,63,64,65,66,67],z 15 [14,56,68,69,71,72],z 16 [75,76,77,78,79],(17,([0,1,2,3,4,5,6,7,8,9,10,11,12,13,14,15,16],[80,75,81,82,83])),z 18 [1,12,13,97,98,99,100,101,102,103],z 19 [15,104],z 20 [11,10,13,97,106,107,108,109,110,111,105,112,113],z 21 [17,114],z 22 [115,116,117,118,119,120],z 23 [12,121,122],z 24 [123,124],z 25 [18,19,20,125,126,127,128],z 26 [1,129,130,131,132,133,134],z 27 [16,135,136],z 28 [18,19,20,125,137,138,139],z 29 [2,140,141,142,143,144,145,146],z 30 [16,147]]
noncomputable def xc133 : XC := cdOf (chkF Tryd.prog hs133 Tryd.f133)
noncomputable def fe133 : FnE := ⟨148, [], xc133⟩
theorem ok133 : FnOk Tryd.prog 133 fe133 := fnOk_of Tryd.func133 (by kernel_rfl : chkF Tryd.prog hs133 Tryd.f133 = some fe133)
/- 139 math/bits.Mul -/
def hs139 : Hints := [z 0 [4,5],z 1 [0,1,11,12,13,14,15,10,16,17],z 2 [6,7,18,19,20,21],z 3 [4,5,0,1,23,24,25,22,26,27],z 4 [8,9,28,29]]
noncomputable def xc139 : XC := cdOf (chkF Tryd.prog hs139 Tryd.f139)
noncomputable def fe139 : FnE := ⟨30, [(4, none), (5, none)], xc139⟩
theorem ok139 : FnOk Tryd.prog 139 fe139 := fnOk_of Tryd.func139 (by kernel_rfl : chkF Tryd.prog hs139 Tryd.f139 = some fe139)
/- 140 strings.HasPrefix -/
def hs140 : Hints := [z 0 [4],z 1 [0,1,5,6,7]]
noncomputable def xc140 : XC := cdOf (chkF Tryd.prog hs140 Tryd.f140)
noncomputable def fe140 : FnE := ⟨8, [(4, none)], xc140⟩
theorem ok140 : FnOk Tryd.prog 140 fe140 := fnOk_of Tryd.func140 (by kernel_rfl : chkF Tryd.prog hs140 Tryd.f140 = some fe140)
/- 141 (*strings.Builder).Grow -/
def hs141 : Hints := [z 0 [4,5],z 1 [6],z 2 [7,8],(3,([0,1,2,3,4,5,6,7,8,9,10,11,12],[7,9,10,11,12,13,14,15,16,17,18,19,20])),z 4 [0,1,21,22,23,24]]
noncomputable def xc141 : XC := cdOf (chkF Tryd.prog hs141 Tryd.f141)
noncomputable def fe141 : FnE := ⟨25, [], xc141⟩
theorem ok141 : FnOk Tryd.prog 141 fe141 := fnOk_of Tryd.func141 (by kernel_rfl : chkF Tryd.prog hs141 Tryd.f141 = some fe141)
/- 142 (*strings.Builder).WriteString -/
def hs142 : Hints := [z 0 [4,5],z 1 [6,7],z 2 [0,8,9,10,11,12,13,14,15,16],z 3 [1,17,18]]
noncomputable def xc142 : XC := cdOf (chkF Tryd.prog hs142 Tryd.f142)
noncomputable def fe142 : FnE := ⟨19, [(4, none), (5, none)], xc142⟩
theorem ok142 : FnOk Tryd.prog 142 fe142 := fnOk_of Tryd.func142 (by kernel_rfl : chkF Tryd.prog hs142 Tryd.f142 = some fe142)
/- 143 (*strings.Builder).Len -/
def hs143 : Hints := [z 0 [2],z 1 [0,3,4,5,6,7]]
noncomputable def xc143 : XC := cdOf (chkF Tryd.prog hs143 Tryd.f143)
noncomputable def fe143 : FnE := ⟨8, [(2, none)], xc143⟩
theorem ok143 : FnOk Tryd.prog 143 fe143 := fnOk_of Tryd.func143 (by kernel_rfl : chkF Tryd.prog hs143 Tryd.f143 = some fe143)
/- 144 (*strings.Builder).String -/
def hs144 : Hints := [z 0 [2],(1,([0,1,2,3,4,5,6,7,8,9,10,11],[0,3,4,5,6,7,8,9,10,11,12,13]))]
noncomputable def xc144 : XC := cdOf (chkF Tryd.prog hs144 Tryd.f144)
noncomputable def fe144 : FnE := ⟨14, [(2, none)], xc144⟩
theorem ok144 : FnOk Tryd.prog 144 fe144 := fnOk_of Tryd.func144 (by kernel_rfl : chkF Tryd.prog hs144 Tryd.f144 = some fe144)
/- 148 slices.ContainsFunc[[]crimp/api.Cell,crimp/api.Cell] -/
def hs148 : Hints := [z 0 [4],z 1 [0,1,5,6,7,8]]
noncomputable def xc148 : XC := cdOf (chkF Tryd.prog hs148 Tryd.f148)
noncomputable def fe148 : FnE := ⟨9, [(4, none)], xc148⟩
theorem ok148 : FnOk Tryd.prog 148 fe148 := fnOk_of Tryd.func148 (by kernel_rfl : chkF Tryd.prog hs148 Tryd.f148 = some fe148)
/- 149 crimp/sets.wrong$1 -/
def hs149 : Hints := [z 0 [0,2],z 1 [1,3,4,5]]
noncomputable def xc149 : XC := cdOf (chkF Tryd.prog hs149 Tryd.f149)
noncomputable def fe149 : FnE := ⟨6, [(2, none)], xc149⟩
theorem ok149 : FnOk Tryd.prog 149 fe149 := fnOk_of Tryd.func149 (by kernel_rfl : chkF Tryd.prog hs149 Tryd.f149 = some fe149)
/- 150 slices.Index[[]crimp/api.Cell,crimp/api.Cell] -/
def hs150 : Hints := [z 0 [1,4],z 1 [6],z 3 [9,10],(4,([0,1,2,3,4,5],[11,12,13,14,15])),z 5 [8,0,3,7,5,16,17],z 6 [4,5,16,18],z 7 [0,3,7,8]]
noncomputable def xc150 : XC := cdOf (chkF Tryd.prog hs150 Tryd.f150)
noncomputable def fe150 : FnE := ⟨19, [(4, none)], xc150⟩
theorem ok150 : FnOk Tryd.prog 150 fe150 := fnOk_of Tryd.func150 (by kernel_rfl : chkF Tryd.prog hs150 Tryd.f150 = some fe150)
/- 151 crimp/lines.CheckPoint -/
def hs151 : Hints := [z 0 [0,2],z 1 [1,3,4,5,6,7,8,9,10,11,12,13,14,15,16,17,18,19],z 2 [20],z 3 [20]]
noncomputable def xc151 : XC := cdOf (chkF Tryd.prog hs151 Tryd.f151)
noncomputable def fe151 : FnE := ⟨21, [(2, none)], xc151⟩
theorem ok151 : FnOk Tryd.prog 151 fe151 := fnOk_of Tryd.func151 (by kernel_rfl : chkF Tryd.prog hs151 Tryd.f151 = some fe151)
/- 161 math/bits.Len32 -/
def hs161 : Hints := [z 1 [3],z 2 [2,4,5,6],z 4 [4,7],z 5 [8,9,10],z 6 [11,12],z 7 [0,8,13,14,15,16,17,18]]
noncomputable def xc161 : XC := cdOf (chkF Tryd.prog hs161 Tryd.f161)
noncomputable def fe161 : FnE := ⟨19, [(2, none)], xc161⟩
theorem ok161 : FnOk Tryd.prog 161 fe161 := fnOk_of Tryd.func161 (by kernel_rfl : chkF Tryd.prog hs161 Tryd.f161 = some fe161)
/- 162 math/bits.Len64 -/
def hs162 : Hints := [z 1 [3],z 2 [2,4,5,6],z 4 [4,7],z 5 [8,9,10],z 6 [11,12],z 7 [8,13],z 8 [14,15,16],z 9 [17,18],z 10 [0,14,19,20,21,22,23,24]]
noncomputable def xc162 : XC := cdOf (chkF Tryd.prog hs162 Tryd.f162)
noncomputable def fe162 : FnE := ⟨25, [(2, none)], xc162⟩
theorem ok162 : FnOk Tryd.prog 162 fe162 := fnOk_of Tryd.func162 (by kernel_rfl : chkF Tryd.prog hs162 Tryd.f162 = some fe162)
/- 163 cmp.Compare[int] -/
def hs163 : Hints := [z 0 [4],z 1 [7,8],z 2 [9,10],z 3 [5],z 4 [0,1,6,11],z 5 [12],z 6 [12],z 7 [4,6,11],z 8 [0,1,13],z 9 [4,13,14,15],z 10 [0,1,16],z 11 [4,0,1,16,17,18],z 12 [19],z 13 [19]]
noncomputable def xc163 : XC := cdOf (chkF Tryd.prog hs163 Tryd.f163)
noncomputable def fe163 : FnE := ⟨20, [(4, none)], xc163⟩
theorem ok163 : FnOk Tryd.prog 163 fe163 := fnOk_of Tryd.func163 (by kernel_rfl : chkF Tryd.prog hs163 Tryd.f163 = some fe163)
/- 164 crimp/sets.merged$1 -/
def hs164 : Hints := [z 0 [7,8,9,10,11],z 1 [12,4],z 3 [21,22,23],z 4 [20],z 5 [20,25,26,27],z 6 [24],(2,([0,1,2,3,4,5,6,7],[24,13,14,15,16,17,18,19])),z 7 [4,28,29,30,31,32],z 9 [33],(10,([0,1,2,3,4,5,6],[34,35,36,37,38,39])),z 11 [34,40],(12,([0,1,2,3,4,5,6],[41,42,43,44,45,46])),z 13 [5,6,41,47,48,49,50]]
noncomputable def xc164 : XC := cdOf (chkF Tryd.prog hs164 Tryd.f164)
noncomputable def fe164 : FnE := ⟨52, [], xc164⟩
theorem ok164 : FnOk Tryd.prog 164 fe164 := fnOk_of Tryd.func164 (by kernel_rfl : chkF Tryd.prog hs164 Tryd.f164 = some fe164)
/- 165 crimp/cells.middle -/
def hs165 : Hints := [z 0 [0],z 1 [1,3,4,5,6,7,8,9,10,11]]
noncomputable def xc165 : XC := cdOf (chkF Tryd.prog hs165 Tryd.f165)
noncomputable def fe165 : FnE := ⟨12, [(2, some (some 2))], xc165⟩
theorem ok165 : FnOk Tryd.prog 165 fe165 := fnOk_of Tryd.func165 (by kernel_rfl : chkF Tryd.prog hs165 Tryd.f165 = some fe165)
/- 166 crimp/moves.Point -/
def hs166 : Hints := [z 0 [0,1,5],z 1 [9,10,11,12,13,14,15],z 2 [2,3,16,17],(3,([0,1,2,3,4,5,6,7,8,9,10,11,12,13],[5,3,16,19,20,21,22,23,24,25,26,27,18,28,29])),z 4 [2,6,7,30,31,32,33,34,35,36,37,38,39,40],z 5 [41,42],z 6 [8,43,44],z 7 [8,43,45]]
noncomputable def xc166 : XC := cdOf (chkF Tryd.prog hs166 Tryd.f166)
noncomputable def fe166 : FnE := ⟨46, [(4, some (some 2)), (5, none)], xc166⟩
theorem ok166 : FnOk Tryd.prog 166 fe166 := fnOk_of Tryd.func166 (by kernel_rfl : chkF Tryd.prog hs166 Tryd.f166 = some fe166)
/- 167 slices.insertionSortCmpFunc[crimp/api.Cell] -/
def hs167 : Hints := [z 0 [10,11],z 1 [12,13],z 3 [14,17],(4,([0,1,2,3,4,5,6,7,8,9,10,11,12,13,14,15,16],[18,19,20,21])),(6,([0,1,2,3,4,5,6,7,8,9,10,11,12,13,14,15,16,17],[34,37,38,39,40,41,42,43,44,45,46,47,48,49,50,51,52])),z 5 [35,36],z 2 [9,15,16]]
noncomputable def xc167 : XC := cdOf (chkF Tryd.prog hs167 Tryd.f167)
noncomputable def fe167 : FnE := ⟨53, [], xc167⟩
theorem ok167 : FnOk Tryd.prog 167 fe167 := fnOk_of Tryd.func167 (by kernel_rfl : chkF Tryd.prog hs167 Tryd.f167 = some fe167)
/- 168 slices.heapSortCmpFunc[crimp/api.Cell] -/
def hs168 : Hints := [z 0 [13],z 2 [1,2,14,15,16],z 3 [17,18,19],z 4 [20],z 6 [21,24,25,26,27,28,29],z 5 [22,23],z 7 [10,11,30,31],z 8 [32],(10,([0,1,2,3,4,5,6,7,8,9,10,11,12,13,14,15,16,17,18,19],[33,36,37,38,39,40,41,42,43,44,45,46,47,48,49,50,51,52,53])),z 11 [54,55,56,57,58,59],z 9 [34,35]]
noncomputable def xc168 : XC := cdOf (chkF Tryd.prog hs168 Tryd.f168)
noncomputable def fe168 : FnE := ⟨60, [], xc168⟩
theorem ok168 : FnOk Tryd.prog 168 fe168 := fnOk_of Tryd.func168 (by kernel_rfl : chkF Tryd.prog hs168 Tryd.f168 = some fe168)
/- 169 slices.breakPatternsCmpFunc[crimp/api.Cell] -/
def hs169 : Hints := [z 0 [2,3,13,14,15],z 1 [16],z 2 [17,18,19],z 3 [20,21],z 4 [22,23,24,25,26,27],z 5 [28,29,30,31,32,33,34],z 7 [35,38,39,40,41,42],z 8 [43,44],z 9 [45,46,47,48],(10,([0,1,2,3,4,5,6,7,8,9,10,11,12,13,14,15,16,17,18,19],[12,45,49,50,51,52,53,54,55,56,57,58,59,60,61,62,63,64,65,66])),z 6 [36,37]]
noncomputable def xc169 : XC := cdOf (chkF Tryd.prog hs169 Tryd.f169)
noncomputable def fe169 : FnE := ⟨67, [], xc169⟩
theorem ok169 : FnOk Tryd.prog 169 fe169 := fnOk_of Tryd.func169 (by kernel_rfl : chkF Tryd.prog hs169 Tryd.f169 = some fe169)
/- 170 slices.choosePivotCmpFunc[crimp/api.Cell] -/
def hs170 : Hints := [z 0 [8,9],z 1 [2,15,16,17],z 3 [18,19,20,21,22],z 4 [23,24,25,26,27],z 5 [1,28,29,30,31,32],z 6 [33],z 7 [10,34,35],z 8 [36,37,38,39,40],z 9 [41,42,43,44],z 10 [45,46,47,48],z 11 [0,3,12,14,36,49,50,51,52,53,54],z 12 [11,0,3,10,12,14,34],z 14 [58],z 15 [13,55,57,59],z 16 [55,57,61],z 17 [13,60,62],z 13 [13,60,56]]
noncomputable def xc170 : XC := cdOf (chkF Tryd.prog hs170 Tryd.f170)
noncomputable def fe170 : FnE := ⟨63, [(8, none), (9, none)], xc170⟩
theorem ok170 : FnOk Tryd.prog 170 fe170 := fnOk_of Tryd.func170 (by kernel_rfl : chkF Tryd.prog hs170 Tryd.f170 = some fe170)
/- 171 slices.reverseRangeCmpFunc[crimp/api.Cell] -/
def hs171 : Hints := [z 0 [1,3,10],z 1 [2,11,12],z 2 [13,14],(3,([0,1,2,3,4,5,6,7,8,9,10,11,12,13,14,15],[15,16,17,18,19,20,21,22,23,24,25,26,27,28,29])),z 4 [30,31],z 5 [32,33]]
noncomputable def xc171 : XC := cdOf (chkF Tryd.prog hs171 Tryd.f171)
noncomputable def fe171 : FnE := ⟨34, [], xc171⟩
theorem ok171 : FnOk Tryd.prog 171 fe171 := fnOk_of Tryd.func171 (by kernel_rfl : chkF Tryd.prog hs171 Tryd.f171 = some fe171)
/- 172 slices.partialInsertionSortCmpFunc[crimp/api.Cell] -/
def hs172 : Hints := [z 0 [8],z 1 [13,14],z 3 [15],(5,([0,1,2,3,4,5,6,7,8,9,10,11,12,13,14,15,16,17],[19,20,21,22])),z 6 [36,37,38],z 7 [16,39,40],z 8 [9,10,0,3,2,1,35,34,33,23,27,32,31,28,30,29,26,24,25,41],z 9 [8,41,42,43,44],z 10 [9,10,0,3,2,1,35,34,33,23,27,32,31,28,30,29,26,24,25,45],(11,([0,1,2,3,4,5,6,7,8,9,10,11,12,13,14,15,16,17],[8,45,46,47,48,49,50,51,52,53,54,55,56,57,58,59,60,61])),z 12 [62,63,64],z 13 [65,66,67],z 14 [68],(16,([0,1,2,3,4,5,6,7,8,9,10,11,12],[69,72,73,74,75,76,77,78,79,80,81,82,83])),(17,([0,1,2,3,4,5,6,7,8,9,10,11,12,13,14,15,16,17],[84,85,86,87,88,89,90,91,92,93,94,95,96,97,98,99,100])),z 15 [70,71],z 18 [11,65,101,102,103],z 19 [104,105,106],z 20 [107,108],(22,([0,1,2,3,4,5,6,7,8,9,10,11,12],[109,112,113,114,115,116,117,118,119,120,121,122,123])),(23,([0,1,2,3,4,5,6,7,8,9,10,11,12,13,14,15,16,17],[124,125,126,127,128,129,130,131,132,133,134,135,136,137,138,139,140])),z 21 [110,111],z 4 [12,104,17,18],z 24 [0,1,2,3,9,10]]
noncomputable def xc172 : XC := cdOf (chkF Tryd.prog hs172 Tryd.f172)
noncomputable def fe172 : FnE := ⟨141, [(8, none)], xc172⟩
theorem ok172 : FnOk Tryd.prog 172 fe172 := fnOk_of Tryd.func172 (by kernel_rfl : chkF Tryd.prog hs172 Tryd.f172 = some fe172)
/- 173 slices.partitionEqualCmpFunc[crimp/api.Cell] -/
def hs173 : Hints := [z 0 [10],(1,([0,1,2,3,4,5,6,7,8,9,10,11,12,13,14,15],[3,13,14,15,16,17,18,19,20,21,22,23,24,25,26])),z 2 [2,27,28,29,30],(3,([0,1,2,3,4,5,6,7,8,9,10,11,12,13,14,15,16],[31,32,33,34])),z 4 [47,48,49],(5,([0,1,2,3,4,5,6,7,8,9,10,11,12,13,14,15],[50,51,52,53])),z 6 [65,66,67],z 7 [68,69],(8,([0,1,2,3,4,5,6,7,8,9,10,11,12,13,14,15],[70,71,72,73,74,75,76,77,78,79,80,81,82,83,84])),z 9 [85,86],z 10 [87,88],z 11 [0,1,4,11,12,89]]
noncomputable def xc173 : XC := cdOf (chkF Tryd.prog hs173 Tryd.f173)
noncomputable def fe173 : FnE := ⟨90, [(10, none)], xc173⟩
theorem ok173 : FnOk Tryd.prog 173 fe173 := fnOk_of Tryd.func173 (by kernel_rfl : chkF Tryd.prog hs173 Tryd.f173 = some fe173)
/- 174 slices.partitionCmpFunc[crimp/api.Cell] -/
def hs174 : Hints := [z 0 [10,11],(1,([0,1,2,3,4,5,6,7,8,9,10,11,12,13,14,15],[3,14,15,16,17,18,19,20,21,22,23,24,25,26,27])),z 2 [2,28,29,30,31],(3,([0,1,2,3,4,5,6,7,8,9,10,11,12,13,14,15],[32,33,34,35])),z 4 [47,48,49],(5,([0,1,2,3,4,5,6,7,8,9,10,11,12,13,14,15,16],[50,51,52,53])),z 6 [66,67,68],z 7 [65,64,63,54,58,62,61,59,60,57,55,56,69,70],(8,([0,1,2,3,4,5,6,7,8,9,10,11,12,13,14,15],[0,1,4,12,138,137,136,127,131,135,134,132,133,130,128,129,119,118,109,113,117,116,114,115,112,110,111,71,72,73,74,75,76,77,78,79,80,81,82,83,84,85])),z 9 [13,86],(10,([0,1,2,3,4,5,6,7,8,9,10,11,12,13,14,15],[10,11,71,87,88,89,90,91,92,93,94,95,96,97,98,99,100])),z 11 [101,102],z 12 [103,104],(13,([0,1,2,3,4,5,6,7,8,9,10,11,12,13,14,15],[105,106,107,108])),z 14 [120,121,122],(15,([0,1,2,3,4,5,6,7,8,9,10,11,12,13,14,15,16],[123,124,125,126])),z 16 [139,140,141],z 17 [142,143],(18,([0,1,2,3,4,5,6,7,8,9,10,11,12,13,14,15],[144,145,146,147,148,149,150,151,152,153,154,155,156,157,158])),z 19 [159,160],z 20 [161,162],(21,([0,1,2,3,4,5,6,7,8,9,10,11,12,13,14,15],[0,1,4,12,138,137,136,127,131,135,134,132,133,130,128,129,119,118,109,113,117,116,114,115,112,110,111,163,164,165,166,167,168,169,170,171,172,173,174,175,176])),z 22 [13,177]]
noncomputable def xc174 : XC := cdOf (chkF Tryd.prog hs174 Tryd.f174)
noncomputable def fe174 : FnE := ⟨178, [(10, none), (11, none)], xc174⟩
theorem ok174 : FnOk Tryd.prog 174 fe174 := fnOk_of Tryd.func174 (by kernel_rfl : chkF Tryd.prog hs174 Tryd.f174 = some fe174)
/- 177 math/bits.Mul32 -/
def hs177 : Hints := [z 0 [4,5],z 1 [0,1,7,8,9,10,11],z 2 [6,12,13,14,15,16]]
noncomputable def xc177 : XC := cdOf (chkF Tryd.prog hs177 Tryd.f177)
noncomputable def fe177 : FnE := ⟨17, [(4, none), (5, none)], xc177⟩
theorem ok177 : FnOk Tryd.prog 177 fe177 := fnOk_of Tryd.func177 (by kernel_rfl : chkF Tryd.prog hs177 Tryd.f177 = some fe177)
/- 178 math/bits.Mul64 -/
def hs178 : Hints := [z 0 [4,5],z 1 [14,15],z 2 [16,17],z 3 [18,19],z 4 [20,21],z 5 [22,23,24],z 6 [8,10,25,26,27,28,29,30],z 7 [31,32],z 8 [11,33,34],z 9 [6,35,36,37,38,39],z 10 [7,9,12,13,40,41,42,43,44,45,46,47],z 11 [0,1,48,49,50]]
noncomputable def xc178 : XC := cdOf (chkF Tryd.prog hs178 Tryd.f178)
noncomputable def fe178 : FnE := ⟨51, [(4, none), (5, none)], xc178⟩
theorem ok178 : FnOk Tryd.prog 178 fe178 := fnOk_of Tryd.func178 (by kernel_rfl : chkF Tryd.prog hs178 Tryd.f178 = some fe178)
/- 179 internal/stringslite.HasPrefix -/
def hs179 : Hints := [z 0 [4],z 1 [0,1,5,6,7,8,9,10,11,12,13,14,15,16,17]]
noncomputable def xc179 : XC := cdOf (chkF Tryd.prog hs179 Tryd.f179)
noncomputable def fe179 : FnE := ⟨18, [(4, none)], xc179⟩
theorem ok179 : FnOk Tryd.prog 179 fe179 := fnOk_of Tryd.func179 (by kernel_rfl : chkF Tryd.prog hs179 Tryd.f179 = some fe179)
/- 180 (*strings.Builder).copyCheck -/
def hs180 : Hints := [z 0 [2,3,4,5],z 1 [0,6,7,8,9,10,11,12,13],z 2 [0,6,14,15,16,17,18]]
noncomputable def xc180 : XC := cdOf (chkF Tryd.prog hs180 Tryd.f180)
noncomputable def fe180 : FnE := ⟨20, [], xc180⟩
theorem ok180 : FnOk Tryd.prog 180 fe180 := fnOk_of Tryd.func180 (by kernel_rfl : chkF Tryd.prog hs180 Tryd.f180 = some fe180)
/- 181 (*strings.Builder).grow -/
def hs181 : Hints := [(0,([0,1,2,3,4,5,6,7,8,9,10,11,12,13,14,15],[1,5,6,7,8,9,10,11,12,13,14,15,16,17,18,19])),z 1 [20,21,22,23,24,25],z 2 [0,4,26,27,28,29]]
noncomputable def xc181 : XC := cdOf (chkF Tryd.prog hs181 Tryd.f181)
noncomputable def fe181 : FnE := ⟨30, [], xc181⟩
theorem ok181 : FnOk Tryd.prog 181 fe181 := fnOk_of Tryd.func181 (by kernel_rfl : chkF Tryd.prog hs181 Tryd.f181 = some fe181)
/- 183 slices.IndexFunc[[]crimp/api.Cell,crimp/api.Cell] -/
def hs183 : Hints := [z 0 [4],z 1 [6],z 3 [9,10],z 4 [11,12,13,14,15],z 5 [8,0,1,7,5,16,17],z 6 [4,5,16,18],z 7 [0,1,7,8]]
noncomputable def xc183 : XC := cdOf (chkF Tryd.prog hs183 Tryd.f183)
noncomputable def fe183 : FnE := ⟨19, [(4, none)], xc183⟩
theorem ok183 : FnOk Tryd.prog 183 fe183 := fnOk_of Tryd.func183 (by kernel_rfl : chkF Tryd.prog hs183 Tryd.f183 = some fe183)
/- 198 slices.nextPowerOfTwo -/
def hs198 : Hints := [z 0 [2],z 1 [0,3,4,5,6]]
noncomputable def xc198 : XC := cdOf (chkF Tryd.prog hs198 Tryd.f198)
noncomputable def fe198 : FnE := ⟨7, [(2, none)], xc198⟩
theorem ok198 : FnOk Tryd.prog 198 fe198 := fnOk_of Tryd.func198 (by kernel_rfl : chkF Tryd.prog hs198 Tryd.f198 = some fe198)
/- 199 (*slices.xorshift).Next -/
def hs199 : Hints := [z 0 [2],(1,([0,1,2,3,4,5,6,7,8,9],[3,4,5,6,7,8,9,10,11])),(2,([0,1,2,3,4,5,6,7,8,9],[12,13,14,15,16,17,18,19,20])),(3,([0,1,2,3,4,5,6,7,8,9],[21,22,23,24,25,26,27,28,29])),z 4 [0,30,31,32]]
noncomputable def xc199 : XC := cdOf (chkF Tryd.prog hs199 Tryd.f199)
noncomputable def fe199 : FnE := ⟨33, [(2, none)], xc199⟩
theorem ok199 : FnOk Tryd.prog 199 fe199 := fnOk_of Tryd.func199 (by kernel_rfl : chkF Tryd.prog hs199 Tryd.f199 = some fe199)
/- 202 cmp.isNaN[int] -/
def hs202 : Hints := [z 0 [2],z 1 [0,3,4,5]]
noncomputable def xc202 : XC := cdOf (chkF Tryd.prog hs202 Tryd.f202)
noncomputable def fe202 : FnE := ⟨6, [(2, none)], xc202⟩
theorem ok202 : FnOk Tryd.prog 202 fe202 := fnOk_of Tryd.func202 (by kernel_rfl : chkF Tryd.prog hs202 Tryd.f202 = some fe202)
/- 203 slices.siftDownCmpFunc[crimp/api.Cell] -/
def hs203 : Hints := [z 0 [1,12],z 1 [13,14,15],z 2 [16,17],(3,([0,1,2,3,4,5,6,7,8,9,10,11,12,13,14,15,16,17,18,19,20,21],[18,19,20,21,22,23])),z 4 [40,41,42],(5,([0,1,2,3,4,5,6,7,8,9,10,11,12,13,14,15],[40,43,44,45,46,47,48,49,50,51,52,53,54,55,56,57])),(6,([0,1,2,3,4,5,6,7,8,9,10,11,12,13,14,15,16,17,18,19,20,21,22,23],[10,58,59,60,61,62,63,64,65,66,67,68,69,70,71,72,73,74,75,76,77,78,79,80])),z 7 [11,81]]
noncomputable def xc203 : XC := cdOf (chkF Tryd.prog hs203 Tryd.f203)
noncomputable def fe203 : FnE := ⟨82, [], xc203⟩
theorem ok203 : FnOk Tryd.prog 203 fe203 := fnOk_of Tryd.func203 (by kernel_rfl : chkF Tryd.prog hs203 Tryd.f203 = some fe203)
/- 204 slices.medianAdjacentCmpFunc[crimp/api.Cell] -/
def hs204 : Hints := [z 0 [8],z 1 [0,1,2,3,9,10,11,12,13,14,15,16,17]]
noncomputable def xc204 : XC := cdOf (chkF Tryd.prog hs204 Tryd.f204)
noncomputable def fe204 : FnE := ⟨18, [(8, none)], xc204⟩
theorem ok204 : FnOk Tryd.prog 204 fe204 := fnOk_of Tryd.func204 (by kernel_rfl : chkF Tryd.prog hs204 Tryd.f204 = some fe204)
/- 205 slices.medianCmpFunc[crimp/api.Cell] -/
def hs205 : Hints := [z 0 [12],z 1 [14,15,16,17,18,19,13,20,21],z 2 [3,23,24,25,26,27,28,22,29,30],z 3 [0,1,4,5,32,33,34,35,36,37,31,38,39],z 4 [2,40]]
noncomputable def xc205 : XC := cdOf (chkF Tryd.prog hs205 Tryd.f205)
noncomputable def fe205 : FnE := ⟨41, [(12, none)], xc205⟩
theorem ok205 : FnOk Tryd.prog 205 fe205 := fnOk_of Tryd.func205 (by kernel_rfl : chkF Tryd.prog hs205 Tryd.f205 = some fe205)
/- 210 slices.order2CmpFunc[crimp/api.Cell] -/
def hs210 : Hints := [z 0 [10,11],(1,([0,1,2,3,4,5,6,7,8,9,10],[0,4,12,13,14,15,16,17,18,19,20,21])),z 2 [3,22,23,24,25,26,27],z 3 [1,2,28,29],z 4 [1,2,3,22,30,31]]
noncomputable def xc210 : XC := cdOf (chkF Tryd.prog hs210 Tryd.f210)
noncomputable def fe210 : FnE := ⟨32, [(10, none), (11, none)], xc210⟩
theorem ok210 : FnOk Tryd.prog 210 fe210 := fnOk_of Tryd.func210 (by kernel_rfl : chkF Tryd.prog hs210 Tryd.f210 = some fe210)
noncomputable def xpl : List (Nat × FnE) := [(14, fe14), (32, fe32), (33, fe33), (34, fe34), (35, fe35), (37, fe37), (38, fe38), (41, fe41), (42, fe42), (43, fe43), (44, fe44), (47, fe47), (48, fe48), (49, fe49), (52, fe52), (55, fe55), (59, fe59), (60, fe60), (61, fe61), (62, fe62), (63, fe63), (79, fe79), (86, fe86), (88, fe88), (89, fe89), (90, fe90), (91, fe91), (92, fe92), (93, fe93), (94, fe94), (96, fe96), (97, fe97), (98, fe98), (99, fe99), (101, fe101), (103, fe103), (108, fe108), (112, fe112), (115, fe115), (116, fe116), (117, fe117), (118, fe118), (119, fe119), (126, fe126), (127, fe127), (130, fe130), (131, fe131), (132, fe132), (133, fe133), (139, fe139), (140, fe140), (141, fe141), (142, fe142), (143, fe143), (144, fe144), (148, fe148), (149, fe149), (150, fe150), (151, fe151), (161, fe161), (162, fe162), (163, fe163), (164, fe164), (165, fe165), (166, fe166), (167, fe167), (168, fe168), (169, fe169), (170, fe170), (171, fe171), (172, fe172), (173, fe173), (174, fe174), (177, fe177), (178, fe178), (179, fe179), (180, fe180), (181, fe181), (183, fe183), (198, fe198), (199, fe199), (202, fe202), (203, fe203), (204, fe204), (205, fe205), (210, fe210)]
theorem xpOk : XpOk Tryd.prog (aget xpl) := xpOk_of (l := xpl) ⟨ok14, ok32, ok33, ok34, ok35, ok37, ok38, ok41, ok42, ok43, ok44, ok47, ok48, ok49, ok52, ok55, ok59, ok60, ok61, ok62, ok63, ok79, ok86, ok88, ok89, ok90, ok91, ok92, ok93, ok94, ok96, ok97, ok98, ok99, ok101, ok103, ok108, ok112, ok115, ok116, ok117, ok118, ok119, ok126, ok127, ok130, ok131, ok132, ok133, ok139, ok140, ok141, ok142, ok143, ok144, ok148, ok149, ok150, ok151, ok161, ok162, ok163, ok164, ok165, ok166, ok167, ok168, ok169, ok170, ok171, ok172, ok173, ok174, ok177, ok178, ok179, ok180, ok181, ok183, ok198, ok199, ok202, ok203, ok204, ok205, ok210, trivial⟩
end Go.Proofs.YtmnaghfndigfkaaDoor.X
