/-
 The functions of the translation, with types resolved (made by a program).
-/
import Derived.Test.YtfpcbimohikhmaaDoorProg
import Derived.Test.YtfpcbimohikhmaaDoorAb4
import Derived.KernelRfl
set_option linter.unusedVariables false
set_option maxRecDepth 1000000
namespace Go.Proofs.YtfpcbimohikhmaaDoor.X
open Go Go.Ab

abbrev z (n : Nat) (l : List Nat) : Nat × (List Nat × List Nat) := (n, ([], l))
noncomputable def cdOf : Option FnE → XC
 | some f => f.xc
 | none => .skip

/- 3 crimp/crimplaw06.PatternsSet -/
def hs3 : Hints := [z 0 [0,2,6],z 1 [22,23],z 2 [24,25],z 3 [27,28,29,30,31,32,26,33,34],z 4 [36,37,38,39,40,35,41,42],z 7 [43,44,45,46,47,48,49,50,51,52,53,54,55],z 8 [1,5,56],z 9 [56,57,58],z 10 [1,5,59],z 11 [1,5,59,60,61,62,63,64,65,66],z 12 [67],z 13 [68],z 14 [12,68,69,70],z 15 [3,7,8,9,10,11,13,14,71],z 16 [6,71,72,73,74,75,76],z 17 [77],z 18 [10,77,78,79],z 19 [3,7,8,9,11,13,14,80],z 20 [6,13,80,81],z 21 [3,7,8,9,11,14,82,83,84,85,86,87,88,89,90,91,92,93,94,95],z 22 [6,82,96,97],z 23 [11,98,99,100,101,102],z 24 [3,7,8,9,14,15,103],z 25 [6,8,14,103,104,105,106,107],z 26 [108,109,110],z 28 [111,112,113],(30,([0,1,2,3,4,5,6,7,8,9,10,11,12,13,14,15,16],[114,118,119,120,121,122,123,124,125,126,127,128,129,117,130,131])),(31,([0,1,2,3,4,5,6,7,8,9,10,11,12,13,14,15,16,17,18,19,20,21,22,23,24,25],[133,134,135,136,137,138,139,140,141,142,143,144,145,146,147,148,149,150,151,152,153,132,154,155])),z 32 [18,19,20,21,156,157,158,161,162,169,170],z 33 [17,176,171,175,174,172,173,15,168,163,167,166,164,165,160,159,16,7,9,202,199,198,195,197,196,3,192,188,191,190,189,187,186,177],z 29 [6,177,115,116],(34,([0,1,2,3,4,5,6,7,8,9,10,11,12,13,14,15,16,17,18,19,20,21,22,23,24,25,26],[3,7,9,15,16,17,202,199,198,195,197,196,192,188,191,190,189,187,186,178,179,180,181,182,183,184,185,193,194,200,201,203]))]
noncomputable def xc3 : XC := cdOf (chkF Tryd.prog hs3 Tryd.f3)
noncomputable def fe3 : FnE := ⟨204, [(6, none)], xc3⟩
theorem ok3 : FnOk Tryd.prog 3 fe3 := fnOk_of Tryd.func3 (by kernel_rfl : chkF Tryd.prog hs3 Tryd.f3 = some fe3)
/- 4 crimp/crimplaw06.PatternsTurned -/
def hs4 : Hints := [z 0 [0,2],z 1 [14,15],z 2 [17,18,16,19,20],z 3 [22,23,21,24,25],(4,([0,1,2,3,4,5,6,7,8,9,10,11,12,13,14,15,16,17,18,19,20,21,22,23,24,25,26,27,28,29,30,31,32,33,34,35],[5,7,26,27,28,29,30,31,32,33,34,35,36,37,38,39,40,41,42,43,44,45,46,47,48,49,50,51,52,53,54,55,56,57,58,59,60])),z 5 [1,3,4,6,61],z 6 [2,61],z 7 [62,63,64,65],z 9 [66,69,70,71,72,73],z 10 [74,75,76,77],(11,([0,1,2,3,4,5,6],[9,78,79,80,81,82,83])),z 12 [8,6,3,121,118,117,114,116,115,1,111,110,108,109,105,104,102,103,99,98,4,84],z 8 [2,84,67,68],z 13 [4,8,86,87,85,88,89],z 14 [6,91,92,90,93,94],(15,([0,1,2,3,4,5,6,7,8,9,10,11,12,13,14,15,16,17,18,19,20,21,22,23,24,25,26,27,28],[1,3,121,118,117,114,116,115,111,110,108,109,105,104,102,103,99,98,10,11,12,13,95,96,97,100,101,106,107,112,113,119,120,122]))]
noncomputable def xc4 : XC := cdOf (chkF Tryd.prog hs4 Tryd.f4)
noncomputable def fe4 : FnE := ⟨123, [(2, none)], xc4⟩
theorem ok4 : FnOk Tryd.prog 4 fe4 := fnOk_of Tryd.func4 (by kernel_rfl : chkF Tryd.prog hs4 Tryd.f4 = some fe4)
/- 5 crimp/crimplaw06.PatternsCheck -/
def hs5 : Hints := [z 0 [0,6],z 1 [18,19,20,21,22,23,24,25,26,27,28,29,30,31,32,33,34,35,36,37,38,39,40,41,42,43,44],z 2 [1,2,3,45],z 3 [6,45,46,47],z 4 [48,49,50],z 5 [1,2,3,7,51],z 6 [6,51,53,54,55,52,56,57],z 7 [8,9,58,59,60,61,62,63,64,65,66,67,68,69,70,71,72,73,74,75,76,77,78,79,80],z 8 [1,2,3,7,81],z 9 [6,81,82],z 10 [1,2,3,7,83,84],z 11 [6,83,86,87,88,89,85,90,91,10],z 12 [1,2,93,94,95,96,92,97,98],z 13 [100,101,99,102,103],z 14 [3,105,106,104,107,108],z 15 [7,11,12,13,14,15,16,17,109,110,111,112,113,114,115,116,117,118,119,120,121,122,123,124,125,126,127,128,129,130,131,132,133,134,135,136,137,138,139,140,141,142,143]]
noncomputable def xc5 : XC := cdOf (chkF Tryd.prog hs5 Tryd.f5)
noncomputable def fe5 : FnE := ⟨144, [(6, none)], xc5⟩
theorem ok5 : FnOk Tryd.prog 5 fe5 := fnOk_of Tryd.func5 (by kernel_rfl : chkF Tryd.prog hs5 Tryd.f5 = some fe5)
/- 6 crimp/crimplaw06.PatternsOrder -/
def hs6 : Hints := [z 0 [0,1,2,6],z 1 [3,21,22],z 2 [23,24,25],(3,([0,1,2,3,4,5,6,7,8,9,10,11,12,13,14,15,16,17,18,19,20,21],[4,8,26,27,28,29,30,31,32,33,34,35,36,37,38,39,40,41,42,43])),(4,([0,1,2,3,4,5,6,7],[5,44,45,46,47,48,49])),z 5 [51,52,53,54,55,56,57,50,58,59],z 6 [61,62,63,64,65,66,67,60,68,69],z 7 [7,12,71,72,73,74,75,76,77,70,78,79],z 8 [11,81,82,83,84,85,86,87,80,88,89],z 9 [14,16,18,20,90,91,92,93,94,95,96,97,98,99,100,101,102],z 10 [9,10,13,15,17,19,103],z 11 [6,9,10,103,104,105],z 12 [13,15,17,19,106,107,108,109,110,111,112,113,114,115,116,117,118,119],z 13 [13,15,17,19,106,120,121,122,123,124,125,126,127,128,129,130,131]]
noncomputable def xc6 : XC := cdOf (chkF Tryd.prog hs6 Tryd.f6)
noncomputable def fe6 : FnE := ⟨132, [(6, none)], xc6⟩
theorem ok6 : FnOk Tryd.prog 6 fe6 := fnOk_of Tryd.func6 (by kernel_rfl : chkF Tryd.prog hs6 Tryd.f6 = some fe6)
/- 7 crimp/crimplaw06.PatternsSame -/
def hs7 : Hints := [z 0 [0,1,2,6],(1,([0,1,2,3,4,5,6,7],[4,19,20,21,22])),z 2 [23,24,25,26,27,28,29,30,31],z 3 [3,32,33,34],z 4 [35,36,37,38,39,40,41],z 5 [5,9,42,43,44,45,46,47,48,49,50,51,52,53],z 6 [3,5,32,54,55,56,57],z 7 [58,59,60,61,62,63,64,65,66,67,68,69,70,71],z 9 [72,73,74,75,76,77],(11,([0,1,2,3,4,5,6,7,8,9,10,11,12,13],[11,79,82,83,84,85,86,87,88,89,90,91])),z 12 [13,14,92,93,94,95,96,97,103,104,115],z 10 [80,81],z 13 [8,10,11,12,144,138,143,141,142,139,140,137,135,136,132,131,129,130,126,124,125,122,123,116,117,118,119,120,121,127,128,133,134],z 14 [7,189,186,185,182,184,183,181,145],z 15 [6,145],z 17 [146],z 19 [147],z 21 [150,151,152,153],z 23 [154,157,158,159,160,161,162,163],z 24 [164,165,166],z 22 [164,155,156],z 25 [18,167,168,169,170],z 26 [16,7,15,189,186,185,182,184,183,181,17,171],z 27 [6,17,171,172,173,174],z 18 [148,149],(28,([0,1,2,3,4,5,6,7,8,9,10,11,12,13,14,15,16],[7,189,186,185,182,184,183,181,15,16,175,176,177,178,179,180,187,188,190]))]
noncomputable def xc7 : XC := cdOf (chkF Tryd.prog hs7 Tryd.f7)
noncomputable def fe7 : FnE := ⟨191, [(6, none)], xc7⟩
theorem ok7 : FnOk Tryd.prog 7 fe7 := fnOk_of Tryd.func7 (by kernel_rfl : chkF Tryd.prog hs7 Tryd.f7 = some fe7)
/- 8 crimp/crimplaw06.PatternsKnown -/
def hs8 : Hints := [z 0 [0],z 3 [7],z 5 [8,11,12,13,14,15,16,17,18,19,20,21],z 7 [22,23,24],z 9 [25,28,29,30,31,32,33,34],z 10 [35,36,37,38,39,40,41,42],z 11 [43,44,45,46,47,48,49],z 8 [26,27],z 12 [3,4,5,50,51,52,53,54,55,56,57,58,59,60,61,62,77,78,88,89,93,94],z 13 [1,2,99,98,96,97,95,92,91,90,87,86,79,80,85,82,84,83,81,76,75,63,68,74,70,73,72,71,69,65,67,66,64,131,128,127,122,126,123,124,125,119,118,114,117,115,116,111,110,106,109,107,108,100],z 4 [0,100,9,10],z 14 [1,2,101,102],(15,([0,1,2,3,4,5,6,7,8,9,10,11,12,13,14,15,16,17,18,19,20,21,22,23,24,25,26,27,28,29,30],[131,128,127,122,126,123,124,125,119,118,114,117,115,116,111,110,106,109,107,108,6,103,104,105,112,113,120,121,129,130,132]))]
noncomputable def xc8 : XC := cdOf (chkF Tryd.prog hs8 Tryd.f8)
noncomputable def fe8 : FnE := ⟨133, [(0, none)], xc8⟩
theorem ok8 : FnOk Tryd.prog 8 fe8 := fnOk_of Tryd.func8 (by kernel_rfl : chkF Tryd.prog hs8 Tryd.f8 = some fe8)
/- 14 (crimp/crimplaw06.P).Of -/
def hs14 : Hints := [z 0 [0],z 1 [6,7,8,9,10,11,12,13,14,15,16],z 2 [17,18,19,20,21,22,23],z 4 [24,25,26,27,28],z 6 [34,37,38,39,40,41,42,43,44,45],z 5 [35,36],z 7 [1,3,4,5,46,47,48]]
noncomputable def xc14 : XC := cdOf (chkF Tryd.prog hs14 Tryd.f14)
noncomputable def fe14 : FnE := ⟨49, [(2, some (some 3))], xc14⟩
theorem ok14 : FnOk Tryd.prog 14 fe14 := fnOk_of Tryd.func14 (by kernel_rfl : chkF Tryd.prog hs14 Tryd.f14 = some fe14)
/- 15 crimp/patterns.Set -/
def hs15 : Hints := [z 0 [0,9],z 1 [1,2,17,18,19,20,16,21,22,23,24],z 2 [25],z 3 [3,4,10,11,12,13,26,27,28],z 4 [9,13,26,29,30,31,32,33,34],z 5 [3,4,10,11,12,35,36],z 6 [9,35,37],z 7 [12],z 8 [38,39,40],z 9 [38,41,42,43,44,45],z 10 [11,46,47,48,49,50,51],z 11 [52],z 12 [3,10,53,54,55,56,57,58,59,60,61,62],z 13 [14,3,10,53,63,64,65,66,67,68],(14,([0,1,2,3,4,5,6],[4,15,69,70,71,72,73]))]
noncomputable def xc15 : XC := cdOf (chkF Tryd.prog hs15 Tryd.f15)
noncomputable def fe15 : FnE := ⟨74, [(8, some (some 3)), (9, none)], xc15⟩
theorem ok15 : FnOk Tryd.prog 15 fe15 := fnOk_of Tryd.func15 (by kernel_rfl : chkF Tryd.prog hs15 Tryd.f15 = some fe15)
/- 16 crimp/patterns.Kind -/
def hs16 : Hints := [z 0 [0,6,7],z 1 [1,2,13,14,15,16,12,17,18,19,20,8],z 2 [10,21,22,23,24,25],z 3 [3,9,11,26,27],z 4 [3,9,11,26,28,29,30,31,32,33]]
noncomputable def xc16 : XC := cdOf (chkF Tryd.prog hs16 Tryd.f16)
noncomputable def fe16 : FnE := ⟨34, [(6, none), (7, none)], xc16⟩
theorem ok16 : FnOk Tryd.prog 16 fe16 := fnOk_of Tryd.func16 (by kernel_rfl : chkF Tryd.prog hs16 Tryd.f16 = some fe16)
/- 17 crimp/crimpref06.Unit -/
def hs17 : Hints := [z 0 [0,6],z 1 [10,11,12,13,14,15,16,17,18,19,20,21,22,23,24,25,26,27,28],z 2 [1,2,3,29],z 3 [6,29,30,31,32,33],z 4 [3,34,35],z 6 [36,37,38],z 8 [39,42,43,44,54,55],z 9 [9,63,61,62,2,60,59,58,56,57,8,53,49,52,50,51,7,1,48,47,45,46,64,65],z 7 [6,64,40,41],z 10 [1,2,7,8,9]]
noncomputable def xc17 : XC := cdOf (chkF Tryd.prog hs17 Tryd.f17)
noncomputable def fe17 : FnE := ⟨66, [(6, none)], xc17⟩
theorem ok17 : FnOk Tryd.prog 17 fe17 := fnOk_of Tryd.func17 (by kernel_rfl : chkF Tryd.prog hs17 Tryd.f17 = some fe17)
/- 18 crimp/crimplaw06.lives -/
def hs18 : Hints := [z 0 [0],z 2 [21,22,23,20,24,25],z 3 [27,28,26,29,30,7],z 4 [32,33,31,34,35],z 5 [37,38,36,39,40,11],z 6 [42,43,44,45,46,47,48,41,49,50,13],(7,([0,1,2,3,4,5,6,7,8,9,10,11,12,13,14,15,16,17,18,19,20,21,22,23,24,25,26,27,28,29,30,31,32,33,34,35,36,37,38,39,40,41,42,43],[4,5,6,8,9,10,12,51,52,53,54,55,56,57,58,59,60,61,62,63,64,65,66,67,68,69,70,71,72,73,74,75,76,77,78,79,80,81,82,83,84,85,86,87,88,89,90,91,92,93])),z 8 [1,2,3,94],z 9 [0,94,96,97,98,95,99,100,14],z 10 [102,103,104,101,105,106,16],z 11 [1,108,109,110,107,111,112,18],z 12 [2,3,15,17,19,113,114,115,116,117,118,119,120,121,122,123,124,125,126,127,128,129,130,131,132,133,134,135,136,137,138,139,140,141,142,143,144,145,146,147,148,149,150,151,152,153,154,155,156,157,158,159,160,161,162,163]]
noncomputable def xc18 : XC := cdOf (chkF Tryd.prog hs18 Tryd.f18)
noncomputable def fe18 : FnE := ⟨164, [(0, none)], xc18⟩
theorem ok18 : FnOk Tryd.prog 18 fe18 := fnOk_of Tryd.func18 (by kernel_rfl : chkF Tryd.prog hs18 Tryd.f18 = some fe18)
/- 19 crimp/crimpref06.Kinds -/
def hs19 : Hints := [z 0 [0,2],z 1 [7,8,9],z 2 [10,11,12],z 4 [13,14,15],z 6 [16],z 7 [19,20,21,22],(9,([0,1,2,3,4,5,6,7,8,9,10,11,12,13,14,15,16,17,18,19,20,21,22,23,24,25],[23,26,27,28,29,30,31,32,33,34,35,36,37,38])),z 10 [51,52,53,54,55,56,57,58,59,60],z 8 [51,24,25],z 5 [6,17,18],z 11 [1,3,4,5,61]]
noncomputable def xc19 : XC := cdOf (chkF Tryd.prog hs19 Tryd.f19)
noncomputable def fe19 : FnE := ⟨62, [(2, none)], xc19⟩
theorem ok19 : FnOk Tryd.prog 19 fe19 := fnOk_of Tryd.func19 (by kernel_rfl : chkF Tryd.prog hs19 Tryd.f19 = some fe19)
/- 20 crimp/crimpref05.Units -/
def hs20 : Hints := [z 0 [0,2],z 3 [6,7,8,9,10,11,12],z 5 [13],z 6 [16],z 8 [17,20,21,22,23,24],z 9 [25,26,27,28,29,30,31,32],z 7 [25,18,19],z 4 [5,14,15],z 10 [1,3,4,33]]
noncomputable def xc20 : XC := cdOf (chkF Tryd.prog hs20 Tryd.f20)
noncomputable def fe20 : FnE := ⟨34, [(2, none)], xc20⟩
theorem ok20 : FnOk Tryd.prog 20 fe20 := fnOk_of Tryd.func20 (by kernel_rfl : chkF Tryd.prog hs20 Tryd.f20 = some fe20)
/- 21 crimp/crimpref05.Neighbour -/
def hs21 : Hints := [z 0 [0,6],(1,([0,1,2,3,4,5,6,7,8,9,10,11,12,13,14,15],[1,8,9,10,11,12,13,14,15,16,17,18,19,20,21])),(2,([0,1,2,3,4,5],[2,3,7,22,23,24,25,26]))]
noncomputable def xc21 : XC := cdOf (chkF Tryd.prog hs21 Tryd.f21)
noncomputable def fe21 : FnE := ⟨27, [(6, none)], xc21⟩
theorem ok21 : FnOk Tryd.prog 21 fe21 := fnOk_of Tryd.func21 (by kernel_rfl : chkF Tryd.prog hs21 Tryd.f21 = some fe21)
/- 22 crimp/crimpref06.Differ -/
def hs22 : Hints := [z 0 [0,1,4],z 1 [6,7,8,9,10,11,12,13,14,15,16,17,18],z 2 [2,3,19],z 3 [4,19],z 4 [20,21,22,23],(6,([0,1,2,3,4,5,6,7,8,9,10],[24,27,28,29,30,31,32,33,34,35,36])),z 7 [5,3,2,37],z 5 [4,37,25,26],z 8 [2,3,5]]
noncomputable def xc22 : XC := cdOf (chkF Tryd.prog hs22 Tryd.f22)
noncomputable def fe22 : FnE := ⟨38, [(4, none)], xc22⟩
theorem ok22 : FnOk Tryd.prog 22 fe22 := fnOk_of Tryd.func22 (by kernel_rfl : chkF Tryd.prog hs22 Tryd.f22 = some fe22)
/- 23 crimp/crimpref06.With -/
def hs23 : Hints := [z 0 [0],z 1 [8,9],z 2 [2,10,11],z 4 [12,13,14,15,16],z 6 [21,24,25,26,27],(7,([0,1,2,3,4,5,6,7,8,9,10,11,12,13,14,15,16,17,18,19,20],[28,29,30,31,32,33,34,35,36,37,38,39,40,41,42,43,44,45,46,47,48])),z 5 [28,22,23],z 8 [1,5,6,7,49]]
noncomputable def xc23 : XC := cdOf (chkF Tryd.prog hs23 Tryd.f23)
noncomputable def fe23 : FnE := ⟨50, [(4, some (some 3))], xc23⟩
theorem ok23 : FnOk Tryd.prog 23 fe23 := fnOk_of Tryd.func23 (by kernel_rfl : chkF Tryd.prog hs23 Tryd.f23 = some fe23)
/- 24 crimp/patterns.Turned -/
def hs24 : Hints := [z 0 [0,3],z 1 [15,16,14,17,18],z 2 [19],z 3 [1,4,5,20,21,22],z 4 [3,5,20,23],z 6 [27,28,29,30],z 7 [32,33,34,35,36,31,37,38,9],z 8 [39,40,41,42,43,44,45,46],z 9 [47,48,49,50,51],z 10 [8,53,54,55,56,52,57,58,11],(11,([0,1,2,3,4,5,6,7,8,9,10,11,12,13],[10,60,61,62,63,64,65,66,67,59,68,69,13])),z 12 [7,6,12,70,71,72,73,74,75,76,77,78,79,80],z 13 [81],z 14 [1,24,25,26,82,83,84],z 15 [4,85]]
noncomputable def xc24 : XC := cdOf (chkF Tryd.prog hs24 Tryd.f24)
noncomputable def fe24 : FnE := ⟨86, [(2, some (some 3)), (3, none)], xc24⟩
theorem ok24 : FnOk Tryd.prog 24 fe24 := fnOk_of Tryd.func24 (by kernel_rfl : chkF Tryd.prog hs24 Tryd.f24 = some fe24)
/- 25 crimp/patterns.Opposite -/
def hs25 : Hints := [z 0 [0,3],z 1 [7,8],z 2 [9],z 3 [1,4,10,11,12],z 4 [3,4,10,13,14,15,16],z 5 [17,18,19,20],z 6 [21],z 8 [24,25],z 9 [6,26,27,28,29,30,31,32,33,34,35,36],z 10 [37],z 11 [1,5,22,23,38,39,40,41]]
noncomputable def xc25 : XC := cdOf (chkF Tryd.prog hs25 Tryd.f25)
noncomputable def fe25 : FnE := ⟨42, [(2, some (some 3)), (3, none)], xc25⟩
theorem ok25 : FnOk Tryd.prog 25 fe25 := fnOk_of Tryd.func25 (by kernel_rfl : chkF Tryd.prog hs25 Tryd.f25 = some fe25)
/- 26 crimp/crimpref06.Turned -/
def hs26 : Hints := [z 0 [0],z 1 [13,14,15],z 2 [16,17],z 3 [18,19,20],z 5 [21,22,23],(7,([0,1,2,3,4,5,6,7,8],[24,27,28,29,30,31,32,33])),z 9 [34,35,36],(11,([0,1,2,3,4,5,6,7,8],[37,40,41,42,43,44,45,46])),z 12 [47,48,49,50],z 13 [51,52,53,54,55,56,57,58,59,60,61,62,63,76],z 14 [9,10,77,78,79,80,81,82,83,84,85,86,87,88,89,102],z 15 [11,12,103,104],z 16 [106,107,108,109,110,111,112,113,114],z 10 [106,38,39],z 6 [7,8,25,26],z 17 [1,3,4,5,6,115,116,117,118]]
noncomputable def xc26 : XC := cdOf (chkF Tryd.prog hs26 Tryd.f26)
noncomputable def fe26 : FnE := ⟨119, [(2, some (some 3))], xc26⟩
theorem ok26 : FnOk Tryd.prog 26 fe26 := fnOk_of Tryd.func26 (by kernel_rfl : chkF Tryd.prog hs26 Tryd.f26 = some fe26)
/- 27 crimp/patterns.Check -/
def hs27 : Hints := [z 0 [0,2],z 1 [9,10,11],z 2 [12],z 3 [1,3,13,14],z 4 [2,3,13,15,16],z 5 [1,17],z 6 [2,17,18],z 8 [22,23,24],z 9 [26,27,28,29,30,31,32,25,33,34],(10,([0,1,2,3,4,5,6,7],[5,6,7,35,36,37])),z 11 [21,41,38,40,39,1,19,20,42],z 12 [2,42,43],z 13 [19,20,21],z 14 [44,45,46,47],(16,([0,1,2,3,4,5,6,7,8,9,10,11,12,13,14],[48,51,52,53,54,55,56,57,58,59,60,61,62,63,64])),z 17 [8,1,65],z 15 [2,65,49,50],z 18 [1,8]]
noncomputable def xc27 : XC := cdOf (chkF Tryd.prog hs27 Tryd.f27)
noncomputable def fe27 : FnE := ⟨66, [(2, none)], xc27⟩
theorem ok27 : FnOk Tryd.prog 27 fe27 := fnOk_of Tryd.func27 (by kernel_rfl : chkF Tryd.prog hs27 Tryd.f27 = some fe27)
/- 28 crimp/crimpref06.Other -/
def hs28 : Hints := [z 0 [2],z 1 [3],z 2 [0,4],z 3 [2,4,5],z 4 [0,6],z 5 [0,6,7]]
noncomputable def xc28 : XC := cdOf (chkF Tryd.prog hs28 Tryd.f28)
noncomputable def fe28 : FnE := ⟨8, [(2, none)], xc28⟩
theorem ok28 : FnOk Tryd.prog 28 fe28 := fnOk_of Tryd.func28 (by kernel_rfl : chkF Tryd.prog hs28 Tryd.f28 = some fe28)
/- 29 crimp/crimpref05.Valid -/
def hs29 : Hints := [z 0 [0,2],z 1 [1,3,4,5,6,7,8,9,10,11,12,13,14,15,16,17,18,19,20,21,22,23,24,25,26,27],z 2 [28],z 3 [28]]
noncomputable def xc29 : XC := cdOf (chkF Tryd.prog hs29 Tryd.f29)
noncomputable def fe29 : FnE := ⟨29, [(2, none)], xc29⟩
theorem ok29 : FnOk Tryd.prog 29 fe29 := fnOk_of Tryd.func29 (by kernel_rfl : chkF Tryd.prog hs29 Tryd.f29 = some fe29)
/- 30 crimp/crimpref06.Check -/
def hs30 : Hints := [z 0 [0,2],z 1 [10,11,12],z 2 [1,13],z 3 [2,13],z 4 [14,15,16,17],z 6 [18,21,22,23,24,25,26,27,28],z 7 [3,35,34,33,32,30,31,29,1,36],z 5 [2,36,19,20],z 8 [3,37,38,39],z 12 [40,41,42,43],z 14 [44],z 16 [47,48,49],(18,([0,1,2,3,4,5,6,7,8,9,10,11,12,13,14,15,16,17],[50,53,54,55,56,57,58,59,60,61,62,63,64,65,66,67,68,69])),z 19 [70,71],z 17 [70,51,52],z 20 [9,72],z 21 [7,1,4,5,6,8,73],z 22 [2,5,73,74,75],z 23 [76],z 24 [8,76,77],z 13 [45,46],z 25 [1,4,5,6,7,78]]
noncomputable def xc30 : XC := cdOf (chkF Tryd.prog hs30 Tryd.f30)
noncomputable def fe30 : FnE := ⟨79, [(2, none)], xc30⟩
theorem ok30 : FnOk Tryd.prog 30 fe30 := fnOk_of Tryd.func30 (by kernel_rfl : chkF Tryd.prog hs30 Tryd.f30 = some fe30)
/- 31 crimp/patterns.Empty -/
def hs31 : Hints := [z 0 [0,3],z 1 [5,6],z 2 [7],z 3 [1,4,8,9,10],z 4 [1,4,8,11,12]]
noncomputable def xc31 : XC := cdOf (chkF Tryd.prog hs31 Tryd.f31)
noncomputable def fe31 : FnE := ⟨13, [(2, some (some 3)), (3, none)], xc31⟩
theorem ok31 : FnOk Tryd.prog 31 fe31 := fnOk_of Tryd.func31 (by kernel_rfl : chkF Tryd.prog hs31 Tryd.f31 = some fe31)
/- 32 crimp/patterns.Same -/
def hs32 : Hints := [z 0 [0,1,4],z 1 [2,3,5,6,7,8,9,10,11,12,13,14,15,16]]
noncomputable def xc32 : XC := cdOf (chkF Tryd.prog hs32 Tryd.f32)
noncomputable def fe32 : FnE := ⟨17, [(4, none)], xc32⟩
theorem ok32 : FnOk Tryd.prog 32 fe32 := fnOk_of Tryd.func32 (by kernel_rfl : chkF Tryd.prog hs32 Tryd.f32 = some fe32)
/- 33 crimp/patterns.Fits -/
def hs33 : Hints := [z 0 [0,1,4],z 1 [2,3,5,6,7,8,9,10,11,12,13,14,15,16]]
noncomputable def xc33 : XC := cdOf (chkF Tryd.prog hs33 Tryd.f33)
noncomputable def fe33 : FnE := ⟨17, [(4, none)], xc33⟩
theorem ok33 : FnOk Tryd.prog 33 fe33 := fnOk_of Tryd.func33 (by kernel_rfl : chkF Tryd.prog hs33 Tryd.f33 = some fe33)
/- 34 crimp/patterns.Count -/
def hs34 : Hints := [z 0 [0,4],z 2 [2,8],z 4 [12,13,14],z 5 [7,15,16,17],z 6 [18,19,20],z 7 [18,21],z 8 [1,5,9,10,11,22]]
noncomputable def xc34 : XC := cdOf (chkF Tryd.prog hs34 Tryd.f34)
noncomputable def fe34 : FnE := ⟨23, [(4, none)], xc34⟩
theorem ok34 : FnOk Tryd.prog 34 fe34 := fnOk_of Tryd.func34 (by kernel_rfl : chkF Tryd.prog hs34 Tryd.f34 = some fe34)
/- 35 (crimp/crimplaw05.W).Of -/
def hs35 : Hints := [z 0 [0],z 1 [1,3,4,5,6,7,8,9,10,11,12,13]]
noncomputable def xc35 : XC := cdOf (chkF Tryd.prog hs35 Tryd.f35)
noncomputable def fe35 : FnE := ⟨14, [(2, some (some 2))], xc35⟩
theorem ok35 : FnOk Tryd.prog 35 fe35 := fnOk_of Tryd.func35 (by kernel_rfl : chkF Tryd.prog hs35 Tryd.f35 = some fe35)
/- 36 crimp/crimplaw06.crease -/
def hs36 : Hints := [z 1 [0,1,2,7,8,9,10]]
noncomputable def xc36 : XC := cdOf (chkF Tryd.prog hs36 Tryd.f36)
noncomputable def fe36 : FnE := ⟨11, [(6, some (some 3))], xc36⟩
theorem ok36 : FnOk Tryd.prog 36 fe36 := fnOk_of Tryd.func36 (by kernel_rfl : chkF Tryd.prog hs36 Tryd.f36 = some fe36)
/- 42 crimp/crimpref03.Line -/
def hs42 : Hints := [z 0 [0],z 1 [2,12,13],(2,([0,1,2,3,4,5,6,7,8,9,10,11,12,13],[1,5,14,15,16,17,18,19,20,21,22,23])),z 5 [24],z 7 [25,29,30,28,31,32],z 8 [33,34,35,36,37,38,39,40,41,42,43,44,45,46,47,48,49,50],z 9 [10,11,51,52,53,54,55,56,57,58,59,60,61,62,63],z 6 [10,11,51,26,27],z 10 [6,7,8,9,64]]
noncomputable def xc42 : XC := cdOf (chkF Tryd.prog hs42 Tryd.f42)
noncomputable def fe42 : FnE := ⟨65, [(4, some (some 2))], xc42⟩
theorem ok42 : FnOk Tryd.prog 42 fe42 := fnOk_of Tryd.func42 (by kernel_rfl : chkF Tryd.prog hs42 Tryd.f42 = some fe42)
/- 50 crimp/patterns.at -/
def hs50 : Hints := [z 0 [0,7,8,9],z 1 [15,16],z 2 [17],z 3 [1,2,3,10,18,19,20],z 4 [7,8,9,1,2,10,18,22,23,24,25,26,21,27,28],z 5 [29],z 6 [3,11,12,30,31,32],z 7 [7,8,9,3,12,30,34,35,36,37,33,38,39],z 8 [11,13,14,40,41,42]]
noncomputable def xc50 : XC := cdOf (chkF Tryd.prog hs50 Tryd.f50)
noncomputable def fe50 : FnE := ⟨43, [(6, some (some 2)), (7, none), (8, none), (9, none)], xc50⟩
theorem ok50 : FnOk Tryd.prog 50 fe50 := fnOk_of Tryd.func50 (by kernel_rfl : chkF Tryd.prog hs50 Tryd.f50 = some fe50)
/- 51 crimp/patterns.isKind -/
def hs51 : Hints := [z 0 [2],z 1 [0,3,4,5,6,7,8]]
noncomputable def xc51 : XC := cdOf (chkF Tryd.prog hs51 Tryd.f51)
noncomputable def fe51 : FnE := ⟨9, [(2, none)], xc51⟩
theorem ok51 : FnOk Tryd.prog 51 fe51 := fnOk_of Tryd.func51 (by kernel_rfl : chkF Tryd.prog hs51 Tryd.f51 = some fe51)
/- 52 slices.Clip[[]crimp/patterns.Crease,crimp/patterns.Crease] -/
def hs52 : Hints := [z 0 [2],z 1 [0,3,4,5,6,7,8]]
noncomputable def xc52 : XC := cdOf (chkF Tryd.prog hs52 Tryd.f52)
noncomputable def fe52 : FnE := ⟨9, [(2, none)], xc52⟩
theorem ok52 : FnOk Tryd.prog 52 fe52 := fnOk_of Tryd.func52 (by kernel_rfl : chkF Tryd.prog hs52 Tryd.f52 = some fe52)
/- 53 crimp/crimplaw06.on -/
def hs53 : Hints := [z 1 [0,3,4,5]]
noncomputable def xc53 : XC := cdOf (chkF Tryd.prog hs53 Tryd.f53)
noncomputable def fe53 : FnE := ⟨6, [(2, some (some 3))], xc53⟩
theorem ok53 : FnOk Tryd.prog 53 fe53 := fnOk_of Tryd.func53 (by kernel_rfl : chkF Tryd.prog hs53 Tryd.f53 = some fe53)
/- 54 crimp/crimpref05.Id -/
def hs54 : Hints := [z 0 [0,1,4],z 1 [5,6,7,8,9,10,11,12,13,14,15,16,17,18,19,20,21,22,23,24,25,26,27,28,29,30],z 2 [2,3,31],z 3 [2,3,31,32,33,34,35,36,37,38,39,40,41,42,43,44,45]]
noncomputable def xc54 : XC := cdOf (chkF Tryd.prog hs54 Tryd.f54)
noncomputable def fe54 : FnE := ⟨46, [(4, none)], xc54⟩
theorem ok54 : FnOk Tryd.prog 54 fe54 := fnOk_of Tryd.func54 (by kernel_rfl : chkF Tryd.prog hs54 Tryd.f54 = some fe54)
/- 55 crimp/crimpref03.Neighbour -/
def hs55 : Hints := [z 0 [0],z 1 [1,8,9,10],z 2 [2,11,12],z 4 [13],(6,([0,1,2,3,4,5,6,7],[14,17,18,19,20,21,22,23])),z 5 [15,16],z 7 [5,6,7,24,25]]
noncomputable def xc55 : XC := cdOf (chkF Tryd.prog hs55 Tryd.f55)
noncomputable def fe55 : FnE := ⟨26, [(4, some (some 3))], xc55⟩
theorem ok55 : FnOk Tryd.prog 55 fe55 := fnOk_of Tryd.func55 (by kernel_rfl : chkF Tryd.prog hs55 Tryd.f55 = some fe55)
/- 56 crimp/sheets.Cell -/
def hs56 : Hints := [z 0 [0,5],z 1 [7,8],z 2 [9],z 3 [1,2,6,10,11,12],z 4 [5,6,10,13,14,15],z 5 [1,2,16,17],z 6 [1,2,16,18,19,20]]
noncomputable def xc56 : XC := cdOf (chkF Tryd.prog hs56 Tryd.f56)
noncomputable def fe56 : FnE := ⟨21, [(4, some (some 3)), (5, none)], xc56⟩
theorem ok56 : FnOk Tryd.prog 56 fe56 := fnOk_of Tryd.func56 (by kernel_rfl : chkF Tryd.prog hs56 Tryd.f56 = some fe56)
/- 57 crimp/sheets.Id -/
def hs57 : Hints := [z 0 [0,1,4,5],z 1 [7,8],z 2 [9],z 3 [2,3,6,10,11],z 4 [4,5,6,10,12,13,14,15,16,17,18,19,20,21,22,23,24,25,26,27,28,29,30,31,32,33,34,35,36,37],z 5 [2,3,38],z 6 [2,3,38,39,40,41,42,43,44,45,46,47,48,49,50,51]]
noncomputable def xc57 : XC := cdOf (chkF Tryd.prog hs57 Tryd.f57)
noncomputable def fe57 : FnE := ⟨52, [(4, none), (5, none)], xc57⟩
theorem ok57 : FnOk Tryd.prog 57 fe57 := fnOk_of Tryd.func57 (by kernel_rfl : chkF Tryd.prog hs57 Tryd.f57 = some fe57)
/- 58 crimp/sheets.Name -/
def hs58 : Hints := [z 0 [0,7],z 1 [3,11,12,13,14,10,15,16],z 2 [17],z 3 [1,2,8,9,18,19,20],z 4 [1,2,8,9,18,21,22,23,24,25]]
noncomputable def xc58 : XC := cdOf (chkF Tryd.prog hs58 Tryd.f58)
noncomputable def fe58 : FnE := ⟨26, [(6, some (some 2)), (7, none)], xc58⟩
theorem ok58 : FnOk Tryd.prog 58 fe58 := fnOk_of Tryd.func58 (by kernel_rfl : chkF Tryd.prog hs58 Tryd.f58 = some fe58)
/- 59 slices.SortFunc[[]crimp/patterns.Crease,crimp/patterns.Crease] -/
def hs59 : Hints := [z 0 [5,6],z 1 [0,1,4,7,8,9,10,11,12,13]]
noncomputable def xc59 : XC := cdOf (chkF Tryd.prog hs59 Tryd.f59)
noncomputable def fe59 : FnE := ⟨14, [], xc59⟩
theorem ok59 : FnOk Tryd.prog 59 fe59 := fnOk_of Tryd.func59 (by kernel_rfl : chkF Tryd.prog hs59 Tryd.f59 = some fe59)
/- 60 crimp/patterns.Turned$1 -/
def hs60 : Hints := [z 0 [0,1,4],(1,([0,1,2,3,4,5],[2,3,5,6,7,8,9]))]
noncomputable def xc60 : XC := cdOf (chkF Tryd.prog hs60 Tryd.f60)
noncomputable def fe60 : FnE := ⟨10, [(4, none)], xc60⟩
theorem ok60 : FnOk Tryd.prog 60 fe60 := fnOk_of Tryd.func60 (by kernel_rfl : chkF Tryd.prog hs60 Tryd.f60 = some fe60)
/- 61 crimp/patterns.order -/
def hs61 : Hints := [z 0 [0,1,4],z 1 [5,6,7,8],z 2 [2,3,9,10,11,12,13,14],z 3 [2,3,9,15,16,17,18,19,20,21]]
noncomputable def xc61 : XC := cdOf (chkF Tryd.prog hs61 Tryd.f61)
noncomputable def fe61 : FnE := ⟨22, [(4, none)], xc61⟩
theorem ok61 : FnOk Tryd.prog 61 fe61 := fnOk_of Tryd.func61 (by kernel_rfl : chkF Tryd.prog hs61 Tryd.f61 = some fe61)
/- 62 (crimp/patterns.Crease).unit -/
def hs62 : Hints := [z 0 [0],z 1 [1,3,4,5,6,7]]
noncomputable def xc62 : XC := cdOf (chkF Tryd.prog hs62 Tryd.f62)
noncomputable def fe62 : FnE := ⟨8, [(2, some (some 2))], xc62⟩
theorem ok62 : FnOk Tryd.prog 62 fe62 := fnOk_of Tryd.func62 (by kernel_rfl : chkF Tryd.prog hs62 Tryd.f62 = some fe62)
/- 63 crimp/crimpref05.Ends -/
def hs63 : Hints := [z 0 [0,1],(1,([0,1,2,3,4,5,6,7,8,9,10,11,12,13,14,15,16,17,18],[2,11,12,13,14,15,16,17,18,19,20,21,22,23,24,25,26,27])),(2,([0,1,2,3,4,5,6,7,8,9,10,11],[3,5,28,29,30,31,32,33,34,35])),z 5 [36],z 7 [37],z 8 [40],(10,([0,1,2,3,4,5,6],[41,44,45,46,47,48,49])),z 11 [50,51,52,53,54,55,56],z 9 [50,42,43],z 6 [10,38,39],(12,([0,1,2,3,4,5,6,7,8,9,10,11,12,13,14,15,16,17,18,19,20,21,22,23,24,25,26,27,28,29,30],[6,7,9,86,76,85,80,84,83,82,81,79,78,77,75,70,74,73,72,71,69,68,67,57,58,59,60,61,62,63,64,65,66])),(13,([0,1,2,3,4,5,6,7],[8,87,88,89,90,91,92,93,94])),(14,([0,1,2,3,4,5,6,7],[8,87,95,96,97,98,99,100,101]))]
noncomputable def xc63 : XC := cdOf (chkF Tryd.prog hs63 Tryd.f63)
noncomputable def fe63 : FnE := ⟨102, [(4, some (some 4))], xc63⟩
theorem ok63 : FnOk Tryd.prog 63 fe63 := fnOk_of Tryd.func63 (by kernel_rfl : chkF Tryd.prog hs63 Tryd.f63 = some fe63)
/- 64 crimp/sheets.Check -/
def hs64 : Hints := [z 0 [0,2],z 1 [1,3,4,5,6,7,8,9,10,11,12,13,14,15,16,17,18,19,20,21,22,23,24,25,26,27],z 2 [28],z 3 [28]]
noncomputable def xc64 : XC := cdOf (chkF Tryd.prog hs64 Tryd.f64)
noncomputable def fe64 : FnE := ⟨29, [(2, none)], xc64⟩
theorem ok64 : FnOk Tryd.prog 64 fe64 := fnOk_of Tryd.func64 (by kernel_rfl : chkF Tryd.prog hs64 Tryd.f64 = some fe64)
/- 65 slices.ContainsFunc[[]crimp/patterns.Crease,crimp/patterns.Crease] -/
def hs65 : Hints := [z 0 [4],z 1 [0,1,5,6,7,8]]
noncomputable def xc65 : XC := cdOf (chkF Tryd.prog hs65 Tryd.f65)
noncomputable def fe65 : FnE := ⟨9, [(4, none)], xc65⟩
theorem ok65 : FnOk Tryd.prog 65 fe65 := fnOk_of Tryd.func65 (by kernel_rfl : chkF Tryd.prog hs65 Tryd.f65 = some fe65)
/- 66 crimp/patterns.Check$1 -/
def hs66 : Hints := [z 0 [0,2],z 1 [1,3,4,5,6]]
noncomputable def xc66 : XC := cdOf (chkF Tryd.prog hs66 Tryd.f66)
noncomputable def fe66 : FnE := ⟨7, [(2, none)], xc66⟩
theorem ok66 : FnOk Tryd.prog 66 fe66 := fnOk_of Tryd.func66 (by kernel_rfl : chkF Tryd.prog hs66 Tryd.f66 = some fe66)
/- 67 slices.Equal[[]crimp/patterns.Crease,crimp/patterns.Crease] -/
def hs67 : Hints := [z 0 [4],z 1 [6,7,8,9],z 2 [0,1,10],z 3 [4,10,11],z 5 [14,15],(6,([0,1,2,3,4,5,6,7,8],[5,16,17,18,19,20,21,22,23])),z 7 [13,1,0,12,24],z 8 [4,24,25],z 9 [0,1,12,13]]
noncomputable def xc67 : XC := cdOf (chkF Tryd.prog hs67 Tryd.f67)
noncomputable def fe67 : FnE := ⟨26, [(4, none)], xc67⟩
theorem ok67 : FnOk Tryd.prog 67 fe67 := fnOk_of Tryd.func67 (by kernel_rfl : chkF Tryd.prog hs67 Tryd.f67 = some fe67)
/- 68 slices.EqualFunc[[]crimp/patterns.Crease,[]crimp/patterns.Crease,crimp/patterns.Crease,crimp/patterns.Crease] -/
def hs68 : Hints := [z 0 [6],z 1 [10,11,12,13],z 2 [0,1,2,14],z 3 [6,0,14],z 5 [18,19,20,21],z 6 [7,22,23,24,25],z 7 [8,9,26,27,28,29],z 8 [17,2,1,15,16,30],z 9 [6,30,31],z 10 [1,2,15,16,17]]
noncomputable def xc68 : XC := cdOf (chkF Tryd.prog hs68 Tryd.f68)
noncomputable def fe68 : FnE := ⟨32, [(6, none)], xc68⟩
theorem ok68 : FnOk Tryd.prog 68 fe68 := fnOk_of Tryd.func68 (by kernel_rfl : chkF Tryd.prog hs68 Tryd.f68 = some fe68)
/- 69 crimp/patterns.Fits$1 -/
def hs69 : Hints := [z 0 [0,1,4],(1,([0,1,2,3,4,5,6,7,8,9,10,11,12,13,14,15,16,17],[2,3,5,6,7,8,9,10,11,12,13,14,15,16,17,18,19,20,21]))]
noncomputable def xc69 : XC := cdOf (chkF Tryd.prog hs69 Tryd.f69)
noncomputable def fe69 : FnE := ⟨22, [(4, none)], xc69⟩
theorem ok69 : FnOk Tryd.prog 69 fe69 := fnOk_of Tryd.func69 (by kernel_rfl : chkF Tryd.prog hs69 Tryd.f69 = some fe69)
/- 70 crimp/sheets.Neighbour -/
def hs70 : Hints := [z 0 [0,6,7],z 1 [1,12,13,14,11,15,16],z 2 [17],z 3 [2,3,8,9,18,19],z 4 [6,7,2,8,18,21,22,23,20,24,25],z 5 [9,26],z 6 [3,10,27],z 7 [3,10,27,28,29,30,31,32]]
noncomputable def xc70 : XC := cdOf (chkF Tryd.prog hs70 Tryd.f70)
noncomputable def fe70 : FnE := ⟨33, [(6, none), (7, none)], xc70⟩
theorem ok70 : FnOk Tryd.prog 70 fe70 := fnOk_of Tryd.func70 (by kernel_rfl : chkF Tryd.prog hs70 Tryd.f70 = some fe70)
/- 76 crimp/crimpref03.Corners -/
def hs76 : Hints := [z 0 [0],(1,([0,1,2,3,4,5,6,7],[8,9,10,11,12,13])),z 2 [14,15,16,17,18,19,20,21,22,23,24,25,26,27,28,29,30],(3,([0,1,2,3,4,5,6,7,8,9],[1,31,32,33,34,35,36,37,38])),z 4 [39,40],z 5 [41,42,43],(6,([0,1,2,3,4,5,6,7,8,9,10,11,12],[3,4,5,6,7,41,44,45,46,47,48,49,50,51,52,53,54,55]))]
noncomputable def xc76 : XC := cdOf (chkF Tryd.prog hs76 Tryd.f76)
noncomputable def fe76 : FnE := ⟨56, [(2, some (some 6))], xc76⟩
theorem ok76 : FnOk Tryd.prog 76 fe76 := fnOk_of Tryd.func76 (by kernel_rfl : chkF Tryd.prog hs76 Tryd.f76 = some fe76)
/- 77 crimp/crimpref01.Across -/
def hs77 : Hints := [z 0 [2,3],z 1 [4],z 2 [0,5],z 3 [2,3,5,6],z 4 [0,7],z 5 [2,3,0,7,8],z 6 [9],z 7 [9]]
noncomputable def xc77 : XC := cdOf (chkF Tryd.prog hs77 Tryd.f77)
noncomputable def fe77 : FnE := ⟨10, [(2, none), (3, none)], xc77⟩
theorem ok77 : FnOk Tryd.prog 77 fe77 := fnOk_of Tryd.func77 (by kernel_rfl : chkF Tryd.prog hs77 Tryd.f77 = some fe77)
/- 87 crimp/patterns.find -/
def hs87 : Hints := [z 0 [1,4,5],z 1 [0,3,6,7,8,9,10]]
noncomputable def xc87 : XC := cdOf (chkF Tryd.prog hs87 Tryd.f87)
noncomputable def fe87 : FnE := ⟨11, [(4, none), (5, none)], xc87⟩
theorem ok87 : FnOk Tryd.prog 87 fe87 := fnOk_of Tryd.func87 (by kernel_rfl : chkF Tryd.prog hs87 Tryd.f87 = some fe87)
/- 88 crimp/crimpref01.Reflect -/
def hs88 : Hints := [z 0 [0,1],z 1 [9,10,11,8,12,13],z 2 [2,14,15,16,17,18,19,20,21,22,23,24,25],z 3 [3,5,6,7,26,27,28,29,30,31,32,33,34,35,36,37,38]]
noncomputable def xc88 : XC := cdOf (chkF Tryd.prog hs88 Tryd.f88)
noncomputable def fe88 : FnE := ⟨39, [(4, some (some 2))], xc88⟩
theorem ok88 : FnOk Tryd.prog 88 fe88 := fnOk_of Tryd.func88 (by kernel_rfl : chkF Tryd.prog hs88 Tryd.f88 = some fe88)
/- 89 crimp/crimpref03.With -/
def hs89 : Hints := [z 0 [0],z 2 [10],(4,([0,1,2,3,4,5,6,7,8,9,10,11,12,13,14,15,16,17,18],[11,14,15,16,17,18,19,20,21,22,23,24,25,26])),z 5 [27,28,29,30,31],z 6 [36],z 7 [37],z 9 [38,41,42,43,44,45,46,47,48,49,50],z 10 [51,52],z 11 [9,53,54,55,56,57,62,63],z 12 [7,73,68,72,70,71,5,69,67,65,66,6,64,61,59,60,58,4,35,34,33,32,1,3,8,74,75],z 8 [8,74,39,40],z 3 [4,5,6,7,12,13],z 13 [1,3,76]]
noncomputable def xc89 : XC := cdOf (chkF Tryd.prog hs89 Tryd.f89)
noncomputable def fe89 : FnE := ⟨77, [(2, some (some 3))], xc89⟩
theorem ok89 : FnOk Tryd.prog 89 fe89 := fnOk_of Tryd.func89 (by kernel_rfl : chkF Tryd.prog hs89 Tryd.f89 = some fe89)
/- 90 (crimp/sheets.Sheet).has -/
def hs90 : Hints := [z 0 [0,4],z 1 [1,2,5,6,7,8,9,10,11,12,13,14,15,16]]
noncomputable def xc90 : XC := cdOf (chkF Tryd.prog hs90 Tryd.f90)
noncomputable def fe90 : FnE := ⟨17, [(4, none)], xc90⟩
theorem ok90 : FnOk Tryd.prog 90 fe90 := fnOk_of Tryd.func90 (by kernel_rfl : chkF Tryd.prog hs90 Tryd.f90 = some fe90)
/- 91 (crimp/sheets.Sheet).cell -/
def hs91 : Hints := [z 0 [0],(1,([0,1,2,3,4,5,6,7,8,9,10,11,12,13,14],[1,2,5,6,7,8,9,10,11,12,13,14,15,16,17,18]))]
noncomputable def xc91 : XC := cdOf (chkF Tryd.prog hs91 Tryd.f91)
noncomputable def fe91 : FnE := ⟨19, [(4, some (some 3))], xc91⟩
theorem ok91 : FnOk Tryd.prog 91 fe91 := fnOk_of Tryd.func91 (by kernel_rfl : chkF Tryd.prog hs91 Tryd.f91 = some fe91)
/- 92 crimp/cells.Check -/
def hs92 : Hints := [z 0 [0,2],z 1 [1,3,4,5,6,7,8,9,10,11,12,13,14,15,16,17,18,19,20,21,22,23,24],z 2 [25],z 3 [25]]
noncomputable def xc92 : XC := cdOf (chkF Tryd.prog hs92 Tryd.f92)
noncomputable def fe92 : FnE := ⟨26, [(2, none)], xc92⟩
theorem ok92 : FnOk Tryd.prog 92 fe92 := fnOk_of Tryd.func92 (by kernel_rfl : chkF Tryd.prog hs92 Tryd.f92 = some fe92)
/- 93 slices.pdqsortCmpFunc[crimp/patterns.Crease] -/
def hs93 : Hints := [z 2 [21,22,23],z 3 [24],z 4 [4,2,1,0,96,95,94,84,89,93,92,90,91,88,85,87,86,74,73,70,11,10,3,12,25,26,27,28,29,30],z 5 [25,31],z 6 [4,2,1,0,96,95,94,84,89,93,92,90,91,88,85,87,86,74,73,70,11,10,3,12,32,33,34,35,36,37],z 7 [32,38],z 8 [39,40,41,42,43,44],z 9 [45,46],z 10 [39,48,49,50,51,52,47,53,54],z 11 [55],z 12 [14,56,57,58,59,60,61],z 13 [62,63,64,65,66,67],z 15 [14,56,68,69,71,72],z 16 [75,76,77,78,79],(17,([0,1,2,3,4,5,6,7,8,9,10,11,12,13,14,15,16],[80,75,81,82,83])),z 18 [1,12,13,97,98,99,100,101,102,103],z 19 [15,104],z 20 [11,10,13,97,106,107,108,109,110,111,105,112,113],z 21 [17,114],z 22 [115,116,117,118,119,120],z 23 [12,121,122],z 24 [123,124],z 25 [18,19,20,125,126,127,128],z 26 [1,129,130,131,132,133,134],z 27 [16,135,136],z 28 [18,19,20,125,137,138,139],z 29 [2,140,141,142,143,144,145,146],z 30 [16,147]]
noncomputable def xc93 : XC := cdOf (chkF Tryd.prog hs93 Tryd.f93)
noncomputable def fe93 : FnE := ⟨148, [], xc93⟩
theorem ok93 : FnOk Tryd.prog 93 fe93 := fnOk_of Tryd.func93 (by kernel_rfl : chkF Tryd.prog hs93 Tryd.f93 = some fe93)
/- 94 math/bits.Len -/
def hs94 : Hints := [z 0 [2],z 1 [0,3,4,5],z 2 [0,6,7]]
noncomputable def xc94 : XC := cdOf (chkF Tryd.prog hs94 Tryd.f94)
noncomputable def fe94 : FnE := ⟨8, [(2, none)], xc94⟩
theorem ok94 : FnOk Tryd.prog 94 fe94 := fnOk_of Tryd.func94 (by kernel_rfl : chkF Tryd.prog hs94 Tryd.f94 = some fe94)
/- 95 slices.IndexFunc[[]crimp/patterns.Crease,crimp/patterns.Crease] -/
def hs95 : Hints := [z 0 [4],z 1 [6],z 3 [9,10],z 4 [11,12,13,14,15],z 5 [8,0,1,7,5,16,17],z 6 [4,5,16,18],z 7 [0,1,7,8]]
noncomputable def xc95 : XC := cdOf (chkF Tryd.prog hs95 Tryd.f95)
noncomputable def fe95 : FnE := ⟨19, [(4, none)], xc95⟩
theorem ok95 : FnOk Tryd.prog 95 fe95 := fnOk_of Tryd.func95 (by kernel_rfl : chkF Tryd.prog hs95 Tryd.f95 = some fe95)
/- 96 crimp/cells.Neighbour -/
def hs96 : Hints := [z 0 [0,5],z 1 [7,8,9,10,11,12],z 2 [1,2,13,14],z 3 [5,1,13,15,16,17,18,19,20,21],(4,([0,1,2,3,4,5,6,7,8,9,10,11,12,13],[2,22,23,24,25,26,27,28,29,30,31,32,33])),z 5 [34,35],z 6 [6,36,37],z 7 [6,36,38]]
noncomputable def xc96 : XC := cdOf (chkF Tryd.prog hs96 Tryd.f96)
noncomputable def fe96 : FnE := ⟨39, [(4, some (some 3)), (5, none)], xc96⟩
theorem ok96 : FnOk Tryd.prog 96 fe96 := fnOk_of Tryd.func96 (by kernel_rfl : chkF Tryd.prog hs96 Tryd.f96 = some fe96)
/- 100 slices.BinarySearchFunc[[]crimp/patterns.Crease,crimp/patterns.Crease,crimp/sheets.Unit] -/
def hs100 : Hints := [z 0 [1,6,7],z 1 [12,13],z 2 [14],z 3 [15,16],z 4 [17,18,19,20,21,22,23],(5,([0,1,2,3,4,5,6,7],[24,25,26,27,28,29,30])),z 6 [11,31,32,33],z 7 [11,31,34],(8,([0,1,2,3,4,5,6,7,8,9,10,11,12,13,14,15],[0,2,4,8,9,10,47,46,40,44,45,43,41,42,35,36,37,38,39,48]))]
noncomputable def xc100 : XC := cdOf (chkF Tryd.prog hs100 Tryd.f100)
noncomputable def fe100 : FnE := ⟨49, [(6, none), (7, none)], xc100⟩
theorem ok100 : FnOk Tryd.prog 100 fe100 := fnOk_of Tryd.func100 (by kernel_rfl : chkF Tryd.prog hs100 Tryd.f100 = some fe100)
/- 101 crimp/patterns.find$1 -/
def hs101 : Hints := [z 0 [0,1,4],(1,([0,1,2,3,4],[2,3,5,6,7,8]))]
noncomputable def xc101 : XC := cdOf (chkF Tryd.prog hs101 Tryd.f101)
noncomputable def fe101 : FnE := ⟨9, [(4, none)], xc101⟩
theorem ok101 : FnOk Tryd.prog 101 fe101 := fnOk_of Tryd.func101 (by kernel_rfl : chkF Tryd.prog hs101 Tryd.f101 = some fe101)
/- 102 crimp/crimpref01.Far -/
def hs102 : Hints := [z 0 [0,1,4],z 1 [8,9,10,7,11,12],z 2 [2,3,5,6,13,14,15,16,17,18,19,20,21,22,23,24,25]]
noncomputable def xc102 : XC := cdOf (chkF Tryd.prog hs102 Tryd.f102)
noncomputable def fe102 : FnE := ⟨26, [(4, none)], xc102⟩
theorem ok102 : FnOk Tryd.prog 102 fe102 := fnOk_of Tryd.func102 (by kernel_rfl : chkF Tryd.prog hs102 Tryd.f102 = some fe102)
/- 103 slices.insertionSortCmpFunc[crimp/patterns.Crease] -/
def hs103 : Hints := [z 0 [10,11],z 1 [12,13],z 3 [14,17],(4,([0,1,2,3,4,5,6,7,8,9,10,11,12,13,14,15,16],[18,19,20,21])),(6,([0,1,2,3,4,5,6,7,8,9,10,11,12,13,14,15,16,17],[34,37,38,39,40,41,42,43,44,45,46,47,48,49,50,51,52])),z 5 [35,36],z 2 [9,15,16]]
noncomputable def xc103 : XC := cdOf (chkF Tryd.prog hs103 Tryd.f103)
noncomputable def fe103 : FnE := ⟨53, [], xc103⟩
theorem ok103 : FnOk Tryd.prog 103 fe103 := fnOk_of Tryd.func103 (by kernel_rfl : chkF Tryd.prog hs103 Tryd.f103 = some fe103)
/- 112 math/bits.Len64 -/
def hs112 : Hints := [z 1 [3],z 2 [2,4,5,6],z 4 [4,7],z 5 [8,9,10],z 6 [11,12],z 7 [8,13],z 8 [14,15,16],z 9 [17,18],z 10 [0,14,19,20,21,22,23,24]]
noncomputable def xc112 : XC := cdOf (chkF Tryd.prog hs112 Tryd.f112)
noncomputable def fe112 : FnE := ⟨25, [(2, none)], xc112⟩
theorem ok112 : FnOk Tryd.prog 112 fe112 := fnOk_of Tryd.func112 (by kernel_rfl : chkF Tryd.prog hs112 Tryd.f112 = some fe112)
noncomputable def xpl : List (Nat × FnE) := [(3, fe3), (4, fe4), (5, fe5), (6, fe6), (7, fe7), (8, fe8), (14, fe14), (15, fe15), (16, fe16), (17, fe17), (18, fe18), (19, fe19), (20, fe20), (21, fe21), (22, fe22), (23, fe23), (24, fe24), (25, fe25), (26, fe26), (27, fe27), (28, fe28), (29, fe29), (30, fe30), (31, fe31), (32, fe32), (33, fe33), (34, fe34), (35, fe35), (36, fe36), (42, fe42), (50, fe50), (51, fe51), (52, fe52), (53, fe53), (54, fe54), (55, fe55), (56, fe56), (57, fe57), (58, fe58), (59, fe59), (60, fe60), (61, fe61), (62, fe62), (63, fe63), (64, fe64), (65, fe65), (66, fe66), (67, fe67), (68, fe68), (69, fe69), (70, fe70), (76, fe76), (77, fe77), (87, fe87), (88, fe88), (89, fe89), (90, fe90), (91, fe91), (92, fe92), (93, fe93), (94, fe94), (95, fe95), (96, fe96), (100, fe100), (101, fe101), (102, fe102), (103, fe103), (112, fe112)]
theorem xpOk : XpOk Tryd.prog (aget xpl) := xpOk_of (l := xpl) ⟨ok3, ok4, ok5, ok6, ok7, ok8, ok14, ok15, ok16, ok17, ok18, ok19, ok20, ok21, ok22, ok23, ok24, ok25, ok26, ok27, ok28, ok29, ok30, ok31, ok32, ok33, ok34, ok35, ok36, ok42, ok50, ok51, ok52, ok53, ok54, ok55, ok56, ok57, ok58, ok59, ok60, ok61, ok62, ok63, ok64, ok65, ok66, ok67, ok68, ok69, ok70, ok76, ok77, ok87, ok88, ok89, ok90, ok91, ok92, ok93, ok94, ok95, ok96, ok100, ok101, ok102, ok103, ok112, trivial⟩
end Go.Proofs.YtfpcbimohikhmaaDoor.X
