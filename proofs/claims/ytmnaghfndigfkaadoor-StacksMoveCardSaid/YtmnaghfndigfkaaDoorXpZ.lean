/-
 The functions of the translation, with types resolved (made by a program).
-/
import Derived.Test.YtmnaghfndigfkaaDoorProg
import Derived.Test.YtmnaghfndigfkaaDoorAb6
import Derived.KernelRfl
set_option linter.unusedVariables false
set_option maxRecDepth 1000000
namespace Go.Proofs.YtmnaghfndigfkaaDoor.X
open Go Go.Ab

abbrev z (n:Nat)(l:List Nat):Nat×(List Nat×List Nat):=(n,([],l))
noncomputable def cdOf:Option FnE→XC
 |some f=>f.xc
 |none=>.skip

/- 13 crimp/crimplaw23.StacksMove -/
def hs13:Hints:=[z 0 [1,4],z 1 [0,17,18],z 2 [20,21,22,19,23,24],z 3 [25,26],z 4 [3,5,6,7,27,28,29,30,31,32,33,34,35,36,37],z 5 [4,27],z 7 [38,39,40],(9,([0,1,2,3,4,5,6,7,8],[41,44,45,46,47,48,49,50])),z 10 [51,52,53,54,58,59,63,64],z 11 [77,74,73,72,6,7,9,5,8,67,66,65,62,61,60,57,56,55,3,136,135,129,134,133,132,130,131,128,127,125,126,193,192,186,191,190,189,187,188,185,184,182,183,162,159,161,160,158,155,154,105,102,104,103,101,98,95,97,96,94,10,68,69,70,71,75,76,78],(12,([0,1,2,3,4,5,6,7,8,9,10],[4,10,68,79,80,81,82,83,84,85,86,87,88])),z 8 [42,43],z 13 [9,89,90],z 14 [7,105,102,104,103,101,98,95,97,96,94,91,92,93,99,100],z 15 [3,5,6,8,136,135,129,134,133,132,130,131,128,127,125,126,193,192,186,191,190,189,187,188,185,184,182,183,162,159,161,160,158,155,154,106],z 16 [4,106],z 17 [107,108,109],(19,([0,1,2,3,4,5,6,7,8,9,10,11,12,13,14,15,16,17,18,19,20,21,22,23,24],[110,113,114,115,116,117,118,119,120,121,122,123,124])),z 20 [11,136,135,129,134,133,132,130,131,8,128,127,125,126,6,193,192,186,191,190,189,187,188,185,184,182,183,162,159,161,160,158,155,154,5,3,137],z 18 [4,137,111,112],z 21 [3,8,136,135,129,134,133,132,130,131,128,127,125,126,11,139,140,138,141,142],z 22 [6,12,144,145,146,143,147,148],z 23 [5,149,150],z 24 [162,159,161,160,158,155,154,7,14,151,152,153,156,157],z 25 [193,192,186,191,190,189,187,188,185,184,182,183,13,15,163],z 26 [4,163],z 27 [164,165,166],(29,([0,1,2,3,4,5,6,7,8,9,10,11,12,13,14,15,16,17,18,19,20,21,22,23,24],[167,170,171,172,173,174,175,176,177,178,179,180,181])),z 30 [16,193,192,186,191,190,189,187,188,15,185,184,182,183,13,194],z 28 [4,194,168,169],z 31 [193,192,186,191,190,189,187,188,185,184,182,183,13,15,16,195]]
noncomputable def xc13:XC:=cdOf (chkF Tryd.prog hs13 Tryd.f13)
noncomputable def fe13:FnE:=⟨196,[(4,none)],xc13⟩
theorem ok13:FnOk Tryd.prog 13 fe13:=fnOk_of Tryd.func13 (by kernel_rfl:chkF Tryd.prog hs13 Tryd.f13=some fe13)
/- 15 (crimp/crimplaw23.L).Of -/
def hs15:Hints:=[z 0 [2],z 3 [7,8,9,10,11],(5,([0,1,2,3,4,5,6,7,8,9,10,11,12,13,14,15,16,17,18,19,20,21],[14,17,18,19,20,21,22,23,24,25,26,27,28,29,30,31,32,33,34,35,36])),z 7 [37,38,39,40,41,42,43,44,45],(9,([0,1,2,3,4,5,6,7,8,9,10,11,12,13,14],[48,51,52,53,54,55,56,57,58,59,60,61,62,63,64])),z 8 [49,50],z 10 [5,6,65,66,67,68],z 4 [15,16],z 11 [0,3,4,69]]
noncomputable def xc15:XC:=cdOf (chkF Tryd.prog hs15 Tryd.f15)
noncomputable def fe15:FnE:=⟨70,[(2,none)],xc15⟩
theorem ok15:FnOk Tryd.prog 15 fe15:=fnOk_of Tryd.func15 (by kernel_rfl:chkF Tryd.prog hs15 Tryd.f15=some fe15)
/- 16 crimp/stacks.Find -/
def hs16:Hints:=[z 0 [5,6],z 1 [0],z 3 [13,14,15],z 4 [16,17,18,19],z 5 [20],z 6 [12,1,10,11,8,9,21,22,23,24],z 7 [5,6,8,9,21,25],z 8 [1,10,11,12,26]]
noncomputable def xc16:XC:=cdOf (chkF Tryd.prog hs16 Tryd.f16)
noncomputable def fe16:FnE:=⟨27,[(4,some (some 3)),(5,none),(6,none)],xc16⟩
theorem ok16:FnOk Tryd.prog 16 fe16:=fnOk_of Tryd.func16 (by kernel_rfl:chkF Tryd.prog hs16 Tryd.f16=some fe16)
/- 17 crimp/stacks.Height -/
def hs17:Hints:=[z 0 [2],z 2 [0],z 4 [9,10,11],z 5 [5,12,13,14,15,16],z 6 [17],z 7 [3,6,7,8,18]]
noncomputable def xc17:XC:=cdOf (chkF Tryd.prog hs17 Tryd.f17)
noncomputable def fe17:FnE:=⟨19,[(2,none)],xc17⟩
theorem ok17:FnOk Tryd.prog 17 fe17:=fnOk_of Tryd.func17 (by kernel_rfl:chkF Tryd.prog hs17 Tryd.f17=some fe17)
/- 18 crimp/stacks.At -/
def hs18:Hints:=[z 0 [1,4],z 1 [0],z 3 [10,11,12],z 4 [13,14,15],z 5 [9,3,7,8,6,16,17,18,19,20],z 6 [4,6,16,21],z 7 [3,7,8,9]]
noncomputable def xc18:XC:=cdOf (chkF Tryd.prog hs18 Tryd.f18)
noncomputable def fe18:FnE:=⟨22,[(4,none)],xc18⟩
theorem ok18:FnOk Tryd.prog 18 fe18:=fnOk_of Tryd.func18 (by kernel_rfl:chkF Tryd.prog hs18 Tryd.f18=some fe18)
/- 19 crimp/crimplaw23.same -/
def hs19:Hints:=[z 0 [4],z 1 [6,7,8,9,10,11,12,13,14,15,16],z 2 [0,1,17],z 3 [4,17],z 4 [18,19,20],(6,([0,1,2,3,4,5,6,7,8],[21,24,25,26,27,28,29,30,31])),z 7 [5,1,0,32],z 5 [4,32,22,23],z 8 [0,1,5]]
noncomputable def xc19:XC:=cdOf (chkF Tryd.prog hs19 Tryd.f19)
noncomputable def fe19:FnE:=⟨33,[(4,none)],xc19⟩
theorem ok19:FnOk Tryd.prog 19 fe19:=fnOk_of Tryd.func19 (by kernel_rfl:chkF Tryd.prog hs19 Tryd.f19=some fe19)
/- 21 crimp/crimplaw23.lives -/
def hs21:Hints:=[z 0 [0],z 1 [15,16],z 2 [17,18,19,20,21,22,23],z 3 [25,26,24,27,28,29],z 4 [31,32,30,33,34,35,7,8],z 5 [4,5,6,9,36,37,38,39,40,41,42,43,44,45,46,47,48,49,50,51,52,53,54,55,56,57,58,59,60,61,62,63,64,65,66,67,68,69],z 6 [1,2,3,70],z 7 [0,70,71,72],z 8 [73,74,75,76,77,78],z 9 [3,80,81,82,79,83,84,85],(10,([0,1,2,3,4,5,6,7,8,9,10,11,12,13,14,15,16,17,18,19,20,21,22,23,24,25,26,27,28,29,30,31,32,33,34,35,36,37,38,39,40,41,42,43,44,45,46,47,48,49,50,51,52,53,54,55,56],[1,2,10,11,12,13,14,86,87,88,89,90,91,92,93,94,95,96,97,98,99,100,101,102,103,104,105,106,107,108,109,110,111,112,113,114,115,116,117,118,119,120,121,122,123,124,125,126,127,128,129,130,131,132,133,134,135,136,137,138,139,140,141]))]
noncomputable def xc21:XC:=cdOf (chkF Tryd.prog hs21 Tryd.f21)
noncomputable def fe21:FnE:=⟨142,[(0,none)],xc21⟩
theorem ok21:FnOk Tryd.prog 21 fe21:=fnOk_of Tryd.func21 (by kernel_rfl:chkF Tryd.prog hs21 Tryd.f21=some fe21)
/- 22 crimp/stacks.Split -/
def hs22:Hints:=[z 0 [1,4,5,6],z 2 [15,16,14,17,18,8],z 3 [9,19],z 4 [0,3,7,20],z 5 [4,5,6,0,20],z 7 [24,25,26],z 8 [28,29,30,31,27,32,33],z 9 [13,34],z 10 [23,7,3,21,22,11,12,35],(11,([0,1,2,3,4,5,6,7,8,9],[4,5,6,11,12,35,36,37,38,39,40,41,42,43,44])),z 12 [45],(13,([0,1,2,3,4,5,6,7,8],[3,7,21,22,23,46,47,48,49,50,51]))]
noncomputable def xc22:XC:=cdOf (chkF Tryd.prog hs22 Tryd.f22)
noncomputable def fe22:FnE:=⟨52,[(4,none),(5,none),(6,none)],xc22⟩
theorem ok22:FnOk Tryd.prog 22 fe22:=fnOk_of Tryd.func22 (by kernel_rfl:chkF Tryd.prog hs22 Tryd.f22=some fe22)
/- 24 crimp/stacks.Over -/
def hs24:Hints:=[z 0 [4],z 1 [12],z 3 [0,1,13,14,15],z 5 [19,20,21],z 6 [22,23,24],z 7 [25,27,28,29,30,26,31,32],z 8 [10],(9,([0,1,2,3,4,5,6,7,8,9,10,11,12],[8,9,33,34,35,36,37,38,39,40,41,42,43,44,45])),z 10 [9,33,46,47,48,49,50],z 11 [8,51,52,53,54,55],z 12 [56],z 13 [5,16,17,18,57,58],z 14 [59],z 16 [62,63],z 17 [11,64,65,66,67,68,69,70,71],z 18 [72],z 19 [6,60,61,73,74,75]]
noncomputable def xc24:XC:=cdOf (chkF Tryd.prog hs24 Tryd.f24)
noncomputable def fe24:FnE:=⟨76,[(4,none)],xc24⟩
theorem ok24:FnOk Tryd.prog 24 fe24:=fnOk_of Tryd.func24 (by kernel_rfl:chkF Tryd.prog hs24 Tryd.f24=some fe24)
/- 26 crimp/stacks.Reverse -/
def hs26:Hints:=[z 0 [2],z 1 [6,7,8],z 2 [0],z 4 [12,13,14,15],z 5 [5,16,17,18,19,20],z 6 [4,21,22,23,24,25,26],z 7 [27],z 8 [3,9,10,11,28]]
noncomputable def xc26:XC:=cdOf (chkF Tryd.prog hs26 Tryd.f26)
noncomputable def fe26:FnE:=⟨29,[(2,none)],xc26⟩
theorem ok26:FnOk Tryd.prog 26 fe26:=fnOk_of Tryd.func26 (by kernel_rfl:chkF Tryd.prog hs26 Tryd.f26=some fe26)
/- 54 crimp/stacks.Move -/
def hs54:Hints:=[z 0 [1,4,5],z 1 [11,12,13,14,15,16],z 2 [0,3,17],z 3 [4,5,17,18,19,20],z 4 [0],z 6 [24,25,26,27],z 7 [29,30,31,32,28,33,34],z 8 [10,35],z 9 [23,6,3,21,22,8,7,9,36],z 10 [4,5,8,7,9,36,37,38,39,40,41,42,43,44],z 11 [45],z 12 [3,21,22,23,46,47],z 13 [6,48]]
noncomputable def xc54:XC:=cdOf (chkF Tryd.prog hs54 Tryd.f54)
noncomputable def fe54:FnE:=⟨49,[(4,none),(5,none)],xc54⟩
theorem ok54:FnOk Tryd.prog 54 fe54:=fnOk_of Tryd.func54 (by kernel_rfl:chkF Tryd.prog hs54 Tryd.f54=some fe54)
/- 55 crimp/moves.Check -/
def hs55:Hints:=[z 0 [0,2],z 1 [1,3,4,5,6,7,8,9,10,11,12,13,14,15,16,17,18,19,20,21,22,23,24],z 2 [25],z 3 [25]]
noncomputable def xc55:XC:=cdOf (chkF Tryd.prog hs55 Tryd.f55)
noncomputable def fe55:FnE:=⟨26,[(2,none)],xc55⟩
theorem ok55:FnOk Tryd.prog 55 fe55:=fnOk_of Tryd.func55 (by kernel_rfl:chkF Tryd.prog hs55 Tryd.f55=some fe55)
/- 56 crimp/crimpref25.Image -/
def hs56:Hints:=[z 0 [0,1],(1,([0,1,2,3,4,5],[2,3,5,6,7,8,9]))]
noncomputable def xc56:XC:=cdOf (chkF Tryd.prog hs56 Tryd.f56)
noncomputable def fe56:FnE:=⟨10,[(4,some (some 3))],xc56⟩
theorem ok56:FnOk Tryd.prog 56 fe56:=fnOk_of Tryd.func56 (by kernel_rfl:chkF Tryd.prog hs56 Tryd.f56=some fe56)
/- 57 crimp/crimpref28.Sorted -/
def hs57:Hints:=[z 0 [2],z 1 [0,6,7,8],z 3 [9,10,11],z 5 [12,15],(6,([0,1,2,3,4,5,6,7,8,9,10,11,12,13,14,15,16],[16,17,18])),(8,([0,1,2,3,4,5,6,7,8,9,10,11,12,13,14,15,16,17],[32,35,36,37,38,39,40,41,42,43,44,45,46,47,48,49,50])),z 7 [33,34],z 4 [5,13,14],z 9 [3,4,51]]
noncomputable def xc57:XC:=cdOf (chkF Tryd.prog hs57 Tryd.f57)
noncomputable def fe57:FnE:=⟨52,[(2,none)],xc57⟩
theorem ok57:FnOk Tryd.prog 57 fe57:=fnOk_of Tryd.func57 (by kernel_rfl:chkF Tryd.prog hs57 Tryd.f57=some fe57)
/- 58 crimp/moves.Inverse -/
def hs58:Hints:=[z 0 [0,3],z 1 [8,9],z 2 [1,10,11],z 3 [3,10,12,13,14,15],z 4 [4,16,17,18,19,20,21,22,23,24],z 5 [1,26,27,28,29,30,31,32,33,25,34,35],z 6 [5,6,7,36,37,38,39,40,41,42,43]]
noncomputable def xc58:XC:=cdOf (chkF Tryd.prog hs58 Tryd.f58)
noncomputable def fe58:FnE:=⟨44,[(2,some (some 3)),(3,none)],xc58⟩
theorem ok58:FnOk Tryd.prog 58 fe58:=fnOk_of Tryd.func58 (by kernel_rfl:chkF Tryd.prog hs58 Tryd.f58=some fe58)
/- 64 crimp/crimplaw23.cell -/
def hs64:Hints:=[z 1 [0,1,2,7,8,9,10]]
noncomputable def xc64:XC:=cdOf (chkF Tryd.prog hs64 Tryd.f64)
noncomputable def fe64:FnE:=⟨11,[(6,some (some 3))],xc64⟩
theorem ok64:FnOk Tryd.prog 64 fe64:=fnOk_of Tryd.func64 (by kernel_rfl:chkF Tryd.prog hs64 Tryd.f64=some fe64)
/- 65 slices.Index[[]int,int] -/
def hs65:Hints:=[z 0 [4],z 1 [6],z 3 [9,10],z 4 [11,12,13,14,15],z 5 [8,0,1,7,5,16,17],z 6 [4,5,16,18],z 7 [0,1,7,8]]
noncomputable def xc65:XC:=cdOf (chkF Tryd.prog hs65 Tryd.f65)
noncomputable def fe65:FnE:=⟨19,[(4,none)],xc65⟩
theorem ok65:FnOk Tryd.prog 65 fe65:=fnOk_of Tryd.func65 (by kernel_rfl:chkF Tryd.prog hs65 Tryd.f65=some fe65)
/- 66 slices.Clip[[]int,int] -/
def hs66:Hints:=[z 0 [2],z 1 [0,3,4,5,6,7,8]]
noncomputable def xc66:XC:=cdOf (chkF Tryd.prog hs66 Tryd.f66)
noncomputable def fe66:FnE:=⟨9,[(2,none)],xc66⟩
theorem ok66:FnOk Tryd.prog 66 fe66:=fnOk_of Tryd.func66 (by kernel_rfl:chkF Tryd.prog hs66 Tryd.f66=some fe66)
/- 67 slices.Clone[[]int,int] -/
def hs67:Hints:=[z 0 [2],z 1 [3],z 2 [0,4],z 3 [0,4,5,6,7]]
noncomputable def xc67:XC:=cdOf (chkF Tryd.prog hs67 Tryd.f67)
noncomputable def fe67:FnE:=⟨8,[(2,none)],xc67⟩
theorem ok67:FnOk Tryd.prog 67 fe67:=fnOk_of Tryd.func67 (by kernel_rfl:chkF Tryd.prog hs67 Tryd.f67=some fe67)
/- 71 crimp/moves.Of -/
def hs71:Hints:=[z 0 [0,3],z 1 [4,5],z 2 [1,6,7],z 3 [3,6,8],z 4 [11],z 5 [1,9,10,12,13,14,15],z 6 [10,17],z 7 [1,9,16,18,19,20,21],z 8 [9,16,23],z 9 [1,22,24,25,26,27,28],z 10 [1,22,29,30,31,32,33,34]]
noncomputable def xc71:XC:=cdOf (chkF Tryd.prog hs71 Tryd.f71)
noncomputable def fe71:FnE:=⟨35,[(2,some (some 3)),(3,none)],xc71⟩
theorem ok71:FnOk Tryd.prog 71 fe71:=fnOk_of Tryd.func71 (by kernel_rfl:chkF Tryd.prog hs71 Tryd.f71=some fe71)
/- 72 crimp/cells.Side -/
def hs72:Hints:=[z 0 [0,1,4,5],z 1 [3,11,12,10,13,14],z 2 [7,15,16,17,18,19,20],z 3 [2,6,21],z 4 [4,5,6,21],z 6 [24,25],z 7 [9,26,27,28],z 8 [23,2,22,29],z 9 [4,5,29,30],z 10 [2,22,23]]
noncomputable def xc72:XC:=cdOf (chkF Tryd.prog hs72 Tryd.f72)
noncomputable def fe72:FnE:=⟨31,[(4,none),(5,none)],xc72⟩
theorem ok72:FnOk Tryd.prog 72 fe72:=fnOk_of Tryd.func72 (by kernel_rfl:chkF Tryd.prog hs72 Tryd.f72=some fe72)
/- 73 crimp/stacks.copied -/
def hs73:Hints:=[z 0 [0],(1,([0,1,2,3,4,5,6,7],[1,3,4,5,6,7,8,9]))]
noncomputable def xc73:XC:=cdOf (chkF Tryd.prog hs73 Tryd.f73)
noncomputable def fe73:FnE:=⟨10,[(2,some (some 4))],xc73⟩
theorem ok73:FnOk Tryd.prog 73 fe73:=fnOk_of Tryd.func73 (by kernel_rfl:chkF Tryd.prog hs73 Tryd.f73=some fe73)
/- 74 slices.Clip[[]crimp/stacks.Stack,crimp/stacks.Stack] -/
def hs74:Hints:=[z 0 [2],z 1 [0,3,4,5,6,7,8]]
noncomputable def xc74:XC:=cdOf (chkF Tryd.prog hs74 Tryd.f74)
noncomputable def fe74:FnE:=⟨9,[(2,none)],xc74⟩
theorem ok74:FnOk Tryd.prog 74 fe74:=fnOk_of Tryd.func74 (by kernel_rfl:chkF Tryd.prog hs74 Tryd.f74=some fe74)
/- 75 crimp/crimpref25.Inside -/
def hs75:Hints:=[z 0 [0],z 1 [1,4,5],z 2 [3,6,7,8,9,10,11,12,13,14,15,16,17,18,19,20,21,22,23,24,25,26,27,28,29,30]]
noncomputable def xc75:XC:=cdOf (chkF Tryd.prog hs75 Tryd.f75)
noncomputable def fe75:FnE:=⟨31,[(2,some (some 2))],xc75⟩
theorem ok75:FnOk Tryd.prog 75 fe75:=fnOk_of Tryd.func75 (by kernel_rfl:chkF Tryd.prog hs75 Tryd.f75=some fe75)
/- 76 slices.Concat[[]crimp/stacks.Stack,crimp/stacks.Stack] -/
def hs76:Hints:=[z 0 [2],z 4 [12,13,14],z 5 [5,15,16,17,18],z 6 [19],z 7 [20,21],z 8 [20,22],z 9 [3,9,10,11,23,24],z 10 [0],z 12 [28,29,30],z 13 [8,31,32,33],z 14 [34],z 15 [6,25,26,27,35]]
noncomputable def xc76:XC:=cdOf (chkF Tryd.prog hs76 Tryd.f76)
noncomputable def fe76:FnE:=⟨36,[(2,none)],xc76⟩
theorem ok76:FnOk Tryd.prog 76 fe76:=fnOk_of Tryd.func76 (by kernel_rfl:chkF Tryd.prog hs76 Tryd.f76=some fe76)
/- 77 slices.SortFunc[[]crimp/stacks.Stack,crimp/stacks.Stack] -/
def hs77:Hints:=[z 0 [5,6],z 1 [0,1,4,7,8,9,10,11,12,13]]
noncomputable def xc77:XC:=cdOf (chkF Tryd.prog hs77 Tryd.f77)
noncomputable def fe77:FnE:=⟨14,[],xc77⟩
theorem ok77:FnOk Tryd.prog 77 fe77:=fnOk_of Tryd.func77 (by kernel_rfl:chkF Tryd.prog hs77 Tryd.f77=some fe77)
/- 78 crimp/stacks.Over$1 -/
def hs78:Hints:=[z 0 [0,1,4],z 1 [2,3,5,6,7,8,9]]
noncomputable def xc78:XC:=cdOf (chkF Tryd.prog hs78 Tryd.f78)
noncomputable def fe78:FnE:=⟨10,[(4,none)],xc78⟩
theorem ok78:FnOk Tryd.prog 78 fe78:=fnOk_of Tryd.func78 (by kernel_rfl:chkF Tryd.prog hs78 Tryd.f78=some fe78)
/- 79 crimp/cells.Compare -/
def hs79:Hints:=[z 0 [0,1,4],z 1 [2,3,5,6,7,8,9,10,11,12,13,14,15,16,17,18,19,20,21,22,23]]
noncomputable def xc79:XC:=cdOf (chkF Tryd.prog hs79 Tryd.f79)
noncomputable def fe79:FnE:=⟨24,[(4,none)],xc79⟩
theorem ok79:FnOk Tryd.prog 79 fe79:=fnOk_of Tryd.func79 (by kernel_rfl:chkF Tryd.prog hs79 Tryd.f79=some fe79)
/- 80 slices.Clone[[]crimp/stacks.Stack,crimp/stacks.Stack] -/
def hs80:Hints:=[z 0 [2],z 1 [3],z 2 [0,4],z 3 [0,4,5,6,7]]
noncomputable def xc80:XC:=cdOf (chkF Tryd.prog hs80 Tryd.f80)
noncomputable def fe80:FnE:=⟨8,[(2,none)],xc80⟩
theorem ok80:FnOk Tryd.prog 80 fe80:=fnOk_of Tryd.func80 (by kernel_rfl:chkF Tryd.prog hs80 Tryd.f80=some fe80)
/- 81 slices.Reverse[[]int,int] -/
def hs81:Hints:=[z 0 [4,5,6],z 1 [7,8],(3,([0,1,2,3,4,5,6,7,8,9,10,11,12,13,14,15],[9,14,15,16,17,18,19,20,21,22,23,24,25,26,27])),z 2 [10,11,12,13]]
noncomputable def xc81:XC:=cdOf (chkF Tryd.prog hs81 Tryd.f81)
noncomputable def fe81:FnE:=⟨28,[],xc81⟩
theorem ok81:FnOk Tryd.prog 81 fe81:=fnOk_of Tryd.func81 (by kernel_rfl:chkF Tryd.prog hs81 Tryd.f81=some fe81)
/- 86 crimp/cells.Check -/
def hs86:Hints:=[z 0 [0,2],z 1 [1,3,4,5,6,7,8,9,10,11,12,13,14,15,16,17,18,19,20,21,22,23,24],z 2 [25],z 3 [25]]
noncomputable def xc86:XC:=cdOf (chkF Tryd.prog hs86 Tryd.f86)
noncomputable def fe86:FnE:=⟨26,[(2,none)],xc86⟩
theorem ok86:FnOk Tryd.prog 86 fe86:=fnOk_of Tryd.func86 (by kernel_rfl:chkF Tryd.prog hs86 Tryd.f86=some fe86)
/- 93 crimp/cells.Move -/
def hs93:Hints:=[z 0 [0,1,5],z 1 [7,8,9,10,11,12,13],z 2 [2,3,14,15],z 3 [5,2,3,14,16,17,18],z 4 [19,20],z 5 [6,21,22],z 6 [6,21,23]]
noncomputable def xc93:XC:=cdOf (chkF Tryd.prog hs93 Tryd.f93)
noncomputable def fe93:FnE:=⟨24,[(4,some (some 3)),(5,none)],xc93⟩
theorem ok93:FnOk Tryd.prog 93 fe93:=fnOk_of Tryd.func93 (by kernel_rfl:chkF Tryd.prog hs93 Tryd.f93=some fe93)
/- 104 slices.ContainsFunc[[]crimp/stacks.Stack,crimp/stacks.Stack] -/
def hs104:Hints:=[z 0 [4],z 1 [0,1,5,6,7,8]]
noncomputable def xc104:XC:=cdOf (chkF Tryd.prog hs104 Tryd.f104)
noncomputable def fe104:FnE:=⟨9,[(4,none)],xc104⟩
theorem ok104:FnOk Tryd.prog 104 fe104:=fnOk_of Tryd.func104 (by kernel_rfl:chkF Tryd.prog hs104 Tryd.f104=some fe104)
/- 105 crimp/stacks.Move$1 -/
def hs105:Hints:=[z 0 [0,2],z 1 [1,3,4,5,6]]
noncomputable def xc105:XC:=cdOf (chkF Tryd.prog hs105 Tryd.f105)
noncomputable def fe105:FnE:=⟨7,[(2,none)],xc105⟩
theorem ok105:FnOk Tryd.prog 105 fe105:=fnOk_of Tryd.func105 (by kernel_rfl:chkF Tryd.prog hs105 Tryd.f105=some fe105)
/- 106 slices.SortStableFunc[[]crimp/stacks.Stack,crimp/stacks.Stack] -/
def hs106:Hints:=[z 0 [0,1,4,5,6,7,8]]
noncomputable def xc106:XC:=cdOf (chkF Tryd.prog hs106 Tryd.f106)
noncomputable def fe106:FnE:=⟨9,[],xc106⟩
theorem ok106:FnOk Tryd.prog 106 fe106:=fnOk_of Tryd.func106 (by kernel_rfl:chkF Tryd.prog hs106 Tryd.f106=some fe106)
/- 107 crimp/stacks.Move$2 -/
def hs107:Hints:=[z 0 [0,1,4],z 1 [2,3,5,6,7,8,9]]
noncomputable def xc107:XC:=cdOf (chkF Tryd.prog hs107 Tryd.f107)
noncomputable def fe107:FnE:=⟨10,[(4,none)],xc107⟩
theorem ok107:FnOk Tryd.prog 107 fe107:=fnOk_of Tryd.func107 (by kernel_rfl:chkF Tryd.prog hs107 Tryd.f107=some fe107)
/- 108 crimp/moves.beyond -/
def hs108:Hints:=[z 0 [2],z 1 [0,3,4,5,6,7,8]]
noncomputable def xc108:XC:=cdOf (chkF Tryd.prog hs108 Tryd.f108)
noncomputable def fe108:FnE:=⟨9,[(2,none)],xc108⟩
theorem ok108:FnOk Tryd.prog 108 fe108:=fnOk_of Tryd.func108 (by kernel_rfl:chkF Tryd.prog hs108 Tryd.f108=some fe108)
/- 109 crimp/crimpref25.At -/
def hs109:Hints:=[z 0 [0],(1,([0,1,2,3,4,5,6,7,8],[6,7,8,9,10,11,12])),(2,([0,1,2,3,4,5,6,7,8,9,10,11,12,13],[1,13,14,15,16,17,18,19,20,21,22,23,24])),z 4 [27,28,29,30,31,32,33,34,35],z 5 [4,5,26,36],z 6 [26,38,39,40],z 7 [4,5,37,41],z 8 [4,5,37,43,44,45,46],z 9 [42,47],z 3 [42,25],z 10 [3,48]]
noncomputable def xc109:XC:=cdOf (chkF Tryd.prog hs109 Tryd.f109)
noncomputable def fe109:FnE:=⟨49,[(2,some (some 3))],xc109⟩
theorem ok109:FnOk Tryd.prog 109 fe109:=fnOk_of Tryd.func109 (by kernel_rfl:chkF Tryd.prog hs109 Tryd.f109=some fe109)
/- 110 crimp/crimpref25.Go -/
def hs110:Hints:=[z 0 [0,1],(1,([0,1,2,3,4,5],[3,8,9,10,11])),z 2 [12,13],z 3 [14,15,16],z 4 [14],z 5 [17,18,19,20,21],z 7 [22,25,26,27],z 6 [23,24],z 8 [2,5,6,7,28,29,30,31,32,33,34,35,36,37,38]]
noncomputable def xc110:XC:=cdOf (chkF Tryd.prog hs110 Tryd.f110)
noncomputable def fe110:FnE:=⟨39,[(4,some (some 2))],xc110⟩
theorem ok110:FnOk Tryd.prog 110 fe110:=fnOk_of Tryd.func110 (by kernel_rfl:chkF Tryd.prog hs110 Tryd.f110=some fe110)
/- 111 crimp/crimpref28.after -/
def hs111:Hints:=[z 0 [0,1,4],z 1 [2,3,5,6,7,8,9,10,11,12,13,14,15,16,17,18,19,20,21,22,23,24,25,26,27,28,29,30,31,32,33,34,35,36],z 2 [37],z 3 [37]]
noncomputable def xc111:XC:=cdOf (chkF Tryd.prog hs111 Tryd.f111)
noncomputable def fe111:FnE:=⟨38,[(4,none)],xc111⟩
theorem ok111:FnOk Tryd.prog 111 fe111:=fnOk_of Tryd.func111 (by kernel_rfl:chkF Tryd.prog hs111 Tryd.f111=some fe111)
/- 112 (crimp/moves.matrix).of -/
def hs112:Hints:=[z 0 [0,6,7],(1,([0,1,2,3,4,5,6,7,8,9,10,11,12,13,14,15,16,17,18,19],[1,2,3,8,9,10,11,12,13,14,15,16,17,18,19,20,21,22,23,24,25]))]
noncomputable def xc112:XC:=cdOf (chkF Tryd.prog hs112 Tryd.f112)
noncomputable def fe112:FnE:=⟨26,[(6,none),(7,none)],xc112⟩
theorem ok112:FnOk Tryd.prog 112 fe112:=fnOk_of Tryd.func112 (by kernel_rfl:chkF Tryd.prog hs112 Tryd.f112=some fe112)
/- 113 crimp/moves.limited -/
def hs113:Hints:=[z 0 [0,3],z 1 [4,5],z 2 [1,6,7],z 3 [1,6,8]]
noncomputable def xc113:XC:=cdOf (chkF Tryd.prog hs113 Tryd.f113)
noncomputable def fe113:FnE:=⟨9,[(2,some (some 3)),(3,none)],xc113⟩
theorem ok113:FnOk Tryd.prog 113 fe113:=fnOk_of Tryd.func113 (by kernel_rfl:chkF Tryd.prog hs113 Tryd.f113=some fe113)
/- 114 crimp/moves.number -/
def hs114:Hints:=[z 0 [0,2],z 3 [7,8,9],z 4 [4,10,11],z 5 [6,1,5,3,12,13,14],z 6 [2,3,12,15],z 7 [1,5,6]]
noncomputable def xc114:XC:=cdOf (chkF Tryd.prog hs114 Tryd.f114)
noncomputable def fe114:FnE:=⟨16,[(2,none)],xc114⟩
theorem ok114:FnOk Tryd.prog 114 fe114:=fnOk_of Tryd.func114 (by kernel_rfl:chkF Tryd.prog hs114 Tryd.f114=some fe114)
/- 120 crimp/lines.Check -/
def hs120:Hints:=[z 0 [0,2],z 1 [1,3,4,5,6,7,8,9,10,11,12,13,14,15,16,17,18,19],z 2 [20],z 3 [20]]
noncomputable def xc120:XC:=cdOf (chkF Tryd.prog hs120 Tryd.f120)
noncomputable def fe120:FnE:=⟨21,[(2,none)],xc120⟩
theorem ok120:FnOk Tryd.prog 120 fe120:=fnOk_of Tryd.func120 (by kernel_rfl:chkF Tryd.prog hs120 Tryd.f120=some fe120)
/- 121 crimp/cells.Corners -/
def hs121:Hints:=[z 0 [0,3],z 1 [7,8],z 2 [1,9,10],z 3 [3,9,11,12,13,14],z 4 [4,15,16,17,18,19,20],z 7 [22,23],(8,([0,1,2,3,4,5,6,7,8,9,10],[24,25,26,27,28,29,30,31,32,33])),(9,([0,1,2,3,4,5,6,7,8,9,10],[6,34,35,36,37,38,39,40,41,42,43])),z 10 [44],z 11 [1,5,21,45]]
noncomputable def xc121:XC:=cdOf (chkF Tryd.prog hs121 Tryd.f121)
noncomputable def fe121:FnE:=⟨46,[(2,some (some 6)),(3,none)],xc121⟩
theorem ok121:FnOk Tryd.prog 121 fe121:=fnOk_of Tryd.func121 (by kernel_rfl:chkF Tryd.prog hs121 Tryd.f121=some fe121)
/- 122 crimp/lines.Side -/
def hs122:Hints:=[z 0 [0,1,4],z 1 [6,7,8,9,10,11,12],z 2 [2,3,13],(3,([0,1,2,3,4,5,6,7],[4,3,13,14,15,16,17,18,19,20])),z 4 [22,23,24,25,26],z 5 [2,5,21],z 6 [2,5,21,28,29,30,31,32],z 7 [27],z 8 [27]]
noncomputable def xc122:XC:=cdOf (chkF Tryd.prog hs122 Tryd.f122)
noncomputable def fe122:FnE:=⟨33,[(4,none)],xc122⟩
theorem ok122:FnOk Tryd.prog 122 fe122:=fnOk_of Tryd.func122 (by kernel_rfl:chkF Tryd.prog hs122 Tryd.f122=some fe122)
/- 123 crimp/crimpref25.Corners -/
def hs123:Hints:=[z 0 [0],(1,([0,1,2,3,4,5,6,7],[6,7,8,9,10,11])),z 2 [12,13,14,15,16],z 3 [1,17],z 4 [20],z 5 [3,4,5,18,19,21,22,23,24,25,26,27,28,29],z 6 [19,31],z 7 [3,4,5,18,30,32,33,34,35,36,37,38,39,40,41,42],z 8 [18,30,44],z 9 [3,4,5,43,45,46,47,48,49,50,51,52,53,54,55],z 10 [3,4,5,43,56,57,58,59,60,61,62,63,64]]
noncomputable def xc123:XC:=cdOf (chkF Tryd.prog hs123 Tryd.f123)
noncomputable def fe123:FnE:=⟨65,[(2,some (some 6))],xc123⟩
theorem ok123:FnOk Tryd.prog 123 fe123:=fnOk_of Tryd.func123 (by kernel_rfl:chkF Tryd.prog hs123 Tryd.f123=some fe123)
/- 124 slices.Grow[[]crimp/stacks.Stack,crimp/stacks.Stack] -/
def hs124:Hints:=[z 0 [4],z 1 [5],z 2 [6,7],z 3 [6,8,9,10,11,12,13,14],z 4 [15],z 5 [1,16,17,18,19,20,21,22,23,24,25],z 6 [0,1,16,26]]
noncomputable def xc124:XC:=cdOf (chkF Tryd.prog hs124 Tryd.f124)
noncomputable def fe124:FnE:=⟨27,[(4,none)],xc124⟩
theorem ok124:FnOk Tryd.prog 124 fe124:=fnOk_of Tryd.func124 (by kernel_rfl:chkF Tryd.prog hs124 Tryd.f124=some fe124)
/- 125 slices.pdqsortCmpFunc[crimp/stacks.Stack] -/
def hs125:Hints:=[z 2 [21,22,23],z 3 [24],z 4 [4,2,1,0,96,95,94,84,89,93,92,90,91,88,85,87,86,74,73,70,11,10,3,12,25,26,27,28,29,30],z 5 [25,31],z 6 [4,2,1,0,96,95,94,84,89,93,92,90,91,88,85,87,86,74,73,70,11,10,3,12,32,33,34,35,36,37],z 7 [32,38],z 8 [39,40,41,42,43,44],z 9 [45,46],z 10 [39,48,49,50,51,52,47,53,54],z 11 [55],z 12 [14,56,57,58,59,60,61],z 13 [62,63,64,65,66,67],z 15 [14,56,68,69,71,72],z 16 [75,76,77,78,79],(17,([0,1,2,3,4,5,6,7,8,9,10,11,12,13,14,15,16],[80,75,81,82,83])),z 18 [1,12,13,97,98,99,100,101,102,103],z 19 [15,104],z 20 [11,10,13,97,106,107,108,109,110,111,105,112,113],z 21 [17,114],z 22 [115,116,117,118,119,120],z 23 [12,121,122],z 24 [123,124],z 25 [18,19,20,125,126,127,128],z 26 [1,129,130,131,132,133,134],z 27 [16,135,136],z 28 [18,19,20,125,137,138,139],z 29 [2,140,141,142,143,144,145,146],z 30 [16,147]]
noncomputable def xc125:XC:=cdOf (chkF Tryd.prog hs125 Tryd.f125)
noncomputable def fe125:FnE:=⟨148,[],xc125⟩
theorem ok125:FnOk Tryd.prog 125 fe125:=fnOk_of Tryd.func125 (by kernel_rfl:chkF Tryd.prog hs125 Tryd.f125=some fe125)
/- 126 math/bits.Len -/
def hs126:Hints:=[z 0 [2],z 1 [0,3,4,5],z 2 [0,6,7]]
noncomputable def xc126:XC:=cdOf (chkF Tryd.prog hs126 Tryd.f126)
noncomputable def fe126:FnE:=⟨8,[(2,none)],xc126⟩
theorem ok126:FnOk Tryd.prog 126 fe126:=fnOk_of Tryd.func126 (by kernel_rfl:chkF Tryd.prog hs126 Tryd.f126=some fe126)
/- 127 crimp/cells.order[int] -/
def hs127:Hints:=[z 0 [2],z 1 [0],z 3 [9,10,11],z 4 [4,12,13,14,15,16],z 5 [17],z 6 [8,6,7,5,18,19],z 7 [2,5,18,20],z 8 [6,7,8]]
noncomputable def xc127:XC:=cdOf (chkF Tryd.prog hs127 Tryd.f127)
noncomputable def fe127:FnE:=⟨21,[(2,none)],xc127⟩
theorem ok127:FnOk Tryd.prog 127 fe127:=fnOk_of Tryd.func127 (by kernel_rfl:chkF Tryd.prog hs127 Tryd.f127=some fe127)
/- 132 crimp/cells.moved -/
def hs132:Hints:=[z 0 [0,1],(1,([0,1,2,3,4,5,6,7,8,9,10],[3,10,11,12,13,14,15,16])),z 2 [18,19,20,17,21,22],z 3 [23,24],z 4 [2,26,27,28,25,29,30],z 5 [5,31,32,33,34,35,36,37,38,39,40,41,42,43,44,45],z 8 [48,49,50],z 9 [9,51,52,53],z 10 [8,54,55,56,57],z 11 [8,54,58],z 12 [6,7,46,47,59]]
noncomputable def xc132:XC:=cdOf (chkF Tryd.prog hs132 Tryd.f132)
noncomputable def fe132:FnE:=⟨60,[(4,some (some 3))],xc132⟩
theorem ok132:FnOk Tryd.prog 132 fe132:=fnOk_of Tryd.func132 (by kernel_rfl:chkF Tryd.prog hs132 Tryd.f132=some fe132)
/- 145 slices.IndexFunc[[]crimp/stacks.Stack,crimp/stacks.Stack] -/
def hs145:Hints:=[z 0 [4],z 1 [6],z 3 [9,10],z 4 [11,12,13,14,15],z 5 [8,0,1,7,5,16,17],z 6 [4,5,16,18],z 7 [0,1,7,8]]
noncomputable def xc145:XC:=cdOf (chkF Tryd.prog hs145 Tryd.f145)
noncomputable def fe145:FnE:=⟨19,[(4,none)],xc145⟩
theorem ok145:FnOk Tryd.prog 145 fe145:=fnOk_of Tryd.func145 (by kernel_rfl:chkF Tryd.prog hs145 Tryd.f145=some fe145)
/- 146 slices.stableCmpFunc[crimp/stacks.Stack] -/
def hs146:Hints:=[z 1 [10],z 2 [11,12],z 3 [7,13,14,15,16,17,18],z 4 [19],z 5 [20,21,22],z 6 [7,8,23,24,25,26,27],z 7 [28,29],z 8 [30,31,32],z 9 [33,34],z 10 [7,35,36,37,38,39,40,41,42,43],z 11 [44],z 12 [45,46,47,48],z 13 [8,49,50,51],z 14 [52,53],z 15 [7,9,54,55,56,57,58,59,60],z 16 [7,9,54,61,62]]
noncomputable def xc146:XC:=cdOf (chkF Tryd.prog hs146 Tryd.f146)
noncomputable def fe146:FnE:=⟨63,[],xc146⟩
theorem ok146:FnOk Tryd.prog 146 fe146:=fnOk_of Tryd.func146 (by kernel_rfl:chkF Tryd.prog hs146 Tryd.f146=some fe146)
/- 147 crimp/crimpref25.down -/
def hs147:Hints:=[z 0 [4],z 1 [5],z 2 [0,1,6,7,8,9,10,11,12,13,14],z 3 [0,1,6,15,16,17]]
noncomputable def xc147:XC:=cdOf (chkF Tryd.prog hs147 Tryd.f147)
noncomputable def fe147:FnE:=⟨18,[(4,none)],xc147⟩
theorem ok147:FnOk Tryd.prog 147 fe147:=fnOk_of Tryd.func147 (by kernel_rfl:chkF Tryd.prog hs147 Tryd.f147=some fe147)
/- 151 crimp/lines.CheckPoint -/
def hs151:Hints:=[z 0 [0,2],z 1 [1,3,4,5,6,7,8,9,10,11,12,13,14,15,16,17,18,19],z 2 [20],z 3 [20]]
noncomputable def xc151:XC:=cdOf (chkF Tryd.prog hs151 Tryd.f151)
noncomputable def fe151:FnE:=⟨21,[(2,none)],xc151⟩
theorem ok151:FnOk Tryd.prog 151 fe151:=fnOk_of Tryd.func151 (by kernel_rfl:chkF Tryd.prog hs151 Tryd.f151=some fe151)
/- 152 crimp/lines.rules -/
def hs152:Hints:=[z 1 [2],z 2 [1,3,4,5,6,7,8,9]]
noncomputable def xc152:XC:=cdOf (chkF Tryd.prog hs152 Tryd.f152)
noncomputable def fe152:FnE:=⟨10,[(0,some (some 15))],xc152⟩
theorem ok152:FnOk Tryd.prog 152 fe152:=fnOk_of Tryd.func152 (by kernel_rfl:chkF Tryd.prog hs152 Tryd.f152=some fe152)
/- 153 slices.insertionSortCmpFunc[crimp/stacks.Stack] -/
def hs153:Hints:=[z 0 [10,11],z 1 [12,13],z 3 [14,17],(4,([0,1,2,3,4,5,6,7,8,9,10,11,12,13,14,15,16],[18,19,20,21])),(6,([0,1,2,3,4,5,6,7,8,9,10,11,12,13,14,15,16,17],[34,37,38,39,40,41,42,43,44,45,46,47,48,49,50,51,52])),z 5 [35,36],z 2 [9,15,16]]
noncomputable def xc153:XC:=cdOf (chkF Tryd.prog hs153 Tryd.f153)
noncomputable def fe153:FnE:=⟨53,[],xc153⟩
theorem ok153:FnOk Tryd.prog 153 fe153:=fnOk_of Tryd.func153 (by kernel_rfl:chkF Tryd.prog hs153 Tryd.f153=some fe153)
/- 154 slices.heapSortCmpFunc[crimp/stacks.Stack] -/
def hs154:Hints:=[z 0 [13],z 2 [1,2,14,15,16],z 3 [17,18,19],z 4 [20],z 6 [21,24,25,26,27,28,29],z 5 [22,23],z 7 [10,11,30,31],z 8 [32],(10,([0,1,2,3,4,5,6,7,8,9,10,11,12,13,14,15,16,17,18,19],[33,36,37,38,39,40,41,42,43,44,45,46,47,48,49,50,51,52,53])),z 11 [54,55,56,57,58,59],z 9 [34,35]]
noncomputable def xc154:XC:=cdOf (chkF Tryd.prog hs154 Tryd.f154)
noncomputable def fe154:FnE:=⟨60,[],xc154⟩
theorem ok154:FnOk Tryd.prog 154 fe154:=fnOk_of Tryd.func154 (by kernel_rfl:chkF Tryd.prog hs154 Tryd.f154=some fe154)
/- 155 slices.breakPatternsCmpFunc[crimp/stacks.Stack] -/
def hs155:Hints:=[z 0 [2,3,13,14,15],z 1 [16],z 2 [17,18,19],z 3 [20,21],z 4 [22,23,24,25,26,27],z 5 [28,29,30,31,32,33,34],z 7 [35,38,39,40,41,42],z 8 [43,44],z 9 [45,46,47,48],(10,([0,1,2,3,4,5,6,7,8,9,10,11,12,13,14,15,16,17,18,19],[12,45,49,50,51,52,53,54,55,56,57,58,59,60,61,62,63,64,65,66])),z 6 [36,37]]
noncomputable def xc155:XC:=cdOf (chkF Tryd.prog hs155 Tryd.f155)
noncomputable def fe155:FnE:=⟨67,[],xc155⟩
theorem ok155:FnOk Tryd.prog 155 fe155:=fnOk_of Tryd.func155 (by kernel_rfl:chkF Tryd.prog hs155 Tryd.f155=some fe155)
/- 156 slices.choosePivotCmpFunc[crimp/stacks.Stack] -/
def hs156:Hints:=[z 0 [8,9],z 1 [2,15,16,17],z 3 [18,19,20,21,22],z 4 [23,24,25,26,27],z 5 [1,28,29,30,31,32],z 6 [33],z 7 [10,34,35],z 8 [36,37,38,39,40],z 9 [41,42,43,44],z 10 [45,46,47,48],z 11 [0,3,12,14,36,49,50,51,52,53,54],z 12 [11,0,3,10,12,14,34],z 14 [58],z 15 [13,55,57,59],z 16 [55,57,61],z 17 [13,60,62],z 13 [13,60,56]]
noncomputable def xc156:XC:=cdOf (chkF Tryd.prog hs156 Tryd.f156)
noncomputable def fe156:FnE:=⟨63,[(8,none),(9,none)],xc156⟩
theorem ok156:FnOk Tryd.prog 156 fe156:=fnOk_of Tryd.func156 (by kernel_rfl:chkF Tryd.prog hs156 Tryd.f156=some fe156)
/- 157 slices.reverseRangeCmpFunc[crimp/stacks.Stack] -/
def hs157:Hints:=[z 0 [1,3,10],z 1 [2,11,12],z 2 [13,14],(3,([0,1,2,3,4,5,6,7,8,9,10,11,12,13,14,15],[15,16,17,18,19,20,21,22,23,24,25,26,27,28,29])),z 4 [30,31],z 5 [32,33]]
noncomputable def xc157:XC:=cdOf (chkF Tryd.prog hs157 Tryd.f157)
noncomputable def fe157:FnE:=⟨34,[],xc157⟩
theorem ok157:FnOk Tryd.prog 157 fe157:=fnOk_of Tryd.func157 (by kernel_rfl:chkF Tryd.prog hs157 Tryd.f157=some fe157)
/- 158 slices.partialInsertionSortCmpFunc[crimp/stacks.Stack] -/
def hs158:Hints:=[z 0 [8],z 1 [13,14],z 3 [15],(5,([0,1,2,3,4,5,6,7,8,9,10,11,12,13,14,15,16,17],[19,20,21,22])),z 6 [36,37,38],z 7 [16,39,40],z 8 [9,10,0,3,2,1,35,34,33,23,27,32,31,28,30,29,26,24,25,41],z 9 [8,41,42,43,44],z 10 [9,10,0,3,2,1,35,34,33,23,27,32,31,28,30,29,26,24,25,45],(11,([0,1,2,3,4,5,6,7,8,9,10,11,12,13,14,15,16,17],[8,45,46,47,48,49,50,51,52,53,54,55,56,57,58,59,60,61])),z 12 [62,63,64],z 13 [65,66,67],z 14 [68],(16,([0,1,2,3,4,5,6,7,8,9,10,11,12],[69,72,73,74,75,76,77,78,79,80,81,82,83])),(17,([0,1,2,3,4,5,6,7,8,9,10,11,12,13,14,15,16,17],[84,85,86,87,88,89,90,91,92,93,94,95,96,97,98,99,100])),z 15 [70,71],z 18 [11,65,101,102,103],z 19 [104,105,106],z 20 [107,108],(22,([0,1,2,3,4,5,6,7,8,9,10,11,12],[109,112,113,114,115,116,117,118,119,120,121,122,123])),(23,([0,1,2,3,4,5,6,7,8,9,10,11,12,13,14,15,16,17],[124,125,126,127,128,129,130,131,132,133,134,135,136,137,138,139,140])),z 21 [110,111],z 4 [12,104,17,18],z 24 [0,1,2,3,9,10]]
noncomputable def xc158:XC:=cdOf (chkF Tryd.prog hs158 Tryd.f158)
noncomputable def fe158:FnE:=⟨141,[(8,none)],xc158⟩
theorem ok158:FnOk Tryd.prog 158 fe158:=fnOk_of Tryd.func158 (by kernel_rfl:chkF Tryd.prog hs158 Tryd.f158=some fe158)
/- 159 slices.partitionEqualCmpFunc[crimp/stacks.Stack] -/
def hs159:Hints:=[z 0 [10],(1,([0,1,2,3,4,5,6,7,8,9,10,11,12,13,14,15],[3,13,14,15,16,17,18,19,20,21,22,23,24,25,26])),z 2 [2,27,28,29,30],(3,([0,1,2,3,4,5,6,7,8,9,10,11,12,13,14,15,16],[31,32,33,34])),z 4 [47,48,49],(5,([0,1,2,3,4,5,6,7,8,9,10,11,12,13,14,15],[50,51,52,53])),z 6 [65,66,67],z 7 [68,69],(8,([0,1,2,3,4,5,6,7,8,9,10,11,12,13,14,15],[70,71,72,73,74,75,76,77,78,79,80,81,82,83,84])),z 9 [85,86],z 10 [87,88],z 11 [0,1,4,11,12,89]]
noncomputable def xc159:XC:=cdOf (chkF Tryd.prog hs159 Tryd.f159)
noncomputable def fe159:FnE:=⟨90,[(10,none)],xc159⟩
theorem ok159:FnOk Tryd.prog 159 fe159:=fnOk_of Tryd.func159 (by kernel_rfl:chkF Tryd.prog hs159 Tryd.f159=some fe159)
/- 160 slices.partitionCmpFunc[crimp/stacks.Stack] -/
def hs160:Hints:=[z 0 [10,11],(1,([0,1,2,3,4,5,6,7,8,9,10,11,12,13,14,15],[3,14,15,16,17,18,19,20,21,22,23,24,25,26,27])),z 2 [2,28,29,30,31],(3,([0,1,2,3,4,5,6,7,8,9,10,11,12,13,14,15],[32,33,34,35])),z 4 [47,48,49],(5,([0,1,2,3,4,5,6,7,8,9,10,11,12,13,14,15,16],[50,51,52,53])),z 6 [66,67,68],z 7 [65,64,63,54,58,62,61,59,60,57,55,56,69,70],(8,([0,1,2,3,4,5,6,7,8,9,10,11,12,13,14,15],[0,1,4,12,138,137,136,127,131,135,134,132,133,130,128,129,119,118,109,113,117,116,114,115,112,110,111,71,72,73,74,75,76,77,78,79,80,81,82,83,84,85])),z 9 [13,86],(10,([0,1,2,3,4,5,6,7,8,9,10,11,12,13,14,15],[10,11,71,87,88,89,90,91,92,93,94,95,96,97,98,99,100])),z 11 [101,102],z 12 [103,104],(13,([0,1,2,3,4,5,6,7,8,9,10,11,12,13,14,15],[105,106,107,108])),z 14 [120,121,122],(15,([0,1,2,3,4,5,6,7,8,9,10,11,12,13,14,15,16],[123,124,125,126])),z 16 [139,140,141],z 17 [142,143],(18,([0,1,2,3,4,5,6,7,8,9,10,11,12,13,14,15],[144,145,146,147,148,149,150,151,152,153,154,155,156,157,158])),z 19 [159,160],z 20 [161,162],(21,([0,1,2,3,4,5,6,7,8,9,10,11,12,13,14,15],[0,1,4,12,138,137,136,127,131,135,134,132,133,130,128,129,119,118,109,113,117,116,114,115,112,110,111,163,164,165,166,167,168,169,170,171,172,173,174,175,176])),z 22 [13,177]]
noncomputable def xc160:XC:=cdOf (chkF Tryd.prog hs160 Tryd.f160)
noncomputable def fe160:FnE:=⟨178,[(10,none),(11,none)],xc160⟩
theorem ok160:FnOk Tryd.prog 160 fe160:=fnOk_of Tryd.func160 (by kernel_rfl:chkF Tryd.prog hs160 Tryd.f160=some fe160)
/- 161 math/bits.Len32 -/
def hs161:Hints:=[z 1 [3],z 2 [2,4,5,6],z 4 [4,7],z 5 [8,9,10],z 6 [11,12],z 7 [0,8,13,14,15,16,17,18]]
noncomputable def xc161:XC:=cdOf (chkF Tryd.prog hs161 Tryd.f161)
noncomputable def fe161:FnE:=⟨19,[(2,none)],xc161⟩
theorem ok161:FnOk Tryd.prog 161 fe161:=fnOk_of Tryd.func161 (by kernel_rfl:chkF Tryd.prog hs161 Tryd.f161=some fe161)
/- 162 math/bits.Len64 -/
def hs162:Hints:=[z 1 [3],z 2 [2,4,5,6],z 4 [4,7],z 5 [8,9,10],z 6 [11,12],z 7 [8,13],z 8 [14,15,16],z 9 [17,18],z 10 [0,14,19,20,21,22,23,24]]
noncomputable def xc162:XC:=cdOf (chkF Tryd.prog hs162 Tryd.f162)
noncomputable def fe162:FnE:=⟨25,[(2,none)],xc162⟩
theorem ok162:FnOk Tryd.prog 162 fe162:=fnOk_of Tryd.func162 (by kernel_rfl:chkF Tryd.prog hs162 Tryd.f162=some fe162)
/- 163 cmp.Compare[int] -/
def hs163:Hints:=[z 0 [4],z 1 [7,8],z 2 [9,10],z 3 [5],z 4 [0,1,6,11],z 5 [12],z 6 [12],z 7 [4,6,11],z 8 [0,1,13],z 9 [4,13,14,15],z 10 [0,1,16],z 11 [4,0,1,16,17,18],z 12 [19],z 13 [19]]
noncomputable def xc163:XC:=cdOf (chkF Tryd.prog hs163 Tryd.f163)
noncomputable def fe163:FnE:=⟨20,[(4,none)],xc163⟩
theorem ok163:FnOk Tryd.prog 163 fe163:=fnOk_of Tryd.func163 (by kernel_rfl:chkF Tryd.prog hs163 Tryd.f163=some fe163)
/- 165 crimp/cells.middle -/
def hs165:Hints:=[z 0 [0],z 1 [1,3,4,5,6,7,8,9,10,11]]
noncomputable def xc165:XC:=cdOf (chkF Tryd.prog hs165 Tryd.f165)
noncomputable def fe165:FnE:=⟨12,[(2,some (some 2))],xc165⟩
theorem ok165:FnOk Tryd.prog 165 fe165:=fnOk_of Tryd.func165 (by kernel_rfl:chkF Tryd.prog hs165 Tryd.f165=some fe165)
/- 166 crimp/moves.Point -/
def hs166:Hints:=[z 0 [0,1,5],z 1 [9,10,11,12,13,14,15],z 2 [2,3,16,17],(3,([0,1,2,3,4,5,6,7,8,9,10,11,12,13],[5,3,16,19,20,21,22,23,24,25,26,27,18,28,29])),z 4 [2,6,7,30,31,32,33,34,35,36,37,38,39,40],z 5 [41,42],z 6 [8,43,44],z 7 [8,43,45]]
noncomputable def xc166:XC:=cdOf (chkF Tryd.prog hs166 Tryd.f166)
noncomputable def fe166:FnE:=⟨46,[(4,some (some 2)),(5,none)],xc166⟩
theorem ok166:FnOk Tryd.prog 166 fe166:=fnOk_of Tryd.func166 (by kernel_rfl:chkF Tryd.prog hs166 Tryd.f166=some fe166)
/- 182 slices.symMergeCmpFunc[crimp/stacks.Stack] -/
def hs182:Hints:=[z 0 [25,26,27],z 1 [2,28,29],z 2 [3,30],z 3 [31,32],z 4 [33,34,35,36,37,38,39],(5,([0,1,2,3,4,5,6,7,8,9,10],[40,41,42,43,44,45,46,47,48,49])),z 6 [12,50,51,52],z 7 [12,50,53],z 8 [1,4,11,54],z 9 [55,56,57],(11,([0,1,2,3,4,5,6,7,8,9,10,11,12,13,14,15,16,17],[58,61,62,63,64,65,66,67,68,69,70,71,72,73,74,75,76])),z 10 [59,60],z 12 [10,13,28,77,78,79],z 13 [1,3,80,81],z 14 [82],z 15 [83,84],z 16 [85,86,87,88,89,90,91],(17,([0,1,2,3,4,5,6,7,8,9,10,11],[92,93,94,95,96,97,98,99,100,101,102])),z 18 [16,103,104,105],z 19 [16,103,106],z 20 [2,4,15,107],z 21 [108,109],(23,([0,1,2,3,4,5,6,7,8,9,10,11,12,13,14,15,16,17],[110,113,114,115,116,117,118,119,120,121,122,123,124,125,126,127,128])),z 22 [111,112],z 24 [14,17,80,129,130,131,132,133,134],z 25 [135,136,137],z 26 [20,21],z 27 [138,139],z 28 [140,141,142,143],z 29 [144],z 30 [140,145],z 31 [146],z 32 [147,148],z 33 [149,150],z 34 [151,152,153,154,155,156,157],(35,([0,1,2,3,4,5,6,7,8,9,10,11,12,13],[158,159,160,161,162,163,164,165,166,167,168,169,170])),z 36 [23,171,172,173],z 37 [23,171,174],z 38 [19,21,22,175,176,177],z 39 [184,182,183,178,179,180,181],z 40 [2,185,186,187,188,189,190,191],z 41 [198,196,197,2,185,192,193,194,195],z 42 [1,20,199,200,201,202,203,204,205],z 43 [212,210,211,1,20,199,206,207,208,209],z 44 [0,3,4,18,24,213,214,215,216,217,218,219]]
noncomputable def xc182:XC:=cdOf (chkF Tryd.prog hs182 Tryd.f182)
noncomputable def fe182:FnE:=⟨220,[],xc182⟩
theorem ok182:FnOk Tryd.prog 182 fe182:=fnOk_of Tryd.func182 (by kernel_rfl:chkF Tryd.prog hs182 Tryd.f182=some fe182)
/- 184 crimp/lines.rules$1 -/
def hs184:Hints:=[z 0 [0,2],z 1 [1,3,4]]
noncomputable def xc184:XC:=cdOf (chkF Tryd.prog hs184 Tryd.f184)
noncomputable def fe184:FnE:=⟨5,[(2,none)],xc184⟩
theorem ok184:FnOk Tryd.prog 184 fe184:=fnOk_of Tryd.func184 (by kernel_rfl:chkF Tryd.prog hs184 Tryd.f184=some fe184)
/- 185 crimp/lines.along -/
def hs185:Hints:=[z 0 [1,4],z 1 [0],z 2 [7],z 3 [3,5,6,8,9],z 4 [6,11],z 5 [3,5,10,12,13],z 6 [5,10,15],z 7 [3,14,16,17,18,19,20],z 8 [3,14,21,22,23,24,25]]
noncomputable def xc185:XC:=cdOf (chkF Tryd.prog hs185 Tryd.f185)
noncomputable def fe185:FnE:=⟨26,[(4,none)],xc185⟩
theorem ok185:FnOk Tryd.prog 185 fe185:=fnOk_of Tryd.func185 (by kernel_rfl:chkF Tryd.prog hs185 Tryd.f185=some fe185)
/- 186 crimp/lines.rules$2 -/
def hs186:Hints:=[z 0 [1],z 1 [0,3,5,6,7,8,9,10,11,12]]
noncomputable def xc186:XC:=cdOf (chkF Tryd.prog hs186 Tryd.f186)
noncomputable def fe186:FnE:=⟨13,[(4,some (some 2))],xc186⟩
theorem ok186:FnOk Tryd.prog 186 fe186:=fnOk_of Tryd.func186 (by kernel_rfl:chkF Tryd.prog hs186 Tryd.f186=some fe186)
/- 187 crimp/lines.rules$3 -/
def hs187:Hints:=[z 0 [1],z 1 [0,3,5,6,7,8,9,10,11,12,13,14,15,16,17,18,19,20,21,22,23,24,25,26,27]]
noncomputable def xc187:XC:=cdOf (chkF Tryd.prog hs187 Tryd.f187)
noncomputable def fe187:FnE:=⟨28,[(4,some (some 2))],xc187⟩
theorem ok187:FnOk Tryd.prog 187 fe187:=fnOk_of Tryd.func187 (by kernel_rfl:chkF Tryd.prog hs187 Tryd.f187=some fe187)
/- 188 crimp/lines.rules$4 -/
def hs188:Hints:=[z 0 [0,2],z 1 [1,3,4]]
noncomputable def xc188:XC:=cdOf (chkF Tryd.prog hs188 Tryd.f188)
noncomputable def fe188:FnE:=⟨5,[(2,none)],xc188⟩
theorem ok188:FnOk Tryd.prog 188 fe188:=fnOk_of Tryd.func188 (by kernel_rfl:chkF Tryd.prog hs188 Tryd.f188=some fe188)
/- 189 crimp/lines.rules$5 -/
def hs189:Hints:=[z 0 [1],z 1 [0,3,5,6,7,8,9,10,11,12]]
noncomputable def xc189:XC:=cdOf (chkF Tryd.prog hs189 Tryd.f189)
noncomputable def fe189:FnE:=⟨13,[(4,some (some 2))],xc189⟩
theorem ok189:FnOk Tryd.prog 189 fe189:=fnOk_of Tryd.func189 (by kernel_rfl:chkF Tryd.prog hs189 Tryd.f189=some fe189)
/- 190 crimp/lines.rules$6 -/
def hs190:Hints:=[z 0 [1],z 1 [0,3,5,6,7,8,9,10,11,12,13,14,15,16,17,18,19,20,21,22,23,24,25,26,27]]
noncomputable def xc190:XC:=cdOf (chkF Tryd.prog hs190 Tryd.f190)
noncomputable def fe190:FnE:=⟨28,[(4,some (some 2))],xc190⟩
theorem ok190:FnOk Tryd.prog 190 fe190:=fnOk_of Tryd.func190 (by kernel_rfl:chkF Tryd.prog hs190 Tryd.f190=some fe190)
/- 191 crimp/lines.rules$7 -/
def hs191:Hints:=[z 0 [0,2],z 1 [1,3,4]]
noncomputable def xc191:XC:=cdOf (chkF Tryd.prog hs191 Tryd.f191)
noncomputable def fe191:FnE:=⟨5,[(2,none)],xc191⟩
theorem ok191:FnOk Tryd.prog 191 fe191:=fnOk_of Tryd.func191 (by kernel_rfl:chkF Tryd.prog hs191 Tryd.f191=some fe191)
/- 192 crimp/lines.rules$8 -/
def hs192:Hints:=[z 0 [1],z 1 [0,3,5,6,7,8,9,10,11,12,13,14,15]]
noncomputable def xc192:XC:=cdOf (chkF Tryd.prog hs192 Tryd.f192)
noncomputable def fe192:FnE:=⟨16,[(4,some (some 2))],xc192⟩
theorem ok192:FnOk Tryd.prog 192 fe192:=fnOk_of Tryd.func192 (by kernel_rfl:chkF Tryd.prog hs192 Tryd.f192=some fe192)
/- 193 crimp/lines.rules$9 -/
def hs193:Hints:=[z 0 [1],(1,([0,1,2,3,4,5,6,7,8,9,10,11,12,13,14,15,16,17,18,19,20,21,22,23,24,25,26,27,28,29],[0,2,4,6,7,8,9,10,11,12,13,14,15,16,17,18,19,20,21,22,23,24,25,26,27,28,29,30,31,32,33,34]))]
noncomputable def xc193:XC:=cdOf (chkF Tryd.prog hs193 Tryd.f193)
noncomputable def fe193:FnE:=⟨35,[(5,some (some 2))],xc193⟩
theorem ok193:FnOk Tryd.prog 193 fe193:=fnOk_of Tryd.func193 (by kernel_rfl:chkF Tryd.prog hs193 Tryd.f193=some fe193)
/- 194 crimp/lines.rules$10 -/
def hs194:Hints:=[z 0 [0,2],z 1 [1,3,4]]
noncomputable def xc194:XC:=cdOf (chkF Tryd.prog hs194 Tryd.f194)
noncomputable def fe194:FnE:=⟨5,[(2,none)],xc194⟩
theorem ok194:FnOk Tryd.prog 194 fe194:=fnOk_of Tryd.func194 (by kernel_rfl:chkF Tryd.prog hs194 Tryd.f194=some fe194)
/- 195 crimp/lines.rules$11 -/
def hs195:Hints:=[z 0 [1],z 1 [0,3,5,6,7,8,9,10,11,12,13,14,15]]
noncomputable def xc195:XC:=cdOf (chkF Tryd.prog hs195 Tryd.f195)
noncomputable def fe195:FnE:=⟨16,[(4,some (some 2))],xc195⟩
theorem ok195:FnOk Tryd.prog 195 fe195:=fnOk_of Tryd.func195 (by kernel_rfl:chkF Tryd.prog hs195 Tryd.f195=some fe195)
/- 196 crimp/lines.rules$12 -/
def hs196:Hints:=[z 0 [1],(1,([0,1,2,3,4,5,6,7,8,9,10,11,12,13,14,15,16,17,18,19,20,21,22,23,24,25,26,27,28,29],[0,2,4,6,7,8,9,10,11,12,13,14,15,16,17,18,19,20,21,22,23,24,25,26,27,28,29,30,31,32,33,34]))]
noncomputable def xc196:XC:=cdOf (chkF Tryd.prog hs196 Tryd.f196)
noncomputable def fe196:FnE:=⟨35,[(5,some (some 2))],xc196⟩
theorem ok196:FnOk Tryd.prog 196 fe196:=fnOk_of Tryd.func196 (by kernel_rfl:chkF Tryd.prog hs196 Tryd.f196=some fe196)
/- 197 slices.siftDownCmpFunc[crimp/stacks.Stack] -/
def hs197:Hints:=[z 0 [1,12],z 1 [13,14,15],z 2 [16,17],(3,([0,1,2,3,4,5,6,7,8,9,10,11,12,13,14,15,16,17,18,19,20,21],[18,19,20,21,22,23])),z 4 [40,41,42],(5,([0,1,2,3,4,5,6,7,8,9,10,11,12,13,14,15],[40,43,44,45,46,47,48,49,50,51,52,53,54,55,56,57])),(6,([0,1,2,3,4,5,6,7,8,9,10,11,12,13,14,15,16,17,18,19,20,21,22,23],[10,58,59,60,61,62,63,64,65,66,67,68,69,70,71,72,73,74,75,76,77,78,79,80])),z 7 [11,81]]
noncomputable def xc197:XC:=cdOf (chkF Tryd.prog hs197 Tryd.f197)
noncomputable def fe197:FnE:=⟨82,[],xc197⟩
theorem ok197:FnOk Tryd.prog 197 fe197:=fnOk_of Tryd.func197 (by kernel_rfl:chkF Tryd.prog hs197 Tryd.f197=some fe197)
/- 198 slices.nextPowerOfTwo -/
def hs198:Hints:=[z 0 [2],z 1 [0,3,4,5,6]]
noncomputable def xc198:XC:=cdOf (chkF Tryd.prog hs198 Tryd.f198)
noncomputable def fe198:FnE:=⟨7,[(2,none)],xc198⟩
theorem ok198:FnOk Tryd.prog 198 fe198:=fnOk_of Tryd.func198 (by kernel_rfl:chkF Tryd.prog hs198 Tryd.f198=some fe198)
/- 199 (*slices.xorshift).Next -/
def hs199:Hints:=[z 0 [2],(1,([0,1,2,3,4,5,6,7,8,9],[3,4,5,6,7,8,9,10,11])),(2,([0,1,2,3,4,5,6,7,8,9],[12,13,14,15,16,17,18,19,20])),(3,([0,1,2,3,4,5,6,7,8,9],[21,22,23,24,25,26,27,28,29])),z 4 [0,30,31,32]]
noncomputable def xc199:XC:=cdOf (chkF Tryd.prog hs199 Tryd.f199)
noncomputable def fe199:FnE:=⟨33,[(2,none)],xc199⟩
theorem ok199:FnOk Tryd.prog 199 fe199:=fnOk_of Tryd.func199 (by kernel_rfl:chkF Tryd.prog hs199 Tryd.f199=some fe199)
/- 200 slices.medianAdjacentCmpFunc[crimp/stacks.Stack] -/
def hs200:Hints:=[z 0 [8],z 1 [0,1,2,3,9,10,11,12,13,14,15,16,17]]
noncomputable def xc200:XC:=cdOf (chkF Tryd.prog hs200 Tryd.f200)
noncomputable def fe200:FnE:=⟨18,[(8,none)],xc200⟩
theorem ok200:FnOk Tryd.prog 200 fe200:=fnOk_of Tryd.func200 (by kernel_rfl:chkF Tryd.prog hs200 Tryd.f200=some fe200)
/- 201 slices.medianCmpFunc[crimp/stacks.Stack] -/
def hs201:Hints:=[z 0 [12],z 1 [14,15,16,17,18,19,13,20,21],z 2 [3,23,24,25,26,27,28,22,29,30],z 3 [0,1,4,5,32,33,34,35,36,37,31,38,39],z 4 [2,40]]
noncomputable def xc201:XC:=cdOf (chkF Tryd.prog hs201 Tryd.f201)
noncomputable def fe201:FnE:=⟨41,[(12,none)],xc201⟩
theorem ok201:FnOk Tryd.prog 201 fe201:=fnOk_of Tryd.func201 (by kernel_rfl:chkF Tryd.prog hs201 Tryd.f201=some fe201)
/- 202 cmp.isNaN[int] -/
def hs202:Hints:=[z 0 [2],z 1 [0,3,4,5]]
noncomputable def xc202:XC:=cdOf (chkF Tryd.prog hs202 Tryd.f202)
noncomputable def fe202:FnE:=⟨6,[(2,none)],xc202⟩
theorem ok202:FnOk Tryd.prog 202 fe202:=fnOk_of Tryd.func202 (by kernel_rfl:chkF Tryd.prog hs202 Tryd.f202=some fe202)
/- 208 slices.rotateCmpFunc[crimp/stacks.Stack] -/
def hs208:Hints:=[z 0 [1,12,13,14],z 1 [3,15,16,17],z 2 [18,19],z 3 [20,21,22],z 4 [23,24,25,26,27,28,29,30,31],z 5 [32,33,34],z 6 [23,35,36,37,38,39,40,41,42,43,44,45,46],z 7 [47,48,49],z 8 [0,2,4,10,11,50,51,52,53,54,55,56,57]]
noncomputable def xc208:XC:=cdOf (chkF Tryd.prog hs208 Tryd.f208)
noncomputable def fe208:FnE:=⟨58,[],xc208⟩
theorem ok208:FnOk Tryd.prog 208 fe208:=fnOk_of Tryd.func208 (by kernel_rfl:chkF Tryd.prog hs208 Tryd.f208=some fe208)
/- 209 slices.order2CmpFunc[crimp/stacks.Stack] -/
def hs209:Hints:=[z 0 [10,11],(1,([0,1,2,3,4,5,6,7,8,9,10],[0,4,12,13,14,15,16,17,18,19,20,21])),z 2 [3,22,23,24,25,26,27],z 3 [1,2,28,29],z 4 [1,2,3,22,30,31]]
noncomputable def xc209:XC:=cdOf (chkF Tryd.prog hs209 Tryd.f209)
noncomputable def fe209:FnE:=⟨32,[(10,none),(11,none)],xc209⟩
theorem ok209:FnOk Tryd.prog 209 fe209:=fnOk_of Tryd.func209 (by kernel_rfl:chkF Tryd.prog hs209 Tryd.f209=some fe209)
/- 211 slices.swapRangeCmpFunc[crimp/stacks.Stack] -/
def hs211:Hints:=[z 0 [4],z 1 [11,12],(3,([0,1,2,3,4,5,6,7,8,9,10,11,12,13,14,15,16,17,18,19,20,21,22,23],[13,16,17,18,19,20,21,22,23,24,25,26,27,28,29,30,31,32,33,34,35,36,37])),z 2 [14,15]]
noncomputable def xc211:XC:=cdOf (chkF Tryd.prog hs211 Tryd.f211)
noncomputable def fe211:FnE:=⟨38,[],xc211⟩
theorem ok211:FnOk Tryd.prog 211 fe211:=fnOk_of Tryd.func211 (by kernel_rfl:chkF Tryd.prog hs211 Tryd.f211=some fe211)
noncomputable def xpl:List (Nat×FnE):=[(13,fe13),(15,fe15),(16,fe16),(17,fe17),(18,fe18),(19,fe19),(21,fe21),(22,fe22),(24,fe24),(26,fe26),(54,fe54),(55,fe55),(56,fe56),(57,fe57),(58,fe58),(64,fe64),(65,fe65),(66,fe66),(67,fe67),(71,fe71),(72,fe72),(73,fe73),(74,fe74),(75,fe75),(76,fe76),(77,fe77),(78,fe78),(79,fe79),(80,fe80),(81,fe81),(86,fe86),(93,fe93),(104,fe104),(105,fe105),(106,fe106),(107,fe107),(108,fe108),(109,fe109),(110,fe110),(111,fe111),(112,fe112),(113,fe113),(114,fe114),(120,fe120),(121,fe121),(122,fe122),(123,fe123),(124,fe124),(125,fe125),(126,fe126),(127,fe127),(132,fe132),(145,fe145),(146,fe146),(147,fe147),(151,fe151),(152,fe152),(153,fe153),(154,fe154),(155,fe155),(156,fe156),(157,fe157),(158,fe158),(159,fe159),(160,fe160),(161,fe161),(162,fe162),(163,fe163),(165,fe165),(166,fe166),(182,fe182),(184,fe184),(185,fe185),(186,fe186),(187,fe187),(188,fe188),(189,fe189),(190,fe190),(191,fe191),(192,fe192),(193,fe193),(194,fe194),(195,fe195),(196,fe196),(197,fe197),(198,fe198),(199,fe199),(200,fe200),(201,fe201),(202,fe202),(208,fe208),(209,fe209),(211,fe211)]
theorem xpOk:XpOk Tryd.prog (aget xpl):=xpOk_of (l:=xpl) ⟨ok13,ok15,ok16,ok17,ok18,ok19,ok21,ok22,ok24,ok26,ok54,ok55,ok56,ok57,ok58,ok64,ok65,ok66,ok67,ok71,ok72,ok73,ok74,ok75,ok76,ok77,ok78,ok79,ok80,ok81,ok86,ok93,ok104,ok105,ok106,ok107,ok108,ok109,ok110,ok111,ok112,ok113,ok114,ok120,ok121,ok122,ok123,ok124,ok125,ok126,ok127,ok132,ok145,ok146,ok147,ok151,ok152,ok153,ok154,ok155,ok156,ok157,ok158,ok159,ok160,ok161,ok162,ok163,ok165,ok166,ok182,ok184,ok185,ok186,ok187,ok188,ok189,ok190,ok191,ok192,ok193,ok194,ok195,ok196,ok197,ok198,ok199,ok200,ok201,ok202,ok208,ok209,ok211,trivial⟩
end Go.Proofs.YtmnaghfndigfkaaDoor.X
