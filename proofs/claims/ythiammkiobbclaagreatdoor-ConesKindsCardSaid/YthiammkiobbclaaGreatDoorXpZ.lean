/-
 The functions of the translation, with types resolved (made by a program).
-/
import Derived.Test.YthiammkiobbclaaGreatDoorProg
import Derived.Test.YthiammkiobbclaaGreatDoorAb6
import Derived.KernelRfl
set_option linter.unusedVariables false
set_option maxRecDepth 1000000
namespace Go.Proofs.YthiammkiobbclaaGreatDoor.X
open Go Go.Ab

abbrev z (n:Nat)(l:List Nat):Nat×(List Nat×List Nat):=(n,([],l))
noncomputable def cdOf:Option FnE→XC
 |some f=>f.xc
 |none=>.skip

/- 4 crimp/crimplaw15.ConesKinds -/
def hs4:Hints:=[z 0 [0,2],z 1 [1,20,21],z 2 [22,23,24],z 3 [25],z 4 [3,4,26,27],z 5 [2,26,29,30,28,31,32],z 6 [34,35,33,36,37],z 7 [6,8,38,39,40,41,42,43,44,45,46,47,48,49],z 8 [3,4,5,7,50],z 9 [2,50],z 11 [51,52,53],z 13 [54,57,58,59],z 16 [60,61],z 18 [62,65,66,67,68,69,70,71,72,73],z 19 [74,75,91],z 20 [15,92,93,94,95,96,97],z 17 [63,64],z 21 [14,99,100,98,101,102],z 22 [17,103],z 23 [90,82,89,87,88,86,84,85,83,3,81,80,79,77,78,76,4,11,9,10,153,152,142,140,141,139,138,137,135,136,5,132,130,131,129,128,127,125,126,122,121,119,120,118,116,117,109,108,170,167,165,166,7,12,13,16,104],z 24 [2,13,16,104,105,106,107],(25,([0,1,2,3,4,5,6,7,8,9,10,11,12,13,14,15,16,17,18,19,20,21,22,23,24,25,26,27,28,29,30,31,32],[110,111,112,113,114,115,123,124,133,134])),z 26 [90,82,89,87,88,86,84,85,83,3,81,80,79,77,78,76,4,11,9,10,153,152,142,140,141,139,138,137,135,136,5,132,130,131,129,128,127,125,126,122,121,119,120,118,116,117,109,108,170,167,165,166,7,12,143],z 27 [2,12,143,145,146,144,147,148],z 28 [19,149,150,151],z 29 [90,82,89,87,88,86,84,85,83,3,81,80,79,77,78,76,4,11,9,10,153,152,142,140,141,139,138,137,135,136,5,132,130,131,129,128,127,125,126,122,121,119,120,118,116,117,109,108,170,167,165,166,7,18,154],z 30 [2,18,154,155,156,157],z 31 [158,159],z 12 [55,56],z 32 [3,4,5,7,9,10,11,170,167,165,166,160,161,162,163,164,168,169,171]]
noncomputable def xc4:XC:=cdOf (chkF Tryz.prog hs4 Tryz.f4)
noncomputable def fe4:FnE:=⟨172,[(2,none)],xc4⟩
theorem ok4:FnOk Tryz.prog 4 fe4:=fnOk_of Tryz.func4 (by kernel_rfl:chkF Tryz.prog hs4 Tryz.f4=some fe4)
/- 10 (crimp/crimplaw12.F).Of -/
def hs10:Hints:=[z 0 [0],z 5 [9],z 7 [10,13,14,15,16,17],z 8 [18,19],z 9 [4,20,21,22,23,24,25,26,27,28],z 10 [4,20,29],z 11 [30],z 13 [31,32,33,34,35,36],z 14 [37,38,39,40,41,42,43,44,45,46],z 15 [7,37,47,48,49,50,51,52],z 6 [11,12],z 16 [6,53],z 17 [4,5,54,55,56,57,58,59,60,61,62,63],z 18 [4,5,54],z 19 [64,65,66,67],z 21 [68,71,72,73,74,75,76,77],z 22 [84,85,86,87,88,89,90,91],z 20 [84,69,70],z 23 [1,3,83,82,81,79,80,78,8,92]]
noncomputable def xc10:XC:=cdOf (chkF Tryz.prog hs10 Tryz.f10)
noncomputable def fe10:FnE:=⟨93,[(2,some (some 2))],xc10⟩
theorem ok10:FnOk Tryz.prog 10 fe10:=fnOk_of Tryz.func10 (by kernel_rfl:chkF Tryz.prog hs10 Tryz.f10=some fe10)
/- 11 crimp/crimplaw15.lives -/
def hs11:Hints:=[z 0 [0],z 1 [14],z 2 [15],z 3 [16,17,18,19,20,21,22,23],z 5 [24,25,26],z 7 [27,30,31,32,33,34],z 8 [36,37,35,38,39],z 9 [41,42,40,43,44],z 10 [5,46,47,45,48,49],z 11 [6,7,8,9,10,11,50,51,52,55,56,63,64,69,70,77,78,85,86],z 12 [4,93,92,87,91,90,88,89,3,84,81,83,82,80,79,76,73,75,74,72,71,68,65,67,66,62,57,61,60,58,59,2,54,53,1,105,103,104,94],z 6 [0,94,28,29],z 13 [1,2,3,4,96,97,95,98,99],z 14 [105,103,104,12,13,100,101,102,106]]
noncomputable def xc11:XC:=cdOf (chkF Tryz.prog hs11 Tryz.f11)
noncomputable def fe11:FnE:=⟨107,[(0,none)],xc11⟩
theorem ok11:FnOk Tryz.prog 11 fe11:=fnOk_of Tryz.func11 (by kernel_rfl:chkF Tryz.prog hs11 Tryz.f11=some fe11)
/- 16 crimp/cones.Count -/
def hs16:Hints:=[z 0 [0,2,3],z 1 [1,7,8,6,9,10],z 3 [13],z 4 [4,5,11,12,14,15,16],z 5 [4,11,12,18],z 6 [5,17],z 7 [5,17,19]]
noncomputable def xc16:XC:=cdOf (chkF Tryz.prog hs16 Tryz.f16)
noncomputable def fe16:FnE:=⟨20,[(2,none),(3,none)],xc16⟩
theorem ok16:FnOk Tryz.prog 16 fe16:=fnOk_of Tryz.func16 (by kernel_rfl:chkF Tryz.prog hs16 Tryz.f16=some fe16)
/- 17 crimp/cones.First -/
def hs17:Hints:=[z 0 [0,2,3],z 1 [1,8,9,7,10,11],z 2 [12,13,14,15,16],z 3 [4,5,17,18],z 4 [2,3,5,17,19],z 5 [4,20,21,22],z 6 [23,24],z 7 [6,25,26,27,28],z 8 [6,25,4,20]]
noncomputable def xc17:XC:=cdOf (chkF Tryz.prog hs17 Tryz.f17)
noncomputable def fe17:FnE:=⟨29,[(2,none),(3,none)],xc17⟩
theorem ok17:FnOk Tryz.prog 17 fe17:=fnOk_of Tryz.func17 (by kernel_rfl:chkF Tryz.prog hs17 Tryz.f17=some fe17)
/- 18 crimp/crimplaw15.list -/
def hs18:Hints:=[z 0 [4],z 1 [6,7,8,9,10,11,12,13,14,15,16],z 2 [0,1,17],z 3 [4,17],z 4 [18,19,20],(6,([0,1,2,3,4,5,6,7,8],[21,24,25,26,27,28,29,30,31])),z 7 [5,1,0,32],z 5 [4,32,22,23],z 8 [0,1,5]]
noncomputable def xc18:XC:=cdOf (chkF Tryz.prog hs18 Tryz.f18)
noncomputable def fe18:FnE:=⟨33,[(4,none)],xc18⟩
theorem ok18:FnOk Tryz.prog 18 fe18:=fnOk_of Tryz.func18 (by kernel_rfl:chkF Tryz.prog hs18 Tryz.f18=some fe18)
/- 19 crimp/cones.Kinds -/
def hs19:Hints:=[z 0 [0,2,3],z 1 [7,8],z 2 [9],z 3 [1,4,10,11],z 4 [2,3,4,10],z 6 [1,12],z 7 [6,13,14],z 8 [5,15,16]]
noncomputable def xc19:XC:=cdOf (chkF Tryz.prog hs19 Tryz.f19)
noncomputable def fe19:FnE:=⟨17,[(2,none),(3,none)],xc19⟩
theorem ok19:FnOk Tryz.prog 19 fe19:=fnOk_of Tryz.func19 (by kernel_rfl:chkF Tryz.prog hs19 Tryz.f19=some fe19)
/- 20 crimp/reductions.Folds -/
def hs20:Hints:=[z 0 [0,2,3],z 1 [1,8,9,7,10,11,12,4],z 2 [13],z 3 [5,6,14,15],(4,([0,1,2,3,4,5,6,7,8,9,10,11,12,13,14,15,16,17,18,19,20,21,22,23,24,25,26,27,28,29,30,31,32,33],[5,6,14,16,17,18,19,20,21,22,23,24,25,26,27,28,29,30,31,32,33,34,35,36,37,38,39,40,41,42,43,44,45,46,47]))]
noncomputable def xc20:XC:=cdOf (chkF Tryz.prog hs20 Tryz.f20)
noncomputable def fe20:FnE:=⟨48,[(2,none),(3,none)],xc20⟩
theorem ok20:FnOk Tryz.prog 20 fe20:=fnOk_of Tryz.func20 (by kernel_rfl:chkF Tryz.prog hs20 Tryz.f20=some fe20)
/- 21 crimp/fans.Same -/
def hs21:Hints:=[z 0 [0,1,4],z 1 [2,3,5,6,7,8,9,10,11,12,13,14,15,16]]
noncomputable def xc21:XC:=cdOf (chkF Tryz.prog hs21 Tryz.f21)
noncomputable def fe21:FnE:=⟨17,[(4,none)],xc21⟩
theorem ok21:FnOk Tryz.prog 21 fe21:=fnOk_of Tryz.func21 (by kernel_rfl:chkF Tryz.prog hs21 Tryz.f21=some fe21)
/- 23 crimp/fans.Mirror -/
def hs23:Hints:=[z 0 [0],(1,([0,1,2,3,4,5,6,7,8],[1,5,6,7,8,9,10,11])),z 2 [12,13,14],z 3 [15],z 4 [4,16,17,18,19,20,21,22],z 5 [3,4,16,23]]
noncomputable def xc23:XC:=cdOf (chkF Tryz.prog hs23 Tryz.f23)
noncomputable def fe23:FnE:=⟨24,[(2,some (some 2))],xc23⟩
theorem ok23:FnOk Tryz.prog 23 fe23:=fnOk_of Tryz.func23 (by kernel_rfl:chkF Tryz.prog hs23 Tryz.f23=some fe23)
/- 24 crimp/fans.Over -/
def hs24:Hints:=[z 0 [0],z 1 [1,6,7],z 2 [8],z 4 [12,13,14,15],z 5 [16,17,18],z 6 [4,5,21,22,23,24,25,26,27],z 7 [4,5,21,28],z 8 [3,9,10,11,29]]
noncomputable def xc24:XC:=cdOf (chkF Tryz.prog hs24 Tryz.f24)
noncomputable def fe24:FnE:=⟨30,[(2,some (some 2))],xc24⟩
theorem ok24:FnOk Tryz.prog 24 fe24:=fnOk_of Tryz.func24 (by kernel_rfl:chkF Tryz.prog hs24 Tryz.f24=some fe24)
/- 26 crimp/cones.Rays -/
def hs26:Hints:=[z 0 [0,2,3],z 1 [7,8,6,9,10],z 2 [11],z 3 [1,4,5,12,13],z 4 [1,4,5,12,14,15,16,17,18,19,20]]
noncomputable def xc26:XC:=cdOf (chkF Tryz.prog hs26 Tryz.f26)
noncomputable def fe26:FnE:=⟨21,[(2,none),(3,none)],xc26⟩
theorem ok26:FnOk Tryz.prog 26 fe26:=fnOk_of Tryz.func26 (by kernel_rfl:chkF Tryz.prog hs26 Tryz.f26=some fe26)
/- 30 crimp/fans.Check -/
def hs30:Hints:=[z 0 [0,2],z 1 [6,7,8,9,10,11],z 2 [1,12],z 3 [2,12],z 4 [13],z 6 [17,18,19,20],z 7 [4,21,22,23,28,29,36,37],z 8 [16,3,43,42,41,39,40,38,1,35,34,33,31,32,30,27,24,26,25,14,15,5,44],z 9 [2,5,44,45,46,47],z 10 [48],z 11 [1,3,14,15,16]]
noncomputable def xc30:XC:=cdOf (chkF Tryz.prog hs30 Tryz.f30)
noncomputable def fe30:FnE:=⟨49,[(2,none)],xc30⟩
theorem ok30:FnOk Tryz.prog 30 fe30:=fnOk_of Tryz.func30 (by kernel_rfl:chkF Tryz.prog hs30 Tryz.f30=some fe30)
/- 31 crimp/cones.Folds -/
def hs31:Hints:=[z 0 [0,2,3],z 1 [1,7,8,6,9,10],z 2 [4,5,11,12,13,14]]
noncomputable def xc31:XC:=cdOf (chkF Tryz.prog hs31 Tryz.f31)
noncomputable def fe31:FnE:=⟨15,[(2,none),(3,none)],xc31⟩
theorem ok31:FnOk Tryz.prog 31 fe31:=fnOk_of Tryz.func31 (by kernel_rfl:chkF Tryz.prog hs31 Tryz.f31=some fe31)
/- 32 crimp/crimplaw15.fan -/
def hs32:Hints:=[z 1 [0,6,7,5,8,9,4],z 2 [3,10]]
noncomputable def xc32:XC:=cdOf (chkF Tryz.prog hs32 Tryz.f32)
noncomputable def fe32:FnE:=⟨11,[(2,some (some 2))],xc32⟩
theorem ok32:FnOk Tryz.prog 32 fe32:=fnOk_of Tryz.func32 (by kernel_rfl:chkF Tryz.prog hs32 Tryz.f32=some fe32)
/- 34 crimp/balances.Alternates -/
def hs34:Hints:=[z 0 [0,2,3],z 1 [5,6],z 2 [7],z 3 [1,4,8,9],z 4 [1,4,8,10,11,12,13,14,15,16,17]]
noncomputable def xc34:XC:=cdOf (chkF Tryz.prog hs34 Tryz.f34)
noncomputable def fe34:FnE:=⟨18,[(2,none),(3,none)],xc34⟩
theorem ok34:FnOk Tryz.prog 34 fe34:=fnOk_of Tryz.func34 (by kernel_rfl:chkF Tryz.prog hs34 Tryz.f34=some fe34)
/- 37 crimp/cones.of -/
def hs37:Hints:=[z 0 [0,3],z 1 [10,11,9,12,13],z 2 [15,16],z 3 [1,4,5,14,17,18],z 4 [4,5,14,20,21],z 5 [1,19,22],z 6 [3,19,23,24,25],z 7 [1,26],z 9 [30,31,32,33],(10,([0,1,2,3,4,5,6,7,8,9,10,11,12,13,14,15,16,17],[7,8,34,35,36,37,38,39,40,41,42,43,44,45,46,47,48,49,50])),z 11 [51],z 12 [6,27,28,29,52]]
noncomputable def xc37:XC:=cdOf (chkF Tryz.prog hs37 Tryz.f37)
noncomputable def fe37:FnE:=⟨53,[(2,some (some 3)),(3,none)],xc37⟩
theorem ok37:FnOk Tryz.prog 37 fe37:=fnOk_of Tryz.func37 (by kernel_rfl:chkF Tryz.prog hs37 Tryz.f37=some fe37)
/- 38 (crimp/cones.cone).ways -/
def hs38:Hints:=[z 0 [0,2],z 1 [6],z 4 [1,3,7],z 5 [5,8,9],z 6 [10,11],z 7 [4,12]]
noncomputable def xc38:XC:=cdOf (chkF Tryz.prog hs38 Tryz.f38)
noncomputable def fe38:FnE:=⟨13,[(2,none)],xc38⟩
theorem ok38:FnOk Tryz.prog 38 fe38:=fnOk_of Tryz.func38 (by kernel_rfl:chkF Tryz.prog hs38 Tryz.f38=some fe38)
/- 39 crimp/cones.Kinds$1 -/
def hs39:Hints:=[z 0 [13,14,15,16],z 1 [4,17],z 3 [19,20],z 4 [21,22,23],z 5 [8,24,25,26,27,28,29,30,31],(6,([0,1,2,3,4,5,6,7,8],[7,38,39,40,41,42,43,44,45,46,47])),z 7 [7,38,48],(8,([0,1,2,3,4,5,6,7,8],[1,2,3,18,17,49,50,51,52,53,54,55])),z 9 [56,57],z 11 [60,61],(12,([0,1,2,3,4,5,6,7,8,9,10],[10,62,63,64,65,66,67,68,69,70,71])),z 13 [72],z 14 [0,58,59,74,75,73,76,77,12],z 15 [11],z 16 [4,9,78,79,80,81,82]]
noncomputable def xc39:XC:=cdOf (chkF Tryz.prog hs39 Tryz.f39)
noncomputable def fe39:FnE:=⟨83,[],xc39⟩
theorem ok39:FnOk Tryz.prog 39 fe39:=fnOk_of Tryz.func39 (by kernel_rfl:chkF Tryz.prog hs39 Tryz.f39=some fe39)
/- 40 slices.Clip[[]int,int] -/
def hs40:Hints:=[z 0 [2],z 1 [0,3,4,5,6,7,8]]
noncomputable def xc40:XC:=cdOf (chkF Tryz.prog hs40 Tryz.f40)
noncomputable def fe40:FnE:=⟨9,[(2,none)],xc40⟩
theorem ok40:FnOk Tryz.prog 40 fe40:=fnOk_of Tryz.func40 (by kernel_rfl:chkF Tryz.prog hs40 Tryz.f40=some fe40)
/- 41 slices.Clone[[]int,int] -/
def hs41:Hints:=[z 0 [2],z 1 [3],z 2 [0,4],z 3 [0,4,5,6,7]]
noncomputable def xc41:XC:=cdOf (chkF Tryz.prog hs41 Tryz.f41)
noncomputable def fe41:FnE:=⟨8,[(2,none)],xc41⟩
theorem ok41:FnOk Tryz.prog 41 fe41:=fnOk_of Tryz.func41 (by kernel_rfl:chkF Tryz.prog hs41 Tryz.f41=some fe41)
/- 42 slices.Clip[[]crimp/fans.Fan,crimp/fans.Fan] -/
def hs42:Hints:=[z 0 [2],z 1 [0,3,4,5,6,7,8]]
noncomputable def xc42:XC:=cdOf (chkF Tryz.prog hs42 Tryz.f42)
noncomputable def fe42:FnE:=⟨9,[(2,none)],xc42⟩
theorem ok42:FnOk Tryz.prog 42 fe42:=fnOk_of Tryz.func42 (by kernel_rfl:chkF Tryz.prog hs42 Tryz.f42=some fe42)
/- 43 crimp/reductions.Reduce -/
def hs43:Hints:=[z 0 [0,4],z 1 [7,8],z 2 [9],z 3 [1,5,10,11,12],z 4 [4,1,5,10,13,14,15],z 5 [16,17],z 6 [18,19],z 8 [20,23,24,25,26,27,28],(9,([0,1,2,3,4,5],[6,29,30,31,32,33])),z 7 [21,22],(10,([0,1,2,3,4,5],[6,34,35,36]))]
noncomputable def xc43:XC:=cdOf (chkF Tryz.prog hs43 Tryz.f43)
noncomputable def fe43:FnE:=⟨37,[(2,none),(3,some (some 2)),(4,none)],xc43⟩
theorem ok43:FnOk Tryz.prog 43 fe43:=fnOk_of Tryz.func43 (by kernel_rfl:chkF Tryz.prog hs43 Tryz.f43=some fe43)
/- 44 slices.Equal[[]int,int] -/
def hs44:Hints:=[z 0 [4],z 1 [6,7,8,9],z 2 [0,1,10],z 3 [4,10,11],z 5 [14,15],(6,([0,1,2,3,4,5,6,7,8],[5,16,17,18,19,20,21,22,23])),z 7 [13,1,0,12,24],z 8 [4,24,25],z 9 [0,1,12,13]]
noncomputable def xc44:XC:=cdOf (chkF Tryz.prog hs44 Tryz.f44)
noncomputable def fe44:FnE:=⟨26,[(4,none)],xc44⟩
theorem ok44:FnOk Tryz.prog 44 fe44:=fnOk_of Tryz.func44 (by kernel_rfl:chkF Tryz.prog hs44 Tryz.f44=some fe44)
/- 45 slices.Equal[[]crimp/api.Kind,crimp/api.Kind] -/
def hs45:Hints:=[z 0 [4],z 1 [6,7,8,9],z 2 [0,1,10],z 3 [4,10,11],z 5 [14,15],(6,([0,1,2,3,4,5,6,7,8],[5,16,17,18,19,20,21,22,23])),z 7 [13,1,0,12,24],z 8 [4,24,25],z 9 [0,1,12,13]]
noncomputable def xc45:XC:=cdOf (chkF Tryz.prog hs45 Tryz.f45)
noncomputable def fe45:FnE:=⟨26,[(4,none)],xc45⟩
theorem ok45:FnOk Tryz.prog 45 fe45:=fnOk_of Tryz.func45 (by kernel_rfl:chkF Tryz.prog hs45 Tryz.f45=some fe45)
/- 46 crimp/fans.begun[int] -/
def hs46:Hints:=[z 0 [4],(1,([0,1,2,3,4,5,6,7,8,9],[0,1,5,6,7,8,9,10,11,12,13]))]
noncomputable def xc46:XC:=cdOf (chkF Tryz.prog hs46 Tryz.f46)
noncomputable def fe46:FnE:=⟨14,[(4,none)],xc46⟩
theorem ok46:FnOk Tryz.prog 46 fe46:=fnOk_of Tryz.func46 (by kernel_rfl:chkF Tryz.prog hs46 Tryz.f46=some fe46)
/- 47 crimp/fans.begun[crimp/api.Kind] -/
def hs47:Hints:=[z 0 [4],(1,([0,1,2,3,4,5,6,7,8,9],[0,1,5,6,7,8,9,10,11,12,13]))]
noncomputable def xc47:XC:=cdOf (chkF Tryz.prog hs47 Tryz.f47)
noncomputable def fe47:FnE:=⟨14,[(4,none)],xc47⟩
theorem ok47:FnOk Tryz.prog 47 fe47:=fnOk_of Tryz.func47 (by kernel_rfl:chkF Tryz.prog hs47 Tryz.f47=some fe47)
/- 48 crimp/fans.turned[int] -/
def hs48:Hints:=[z 0 [2],z 1 [0,4,5,6],z 2 [7,8],z 3 [3,9]]
noncomputable def xc48:XC:=cdOf (chkF Tryz.prog hs48 Tryz.f48)
noncomputable def fe48:FnE:=⟨10,[(2,none)],xc48⟩
theorem ok48:FnOk Tryz.prog 48 fe48:=fnOk_of Tryz.func48 (by kernel_rfl:chkF Tryz.prog hs48 Tryz.f48=some fe48)
/- 49 crimp/fans.turned[crimp/api.Kind] -/
def hs49:Hints:=[z 0 [2],z 1 [0,4,5,6],z 2 [7,8],z 3 [3,9]]
noncomputable def xc49:XC:=cdOf (chkF Tryz.prog hs49 Tryz.f49)
noncomputable def fe49:FnE:=⟨10,[(2,none)],xc49⟩
theorem ok49:FnOk Tryz.prog 49 fe49:=fnOk_of Tryz.func49 (by kernel_rfl:chkF Tryz.prog hs49 Tryz.f49=some fe49)
/- 51 crimp/cones.rank -/
def hs51:Hints:=[z 4 [8,9],z 5 [4,10,11],z 6 [12],z 7 [0,7],z 9 [16,17,18,19],z 10 [5,6,20,21,22],z 11 [23],z 12 [3,13,14,15,24]]
noncomputable def xc51:XC:=cdOf (chkF Tryz.prog hs51 Tryz.f51)
noncomputable def fe51:FnE:=⟨25,[(2,some (some 8))],xc51⟩
theorem ok51:FnOk Tryz.prog 51 fe51:=fnOk_of Tryz.func51 (by kernel_rfl:chkF Tryz.prog hs51 Tryz.f51=some fe51)
/- 52 (crimp/cones.cone).crosses -/
def hs52:Hints:=[z 0 [0,1,4],z 1 [9,10,11],z 3 [14,15],z 4 [16,17,18],z 6 [21,22],z 7 [24,25,26,23,27,28],(8,([0,1,2,3,4,5,6,7,8,9,10,11,12,13,14,15],[30,31,32,33,34,35,36,37,38,44])),z 9 [20,92,86,91,87,88,89,90,5,3,2,82,83,84,85,79,78,74,77,76,75,73,72,69,65,68,66,67,63,64,60,54,59,58,56,57,55,53,51,52,50,43,39,40,41,42,12,13,19,6,7,8,29],(10,([0,1,2,3,4,5,6,7,8,9,10,11,12,13,14,15,16,17,18,19,20,21,22,23,24,25,26,27,28,29,30,31,32,33,34,35,36,37,38,39,40,41,42,43,44,45,46,47,48],[6,7,8,29,46,47,48,49,61,62,70,71,80,81,93])),z 11 [20,92,86,91,87,88,89,90,5,3,2,82,83,84,85,79,78,74,77,76,75,73,72,69,65,68,66,67,63,64,60,54,59,58,56,57,55,53,51,52,50,43,39,40,41,42,12,13,19,45],z 12 [4,45,94],z 13 [5,19,20,95],z 14 [2,3,12,13]]
noncomputable def xc52:XC:=cdOf (chkF Tryz.prog hs52 Tryz.f52)
noncomputable def fe52:FnE:=⟨96,[(4,none)],xc52⟩
theorem ok52:FnOk Tryz.prog 52 fe52:=fnOk_of Tryz.func52 (by kernel_rfl:chkF Tryz.prog hs52 Tryz.f52=some fe52)
/- 53 (crimp/cones.cone).wrong -/
def hs53:Hints:=[z 0 [0,1,4],z 1 [9,10],z 3 [14,15,16,17],z 4 [19,20,21,18,22,23],(5,([0,1,2,3,4,5,6,7,8,9,10,11,12,13,14,15,16,17,18,19],[5,6,7,8,24,25,26,35,36])),z 6 [13,42,37,41,38,39,40,3,2,34,33,29,32,31,30,28,27,11,12,43],z 7 [4,43,44],z 8 [2,3,11,12,13]]
noncomputable def xc53:XC:=cdOf (chkF Tryz.prog hs53 Tryz.f53)
noncomputable def fe53:FnE:=⟨45,[(4,none)],xc53⟩
theorem ok53:FnOk Tryz.prog 53 fe53:=fnOk_of Tryz.func53 (by kernel_rfl:chkF Tryz.prog hs53 Tryz.f53=some fe53)
/- 54 (crimp/cones.cone).kind -/
def hs54:Hints:=[z 0 [0,1,6],z 1 [2,3,10,11,12,9,13,14],z 2 [15,16],z 3 [17,18,19],(4,([0,1,2,3,4,5,6],[4,7,8,17,20,21,22,23,24,25])),z 5 [26],z 6 [26]]
noncomputable def xc54:XC:=cdOf (chkF Tryz.prog hs54 Tryz.f54)
noncomputable def fe54:FnE:=⟨27,[(6,none)],xc54⟩
theorem ok54:FnOk Tryz.prog 54 fe54:=fnOk_of Tryz.func54 (by kernel_rfl:chkF Tryz.prog hs54 Tryz.f54=some fe54)
/- 55 crimp/fans.Parse -/
def hs55:Hints:=[z 0 [3],z 1 [7],z 2 [0,8,9],z 3 [3,8],z 4 [0,10],z 6 [14,15,16],z 7 [17,18,19,20,24,25],z 8 [13,4,28,27,26,23,22,21,11,12,6,29,30],(9,([0,1,2,3,4,5,6,7,8,9,10,11,12,13,14,15,16,17,18,19,20],[3,6,29,31,32,33,34,35,36,37,38,39,40,41,42,43,44,45,46,47,48,49])),z 10 [50],z 11 [11,12,13,51,52],z 12 [4,53,54],(13,([0,1,2,3,4,5,6,7,8],[4,53,55,56,57,58,59,60,61]))]
noncomputable def xc55:XC:=cdOf (chkF Tryz.prog hs55 Tryz.f55)
noncomputable def fe55:FnE:=⟨62,[(2,some (some 2)),(3,none)],xc55⟩
theorem ok55:FnOk Tryz.prog 55 fe55:=fnOk_of Tryz.func55 (by kernel_rfl:chkF Tryz.prog hs55 Tryz.f55=some fe55)
/- 56 crimp/balances.odd -/
def hs56:Hints:=[z 0 [0,2],z 1 [1,3,4,5,6,7]]
noncomputable def xc56:XC:=cdOf (chkF Tryz.prog hs56 Tryz.f56)
noncomputable def fe56:FnE:=⟨8,[(2,none)],xc56⟩
theorem ok56:FnOk Tryz.prog 56 fe56:=fnOk_of Tryz.func56 (by kernel_rfl:chkF Tryz.prog hs56 Tryz.f56=some fe56)
/- 57 crimp/balances.uneven -/
def hs57:Hints:=[z 0 [0,2],z 1 [1,6,7,5,8,9],z 2 [3,4,10,11,12]]
noncomputable def xc57:XC:=cdOf (chkF Tryz.prog hs57 Tryz.f57)
noncomputable def fe57:FnE:=⟨13,[(2,none)],xc57⟩
theorem ok57:FnOk Tryz.prog 57 fe57:=fnOk_of Tryz.func57 (by kernel_rfl:chkF Tryz.prog hs57 Tryz.f57=some fe57)
/- 58 (crimp/cones.cone).ways$1 -/
def hs58:Hints:=[z 0 [10,11],z 1 [12,13],z 2 [7,14,15,16,17,18,19,20],z 3 [21,22,23,24,25,26],z 4 [1,3,4,27,28],z 6 [31,32],(7,([0,1,2,3,4,5,6,7],[8,33,34,35,36,37,38,39,40])),z 8 [41],z 9 [0,2,6,29,30,1,27,42,43,44],(10,([0,1,2,3,4],[45,46,47,48])),(11,([0,1,2,3],[3,49,50,51,52])),z 12 [4,9,53,54,55,56]]
noncomputable def xc58:XC:=cdOf (chkF Tryz.prog hs58 Tryz.f58)
noncomputable def fe58:FnE:=⟨57,[],xc58⟩
theorem ok58:FnOk Tryz.prog 58 fe58:=fnOk_of Tryz.func58 (by kernel_rfl:chkF Tryz.prog hs58 Tryz.f58=some fe58)
/- 59 slices.Insert[[]int,int] -/
def hs59:Hints:=[z 0 [6],z 1 [10,11,12],z 2 [13,14],z 3 [15],z 4 [0,1,2,7,16,17],z 5 [6,16,18,19],z 6 [20,21],z 7 [0,1,2,7,8,22,23,24,25],z 8 [6,22,26,27,28,29,30],z 9 [8,31,32,33,34,35,36,37,38,39,40],z 10 [2,41,42,43,44,45],(11,([0,1,2,3,4,5,6,7,8],[0,1,7,46,47,48,49,50,51,52,53,54])),z 12 [9,55],z 13 [6,31,56,57,58,59,60],z 14 [61,62,63,64,65,66,67],(15,([0,1,2,3,4,5,6,7,8],[7,8,68,69,70,71,72,73,74,75,76,77])),z 16 [1,2,78,79,80,81,82],z 17 [0,83],z 18 [6,2,8,68,84,85,86,87,88],z 19 [1,7,89,90,91,92,93],z 20 [0,94]]
noncomputable def xc59:XC:=cdOf (chkF Tryz.prog hs59 Tryz.f59)
noncomputable def fe59:FnE:=⟨95,[(6,none)],xc59⟩
theorem ok59:FnOk Tryz.prog 59 fe59:=fnOk_of Tryz.func59 (by kernel_rfl:chkF Tryz.prog hs59 Tryz.f59=some fe59)
/- 60 (crimp/cones.cone).least -/
def hs60:Hints:=[z 0 [0,4],z 1 [10,11],z 2 [12,13,14],z 3 [15,16,17,18],z 4 [19,20],z 6 [23,24],z 7 [25,26,27,28],z 8 [29],z 10 [32,33],(11,([0,1,2,3,4,5,6,7,8,9,10,11,12,13,14,15,16,17,18,19,20,21,22],[9,34,35,55])),z 12 [56],z 13 [8,30,31],z 14 [22,21,7,57,58,59,60,61],z 15 [7,57,62],z 16 [1,2,5,6,63]]
noncomputable def xc60:XC:=cdOf (chkF Tryz.prog hs60 Tryz.f60)
noncomputable def fe60:FnE:=⟨64,[(4,none)],xc60⟩
theorem ok60:FnOk Tryz.prog 60 fe60:=fnOk_of Tryz.func60 (by kernel_rfl:chkF Tryz.prog hs60 Tryz.f60=some fe60)
/- 61 slices.SortFunc[[][]int,[]int] -/
def hs61:Hints:=[z 0 [5,6],z 1 [0,1,4,7,8,9,10,11,12,13]]
noncomputable def xc61:XC:=cdOf (chkF Tryz.prog hs61 Tryz.f61)
noncomputable def fe61:FnE:=⟨14,[],xc61⟩
theorem ok61:FnOk Tryz.prog 61 fe61:=fnOk_of Tryz.func61 (by kernel_rfl:chkF Tryz.prog hs61 Tryz.f61=some fe61)
/- 62 slices.Compare[[]int,int] -/
def hs62:Hints:=[z 0 [4],z 3 [12,13,14,15],z 4 [16,17,18],z 5 [11,1,9,0,10,5,6,19],z 6 [4,5,19,20,21,22,23],z 7 [6,7,24,25,26],z 8 [27],z 9 [11,1,9,0,10,8,28,29],z 10 [4,8,28,30],z 11 [0,1,9,10,11,31,32,33,34],z 12 [35],z 13 [35]]
noncomputable def xc62:XC:=cdOf (chkF Tryz.prog hs62 Tryz.f62)
noncomputable def fe62:FnE:=⟨36,[(4,none)],xc62⟩
theorem ok62:FnOk Tryz.prog 62 fe62:=fnOk_of Tryz.func62 (by kernel_rfl:chkF Tryz.prog hs62 Tryz.f62=some fe62)
/- 63 crimp/reductions.decided -/
def hs63:Hints:=[z 0 [0,2],z 1 [4,5],z 2 [6],z 3 [1,3,7,8],z 4 [2,1,3,7,9,10],z 5 [11],z 6 [11]]
noncomputable def xc63:XC:=cdOf (chkF Tryz.prog hs63 Tryz.f63)
noncomputable def fe63:FnE:=⟨12,[(2,none)],xc63⟩
theorem ok63:FnOk Tryz.prog 63 fe63:=fnOk_of Tryz.func63 (by kernel_rfl:chkF Tryz.prog hs63 Tryz.f63=some fe63)
/- 64 crimp/reductions.steps -/
def hs64:Hints:=[z 0 [0,2],z 1 [10,11,12],z 2 [13],z 3 [1,3,14],z 4 [2,3,14,15,16],z 6 [17],z 8 [21,22,23,24],(9,([0,1,2,3,4,5,6,7,8,9,10,11,12,13],[25,26,27,28,29,30,31,32,33,34,35,36,37])),z 10 [38,39,40,41,42,43,44,45,46],z 12 [49,50],z 13 [9,51,52,53,54,55,56],z 14 [57,58],z 15 [6,7,47,48,59,60,61,62],z 16 [63],z 17 [1,4,5,18,19,20,64,65]]
noncomputable def xc64:XC:=cdOf (chkF Tryz.prog hs64 Tryz.f64)
noncomputable def fe64:FnE:=⟨66,[(2,none)],xc64⟩
theorem ok64:FnOk Tryz.prog 64 fe64:=fnOk_of Tryz.func64 (by kernel_rfl:chkF Tryz.prog hs64 Tryz.f64=some fe64)
/- 65 crimp/reductions.done -/
def hs65:Hints:=[z 0 [0],z 1 [10,11,12],z 2 [13,14],z 4 [5],z 6 [17,18],z 7 [19,20,21,22],z 8 [29,30,31,32,33,34],z 9 [35,36,37,38,39],(10,([0,1,2,3,4,5,6,7,8,9,10,11,12,13,14,15,16],[40,41,42,43,44,45,46,47,48,49,50,51,52,53,54,55,56])),(11,([0,1,2,3,4,5,6,7,8,9,10,11,12,13,14,15,16,17],[8,9,40,57,58,59,60,61,62,63,64,65,66,67,68,69,70,71,72])),z 12 [73],(13,([0,1,2,3,4,5,6,7],[1,2,6,7,15,16,74,75,76,77,78,79,80]))]
noncomputable def xc65:XC:=cdOf (chkF Tryz.prog hs65 Tryz.f65)
noncomputable def fe65:FnE:=⟨81,[(4,some (some 2))],xc65⟩
theorem ok65:FnOk Tryz.prog 65 fe65:=fnOk_of Tryz.func65 (by kernel_rfl:chkF Tryz.prog hs65 Tryz.f65=some fe65)
/- 66 slices.Concat[[]int,int] -/
def hs66:Hints:=[z 0 [2],z 4 [12,13,14],z 5 [5,15,16,17,18],z 6 [19],z 7 [20,21],z 8 [20,22],z 9 [3,9,10,11,23,24],z 10 [0],z 12 [28,29,30],z 13 [8,31,32,33],z 14 [34],z 15 [6,25,26,27,35]]
noncomputable def xc66:XC:=cdOf (chkF Tryz.prog hs66 Tryz.f66)
noncomputable def fe66:FnE:=⟨36,[(2,none)],xc66⟩
theorem ok66:FnOk Tryz.prog 66 fe66:=fnOk_of Tryz.func66 (by kernel_rfl:chkF Tryz.prog hs66 Tryz.f66=some fe66)
/- 67 slices.Clip[[]crimp/api.Kind,crimp/api.Kind] -/
def hs67:Hints:=[z 0 [2],z 1 [0,3,4,5,6,7,8]]
noncomputable def xc67:XC:=cdOf (chkF Tryz.prog hs67 Tryz.f67)
noncomputable def fe67:FnE:=⟨9,[(2,none)],xc67⟩
theorem ok67:FnOk Tryz.prog 67 fe67:=fnOk_of Tryz.func67 (by kernel_rfl:chkF Tryz.prog hs67 Tryz.f67=some fe67)
/- 68 slices.Concat[[]crimp/api.Kind,crimp/api.Kind] -/
def hs68:Hints:=[z 0 [2],z 4 [12,13,14],z 5 [5,15,16,17,18],z 6 [19],z 7 [20,21],z 8 [20,22],z 9 [3,9,10,11,23,24],z 10 [0],z 12 [28,29,30],z 13 [8,31,32,33],z 14 [34],z 15 [6,25,26,27,35]]
noncomputable def xc68:XC:=cdOf (chkF Tryz.prog hs68 Tryz.f68)
noncomputable def fe68:FnE:=⟨36,[(2,none)],xc68⟩
theorem ok68:FnOk Tryz.prog 68 fe68:=fnOk_of Tryz.func68 (by kernel_rfl:chkF Tryz.prog hs68 Tryz.f68=some fe68)
/- 69 slices.Reverse[[]int,int] -/
def hs69:Hints:=[z 0 [4,5,6],z 1 [7,8],(3,([0,1,2,3,4,5,6,7,8,9,10,11,12,13,14,15],[9,14,15,16,17,18,19,20,21,22,23,24,25,26,27])),z 2 [10,11,12,13]]
noncomputable def xc69:XC:=cdOf (chkF Tryz.prog hs69 Tryz.f69)
noncomputable def fe69:FnE:=⟨28,[],xc69⟩
theorem ok69:FnOk Tryz.prog 69 fe69:=fnOk_of Tryz.func69 (by kernel_rfl:chkF Tryz.prog hs69 Tryz.f69=some fe69)
/- 70 slices.Clone[[]crimp/api.Kind,crimp/api.Kind] -/
def hs70:Hints:=[z 0 [2],z 1 [3],z 2 [0,4],z 3 [0,4,5,6,7]]
noncomputable def xc70:XC:=cdOf (chkF Tryz.prog hs70 Tryz.f70)
noncomputable def fe70:FnE:=⟨8,[(2,none)],xc70⟩
theorem ok70:FnOk Tryz.prog 70 fe70:=fnOk_of Tryz.func70 (by kernel_rfl:chkF Tryz.prog hs70 Tryz.f70=some fe70)
/- 71 slices.Reverse[[]crimp/api.Kind,crimp/api.Kind] -/
def hs71:Hints:=[z 0 [4,5,6],z 1 [7,8],(3,([0,1,2,3,4,5,6,7,8,9,10,11,12,13,14,15],[9,14,15,16,17,18,19,20,21,22,23,24,25,26,27])),z 2 [10,11,12,13]]
noncomputable def xc71:XC:=cdOf (chkF Tryz.prog hs71 Tryz.f71)
noncomputable def fe71:FnE:=⟨28,[],xc71⟩
theorem ok71:FnOk Tryz.prog 71 fe71:=fnOk_of Tryz.func71 (by kernel_rfl:chkF Tryz.prog hs71 Tryz.f71=some fe71)
/- 72 slices.Contains[[]int,int] -/
def hs72:Hints:=[z 0 [4],z 1 [0,1,5,6,7,8]]
noncomputable def xc72:XC:=cdOf (chkF Tryz.prog hs72 Tryz.f72)
noncomputable def fe72:FnE:=⟨9,[(4,none)],xc72⟩
theorem ok72:FnOk Tryz.prog 72 fe72:=fnOk_of Tryz.func72 (by kernel_rfl:chkF Tryz.prog hs72 Tryz.f72=some fe72)
/- 73 (crimp/cones.cone).sectors -/
def hs73:Hints:=[z 0 [0,4,5],z 1 [2,7,8,9,10],z 2 [1,6,11,12,13,14,15,16,17]]
noncomputable def xc73:XC:=cdOf (chkF Tryz.prog hs73 Tryz.f73)
noncomputable def fe73:FnE:=⟨18,[(4,none),(5,none)],xc73⟩
theorem ok73:FnOk Tryz.prog 73 fe73:=fnOk_of Tryz.func73 (by kernel_rfl:chkF Tryz.prog hs73 Tryz.f73=some fe73)
/- 74 (crimp/cones.cone).inside -/
def hs74:Hints:=[z 0 [0,6],(1,([0,1,2,3,4,5,6,7,8,9,10,11,12],[2,3,9,10,11,12,13,14,15,16,17,18,19])),z 2 [1,7,8,20,21,22,23,24,25,26,27,28,29,30,31]]
noncomputable def xc74:XC:=cdOf (chkF Tryz.prog hs74 Tryz.f74)
noncomputable def fe74:FnE:=⟨32,[(6,none)],xc74⟩
theorem ok74:FnOk Tryz.prog 74 fe74:=fnOk_of Tryz.func74 (by kernel_rfl:chkF Tryz.prog hs74 Tryz.f74=some fe74)
/- 75 (crimp/cones.cone).between -/
def hs75:Hints:=[z 0 [0,1,8],z 1 [2,4,14,15,16,13,17,18],(2,([0,1,2,3,4,5,6,7,8,9,10,11,12,13,14,15],[9,10,19,20,21,22,23,24,25,26,27,28,29,30,31,32])),z 3 [3,5,11,12,33,34,35,36,37,38,39,40,41,42,43,44,45,46,47,48]]
noncomputable def xc75:XC:=cdOf (chkF Tryz.prog hs75 Tryz.f75)
noncomputable def fe75:FnE:=⟨49,[(8,none)],xc75⟩
theorem ok75:FnOk Tryz.prog 75 fe75:=fnOk_of Tryz.func75 (by kernel_rfl:chkF Tryz.prog hs75 Tryz.f75=some fe75)
/- 76 (crimp/cones.cone).side -/
def hs76:Hints:=[z 0 [0,4],(1,([0,1,2,3,4,5,6,7,8,9,10,11,12],[1,2,5,6,7,8,9,10,11,12,13,14,15,16]))]
noncomputable def xc76:XC:=cdOf (chkF Tryz.prog hs76 Tryz.f76)
noncomputable def fe76:FnE:=⟨17,[(4,none)],xc76⟩
theorem ok76:FnOk Tryz.prog 76 fe76:=fnOk_of Tryz.func76 (by kernel_rfl:chkF Tryz.prog hs76 Tryz.f76=some fe76)
/- 77 strings.Split -/
def hs77:Hints:=[z 0 [4],z 1 [0,1,5,6,7]]
noncomputable def xc77:XC:=cdOf (chkF Tryz.prog hs77 Tryz.f77)
noncomputable def fe77:FnE:=⟨8,[(4,none)],xc77⟩
theorem ok77:FnOk Tryz.prog 77 fe77:=fnOk_of Tryz.func77 (by kernel_rfl:chkF Tryz.prog hs77 Tryz.f77=some fe77)
/- 78 strings.IndexByte -/
def hs78:Hints:=[z 0 [4],z 1 [0,1,5,6,7]]
noncomputable def xc78:XC:=cdOf (chkF Tryz.prog hs78 Tryz.f78)
noncomputable def fe78:FnE:=⟨8,[(4,none)],xc78⟩
theorem ok78:FnOk Tryz.prog 78 fe78:=fnOk_of Tryz.func78 (by kernel_rfl:chkF Tryz.prog hs78 Tryz.f78=some fe78)
/- 79 crimp/balances.sums -/
def hs79:Hints:=[z 0 [0],z 1 [1,6],z 3 [10,11,12,13],z 4 [4,14,15],z 5 [5,16,17,18,19],z 6 [5,16,20,21,22],z 7 [23],z 8 [7,8,9,24,25]]
noncomputable def xc79:XC:=cdOf (chkF Tryz.prog hs79 Tryz.f79)
noncomputable def fe79:FnE:=⟨26,[(2,none),(3,none)],xc79⟩
theorem ok79:FnOk Tryz.prog 79 fe79:=fnOk_of Tryz.func79 (by kernel_rfl:chkF Tryz.prog hs79 Tryz.f79=some fe79)
/- 81 slices.rotateRight[int] -/
def hs81:Hints:=[z 0 [0,1,4,5,6,7,8,9]]
noncomputable def xc81:XC:=cdOf (chkF Tryz.prog hs81 Tryz.f81)
noncomputable def fe81:FnE:=⟨10,[],xc81⟩
theorem ok81:FnOk Tryz.prog 81 fe81:=fnOk_of Tryz.func81 (by kernel_rfl:chkF Tryz.prog hs81 Tryz.f81=some fe81)
/- 82 (crimp/cones.cone).overlap -/
def hs82:Hints:=[z 0 [0,6],(1,([0,1,2,3,4,5,6,7,8,9,10,11,12,13,14,15,16,17,18,19,20,21,22,23,24,25,26,27,28,29,30,31,32,33,34,35,36,37,38,39,40,41,42,43,44,45,46,47,48,49,50,51],[1,2,3,7,8,9,10,11,12,13,14,15,16,17,18,19,20,21,22,23,24,25,26,27,28,29,30,31,32,33,34,35,36,37,38,39,40,41,42,43,44,45,46,47,48,49,50,51,52,53,54,55,56,57]))]
noncomputable def xc82:XC:=cdOf (chkF Tryz.prog hs82 Tryz.f82)
noncomputable def fe82:FnE:=⟨58,[(6,none)],xc82⟩
theorem ok82:FnOk Tryz.prog 82 fe82:=fnOk_of Tryz.func82 (by kernel_rfl:chkF Tryz.prog hs82 Tryz.f82=some fe82)
/- 83 slices.pdqsortCmpFunc[[]int] -/
def hs83:Hints:=[z 2 [21,22,23],z 3 [24],z 4 [4,2,1,0,96,95,94,84,89,93,92,90,91,88,85,87,86,74,73,70,11,10,3,12,25,26,27,28,29,30],z 5 [25,31],z 6 [4,2,1,0,96,95,94,84,89,93,92,90,91,88,85,87,86,74,73,70,11,10,3,12,32,33,34,35,36,37],z 7 [32,38],z 8 [39,40,41,42,43,44],z 9 [45,46],z 10 [39,48,49,50,51,52,47,53,54],z 11 [55],z 12 [14,56,57,58,59,60,61],z 13 [62,63,64,65,66,67],z 15 [14,56,68,69,71,72],z 16 [75,76,77,78,79],(17,([0,1,2,3,4,5,6,7,8,9,10,11,12,13,14,15,16],[80,75,81,82,83])),z 18 [1,12,13,97,98,99,100,101,102,103],z 19 [15,104],z 20 [11,10,13,97,106,107,108,109,110,111,105,112,113],z 21 [17,114],z 22 [115,116,117,118,119,120],z 23 [12,121,122],z 24 [123,124],z 25 [18,19,20,125,126,127,128],z 26 [1,129,130,131,132,133,134],z 27 [16,135,136],z 28 [18,19,20,125,137,138,139],z 29 [2,140,141,142,143,144,145,146],z 30 [16,147]]
noncomputable def xc83:XC:=cdOf (chkF Tryz.prog hs83 Tryz.f83)
noncomputable def fe83:FnE:=⟨148,[],xc83⟩
theorem ok83:FnOk Tryz.prog 83 fe83:=fnOk_of Tryz.func83 (by kernel_rfl:chkF Tryz.prog hs83 Tryz.f83=some fe83)
/- 84 math/bits.Len -/
def hs84:Hints:=[z 0 [2],z 1 [0,3,4,5],z 2 [0,6,7]]
noncomputable def xc84:XC:=cdOf (chkF Tryz.prog hs84 Tryz.f84)
noncomputable def fe84:FnE:=⟨8,[(2,none)],xc84⟩
theorem ok84:FnOk Tryz.prog 84 fe84:=fnOk_of Tryz.func84 (by kernel_rfl:chkF Tryz.prog hs84 Tryz.f84=some fe84)
/- 85 cmp.Compare[int] -/
def hs85:Hints:=[z 0 [4],z 1 [7,8],z 2 [9,10],z 3 [5],z 4 [0,1,6,11],z 5 [12],z 6 [12],z 7 [4,6,11],z 8 [0,1,13],z 9 [4,13,14,15],z 10 [0,1,16],z 11 [4,0,1,16,17,18],z 12 [19],z 13 [19]]
noncomputable def xc85:XC:=cdOf (chkF Tryz.prog hs85 Tryz.f85)
noncomputable def fe85:FnE:=⟨20,[(4,none)],xc85⟩
theorem ok85:FnOk Tryz.prog 85 fe85:=fnOk_of Tryz.func85 (by kernel_rfl:chkF Tryz.prog hs85 Tryz.f85=some fe85)
/- 86 slices.Contains[[]crimp/api.Kind,crimp/api.Kind] -/
def hs86:Hints:=[z 0 [4],z 1 [0,1,5,6,7,8]]
noncomputable def xc86:XC:=cdOf (chkF Tryz.prog hs86 Tryz.f86)
noncomputable def fe86:FnE:=⟨9,[(4,none)],xc86⟩
theorem ok86:FnOk Tryz.prog 86 fe86:=fnOk_of Tryz.func86 (by kernel_rfl:chkF Tryz.prog hs86 Tryz.f86=some fe86)
/- 87 crimp/reductions.around -/
def hs87:Hints:=[z 0 [0,2],z 1 [1,3]]
noncomputable def xc87:XC:=cdOf (chkF Tryz.prog hs87 Tryz.f87)
noncomputable def fe87:FnE:=⟨4,[(2,none)],xc87⟩
theorem ok87:FnOk Tryz.prog 87 fe87:=fnOk_of Tryz.func87 (by kernel_rfl:chkF Tryz.prog hs87 Tryz.f87=some fe87)
/- 88 slices.Grow[[]int,int] -/
def hs88:Hints:=[z 0 [4],z 1 [5],z 2 [6,7],z 3 [6,8,9,10,11,12,13,14],z 4 [15],z 5 [1,16,17,18,19,20,21,22,23,24,25],z 6 [0,1,16,26]]
noncomputable def xc88:XC:=cdOf (chkF Tryz.prog hs88 Tryz.f88)
noncomputable def fe88:FnE:=⟨27,[(4,none)],xc88⟩
theorem ok88:FnOk Tryz.prog 88 fe88:=fnOk_of Tryz.func88 (by kernel_rfl:chkF Tryz.prog hs88 Tryz.f88=some fe88)
/- 89 slices.Grow[[]crimp/api.Kind,crimp/api.Kind] -/
def hs89:Hints:=[z 0 [4],z 1 [5],z 2 [6,7],z 3 [6,8,9,10,11,12,13,14],z 4 [15],z 5 [1,16,17,18,19,20,21,22,23,24,25],z 6 [0,1,16,26]]
noncomputable def xc89:XC:=cdOf (chkF Tryz.prog hs89 Tryz.f89)
noncomputable def fe89:FnE:=⟨27,[(4,none)],xc89⟩
theorem ok89:FnOk Tryz.prog 89 fe89:=fnOk_of Tryz.func89 (by kernel_rfl:chkF Tryz.prog hs89 Tryz.f89=some fe89)
/- 90 slices.Index[[]int,int] -/
def hs90:Hints:=[z 0 [4],z 1 [6],z 3 [9,10],z 4 [11,12,13,14,15],z 5 [8,0,1,7,5,16,17],z 6 [4,5,16,18],z 7 [0,1,7,8]]
noncomputable def xc90:XC:=cdOf (chkF Tryz.prog hs90 Tryz.f90)
noncomputable def fe90:FnE:=⟨19,[(4,none)],xc90⟩
theorem ok90:FnOk Tryz.prog 90 fe90:=fnOk_of Tryz.func90 (by kernel_rfl:chkF Tryz.prog hs90 Tryz.f90=some fe90)
/- 91 strings.genSplit -/
def hs91:Hints:=[z 0 [8],z 1 [12],z 2 [0,1,2,3,13],z 3 [8,13,14],z 4 [0,1,2,3,15,16,17,18],z 5 [8,15,19],z 6 [20,21,22,23,24],z 7 [20,25,26,27,28,29],z 8 [30,31],z 9 [32,33],z 11 [34,35],z 12 [36,37,38,39],z 13 [40],z 14 [41,42,43,44,45,46,47,48,49],z 15 [11,50,51,52,53,54,55],z 16 [56,57],z 17 [0,1,2,3,58,59,60,61],z 18 [9,10,62,63,64,65]]
noncomputable def xc91:XC:=cdOf (chkF Tryz.prog hs91 Tryz.f91)
noncomputable def fe91:FnE:=⟨66,[(8,none)],xc91⟩
theorem ok91:FnOk Tryz.prog 91 fe91:=fnOk_of Tryz.func91 (by kernel_rfl:chkF Tryz.prog hs91 Tryz.f91=some fe91)
/- 92 internal/stringslite.IndexByte -/
def hs92:Hints:=[z 0 [4],z 1 [0,1,5,6,7]]
noncomputable def xc92:XC:=cdOf (chkF Tryz.prog hs92 Tryz.f92)
noncomputable def fe92:FnE:=⟨8,[(4,none)],xc92⟩
theorem ok92:FnOk Tryz.prog 92 fe92:=fnOk_of Tryz.func92 (by kernel_rfl:chkF Tryz.prog hs92 Tryz.f92=some fe92)
/- 93 slices.rotateLeft[int] -/
def hs93:Hints:=[z 0 [4,5,6,7],z 1 [1,8,9,10,11],z 2 [0,12,13]]
noncomputable def xc93:XC:=cdOf (chkF Tryz.prog hs93 Tryz.f93)
noncomputable def fe93:FnE:=⟨14,[],xc93⟩
theorem ok93:FnOk Tryz.prog 93 fe93:=fnOk_of Tryz.func93 (by kernel_rfl:chkF Tryz.prog hs93 Tryz.f93=some fe93)
/- 94 slices.insertionSortCmpFunc[[]int] -/
def hs94:Hints:=[z 0 [10,11],z 1 [12,13],z 3 [14,17],(4,([0,1,2,3,4,5,6,7,8,9,10,11,12,13,14,15,16],[18,19,20,21])),(6,([0,1,2,3,4,5,6,7,8,9,10,11,12,13,14,15,16,17],[34,37,38,39,40,41,42,43,44,45,46,47,48,49,50,51,52])),z 5 [35,36],z 2 [9,15,16]]
noncomputable def xc94:XC:=cdOf (chkF Tryz.prog hs94 Tryz.f94)
noncomputable def fe94:FnE:=⟨53,[],xc94⟩
theorem ok94:FnOk Tryz.prog 94 fe94:=fnOk_of Tryz.func94 (by kernel_rfl:chkF Tryz.prog hs94 Tryz.f94=some fe94)
/- 95 slices.heapSortCmpFunc[[]int] -/
def hs95:Hints:=[z 0 [13],z 2 [1,2,14,15,16],z 3 [17,18,19],z 4 [20],z 6 [21,24,25,26,27,28,29],z 5 [22,23],z 7 [10,11,30,31],z 8 [32],(10,([0,1,2,3,4,5,6,7,8,9,10,11,12,13,14,15,16,17,18,19],[33,36,37,38,39,40,41,42,43,44,45,46,47,48,49,50,51,52,53])),z 11 [54,55,56,57,58,59],z 9 [34,35]]
noncomputable def xc95:XC:=cdOf (chkF Tryz.prog hs95 Tryz.f95)
noncomputable def fe95:FnE:=⟨60,[],xc95⟩
theorem ok95:FnOk Tryz.prog 95 fe95:=fnOk_of Tryz.func95 (by kernel_rfl:chkF Tryz.prog hs95 Tryz.f95=some fe95)
/- 96 slices.breakPatternsCmpFunc[[]int] -/
def hs96:Hints:=[z 0 [2,3,13,14,15],z 1 [16],z 2 [17,18,19],z 3 [20,21],z 4 [22,23,24,25,26,27],z 5 [28,29,30,31,32,33,34],z 7 [35,38,39,40,41,42],z 8 [43,44],z 9 [45,46,47,48],(10,([0,1,2,3,4,5,6,7,8,9,10,11,12,13,14,15,16,17,18,19],[12,45,49,50,51,52,53,54,55,56,57,58,59,60,61,62,63,64,65,66])),z 6 [36,37]]
noncomputable def xc96:XC:=cdOf (chkF Tryz.prog hs96 Tryz.f96)
noncomputable def fe96:FnE:=⟨67,[],xc96⟩
theorem ok96:FnOk Tryz.prog 96 fe96:=fnOk_of Tryz.func96 (by kernel_rfl:chkF Tryz.prog hs96 Tryz.f96=some fe96)
/- 97 slices.choosePivotCmpFunc[[]int] -/
def hs97:Hints:=[z 0 [8,9],z 1 [2,15,16,17],z 3 [18,19,20,21,22],z 4 [23,24,25,26,27],z 5 [1,28,29,30,31,32],z 6 [33],z 7 [10,34,35],z 8 [36,37,38,39,40],z 9 [41,42,43,44],z 10 [45,46,47,48],z 11 [0,3,12,14,36,49,50,51,52,53,54],z 12 [11,0,3,10,12,14,34],z 14 [58],z 15 [13,55,57,59],z 16 [55,57,61],z 17 [13,60,62],z 13 [13,60,56]]
noncomputable def xc97:XC:=cdOf (chkF Tryz.prog hs97 Tryz.f97)
noncomputable def fe97:FnE:=⟨63,[(8,none),(9,none)],xc97⟩
theorem ok97:FnOk Tryz.prog 97 fe97:=fnOk_of Tryz.func97 (by kernel_rfl:chkF Tryz.prog hs97 Tryz.f97=some fe97)
/- 98 slices.reverseRangeCmpFunc[[]int] -/
def hs98:Hints:=[z 0 [1,3,10],z 1 [2,11,12],z 2 [13,14],(3,([0,1,2,3,4,5,6,7,8,9,10,11,12,13,14,15],[15,16,17,18,19,20,21,22,23,24,25,26,27,28,29])),z 4 [30,31],z 5 [32,33]]
noncomputable def xc98:XC:=cdOf (chkF Tryz.prog hs98 Tryz.f98)
noncomputable def fe98:FnE:=⟨34,[],xc98⟩
theorem ok98:FnOk Tryz.prog 98 fe98:=fnOk_of Tryz.func98 (by kernel_rfl:chkF Tryz.prog hs98 Tryz.f98=some fe98)
/- 99 slices.partialInsertionSortCmpFunc[[]int] -/
def hs99:Hints:=[z 0 [8],z 1 [13,14],z 3 [15],(5,([0,1,2,3,4,5,6,7,8,9,10,11,12,13,14,15,16,17],[19,20,21,22])),z 6 [36,37,38],z 7 [16,39,40],z 8 [9,10,0,3,2,1,35,34,33,23,27,32,31,28,30,29,26,24,25,41],z 9 [8,41,42,43,44],z 10 [9,10,0,3,2,1,35,34,33,23,27,32,31,28,30,29,26,24,25,45],(11,([0,1,2,3,4,5,6,7,8,9,10,11,12,13,14,15,16,17],[8,45,46,47,48,49,50,51,52,53,54,55,56,57,58,59,60,61])),z 12 [62,63,64],z 13 [65,66,67],z 14 [68],(16,([0,1,2,3,4,5,6,7,8,9,10,11,12],[69,72,73,74,75,76,77,78,79,80,81,82,83])),(17,([0,1,2,3,4,5,6,7,8,9,10,11,12,13,14,15,16,17],[84,85,86,87,88,89,90,91,92,93,94,95,96,97,98,99,100])),z 15 [70,71],z 18 [11,65,101,102,103],z 19 [104,105,106],z 20 [107,108],(22,([0,1,2,3,4,5,6,7,8,9,10,11,12],[109,112,113,114,115,116,117,118,119,120,121,122,123])),(23,([0,1,2,3,4,5,6,7,8,9,10,11,12,13,14,15,16,17],[124,125,126,127,128,129,130,131,132,133,134,135,136,137,138,139,140])),z 21 [110,111],z 4 [12,104,17,18],z 24 [0,1,2,3,9,10]]
noncomputable def xc99:XC:=cdOf (chkF Tryz.prog hs99 Tryz.f99)
noncomputable def fe99:FnE:=⟨141,[(8,none)],xc99⟩
theorem ok99:FnOk Tryz.prog 99 fe99:=fnOk_of Tryz.func99 (by kernel_rfl:chkF Tryz.prog hs99 Tryz.f99=some fe99)
/- 100 slices.partitionEqualCmpFunc[[]int] -/
def hs100:Hints:=[z 0 [10],(1,([0,1,2,3,4,5,6,7,8,9,10,11,12,13,14,15],[3,13,14,15,16,17,18,19,20,21,22,23,24,25,26])),z 2 [2,27,28,29,30],(3,([0,1,2,3,4,5,6,7,8,9,10,11,12,13,14,15,16],[31,32,33,34])),z 4 [47,48,49],(5,([0,1,2,3,4,5,6,7,8,9,10,11,12,13,14,15],[50,51,52,53])),z 6 [65,66,67],z 7 [68,69],(8,([0,1,2,3,4,5,6,7,8,9,10,11,12,13,14,15],[70,71,72,73,74,75,76,77,78,79,80,81,82,83,84])),z 9 [85,86],z 10 [87,88],z 11 [0,1,4,11,12,89]]
noncomputable def xc100:XC:=cdOf (chkF Tryz.prog hs100 Tryz.f100)
noncomputable def fe100:FnE:=⟨90,[(10,none)],xc100⟩
theorem ok100:FnOk Tryz.prog 100 fe100:=fnOk_of Tryz.func100 (by kernel_rfl:chkF Tryz.prog hs100 Tryz.f100=some fe100)
/- 101 slices.partitionCmpFunc[[]int] -/
def hs101:Hints:=[z 0 [10,11],(1,([0,1,2,3,4,5,6,7,8,9,10,11,12,13,14,15],[3,14,15,16,17,18,19,20,21,22,23,24,25,26,27])),z 2 [2,28,29,30,31],(3,([0,1,2,3,4,5,6,7,8,9,10,11,12,13,14,15],[32,33,34,35])),z 4 [47,48,49],(5,([0,1,2,3,4,5,6,7,8,9,10,11,12,13,14,15,16],[50,51,52,53])),z 6 [66,67,68],z 7 [65,64,63,54,58,62,61,59,60,57,55,56,69,70],(8,([0,1,2,3,4,5,6,7,8,9,10,11,12,13,14,15],[0,1,4,12,138,137,136,127,131,135,134,132,133,130,128,129,119,118,109,113,117,116,114,115,112,110,111,71,72,73,74,75,76,77,78,79,80,81,82,83,84,85])),z 9 [13,86],(10,([0,1,2,3,4,5,6,7,8,9,10,11,12,13,14,15],[10,11,71,87,88,89,90,91,92,93,94,95,96,97,98,99,100])),z 11 [101,102],z 12 [103,104],(13,([0,1,2,3,4,5,6,7,8,9,10,11,12,13,14,15],[105,106,107,108])),z 14 [120,121,122],(15,([0,1,2,3,4,5,6,7,8,9,10,11,12,13,14,15,16],[123,124,125,126])),z 16 [139,140,141],z 17 [142,143],(18,([0,1,2,3,4,5,6,7,8,9,10,11,12,13,14,15],[144,145,146,147,148,149,150,151,152,153,154,155,156,157,158])),z 19 [159,160],z 20 [161,162],(21,([0,1,2,3,4,5,6,7,8,9,10,11,12,13,14,15],[0,1,4,12,138,137,136,127,131,135,134,132,133,130,128,129,119,118,109,113,117,116,114,115,112,110,111,163,164,165,166,167,168,169,170,171,172,173,174,175,176])),z 22 [13,177]]
noncomputable def xc101:XC:=cdOf (chkF Tryz.prog hs101 Tryz.f101)
noncomputable def fe101:FnE:=⟨178,[(10,none),(11,none)],xc101⟩
theorem ok101:FnOk Tryz.prog 101 fe101:=fnOk_of Tryz.func101 (by kernel_rfl:chkF Tryz.prog hs101 Tryz.f101=some fe101)
/- 102 math/bits.Len32 -/
def hs102:Hints:=[z 1 [3],z 2 [2,4,5,6],z 4 [4,7],z 5 [8,9,10],z 6 [11,12],z 7 [0,8,13,14,15,16,17,18]]
noncomputable def xc102:XC:=cdOf (chkF Tryz.prog hs102 Tryz.f102)
noncomputable def fe102:FnE:=⟨19,[(2,none)],xc102⟩
theorem ok102:FnOk Tryz.prog 102 fe102:=fnOk_of Tryz.func102 (by kernel_rfl:chkF Tryz.prog hs102 Tryz.f102=some fe102)
/- 103 math/bits.Len64 -/
def hs103:Hints:=[z 1 [3],z 2 [2,4,5,6],z 4 [4,7],z 5 [8,9,10],z 6 [11,12],z 7 [8,13],z 8 [14,15,16],z 9 [17,18],z 10 [0,14,19,20,21,22,23,24]]
noncomputable def xc103:XC:=cdOf (chkF Tryz.prog hs103 Tryz.f103)
noncomputable def fe103:FnE:=⟨25,[(2,none)],xc103⟩
theorem ok103:FnOk Tryz.prog 103 fe103:=fnOk_of Tryz.func103 (by kernel_rfl:chkF Tryz.prog hs103 Tryz.f103=some fe103)
/- 104 cmp.isNaN[int] -/
def hs104:Hints:=[z 0 [2],z 1 [0,3,4,5]]
noncomputable def xc104:XC:=cdOf (chkF Tryz.prog hs104 Tryz.f104)
noncomputable def fe104:FnE:=⟨6,[(2,none)],xc104⟩
theorem ok104:FnOk Tryz.prog 104 fe104:=fnOk_of Tryz.func104 (by kernel_rfl:chkF Tryz.prog hs104 Tryz.f104=some fe104)
/- 105 slices.Index[[]crimp/api.Kind,crimp/api.Kind] -/
def hs105:Hints:=[z 0 [4],z 1 [6],z 3 [9,10],z 4 [11,12,13,14,15],z 5 [8,0,1,7,5,16,17],z 6 [4,5,16,18],z 7 [0,1,7,8]]
noncomputable def xc105:XC:=cdOf (chkF Tryz.prog hs105 Tryz.f105)
noncomputable def fe105:FnE:=⟨19,[(4,none)],xc105⟩
theorem ok105:FnOk Tryz.prog 105 fe105:=fnOk_of Tryz.func105 (by kernel_rfl:chkF Tryz.prog hs105 Tryz.f105=some fe105)
/- 106 crimp/reductions.around$1 -/
def hs106:Hints:=[z 0 [3],z 1 [0,1,4,5,6,7,8]]
noncomputable def xc106:XC:=cdOf (chkF Tryz.prog hs106 Tryz.f106)
noncomputable def fe106:FnE:=⟨9,[(3,none)],xc106⟩
theorem ok106:FnOk Tryz.prog 106 fe106:=fnOk_of Tryz.func106 (by kernel_rfl:chkF Tryz.prog hs106 Tryz.f106=some fe106)
/- 107 strings.explode -/
def hs107:Hints:=[z 0 [4],z 1 [10,11],z 2 [12,13,14,15,16,17],z 3 [5,18,19],z 4 [5,18,20,21],z 6 [22,23,24],z 8 [25,29,30,28,31,32,8],z 9 [33,34,35,36,37,38],z 10 [9,39,40,41],z 7 [26,27],z 11 [7,42],z 12 [0,1,43,44,45,46,47,48],z 13 [6,0,1,43,49]]
noncomputable def xc107:XC:=cdOf (chkF Tryz.prog hs107 Tryz.f107)
noncomputable def fe107:FnE:=⟨50,[(4,none)],xc107⟩
theorem ok107:FnOk Tryz.prog 107 fe107:=fnOk_of Tryz.func107 (by kernel_rfl:chkF Tryz.prog hs107 Tryz.f107=some fe107)
/- 108 strings.Count -/
def hs108:Hints:=[z 0 [4],z 1 [7,8],z 2 [0,1,9,10,11,12],z 3 [4,9,13,14],z 4 [0,1,15,16,17,18,19],z 5 [4,15],z 6 [20,21,22],z 7 [23],z 8 [5,1,0,6,24,25],z 9 [4,24,26,27],z 10 [6,28,29,30,31,32,33]]
noncomputable def xc108:XC:=cdOf (chkF Tryz.prog hs108 Tryz.f108)
noncomputable def fe108:FnE:=⟨34,[(4,none)],xc108⟩
theorem ok108:FnOk Tryz.prog 108 fe108:=fnOk_of Tryz.func108 (by kernel_rfl:chkF Tryz.prog hs108 Tryz.f108=some fe108)
/- 109 strings.Index -/
def hs109:Hints:=[z 0 [4],z 1 [0,1,5,6,7]]
noncomputable def xc109:XC:=cdOf (chkF Tryz.prog hs109 Tryz.f109)
noncomputable def fe109:FnE:=⟨8,[(4,none)],xc109⟩
theorem ok109:FnOk Tryz.prog 109 fe109:=fnOk_of Tryz.func109 (by kernel_rfl:chkF Tryz.prog hs109 Tryz.f109=some fe109)
/- 111 slices.siftDownCmpFunc[[]int] -/
def hs111:Hints:=[z 0 [1,12],z 1 [13,14,15],z 2 [16,17],(3,([0,1,2,3,4,5,6,7,8,9,10,11,12,13,14,15,16,17,18,19,20,21],[18,19,20,21,22,23])),z 4 [40,41,42],(5,([0,1,2,3,4,5,6,7,8,9,10,11,12,13,14,15],[40,43,44,45,46,47,48,49,50,51,52,53,54,55,56,57])),(6,([0,1,2,3,4,5,6,7,8,9,10,11,12,13,14,15,16,17,18,19,20,21,22,23],[10,58,59,60,61,62,63,64,65,66,67,68,69,70,71,72,73,74,75,76,77,78,79,80])),z 7 [11,81]]
noncomputable def xc111:XC:=cdOf (chkF Tryz.prog hs111 Tryz.f111)
noncomputable def fe111:FnE:=⟨82,[],xc111⟩
theorem ok111:FnOk Tryz.prog 111 fe111:=fnOk_of Tryz.func111 (by kernel_rfl:chkF Tryz.prog hs111 Tryz.f111=some fe111)
/- 112 slices.nextPowerOfTwo -/
def hs112:Hints:=[z 0 [2],z 1 [0,3,4,5,6]]
noncomputable def xc112:XC:=cdOf (chkF Tryz.prog hs112 Tryz.f112)
noncomputable def fe112:FnE:=⟨7,[(2,none)],xc112⟩
theorem ok112:FnOk Tryz.prog 112 fe112:=fnOk_of Tryz.func112 (by kernel_rfl:chkF Tryz.prog hs112 Tryz.f112=some fe112)
/- 113 (*slices.xorshift).Next -/
def hs113:Hints:=[z 0 [2],(1,([0,1,2,3,4,5,6,7,8,9],[3,4,5,6,7,8,9,10,11])),(2,([0,1,2,3,4,5,6,7,8,9],[12,13,14,15,16,17,18,19,20])),(3,([0,1,2,3,4,5,6,7,8,9],[21,22,23,24,25,26,27,28,29])),z 4 [0,30,31,32]]
noncomputable def xc113:XC:=cdOf (chkF Tryz.prog hs113 Tryz.f113)
noncomputable def fe113:FnE:=⟨33,[(2,none)],xc113⟩
theorem ok113:FnOk Tryz.prog 113 fe113:=fnOk_of Tryz.func113 (by kernel_rfl:chkF Tryz.prog hs113 Tryz.f113=some fe113)
/- 114 slices.medianAdjacentCmpFunc[[]int] -/
def hs114:Hints:=[z 0 [8],z 1 [0,1,2,3,9,10,11,12,13,14,15,16,17]]
noncomputable def xc114:XC:=cdOf (chkF Tryz.prog hs114 Tryz.f114)
noncomputable def fe114:FnE:=⟨18,[(8,none)],xc114⟩
theorem ok114:FnOk Tryz.prog 114 fe114:=fnOk_of Tryz.func114 (by kernel_rfl:chkF Tryz.prog hs114 Tryz.f114=some fe114)
/- 115 slices.medianCmpFunc[[]int] -/
def hs115:Hints:=[z 0 [12],z 1 [14,15,16,17,18,19,13,20,21],z 2 [3,23,24,25,26,27,28,22,29,30],z 3 [0,1,4,5,32,33,34,35,36,37,31,38,39],z 4 [2,40]]
noncomputable def xc115:XC:=cdOf (chkF Tryz.prog hs115 Tryz.f115)
noncomputable def fe115:FnE:=⟨41,[(12,none)],xc115⟩
theorem ok115:FnOk Tryz.prog 115 fe115:=fnOk_of Tryz.func115 (by kernel_rfl:chkF Tryz.prog hs115 Tryz.f115=some fe115)
/- 116 unicode/utf8.RuneCountInString -/
def hs116:Hints:=[z 1 [0,3],z 2 [5],z 3 [6,7,8],z 4 [4,9]]
noncomputable def xc116:XC:=cdOf (chkF Tryz.prog hs116 Tryz.f116)
noncomputable def fe116:FnE:=⟨10,[(2,none)],xc116⟩
theorem ok116:FnOk Tryz.prog 116 fe116:=fnOk_of Tryz.func116 (by kernel_rfl:chkF Tryz.prog hs116 Tryz.f116=some fe116)
/- 117 unicode/utf8.DecodeRuneInString -/
def hs117:Hints:=[z 0 [2,3],z 1 [4,5,6,7,8,9],z 2 [0,10,11,12,13],z 3 [0,10,15,16,14,17,18]]
noncomputable def xc117:XC:=cdOf (chkF Tryz.prog hs117 Tryz.f117)
noncomputable def fe117:FnE:=⟨19,[(2,none),(3,none)],xc117⟩
theorem ok117:FnOk Tryz.prog 117 fe117:=fnOk_of Tryz.func117 (by kernel_rfl:chkF Tryz.prog hs117 Tryz.f117=some fe117)
/- 119 internal/stringslite.Index -/
def hs119:Hints:=[z 0 [4],z 1 [14,15],z 2 [17,18,19,20,21,22,23],z 3 [0,1,5,16],z 4 [16,25,26],z 5 [0,1,5,24,27,28,29,30],z 6 [24,32,33,34,35],z 7 [0,1,5,31],z 8 [31,37,38,39,40,41,42,43,44],z 9 [0,1,5,36,45,46,47],z 10 [4,36,48,49],z 11 [50,51],z 13 [52,53,54,55,56],z 15 [57,58],z 16 [59,60,61,62,63],z 17 [64,65,66,67,68,69,70,71],z 18 [72],z 19 [1,0,131,129,130,9,126,122,125,124,123,5,106,103,105,104,10,92,90,91,85,86,89,87,88,7,8,6,11,73],z 20 [4,11,73,74,75,76,77],z 21 [64,78,79,80,81,82,83,84],z 22 [1,0,131,129,130,9,126,122,125,124,123,5,106,103,105,104,10,92,90,91,85,86,89,87,88,7,8,6,93,94],z 23 [4,93,95,96],z 24 [97,98],z 25 [99,100,101,102],z 26 [1,0,131,129,130,9,126,122,125,124,123,5,106,103,105,104,10,92,90,91,85,86,89,87,88,7,6,107,108,109,110,111,112],z 27 [113],z 28 [8,12,114,115,116,117],z 29 [8,12,114],z 30 [107,118,119,120,121,127,128],z 31 [1,0,131,129,130,9,126,122,125,124,123,5,106,103,105,104,10,92,90,91,85,86,89,87,88,7,6,132,133,134,135,136,137],z 32 [138],z 33 [8,13,139],z 34 [8,13,139,140,141,142],z 35 [0,1,5,131,129,130,126,122,125,124,123,106,103,105,104,92,90,91,85,86,89,87,88,6,7,8,9,10]]
noncomputable def xc119:XC:=cdOf (chkF Tryz.prog hs119 Tryz.f119)
noncomputable def fe119:FnE:=⟨143,[(4,none)],xc119⟩
theorem ok119:FnOk Tryz.prog 119 fe119:=fnOk_of Tryz.func119 (by kernel_rfl:chkF Tryz.prog hs119 Tryz.f119=some fe119)
/- 120 slices.order2CmpFunc[[]int] -/
def hs120:Hints:=[z 0 [10,11],(1,([0,1,2,3,4,5,6,7,8,9,10],[0,4,12,13,14,15,16,17,18,19,20,21])),z 2 [3,22,23,24,25,26,27],z 3 [1,2,28,29],z 4 [1,2,3,22,30,31]]
noncomputable def xc120:XC:=cdOf (chkF Tryz.prog hs120 Tryz.f120)
noncomputable def fe120:FnE:=⟨32,[(10,none),(11,none)],xc120⟩
theorem ok120:FnOk Tryz.prog 120 fe120:=fnOk_of Tryz.func120 (by kernel_rfl:chkF Tryz.prog hs120 Tryz.f120=some fe120)
/- 121 unicode/utf8.decodeRuneInStringSlow -/
def hs121:Hints:=[z 0 [2,3],z 1 [13,14],z 2 [15],z 3 [0,4,16],z 4 [2,3,16,17,18],z 5 [19,20,21],z 6 [22],z 7 [4,5,6,23,24,25,26,27],z 8 [0,7,28,29,30,31,32,33,34,35],z 9 [2,3,23,36,37,38],z 10 [6,39,40,41,42],z 11 [4,43,44],z 12 [0,5,8,9,45],z 13 [2,3,45,46,47],z 14 [9,48,49,50,51,52,53,54,55,56],z 15 [0,5,8,10,57],z 16 [2,3,57,58],z 17 [0,5,8,10,59,60,61,62,63,64,65,66,67],z 18 [2,3,59,68,69],z 19 [70,71,72,73,74],z 20 [0,5,8,10,11,75],z 21 [2,3,8,75,76],z 22 [0,5,10,11,77,78,79,80,81,82,83,84,85,86,87,88,89,90],z 23 [2,3,0,77,91,92],z 24 [93,94,95,96,97],z 25 [5,10,11,12,98],z 26 [5,10,11,12,98,99,100,101,102,103,104,105,106,107,108,109,110,111,112,113,114,115,116]]
noncomputable def xc121:XC:=cdOf (chkF Tryz.prog hs121 Tryz.f121)
noncomputable def fe121:FnE:=⟨117,[(2,none),(3,none)],xc121⟩
theorem ok121:FnOk Tryz.prog 121 fe121:=fnOk_of Tryz.func121 (by kernel_rfl:chkF Tryz.prog hs121 Tryz.f121=some fe121)
/- 123 internal/bytealg.Cutover -/
def hs123:Hints:=[z 0 [2],z 1 [0,3,4,5]]
noncomputable def xc123:XC:=cdOf (chkF Tryz.prog hs123 Tryz.f123)
noncomputable def fe123:FnE:=⟨6,[(2,none)],xc123⟩
theorem ok123:FnOk Tryz.prog 123 fe123:=fnOk_of Tryz.func123 (by kernel_rfl:chkF Tryz.prog hs123 Tryz.f123=some fe123)
/- 124 internal/bytealg.IndexRabinKarp[string] -/
def hs124:Hints:=[z 0 [4],z 1 [12,13,11,14,15],z 2 [16,17],z 5 [18,19],z 7 [20,23,24,25,26,27,28,29],z 6 [21,22],z 8 [9,38,36,37,34,35,30,31,32,33],z 9 [0,1,5,6,7,8,76,74,75,69,72,73,70,71,39],z 10 [4,39,40],z 11 [41,42,43],z 12 [44,45,46],z 13 [47,48,49,50,51,52],z 14 [53,54,55,56,57,58,59,60,61,62],z 15 [63,64],z 16 [65,66,67,68],z 17 [7,76,74,75,1,69,72,73,70,71,0,5,10,6,8,77,78,79,80],z 18 [0,1,5,6,7,8,76,74,75,69,72,73,70,71,10]]
noncomputable def xc124:XC:=cdOf (chkF Tryz.prog hs124 Tryz.f124)
noncomputable def fe124:FnE:=⟨81,[(4,none)],xc124⟩
theorem ok124:FnOk Tryz.prog 124 fe124:=fnOk_of Tryz.func124 (by kernel_rfl:chkF Tryz.prog hs124 Tryz.f124=some fe124)
/- 125 internal/bytealg.hashStr[string] -/
def hs125:Hints:=[z 0 [2,3],z 3 [9,10,11],z 5 [12,15,16,17,18,19,20,21],z 4 [13,14],z 6 [5],z 7 [0,22,23],z 8 [24],z 10 [25,28,29],z 11 [30,31,32,33],z 12 [30,34,35,36],z 9 [26,27],z 13 [4,6,7,8,37,38]]
noncomputable def xc125:XC:=cdOf (chkF Tryz.prog hs125 Tryz.f125)
noncomputable def fe125:FnE:=⟨39,[(2,none),(3,none)],xc125⟩
theorem ok125:FnOk Tryz.prog 125 fe125:=fnOk_of Tryz.func125 (by kernel_rfl:chkF Tryz.prog hs125 Tryz.f125=some fe125)
noncomputable def xpl:List (Nat×FnE):=[(4,fe4),(10,fe10),(11,fe11),(16,fe16),(17,fe17),(18,fe18),(19,fe19),(20,fe20),(21,fe21),(23,fe23),(24,fe24),(26,fe26),(30,fe30),(31,fe31),(32,fe32),(34,fe34),(37,fe37),(38,fe38),(39,fe39),(40,fe40),(41,fe41),(42,fe42),(43,fe43),(44,fe44),(45,fe45),(46,fe46),(47,fe47),(48,fe48),(49,fe49),(51,fe51),(52,fe52),(53,fe53),(54,fe54),(55,fe55),(56,fe56),(57,fe57),(58,fe58),(59,fe59),(60,fe60),(61,fe61),(62,fe62),(63,fe63),(64,fe64),(65,fe65),(66,fe66),(67,fe67),(68,fe68),(69,fe69),(70,fe70),(71,fe71),(72,fe72),(73,fe73),(74,fe74),(75,fe75),(76,fe76),(77,fe77),(78,fe78),(79,fe79),(81,fe81),(82,fe82),(83,fe83),(84,fe84),(85,fe85),(86,fe86),(87,fe87),(88,fe88),(89,fe89),(90,fe90),(91,fe91),(92,fe92),(93,fe93),(94,fe94),(95,fe95),(96,fe96),(97,fe97),(98,fe98),(99,fe99),(100,fe100),(101,fe101),(102,fe102),(103,fe103),(104,fe104),(105,fe105),(106,fe106),(107,fe107),(108,fe108),(109,fe109),(111,fe111),(112,fe112),(113,fe113),(114,fe114),(115,fe115),(116,fe116),(117,fe117),(119,fe119),(120,fe120),(121,fe121),(123,fe123),(124,fe124),(125,fe125)]
theorem xpOk:XpOk Tryz.prog (aget xpl):=xpOk_of (l:=xpl) ⟨ok4,ok10,ok11,ok16,ok17,ok18,ok19,ok20,ok21,ok23,ok24,ok26,ok30,ok31,ok32,ok34,ok37,ok38,ok39,ok40,ok41,ok42,ok43,ok44,ok45,ok46,ok47,ok48,ok49,ok51,ok52,ok53,ok54,ok55,ok56,ok57,ok58,ok59,ok60,ok61,ok62,ok63,ok64,ok65,ok66,ok67,ok68,ok69,ok70,ok71,ok72,ok73,ok74,ok75,ok76,ok77,ok78,ok79,ok81,ok82,ok83,ok84,ok85,ok86,ok87,ok88,ok89,ok90,ok91,ok92,ok93,ok94,ok95,ok96,ok97,ok98,ok99,ok100,ok101,ok102,ok103,ok104,ok105,ok106,ok107,ok108,ok109,ok111,ok112,ok113,ok114,ok115,ok116,ok117,ok119,ok120,ok121,ok123,ok124,ok125,trivial⟩
end Go.Proofs.YthiammkiobbclaaGreatDoor.X
