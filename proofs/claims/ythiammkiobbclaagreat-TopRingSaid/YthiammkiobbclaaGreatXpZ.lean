/-
 The functions of the translation, with types resolved (made by a program).
-/
import Derived.Test.YthiammkiobbclaaGreatProg
import Derived.Test.YthiammkiobbclaaGreatAb6
import Derived.KernelRfl
set_option linter.unusedVariables false
set_option maxRecDepth 1000000
namespace Go.Proofs.YthiammkiobbclaaGreat.X
open Go Go.Ab

abbrev z (n:Nat)(l:List Nat):Nat×(List Nat×List Nat):=(n,([],l))
noncomputable def cdOf:Option FnE→XC
 |some f=>f.xc
 |none=>.skip

/- 3 crimp/crimptop.TopRing -/
def hs3:Hints:=[z 0 [0,2],z 1 [1,17,18],z 2 [19,20,21],z 3 [23,24,22,25,26],z 4 [6,27],z 5 [3,4,5,28],z 6 [2,4,5,28,29,30,31,32,33],z 7 [3,34,35],(8,([0,1,2,3,4,5,6,7,8,9,10,11,12,13,14,15,16,17],[2,34,36,37,38,39,40,41,42,43,44,45,46,47,48,49,50,51])),z 9 [53,54,52,55,56],z 10 [58,59,57,60,61],z 11 [3,63,64,62,65,66],z 12 [7,68,69,67,70,71],z 13 [8,9,10,11,13,15,72,73,74,75,76,77,78,79,80,81,82,83,84,85,86,87,88,89,90,91,92,93],z 14 [12,14,94],z 15 [2,94],z 16 [95,96,97],(18,([0,1,2,3,4,5,6,7,8],[98,101,102,103,104,105,106,107,108])),z 19 [16,14,12,109],z 17 [2,109,99,100],z 20 [12,14,16,110]]
noncomputable def xc3:XC:=cdOf (chkF Tryz.prog hs3 Tryz.f3)
noncomputable def fe3:FnE:=⟨111,[(2,none)],xc3⟩
theorem ok3:FnOk Tryz.prog 3 fe3:=fnOk_of Tryz.func3 (by kernel_rfl:chkF Tryz.prog hs3 Tryz.f3=some fe3)
/- 4 (crimp/crimplaw12.F).Of -/
def hs4:Hints:=[z 0 [0],z 5 [9],z 7 [10,13,14,15,16,17],z 8 [18,19],z 9 [4,20,21,22,23,24,25,26,27,28],z 10 [4,20,29],z 11 [30],z 13 [31,32,33,34,35,36],z 14 [37,38,39,40,41,42,43,44,45,46],z 15 [7,37,47,48,49,50,51,52],z 6 [11,12],z 16 [6,53],z 17 [4,5,54,55,56,57,58,59,60,61,62,63],z 18 [4,5,54],z 19 [64,65,66,67],z 21 [68,71,72,73,74,75,76,77],z 22 [84,85,86,87,88,89,90,91],z 20 [84,69,70],z 23 [1,3,83,82,81,79,80,78,8,92]]
noncomputable def xc4:XC:=cdOf (chkF Tryz.prog hs4 Tryz.f4)
noncomputable def fe4:FnE:=⟨93,[(2,some (some 2))],xc4⟩
theorem ok4:FnOk Tryz.prog 4 fe4:=fnOk_of Tryz.func4 (by kernel_rfl:chkF Tryz.prog hs4 Tryz.f4=some fe4)
/- 5 crimp/balances.Alternates -/
def hs5:Hints:=[z 0 [0,2,3],z 1 [5,6],z 2 [7],z 3 [1,4,8,9],z 4 [1,4,8,10,11,12,13,14,15,16,17]]
noncomputable def xc5:XC:=cdOf (chkF Tryz.prog hs5 Tryz.f5)
noncomputable def fe5:FnE:=⟨18,[(2,none),(3,none)],xc5⟩
theorem ok5:FnOk Tryz.prog 5 fe5:=fnOk_of Tryz.func5 (by kernel_rfl:chkF Tryz.prog hs5 Tryz.f5=some fe5)
/- 6 crimp/crimptop.counts -/
def hs6:Hints:=[z 0 [0],z 1 [6,5,7,8],z 2 [1,10,11,9,12,13],z 3 [2,3,4,14,15,16,17,18,19,20,21,22,23]]
noncomputable def xc6:XC:=cdOf (chkF Tryz.prog hs6 Tryz.f6)
noncomputable def fe6:FnE:=⟨24,[(0,none)],xc6⟩
theorem ok6:FnOk Tryz.prog 6 fe6:=fnOk_of Tryz.func6 (by kernel_rfl:chkF Tryz.prog hs6 Tryz.f6=some fe6)
/- 7 crimp/cones.Count -/
def hs7:Hints:=[z 0 [0,2,3],z 1 [1,7,8,6,9,10],z 3 [13],z 4 [4,5,11,12,14,15,16],z 5 [4,11,12,18],z 6 [5,17],z 7 [5,17,19]]
noncomputable def xc7:XC:=cdOf (chkF Tryz.prog hs7 Tryz.f7)
noncomputable def fe7:FnE:=⟨20,[(2,none),(3,none)],xc7⟩
theorem ok7:FnOk Tryz.prog 7 fe7:=fnOk_of Tryz.func7 (by kernel_rfl:chkF Tryz.prog hs7 Tryz.f7=some fe7)
/- 8 crimp/rings.Count -/
def hs8:Hints:=[z 0 [0,2,3],z 1 [5,6],z 2 [7],z 3 [1,4,8,9],z 4 [1,4,8,10,11,12]]
noncomputable def xc8:XC:=cdOf (chkF Tryz.prog hs8 Tryz.f8)
noncomputable def fe8:FnE:=⟨13,[(2,none),(3,none)],xc8⟩
theorem ok8:FnOk Tryz.prog 8 fe8:=fnOk_of Tryz.func8 (by kernel_rfl:chkF Tryz.prog hs8 Tryz.f8=some fe8)
/- 9 crimp/cones.First -/
def hs9:Hints:=[z 0 [0,2,3],z 1 [1,8,9,7,10,11],z 2 [12,13,14,15,16],z 3 [4,5,17,18],z 4 [2,3,5,17,19],z 5 [4,20,21,22],z 6 [23,24],z 7 [6,25,26,27,28],z 8 [6,25,4,20]]
noncomputable def xc9:XC:=cdOf (chkF Tryz.prog hs9 Tryz.f9)
noncomputable def fe9:FnE:=⟨29,[(2,none),(3,none)],xc9⟩
theorem ok9:FnOk Tryz.prog 9 fe9:=fnOk_of Tryz.func9 (by kernel_rfl:chkF Tryz.prog hs9 Tryz.f9=some fe9)
/- 10 crimp/rings.First -/
def hs10:Hints:=[z 0 [0,2,3],z 1 [6,7],z 2 [8],z 3 [1,4,9,10],z 4 [2,3,1,4,9,11,12],z 5 [13,14],z 6 [5,15],z 7 [5,15,16,17,18]]
noncomputable def xc10:XC:=cdOf (chkF Tryz.prog hs10 Tryz.f10)
noncomputable def fe10:FnE:=⟨19,[(2,none),(3,none)],xc10⟩
theorem ok10:FnOk Tryz.prog 10 fe10:=fnOk_of Tryz.func10 (by kernel_rfl:chkF Tryz.prog hs10 Tryz.f10=some fe10)
/- 11 crimp/fans.Check -/
def hs11:Hints:=[z 0 [0,2],z 1 [6,7,8,9,10,11],z 2 [1,12],z 3 [2,12],z 4 [13],z 6 [17,18,19,20],z 7 [4,21,22,23,28,29,36,37],z 8 [16,3,43,42,41,39,40,38,1,35,34,33,31,32,30,27,24,26,25,14,15,5,44],z 9 [2,5,44,45,46,47],z 10 [48],z 11 [1,3,14,15,16]]
noncomputable def xc11:XC:=cdOf (chkF Tryz.prog hs11 Tryz.f11)
noncomputable def fe11:FnE:=⟨49,[(2,none)],xc11⟩
theorem ok11:FnOk Tryz.prog 11 fe11:=fnOk_of Tryz.func11 (by kernel_rfl:chkF Tryz.prog hs11 Tryz.f11=some fe11)
/- 12 crimp/balances.odd -/
def hs12:Hints:=[z 0 [0,2],z 1 [1,3,4,5,6,7]]
noncomputable def xc12:XC:=cdOf (chkF Tryz.prog hs12 Tryz.f12)
noncomputable def fe12:FnE:=⟨8,[(2,none)],xc12⟩
theorem ok12:FnOk Tryz.prog 12 fe12:=fnOk_of Tryz.func12 (by kernel_rfl:chkF Tryz.prog hs12 Tryz.f12=some fe12)
/- 13 crimp/balances.uneven -/
def hs13:Hints:=[z 0 [0,2],z 1 [1,6,7,5,8,9],z 2 [3,4,10,11,12]]
noncomputable def xc13:XC:=cdOf (chkF Tryz.prog hs13 Tryz.f13)
noncomputable def fe13:FnE:=⟨13,[(2,none)],xc13⟩
theorem ok13:FnOk Tryz.prog 13 fe13:=fnOk_of Tryz.func13 (by kernel_rfl:chkF Tryz.prog hs13 Tryz.f13=some fe13)
/- 14 crimp/stamps.Unit -/
def hs14:Hints:=[z 0 [3],z 1 [4,5,6,7,8],z 2 [0,9,10],z 3 [0,9,11,12,13,14,15,16,17,18,19,20]]
noncomputable def xc14:XC:=cdOf (chkF Tryz.prog hs14 Tryz.f14)
noncomputable def fe14:FnE:=⟨21,[(2,some (some 2)),(3,none)],xc14⟩
theorem ok14:FnOk Tryz.prog 14 fe14:=fnOk_of Tryz.func14 (by kernel_rfl:chkF Tryz.prog hs14 Tryz.f14=some fe14)
/- 15 crimp/stamps.Count -/
def hs15:Hints:=[z 0 [0,2,3],z 1 [5,6],z 2 [7],z 3 [1,4,8,9],z 4 [1,4,8,10,11,12]]
noncomputable def xc15:XC:=cdOf (chkF Tryz.prog hs15 Tryz.f15)
noncomputable def fe15:FnE:=⟨13,[(2,none),(3,none)],xc15⟩
theorem ok15:FnOk Tryz.prog 15 fe15:=fnOk_of Tryz.func15 (by kernel_rfl:chkF Tryz.prog hs15 Tryz.f15=some fe15)
/- 16 crimp/cones.of -/
def hs16:Hints:=[z 0 [0,3],z 1 [10,11,9,12,13],z 2 [15,16],z 3 [1,4,5,14,17,18],z 4 [4,5,14,20,21],z 5 [1,19,22],z 6 [3,19,23,24,25],z 7 [1,26],z 9 [30,31,32,33],(10,([0,1,2,3,4,5,6,7,8,9,10,11,12,13,14,15,16,17],[7,8,34,35,36,37,38,39,40,41,42,43,44,45,46,47,48,49,50])),z 11 [51],z 12 [6,27,28,29,52]]
noncomputable def xc16:XC:=cdOf (chkF Tryz.prog hs16 Tryz.f16)
noncomputable def fe16:FnE:=⟨53,[(2,some (some 3)),(3,none)],xc16⟩
theorem ok16:FnOk Tryz.prog 16 fe16:=fnOk_of Tryz.func16 (by kernel_rfl:chkF Tryz.prog hs16 Tryz.f16=some fe16)
/- 17 (crimp/cones.cone).ways -/
def hs17:Hints:=[z 0 [0,2],z 1 [6],z 4 [1,3,7],z 5 [5,8,9],z 6 [10,11],z 7 [4,12]]
noncomputable def xc17:XC:=cdOf (chkF Tryz.prog hs17 Tryz.f17)
noncomputable def fe17:FnE:=⟨13,[(2,none)],xc17⟩
theorem ok17:FnOk Tryz.prog 17 fe17:=fnOk_of Tryz.func17 (by kernel_rfl:chkF Tryz.prog hs17 Tryz.f17=some fe17)
/- 18 crimp/rings.searched -/
def hs18:Hints:=[z 0 [0,2],z 1 [4,5],z 2 [6],z 3 [1,3,7,8],z 4 [2,1,3,7,9,10,11],z 5 [12],z 6 [12]]
noncomputable def xc18:XC:=cdOf (chkF Tryz.prog hs18 Tryz.f18)
noncomputable def fe18:FnE:=⟨13,[(2,none)],xc18⟩
theorem ok18:FnOk Tryz.prog 18 fe18:=fnOk_of Tryz.func18 (by kernel_rfl:chkF Tryz.prog hs18 Tryz.f18=some fe18)
/- 19 crimp/rings.ways -/
def hs19:Hints:=[z 0 [0,2],z 1 [7,8],z 2 [9],z 5 [1,3,4,10],z 6 [6,11,12],z 7 [13,14],z 8 [5,15]]
noncomputable def xc19:XC:=cdOf (chkF Tryz.prog hs19 Tryz.f19)
noncomputable def fe19:FnE:=⟨16,[(2,none)],xc19⟩
theorem ok19:FnOk Tryz.prog 19 fe19:=fnOk_of Tryz.func19 (by kernel_rfl:chkF Tryz.prog hs19 Tryz.f19=some fe19)
/- 20 crimp/balances.sums -/
def hs20:Hints:=[z 0 [0],z 1 [1,6],z 3 [10,11,12,13],z 4 [4,14,15],z 5 [5,16,17,18,19],z 6 [5,16,20,21,22],z 7 [23],z 8 [7,8,9,24,25]]
noncomputable def xc20:XC:=cdOf (chkF Tryz.prog hs20 Tryz.f20)
noncomputable def fe20:FnE:=⟨26,[(2,none),(3,none)],xc20⟩
theorem ok20:FnOk Tryz.prog 20 fe20:=fnOk_of Tryz.func20 (by kernel_rfl:chkF Tryz.prog hs20 Tryz.f20=some fe20)
/- 21 slices.Clip[[]int,int] -/
def hs21:Hints:=[z 0 [2],z 1 [0,3,4,5,6,7,8]]
noncomputable def xc21:XC:=cdOf (chkF Tryz.prog hs21 Tryz.f21)
noncomputable def fe21:FnE:=⟨9,[(2,none)],xc21⟩
theorem ok21:FnOk Tryz.prog 21 fe21:=fnOk_of Tryz.func21 (by kernel_rfl:chkF Tryz.prog hs21 Tryz.f21=some fe21)
/- 22 slices.Repeat[[]int,int] -/
def hs22:Hints:=[z 0 [4],z 1 [9],z 2 [10,11],z 3 [1,10,13,14,15,16,17,18,12,19,20],z 4 [5,21,22,23,24,25],z 5 [26,27],z 6 [6,26,28,29,30],z 7 [0,31,32,33],z 8 [34,35,36],(9,([0,1,2,3,4,5,6,7,8,9],[37,38,39,40,41,42,43,44,45,46])),z 10 [7,8,47]]
noncomputable def xc22:XC:=cdOf (chkF Tryz.prog hs22 Tryz.f22)
noncomputable def fe22:FnE:=⟨48,[(4,none)],xc22⟩
theorem ok22:FnOk Tryz.prog 22 fe22:=fnOk_of Tryz.func22 (by kernel_rfl:chkF Tryz.prog hs22 Tryz.f22=some fe22)
/- 23 slices.Clip[[]crimp/api.Kind,crimp/api.Kind] -/
def hs23:Hints:=[z 0 [2],z 1 [0,3,4,5,6,7,8]]
noncomputable def xc23:XC:=cdOf (chkF Tryz.prog hs23 Tryz.f23)
noncomputable def fe23:FnE:=⟨9,[(2,none)],xc23⟩
theorem ok23:FnOk Tryz.prog 23 fe23:=fnOk_of Tryz.func23 (by kernel_rfl:chkF Tryz.prog hs23 Tryz.f23=some fe23)
/- 24 slices.Repeat[[]crimp/api.Kind,crimp/api.Kind] -/
def hs24:Hints:=[z 0 [4],z 1 [9],z 2 [10,11],z 3 [1,10,13,14,15,16,17,18,12,19,20],z 4 [5,21,22,23,24,25],z 5 [26,27],z 6 [6,26,28,29,30],z 7 [0,31,32,33],z 8 [34,35,36],(9,([0,1,2,3,4,5,6,7,8,9],[37,38,39,40,41,42,43,44,45,46])),z 10 [7,8,47]]
noncomputable def xc24:XC:=cdOf (chkF Tryz.prog hs24 Tryz.f24)
noncomputable def fe24:FnE:=⟨48,[(4,none)],xc24⟩
theorem ok24:FnOk Tryz.prog 24 fe24:=fnOk_of Tryz.func24 (by kernel_rfl:chkF Tryz.prog hs24 Tryz.f24=some fe24)
/- 25 crimp/stamps.check -/
def hs25:Hints:=[z 0 [0,2],z 1 [4,5],z 2 [6],z 3 [1,3,7,8],z 4 [2,1,3,7,9,10,11],z 5 [12],z 6 [12]]
noncomputable def xc25:XC:=cdOf (chkF Tryz.prog hs25 Tryz.f25)
noncomputable def fe25:FnE:=⟨13,[(2,none)],xc25⟩
theorem ok25:FnOk Tryz.prog 25 fe25:=fnOk_of Tryz.func25 (by kernel_rfl:chkF Tryz.prog hs25 Tryz.f25=some fe25)
/- 26 crimp/stamps.ways -/
def hs26:Hints:=[z 0 [0,2],z 1 [9],z 3 [10],z 4 [11,12],z 5 [1,5,14,15,16,13,17,18,7],z 7 [19,20,21],z 8 [22,23,24],z 9 [3,8,25,26,27],z 10 [6,28,29,30,31],z 11 [1,3,11,32,33],z 12 [4,34]]
noncomputable def xc26:XC:=cdOf (chkF Tryz.prog hs26 Tryz.f26)
noncomputable def fe26:FnE:=⟨35,[(2,none)],xc26⟩
theorem ok26:FnOk Tryz.prog 26 fe26:=fnOk_of Tryz.func26 (by kernel_rfl:chkF Tryz.prog hs26 Tryz.f26=some fe26)
/- 27 (crimp/cones.cone).ways$1 -/
def hs27:Hints:=[z 0 [10,11],z 1 [12,13],z 2 [7,14,15,16,17,18,19,20],z 3 [21,22,23,24,25,26],z 4 [1,3,4,27,28],z 6 [31,32],(7,([0,1,2,3,4,5,6,7],[8,33,34,35,36,37,38,39,40])),z 8 [41],z 9 [0,2,6,29,30,1,27,42,43,44],(10,([0,1,2,3,4],[45,46,47,48])),(11,([0,1,2,3],[3,49,50,51,52])),z 12 [4,9,53,54,55,56]]
noncomputable def xc27:XC:=cdOf (chkF Tryz.prog hs27 Tryz.f27)
noncomputable def fe27:FnE:=⟨57,[],xc27⟩
theorem ok27:FnOk Tryz.prog 27 fe27:=fnOk_of Tryz.func27 (by kernel_rfl:chkF Tryz.prog hs27 Tryz.f27=some fe27)
/- 28 crimp/cones.rank -/
def hs28:Hints:=[z 4 [8,9],z 5 [4,10,11],z 6 [12],z 7 [0,7],z 9 [16,17,18,19],z 10 [5,6,20,21,22],z 11 [23],z 12 [3,13,14,15,24]]
noncomputable def xc28:XC:=cdOf (chkF Tryz.prog hs28 Tryz.f28)
noncomputable def fe28:FnE:=⟨25,[(2,some (some 8))],xc28⟩
theorem ok28:FnOk Tryz.prog 28 fe28:=fnOk_of Tryz.func28 (by kernel_rfl:chkF Tryz.prog hs28 Tryz.f28=some fe28)
/- 29 (crimp/cones.cone).crosses -/
def hs29:Hints:=[z 0 [0,1,4],z 1 [9,10,11],z 3 [14,15],z 4 [16,17,18],z 6 [21,22],z 7 [24,25,26,23,27,28],(8,([0,1,2,3,4,5,6,7,8,9,10,11,12,13,14,15],[30,31,32,33,34,35,36,37,38,44])),z 9 [20,92,86,91,87,88,89,90,5,3,2,82,83,84,85,79,78,74,77,76,75,73,72,69,65,68,66,67,63,64,60,54,59,58,56,57,55,53,51,52,50,43,39,40,41,42,12,13,19,6,7,8,29],(10,([0,1,2,3,4,5,6,7,8,9,10,11,12,13,14,15,16,17,18,19,20,21,22,23,24,25,26,27,28,29,30,31,32,33,34,35,36,37,38,39,40,41,42,43,44,45,46,47,48],[6,7,8,29,46,47,48,49,61,62,70,71,80,81,93])),z 11 [20,92,86,91,87,88,89,90,5,3,2,82,83,84,85,79,78,74,77,76,75,73,72,69,65,68,66,67,63,64,60,54,59,58,56,57,55,53,51,52,50,43,39,40,41,42,12,13,19,45],z 12 [4,45,94],z 13 [5,19,20,95],z 14 [2,3,12,13]]
noncomputable def xc29:XC:=cdOf (chkF Tryz.prog hs29 Tryz.f29)
noncomputable def fe29:FnE:=⟨96,[(4,none)],xc29⟩
theorem ok29:FnOk Tryz.prog 29 fe29:=fnOk_of Tryz.func29 (by kernel_rfl:chkF Tryz.prog hs29 Tryz.f29=some fe29)
/- 30 (crimp/cones.cone).wrong -/
def hs30:Hints:=[z 0 [0,1,4],z 1 [9,10],z 3 [14,15,16,17],z 4 [19,20,21,18,22,23],(5,([0,1,2,3,4,5,6,7,8,9,10,11,12,13,14,15,16,17,18,19],[5,6,7,8,24,25,26,35,36])),z 6 [13,42,37,41,38,39,40,3,2,34,33,29,32,31,30,28,27,11,12,43],z 7 [4,43,44],z 8 [2,3,11,12,13]]
noncomputable def xc30:XC:=cdOf (chkF Tryz.prog hs30 Tryz.f30)
noncomputable def fe30:FnE:=⟨45,[(4,none)],xc30⟩
theorem ok30:FnOk Tryz.prog 30 fe30:=fnOk_of Tryz.func30 (by kernel_rfl:chkF Tryz.prog hs30 Tryz.f30=some fe30)
/- 31 slices.Insert[[]int,int] -/
def hs31:Hints:=[z 0 [6],z 1 [10,11,12],z 2 [13,14],z 3 [15],z 4 [0,1,2,7,16,17],z 5 [6,16,18,19],z 6 [20,21],z 7 [0,1,2,7,8,22,23,24,25],z 8 [6,22,26,27,28,29,30],z 9 [8,31,32,33,34,35,36,37,38,39,40],z 10 [2,41,42,43,44,45],(11,([0,1,2,3,4,5,6,7,8],[0,1,7,46,47,48,49,50,51,52,53,54])),z 12 [9,55],z 13 [6,31,56,57,58,59,60],z 14 [61,62,63,64,65,66,67],(15,([0,1,2,3,4,5,6,7,8],[7,8,68,69,70,71,72,73,74,75,76,77])),z 16 [1,2,78,79,80,81,82],z 17 [0,83],z 18 [6,2,8,68,84,85,86,87,88],z 19 [1,7,89,90,91,92,93],z 20 [0,94]]
noncomputable def xc31:XC:=cdOf (chkF Tryz.prog hs31 Tryz.f31)
noncomputable def fe31:FnE:=⟨95,[(6,none)],xc31⟩
theorem ok31:FnOk Tryz.prog 31 fe31:=fnOk_of Tryz.func31 (by kernel_rfl:chkF Tryz.prog hs31 Tryz.f31=some fe31)
/- 32 slices.Clone[[]int,int] -/
def hs32:Hints:=[z 0 [2],z 1 [3],z 2 [0,4],z 3 [0,4,5,6,7]]
noncomputable def xc32:XC:=cdOf (chkF Tryz.prog hs32 Tryz.f32)
noncomputable def fe32:FnE:=⟨8,[(2,none)],xc32⟩
theorem ok32:FnOk Tryz.prog 32 fe32:=fnOk_of Tryz.func32 (by kernel_rfl:chkF Tryz.prog hs32 Tryz.f32=some fe32)
/- 33 (crimp/cones.cone).least -/
def hs33:Hints:=[z 0 [0,4],z 1 [10,11],z 2 [12,13,14],z 3 [15,16,17,18],z 4 [19,20],z 6 [23,24],z 7 [25,26,27,28],z 8 [29],z 10 [32,33],(11,([0,1,2,3,4,5,6,7,8,9,10,11,12,13,14,15,16,17,18,19,20,21,22],[9,34,35,55])),z 12 [56],z 13 [8,30,31],z 14 [22,21,7,57,58,59,60,61],z 15 [7,57,62],z 16 [1,2,5,6,63]]
noncomputable def xc33:XC:=cdOf (chkF Tryz.prog hs33 Tryz.f33)
noncomputable def fe33:FnE:=⟨64,[(4,none)],xc33⟩
theorem ok33:FnOk Tryz.prog 33 fe33:=fnOk_of Tryz.func33 (by kernel_rfl:chkF Tryz.prog hs33 Tryz.f33=some fe33)
/- 34 slices.SortFunc[[][]int,[]int] -/
def hs34:Hints:=[z 0 [5,6],z 1 [0,1,4,7,8,9,10,11,12,13]]
noncomputable def xc34:XC:=cdOf (chkF Tryz.prog hs34 Tryz.f34)
noncomputable def fe34:FnE:=⟨14,[],xc34⟩
theorem ok34:FnOk Tryz.prog 34 fe34:=fnOk_of Tryz.func34 (by kernel_rfl:chkF Tryz.prog hs34 Tryz.f34=some fe34)
/- 35 slices.Compare[[]int,int] -/
def hs35:Hints:=[z 0 [4],z 3 [12,13,14,15],z 4 [16,17,18],z 5 [11,1,9,0,10,5,6,19],z 6 [4,5,19,20,21,22,23],z 7 [6,7,24,25,26],z 8 [27],z 9 [11,1,9,0,10,8,28,29],z 10 [4,8,28,30],z 11 [0,1,9,10,11,31,32,33,34],z 12 [35],z 13 [35]]
noncomputable def xc35:XC:=cdOf (chkF Tryz.prog hs35 Tryz.f35)
noncomputable def fe35:FnE:=⟨36,[(4,none)],xc35⟩
theorem ok35:FnOk Tryz.prog 35 fe35:=fnOk_of Tryz.func35 (by kernel_rfl:chkF Tryz.prog hs35 Tryz.f35=some fe35)
/- 36 crimp/rings.Check -/
def hs36:Hints:=[z 0 [0,2],z 1 [7,8,9,10],z 2 [1,6],z 3 [6,12,13,14,15,16,17,18],z 4 [1,11],z 5 [11,20,21,22,23,24,25,26,27,28,29,30],z 6 [1,19],z 7 [2,19],z 8 [31],z 10 [35,36,37,38],z 11 [39,40,41,44,45,52,53],z 12 [34,3,59,58,57,55,56,54,1,51,50,49,47,48,46,43,42,32,33,4,5,60],z 13 [2,4,5,60,61,62,63,64,65,66,67,68],z 14 [69],z 15 [1,59,58,57,55,56,54,51,50,49,47,48,46,43,42,3,32,33,34,70],z 16 [71],z 17 [71]]
noncomputable def xc36:XC:=cdOf (chkF Tryz.prog hs36 Tryz.f36)
noncomputable def fe36:FnE:=⟨72,[(2,none)],xc36⟩
theorem ok36:FnOk Tryz.prog 36 fe36:=fnOk_of Tryz.func36 (by kernel_rfl:chkF Tryz.prog hs36 Tryz.f36=some fe36)
/- 37 crimp/rings.of -/
def hs37:Hints:=[z 0 [0],z 1 [6,7,8],z 2 [1,9],z 4 [13,14,15,16],(5,([0,1,2,3,4,5,6,7,8,9,10,11,12,13,14,15,16,17],[4,5,17,18,19,20,21,22,23,24,25,26,27,28,29,30,31,32,33])),z 6 [34],z 7 [3,10,11,12,35]]
noncomputable def xc37:XC:=cdOf (chkF Tryz.prog hs37 Tryz.f37)
noncomputable def fe37:FnE:=⟨36,[(2,some (some 3))],xc37⟩
theorem ok37:FnOk Tryz.prog 37 fe37:=fnOk_of Tryz.func37 (by kernel_rfl:chkF Tryz.prog hs37 Tryz.f37=some fe37)
/- 38 crimp/rings.ways$1 -/
def hs38:Hints:=[z 0 [12,13],z 1 [14,15],z 2 [8,16,17,18,19,20,21,22],z 3 [2,23,24,25,26,27],z 4 [1,4,5,28,29],z 6 [32,33],(7,([0,1,2,3,4,5,6,7],[9,34,35,36,37,38,39,40,41])),z 8 [42],z 9 [0,3,7,30,31,1,28,43,44,45],z 11 [46,47,48],z 12 [49,50,51],z 13 [4,11,52,53,54],z 14 [5,10,55,56,57,58]]
noncomputable def xc38:XC:=cdOf (chkF Tryz.prog hs38 Tryz.f38)
noncomputable def fe38:FnE:=⟨59,[],xc38⟩
theorem ok38:FnOk Tryz.prog 38 fe38:=fnOk_of Tryz.func38 (by kernel_rfl:chkF Tryz.prog hs38 Tryz.f38=some fe38)
/- 39 crimp/rings.rank -/
def hs39:Hints:=[z 4 [8,9],z 5 [4,10,11],z 6 [12],z 7 [0,7],z 9 [16,17,18,19],z 10 [5,6,20,21,22],z 11 [23],z 12 [3,13,14,15,24]]
noncomputable def xc39:XC:=cdOf (chkF Tryz.prog hs39 Tryz.f39)
noncomputable def fe39:FnE:=⟨25,[(2,some (some 32))],xc39⟩
theorem ok39:FnOk Tryz.prog 39 fe39:=fnOk_of Tryz.func39 (by kernel_rfl:chkF Tryz.prog hs39 Tryz.f39=some fe39)
/- 40 (crimp/rings.folded).crosses -/
def hs40:Hints:=[z 0 [0,1],z 1 [9,10,11],z 3 [14,15],z 4 [16,17,18,19,20,21],z 5 [22,23,24],z 7 [27,28],z 8 [7,29,30,31,32,33,34,40,41],z 9 [26,46,42,43,44,45,5,3,2,39,35,38,36,37,6,76,68,75,69,70,71,74,72,73,64,65,66,67,12,13,25,47],z 10 [47,48],z 11 [6,25,26,49,50],z 12 [51,52],(13,([0,1,2,3,4,5,6,7,8,9,10,11,12,13,14,15,16,17,18,19,20,21,22,23,24],[5,8,53,54,55,56,57,58,59,60,61,62,63])),z 14 [46,42,43,44,45,3,2,39,35,38,36,37,13,76,68,75,69,70,71,74,72,73,64,65,66,67,12,77],z 15 [5,51,78],z 16 [2,3,12,13]]
noncomputable def xc40:XC:=cdOf (chkF Tryz.prog hs40 Tryz.f40)
noncomputable def fe40:FnE:=⟨79,[(4,some none)],xc40⟩
theorem ok40:FnOk Tryz.prog 40 fe40:=fnOk_of Tryz.func40 (by kernel_rfl:chkF Tryz.prog hs40 Tryz.f40=some fe40)
/- 41 (crimp/rings.folded).wrong -/
def hs41:Hints:=[z 0 [0,1,4],z 1 [7,8],z 3 [12,13,14,15],(4,([0,1,2,3,4,5,6,7,8,9,10,11,12,13,14,15,16,17,18,19,20,21],[5,6,16,17,18,29,30])),z 5 [11,36,31,35,32,33,34,3,2,28,27,21,26,25,24,22,23,20,19,9,10,37],z 6 [4,37,38],z 7 [2,3,9,10,11]]
noncomputable def xc41:XC:=cdOf (chkF Tryz.prog hs41 Tryz.f41)
noncomputable def fe41:FnE:=⟨39,[(4,none)],xc41⟩
theorem ok41:FnOk Tryz.prog 41 fe41:=fnOk_of Tryz.func41 (by kernel_rfl:chkF Tryz.prog hs41 Tryz.f41=some fe41)
/- 42 (crimp/rings.folded).least -/
def hs42:Hints:=[z 0 [0,4],z 1 [11,12],z 2 [13,14,15],z 4 [16,17,18,19],z 5 [20,21],z 7 [24,25],z 8 [26,27,28,29],z 9 [30],z 11 [33,34],(12,([0,1,2,3,4,5,6,7,8,9,10,11,12,13,14,15,16,17,18,19,20,21,22,23,24,25,26,27,28,29,30,31,32,33],[10,35,36,67])),z 13 [68],z 14 [9,31,32],z 15 [23,22,69,70,71],z 16 [8,72,73,74,75],z 17 [8,69,76],z 18 [1,2,5,6,7,77]]
noncomputable def xc42:XC:=cdOf (chkF Tryz.prog hs42 Tryz.f42)
noncomputable def fe42:FnE:=⟨78,[(4,none)],xc42⟩
theorem ok42:FnOk Tryz.prog 42 fe42:=fnOk_of Tryz.func42 (by kernel_rfl:chkF Tryz.prog hs42 Tryz.f42=some fe42)
/- 43 math/bits.Mul -/
def hs43:Hints:=[z 0 [4,5],z 1 [0,1,11,12,13,14,15,10,16,17],z 2 [6,7,18,19,20,21],z 3 [4,5,0,1,23,24,25,22,26,27],z 4 [8,9,28,29]]
noncomputable def xc43:XC:=cdOf (chkF Tryz.prog hs43 Tryz.f43)
noncomputable def fe43:FnE:=⟨30,[(4,none),(5,none)],xc43⟩
theorem ok43:FnOk Tryz.prog 43 fe43:=fnOk_of Tryz.func43 (by kernel_rfl:chkF Tryz.prog hs43 Tryz.f43=some fe43)
/- 44 crimp/strips.Check -/
def hs44:Hints:=[z 0 [0,2],z 1 [8,9,10,11],z 2 [1,7],z 3 [7,13,14,15,16,17,18,19,20],z 4 [1,12],z 5 [2,12,21],z 7 [25,26,27],z 8 [4,28,29,30],z 9 [24,32,31,22,46,45,1,23,33],z 10 [2,33,34],z 11 [1,32,31,22,23,24,35],z 13 [39,40,41],z 14 [6,42,43,44],z 15 [38,46,45,36,37,47],z 16 [2,47,48],z 17 [46,45,36,37,38]]
noncomputable def xc44:XC:=cdOf (chkF Tryz.prog hs44 Tryz.f44)
noncomputable def fe44:FnE:=⟨49,[(2,none)],xc44⟩
theorem ok44:FnOk Tryz.prog 44 fe44:=fnOk_of Tryz.func44 (by kernel_rfl:chkF Tryz.prog hs44 Tryz.f44=some fe44)
/- 45 crimp/stamps.orders -/
def hs45:Hints:=[z 0 [0,2],z 1 [1,3]]
noncomputable def xc45:XC:=cdOf (chkF Tryz.prog hs45 Tryz.f45)
noncomputable def fe45:FnE:=⟨4,[(2,none)],xc45⟩
theorem ok45:FnOk Tryz.prog 45 fe45:=fnOk_of Tryz.func45 (by kernel_rfl:chkF Tryz.prog hs45 Tryz.f45=some fe45)
/- 46 crimp/piles.Least -/
def hs46:Hints:=[z 0 [0,4,5],z 1 [2,15,16,17,14,18,19],z 2 [20],z 3 [1,6,7,21,22],z 4 [4,5,7,21,23,24],z 5 [25,26,27],z 7 [28,29,30,31],z 8 [32,33],z 10 [36,37],z 11 [38,39,40,41],z 12 [42],z 14 [45,46],(15,([0,1,2,3,4,5,6,7,8,9,10,11,12,13,14,15,16,17,18,19,20,21,22],[13,47,48,68])),z 16 [69],z 17 [12,43,44],z 18 [35,34,70,71,72],z 19 [11,73,74,75,76],z 20 [11,70,77],z 21 [1,6,8,9,10,78]]
noncomputable def xc46:XC:=cdOf (chkF Tryz.prog hs46 Tryz.f46)
noncomputable def fe46:FnE:=⟨79,[(4,none),(5,none)],xc46⟩
theorem ok46:FnOk Tryz.prog 46 fe46:=fnOk_of Tryz.func46 (by kernel_rfl:chkF Tryz.prog hs46 Tryz.f46=some fe46)
/- 47 (crimp/cones.cone).sectors -/
def hs47:Hints:=[z 0 [0,4,5],z 1 [2,7,8,9,10],z 2 [1,6,11,12,13,14,15,16,17]]
noncomputable def xc47:XC:=cdOf (chkF Tryz.prog hs47 Tryz.f47)
noncomputable def fe47:FnE:=⟨18,[(4,none),(5,none)],xc47⟩
theorem ok47:FnOk Tryz.prog 47 fe47:=fnOk_of Tryz.func47 (by kernel_rfl:chkF Tryz.prog hs47 Tryz.f47=some fe47)
/- 48 (crimp/cones.cone).inside -/
def hs48:Hints:=[z 0 [0,6],(1,([0,1,2,3,4,5,6,7,8,9,10,11,12],[2,3,9,10,11,12,13,14,15,16,17,18,19])),z 2 [1,7,8,20,21,22,23,24,25,26,27,28,29,30,31]]
noncomputable def xc48:XC:=cdOf (chkF Tryz.prog hs48 Tryz.f48)
noncomputable def fe48:FnE:=⟨32,[(6,none)],xc48⟩
theorem ok48:FnOk Tryz.prog 48 fe48:=fnOk_of Tryz.func48 (by kernel_rfl:chkF Tryz.prog hs48 Tryz.f48=some fe48)
/- 49 (crimp/cones.cone).between -/
def hs49:Hints:=[z 0 [0,1,8],z 1 [2,4,14,15,16,13,17,18],(2,([0,1,2,3,4,5,6,7,8,9,10,11,12,13,14,15],[9,10,19,20,21,22,23,24,25,26,27,28,29,30,31,32])),z 3 [3,5,11,12,33,34,35,36,37,38,39,40,41,42,43,44,45,46,47,48]]
noncomputable def xc49:XC:=cdOf (chkF Tryz.prog hs49 Tryz.f49)
noncomputable def fe49:FnE:=⟨49,[(8,none)],xc49⟩
theorem ok49:FnOk Tryz.prog 49 fe49:=fnOk_of Tryz.func49 (by kernel_rfl:chkF Tryz.prog hs49 Tryz.f49=some fe49)
/- 50 (crimp/cones.cone).side -/
def hs50:Hints:=[z 0 [0,4],(1,([0,1,2,3,4,5,6,7,8,9,10,11,12],[1,2,5,6,7,8,9,10,11,12,13,14,15,16]))]
noncomputable def xc50:XC:=cdOf (chkF Tryz.prog hs50 Tryz.f50)
noncomputable def fe50:FnE:=⟨17,[(4,none)],xc50⟩
theorem ok50:FnOk Tryz.prog 50 fe50:=fnOk_of Tryz.func50 (by kernel_rfl:chkF Tryz.prog hs50 Tryz.f50=some fe50)
/- 51 (crimp/cones.cone).kind -/
def hs51:Hints:=[z 0 [0,1,6],z 1 [2,3,10,11,12,9,13,14],z 2 [15,16],z 3 [17,18,19],(4,([0,1,2,3,4,5,6],[4,7,8,17,20,21,22,23,24,25])),z 5 [26],z 6 [26]]
noncomputable def xc51:XC:=cdOf (chkF Tryz.prog hs51 Tryz.f51)
noncomputable def fe51:FnE:=⟨27,[(6,none)],xc51⟩
theorem ok51:FnOk Tryz.prog 51 fe51:=fnOk_of Tryz.func51 (by kernel_rfl:chkF Tryz.prog hs51 Tryz.f51=some fe51)
/- 53 slices.rotateRight[int] -/
def hs53:Hints:=[z 0 [0,1,4,5,6,7,8,9]]
noncomputable def xc53:XC:=cdOf (chkF Tryz.prog hs53 Tryz.f53)
noncomputable def fe53:FnE:=⟨10,[],xc53⟩
theorem ok53:FnOk Tryz.prog 53 fe53:=fnOk_of Tryz.func53 (by kernel_rfl:chkF Tryz.prog hs53 Tryz.f53=some fe53)
/- 54 slices.Contains[[]int,int] -/
def hs54:Hints:=[z 0 [4],z 1 [0,1,5,6,7,8]]
noncomputable def xc54:XC:=cdOf (chkF Tryz.prog hs54 Tryz.f54)
noncomputable def fe54:FnE:=⟨9,[(4,none)],xc54⟩
theorem ok54:FnOk Tryz.prog 54 fe54:=fnOk_of Tryz.func54 (by kernel_rfl:chkF Tryz.prog hs54 Tryz.f54=some fe54)
/- 55 (crimp/cones.cone).overlap -/
def hs55:Hints:=[z 0 [0,6],(1,([0,1,2,3,4,5,6,7,8,9,10,11,12,13,14,15,16,17,18,19,20,21,22,23,24,25,26,27,28,29,30,31,32,33,34,35,36,37,38,39,40,41,42,43,44,45,46,47,48,49,50,51],[1,2,3,7,8,9,10,11,12,13,14,15,16,17,18,19,20,21,22,23,24,25,26,27,28,29,30,31,32,33,34,35,36,37,38,39,40,41,42,43,44,45,46,47,48,49,50,51,52,53,54,55,56,57]))]
noncomputable def xc55:XC:=cdOf (chkF Tryz.prog hs55 Tryz.f55)
noncomputable def fe55:FnE:=⟨58,[(6,none)],xc55⟩
theorem ok55:FnOk Tryz.prog 55 fe55:=fnOk_of Tryz.func55 (by kernel_rfl:chkF Tryz.prog hs55 Tryz.f55=some fe55)
/- 56 slices.pdqsortCmpFunc[[]int] -/
def hs56:Hints:=[z 2 [21,22,23],z 3 [24],z 4 [4,2,1,0,96,95,94,84,89,93,92,90,91,88,85,87,86,74,73,70,11,10,3,12,25,26,27,28,29,30],z 5 [25,31],z 6 [4,2,1,0,96,95,94,84,89,93,92,90,91,88,85,87,86,74,73,70,11,10,3,12,32,33,34,35,36,37],z 7 [32,38],z 8 [39,40,41,42,43,44],z 9 [45,46],z 10 [39,48,49,50,51,52,47,53,54],z 11 [55],z 12 [14,56,57,58,59,60,61],z 13 [62,63,64,65,66,67],z 15 [14,56,68,69,71,72],z 16 [75,76,77,78,79],(17,([0,1,2,3,4,5,6,7,8,9,10,11,12,13,14,15,16],[80,75,81,82,83])),z 18 [1,12,13,97,98,99,100,101,102,103],z 19 [15,104],z 20 [11,10,13,97,106,107,108,109,110,111,105,112,113],z 21 [17,114],z 22 [115,116,117,118,119,120],z 23 [12,121,122],z 24 [123,124],z 25 [18,19,20,125,126,127,128],z 26 [1,129,130,131,132,133,134],z 27 [16,135,136],z 28 [18,19,20,125,137,138,139],z 29 [2,140,141,142,143,144,145,146],z 30 [16,147]]
noncomputable def xc56:XC:=cdOf (chkF Tryz.prog hs56 Tryz.f56)
noncomputable def fe56:FnE:=⟨148,[],xc56⟩
theorem ok56:FnOk Tryz.prog 56 fe56:=fnOk_of Tryz.func56 (by kernel_rfl:chkF Tryz.prog hs56 Tryz.f56=some fe56)
/- 57 math/bits.Len -/
def hs57:Hints:=[z 0 [2],z 1 [0,3,4,5],z 2 [0,6,7]]
noncomputable def xc57:XC:=cdOf (chkF Tryz.prog hs57 Tryz.f57)
noncomputable def fe57:FnE:=⟨8,[(2,none)],xc57⟩
theorem ok57:FnOk Tryz.prog 57 fe57:=fnOk_of Tryz.func57 (by kernel_rfl:chkF Tryz.prog hs57 Tryz.f57=some fe57)
/- 58 cmp.Compare[int] -/
def hs58:Hints:=[z 0 [4],z 1 [7,8],z 2 [9,10],z 3 [5],z 4 [0,1,6,11],z 5 [12],z 6 [12],z 7 [4,6,11],z 8 [0,1,13],z 9 [4,13,14,15],z 10 [0,1,16],z 11 [4,0,1,16,17,18],z 12 [19],z 13 [19]]
noncomputable def xc58:XC:=cdOf (chkF Tryz.prog hs58 Tryz.f58)
noncomputable def fe58:FnE:=⟨20,[(4,none)],xc58⟩
theorem ok58:FnOk Tryz.prog 58 fe58:=fnOk_of Tryz.func58 (by kernel_rfl:chkF Tryz.prog hs58 Tryz.f58=some fe58)
/- 59 (crimp/rings.folded).from -/
def hs59:Hints:=[z 0 [0,4],(1,([0,1,2,3,4,5,6,7,8,9,10,11,12],[1,2,5,6,7,8,9,10,11,12,13,14,15,16]))]
noncomputable def xc59:XC:=cdOf (chkF Tryz.prog hs59 Tryz.f59)
noncomputable def fe59:FnE:=⟨17,[(4,none)],xc59⟩
theorem ok59:FnOk Tryz.prog 59 fe59:=fnOk_of Tryz.func59 (by kernel_rfl:chkF Tryz.prog hs59 Tryz.f59=some fe59)
/- 60 (crimp/rings.folded).to -/
def hs60:Hints:=[z 0 [0,4],(1,([0,1,2,3,4,5,6,7,8,9,10,11,12],[1,2,5,6,7,8,9,10,11,12,13,14,15,16]))]
noncomputable def xc60:XC:=cdOf (chkF Tryz.prog hs60 Tryz.f60)
noncomputable def fe60:FnE:=⟨17,[(4,none)],xc60⟩
theorem ok60:FnOk Tryz.prog 60 fe60:=fnOk_of Tryz.func60 (by kernel_rfl:chkF Tryz.prog hs60 Tryz.f60=some fe60)
/- 61 (crimp/rings.folded).between -/
def hs61:Hints:=[z 0 [0,1,8],(1,([0,1,2,3,4,5,6,7,8,9],[2,4,11,12,13,14,15,16,17,18])),z 2 [3,5,9,10,19,20,21,22,23,24,25,26,27,28,29,30,31,32,33,34,35,36,37,38,39,40]]
noncomputable def xc61:XC:=cdOf (chkF Tryz.prog hs61 Tryz.f61)
noncomputable def fe61:FnE:=⟨41,[(8,none)],xc61⟩
theorem ok61:FnOk Tryz.prog 61 fe61:=fnOk_of Tryz.func61 (by kernel_rfl:chkF Tryz.prog hs61 Tryz.f61=some fe61)
/- 62 (crimp/rings.folded).beside -/
def hs62:Hints:=[z 0 [0,1,4],z 1 [2,3,5]]
noncomputable def xc62:XC:=cdOf (chkF Tryz.prog hs62 Tryz.f62)
noncomputable def fe62:FnE:=⟨6,[(4,none)],xc62⟩
theorem ok62:FnOk Tryz.prog 62 fe62:=fnOk_of Tryz.func62 (by kernel_rfl:chkF Tryz.prog hs62 Tryz.f62=some fe62)
/- 63 (crimp/rings.folded).behind -/
def hs63:Hints:=[z 0 [0,4],z 1 [1,2,5,6,7,8,9,10,11]]
noncomputable def xc63:XC:=cdOf (chkF Tryz.prog hs63 Tryz.f63)
noncomputable def fe63:FnE:=⟨12,[(4,none)],xc63⟩
theorem ok63:FnOk Tryz.prog 63 fe63:=fnOk_of Tryz.func63 (by kernel_rfl:chkF Tryz.prog hs63 Tryz.f63=some fe63)
/- 64 (crimp/rings.folded).kind -/
def hs64:Hints:=[z 0 [0,1,6],z 1 [2,3,9,10,11,12],z 2 [13,14],z 3 [15,16,17],(4,([0,1,2,3,4,5,6],[4,7,8,15,18,19,20,21,22,23])),z 5 [24],z 6 [24]]
noncomputable def xc64:XC:=cdOf (chkF Tryz.prog hs64 Tryz.f64)
noncomputable def fe64:FnE:=⟨25,[(6,none)],xc64⟩
theorem ok64:FnOk Tryz.prog 64 fe64:=fnOk_of Tryz.func64 (by kernel_rfl:chkF Tryz.prog hs64 Tryz.f64=some fe64)
/- 65 math/bits.Mul32 -/
def hs65:Hints:=[z 0 [4,5],z 1 [0,1,7,8,9,10,11],z 2 [6,12,13,14,15,16]]
noncomputable def xc65:XC:=cdOf (chkF Tryz.prog hs65 Tryz.f65)
noncomputable def fe65:FnE:=⟨17,[(4,none),(5,none)],xc65⟩
theorem ok65:FnOk Tryz.prog 65 fe65:=fnOk_of Tryz.func65 (by kernel_rfl:chkF Tryz.prog hs65 Tryz.f65=some fe65)
/- 66 math/bits.Mul64 -/
def hs66:Hints:=[z 0 [4,5],z 1 [14,15],z 2 [16,17],z 3 [18,19],z 4 [20,21],z 5 [22,23,24],z 6 [8,10,25,26,27,28,29,30],z 7 [31,32],z 8 [11,33,34],z 9 [6,35,36,37,38,39],z 10 [7,9,12,13,40,41,42,43,44,45,46,47],z 11 [0,1,48,49,50]]
noncomputable def xc66:XC:=cdOf (chkF Tryz.prog hs66 Tryz.f66)
noncomputable def fe66:FnE:=⟨51,[(4,none),(5,none)],xc66⟩
theorem ok66:FnOk Tryz.prog 66 fe66:=fnOk_of Tryz.func66 (by kernel_rfl:chkF Tryz.prog hs66 Tryz.f66=some fe66)
/- 67 crimp/stamps.orders$1 -/
def hs67:Hints:=[z 0 [0],z 2 [1,2,4],z 3 [3,5,6]]
noncomputable def xc67:XC:=cdOf (chkF Tryz.prog hs67 Tryz.f67)
noncomputable def fe67:FnE:=⟨7,[],xc67⟩
theorem ok67:FnOk Tryz.prog 67 fe67:=fnOk_of Tryz.func67 (by kernel_rfl:chkF Tryz.prog hs67 Tryz.f67=some fe67)
/- 68 crimp/stamps.orders$1$1 -/
def hs68:Hints:=[z 0 [5],z 1 [10,11],z 2 [12,13,14,15],z 3 [0,1,2,3,6,16,17,18,19],(4,([0,1,2,3,4,5,6,7,8,9,10,11],[5,1,2,16,20,21,22,23,24,25,26,27,28,29])),z 5 [30],z 7 [33,34],z 8 [8,35,36,37,38,39,40],z 9 [9,41,42,43,44,45],z 10 [32,49,48,46,47,3,7,6,0,31,50],z 11 [5,50,51],z 12 [0,3,6,7,31,32]]
noncomputable def xc68:XC:=cdOf (chkF Tryz.prog hs68 Tryz.f68)
noncomputable def fe68:FnE:=⟨52,[(5,none)],xc68⟩
theorem ok68:FnOk Tryz.prog 68 fe68:=fnOk_of Tryz.func68 (by kernel_rfl:chkF Tryz.prog hs68 Tryz.f68=some fe68)
/- 69 crimp/piles.Check -/
def hs69:Hints:=[z 0 [0,4],z 1 [11,12,13,10,14,15],z 2 [16],z 3 [1,2,5,6,17,18],z 4 [4,1,6,17,19,20],z 5 [5,21,22],z 6 [2,7,23],z 7 [4,2,23,24],z 9 [28,29,30,31],z 10 [8,9,32,33,34],z 11 [27,39,35,38,36,37,7,25,26,40],z 12 [4,40,41],z 13 [7,25,26,27]]
noncomputable def xc69:XC:=cdOf (chkF Tryz.prog hs69 Tryz.f69)
noncomputable def fe69:FnE:=⟨42,[(4,none)],xc69⟩
theorem ok69:FnOk Tryz.prog 69 fe69:=fnOk_of Tryz.func69 (by kernel_rfl:chkF Tryz.prog hs69 Tryz.f69=some fe69)
/- 70 crimp/piles.listed -/
def hs70:Hints:=[z 0 [0,5],z 1 [10,11,9,12,13],z 2 [15,16],z 3 [1,2,6,7,14,17,18],z 4 [2,7,14,20,21,22,23,24,25],z 5 [1,6,19,26],z 6 [5,19,27],z 8 [30,31],z 9 [8,32,33,34],z 10 [6,29,1,28,35,36],z 11 [5,35,37],z 12 [1,6,28,29,38]]
noncomputable def xc70:XC:=cdOf (chkF Tryz.prog hs70 Tryz.f70)
noncomputable def fe70:FnE:=⟨39,[(4,some (some 3)),(5,none)],xc70⟩
theorem ok70:FnOk Tryz.prog 70 fe70:=fnOk_of Tryz.func70 (by kernel_rfl:chkF Tryz.prog hs70 Tryz.f70=some fe70)
/- 71 crimp/piles.ranks -/
def hs71:Hints:=[z 2 [0],z 4 [9,10,11,12],z 5 [4,5,13,14,15],z 6 [16],z 7 [3,6,7,8,17]]
noncomputable def xc71:XC:=cdOf (chkF Tryz.prog hs71 Tryz.f71)
noncomputable def fe71:FnE:=⟨18,[(2,some (some 32))],xc71⟩
theorem ok71:FnOk Tryz.prog 71 fe71:=fnOk_of Tryz.func71 (by kernel_rfl:chkF Tryz.prog hs71 Tryz.f71=some fe71)
/- 72 (crimp/piles.folded).overlap -/
def hs72:Hints:=[z 0 [0,6],(1,([0,1,2,3,4,5,6,7,8,9,10,11,12,13,14,15,16],[1,2,3,7,8,9,10,11,12,13,14,15,16,17,18,19,20,21,22]))]
noncomputable def xc72:XC:=cdOf (chkF Tryz.prog hs72 Tryz.f72)
noncomputable def fe72:FnE:=⟨23,[(6,none)],xc72⟩
theorem ok72:FnOk Tryz.prog 72 fe72:=fnOk_of Tryz.func72 (by kernel_rfl:chkF Tryz.prog hs72 Tryz.f72=some fe72)
/- 73 slices.rotateLeft[int] -/
def hs73:Hints:=[z 0 [4,5,6,7],z 1 [1,8,9,10,11],z 2 [0,12,13]]
noncomputable def xc73:XC:=cdOf (chkF Tryz.prog hs73 Tryz.f73)
noncomputable def fe73:FnE:=⟨14,[],xc73⟩
theorem ok73:FnOk Tryz.prog 73 fe73:=fnOk_of Tryz.func73 (by kernel_rfl:chkF Tryz.prog hs73 Tryz.f73=some fe73)
/- 74 slices.Index[[]int,int] -/
def hs74:Hints:=[z 0 [4],z 1 [6],z 3 [9,10],z 4 [11,12,13,14,15],z 5 [8,0,1,7,5,16,17],z 6 [4,5,16,18],z 7 [0,1,7,8]]
noncomputable def xc74:XC:=cdOf (chkF Tryz.prog hs74 Tryz.f74)
noncomputable def fe74:FnE:=⟨19,[(4,none)],xc74⟩
theorem ok74:FnOk Tryz.prog 74 fe74:=fnOk_of Tryz.func74 (by kernel_rfl:chkF Tryz.prog hs74 Tryz.f74=some fe74)
/- 75 slices.insertionSortCmpFunc[[]int] -/
def hs75:Hints:=[z 0 [10,11],z 1 [12,13],z 3 [14,17],(4,([0,1,2,3,4,5,6,7,8,9,10,11,12,13,14,15,16],[18,19,20,21])),(6,([0,1,2,3,4,5,6,7,8,9,10,11,12,13,14,15,16,17],[34,37,38,39,40,41,42,43,44,45,46,47,48,49,50,51,52])),z 5 [35,36],z 2 [9,15,16]]
noncomputable def xc75:XC:=cdOf (chkF Tryz.prog hs75 Tryz.f75)
noncomputable def fe75:FnE:=⟨53,[],xc75⟩
theorem ok75:FnOk Tryz.prog 75 fe75:=fnOk_of Tryz.func75 (by kernel_rfl:chkF Tryz.prog hs75 Tryz.f75=some fe75)
/- 76 slices.heapSortCmpFunc[[]int] -/
def hs76:Hints:=[z 0 [13],z 2 [1,2,14,15,16],z 3 [17,18,19],z 4 [20],z 6 [21,24,25,26,27,28,29],z 5 [22,23],z 7 [10,11,30,31],z 8 [32],(10,([0,1,2,3,4,5,6,7,8,9,10,11,12,13,14,15,16,17,18,19],[33,36,37,38,39,40,41,42,43,44,45,46,47,48,49,50,51,52,53])),z 11 [54,55,56,57,58,59],z 9 [34,35]]
noncomputable def xc76:XC:=cdOf (chkF Tryz.prog hs76 Tryz.f76)
noncomputable def fe76:FnE:=⟨60,[],xc76⟩
theorem ok76:FnOk Tryz.prog 76 fe76:=fnOk_of Tryz.func76 (by kernel_rfl:chkF Tryz.prog hs76 Tryz.f76=some fe76)
/- 77 slices.breakPatternsCmpFunc[[]int] -/
def hs77:Hints:=[z 0 [2,3,13,14,15],z 1 [16],z 2 [17,18,19],z 3 [20,21],z 4 [22,23,24,25,26,27],z 5 [28,29,30,31,32,33,34],z 7 [35,38,39,40,41,42],z 8 [43,44],z 9 [45,46,47,48],(10,([0,1,2,3,4,5,6,7,8,9,10,11,12,13,14,15,16,17,18,19],[12,45,49,50,51,52,53,54,55,56,57,58,59,60,61,62,63,64,65,66])),z 6 [36,37]]
noncomputable def xc77:XC:=cdOf (chkF Tryz.prog hs77 Tryz.f77)
noncomputable def fe77:FnE:=⟨67,[],xc77⟩
theorem ok77:FnOk Tryz.prog 77 fe77:=fnOk_of Tryz.func77 (by kernel_rfl:chkF Tryz.prog hs77 Tryz.f77=some fe77)
/- 78 slices.choosePivotCmpFunc[[]int] -/
def hs78:Hints:=[z 0 [8,9],z 1 [2,15,16,17],z 3 [18,19,20,21,22],z 4 [23,24,25,26,27],z 5 [1,28,29,30,31,32],z 6 [33],z 7 [10,34,35],z 8 [36,37,38,39,40],z 9 [41,42,43,44],z 10 [45,46,47,48],z 11 [0,3,12,14,36,49,50,51,52,53,54],z 12 [11,0,3,10,12,14,34],z 14 [58],z 15 [13,55,57,59],z 16 [55,57,61],z 17 [13,60,62],z 13 [13,60,56]]
noncomputable def xc78:XC:=cdOf (chkF Tryz.prog hs78 Tryz.f78)
noncomputable def fe78:FnE:=⟨63,[(8,none),(9,none)],xc78⟩
theorem ok78:FnOk Tryz.prog 78 fe78:=fnOk_of Tryz.func78 (by kernel_rfl:chkF Tryz.prog hs78 Tryz.f78=some fe78)
/- 79 slices.reverseRangeCmpFunc[[]int] -/
def hs79:Hints:=[z 0 [1,3,10],z 1 [2,11,12],z 2 [13,14],(3,([0,1,2,3,4,5,6,7,8,9,10,11,12,13,14,15],[15,16,17,18,19,20,21,22,23,24,25,26,27,28,29])),z 4 [30,31],z 5 [32,33]]
noncomputable def xc79:XC:=cdOf (chkF Tryz.prog hs79 Tryz.f79)
noncomputable def fe79:FnE:=⟨34,[],xc79⟩
theorem ok79:FnOk Tryz.prog 79 fe79:=fnOk_of Tryz.func79 (by kernel_rfl:chkF Tryz.prog hs79 Tryz.f79=some fe79)
/- 80 slices.partialInsertionSortCmpFunc[[]int] -/
def hs80:Hints:=[z 0 [8],z 1 [13,14],z 3 [15],(5,([0,1,2,3,4,5,6,7,8,9,10,11,12,13,14,15,16,17],[19,20,21,22])),z 6 [36,37,38],z 7 [16,39,40],z 8 [9,10,0,3,2,1,35,34,33,23,27,32,31,28,30,29,26,24,25,41],z 9 [8,41,42,43,44],z 10 [9,10,0,3,2,1,35,34,33,23,27,32,31,28,30,29,26,24,25,45],(11,([0,1,2,3,4,5,6,7,8,9,10,11,12,13,14,15,16,17],[8,45,46,47,48,49,50,51,52,53,54,55,56,57,58,59,60,61])),z 12 [62,63,64],z 13 [65,66,67],z 14 [68],(16,([0,1,2,3,4,5,6,7,8,9,10,11,12],[69,72,73,74,75,76,77,78,79,80,81,82,83])),(17,([0,1,2,3,4,5,6,7,8,9,10,11,12,13,14,15,16,17],[84,85,86,87,88,89,90,91,92,93,94,95,96,97,98,99,100])),z 15 [70,71],z 18 [11,65,101,102,103],z 19 [104,105,106],z 20 [107,108],(22,([0,1,2,3,4,5,6,7,8,9,10,11,12],[109,112,113,114,115,116,117,118,119,120,121,122,123])),(23,([0,1,2,3,4,5,6,7,8,9,10,11,12,13,14,15,16,17],[124,125,126,127,128,129,130,131,132,133,134,135,136,137,138,139,140])),z 21 [110,111],z 4 [12,104,17,18],z 24 [0,1,2,3,9,10]]
noncomputable def xc80:XC:=cdOf (chkF Tryz.prog hs80 Tryz.f80)
noncomputable def fe80:FnE:=⟨141,[(8,none)],xc80⟩
theorem ok80:FnOk Tryz.prog 80 fe80:=fnOk_of Tryz.func80 (by kernel_rfl:chkF Tryz.prog hs80 Tryz.f80=some fe80)
/- 81 slices.partitionEqualCmpFunc[[]int] -/
def hs81:Hints:=[z 0 [10],(1,([0,1,2,3,4,5,6,7,8,9,10,11,12,13,14,15],[3,13,14,15,16,17,18,19,20,21,22,23,24,25,26])),z 2 [2,27,28,29,30],(3,([0,1,2,3,4,5,6,7,8,9,10,11,12,13,14,15,16],[31,32,33,34])),z 4 [47,48,49],(5,([0,1,2,3,4,5,6,7,8,9,10,11,12,13,14,15],[50,51,52,53])),z 6 [65,66,67],z 7 [68,69],(8,([0,1,2,3,4,5,6,7,8,9,10,11,12,13,14,15],[70,71,72,73,74,75,76,77,78,79,80,81,82,83,84])),z 9 [85,86],z 10 [87,88],z 11 [0,1,4,11,12,89]]
noncomputable def xc81:XC:=cdOf (chkF Tryz.prog hs81 Tryz.f81)
noncomputable def fe81:FnE:=⟨90,[(10,none)],xc81⟩
theorem ok81:FnOk Tryz.prog 81 fe81:=fnOk_of Tryz.func81 (by kernel_rfl:chkF Tryz.prog hs81 Tryz.f81=some fe81)
/- 82 slices.partitionCmpFunc[[]int] -/
def hs82:Hints:=[z 0 [10,11],(1,([0,1,2,3,4,5,6,7,8,9,10,11,12,13,14,15],[3,14,15,16,17,18,19,20,21,22,23,24,25,26,27])),z 2 [2,28,29,30,31],(3,([0,1,2,3,4,5,6,7,8,9,10,11,12,13,14,15],[32,33,34,35])),z 4 [47,48,49],(5,([0,1,2,3,4,5,6,7,8,9,10,11,12,13,14,15,16],[50,51,52,53])),z 6 [66,67,68],z 7 [65,64,63,54,58,62,61,59,60,57,55,56,69,70],(8,([0,1,2,3,4,5,6,7,8,9,10,11,12,13,14,15],[0,1,4,12,138,137,136,127,131,135,134,132,133,130,128,129,119,118,109,113,117,116,114,115,112,110,111,71,72,73,74,75,76,77,78,79,80,81,82,83,84,85])),z 9 [13,86],(10,([0,1,2,3,4,5,6,7,8,9,10,11,12,13,14,15],[10,11,71,87,88,89,90,91,92,93,94,95,96,97,98,99,100])),z 11 [101,102],z 12 [103,104],(13,([0,1,2,3,4,5,6,7,8,9,10,11,12,13,14,15],[105,106,107,108])),z 14 [120,121,122],(15,([0,1,2,3,4,5,6,7,8,9,10,11,12,13,14,15,16],[123,124,125,126])),z 16 [139,140,141],z 17 [142,143],(18,([0,1,2,3,4,5,6,7,8,9,10,11,12,13,14,15],[144,145,146,147,148,149,150,151,152,153,154,155,156,157,158])),z 19 [159,160],z 20 [161,162],(21,([0,1,2,3,4,5,6,7,8,9,10,11,12,13,14,15],[0,1,4,12,138,137,136,127,131,135,134,132,133,130,128,129,119,118,109,113,117,116,114,115,112,110,111,163,164,165,166,167,168,169,170,171,172,173,174,175,176])),z 22 [13,177]]
noncomputable def xc82:XC:=cdOf (chkF Tryz.prog hs82 Tryz.f82)
noncomputable def fe82:FnE:=⟨178,[(10,none),(11,none)],xc82⟩
theorem ok82:FnOk Tryz.prog 82 fe82:=fnOk_of Tryz.func82 (by kernel_rfl:chkF Tryz.prog hs82 Tryz.f82=some fe82)
/- 83 math/bits.Len32 -/
def hs83:Hints:=[z 1 [3],z 2 [2,4,5,6],z 4 [4,7],z 5 [8,9,10],z 6 [11,12],z 7 [0,8,13,14,15,16,17,18]]
noncomputable def xc83:XC:=cdOf (chkF Tryz.prog hs83 Tryz.f83)
noncomputable def fe83:FnE:=⟨19,[(2,none)],xc83⟩
theorem ok83:FnOk Tryz.prog 83 fe83:=fnOk_of Tryz.func83 (by kernel_rfl:chkF Tryz.prog hs83 Tryz.f83=some fe83)
/- 84 math/bits.Len64 -/
def hs84:Hints:=[z 1 [3],z 2 [2,4,5,6],z 4 [4,7],z 5 [8,9,10],z 6 [11,12],z 7 [8,13],z 8 [14,15,16],z 9 [17,18],z 10 [0,14,19,20,21,22,23,24]]
noncomputable def xc84:XC:=cdOf (chkF Tryz.prog hs84 Tryz.f84)
noncomputable def fe84:FnE:=⟨25,[(2,none)],xc84⟩
theorem ok84:FnOk Tryz.prog 84 fe84:=fnOk_of Tryz.func84 (by kernel_rfl:chkF Tryz.prog hs84 Tryz.f84=some fe84)
/- 85 cmp.isNaN[int] -/
def hs85:Hints:=[z 0 [2],z 1 [0,3,4,5]]
noncomputable def xc85:XC:=cdOf (chkF Tryz.prog hs85 Tryz.f85)
noncomputable def fe85:FnE:=⟨6,[(2,none)],xc85⟩
theorem ok85:FnOk Tryz.prog 85 fe85:=fnOk_of Tryz.func85 (by kernel_rfl:chkF Tryz.prog hs85 Tryz.f85=some fe85)
/- 86 (crimp/rings.folded).beside$1 -/
def hs86:Hints:=[z 0 [6,7,8,9,10,11],z 1 [12,13,14],z 3 [17,18],(4,([0,1,2,3,4,5,6,7,8,9,10,11,12,13,14,15,16,17,18,19,20,21,22,23,24,25,26,27,28,29,30,31,32,33,34,35],[5,19,20,21,22,31,32,48,49])),z 5 [54,55]]
noncomputable def xc86:XC:=cdOf (chkF Tryz.prog hs86 Tryz.f86)
noncomputable def fe86:FnE:=⟨56,[],xc86⟩
theorem ok86:FnOk Tryz.prog 86 fe86:=fnOk_of Tryz.func86 (by kernel_rfl:chkF Tryz.prog hs86 Tryz.f86=some fe86)
/- 87 (crimp/piles.folded).crosses -/
def hs87:Hints:=[z 0 [0,1,4],z 2 [10,11,12],z 4 [15,16],z 5 [17,18,19,20,21,22],z 6 [23,24,25],z 8 [28,29],(9,([0,1,2,3,4,5,6,7,8,9,10,11,12,13,14,15,16,17,18,19],[8,30,31,32,33,34,35,41,42])),z 10 [27,48,43,44,47,46,3,45,6,40,36,39,37,38,2,7,79,71,78,72,73,77,76,75,74,66,67,70,69,68,13,14,26,49],z 11 [49,50],(12,([0,1,2,3,4,5,6,7,8,9],[7,26,27,51,52,53,54,55,56,57,58,59])),z 13 [60,61],(14,([0,1,2,3,4,5,6,7,8,9,10,11,12,13,14,15,16,17,18],[6,9,62,63,64,65])),z 15 [48,43,44,47,46,3,45,40,36,39,37,38,2,14,79,71,78,72,73,77,76,75,74,66,67,70,69,68,13,80],z 16 [6,60,81],z 17 [2,3,5,13,14,82]]
noncomputable def xc87:XC:=cdOf (chkF Tryz.prog hs87 Tryz.f87)
noncomputable def fe87:FnE:=⟨83,[(4,none)],xc87⟩
theorem ok87:FnOk Tryz.prog 87 fe87:=fnOk_of Tryz.func87 (by kernel_rfl:chkF Tryz.prog hs87 Tryz.f87=some fe87)
/- 88 crimp/piles.kind -/
def hs88:Hints:=[z 0 [0,4],z 1 [6,7,8,9,10],(2,([0,1,2,3,4,5,6,7,8,9,10],[1,2,5,11,12,13,14,15,16,17,18,19,20])),z 3 [21],z 4 [21]]
noncomputable def xc88:XC:=cdOf (chkF Tryz.prog hs88 Tryz.f88)
noncomputable def fe88:FnE:=⟨22,[(4,none)],xc88⟩
theorem ok88:FnOk Tryz.prog 88 fe88:=fnOk_of Tryz.func88 (by kernel_rfl:chkF Tryz.prog hs88 Tryz.f88=some fe88)
/- 89 crimp/piles.of -/
def hs89:Hints:=[z 0 [0,3],z 1 [7,8,6,9,10],z 2 [1,4,5,11,12,13,14]]
noncomputable def xc89:XC:=cdOf (chkF Tryz.prog hs89 Tryz.f89)
noncomputable def fe89:FnE:=⟨15,[(2,some (some 3)),(3,none)],xc89⟩
theorem ok89:FnOk Tryz.prog 89 fe89:=fnOk_of Tryz.func89 (by kernel_rfl:chkF Tryz.prog hs89 Tryz.f89=some fe89)
/- 90 (crimp/piles.folded).from -/
def hs90:Hints:=[z 0 [0,4],(1,([0,1,2,3,4,5,6,7,8,9,10,11,12],[1,2,5,6,7,8,9,10,11,12,13,14,15,16]))]
noncomputable def xc90:XC:=cdOf (chkF Tryz.prog hs90 Tryz.f90)
noncomputable def fe90:FnE:=⟨17,[(4,none)],xc90⟩
theorem ok90:FnOk Tryz.prog 90 fe90:=fnOk_of Tryz.func90 (by kernel_rfl:chkF Tryz.prog hs90 Tryz.f90=some fe90)
/- 91 (crimp/piles.folded).to -/
def hs91:Hints:=[z 0 [0,4],(1,([0,1,2,3,4,5,6,7,8,9,10,11,12],[1,2,5,6,7,8,9,10,11,12,13,14,15,16]))]
noncomputable def xc91:XC:=cdOf (chkF Tryz.prog hs91 Tryz.f91)
noncomputable def fe91:FnE:=⟨17,[(4,none)],xc91⟩
theorem ok91:FnOk Tryz.prog 91 fe91:=fnOk_of Tryz.func91 (by kernel_rfl:chkF Tryz.prog hs91 Tryz.f91=some fe91)
/- 92 slices.Reverse[[]int,int] -/
def hs92:Hints:=[z 0 [4,5,6],z 1 [7,8],(3,([0,1,2,3,4,5,6,7,8,9,10,11,12,13,14,15],[9,14,15,16,17,18,19,20,21,22,23,24,25,26,27])),z 2 [10,11,12,13]]
noncomputable def xc92:XC:=cdOf (chkF Tryz.prog hs92 Tryz.f92)
noncomputable def fe92:FnE:=⟨28,[],xc92⟩
theorem ok92:FnOk Tryz.prog 92 fe92:=fnOk_of Tryz.func92 (by kernel_rfl:chkF Tryz.prog hs92 Tryz.f92=some fe92)
/- 93 slices.siftDownCmpFunc[[]int] -/
def hs93:Hints:=[z 0 [1,12],z 1 [13,14,15],z 2 [16,17],(3,([0,1,2,3,4,5,6,7,8,9,10,11,12,13,14,15,16,17,18,19,20,21],[18,19,20,21,22,23])),z 4 [40,41,42],(5,([0,1,2,3,4,5,6,7,8,9,10,11,12,13,14,15],[40,43,44,45,46,47,48,49,50,51,52,53,54,55,56,57])),(6,([0,1,2,3,4,5,6,7,8,9,10,11,12,13,14,15,16,17,18,19,20,21,22,23],[10,58,59,60,61,62,63,64,65,66,67,68,69,70,71,72,73,74,75,76,77,78,79,80])),z 7 [11,81]]
noncomputable def xc93:XC:=cdOf (chkF Tryz.prog hs93 Tryz.f93)
noncomputable def fe93:FnE:=⟨82,[],xc93⟩
theorem ok93:FnOk Tryz.prog 93 fe93:=fnOk_of Tryz.func93 (by kernel_rfl:chkF Tryz.prog hs93 Tryz.f93=some fe93)
/- 94 slices.nextPowerOfTwo -/
def hs94:Hints:=[z 0 [2],z 1 [0,3,4,5,6]]
noncomputable def xc94:XC:=cdOf (chkF Tryz.prog hs94 Tryz.f94)
noncomputable def fe94:FnE:=⟨7,[(2,none)],xc94⟩
theorem ok94:FnOk Tryz.prog 94 fe94:=fnOk_of Tryz.func94 (by kernel_rfl:chkF Tryz.prog hs94 Tryz.f94=some fe94)
/- 95 (*slices.xorshift).Next -/
def hs95:Hints:=[z 0 [2],(1,([0,1,2,3,4,5,6,7,8,9],[3,4,5,6,7,8,9,10,11])),(2,([0,1,2,3,4,5,6,7,8,9],[12,13,14,15,16,17,18,19,20])),(3,([0,1,2,3,4,5,6,7,8,9],[21,22,23,24,25,26,27,28,29])),z 4 [0,30,31,32]]
noncomputable def xc95:XC:=cdOf (chkF Tryz.prog hs95 Tryz.f95)
noncomputable def fe95:FnE:=⟨33,[(2,none)],xc95⟩
theorem ok95:FnOk Tryz.prog 95 fe95:=fnOk_of Tryz.func95 (by kernel_rfl:chkF Tryz.prog hs95 Tryz.f95=some fe95)
/- 96 slices.medianAdjacentCmpFunc[[]int] -/
def hs96:Hints:=[z 0 [8],z 1 [0,1,2,3,9,10,11,12,13,14,15,16,17]]
noncomputable def xc96:XC:=cdOf (chkF Tryz.prog hs96 Tryz.f96)
noncomputable def fe96:FnE:=⟨18,[(8,none)],xc96⟩
theorem ok96:FnOk Tryz.prog 96 fe96:=fnOk_of Tryz.func96 (by kernel_rfl:chkF Tryz.prog hs96 Tryz.f96=some fe96)
/- 97 slices.medianCmpFunc[[]int] -/
def hs97:Hints:=[z 0 [12],z 1 [14,15,16,17,18,19,13,20,21],z 2 [3,23,24,25,26,27,28,22,29,30],z 3 [0,1,4,5,32,33,34,35,36,37,31,38,39],z 4 [2,40]]
noncomputable def xc97:XC:=cdOf (chkF Tryz.prog hs97 Tryz.f97)
noncomputable def fe97:FnE:=⟨41,[(12,none)],xc97⟩
theorem ok97:FnOk Tryz.prog 97 fe97:=fnOk_of Tryz.func97 (by kernel_rfl:chkF Tryz.prog hs97 Tryz.f97=some fe97)
/- 98 crimp/piles.between -/
def hs98:Hints:=[z 0 [0,6],(1,([0,1,2,3,4,5,6,7,8,9,10,11,12,13,14,15,16,17,18,19,20,21,22],[1,2,3,7,8,9,10,11,12,13,14,15,16,17,18,19,20,21,22,23,24,25,26,27,28]))]
noncomputable def xc98:XC:=cdOf (chkF Tryz.prog hs98 Tryz.f98)
noncomputable def fe98:FnE:=⟨29,[(6,none)],xc98⟩
theorem ok98:FnOk Tryz.prog 98 fe98:=fnOk_of Tryz.func98 (by kernel_rfl:chkF Tryz.prog hs98 Tryz.f98=some fe98)
/- 99 (crimp/piles.folded).loops -/
def hs99:Hints:=[z 0 [0,1,2,6],z 1 [3,4,5,7]]
noncomputable def xc99:XC:=cdOf (chkF Tryz.prog hs99 Tryz.f99)
noncomputable def fe99:FnE:=⟨8,[(6,none)],xc99⟩
theorem ok99:FnOk Tryz.prog 99 fe99:=fnOk_of Tryz.func99 (by kernel_rfl:chkF Tryz.prog hs99 Tryz.f99=some fe99)
/- 100 crimp/strips.Ends -/
def hs100:Hints:=[z 0 [0,2,3],z 1 [7,8],z 2 [9],z 3 [1,4,10,11],z 4 [2,3,4,10,12,13,14,15,16],z 5 [1,17],z 6 [18,19],z 7 [6,20,21,22,23],z 8 [5,18,24]]
noncomputable def xc100:XC:=cdOf (chkF Tryz.prog hs100 Tryz.f100)
noncomputable def fe100:FnE:=⟨25,[(2,none),(3,none)],xc100⟩
theorem ok100:FnOk Tryz.prog 100 fe100:=fnOk_of Tryz.func100 (by kernel_rfl:chkF Tryz.prog hs100 Tryz.f100=some fe100)
/- 101 slices.order2CmpFunc[[]int] -/
def hs101:Hints:=[z 0 [10,11],(1,([0,1,2,3,4,5,6,7,8,9,10],[0,4,12,13,14,15,16,17,18,19,20,21])),z 2 [3,22,23,24,25,26,27],z 3 [1,2,28,29],z 4 [1,2,3,22,30,31]]
noncomputable def xc101:XC:=cdOf (chkF Tryz.prog hs101 Tryz.f101)
noncomputable def fe101:FnE:=⟨32,[(10,none),(11,none)],xc101⟩
theorem ok101:FnOk Tryz.prog 101 fe101:=fnOk_of Tryz.func101 (by kernel_rfl:chkF Tryz.prog hs101 Tryz.f101=some fe101)
/- 102 (crimp/piles.folded).loops$1 -/
def hs102:Hints:=[z 0 [6,7,8],z 2 [11,12],(3,([0,1,2,3,4,5,6,7,8,9,10,11,12,13,14,15,16,17,18,19,20,21,22,23,24],[5,13,14,15,16,17,18,19,20,21,31,32])),z 4 [37,38]]
noncomputable def xc102:XC:=cdOf (chkF Tryz.prog hs102 Tryz.f102)
noncomputable def fe102:FnE:=⟨39,[],xc102⟩
theorem ok102:FnOk Tryz.prog 102 fe102:=fnOk_of Tryz.func102 (by kernel_rfl:chkF Tryz.prog hs102 Tryz.f102=some fe102)
/- 103 (crimp/strips.Strip).ends -/
def hs103:Hints:=[z 0 [0,2],z 1 [1,3]]
noncomputable def xc103:XC:=cdOf (chkF Tryz.prog hs103 Tryz.f103)
noncomputable def fe103:FnE:=⟨4,[(2,none)],xc103⟩
theorem ok103:FnOk Tryz.prog 103 fe103:=fnOk_of Tryz.func103 (by kernel_rfl:chkF Tryz.prog hs103 Tryz.f103=some fe103)
/- 104 (crimp/strips.Strip).ends$1 -/
def hs104:Hints:=[z 1 [6,7,8],z 2 [1,9,10],z 4 [14,15,16,17],z 5 [4,5,18,19,20,21,22,23,24,25],z 6 [26,27,28],z 7 [29,30]]
noncomputable def xc104:XC:=cdOf (chkF Tryz.prog hs104 Tryz.f104)
noncomputable def fe104:FnE:=⟨31,[],xc104⟩
theorem ok104:FnOk Tryz.prog 104 fe104:=fnOk_of Tryz.func104 (by kernel_rfl:chkF Tryz.prog hs104 Tryz.f104=some fe104)
noncomputable def xpl:List (Nat×FnE):=[(3,fe3),(4,fe4),(5,fe5),(6,fe6),(7,fe7),(8,fe8),(9,fe9),(10,fe10),(11,fe11),(12,fe12),(13,fe13),(14,fe14),(15,fe15),(16,fe16),(17,fe17),(18,fe18),(19,fe19),(20,fe20),(21,fe21),(22,fe22),(23,fe23),(24,fe24),(25,fe25),(26,fe26),(27,fe27),(28,fe28),(29,fe29),(30,fe30),(31,fe31),(32,fe32),(33,fe33),(34,fe34),(35,fe35),(36,fe36),(37,fe37),(38,fe38),(39,fe39),(40,fe40),(41,fe41),(42,fe42),(43,fe43),(44,fe44),(45,fe45),(46,fe46),(47,fe47),(48,fe48),(49,fe49),(50,fe50),(51,fe51),(53,fe53),(54,fe54),(55,fe55),(56,fe56),(57,fe57),(58,fe58),(59,fe59),(60,fe60),(61,fe61),(62,fe62),(63,fe63),(64,fe64),(65,fe65),(66,fe66),(67,fe67),(68,fe68),(69,fe69),(70,fe70),(71,fe71),(72,fe72),(73,fe73),(74,fe74),(75,fe75),(76,fe76),(77,fe77),(78,fe78),(79,fe79),(80,fe80),(81,fe81),(82,fe82),(83,fe83),(84,fe84),(85,fe85),(86,fe86),(87,fe87),(88,fe88),(89,fe89),(90,fe90),(91,fe91),(92,fe92),(93,fe93),(94,fe94),(95,fe95),(96,fe96),(97,fe97),(98,fe98),(99,fe99),(100,fe100),(101,fe101),(102,fe102),(103,fe103),(104,fe104)]
theorem xpOk:XpOk Tryz.prog (aget xpl):=xpOk_of (l:=xpl) ⟨ok3,ok4,ok5,ok6,ok7,ok8,ok9,ok10,ok11,ok12,ok13,ok14,ok15,ok16,ok17,ok18,ok19,ok20,ok21,ok22,ok23,ok24,ok25,ok26,ok27,ok28,ok29,ok30,ok31,ok32,ok33,ok34,ok35,ok36,ok37,ok38,ok39,ok40,ok41,ok42,ok43,ok44,ok45,ok46,ok47,ok48,ok49,ok50,ok51,ok53,ok54,ok55,ok56,ok57,ok58,ok59,ok60,ok61,ok62,ok63,ok64,ok65,ok66,ok67,ok68,ok69,ok70,ok71,ok72,ok73,ok74,ok75,ok76,ok77,ok78,ok79,ok80,ok81,ok82,ok83,ok84,ok85,ok86,ok87,ok88,ok89,ok90,ok91,ok92,ok93,ok94,ok95,ok96,ok97,ok98,ok99,ok100,ok101,ok102,ok103,ok104,trivial⟩
end Go.Proofs.YthiammkiobbclaaGreat.X
