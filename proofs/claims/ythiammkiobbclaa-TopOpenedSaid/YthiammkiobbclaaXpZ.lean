/-
 The functions of the translation, with types resolved (made by a program).
-/
import Derived.Test.YthiammkiobbclaaProg
import Derived.Test.YthiammkiobbclaaAb6
import Derived.KernelRfl
set_option linter.unusedVariables false
set_option maxRecDepth 1000000
namespace Go.Proofs.Ythiammkiobbclaa.X
open Go Go.Ab

abbrev z (n:Nat)(l:List Nat):Nat×(List Nat×List Nat):=(n,([],l))
noncomputable def cdOf:Option FnE→XC
 |some f=>f.xc
 |none=>.skip

/- 3 crimp/crimptop.TopOpened -/
def hs3:Hints:=[z 0 [0,2],z 1 [10,11,12,13,14,15,16,17,18,19,20],z 2 [1,21,22],z 3 [24,25,26,27,28,29,23,30,31],z 4 [3,33,34,32,35,36],z 5 [4,38,39,37,40,41],z 6 [5,6,7,8,9,42,43,44,45,46,47,48,49,50,51,52,53,54,55,56,57,58,59]]
noncomputable def xc3:XC:=cdOf (chkF Try.prog hs3 Try.f3)
noncomputable def fe3:FnE:=⟨60,[(2,none)],xc3⟩
theorem ok3:FnOk Try.prog 3 fe3:=fnOk_of Try.func3 (by kernel_rfl:chkF Try.prog hs3 Try.f3=some fe3)
/- 4 (crimp/crimplaw22.N).Of -/
def hs4:Hints:=[z 0 [0],z 1 [9,10],z 2 [11,12,13,14,15,16,17,18],z 3 [3,19,20],z 4 [21],z 7 [22,23,24,25],(9,([0,1,2,3,4,5,6,7,8,9,10],[26,29,30,31,32,33,34,35,36,37,38])),z 10 [39,40],z 11 [41,42,43,44,45,46,47,48],z 12 [41,49,50,51,52,53,54,55],z 13 [56,57,58,59],(14,([0,1,2,3,4,5,6,7,8,9,10],[60,61,62,63,64,65,66,67,68,69,70])),z 8 [60,27,28],z 15 [4,7,71,72,73],z 16 [74,75],z 17 [76,77],(18,([0,1,2,3,4,5,6,7,8,9,10,11,12,13],[6,8,78,79,80,81,82,83,84,85,86,87,88,89,90,91])),(19,([0,1,2,3,4,5,6,7,8,9],[6,8,78,92,93,94,95,96,97,98,99,100])),z 20 [8,76,101,102,103,104,105,106,107,108,109,110],z 21 [111],(22,([0,1,2,3,4,5,6,7,8,9,10],[6,112,113,114,115,116,117,118,119,120,121,122])),z 24 [6,112,123,124,125,126,127,128],z 25 [1,129,130,131,132,133,134,135,136,137],z 26 [5,138]]
noncomputable def xc4:XC:=cdOf (chkF Try.prog hs4 Try.f4)
noncomputable def fe4:FnE:=⟨139,[(2,some (some 2))],xc4⟩
theorem ok4:FnOk Try.prog 4 fe4:=fnOk_of Try.func4 (by kernel_rfl:chkF Try.prog hs4 Try.f4=some fe4)
/- 5 crimp/rings.Open -/
def hs5:Hints:=[z 0 [0,5],z 1 [8,9],z 2 [10],z 3 [1,2,6,11,12,13],z 4 [5,6,11,14,15,16,17,18,19,20,21],z 5 [1,2,22,23],z 6 [5,1,22,24,25,26,27],(7,([0,1,2,3,4,5,6,7,8,9,10,11,12,13,14,15,16],[2,7,28,29,30,31,32,33,34,35,36,37,38,39,40,41,42]))]
noncomputable def xc5:XC:=cdOf (chkF Try.prog hs5 Try.f5)
noncomputable def fe5:FnE:=⟨43,[(4,some (some 2)),(5,none)],xc5⟩
theorem ok5:FnOk Try.prog 5 fe5:=fnOk_of Try.func5 (by kernel_rfl:chkF Try.prog hs5 Try.f5=some fe5)
/- 6 crimp/rings.Count -/
def hs6:Hints:=[z 0 [0,2,3],z 1 [5,6],z 2 [7],z 3 [1,4,8,9],z 4 [1,4,8,10,11,12]]
noncomputable def xc6:XC:=cdOf (chkF Try.prog hs6 Try.f6)
noncomputable def fe6:FnE:=⟨13,[(2,none),(3,none)],xc6⟩
theorem ok6:FnOk Try.prog 6 fe6:=fnOk_of Try.func6 (by kernel_rfl:chkF Try.prog hs6 Try.f6=some fe6)
/- 7 crimp/stamps.Count -/
def hs7:Hints:=[z 0 [0,2,3],z 1 [5,6],z 2 [7],z 3 [1,4,8,9],z 4 [1,4,8,10,11,12]]
noncomputable def xc7:XC:=cdOf (chkF Try.prog hs7 Try.f7)
noncomputable def fe7:FnE:=⟨13,[(2,none),(3,none)],xc7⟩
theorem ok7:FnOk Try.prog 7 fe7:=fnOk_of Try.func7 (by kernel_rfl:chkF Try.prog hs7 Try.f7=some fe7)
/- 8 crimp/crimptop.counts -/
def hs8:Hints:=[z 0 [0],z 1 [6,5,7,8],z 2 [1,10,11,9,12,13],z 3 [2,3,4,14,15,16,17,18,19,20,21,22,23]]
noncomputable def xc8:XC:=cdOf (chkF Try.prog hs8 Try.f8)
noncomputable def fe8:FnE:=⟨24,[(0,none)],xc8⟩
theorem ok8:FnOk Try.prog 8 fe8:=fnOk_of Try.func8 (by kernel_rfl:chkF Try.prog hs8 Try.f8=some fe8)
/- 9 (crimp/crimplaw16.T).Of -/
def hs9:Hints:=[z 0 [0],z 3 [6,7,8,9,10,11],(5,([0,1,2,3,4,5,6,7,8,9,10,11,12,13],[14,17,18,19,20,21,22,23,24,25,26,27,28,29])),z 6 [30],z 7 [31],z 8 [32,33,34,35],z 9 [36,37,38,39,40,41,42,43,44],z 10 [5,36,45,46,47,48,49,50],z 4 [31,15,16],z 11 [1,4,51,52,53],z 12 [54,55,56],z 13 [3,54,57]]
noncomputable def xc9:XC:=cdOf (chkF Try.prog hs9 Try.f9)
noncomputable def fe9:FnE:=⟨58,[(2,some (some 2))],xc9⟩
theorem ok9:FnOk Try.prog 9 fe9:=fnOk_of Try.func9 (by kernel_rfl:chkF Try.prog hs9 Try.f9=some fe9)
/- 10 crimp/rings.Check -/
def hs10:Hints:=[z 0 [0,2],z 1 [7,8,9,10],z 2 [1,6],z 3 [6,12,13,14,15,16,17,18],z 4 [1,11],z 5 [11,20,21,22,23,24,25,26,27,28,29,30],z 6 [1,19],z 7 [2,19],z 8 [31],z 10 [35,36,37,38],z 11 [39,40,41,44,45,52,53],z 12 [34,3,59,58,57,55,56,54,1,51,50,49,47,48,46,43,42,32,33,4,5,60],z 13 [2,4,5,60,61,62,63,64,65,66,67,68],z 14 [69],z 15 [1,59,58,57,55,56,54,51,50,49,47,48,46,43,42,3,32,33,34,70],z 16 [71],z 17 [71]]
noncomputable def xc10:XC:=cdOf (chkF Try.prog hs10 Try.f10)
noncomputable def fe10:FnE:=⟨72,[(2,none)],xc10⟩
theorem ok10:FnOk Try.prog 10 fe10:=fnOk_of Try.func10 (by kernel_rfl:chkF Try.prog hs10 Try.f10=some fe10)
/- 11 crimp/rings.of -/
def hs11:Hints:=[z 0 [0],z 1 [6,7,8],z 2 [1,9],z 4 [13,14,15,16],(5,([0,1,2,3,4,5,6,7,8,9,10,11,12,13,14,15,16,17],[4,5,17,18,19,20,21,22,23,24,25,26,27,28,29,30,31,32,33])),z 6 [34],z 7 [3,10,11,12,35]]
noncomputable def xc11:XC:=cdOf (chkF Try.prog hs11 Try.f11)
noncomputable def fe11:FnE:=⟨36,[(2,some (some 3))],xc11⟩
theorem ok11:FnOk Try.prog 11 fe11:=fnOk_of Try.func11 (by kernel_rfl:chkF Try.prog hs11 Try.f11=some fe11)
/- 12 (crimp/rings.folded).behind -/
def hs12:Hints:=[z 0 [0,4],z 1 [1,2,5,6,7,8,9,10,11]]
noncomputable def xc12:XC:=cdOf (chkF Try.prog hs12 Try.f12)
noncomputable def fe12:FnE:=⟨12,[(4,none)],xc12⟩
theorem ok12:FnOk Try.prog 12 fe12:=fnOk_of Try.func12 (by kernel_rfl:chkF Try.prog hs12 Try.f12=some fe12)
/- 13 crimp/rings.begun[int] -/
def hs13:Hints:=[z 0 [4],(1,([0,1,2,3,4,5,6,7,8,9],[0,1,5,6,7,8,9,10,11,12,13]))]
noncomputable def xc13:XC:=cdOf (chkF Try.prog hs13 Try.f13)
noncomputable def fe13:FnE:=⟨14,[(4,none)],xc13⟩
theorem ok13:FnOk Try.prog 13 fe13:=fnOk_of Try.func13 (by kernel_rfl:chkF Try.prog hs13 Try.f13=some fe13)
/- 14 slices.Clip[[]crimp/api.Kind,crimp/api.Kind] -/
def hs14:Hints:=[z 0 [2],z 1 [0,3,4,5,6,7,8]]
noncomputable def xc14:XC:=cdOf (chkF Try.prog hs14 Try.f14)
noncomputable def fe14:FnE:=⟨9,[(2,none)],xc14⟩
theorem ok14:FnOk Try.prog 14 fe14:=fnOk_of Try.func14 (by kernel_rfl:chkF Try.prog hs14 Try.f14=some fe14)
/- 15 crimp/rings.begun[crimp/api.Kind] -/
def hs15:Hints:=[z 0 [4],(1,([0,1,2,3,4,5,6,7,8,9],[0,1,5,6,7,8,9,10,11,12,13]))]
noncomputable def xc15:XC:=cdOf (chkF Try.prog hs15 Try.f15)
noncomputable def fe15:FnE:=⟨14,[(4,none)],xc15⟩
theorem ok15:FnOk Try.prog 15 fe15:=fnOk_of Try.func15 (by kernel_rfl:chkF Try.prog hs15 Try.f15=some fe15)
/- 16 crimp/rings.searched -/
def hs16:Hints:=[z 0 [0,2],z 1 [4,5],z 2 [6],z 3 [1,3,7,8],z 4 [2,1,3,7,9,10,11],z 5 [12],z 6 [12]]
noncomputable def xc16:XC:=cdOf (chkF Try.prog hs16 Try.f16)
noncomputable def fe16:FnE:=⟨13,[(2,none)],xc16⟩
theorem ok16:FnOk Try.prog 16 fe16:=fnOk_of Try.func16 (by kernel_rfl:chkF Try.prog hs16 Try.f16=some fe16)
/- 17 crimp/rings.ways -/
def hs17:Hints:=[z 0 [0,2],z 1 [7,8],z 2 [9],z 5 [1,3,4,10],z 6 [6,11,12],z 7 [13,14],z 8 [5,15]]
noncomputable def xc17:XC:=cdOf (chkF Try.prog hs17 Try.f17)
noncomputable def fe17:FnE:=⟨16,[(2,none)],xc17⟩
theorem ok17:FnOk Try.prog 17 fe17:=fnOk_of Try.func17 (by kernel_rfl:chkF Try.prog hs17 Try.f17=some fe17)
/- 18 crimp/stamps.check -/
def hs18:Hints:=[z 0 [0,2],z 1 [4,5],z 2 [6],z 3 [1,3,7,8],z 4 [2,1,3,7,9,10,11],z 5 [12],z 6 [12]]
noncomputable def xc18:XC:=cdOf (chkF Try.prog hs18 Try.f18)
noncomputable def fe18:FnE:=⟨13,[(2,none)],xc18⟩
theorem ok18:FnOk Try.prog 18 fe18:=fnOk_of Try.func18 (by kernel_rfl:chkF Try.prog hs18 Try.f18=some fe18)
/- 19 crimp/stamps.ways -/
def hs19:Hints:=[z 0 [0,2],z 1 [9],z 3 [10],z 4 [11,12],z 5 [1,5,14,15,16,13,17,18,7],z 7 [19,20,21],z 8 [22,23,24],z 9 [3,8,25,26,27],z 10 [6,28,29,30,31],z 11 [1,3,11,32,33],z 12 [4,34]]
noncomputable def xc19:XC:=cdOf (chkF Try.prog hs19 Try.f19)
noncomputable def fe19:FnE:=⟨35,[(2,none)],xc19⟩
theorem ok19:FnOk Try.prog 19 fe19:=fnOk_of Try.func19 (by kernel_rfl:chkF Try.prog hs19 Try.f19=some fe19)
/- 20 crimp/stamps.Unit -/
def hs20:Hints:=[z 0 [3],z 1 [4,5,6,7,8],z 2 [0,9,10],z 3 [0,9,11,12,13,14,15,16,17,18,19,20]]
noncomputable def xc20:XC:=cdOf (chkF Try.prog hs20 Try.f20)
noncomputable def fe20:FnE:=⟨21,[(2,some (some 2)),(3,none)],xc20⟩
theorem ok20:FnOk Try.prog 20 fe20:=fnOk_of Try.func20 (by kernel_rfl:chkF Try.prog hs20 Try.f20=some fe20)
/- 21 slices.Clip[[]int,int] -/
def hs21:Hints:=[z 0 [2],z 1 [0,3,4,5,6,7,8]]
noncomputable def xc21:XC:=cdOf (chkF Try.prog hs21 Try.f21)
noncomputable def fe21:FnE:=⟨9,[(2,none)],xc21⟩
theorem ok21:FnOk Try.prog 21 fe21:=fnOk_of Try.func21 (by kernel_rfl:chkF Try.prog hs21 Try.f21=some fe21)
/- 22 slices.Concat[[]int,int] -/
def hs22:Hints:=[z 0 [2],z 4 [12,13,14],z 5 [5,15,16,17,18],z 6 [19],z 7 [20,21],z 8 [20,22],z 9 [3,9,10,11,23,24],z 10 [0],z 12 [28,29,30],z 13 [8,31,32,33],z 14 [34],z 15 [6,25,26,27,35]]
noncomputable def xc22:XC:=cdOf (chkF Try.prog hs22 Try.f22)
noncomputable def fe22:FnE:=⟨36,[(2,none)],xc22⟩
theorem ok22:FnOk Try.prog 22 fe22:=fnOk_of Try.func22 (by kernel_rfl:chkF Try.prog hs22 Try.f22=some fe22)
/- 23 slices.Concat[[]crimp/api.Kind,crimp/api.Kind] -/
def hs23:Hints:=[z 0 [2],z 4 [12,13,14],z 5 [5,15,16,17,18],z 6 [19],z 7 [20,21],z 8 [20,22],z 9 [3,9,10,11,23,24],z 10 [0],z 12 [28,29,30],z 13 [8,31,32,33],z 14 [34],z 15 [6,25,26,27,35]]
noncomputable def xc23:XC:=cdOf (chkF Try.prog hs23 Try.f23)
noncomputable def fe23:FnE:=⟨36,[(2,none)],xc23⟩
theorem ok23:FnOk Try.prog 23 fe23:=fnOk_of Try.func23 (by kernel_rfl:chkF Try.prog hs23 Try.f23=some fe23)
/- 24 crimp/rings.ways$1 -/
def hs24:Hints:=[z 0 [12,13],z 1 [14,15],z 2 [8,16,17,18,19,20,21,22],z 3 [2,23,24,25,26,27],z 4 [1,4,5,28,29],z 6 [32,33],(7,([0,1,2,3,4,5,6,7],[9,34,35,36,37,38,39,40,41])),z 8 [42],z 9 [0,3,7,30,31,1,28,43,44,45],z 11 [46,47,48],z 12 [49,50,51],z 13 [4,11,52,53,54],z 14 [5,10,55,56,57,58]]
noncomputable def xc24:XC:=cdOf (chkF Try.prog hs24 Try.f24)
noncomputable def fe24:FnE:=⟨59,[],xc24⟩
theorem ok24:FnOk Try.prog 24 fe24:=fnOk_of Try.func24 (by kernel_rfl:chkF Try.prog hs24 Try.f24=some fe24)
/- 25 crimp/rings.rank -/
def hs25:Hints:=[z 4 [8,9],z 5 [4,10,11],z 6 [12],z 7 [0,7],z 9 [16,17,18,19],z 10 [5,6,20,21,22],z 11 [23],z 12 [3,13,14,15,24]]
noncomputable def xc25:XC:=cdOf (chkF Try.prog hs25 Try.f25)
noncomputable def fe25:FnE:=⟨25,[(2,some (some 32))],xc25⟩
theorem ok25:FnOk Try.prog 25 fe25:=fnOk_of Try.func25 (by kernel_rfl:chkF Try.prog hs25 Try.f25=some fe25)
/- 26 (crimp/rings.folded).crosses -/
def hs26:Hints:=[z 0 [0,1],z 1 [9,10,11],z 3 [14,15],z 4 [16,17,18,19,20,21],z 5 [22,23,24],z 7 [27,28],z 8 [7,29,30,31,32,33,34,40,41],z 9 [26,46,42,43,44,45,5,3,2,39,35,38,36,37,6,76,68,75,69,70,71,74,72,73,64,65,66,67,12,13,25,47],z 10 [47,48],z 11 [6,25,26,49,50],z 12 [51,52],(13,([0,1,2,3,4,5,6,7,8,9,10,11,12,13,14,15,16,17,18,19,20,21,22,23,24],[5,8,53,54,55,56,57,58,59,60,61,62,63])),z 14 [46,42,43,44,45,3,2,39,35,38,36,37,13,76,68,75,69,70,71,74,72,73,64,65,66,67,12,77],z 15 [5,51,78],z 16 [2,3,12,13]]
noncomputable def xc26:XC:=cdOf (chkF Try.prog hs26 Try.f26)
noncomputable def fe26:FnE:=⟨79,[(4,some none)],xc26⟩
theorem ok26:FnOk Try.prog 26 fe26:=fnOk_of Try.func26 (by kernel_rfl:chkF Try.prog hs26 Try.f26=some fe26)
/- 27 (crimp/rings.folded).wrong -/
def hs27:Hints:=[z 0 [0,1,4],z 1 [7,8],z 3 [12,13,14,15],(4,([0,1,2,3,4,5,6,7,8,9,10,11,12,13,14,15,16,17,18,19,20,21],[5,6,16,17,18,29,30])),z 5 [11,36,31,35,32,33,34,3,2,28,27,21,26,25,24,22,23,20,19,9,10,37],z 6 [4,37,38],z 7 [2,3,9,10,11]]
noncomputable def xc27:XC:=cdOf (chkF Try.prog hs27 Try.f27)
noncomputable def fe27:FnE:=⟨39,[(4,none)],xc27⟩
theorem ok27:FnOk Try.prog 27 fe27:=fnOk_of Try.func27 (by kernel_rfl:chkF Try.prog hs27 Try.f27=some fe27)
/- 28 slices.Insert[[]int,int] -/
def hs28:Hints:=[z 0 [6],z 1 [10,11,12],z 2 [13,14],z 3 [15],z 4 [0,1,2,7,16,17],z 5 [6,16,18,19],z 6 [20,21],z 7 [0,1,2,7,8,22,23,24,25],z 8 [6,22,26,27,28,29,30],z 9 [8,31,32,33,34,35,36,37,38,39,40],z 10 [2,41,42,43,44,45],(11,([0,1,2,3,4,5,6,7,8],[0,1,7,46,47,48,49,50,51,52,53,54])),z 12 [9,55],z 13 [6,31,56,57,58,59,60],z 14 [61,62,63,64,65,66,67],(15,([0,1,2,3,4,5,6,7,8],[7,8,68,69,70,71,72,73,74,75,76,77])),z 16 [1,2,78,79,80,81,82],z 17 [0,83],z 18 [6,2,8,68,84,85,86,87,88],z 19 [1,7,89,90,91,92,93],z 20 [0,94]]
noncomputable def xc28:XC:=cdOf (chkF Try.prog hs28 Try.f28)
noncomputable def fe28:FnE:=⟨95,[(6,none)],xc28⟩
theorem ok28:FnOk Try.prog 28 fe28:=fnOk_of Try.func28 (by kernel_rfl:chkF Try.prog hs28 Try.f28=some fe28)
/- 29 slices.Clone[[]int,int] -/
def hs29:Hints:=[z 0 [2],z 1 [3],z 2 [0,4],z 3 [0,4,5,6,7]]
noncomputable def xc29:XC:=cdOf (chkF Try.prog hs29 Try.f29)
noncomputable def fe29:FnE:=⟨8,[(2,none)],xc29⟩
theorem ok29:FnOk Try.prog 29 fe29:=fnOk_of Try.func29 (by kernel_rfl:chkF Try.prog hs29 Try.f29=some fe29)
/- 30 (crimp/rings.folded).least -/
def hs30:Hints:=[z 0 [0,4],z 1 [11,12],z 2 [13,14,15],z 4 [16,17,18,19],z 5 [20,21],z 7 [24,25],z 8 [26,27,28,29],z 9 [30],z 11 [33,34],(12,([0,1,2,3,4,5,6,7,8,9,10,11,12,13,14,15,16,17,18,19,20,21,22,23,24,25,26,27,28,29,30,31,32,33],[10,35,36,67])),z 13 [68],z 14 [9,31,32],z 15 [23,22,69,70,71],z 16 [8,72,73,74,75],z 17 [8,69,76],z 18 [1,2,5,6,7,77]]
noncomputable def xc30:XC:=cdOf (chkF Try.prog hs30 Try.f30)
noncomputable def fe30:FnE:=⟨78,[(4,none)],xc30⟩
theorem ok30:FnOk Try.prog 30 fe30:=fnOk_of Try.func30 (by kernel_rfl:chkF Try.prog hs30 Try.f30=some fe30)
/- 31 slices.SortFunc[[][]int,[]int] -/
def hs31:Hints:=[z 0 [5,6],z 1 [0,1,4,7,8,9,10,11,12,13]]
noncomputable def xc31:XC:=cdOf (chkF Try.prog hs31 Try.f31)
noncomputable def fe31:FnE:=⟨14,[],xc31⟩
theorem ok31:FnOk Try.prog 31 fe31:=fnOk_of Try.func31 (by kernel_rfl:chkF Try.prog hs31 Try.f31=some fe31)
/- 32 slices.Compare[[]int,int] -/
def hs32:Hints:=[z 0 [4],z 3 [12,13,14,15],z 4 [16,17,18],z 5 [11,1,9,0,10,5,6,19],z 6 [4,5,19,20,21,22,23],z 7 [6,7,24,25,26],z 8 [27],z 9 [11,1,9,0,10,8,28,29],z 10 [4,8,28,30],z 11 [0,1,9,10,11,31,32,33,34],z 12 [35],z 13 [35]]
noncomputable def xc32:XC:=cdOf (chkF Try.prog hs32 Try.f32)
noncomputable def fe32:FnE:=⟨36,[(4,none)],xc32⟩
theorem ok32:FnOk Try.prog 32 fe32:=fnOk_of Try.func32 (by kernel_rfl:chkF Try.prog hs32 Try.f32=some fe32)
/- 33 crimp/strips.Check -/
def hs33:Hints:=[z 0 [0,2],z 1 [8,9,10,11],z 2 [1,7],z 3 [7,13,14,15,16,17,18,19,20],z 4 [1,12],z 5 [2,12,21],z 7 [25,26,27],z 8 [4,28,29,30],z 9 [24,32,31,22,46,45,1,23,33],z 10 [2,33,34],z 11 [1,32,31,22,23,24,35],z 13 [39,40,41],z 14 [6,42,43,44],z 15 [38,46,45,36,37,47],z 16 [2,47,48],z 17 [46,45,36,37,38]]
noncomputable def xc33:XC:=cdOf (chkF Try.prog hs33 Try.f33)
noncomputable def fe33:FnE:=⟨49,[(2,none)],xc33⟩
theorem ok33:FnOk Try.prog 33 fe33:=fnOk_of Try.func33 (by kernel_rfl:chkF Try.prog hs33 Try.f33=some fe33)
/- 34 crimp/stamps.orders -/
def hs34:Hints:=[z 0 [0,2],z 1 [1,3]]
noncomputable def xc34:XC:=cdOf (chkF Try.prog hs34 Try.f34)
noncomputable def fe34:FnE:=⟨4,[(2,none)],xc34⟩
theorem ok34:FnOk Try.prog 34 fe34:=fnOk_of Try.func34 (by kernel_rfl:chkF Try.prog hs34 Try.f34=some fe34)
/- 35 crimp/piles.Least -/
def hs35:Hints:=[z 0 [0,4,5],z 1 [2,15,16,17,14,18,19],z 2 [20],z 3 [1,6,7,21,22],z 4 [4,5,7,21,23,24],z 5 [25,26,27],z 7 [28,29,30,31],z 8 [32,33],z 10 [36,37],z 11 [38,39,40,41],z 12 [42],z 14 [45,46],(15,([0,1,2,3,4,5,6,7,8,9,10,11,12,13,14,15,16,17,18,19,20,21,22],[13,47,48,68])),z 16 [69],z 17 [12,43,44],z 18 [35,34,70,71,72],z 19 [11,73,74,75,76],z 20 [11,70,77],z 21 [1,6,8,9,10,78]]
noncomputable def xc35:XC:=cdOf (chkF Try.prog hs35 Try.f35)
noncomputable def fe35:FnE:=⟨79,[(4,none),(5,none)],xc35⟩
theorem ok35:FnOk Try.prog 35 fe35:=fnOk_of Try.func35 (by kernel_rfl:chkF Try.prog hs35 Try.f35=some fe35)
/- 36 slices.Repeat[[]int,int] -/
def hs36:Hints:=[z 0 [4],z 1 [9],z 2 [10,11],z 3 [1,10,13,14,15,16,17,18,12,19,20],z 4 [5,21,22,23,24,25],z 5 [26,27],z 6 [6,26,28,29,30],z 7 [0,31,32,33],z 8 [34,35,36],(9,([0,1,2,3,4,5,6,7,8,9],[37,38,39,40,41,42,43,44,45,46])),z 10 [7,8,47]]
noncomputable def xc36:XC:=cdOf (chkF Try.prog hs36 Try.f36)
noncomputable def fe36:FnE:=⟨48,[(4,none)],xc36⟩
theorem ok36:FnOk Try.prog 36 fe36:=fnOk_of Try.func36 (by kernel_rfl:chkF Try.prog hs36 Try.f36=some fe36)
/- 37 slices.Repeat[[]crimp/api.Kind,crimp/api.Kind] -/
def hs37:Hints:=[z 0 [4],z 1 [9],z 2 [10,11],z 3 [1,10,13,14,15,16,17,18,12,19,20],z 4 [5,21,22,23,24,25],z 5 [26,27],z 6 [6,26,28,29,30],z 7 [0,31,32,33],z 8 [34,35,36],(9,([0,1,2,3,4,5,6,7,8,9],[37,38,39,40,41,42,43,44,45,46])),z 10 [7,8,47]]
noncomputable def xc37:XC:=cdOf (chkF Try.prog hs37 Try.f37)
noncomputable def fe37:FnE:=⟨48,[(4,none)],xc37⟩
theorem ok37:FnOk Try.prog 37 fe37:=fnOk_of Try.func37 (by kernel_rfl:chkF Try.prog hs37 Try.f37=some fe37)
/- 38 slices.Grow[[]int,int] -/
def hs38:Hints:=[z 0 [4],z 1 [5],z 2 [6,7],z 3 [6,8,9,10,11,12,13,14],z 4 [15],z 5 [1,16,17,18,19,20,21,22,23,24,25],z 6 [0,1,16,26]]
noncomputable def xc38:XC:=cdOf (chkF Try.prog hs38 Try.f38)
noncomputable def fe38:FnE:=⟨27,[(4,none)],xc38⟩
theorem ok38:FnOk Try.prog 38 fe38:=fnOk_of Try.func38 (by kernel_rfl:chkF Try.prog hs38 Try.f38=some fe38)
/- 39 slices.Grow[[]crimp/api.Kind,crimp/api.Kind] -/
def hs39:Hints:=[z 0 [4],z 1 [5],z 2 [6,7],z 3 [6,8,9,10,11,12,13,14],z 4 [15],z 5 [1,16,17,18,19,20,21,22,23,24,25],z 6 [0,1,16,26]]
noncomputable def xc39:XC:=cdOf (chkF Try.prog hs39 Try.f39)
noncomputable def fe39:FnE:=⟨27,[(4,none)],xc39⟩
theorem ok39:FnOk Try.prog 39 fe39:=fnOk_of Try.func39 (by kernel_rfl:chkF Try.prog hs39 Try.f39=some fe39)
/- 40 (crimp/rings.folded).from -/
def hs40:Hints:=[z 0 [0,4],(1,([0,1,2,3,4,5,6,7,8,9,10,11,12],[1,2,5,6,7,8,9,10,11,12,13,14,15,16]))]
noncomputable def xc40:XC:=cdOf (chkF Try.prog hs40 Try.f40)
noncomputable def fe40:FnE:=⟨17,[(4,none)],xc40⟩
theorem ok40:FnOk Try.prog 40 fe40:=fnOk_of Try.func40 (by kernel_rfl:chkF Try.prog hs40 Try.f40=some fe40)
/- 41 (crimp/rings.folded).to -/
def hs41:Hints:=[z 0 [0,4],(1,([0,1,2,3,4,5,6,7,8,9,10,11,12],[1,2,5,6,7,8,9,10,11,12,13,14,15,16]))]
noncomputable def xc41:XC:=cdOf (chkF Try.prog hs41 Try.f41)
noncomputable def fe41:FnE:=⟨17,[(4,none)],xc41⟩
theorem ok41:FnOk Try.prog 41 fe41:=fnOk_of Try.func41 (by kernel_rfl:chkF Try.prog hs41 Try.f41=some fe41)
/- 42 (crimp/rings.folded).between -/
def hs42:Hints:=[z 0 [0,1,8],(1,([0,1,2,3,4,5,6,7,8,9],[2,4,11,12,13,14,15,16,17,18])),z 2 [3,5,9,10,19,20,21,22,23,24,25,26,27,28,29,30,31,32,33,34,35,36,37,38,39,40]]
noncomputable def xc42:XC:=cdOf (chkF Try.prog hs42 Try.f42)
noncomputable def fe42:FnE:=⟨41,[(8,none)],xc42⟩
theorem ok42:FnOk Try.prog 42 fe42:=fnOk_of Try.func42 (by kernel_rfl:chkF Try.prog hs42 Try.f42=some fe42)
/- 43 (crimp/rings.folded).beside -/
def hs43:Hints:=[z 0 [0,1,4],z 1 [2,3,5]]
noncomputable def xc43:XC:=cdOf (chkF Try.prog hs43 Try.f43)
noncomputable def fe43:FnE:=⟨6,[(4,none)],xc43⟩
theorem ok43:FnOk Try.prog 43 fe43:=fnOk_of Try.func43 (by kernel_rfl:chkF Try.prog hs43 Try.f43=some fe43)
/- 44 (crimp/rings.folded).kind -/
def hs44:Hints:=[z 0 [0,1,6],z 1 [2,3,9,10,11,12],z 2 [13,14],z 3 [15,16,17],(4,([0,1,2,3,4,5,6],[4,7,8,15,18,19,20,21,22,23])),z 5 [24],z 6 [24]]
noncomputable def xc44:XC:=cdOf (chkF Try.prog hs44 Try.f44)
noncomputable def fe44:FnE:=⟨25,[(6,none)],xc44⟩
theorem ok44:FnOk Try.prog 44 fe44:=fnOk_of Try.func44 (by kernel_rfl:chkF Try.prog hs44 Try.f44=some fe44)
/- 46 slices.rotateRight[int] -/
def hs46:Hints:=[z 0 [0,1,4,5,6,7,8,9]]
noncomputable def xc46:XC:=cdOf (chkF Try.prog hs46 Try.f46)
noncomputable def fe46:FnE:=⟨10,[],xc46⟩
theorem ok46:FnOk Try.prog 46 fe46:=fnOk_of Try.func46 (by kernel_rfl:chkF Try.prog hs46 Try.f46=some fe46)
/- 47 slices.pdqsortCmpFunc[[]int] -/
def hs47:Hints:=[z 2 [21,22,23],z 3 [24],z 4 [4,2,1,0,96,95,94,84,89,93,92,90,91,88,85,87,86,74,73,70,11,10,3,12,25,26,27,28,29,30],z 5 [25,31],z 6 [4,2,1,0,96,95,94,84,89,93,92,90,91,88,85,87,86,74,73,70,11,10,3,12,32,33,34,35,36,37],z 7 [32,38],z 8 [39,40,41,42,43,44],z 9 [45,46],z 10 [39,48,49,50,51,52,47,53,54],z 11 [55],z 12 [14,56,57,58,59,60,61],z 13 [62,63,64,65,66,67],z 15 [14,56,68,69,71,72],z 16 [75,76,77,78,79],(17,([0,1,2,3,4,5,6,7,8,9,10,11,12,13,14,15,16],[80,75,81,82,83])),z 18 [1,12,13,97,98,99,100,101,102,103],z 19 [15,104],z 20 [11,10,13,97,106,107,108,109,110,111,105,112,113],z 21 [17,114],z 22 [115,116,117,118,119,120],z 23 [12,121,122],z 24 [123,124],z 25 [18,19,20,125,126,127,128],z 26 [1,129,130,131,132,133,134],z 27 [16,135,136],z 28 [18,19,20,125,137,138,139],z 29 [2,140,141,142,143,144,145,146],z 30 [16,147]]
noncomputable def xc47:XC:=cdOf (chkF Try.prog hs47 Try.f47)
noncomputable def fe47:FnE:=⟨148,[],xc47⟩
theorem ok47:FnOk Try.prog 47 fe47:=fnOk_of Try.func47 (by kernel_rfl:chkF Try.prog hs47 Try.f47=some fe47)
/- 48 math/bits.Len -/
def hs48:Hints:=[z 0 [2],z 1 [0,3,4,5],z 2 [0,6,7]]
noncomputable def xc48:XC:=cdOf (chkF Try.prog hs48 Try.f48)
noncomputable def fe48:FnE:=⟨8,[(2,none)],xc48⟩
theorem ok48:FnOk Try.prog 48 fe48:=fnOk_of Try.func48 (by kernel_rfl:chkF Try.prog hs48 Try.f48=some fe48)
/- 49 cmp.Compare[int] -/
def hs49:Hints:=[z 0 [4],z 1 [7,8],z 2 [9,10],z 3 [5],z 4 [0,1,6,11],z 5 [12],z 6 [12],z 7 [4,6,11],z 8 [0,1,13],z 9 [4,13,14,15],z 10 [0,1,16],z 11 [4,0,1,16,17,18],z 12 [19],z 13 [19]]
noncomputable def xc49:XC:=cdOf (chkF Try.prog hs49 Try.f49)
noncomputable def fe49:FnE:=⟨20,[(4,none)],xc49⟩
theorem ok49:FnOk Try.prog 49 fe49:=fnOk_of Try.func49 (by kernel_rfl:chkF Try.prog hs49 Try.f49=some fe49)
/- 50 crimp/stamps.orders$1 -/
def hs50:Hints:=[z 0 [0],z 2 [1,2,4],z 3 [3,5,6]]
noncomputable def xc50:XC:=cdOf (chkF Try.prog hs50 Try.f50)
noncomputable def fe50:FnE:=⟨7,[],xc50⟩
theorem ok50:FnOk Try.prog 50 fe50:=fnOk_of Try.func50 (by kernel_rfl:chkF Try.prog hs50 Try.f50=some fe50)
/- 51 crimp/stamps.orders$1$1 -/
def hs51:Hints:=[z 0 [5],z 1 [10,11],z 2 [12,13,14,15],z 3 [0,1,2,3,6,16,17,18,19],(4,([0,1,2,3,4,5,6,7,8,9,10,11],[5,1,2,16,20,21,22,23,24,25,26,27,28,29])),z 5 [30],z 7 [33,34],z 8 [8,35,36,37,38,39,40],z 9 [9,41,42,43,44,45],z 10 [32,49,48,46,47,3,7,6,0,31,50],z 11 [5,50,51],z 12 [0,3,6,7,31,32]]
noncomputable def xc51:XC:=cdOf (chkF Try.prog hs51 Try.f51)
noncomputable def fe51:FnE:=⟨52,[(5,none)],xc51⟩
theorem ok51:FnOk Try.prog 51 fe51:=fnOk_of Try.func51 (by kernel_rfl:chkF Try.prog hs51 Try.f51=some fe51)
/- 52 crimp/piles.Check -/
def hs52:Hints:=[z 0 [0,4],z 1 [11,12,13,10,14,15],z 2 [16],z 3 [1,2,5,6,17,18],z 4 [4,1,6,17,19,20],z 5 [5,21,22],z 6 [2,7,23],z 7 [4,2,23,24],z 9 [28,29,30,31],z 10 [8,9,32,33,34],z 11 [27,39,35,38,36,37,7,25,26,40],z 12 [4,40,41],z 13 [7,25,26,27]]
noncomputable def xc52:XC:=cdOf (chkF Try.prog hs52 Try.f52)
noncomputable def fe52:FnE:=⟨42,[(4,none)],xc52⟩
theorem ok52:FnOk Try.prog 52 fe52:=fnOk_of Try.func52 (by kernel_rfl:chkF Try.prog hs52 Try.f52=some fe52)
/- 53 crimp/piles.listed -/
def hs53:Hints:=[z 0 [0,5],z 1 [10,11,9,12,13],z 2 [15,16],z 3 [1,2,6,7,14,17,18],z 4 [2,7,14,20,21,22,23,24,25],z 5 [1,6,19,26],z 6 [5,19,27],z 8 [30,31],z 9 [8,32,33,34],z 10 [6,29,1,28,35,36],z 11 [5,35,37],z 12 [1,6,28,29,38]]
noncomputable def xc53:XC:=cdOf (chkF Try.prog hs53 Try.f53)
noncomputable def fe53:FnE:=⟨39,[(4,some (some 3)),(5,none)],xc53⟩
theorem ok53:FnOk Try.prog 53 fe53:=fnOk_of Try.func53 (by kernel_rfl:chkF Try.prog hs53 Try.f53=some fe53)
/- 54 crimp/piles.ranks -/
def hs54:Hints:=[z 2 [0],z 4 [9,10,11,12],z 5 [4,5,13,14,15],z 6 [16],z 7 [3,6,7,8,17]]
noncomputable def xc54:XC:=cdOf (chkF Try.prog hs54 Try.f54)
noncomputable def fe54:FnE:=⟨18,[(2,some (some 32))],xc54⟩
theorem ok54:FnOk Try.prog 54 fe54:=fnOk_of Try.func54 (by kernel_rfl:chkF Try.prog hs54 Try.f54=some fe54)
/- 55 (crimp/piles.folded).overlap -/
def hs55:Hints:=[z 0 [0,6],(1,([0,1,2,3,4,5,6,7,8,9,10,11,12,13,14,15,16],[1,2,3,7,8,9,10,11,12,13,14,15,16,17,18,19,20,21,22]))]
noncomputable def xc55:XC:=cdOf (chkF Try.prog hs55 Try.f55)
noncomputable def fe55:FnE:=⟨23,[(6,none)],xc55⟩
theorem ok55:FnOk Try.prog 55 fe55:=fnOk_of Try.func55 (by kernel_rfl:chkF Try.prog hs55 Try.f55=some fe55)
/- 56 math/bits.Mul -/
def hs56:Hints:=[z 0 [4,5],z 1 [0,1,11,12,13,14,15,10,16,17],z 2 [6,7,18,19,20,21],z 3 [4,5,0,1,23,24,25,22,26,27],z 4 [8,9,28,29]]
noncomputable def xc56:XC:=cdOf (chkF Try.prog hs56 Try.f56)
noncomputable def fe56:FnE:=⟨30,[(4,none),(5,none)],xc56⟩
theorem ok56:FnOk Try.prog 56 fe56:=fnOk_of Try.func56 (by kernel_rfl:chkF Try.prog hs56 Try.f56=some fe56)
/- 57 (crimp/rings.folded).beside$1 -/
def hs57:Hints:=[z 0 [6,7,8,9,10,11],z 1 [12,13,14],z 3 [17,18],(4,([0,1,2,3,4,5,6,7,8,9,10,11,12,13,14,15,16,17,18,19,20,21,22,23,24,25,26,27,28,29,30,31,32,33,34,35],[5,19,20,21,22,31,32,48,49])),z 5 [54,55]]
noncomputable def xc57:XC:=cdOf (chkF Try.prog hs57 Try.f57)
noncomputable def fe57:FnE:=⟨56,[],xc57⟩
theorem ok57:FnOk Try.prog 57 fe57:=fnOk_of Try.func57 (by kernel_rfl:chkF Try.prog hs57 Try.f57=some fe57)
/- 58 slices.rotateLeft[int] -/
def hs58:Hints:=[z 0 [4,5,6,7],z 1 [1,8,9,10,11],z 2 [0,12,13]]
noncomputable def xc58:XC:=cdOf (chkF Try.prog hs58 Try.f58)
noncomputable def fe58:FnE:=⟨14,[],xc58⟩
theorem ok58:FnOk Try.prog 58 fe58:=fnOk_of Try.func58 (by kernel_rfl:chkF Try.prog hs58 Try.f58=some fe58)
/- 59 slices.insertionSortCmpFunc[[]int] -/
def hs59:Hints:=[z 0 [10,11],z 1 [12,13],z 3 [14,17],(4,([0,1,2,3,4,5,6,7,8,9,10,11,12,13,14,15,16],[18,19,20,21])),(6,([0,1,2,3,4,5,6,7,8,9,10,11,12,13,14,15,16,17],[34,37,38,39,40,41,42,43,44,45,46,47,48,49,50,51,52])),z 5 [35,36],z 2 [9,15,16]]
noncomputable def xc59:XC:=cdOf (chkF Try.prog hs59 Try.f59)
noncomputable def fe59:FnE:=⟨53,[],xc59⟩
theorem ok59:FnOk Try.prog 59 fe59:=fnOk_of Try.func59 (by kernel_rfl:chkF Try.prog hs59 Try.f59=some fe59)
/- 60 slices.heapSortCmpFunc[[]int] -/
def hs60:Hints:=[z 0 [13],z 2 [1,2,14,15,16],z 3 [17,18,19],z 4 [20],z 6 [21,24,25,26,27,28,29],z 5 [22,23],z 7 [10,11,30,31],z 8 [32],(10,([0,1,2,3,4,5,6,7,8,9,10,11,12,13,14,15,16,17,18,19],[33,36,37,38,39,40,41,42,43,44,45,46,47,48,49,50,51,52,53])),z 11 [54,55,56,57,58,59],z 9 [34,35]]
noncomputable def xc60:XC:=cdOf (chkF Try.prog hs60 Try.f60)
noncomputable def fe60:FnE:=⟨60,[],xc60⟩
theorem ok60:FnOk Try.prog 60 fe60:=fnOk_of Try.func60 (by kernel_rfl:chkF Try.prog hs60 Try.f60=some fe60)
/- 61 slices.breakPatternsCmpFunc[[]int] -/
def hs61:Hints:=[z 0 [2,3,13,14,15],z 1 [16],z 2 [17,18,19],z 3 [20,21],z 4 [22,23,24,25,26,27],z 5 [28,29,30,31,32,33,34],z 7 [35,38,39,40,41,42],z 8 [43,44],z 9 [45,46,47,48],(10,([0,1,2,3,4,5,6,7,8,9,10,11,12,13,14,15,16,17,18,19],[12,45,49,50,51,52,53,54,55,56,57,58,59,60,61,62,63,64,65,66])),z 6 [36,37]]
noncomputable def xc61:XC:=cdOf (chkF Try.prog hs61 Try.f61)
noncomputable def fe61:FnE:=⟨67,[],xc61⟩
theorem ok61:FnOk Try.prog 61 fe61:=fnOk_of Try.func61 (by kernel_rfl:chkF Try.prog hs61 Try.f61=some fe61)
/- 62 slices.choosePivotCmpFunc[[]int] -/
def hs62:Hints:=[z 0 [8,9],z 1 [2,15,16,17],z 3 [18,19,20,21,22],z 4 [23,24,25,26,27],z 5 [1,28,29,30,31,32],z 6 [33],z 7 [10,34,35],z 8 [36,37,38,39,40],z 9 [41,42,43,44],z 10 [45,46,47,48],z 11 [0,3,12,14,36,49,50,51,52,53,54],z 12 [11,0,3,10,12,14,34],z 14 [58],z 15 [13,55,57,59],z 16 [55,57,61],z 17 [13,60,62],z 13 [13,60,56]]
noncomputable def xc62:XC:=cdOf (chkF Try.prog hs62 Try.f62)
noncomputable def fe62:FnE:=⟨63,[(8,none),(9,none)],xc62⟩
theorem ok62:FnOk Try.prog 62 fe62:=fnOk_of Try.func62 (by kernel_rfl:chkF Try.prog hs62 Try.f62=some fe62)
/- 63 slices.reverseRangeCmpFunc[[]int] -/
def hs63:Hints:=[z 0 [1,3,10],z 1 [2,11,12],z 2 [13,14],(3,([0,1,2,3,4,5,6,7,8,9,10,11,12,13,14,15],[15,16,17,18,19,20,21,22,23,24,25,26,27,28,29])),z 4 [30,31],z 5 [32,33]]
noncomputable def xc63:XC:=cdOf (chkF Try.prog hs63 Try.f63)
noncomputable def fe63:FnE:=⟨34,[],xc63⟩
theorem ok63:FnOk Try.prog 63 fe63:=fnOk_of Try.func63 (by kernel_rfl:chkF Try.prog hs63 Try.f63=some fe63)
/- 64 slices.partialInsertionSortCmpFunc[[]int] -/
def hs64:Hints:=[z 0 [8],z 1 [13,14],z 3 [15],(5,([0,1,2,3,4,5,6,7,8,9,10,11,12,13,14,15,16,17],[19,20,21,22])),z 6 [36,37,38],z 7 [16,39,40],z 8 [9,10,0,3,2,1,35,34,33,23,27,32,31,28,30,29,26,24,25,41],z 9 [8,41,42,43,44],z 10 [9,10,0,3,2,1,35,34,33,23,27,32,31,28,30,29,26,24,25,45],(11,([0,1,2,3,4,5,6,7,8,9,10,11,12,13,14,15,16,17],[8,45,46,47,48,49,50,51,52,53,54,55,56,57,58,59,60,61])),z 12 [62,63,64],z 13 [65,66,67],z 14 [68],(16,([0,1,2,3,4,5,6,7,8,9,10,11,12],[69,72,73,74,75,76,77,78,79,80,81,82,83])),(17,([0,1,2,3,4,5,6,7,8,9,10,11,12,13,14,15,16,17],[84,85,86,87,88,89,90,91,92,93,94,95,96,97,98,99,100])),z 15 [70,71],z 18 [11,65,101,102,103],z 19 [104,105,106],z 20 [107,108],(22,([0,1,2,3,4,5,6,7,8,9,10,11,12],[109,112,113,114,115,116,117,118,119,120,121,122,123])),(23,([0,1,2,3,4,5,6,7,8,9,10,11,12,13,14,15,16,17],[124,125,126,127,128,129,130,131,132,133,134,135,136,137,138,139,140])),z 21 [110,111],z 4 [12,104,17,18],z 24 [0,1,2,3,9,10]]
noncomputable def xc64:XC:=cdOf (chkF Try.prog hs64 Try.f64)
noncomputable def fe64:FnE:=⟨141,[(8,none)],xc64⟩
theorem ok64:FnOk Try.prog 64 fe64:=fnOk_of Try.func64 (by kernel_rfl:chkF Try.prog hs64 Try.f64=some fe64)
/- 65 slices.partitionEqualCmpFunc[[]int] -/
def hs65:Hints:=[z 0 [10],(1,([0,1,2,3,4,5,6,7,8,9,10,11,12,13,14,15],[3,13,14,15,16,17,18,19,20,21,22,23,24,25,26])),z 2 [2,27,28,29,30],(3,([0,1,2,3,4,5,6,7,8,9,10,11,12,13,14,15,16],[31,32,33,34])),z 4 [47,48,49],(5,([0,1,2,3,4,5,6,7,8,9,10,11,12,13,14,15],[50,51,52,53])),z 6 [65,66,67],z 7 [68,69],(8,([0,1,2,3,4,5,6,7,8,9,10,11,12,13,14,15],[70,71,72,73,74,75,76,77,78,79,80,81,82,83,84])),z 9 [85,86],z 10 [87,88],z 11 [0,1,4,11,12,89]]
noncomputable def xc65:XC:=cdOf (chkF Try.prog hs65 Try.f65)
noncomputable def fe65:FnE:=⟨90,[(10,none)],xc65⟩
theorem ok65:FnOk Try.prog 65 fe65:=fnOk_of Try.func65 (by kernel_rfl:chkF Try.prog hs65 Try.f65=some fe65)
/- 66 slices.partitionCmpFunc[[]int] -/
def hs66:Hints:=[z 0 [10,11],(1,([0,1,2,3,4,5,6,7,8,9,10,11,12,13,14,15],[3,14,15,16,17,18,19,20,21,22,23,24,25,26,27])),z 2 [2,28,29,30,31],(3,([0,1,2,3,4,5,6,7,8,9,10,11,12,13,14,15],[32,33,34,35])),z 4 [47,48,49],(5,([0,1,2,3,4,5,6,7,8,9,10,11,12,13,14,15,16],[50,51,52,53])),z 6 [66,67,68],z 7 [65,64,63,54,58,62,61,59,60,57,55,56,69,70],(8,([0,1,2,3,4,5,6,7,8,9,10,11,12,13,14,15],[0,1,4,12,138,137,136,127,131,135,134,132,133,130,128,129,119,118,109,113,117,116,114,115,112,110,111,71,72,73,74,75,76,77,78,79,80,81,82,83,84,85])),z 9 [13,86],(10,([0,1,2,3,4,5,6,7,8,9,10,11,12,13,14,15],[10,11,71,87,88,89,90,91,92,93,94,95,96,97,98,99,100])),z 11 [101,102],z 12 [103,104],(13,([0,1,2,3,4,5,6,7,8,9,10,11,12,13,14,15],[105,106,107,108])),z 14 [120,121,122],(15,([0,1,2,3,4,5,6,7,8,9,10,11,12,13,14,15,16],[123,124,125,126])),z 16 [139,140,141],z 17 [142,143],(18,([0,1,2,3,4,5,6,7,8,9,10,11,12,13,14,15],[144,145,146,147,148,149,150,151,152,153,154,155,156,157,158])),z 19 [159,160],z 20 [161,162],(21,([0,1,2,3,4,5,6,7,8,9,10,11,12,13,14,15],[0,1,4,12,138,137,136,127,131,135,134,132,133,130,128,129,119,118,109,113,117,116,114,115,112,110,111,163,164,165,166,167,168,169,170,171,172,173,174,175,176])),z 22 [13,177]]
noncomputable def xc66:XC:=cdOf (chkF Try.prog hs66 Try.f66)
noncomputable def fe66:FnE:=⟨178,[(10,none),(11,none)],xc66⟩
theorem ok66:FnOk Try.prog 66 fe66:=fnOk_of Try.func66 (by kernel_rfl:chkF Try.prog hs66 Try.f66=some fe66)
/- 67 math/bits.Len32 -/
def hs67:Hints:=[z 1 [3],z 2 [2,4,5,6],z 4 [4,7],z 5 [8,9,10],z 6 [11,12],z 7 [0,8,13,14,15,16,17,18]]
noncomputable def xc67:XC:=cdOf (chkF Try.prog hs67 Try.f67)
noncomputable def fe67:FnE:=⟨19,[(2,none)],xc67⟩
theorem ok67:FnOk Try.prog 67 fe67:=fnOk_of Try.func67 (by kernel_rfl:chkF Try.prog hs67 Try.f67=some fe67)
/- 68 math/bits.Len64 -/
def hs68:Hints:=[z 1 [3],z 2 [2,4,5,6],z 4 [4,7],z 5 [8,9,10],z 6 [11,12],z 7 [8,13],z 8 [14,15,16],z 9 [17,18],z 10 [0,14,19,20,21,22,23,24]]
noncomputable def xc68:XC:=cdOf (chkF Try.prog hs68 Try.f68)
noncomputable def fe68:FnE:=⟨25,[(2,none)],xc68⟩
theorem ok68:FnOk Try.prog 68 fe68:=fnOk_of Try.func68 (by kernel_rfl:chkF Try.prog hs68 Try.f68=some fe68)
/- 69 cmp.isNaN[int] -/
def hs69:Hints:=[z 0 [2],z 1 [0,3,4,5]]
noncomputable def xc69:XC:=cdOf (chkF Try.prog hs69 Try.f69)
noncomputable def fe69:FnE:=⟨6,[(2,none)],xc69⟩
theorem ok69:FnOk Try.prog 69 fe69:=fnOk_of Try.func69 (by kernel_rfl:chkF Try.prog hs69 Try.f69=some fe69)
/- 70 (crimp/piles.folded).crosses -/
def hs70:Hints:=[z 0 [0,1,4],z 2 [10,11,12],z 4 [15,16],z 5 [17,18,19,20,21,22],z 6 [23,24,25],z 8 [28,29],(9,([0,1,2,3,4,5,6,7,8,9,10,11,12,13,14,15,16,17,18,19],[8,30,31,32,33,34,35,41,42])),z 10 [27,48,43,44,47,46,3,45,6,40,36,39,37,38,2,7,79,71,78,72,73,77,76,75,74,66,67,70,69,68,13,14,26,49],z 11 [49,50],(12,([0,1,2,3,4,5,6,7,8,9],[7,26,27,51,52,53,54,55,56,57,58,59])),z 13 [60,61],(14,([0,1,2,3,4,5,6,7,8,9,10,11,12,13,14,15,16,17,18],[6,9,62,63,64,65])),z 15 [48,43,44,47,46,3,45,40,36,39,37,38,2,14,79,71,78,72,73,77,76,75,74,66,67,70,69,68,13,80],z 16 [6,60,81],z 17 [2,3,5,13,14,82]]
noncomputable def xc70:XC:=cdOf (chkF Try.prog hs70 Try.f70)
noncomputable def fe70:FnE:=⟨83,[(4,none)],xc70⟩
theorem ok70:FnOk Try.prog 70 fe70:=fnOk_of Try.func70 (by kernel_rfl:chkF Try.prog hs70 Try.f70=some fe70)
/- 71 crimp/piles.kind -/
def hs71:Hints:=[z 0 [0,4],z 1 [6,7,8,9,10],(2,([0,1,2,3,4,5,6,7,8,9,10],[1,2,5,11,12,13,14,15,16,17,18,19,20])),z 3 [21],z 4 [21]]
noncomputable def xc71:XC:=cdOf (chkF Try.prog hs71 Try.f71)
noncomputable def fe71:FnE:=⟨22,[(4,none)],xc71⟩
theorem ok71:FnOk Try.prog 71 fe71:=fnOk_of Try.func71 (by kernel_rfl:chkF Try.prog hs71 Try.f71=some fe71)
/- 72 crimp/piles.of -/
def hs72:Hints:=[z 0 [0,3],z 1 [7,8,6,9,10],z 2 [1,4,5,11,12,13,14]]
noncomputable def xc72:XC:=cdOf (chkF Try.prog hs72 Try.f72)
noncomputable def fe72:FnE:=⟨15,[(2,some (some 3)),(3,none)],xc72⟩
theorem ok72:FnOk Try.prog 72 fe72:=fnOk_of Try.func72 (by kernel_rfl:chkF Try.prog hs72 Try.f72=some fe72)
/- 73 slices.Contains[[]int,int] -/
def hs73:Hints:=[z 0 [4],z 1 [0,1,5,6,7,8]]
noncomputable def xc73:XC:=cdOf (chkF Try.prog hs73 Try.f73)
noncomputable def fe73:FnE:=⟨9,[(4,none)],xc73⟩
theorem ok73:FnOk Try.prog 73 fe73:=fnOk_of Try.func73 (by kernel_rfl:chkF Try.prog hs73 Try.f73=some fe73)
/- 74 (crimp/piles.folded).from -/
def hs74:Hints:=[z 0 [0,4],(1,([0,1,2,3,4,5,6,7,8,9,10,11,12],[1,2,5,6,7,8,9,10,11,12,13,14,15,16]))]
noncomputable def xc74:XC:=cdOf (chkF Try.prog hs74 Try.f74)
noncomputable def fe74:FnE:=⟨17,[(4,none)],xc74⟩
theorem ok74:FnOk Try.prog 74 fe74:=fnOk_of Try.func74 (by kernel_rfl:chkF Try.prog hs74 Try.f74=some fe74)
/- 75 (crimp/piles.folded).to -/
def hs75:Hints:=[z 0 [0,4],(1,([0,1,2,3,4,5,6,7,8,9,10,11,12],[1,2,5,6,7,8,9,10,11,12,13,14,15,16]))]
noncomputable def xc75:XC:=cdOf (chkF Try.prog hs75 Try.f75)
noncomputable def fe75:FnE:=⟨17,[(4,none)],xc75⟩
theorem ok75:FnOk Try.prog 75 fe75:=fnOk_of Try.func75 (by kernel_rfl:chkF Try.prog hs75 Try.f75=some fe75)
/- 76 math/bits.Mul32 -/
def hs76:Hints:=[z 0 [4,5],z 1 [0,1,7,8,9,10,11],z 2 [6,12,13,14,15,16]]
noncomputable def xc76:XC:=cdOf (chkF Try.prog hs76 Try.f76)
noncomputable def fe76:FnE:=⟨17,[(4,none),(5,none)],xc76⟩
theorem ok76:FnOk Try.prog 76 fe76:=fnOk_of Try.func76 (by kernel_rfl:chkF Try.prog hs76 Try.f76=some fe76)
/- 77 math/bits.Mul64 -/
def hs77:Hints:=[z 0 [4,5],z 1 [14,15],z 2 [16,17],z 3 [18,19],z 4 [20,21],z 5 [22,23,24],z 6 [8,10,25,26,27,28,29,30],z 7 [31,32],z 8 [11,33,34],z 9 [6,35,36,37,38,39],z 10 [7,9,12,13,40,41,42,43,44,45,46,47],z 11 [0,1,48,49,50]]
noncomputable def xc77:XC:=cdOf (chkF Try.prog hs77 Try.f77)
noncomputable def fe77:FnE:=⟨51,[(4,none),(5,none)],xc77⟩
theorem ok77:FnOk Try.prog 77 fe77:=fnOk_of Try.func77 (by kernel_rfl:chkF Try.prog hs77 Try.f77=some fe77)
/- 78 slices.Reverse[[]int,int] -/
def hs78:Hints:=[z 0 [4,5,6],z 1 [7,8],(3,([0,1,2,3,4,5,6,7,8,9,10,11,12,13,14,15],[9,14,15,16,17,18,19,20,21,22,23,24,25,26,27])),z 2 [10,11,12,13]]
noncomputable def xc78:XC:=cdOf (chkF Try.prog hs78 Try.f78)
noncomputable def fe78:FnE:=⟨28,[],xc78⟩
theorem ok78:FnOk Try.prog 78 fe78:=fnOk_of Try.func78 (by kernel_rfl:chkF Try.prog hs78 Try.f78=some fe78)
/- 79 slices.siftDownCmpFunc[[]int] -/
def hs79:Hints:=[z 0 [1,12],z 1 [13,14,15],z 2 [16,17],(3,([0,1,2,3,4,5,6,7,8,9,10,11,12,13,14,15,16,17,18,19,20,21],[18,19,20,21,22,23])),z 4 [40,41,42],(5,([0,1,2,3,4,5,6,7,8,9,10,11,12,13,14,15],[40,43,44,45,46,47,48,49,50,51,52,53,54,55,56,57])),(6,([0,1,2,3,4,5,6,7,8,9,10,11,12,13,14,15,16,17,18,19,20,21,22,23],[10,58,59,60,61,62,63,64,65,66,67,68,69,70,71,72,73,74,75,76,77,78,79,80])),z 7 [11,81]]
noncomputable def xc79:XC:=cdOf (chkF Try.prog hs79 Try.f79)
noncomputable def fe79:FnE:=⟨82,[],xc79⟩
theorem ok79:FnOk Try.prog 79 fe79:=fnOk_of Try.func79 (by kernel_rfl:chkF Try.prog hs79 Try.f79=some fe79)
/- 80 slices.nextPowerOfTwo -/
def hs80:Hints:=[z 0 [2],z 1 [0,3,4,5,6]]
noncomputable def xc80:XC:=cdOf (chkF Try.prog hs80 Try.f80)
noncomputable def fe80:FnE:=⟨7,[(2,none)],xc80⟩
theorem ok80:FnOk Try.prog 80 fe80:=fnOk_of Try.func80 (by kernel_rfl:chkF Try.prog hs80 Try.f80=some fe80)
/- 81 (*slices.xorshift).Next -/
def hs81:Hints:=[z 0 [2],(1,([0,1,2,3,4,5,6,7,8,9],[3,4,5,6,7,8,9,10,11])),(2,([0,1,2,3,4,5,6,7,8,9],[12,13,14,15,16,17,18,19,20])),(3,([0,1,2,3,4,5,6,7,8,9],[21,22,23,24,25,26,27,28,29])),z 4 [0,30,31,32]]
noncomputable def xc81:XC:=cdOf (chkF Try.prog hs81 Try.f81)
noncomputable def fe81:FnE:=⟨33,[(2,none)],xc81⟩
theorem ok81:FnOk Try.prog 81 fe81:=fnOk_of Try.func81 (by kernel_rfl:chkF Try.prog hs81 Try.f81=some fe81)
/- 82 slices.medianAdjacentCmpFunc[[]int] -/
def hs82:Hints:=[z 0 [8],z 1 [0,1,2,3,9,10,11,12,13,14,15,16,17]]
noncomputable def xc82:XC:=cdOf (chkF Try.prog hs82 Try.f82)
noncomputable def fe82:FnE:=⟨18,[(8,none)],xc82⟩
theorem ok82:FnOk Try.prog 82 fe82:=fnOk_of Try.func82 (by kernel_rfl:chkF Try.prog hs82 Try.f82=some fe82)
/- 83 slices.medianCmpFunc[[]int] -/
def hs83:Hints:=[z 0 [12],z 1 [14,15,16,17,18,19,13,20,21],z 2 [3,23,24,25,26,27,28,22,29,30],z 3 [0,1,4,5,32,33,34,35,36,37,31,38,39],z 4 [2,40]]
noncomputable def xc83:XC:=cdOf (chkF Try.prog hs83 Try.f83)
noncomputable def fe83:FnE:=⟨41,[(12,none)],xc83⟩
theorem ok83:FnOk Try.prog 83 fe83:=fnOk_of Try.func83 (by kernel_rfl:chkF Try.prog hs83 Try.f83=some fe83)
/- 84 crimp/piles.between -/
def hs84:Hints:=[z 0 [0,6],(1,([0,1,2,3,4,5,6,7,8,9,10,11,12,13,14,15,16,17,18,19,20,21,22],[1,2,3,7,8,9,10,11,12,13,14,15,16,17,18,19,20,21,22,23,24,25,26,27,28]))]
noncomputable def xc84:XC:=cdOf (chkF Try.prog hs84 Try.f84)
noncomputable def fe84:FnE:=⟨29,[(6,none)],xc84⟩
theorem ok84:FnOk Try.prog 84 fe84:=fnOk_of Try.func84 (by kernel_rfl:chkF Try.prog hs84 Try.f84=some fe84)
/- 85 (crimp/piles.folded).loops -/
def hs85:Hints:=[z 0 [0,1,2,6],z 1 [3,4,5,7]]
noncomputable def xc85:XC:=cdOf (chkF Try.prog hs85 Try.f85)
noncomputable def fe85:FnE:=⟨8,[(6,none)],xc85⟩
theorem ok85:FnOk Try.prog 85 fe85:=fnOk_of Try.func85 (by kernel_rfl:chkF Try.prog hs85 Try.f85=some fe85)
/- 86 crimp/strips.Ends -/
def hs86:Hints:=[z 0 [0,2,3],z 1 [7,8],z 2 [9],z 3 [1,4,10,11],z 4 [2,3,4,10,12,13,14,15,16],z 5 [1,17],z 6 [18,19],z 7 [6,20,21,22,23],z 8 [5,18,24]]
noncomputable def xc86:XC:=cdOf (chkF Try.prog hs86 Try.f86)
noncomputable def fe86:FnE:=⟨25,[(2,none),(3,none)],xc86⟩
theorem ok86:FnOk Try.prog 86 fe86:=fnOk_of Try.func86 (by kernel_rfl:chkF Try.prog hs86 Try.f86=some fe86)
/- 87 slices.Index[[]int,int] -/
def hs87:Hints:=[z 0 [4],z 1 [6],z 3 [9,10],z 4 [11,12,13,14,15],z 5 [8,0,1,7,5,16,17],z 6 [4,5,16,18],z 7 [0,1,7,8]]
noncomputable def xc87:XC:=cdOf (chkF Try.prog hs87 Try.f87)
noncomputable def fe87:FnE:=⟨19,[(4,none)],xc87⟩
theorem ok87:FnOk Try.prog 87 fe87:=fnOk_of Try.func87 (by kernel_rfl:chkF Try.prog hs87 Try.f87=some fe87)
/- 88 slices.order2CmpFunc[[]int] -/
def hs88:Hints:=[z 0 [10,11],(1,([0,1,2,3,4,5,6,7,8,9,10],[0,4,12,13,14,15,16,17,18,19,20,21])),z 2 [3,22,23,24,25,26,27],z 3 [1,2,28,29],z 4 [1,2,3,22,30,31]]
noncomputable def xc88:XC:=cdOf (chkF Try.prog hs88 Try.f88)
noncomputable def fe88:FnE:=⟨32,[(10,none),(11,none)],xc88⟩
theorem ok88:FnOk Try.prog 88 fe88:=fnOk_of Try.func88 (by kernel_rfl:chkF Try.prog hs88 Try.f88=some fe88)
/- 89 (crimp/piles.folded).loops$1 -/
def hs89:Hints:=[z 0 [6,7,8],z 2 [11,12],(3,([0,1,2,3,4,5,6,7,8,9,10,11,12,13,14,15,16,17,18,19,20,21,22,23,24],[5,13,14,15,16,17,18,19,20,21,31,32])),z 4 [37,38]]
noncomputable def xc89:XC:=cdOf (chkF Try.prog hs89 Try.f89)
noncomputable def fe89:FnE:=⟨39,[],xc89⟩
theorem ok89:FnOk Try.prog 89 fe89:=fnOk_of Try.func89 (by kernel_rfl:chkF Try.prog hs89 Try.f89=some fe89)
/- 90 (crimp/strips.Strip).ends -/
def hs90:Hints:=[z 0 [0,2],z 1 [1,3]]
noncomputable def xc90:XC:=cdOf (chkF Try.prog hs90 Try.f90)
noncomputable def fe90:FnE:=⟨4,[(2,none)],xc90⟩
theorem ok90:FnOk Try.prog 90 fe90:=fnOk_of Try.func90 (by kernel_rfl:chkF Try.prog hs90 Try.f90=some fe90)
/- 91 (crimp/strips.Strip).ends$1 -/
def hs91:Hints:=[z 1 [6,7,8],z 2 [1,9,10],z 4 [14,15,16,17],z 5 [4,5,18,19,20,21,22,23,24,25],z 6 [26,27,28],z 7 [29,30]]
noncomputable def xc91:XC:=cdOf (chkF Try.prog hs91 Try.f91)
noncomputable def fe91:FnE:=⟨31,[],xc91⟩
theorem ok91:FnOk Try.prog 91 fe91:=fnOk_of Try.func91 (by kernel_rfl:chkF Try.prog hs91 Try.f91=some fe91)
noncomputable def xpl:List (Nat×FnE):=[(3,fe3),(4,fe4),(5,fe5),(6,fe6),(7,fe7),(8,fe8),(9,fe9),(10,fe10),(11,fe11),(12,fe12),(13,fe13),(14,fe14),(15,fe15),(16,fe16),(17,fe17),(18,fe18),(19,fe19),(20,fe20),(21,fe21),(22,fe22),(23,fe23),(24,fe24),(25,fe25),(26,fe26),(27,fe27),(28,fe28),(29,fe29),(30,fe30),(31,fe31),(32,fe32),(33,fe33),(34,fe34),(35,fe35),(36,fe36),(37,fe37),(38,fe38),(39,fe39),(40,fe40),(41,fe41),(42,fe42),(43,fe43),(44,fe44),(46,fe46),(47,fe47),(48,fe48),(49,fe49),(50,fe50),(51,fe51),(52,fe52),(53,fe53),(54,fe54),(55,fe55),(56,fe56),(57,fe57),(58,fe58),(59,fe59),(60,fe60),(61,fe61),(62,fe62),(63,fe63),(64,fe64),(65,fe65),(66,fe66),(67,fe67),(68,fe68),(69,fe69),(70,fe70),(71,fe71),(72,fe72),(73,fe73),(74,fe74),(75,fe75),(76,fe76),(77,fe77),(78,fe78),(79,fe79),(80,fe80),(81,fe81),(82,fe82),(83,fe83),(84,fe84),(85,fe85),(86,fe86),(87,fe87),(88,fe88),(89,fe89),(90,fe90),(91,fe91)]
theorem xpOk:XpOk Try.prog (aget xpl):=xpOk_of (l:=xpl) ⟨ok3,ok4,ok5,ok6,ok7,ok8,ok9,ok10,ok11,ok12,ok13,ok14,ok15,ok16,ok17,ok18,ok19,ok20,ok21,ok22,ok23,ok24,ok25,ok26,ok27,ok28,ok29,ok30,ok31,ok32,ok33,ok34,ok35,ok36,ok37,ok38,ok39,ok40,ok41,ok42,ok43,ok44,ok46,ok47,ok48,ok49,ok50,ok51,ok52,ok53,ok54,ok55,ok56,ok57,ok58,ok59,ok60,ok61,ok62,ok63,ok64,ok65,ok66,ok67,ok68,ok69,ok70,ok71,ok72,ok73,ok74,ok75,ok76,ok77,ok78,ok79,ok80,ok81,ok82,ok83,ok84,ok85,ok86,ok87,ok88,ok89,ok90,ok91,trivial⟩
end Go.Proofs.Ythiammkiobbclaa.X
