/-
 The functions of the translation, with types resolved (made by a program).
-/
import Derived.Test.YtfafinkgmhkdmaaGreatDoorProg
import Derived.Test.YtfafinkgmhkdmaaGreatDoorAb6
import Derived.KernelRfl
set_option linter.unusedVariables false
set_option maxRecDepth 1000000
namespace Go.Proofs.YtfafinkgmhkdmaaGreatDoor.X
open Go Go.Ab

abbrev z (n:Nat)(l:List Nat):Nat×(List Nat×List Nat):=(n,([],l))
noncomputable def cdOf:Option FnE→XC
 |some f=>f.xc
 |none=>.skip

/- 3 crimp/crimplaw12.FansPattern -/
def hs3:Hints:=[z 0 [0,4],z 1 [2,28,29],z 2 [1,30,31,32],z 3 [34,35,36,33,37,38],z 4 [8,39,40,41,42,43,44,45,46,47,48,49,50,51,52,53,54,55,56,57,58,59,60,61,62,63,64,65],z 5 [5,6,7,66],z 6 [4,66],z 7 [6,67],z 10 [68,69,70,71],z 12 [72,75,76,77,78,79,80,81,82],z 13 [83,84,85],z 14 [12,86,87,88],z 15 [89],z 16 [86,90,91,92,93,94,95,96],z 11 [73,74],z 17 [10,13,98,99,100,97,101,102],z 18 [111,107,110,109,108,106,15,103,104,105],z 19 [5,7,9,11,12,159,153,158,157,156,154,155,152,151,150,149,147,148,144,143,142,141,139,140,226,203,225,215,224,219,223,222,221,220,218,217,216,214,208,213,212,211,210,209,207,206,205,204,202,201,200,199,240,237,236,261,258,256,257,253,251,252,175,173,174,172,171,14,112],z 20 [4,112],z 22 [113],z 24 [114,117,118,119],z 25 [120,121,122,123,124,125],z 23 [120,115,116],z 26 [17],z 27 [126,127,128],(29,([0,1,2,3,4,5,6,7,8,9,10,11,12,13,14,15,16,17,18,19,20,21,22,23,24,25,26,27,28],[129,132,133,134,135,136,137,138,145,146])),z 30 [18,159,153,158,157,156,154,155,14,152,9,151,150,149,147,148,144,143,142,141,139,140,226,203,225,215,224,219,223,222,221,220,218,217,216,214,208,213,212,211,210,209,207,206,205,204,202,201,200,199,7,240,237,236,5,261,258,256,257,11,253,251,252,12,175,173,174,16,172,171,160],z 28 [4,160,130,131],z 31 [9,159,153,158,157,156,154,155,152,151,150,149,147,148,144,143,142,141,139,140,14,18,162,163,164,161,165,166,167],z 32 [175,173,174,172,171,16,21,168,169,170],z 33 [5,7,11,12,226,203,225,215,224,219,223,222,221,220,218,217,216,214,208,213,212,211,210,209,207,206,205,204,202,201,200,199,240,237,236,261,258,256,257,253,251,252,19,20,176],z 34 [4,176],z 35 [177],z 37 [178,182,183,184,185,186,187,188,189,190,191,192,181,193,194,195,24],(38,([0,1,2,3,4,5,6,7,8,9,10,11,12,13,14,15,16,17,18,19,20,21,22,23,24,25,26,27,28,29,30,31],[23,25,196,197,198])),z 39 [22,226,203,225,215,224,219,223,222,221,220,218,217,216,214,208,213,212,211,210,209,207,206,205,204,202,201,200,199,7,240,237,236,20,5,19,261,258,256,257,11,253,251,252,12,227],z 36 [4,227,179,180],z 40 [7,226,203,225,215,224,219,223,222,221,220,218,217,216,214,208,213,212,211,210,209,207,206,205,204,202,201,200,199,22,228,229,230],z 41 [5,11,12,240,237,236,261,258,256,257,253,251,252,19,20,231,232,233,234,235,238,239,241],z 42 [4,5,12,240,237,236,231,243,244,245,242,246,247],z 43 [11,261,258,256,257,253,251,252,19,20,26,27,248,249,250,254,255,259,260,262]]
noncomputable def xc3:XC:=cdOf (chkF Tryz.prog hs3 Tryz.f3)
noncomputable def fe3:FnE:=⟨263,[(4,none)],xc3⟩
theorem ok3:FnOk Tryz.prog 3 fe3:=fnOk_of Tryz.func3 (by kernel_rfl:chkF Tryz.prog hs3 Tryz.f3=some fe3)
/- 5 (crimp/crimplaw12.F).Flat -/
def hs5:Hints:=[z 0 [0],z 1 [3],z 2 [1,4,5]]
noncomputable def xc5:XC:=cdOf (chkF Tryz.prog hs5 Tryz.f5)
noncomputable def fe5:FnE:=⟨6,[(2,some (some 2))],xc5⟩
theorem ok5:FnOk Tryz.prog 5 fe5:=fnOk_of Tryz.func5 (by kernel_rfl:chkF Tryz.prog hs5 Tryz.f5=some fe5)
/- 6 crimp/fans.Pattern -/
def hs6:Hints:=[z 0 [0,5],z 1 [12,13],z 2 [15,16],z 3 [1,2,6,14,17,18],z 4 [6,14,20,21,22],z 5 [1,2,19,23],z 6 [19,25,26,27,28,29,30],z 7 [1,2,24,31],z 8 [5,24,32,33],z 9 [34],z 11 [38,39,40,41],z 12 [42,43,44],z 14 [48,49,50],z 15 [51,52,53,54,55,56],z 16 [11,57,58,59,60,61,62],z 17 [63],z 18 [8,9,45,46,47,64,65,66],z 19 [67],z 20 [1,2,35,36,37,68,69,70],z 21 [71,72,73,74],z 22 [7,75]]
noncomputable def xc6:XC:=cdOf (chkF Tryz.prog hs6 Tryz.f6)
noncomputable def fe6:FnE:=⟨76,[(4,some (some 3)),(5,none)],xc6⟩
theorem ok6:FnOk Tryz.prog 6 fe6:=fnOk_of Tryz.func6 (by kernel_rfl:chkF Tryz.prog hs6 Tryz.f6=some fe6)
/- 7 crimp/patterns.Check -/
def hs7:Hints:=[z 0 [0,2],z 1 [9,10,11],z 2 [12],z 3 [1,3,13,14],z 4 [2,3,13,15,16],z 5 [1,17],z 6 [2,17,18],z 8 [22,23,24],z 9 [26,27,28,29,30,31,32,25,33,34],(10,([0,1,2,3,4,5,6,7],[5,6,7,35,36,37])),z 11 [21,41,38,40,39,1,19,20,42],z 12 [2,42,43],z 13 [19,20,21],z 14 [44,45,46,47],(16,([0,1,2,3,4,5,6,7,8,9,10,11,12,13,14],[48,51,52,53,54,55,56,57,58,59,60,61,62,63,64])),z 17 [8,1,65],z 15 [2,65,49,50],z 18 [1,8]]
noncomputable def xc7:XC:=cdOf (chkF Tryz.prog hs7 Tryz.f7)
noncomputable def fe7:FnE:=⟨66,[(2,none)],xc7⟩
theorem ok7:FnOk Tryz.prog 7 fe7:=fnOk_of Tryz.func7 (by kernel_rfl:chkF Tryz.prog hs7 Tryz.f7=some fe7)
/- 8 crimp/corners.Creases -/
def hs8:Hints:=[z 0 [0,1,4,5],z 1 [13,14],z 2 [15],z 3 [2,3,6,16,17],z 4 [4,5,6,16,18,19,20,21],z 5 [22],z 6 [2,3,7,23,24],z 7 [4,5,7,23],z 8 [3,25,26,27],z 9 [28,29,30],z 10 [2,32,33,34,35,36,37,38,39,31,40,41,12],z 11 [42],z 12 [10,11,43,44,45,46,47,48,49,50],z 13 [2,28,51,52],z 14 [8,53,54]]
noncomputable def xc8:XC:=cdOf (chkF Tryz.prog hs8 Tryz.f8)
noncomputable def fe8:FnE:=⟨55,[(4,none),(5,none)],xc8⟩
theorem ok8:FnOk Tryz.prog 8 fe8:=fnOk_of Tryz.func8 (by kernel_rfl:chkF Tryz.prog hs8 Tryz.f8=some fe8)
/- 9 crimp/fans.Of -/
def hs9:Hints:=[z 0 [0,1,5,6],z 1 [2,3,12,13,14,11,15,16],z 2 [17,18,19,20,21,22],z 3 [7,23,24,25],z 4 [6,5,23],z 6 [29,30,31,32],z 7 [33,34,35,36,37,38,39,40,41],z 8 [8,42,43,44,45],z 9 [46,47,48],(10,([0,1,2,3,4,5,6,7,8,9,10,11,12,13,14,15,16,17],[9,10,46,49,50,51,52,53,54,55,56,57,58,59,60,61,62,63,64])),z 11 [65],(12,([0,1,2,3,4,5,6,7,8,9,10,11,12,13],[7,26,27,28,66,67,68,69,70,71,72,73,74,75,76]))]
noncomputable def xc9:XC:=cdOf (chkF Tryz.prog hs9 Tryz.f9)
noncomputable def fe9:FnE:=⟨77,[(4,some (some 2)),(5,none),(6,none)],xc9⟩
theorem ok9:FnOk Tryz.prog 9 fe9:=fnOk_of Tryz.func9 (by kernel_rfl:chkF Tryz.prog hs9 Tryz.f9=some fe9)
/- 10 crimp/crimplaw12.same -/
def hs10:Hints:=[z 0 [0,1,4],z 1 [7,8,9,10,11,12,13,14,15,16,17,18,19,20,21,22,23,24,25,26,27,28,29,30,31,32,33,34,35,36,37,38,39],z 2 [2,3,40],z 3 [4,40],z 4 [41,42,43,44],(6,([0,1,2,3,4,5,6,7,8,9,10],[45,48,49,50,51,52,53,54,55,56,57])),z 7 [5,3,2,58],z 5 [4,58,46,47],z 8 [5],z 9 [59,60,61,62],(11,([0,1,2,3,4,5,6,7,8,9,10],[63,66,67,68,69,70,71,72,73,74,75])),z 12 [6,3,2,76],z 10 [4,76,64,65],z 13 [2,3,6]]
noncomputable def xc10:XC:=cdOf (chkF Tryz.prog hs10 Tryz.f10)
noncomputable def fe10:FnE:=⟨77,[(4,none)],xc10⟩
theorem ok10:FnOk Tryz.prog 10 fe10:=fnOk_of Tryz.func10 (by kernel_rfl:chkF Tryz.prog hs10 Tryz.f10=some fe10)
/- 11 crimp/crimplaw12.lives -/
def hs11:Hints:=[z 0 [0],z 1 [8,9,10],z 2 [12,13,11,14,15],z 3 [17,18,16,19,20,4],z 4 [22,23,21,24,25],z 5 [1,2,3,5,6,7,26,27,28,29,30,31,32,33,34,35,36,37,38,39,40,41,42,43,44,45,46,47,48,49,50,51,52,53,54,55,56,57,58,59,60,61,62]]
noncomputable def xc11:XC:=cdOf (chkF Tryz.prog hs11 Tryz.f11)
noncomputable def fe11:FnE:=⟨63,[(0,none)],xc11⟩
theorem ok11:FnOk Tryz.prog 11 fe11:=fnOk_of Tryz.func11 (by kernel_rfl:chkF Tryz.prog hs11 Tryz.f11=some fe11)
/- 12 crimp/fans.Turn -/
def hs12:Hints:=[z 0 [0,5],z 1 [7,8],z 2 [9],z 3 [1,2,6,10,11,12],z 4 [5,6,10,13,14,15,16,17,18,19,20,21],z 5 [1,2,22,23],(6,([0,1,2,3,4,5,6,7,8,9,10],[1,2,22,24,25,26,27,28,29,30,31,32]))]
noncomputable def xc12:XC:=cdOf (chkF Tryz.prog hs12 Tryz.f12)
noncomputable def fe12:FnE:=⟨33,[(4,some (some 2)),(5,none)],xc12⟩
theorem ok12:FnOk Tryz.prog 12 fe12:=fnOk_of Tryz.func12 (by kernel_rfl:chkF Tryz.prog hs12 Tryz.f12=some fe12)
/- 16 (crimp/crimplaw12.F).Of -/
def hs16:Hints:=[z 0 [0],z 5 [9],z 7 [10,13,14,15,16,17],z 8 [18,19],z 9 [4,20,21,22,23,24,25,26,27,28],z 10 [4,20,29],z 11 [30],z 13 [31,32,33,34,35,36],z 14 [37,38,39,40,41,42,43,44,45,46],z 15 [7,37,47,48,49,50,51,52],z 6 [11,12],z 16 [6,53],z 17 [4,5,54,55,56,57,58,59,60,61,62,63],z 18 [4,5,54],z 19 [64,65,66,67],z 21 [68,71,72,73,74,75,76,77],z 22 [84,85,86,87,88,89,90,91],z 20 [84,69,70],z 23 [1,3,83,82,81,79,80,78,8,92]]
noncomputable def xc16:XC:=cdOf (chkF Tryz.prog hs16 Tryz.f16)
noncomputable def fe16:FnE:=⟨93,[(2,some (some 2))],xc16⟩
theorem ok16:FnOk Tryz.prog 16 fe16:=fnOk_of Tryz.func16 (by kernel_rfl:chkF Tryz.prog hs16 Tryz.f16=some fe16)
/- 17 crimp/fans.Check -/
def hs17:Hints:=[z 0 [0,2],z 1 [6,7,8,9,10,11],z 2 [1,12],z 3 [2,12],z 4 [13],z 6 [17,18,19,20],z 7 [4,21,22,23,28,29,36,37],z 8 [16,3,43,42,41,39,40,38,1,35,34,33,31,32,30,27,24,26,25,14,15,5,44],z 9 [2,5,44,45,46,47],z 10 [48],z 11 [1,3,14,15,16]]
noncomputable def xc17:XC:=cdOf (chkF Tryz.prog hs17 Tryz.f17)
noncomputable def fe17:FnE:=⟨49,[(2,none)],xc17⟩
theorem ok17:FnOk Tryz.prog 17 fe17:=fnOk_of Tryz.func17 (by kernel_rfl:chkF Tryz.prog hs17 Tryz.f17=some fe17)
/- 18 crimp/fans.Flat -/
def hs18:Hints:=[z 0 [0,2],z 2 [6],z 4 [10,11,12],z 5 [5,13,14,15],z 6 [16],z 7 [1,3,7,8,9,28,23,27,26,25,24,22,21,17,18,19,20,29]]
noncomputable def xc18:XC:=cdOf (chkF Tryz.prog hs18 Tryz.f18)
noncomputable def fe18:FnE:=⟨30,[(2,none)],xc18⟩
theorem ok18:FnOk Tryz.prog 18 fe18:=fnOk_of Tryz.func18 (by kernel_rfl:chkF Tryz.prog hs18 Tryz.f18=some fe18)
/- 19 slices.SortFunc[[]crimp/patterns.Crease,crimp/patterns.Crease] -/
def hs19:Hints:=[z 0 [5,6],z 1 [0,1,4,7,8,9,10,11,12,13]]
noncomputable def xc19:XC:=cdOf (chkF Tryz.prog hs19 Tryz.f19)
noncomputable def fe19:FnE:=⟨14,[],xc19⟩
theorem ok19:FnOk Tryz.prog 19 fe19:=fnOk_of Tryz.func19 (by kernel_rfl:chkF Tryz.prog hs19 Tryz.f19=some fe19)
/- 20 crimp/fans.Pattern$1 -/
def hs20:Hints:=[z 0 [0,1,4],(1,([0,1,2,3,4,5,6,7,8,9,10,11,12],[2,3,5,6,7,8,9,10,11,12,13,14,15,16]))]
noncomputable def xc20:XC:=cdOf (chkF Tryz.prog hs20 Tryz.f20)
noncomputable def fe20:FnE:=⟨17,[(4,none)],xc20⟩
theorem ok20:FnOk Tryz.prog 20 fe20:=fnOk_of Tryz.func20 (by kernel_rfl:chkF Tryz.prog hs20 Tryz.f20=some fe20)
/- 21 cmp.Or[int] -/
def hs21:Hints:=[z 0 [2],z 2 [0],z 4 [9,10,11],z 5 [12,13],z 6 [8,3,6,7,5,14,15],z 7 [2,5,14,16],z 8 [3,6,7,8,17]]
noncomputable def xc21:XC:=cdOf (chkF Tryz.prog hs21 Tryz.f21)
noncomputable def fe21:FnE:=⟨18,[(2,none)],xc21⟩
theorem ok21:FnOk Tryz.prog 21 fe21:=fnOk_of Tryz.func21 (by kernel_rfl:chkF Tryz.prog hs21 Tryz.f21=some fe21)
/- 22 cmp.Compare[int] -/
def hs22:Hints:=[z 0 [4],z 1 [7,8],z 2 [9,10],z 3 [5],z 4 [0,1,6,11],z 5 [12],z 6 [12],z 7 [4,6,11],z 8 [0,1,13],z 9 [4,13,14,15],z 10 [0,1,16],z 11 [4,0,1,16,17,18],z 12 [19],z 13 [19]]
noncomputable def xc22:XC:=cdOf (chkF Tryz.prog hs22 Tryz.f22)
noncomputable def fe22:FnE:=⟨20,[(4,none)],xc22⟩
theorem ok22:FnOk Tryz.prog 22 fe22:=fnOk_of Tryz.func22 (by kernel_rfl:chkF Tryz.prog hs22 Tryz.f22=some fe22)
/- 23 cmp.Compare[uint8] -/
def hs23:Hints:=[z 0 [4],z 1 [7,8],z 2 [9,10],z 3 [5],z 4 [0,1,6,11],z 5 [12],z 6 [12],z 7 [4,6,11],z 8 [0,1,13],z 9 [4,13,14,15],z 10 [0,1,16],z 11 [4,0,1,16,17,18],z 12 [19],z 13 [19]]
noncomputable def xc23:XC:=cdOf (chkF Tryz.prog hs23 Tryz.f23)
noncomputable def fe23:FnE:=⟨20,[(4,none)],xc23⟩
theorem ok23:FnOk Tryz.prog 23 fe23:=fnOk_of Tryz.func23 (by kernel_rfl:chkF Tryz.prog hs23 Tryz.f23=some fe23)
/- 24 slices.Clip[[]crimp/patterns.Crease,crimp/patterns.Crease] -/
def hs24:Hints:=[z 0 [2],z 1 [0,3,4,5,6,7,8]]
noncomputable def xc24:XC:=cdOf (chkF Tryz.prog hs24 Tryz.f24)
noncomputable def fe24:FnE:=⟨9,[(2,none)],xc24⟩
theorem ok24:FnOk Tryz.prog 24 fe24:=fnOk_of Tryz.func24 (by kernel_rfl:chkF Tryz.prog hs24 Tryz.f24=some fe24)
/- 25 crimp/sheets.Check -/
def hs25:Hints:=[z 0 [0,2],z 1 [1,3,4,5,6,7,8,9,10,11,12,13,14,15,16,17,18,19,20,21,22,23,24,25,26,27],z 2 [28],z 3 [28]]
noncomputable def xc25:XC:=cdOf (chkF Tryz.prog hs25 Tryz.f25)
noncomputable def fe25:FnE:=⟨29,[(2,none)],xc25⟩
theorem ok25:FnOk Tryz.prog 25 fe25:=fnOk_of Tryz.func25 (by kernel_rfl:chkF Tryz.prog hs25 Tryz.f25=some fe25)
/- 26 slices.ContainsFunc[[]crimp/patterns.Crease,crimp/patterns.Crease] -/
def hs26:Hints:=[z 0 [4],z 1 [0,1,5,6,7,8]]
noncomputable def xc26:XC:=cdOf (chkF Tryz.prog hs26 Tryz.f26)
noncomputable def fe26:FnE:=⟨9,[(4,none)],xc26⟩
theorem ok26:FnOk Tryz.prog 26 fe26:=fnOk_of Tryz.func26 (by kernel_rfl:chkF Tryz.prog hs26 Tryz.f26=some fe26)
/- 27 crimp/patterns.Check$1 -/
def hs27:Hints:=[z 0 [0,2],z 1 [1,3,4,5,6]]
noncomputable def xc27:XC:=cdOf (chkF Tryz.prog hs27 Tryz.f27)
noncomputable def fe27:FnE:=⟨7,[(2,none)],xc27⟩
theorem ok27:FnOk Tryz.prog 27 fe27:=fnOk_of Tryz.func27 (by kernel_rfl:chkF Tryz.prog hs27 Tryz.f27=some fe27)
/- 28 crimp/patterns.isKind -/
def hs28:Hints:=[z 0 [2],z 1 [0,3,4,5,6,7,8]]
noncomputable def xc28:XC:=cdOf (chkF Tryz.prog hs28 Tryz.f28)
noncomputable def fe28:FnE:=⟨9,[(2,none)],xc28⟩
theorem ok28:FnOk Tryz.prog 28 fe28:=fnOk_of Tryz.func28 (by kernel_rfl:chkF Tryz.prog hs28 Tryz.f28=some fe28)
/- 29 crimp/sheets.Name -/
def hs29:Hints:=[z 0 [0,7],z 1 [3,11,12,13,14,10,15,16],z 2 [17],z 3 [1,2,8,9,18,19,20],z 4 [1,2,8,9,18,21,22,23,24,25]]
noncomputable def xc29:XC:=cdOf (chkF Tryz.prog hs29 Tryz.f29)
noncomputable def fe29:FnE:=⟨26,[(6,some (some 2)),(7,none)],xc29⟩
theorem ok29:FnOk Tryz.prog 29 fe29:=fnOk_of Tryz.func29 (by kernel_rfl:chkF Tryz.prog hs29 Tryz.f29=some fe29)
/- 30 (crimp/patterns.Crease).unit -/
def hs30:Hints:=[z 0 [0],z 1 [1,3,4,5,6,7]]
noncomputable def xc30:XC:=cdOf (chkF Tryz.prog hs30 Tryz.f30)
noncomputable def fe30:FnE:=⟨8,[(2,some (some 2))],xc30⟩
theorem ok30:FnOk Tryz.prog 30 fe30:=fnOk_of Tryz.func30 (by kernel_rfl:chkF Tryz.prog hs30 Tryz.f30=some fe30)
/- 31 crimp/patterns.order -/
def hs31:Hints:=[z 0 [0,1,4],z 1 [5,6,7,8],z 2 [2,3,9,10,11,12,13,14],z 3 [2,3,9,15,16,17,18,19,20,21]]
noncomputable def xc31:XC:=cdOf (chkF Tryz.prog hs31 Tryz.f31)
noncomputable def fe31:FnE:=⟨22,[(4,none)],xc31⟩
theorem ok31:FnOk Tryz.prog 31 fe31:=fnOk_of Tryz.func31 (by kernel_rfl:chkF Tryz.prog hs31 Tryz.f31=some fe31)
/- 32 crimp/corners.corner -/
def hs32:Hints:=[z 0 [0,1,4],z 1 [6,7],z 2 [8],z 3 [2,3,5,9,10],z 4 [4,2,3,5,9,11,12,13,14,15,16,17,18,19,20,21,22,23,24,25,26,27,28,29,30,31,32,33,34,35,36,37,38,39,40,41,42],z 5 [43],z 6 [43]]
noncomputable def xc32:XC:=cdOf (chkF Tryz.prog hs32 Tryz.f32)
noncomputable def fe32:FnE:=⟨44,[(4,none)],xc32⟩
theorem ok32:FnOk Tryz.prog 32 fe32:=fnOk_of Tryz.func32 (by kernel_rfl:chkF Tryz.prog hs32 Tryz.f32=some fe32)
/- 33 crimp/corners.walk -/
def hs33:Hints:=[z 0 [0,1,4],z 1 [2,3,5]]
noncomputable def xc33:XC:=cdOf (chkF Tryz.prog hs33 Tryz.f33)
noncomputable def fe33:FnE:=⟨6,[(4,none)],xc33⟩
theorem ok33:FnOk Tryz.prog 33 fe33:=fnOk_of Tryz.func33 (by kernel_rfl:chkF Tryz.prog hs33 Tryz.f33=some fe33)
/- 34 crimp/patterns.Kind -/
def hs34:Hints:=[z 0 [0,6,7],z 1 [1,2,13,14,15,16,12,17,18,19,20,8],z 2 [10,21,22,23,24,25],z 3 [3,9,11,26,27],z 4 [3,9,11,26,28,29,30,31,32,33]]
noncomputable def xc34:XC:=cdOf (chkF Tryz.prog hs34 Tryz.f34)
noncomputable def fe34:FnE:=⟨34,[(6,none),(7,none)],xc34⟩
theorem ok34:FnOk Tryz.prog 34 fe34:=fnOk_of Tryz.func34 (by kernel_rfl:chkF Tryz.prog hs34 Tryz.f34=some fe34)
/- 35 slices.SortFunc[[]crimp/corners.Ray,crimp/corners.Ray] -/
def hs35:Hints:=[z 0 [5,6],z 1 [0,1,4,7,8,9,10,11,12,13]]
noncomputable def xc35:XC:=cdOf (chkF Tryz.prog hs35 Tryz.f35)
noncomputable def fe35:FnE:=⟨14,[],xc35⟩
theorem ok35:FnOk Tryz.prog 35 fe35:=fnOk_of Tryz.func35 (by kernel_rfl:chkF Tryz.prog hs35 Tryz.f35=some fe35)
/- 36 crimp/corners.Creases$1 -/
def hs36:Hints:=[z 0 [0,1,4],z 1 [2,3,5,6,7,8,9]]
noncomputable def xc36:XC:=cdOf (chkF Tryz.prog hs36 Tryz.f36)
noncomputable def fe36:FnE:=⟨10,[(4,none)],xc36⟩
theorem ok36:FnOk Tryz.prog 36 fe36:=fnOk_of Tryz.func36 (by kernel_rfl:chkF Tryz.prog hs36 Tryz.f36=some fe36)
/- 37 slices.Clip[[]crimp/corners.Ray,crimp/corners.Ray] -/
def hs37:Hints:=[z 0 [2],z 1 [0,3,4,5,6,7,8]]
noncomputable def xc37:XC:=cdOf (chkF Tryz.prog hs37 Tryz.f37)
noncomputable def fe37:FnE:=⟨9,[(2,none)],xc37⟩
theorem ok37:FnOk Tryz.prog 37 fe37:=fnOk_of Tryz.func37 (by kernel_rfl:chkF Tryz.prog hs37 Tryz.f37=some fe37)
/- 38 slices.Clip[[]int,int] -/
def hs38:Hints:=[z 0 [2],z 1 [0,3,4,5,6,7,8]]
noncomputable def xc38:XC:=cdOf (chkF Tryz.prog hs38 Tryz.f38)
noncomputable def fe38:FnE:=⟨9,[(2,none)],xc38⟩
theorem ok38:FnOk Tryz.prog 38 fe38:=fnOk_of Tryz.func38 (by kernel_rfl:chkF Tryz.prog hs38 Tryz.f38=some fe38)
/- 39 slices.Clip[[]crimp/api.Kind,crimp/api.Kind] -/
def hs39:Hints:=[z 0 [2],z 1 [0,3,4,5,6,7,8]]
noncomputable def xc39:XC:=cdOf (chkF Tryz.prog hs39 Tryz.f39)
noncomputable def fe39:FnE:=⟨9,[(2,none)],xc39⟩
theorem ok39:FnOk Tryz.prog 39 fe39:=fnOk_of Tryz.func39 (by kernel_rfl:chkF Tryz.prog hs39 Tryz.f39=some fe39)
/- 40 crimp/fans.Text -/
def hs40:Hints:=[z 0 [0,2],z 1 [6,7],z 2 [1,8],z 3 [2,8,9,10,11],z 4 [1,12],z 5 [2,12],z 6 [13],z 8 [17,18,19,20],(9,([0,1,2,3,4,5,6,7,8,9,10,11,12,13,14,15,16,17,18],[4,5,21,22,23,24,25,26,27,28,29,30,31,32,33,34,35,36,37,38])),z 10 [39],z 11 [1,3,14,15,16,40,41]]
noncomputable def xc40:XC:=cdOf (chkF Tryz.prog hs40 Tryz.f40)
noncomputable def fe40:FnE:=⟨42,[(2,none)],xc40⟩
theorem ok40:FnOk Tryz.prog 40 fe40:=fnOk_of Tryz.func40 (by kernel_rfl:chkF Tryz.prog hs40 Tryz.f40=some fe40)
/- 41 crimp/fans.Mirror -/
def hs41:Hints:=[z 0 [0],(1,([0,1,2,3,4,5,6,7,8],[1,5,6,7,8,9,10,11])),z 2 [12,13,14],z 3 [15],z 4 [4,16,17,18,19,20,21,22],z 5 [3,4,16,23]]
noncomputable def xc41:XC:=cdOf (chkF Tryz.prog hs41 Tryz.f41)
noncomputable def fe41:FnE:=⟨24,[(2,some (some 2))],xc41⟩
theorem ok41:FnOk Tryz.prog 41 fe41:=fnOk_of Tryz.func41 (by kernel_rfl:chkF Tryz.prog hs41 Tryz.f41=some fe41)
/- 42 crimp/fans.begun[int] -/
def hs42:Hints:=[z 0 [4],(1,([0,1,2,3,4,5,6,7,8,9],[0,1,5,6,7,8,9,10,11,12,13]))]
noncomputable def xc42:XC:=cdOf (chkF Tryz.prog hs42 Tryz.f42)
noncomputable def fe42:FnE:=⟨14,[(4,none)],xc42⟩
theorem ok42:FnOk Tryz.prog 42 fe42:=fnOk_of Tryz.func42 (by kernel_rfl:chkF Tryz.prog hs42 Tryz.f42=some fe42)
/- 43 crimp/fans.begun[crimp/api.Kind] -/
def hs43:Hints:=[z 0 [4],(1,([0,1,2,3,4,5,6,7,8,9],[0,1,5,6,7,8,9,10,11,12,13]))]
noncomputable def xc43:XC:=cdOf (chkF Tryz.prog hs43 Tryz.f43)
noncomputable def fe43:FnE:=⟨14,[(4,none)],xc43⟩
theorem ok43:FnOk Tryz.prog 43 fe43:=fnOk_of Tryz.func43 (by kernel_rfl:chkF Tryz.prog hs43 Tryz.f43=some fe43)
/- 47 strconv.Itoa -/
def hs47:Hints:=[z 0 [2],z 1 [0,3,4]]
noncomputable def xc47:XC:=cdOf (chkF Tryz.prog hs47 Tryz.f47)
noncomputable def fe47:FnE:=⟨5,[(2,none)],xc47⟩
theorem ok47:FnOk Tryz.prog 47 fe47:=fnOk_of Tryz.func47 (by kernel_rfl:chkF Tryz.prog hs47 Tryz.f47=some fe47)
/- 49 slices.pdqsortCmpFunc[crimp/patterns.Crease] -/
def hs49:Hints:=[z 2 [21,22,23],z 3 [24],z 4 [4,2,1,0,96,95,94,84,89,93,92,90,91,88,85,87,86,74,73,70,11,10,3,12,25,26,27,28,29,30],z 5 [25,31],z 6 [4,2,1,0,96,95,94,84,89,93,92,90,91,88,85,87,86,74,73,70,11,10,3,12,32,33,34,35,36,37],z 7 [32,38],z 8 [39,40,41,42,43,44],z 9 [45,46],z 10 [39,48,49,50,51,52,47,53,54],z 11 [55],z 12 [14,56,57,58,59,60,61],z 13 [62,63,64,65,66,67],z 15 [14,56,68,69,71,72],z 16 [75,76,77,78,79],(17,([0,1,2,3,4,5,6,7,8,9,10,11,12,13,14,15,16],[80,75,81,82,83])),z 18 [1,12,13,97,98,99,100,101,102,103],z 19 [15,104],z 20 [11,10,13,97,106,107,108,109,110,111,105,112,113],z 21 [17,114],z 22 [115,116,117,118,119,120],z 23 [12,121,122],z 24 [123,124],z 25 [18,19,20,125,126,127,128],z 26 [1,129,130,131,132,133,134],z 27 [16,135,136],z 28 [18,19,20,125,137,138,139],z 29 [2,140,141,142,143,144,145,146],z 30 [16,147]]
noncomputable def xc49:XC:=cdOf (chkF Tryz.prog hs49 Tryz.f49)
noncomputable def fe49:FnE:=⟨148,[],xc49⟩
theorem ok49:FnOk Tryz.prog 49 fe49:=fnOk_of Tryz.func49 (by kernel_rfl:chkF Tryz.prog hs49 Tryz.f49=some fe49)
/- 50 math/bits.Len -/
def hs50:Hints:=[z 0 [2],z 1 [0,3,4,5],z 2 [0,6,7]]
noncomputable def xc50:XC:=cdOf (chkF Tryz.prog hs50 Tryz.f50)
noncomputable def fe50:FnE:=⟨8,[(2,none)],xc50⟩
theorem ok50:FnOk Tryz.prog 50 fe50:=fnOk_of Tryz.func50 (by kernel_rfl:chkF Tryz.prog hs50 Tryz.f50=some fe50)
/- 51 cmp.isNaN[int] -/
def hs51:Hints:=[z 0 [2],z 1 [0,3,4,5]]
noncomputable def xc51:XC:=cdOf (chkF Tryz.prog hs51 Tryz.f51)
noncomputable def fe51:FnE:=⟨6,[(2,none)],xc51⟩
theorem ok51:FnOk Tryz.prog 51 fe51:=fnOk_of Tryz.func51 (by kernel_rfl:chkF Tryz.prog hs51 Tryz.f51=some fe51)
/- 52 cmp.isNaN[uint8] -/
def hs52:Hints:=[z 0 [2],z 1 [0,3,4,5]]
noncomputable def xc52:XC:=cdOf (chkF Tryz.prog hs52 Tryz.f52)
noncomputable def fe52:FnE:=⟨6,[(2,none)],xc52⟩
theorem ok52:FnOk Tryz.prog 52 fe52:=fnOk_of Tryz.func52 (by kernel_rfl:chkF Tryz.prog hs52 Tryz.f52=some fe52)
/- 53 slices.IndexFunc[[]crimp/patterns.Crease,crimp/patterns.Crease] -/
def hs53:Hints:=[z 0 [4],z 1 [6],z 3 [9,10],z 4 [11,12,13,14,15],z 5 [8,0,1,7,5,16,17],z 6 [4,5,16,18],z 7 [0,1,7,8]]
noncomputable def xc53:XC:=cdOf (chkF Tryz.prog hs53 Tryz.f53)
noncomputable def fe53:FnE:=⟨19,[(4,none)],xc53⟩
theorem ok53:FnOk Tryz.prog 53 fe53:=fnOk_of Tryz.func53 (by kernel_rfl:chkF Tryz.prog hs53 Tryz.f53=some fe53)
/- 54 crimp/sheets.Neighbour -/
def hs54:Hints:=[z 0 [0,6,7],z 1 [1,12,13,14,11,15,16],z 2 [17],z 3 [2,3,8,9,18,19],z 4 [6,7,2,8,18,21,22,23,20,24,25],z 5 [9,26],z 6 [3,10,27],z 7 [3,10,27,28,29,30,31,32]]
noncomputable def xc54:XC:=cdOf (chkF Tryz.prog hs54 Tryz.f54)
noncomputable def fe54:FnE:=⟨33,[(6,none),(7,none)],xc54⟩
theorem ok54:FnOk Tryz.prog 54 fe54:=fnOk_of Tryz.func54 (by kernel_rfl:chkF Tryz.prog hs54 Tryz.f54=some fe54)
/- 55 crimp/corners.walk$1 -/
def hs55:Hints:=[z 0 [12,13,14,15,16,17,18],z 1 [19,20,21],z 2 [22,23],z 3 [22,24],z 5 [26,27,28,25,29,30,8],z 8 [32,33],z 9 [34,35,36,37,38,39,43,44],z 10 [31,6,54,56,57,58,59,55,60,61,11],(11,([0,1,2,3,4,5,6,7,8,9],[7,10,62,63,64,65,66,67,68,69,70])),z 12 [71,73,74,75,72,76,77],z 13 [9,78],z 14 [79,80],z 15 [81,82]]
noncomputable def xc55:XC:=cdOf (chkF Tryz.prog hs55 Tryz.f55)
noncomputable def fe55:FnE:=⟨83,[],xc55⟩
theorem ok55:FnOk Tryz.prog 55 fe55:=fnOk_of Tryz.func55 (by kernel_rfl:chkF Tryz.prog hs55 Tryz.f55=some fe55)
/- 56 crimp/sheets.Id -/
def hs56:Hints:=[z 0 [0,1,4,5],z 1 [7,8],z 2 [9],z 3 [2,3,6,10,11],z 4 [4,5,6,10,12,13,14,15,16,17,18,19,20,21,22,23,24,25,26,27,28,29,30,31,32,33,34,35,36,37],z 5 [2,3,38],z 6 [2,3,38,39,40,41,42,43,44,45,46,47,48,49,50,51]]
noncomputable def xc56:XC:=cdOf (chkF Tryz.prog hs56 Tryz.f56)
noncomputable def fe56:FnE:=⟨52,[(4,none),(5,none)],xc56⟩
theorem ok56:FnOk Tryz.prog 56 fe56:=fnOk_of Tryz.func56 (by kernel_rfl:chkF Tryz.prog hs56 Tryz.f56=some fe56)
/- 57 crimp/corners.touches -/
def hs57:Hints:=[z 0 [0,2,6],z 1 [3,10,11,9,12,13,8],(2,([0,1,2,3,4,5],[1,5,7,14,15,16,17,18]))]
noncomputable def xc57:XC:=cdOf (chkF Tryz.prog hs57 Tryz.f57)
noncomputable def fe57:FnE:=⟨19,[(6,none)],xc57⟩
theorem ok57:FnOk Tryz.prog 57 fe57:=fnOk_of Tryz.func57 (by kernel_rfl:chkF Tryz.prog hs57 Tryz.f57=some fe57)
/- 58 crimp/corners.leaves -/
def hs58:Hints:=[z 0 [0,2,3,6],z 1 [5,7,8,9],z 2 [1,10,11,12],z 3 [1,10,13,14]]
noncomputable def xc58:XC:=cdOf (chkF Tryz.prog hs58 Tryz.f58)
noncomputable def fe58:FnE:=⟨15,[(6,none)],xc58⟩
theorem ok58:FnOk Tryz.prog 58 fe58:=fnOk_of Tryz.func58 (by kernel_rfl:chkF Tryz.prog hs58 Tryz.f58=some fe58)
/- 59 crimp/corners.direction -/
def hs59:Hints:=[z 0 [0,1,2,6],z 1 [3,4,12,13,14,11,15,16,8],z 2 [17,18],z 3 [19,20],z 4 [7,21,22,23],(5,([0,1,2,3,4,5,6,7,8,9,10,11,12,13,14],[5,9,7,21,24,25,26,27,28,29,30,31,32,33,34,35,36])),(6,([0,1,2,3],[10,37,38,39]))]
noncomputable def xc59:XC:=cdOf (chkF Tryz.prog hs59 Tryz.f59)
noncomputable def fe59:FnE:=⟨40,[(6,none)],xc59⟩
theorem ok59:FnOk Tryz.prog 59 fe59:=fnOk_of Tryz.func59 (by kernel_rfl:chkF Tryz.prog hs59 Tryz.f59=some fe59)
/- 60 crimp/cells.Neighbour -/
def hs60:Hints:=[z 0 [0,5],z 1 [7,8,9,10,11,12],z 2 [1,2,13,14],z 3 [5,1,13,15,16,17,18,19,20,21],(4,([0,1,2,3,4,5,6,7,8,9,10,11,12,13],[2,22,23,24,25,26,27,28,29,30,31,32,33])),z 5 [34,35],z 6 [6,36,37],z 7 [6,36,38]]
noncomputable def xc60:XC:=cdOf (chkF Tryz.prog hs60 Tryz.f60)
noncomputable def fe60:FnE:=⟨39,[(4,some (some 3)),(5,none)],xc60⟩
theorem ok60:FnOk Tryz.prog 60 fe60:=fnOk_of Tryz.func60 (by kernel_rfl:chkF Tryz.prog hs60 Tryz.f60=some fe60)
/- 61 crimp/patterns.at -/
def hs61:Hints:=[z 0 [0,7,8,9],z 1 [15,16],z 2 [17],z 3 [1,2,3,10,18,19,20],z 4 [7,8,9,1,2,10,18,22,23,24,25,26,21,27,28],z 5 [29],z 6 [3,11,12,30,31,32],z 7 [7,8,9,3,12,30,34,35,36,37,33,38,39],z 8 [11,13,14,40,41,42]]
noncomputable def xc61:XC:=cdOf (chkF Tryz.prog hs61 Tryz.f61)
noncomputable def fe61:FnE:=⟨43,[(6,some (some 2)),(7,none),(8,none),(9,none)],xc61⟩
theorem ok61:FnOk Tryz.prog 61 fe61:=fnOk_of Tryz.func61 (by kernel_rfl:chkF Tryz.prog hs61 Tryz.f61=some fe61)
/- 62 slices.pdqsortCmpFunc[crimp/corners.Ray] -/
def hs62:Hints:=[z 2 [21,22,23],z 3 [24],z 4 [4,2,1,0,96,95,94,84,89,93,92,90,91,88,85,87,86,74,73,70,11,10,3,12,25,26,27,28,29,30],z 5 [25,31],z 6 [4,2,1,0,96,95,94,84,89,93,92,90,91,88,85,87,86,74,73,70,11,10,3,12,32,33,34,35,36,37],z 7 [32,38],z 8 [39,40,41,42,43,44],z 9 [45,46],z 10 [39,48,49,50,51,52,47,53,54],z 11 [55],z 12 [14,56,57,58,59,60,61],z 13 [62,63,64,65,66,67],z 15 [14,56,68,69,71,72],z 16 [75,76,77,78,79],(17,([0,1,2,3,4,5,6,7,8,9,10,11,12,13,14,15,16],[80,75,81,82,83])),z 18 [1,12,13,97,98,99,100,101,102,103],z 19 [15,104],z 20 [11,10,13,97,106,107,108,109,110,111,105,112,113],z 21 [17,114],z 22 [115,116,117,118,119,120],z 23 [12,121,122],z 24 [123,124],z 25 [18,19,20,125,126,127,128],z 26 [1,129,130,131,132,133,134],z 27 [16,135,136],z 28 [18,19,20,125,137,138,139],z 29 [2,140,141,142,143,144,145,146],z 30 [16,147]]
noncomputable def xc62:XC:=cdOf (chkF Tryz.prog hs62 Tryz.f62)
noncomputable def fe62:FnE:=⟨148,[],xc62⟩
theorem ok62:FnOk Tryz.prog 62 fe62:=fnOk_of Tryz.func62 (by kernel_rfl:chkF Tryz.prog hs62 Tryz.f62=some fe62)
/- 63 strings.Join -/
def hs63:Hints:=[z 0 [4],z 1 [11],z 2 [14],z 3 [0,1,12,13],z 4 [12,13,16],z 5 [0,1,15,17,18,19],z 6 [4,15],z 7 [20,21],z 8 [22,23,24,25,26,27,28],z 9 [29,30],z 10 [29,31,32,33,34,35,36,37,38],z 11 [22],z 13 [42,43,44],z 14 [45,46,47,48],z 15 [49,50],z 16 [7,49,51,52,53,54],z 17 [55],z 18 [39,40,41],z 19 [5,56,57],z 20 [58,59,60,61],z 21 [0,62],z 23 [66,67,68],z 24 [69,70],z 25 [10,71,72],z 26 [73],z 27 [1,8,63,64,65,74]]
noncomputable def xc63:XC:=cdOf (chkF Tryz.prog hs63 Tryz.f63)
noncomputable def fe63:FnE:=⟨75,[(4,none)],xc63⟩
theorem ok63:FnOk Tryz.prog 63 fe63:=fnOk_of Tryz.func63 (by kernel_rfl:chkF Tryz.prog hs63 Tryz.f63=some fe63)
/- 64 crimp/fans.turned[int] -/
def hs64:Hints:=[z 0 [2],z 1 [0,4,5,6],z 2 [7,8],z 3 [3,9]]
noncomputable def xc64:XC:=cdOf (chkF Tryz.prog hs64 Tryz.f64)
noncomputable def fe64:FnE:=⟨10,[(2,none)],xc64⟩
theorem ok64:FnOk Tryz.prog 64 fe64:=fnOk_of Tryz.func64 (by kernel_rfl:chkF Tryz.prog hs64 Tryz.f64=some fe64)
/- 65 crimp/fans.turned[crimp/api.Kind] -/
def hs65:Hints:=[z 0 [2],z 1 [0,4,5,6],z 2 [7,8],z 3 [3,9]]
noncomputable def xc65:XC:=cdOf (chkF Tryz.prog hs65 Tryz.f65)
noncomputable def fe65:FnE:=⟨10,[(2,none)],xc65⟩
theorem ok65:FnOk Tryz.prog 65 fe65:=fnOk_of Tryz.func65 (by kernel_rfl:chkF Tryz.prog hs65 Tryz.f65=some fe65)
/- 66 slices.Concat[[]int,int] -/
def hs66:Hints:=[z 0 [2],z 4 [12,13,14],z 5 [5,15,16,17,18],z 6 [19],z 7 [20,21],z 8 [20,22],z 9 [3,9,10,11,23,24],z 10 [0],z 12 [28,29,30],z 13 [8,31,32,33],z 14 [34],z 15 [6,25,26,27,35]]
noncomputable def xc66:XC:=cdOf (chkF Tryz.prog hs66 Tryz.f66)
noncomputable def fe66:FnE:=⟨36,[(2,none)],xc66⟩
theorem ok66:FnOk Tryz.prog 66 fe66:=fnOk_of Tryz.func66 (by kernel_rfl:chkF Tryz.prog hs66 Tryz.f66=some fe66)
/- 67 slices.Concat[[]crimp/api.Kind,crimp/api.Kind] -/
def hs67:Hints:=[z 0 [2],z 4 [12,13,14],z 5 [5,15,16,17,18],z 6 [19],z 7 [20,21],z 8 [20,22],z 9 [3,9,10,11,23,24],z 10 [0],z 12 [28,29,30],z 13 [8,31,32,33],z 14 [34],z 15 [6,25,26,27,35]]
noncomputable def xc67:XC:=cdOf (chkF Tryz.prog hs67 Tryz.f67)
noncomputable def fe67:FnE:=⟨36,[(2,none)],xc67⟩
theorem ok67:FnOk Tryz.prog 67 fe67:=fnOk_of Tryz.func67 (by kernel_rfl:chkF Tryz.prog hs67 Tryz.f67=some fe67)
/- 69 slices.Compare[[]int,int] -/
def hs69:Hints:=[z 0 [4],z 3 [12,13,14,15],z 4 [16,17,18],z 5 [11,1,9,0,10,5,6,19],z 6 [4,5,19,20,21,22,23],z 7 [6,7,24,25,26],z 8 [27],z 9 [11,1,9,0,10,8,28,29],z 10 [4,8,28,30],z 11 [0,1,9,10,11,31,32,33,34],z 12 [35],z 13 [35]]
noncomputable def xc69:XC:=cdOf (chkF Tryz.prog hs69 Tryz.f69)
noncomputable def fe69:FnE:=⟨36,[(4,none)],xc69⟩
theorem ok69:FnOk Tryz.prog 69 fe69:=fnOk_of Tryz.func69 (by kernel_rfl:chkF Tryz.prog hs69 Tryz.f69=some fe69)
/- 70 slices.Compare[[]crimp/api.Kind,crimp/api.Kind] -/
def hs70:Hints:=[z 0 [4],z 3 [12,13,14,15],z 4 [16,17,18],z 5 [11,1,9,0,10,5,6,19],z 6 [4,5,19,20,21,22,23],z 7 [6,7,24,25,26],z 8 [27],z 9 [11,1,9,0,10,8,28,29],z 10 [4,8,28,30],z 11 [0,1,9,10,11,31,32,33,34],z 12 [35],z 13 [35]]
noncomputable def xc70:XC:=cdOf (chkF Tryz.prog hs70 Tryz.f70)
noncomputable def fe70:FnE:=⟨36,[(4,none)],xc70⟩
theorem ok70:FnOk Tryz.prog 70 fe70:=fnOk_of Tryz.func70 (by kernel_rfl:chkF Tryz.prog hs70 Tryz.f70=some fe70)
/- 71 internal/strconv.Itoa -/
def hs71:Hints:=[z 0 [2],z 1 [0,3,4]]
noncomputable def xc71:XC:=cdOf (chkF Tryz.prog hs71 Tryz.f71)
noncomputable def fe71:FnE:=⟨5,[(2,none)],xc71⟩
theorem ok71:FnOk Tryz.prog 71 fe71:=fnOk_of Tryz.func71 (by kernel_rfl:chkF Tryz.prog hs71 Tryz.f71=some fe71)
/- 74 slices.insertionSortCmpFunc[crimp/patterns.Crease] -/
def hs74:Hints:=[z 0 [10,11],z 1 [12,13],z 3 [14,17],(4,([0,1,2,3,4,5,6,7,8,9,10,11,12,13,14,15,16],[18,19,20,21])),(6,([0,1,2,3,4,5,6,7,8,9,10,11,12,13,14,15,16,17],[34,37,38,39,40,41,42,43,44,45,46,47,48,49,50,51,52])),z 5 [35,36],z 2 [9,15,16]]
noncomputable def xc74:XC:=cdOf (chkF Tryz.prog hs74 Tryz.f74)
noncomputable def fe74:FnE:=⟨53,[],xc74⟩
theorem ok74:FnOk Tryz.prog 74 fe74:=fnOk_of Tryz.func74 (by kernel_rfl:chkF Tryz.prog hs74 Tryz.f74=some fe74)
/- 75 slices.heapSortCmpFunc[crimp/patterns.Crease] -/
def hs75:Hints:=[z 0 [13],z 2 [1,2,14,15,16],z 3 [17,18,19],z 4 [20],z 6 [21,24,25,26,27,28,29],z 5 [22,23],z 7 [10,11,30,31],z 8 [32],(10,([0,1,2,3,4,5,6,7,8,9,10,11,12,13,14,15,16,17,18,19],[33,36,37,38,39,40,41,42,43,44,45,46,47,48,49,50,51,52,53])),z 11 [54,55,56,57,58,59],z 9 [34,35]]
noncomputable def xc75:XC:=cdOf (chkF Tryz.prog hs75 Tryz.f75)
noncomputable def fe75:FnE:=⟨60,[],xc75⟩
theorem ok75:FnOk Tryz.prog 75 fe75:=fnOk_of Tryz.func75 (by kernel_rfl:chkF Tryz.prog hs75 Tryz.f75=some fe75)
/- 76 slices.breakPatternsCmpFunc[crimp/patterns.Crease] -/
def hs76:Hints:=[z 0 [2,3,13,14,15],z 1 [16],z 2 [17,18,19],z 3 [20,21],z 4 [22,23,24,25,26,27],z 5 [28,29,30,31,32,33,34],z 7 [35,38,39,40,41,42],z 8 [43,44],z 9 [45,46,47,48],(10,([0,1,2,3,4,5,6,7,8,9,10,11,12,13,14,15,16,17,18,19],[12,45,49,50,51,52,53,54,55,56,57,58,59,60,61,62,63,64,65,66])),z 6 [36,37]]
noncomputable def xc76:XC:=cdOf (chkF Tryz.prog hs76 Tryz.f76)
noncomputable def fe76:FnE:=⟨67,[],xc76⟩
theorem ok76:FnOk Tryz.prog 76 fe76:=fnOk_of Tryz.func76 (by kernel_rfl:chkF Tryz.prog hs76 Tryz.f76=some fe76)
/- 77 slices.choosePivotCmpFunc[crimp/patterns.Crease] -/
def hs77:Hints:=[z 0 [8,9],z 1 [2,15,16,17],z 3 [18,19,20,21,22],z 4 [23,24,25,26,27],z 5 [1,28,29,30,31,32],z 6 [33],z 7 [10,34,35],z 8 [36,37,38,39,40],z 9 [41,42,43,44],z 10 [45,46,47,48],z 11 [0,3,12,14,36,49,50,51,52,53,54],z 12 [11,0,3,10,12,14,34],z 14 [58],z 15 [13,55,57,59],z 16 [55,57,61],z 17 [13,60,62],z 13 [13,60,56]]
noncomputable def xc77:XC:=cdOf (chkF Tryz.prog hs77 Tryz.f77)
noncomputable def fe77:FnE:=⟨63,[(8,none),(9,none)],xc77⟩
theorem ok77:FnOk Tryz.prog 77 fe77:=fnOk_of Tryz.func77 (by kernel_rfl:chkF Tryz.prog hs77 Tryz.f77=some fe77)
/- 78 slices.reverseRangeCmpFunc[crimp/patterns.Crease] -/
def hs78:Hints:=[z 0 [1,3,10],z 1 [2,11,12],z 2 [13,14],(3,([0,1,2,3,4,5,6,7,8,9,10,11,12,13,14,15],[15,16,17,18,19,20,21,22,23,24,25,26,27,28,29])),z 4 [30,31],z 5 [32,33]]
noncomputable def xc78:XC:=cdOf (chkF Tryz.prog hs78 Tryz.f78)
noncomputable def fe78:FnE:=⟨34,[],xc78⟩
theorem ok78:FnOk Tryz.prog 78 fe78:=fnOk_of Tryz.func78 (by kernel_rfl:chkF Tryz.prog hs78 Tryz.f78=some fe78)
/- 79 slices.partialInsertionSortCmpFunc[crimp/patterns.Crease] -/
def hs79:Hints:=[z 0 [8],z 1 [13,14],z 3 [15],(5,([0,1,2,3,4,5,6,7,8,9,10,11,12,13,14,15,16,17],[19,20,21,22])),z 6 [36,37,38],z 7 [16,39,40],z 8 [9,10,0,3,2,1,35,34,33,23,27,32,31,28,30,29,26,24,25,41],z 9 [8,41,42,43,44],z 10 [9,10,0,3,2,1,35,34,33,23,27,32,31,28,30,29,26,24,25,45],(11,([0,1,2,3,4,5,6,7,8,9,10,11,12,13,14,15,16,17],[8,45,46,47,48,49,50,51,52,53,54,55,56,57,58,59,60,61])),z 12 [62,63,64],z 13 [65,66,67],z 14 [68],(16,([0,1,2,3,4,5,6,7,8,9,10,11,12],[69,72,73,74,75,76,77,78,79,80,81,82,83])),(17,([0,1,2,3,4,5,6,7,8,9,10,11,12,13,14,15,16,17],[84,85,86,87,88,89,90,91,92,93,94,95,96,97,98,99,100])),z 15 [70,71],z 18 [11,65,101,102,103],z 19 [104,105,106],z 20 [107,108],(22,([0,1,2,3,4,5,6,7,8,9,10,11,12],[109,112,113,114,115,116,117,118,119,120,121,122,123])),(23,([0,1,2,3,4,5,6,7,8,9,10,11,12,13,14,15,16,17],[124,125,126,127,128,129,130,131,132,133,134,135,136,137,138,139,140])),z 21 [110,111],z 4 [12,104,17,18],z 24 [0,1,2,3,9,10]]
noncomputable def xc79:XC:=cdOf (chkF Tryz.prog hs79 Tryz.f79)
noncomputable def fe79:FnE:=⟨141,[(8,none)],xc79⟩
theorem ok79:FnOk Tryz.prog 79 fe79:=fnOk_of Tryz.func79 (by kernel_rfl:chkF Tryz.prog hs79 Tryz.f79=some fe79)
/- 80 slices.partitionEqualCmpFunc[crimp/patterns.Crease] -/
def hs80:Hints:=[z 0 [10],(1,([0,1,2,3,4,5,6,7,8,9,10,11,12,13,14,15],[3,13,14,15,16,17,18,19,20,21,22,23,24,25,26])),z 2 [2,27,28,29,30],(3,([0,1,2,3,4,5,6,7,8,9,10,11,12,13,14,15,16],[31,32,33,34])),z 4 [47,48,49],(5,([0,1,2,3,4,5,6,7,8,9,10,11,12,13,14,15],[50,51,52,53])),z 6 [65,66,67],z 7 [68,69],(8,([0,1,2,3,4,5,6,7,8,9,10,11,12,13,14,15],[70,71,72,73,74,75,76,77,78,79,80,81,82,83,84])),z 9 [85,86],z 10 [87,88],z 11 [0,1,4,11,12,89]]
noncomputable def xc80:XC:=cdOf (chkF Tryz.prog hs80 Tryz.f80)
noncomputable def fe80:FnE:=⟨90,[(10,none)],xc80⟩
theorem ok80:FnOk Tryz.prog 80 fe80:=fnOk_of Tryz.func80 (by kernel_rfl:chkF Tryz.prog hs80 Tryz.f80=some fe80)
/- 81 slices.partitionCmpFunc[crimp/patterns.Crease] -/
def hs81:Hints:=[z 0 [10,11],(1,([0,1,2,3,4,5,6,7,8,9,10,11,12,13,14,15],[3,14,15,16,17,18,19,20,21,22,23,24,25,26,27])),z 2 [2,28,29,30,31],(3,([0,1,2,3,4,5,6,7,8,9,10,11,12,13,14,15],[32,33,34,35])),z 4 [47,48,49],(5,([0,1,2,3,4,5,6,7,8,9,10,11,12,13,14,15,16],[50,51,52,53])),z 6 [66,67,68],z 7 [65,64,63,54,58,62,61,59,60,57,55,56,69,70],(8,([0,1,2,3,4,5,6,7,8,9,10,11,12,13,14,15],[0,1,4,12,138,137,136,127,131,135,134,132,133,130,128,129,119,118,109,113,117,116,114,115,112,110,111,71,72,73,74,75,76,77,78,79,80,81,82,83,84,85])),z 9 [13,86],(10,([0,1,2,3,4,5,6,7,8,9,10,11,12,13,14,15],[10,11,71,87,88,89,90,91,92,93,94,95,96,97,98,99,100])),z 11 [101,102],z 12 [103,104],(13,([0,1,2,3,4,5,6,7,8,9,10,11,12,13,14,15],[105,106,107,108])),z 14 [120,121,122],(15,([0,1,2,3,4,5,6,7,8,9,10,11,12,13,14,15,16],[123,124,125,126])),z 16 [139,140,141],z 17 [142,143],(18,([0,1,2,3,4,5,6,7,8,9,10,11,12,13,14,15],[144,145,146,147,148,149,150,151,152,153,154,155,156,157,158])),z 19 [159,160],z 20 [161,162],(21,([0,1,2,3,4,5,6,7,8,9,10,11,12,13,14,15],[0,1,4,12,138,137,136,127,131,135,134,132,133,130,128,129,119,118,109,113,117,116,114,115,112,110,111,163,164,165,166,167,168,169,170,171,172,173,174,175,176])),z 22 [13,177]]
noncomputable def xc81:XC:=cdOf (chkF Tryz.prog hs81 Tryz.f81)
noncomputable def fe81:FnE:=⟨178,[(10,none),(11,none)],xc81⟩
theorem ok81:FnOk Tryz.prog 81 fe81:=fnOk_of Tryz.func81 (by kernel_rfl:chkF Tryz.prog hs81 Tryz.f81=some fe81)
/- 82 math/bits.Len32 -/
def hs82:Hints:=[z 1 [3],z 2 [2,4,5,6],z 4 [4,7],z 5 [8,9,10],z 6 [11,12],z 7 [0,8,13,14,15,16,17,18]]
noncomputable def xc82:XC:=cdOf (chkF Tryz.prog hs82 Tryz.f82)
noncomputable def fe82:FnE:=⟨19,[(2,none)],xc82⟩
theorem ok82:FnOk Tryz.prog 82 fe82:=fnOk_of Tryz.func82 (by kernel_rfl:chkF Tryz.prog hs82 Tryz.f82=some fe82)
/- 83 math/bits.Len64 -/
def hs83:Hints:=[z 1 [3],z 2 [2,4,5,6],z 4 [4,7],z 5 [8,9,10],z 6 [11,12],z 7 [8,13],z 8 [14,15,16],z 9 [17,18],z 10 [0,14,19,20,21,22,23,24]]
noncomputable def xc83:XC:=cdOf (chkF Tryz.prog hs83 Tryz.f83)
noncomputable def fe83:FnE:=⟨25,[(2,none)],xc83⟩
theorem ok83:FnOk Tryz.prog 83 fe83:=fnOk_of Tryz.func83 (by kernel_rfl:chkF Tryz.prog hs83 Tryz.f83=some fe83)
/- 84 crimp/sheets.Cell -/
def hs84:Hints:=[z 0 [0,5],z 1 [7,8],z 2 [9],z 3 [1,2,6,10,11,12],z 4 [5,6,10,13,14,15],z 5 [1,2,16,17],z 6 [1,2,16,18,19,20]]
noncomputable def xc84:XC:=cdOf (chkF Tryz.prog hs84 Tryz.f84)
noncomputable def fe84:FnE:=⟨21,[(4,some (some 3)),(5,none)],xc84⟩
theorem ok84:FnOk Tryz.prog 84 fe84:=fnOk_of Tryz.func84 (by kernel_rfl:chkF Tryz.prog hs84 Tryz.f84=some fe84)
/- 85 crimp/cells.Check -/
def hs85:Hints:=[z 0 [0,2],z 1 [1,3,4,5,6,7,8,9,10,11,12,13,14,15,16,17,18,19,20,21,22,23,24],z 2 [25],z 3 [25]]
noncomputable def xc85:XC:=cdOf (chkF Tryz.prog hs85 Tryz.f85)
noncomputable def fe85:FnE:=⟨26,[(2,none)],xc85⟩
theorem ok85:FnOk Tryz.prog 85 fe85:=fnOk_of Tryz.func85 (by kernel_rfl:chkF Tryz.prog hs85 Tryz.f85=some fe85)
/- 86 crimp/cells.Corners -/
def hs86:Hints:=[z 0 [0,3],z 1 [7,8],z 2 [1,9,10],z 3 [3,9,11,12,13,14],z 4 [4,15,16,17,18,19,20],z 7 [22,23],(8,([0,1,2,3,4,5,6,7,8,9,10],[24,25,26,27,28,29,30,31,32,33])),(9,([0,1,2,3,4,5,6,7,8,9,10],[6,34,35,36,37,38,39,40,41,42,43])),z 10 [44],z 11 [1,5,21,45]]
noncomputable def xc86:XC:=cdOf (chkF Tryz.prog hs86 Tryz.f86)
noncomputable def fe86:FnE:=⟨46,[(2,some (some 6)),(3,none)],xc86⟩
theorem ok86:FnOk Tryz.prog 86 fe86:=fnOk_of Tryz.func86 (by kernel_rfl:chkF Tryz.prog hs86 Tryz.f86=some fe86)
/- 87 crimp/sheets.Ends -/
def hs87:Hints:=[z 0 [0,1,5],z 1 [2,13,14,15,12,16,17],z 2 [18],z 3 [3,6,7,19,20,21],z 4 [5,6,7,19,23,24,22,25,26,9],(5,([0,1,2,3,4,5,6,7,8,9,10,11,12,13,14,15],[3,8,27,28,29,30,31,32,33,34,35,36,37,38])),z 6 [39,40,41,42,43,44,45,46,47,48,49,50,51,52,53,54,55,56],z 7 [57,58,59],z 8 [10,11,57,60,61,62]]
noncomputable def xc87:XC:=cdOf (chkF Tryz.prog hs87 Tryz.f87)
noncomputable def fe87:FnE:=⟨63,[(4,some (some 4)),(5,none)],xc87⟩
theorem ok87:FnOk Tryz.prog 87 fe87:=fnOk_of Tryz.func87 (by kernel_rfl:chkF Tryz.prog hs87 Tryz.f87=some fe87)
/- 88 crimp/corners.sign -/
def hs88:Hints:=[z 0 [2],z 1 [0,3,4,5]]
noncomputable def xc88:XC:=cdOf (chkF Tryz.prog hs88 Tryz.f88)
noncomputable def fe88:FnE:=⟨6,[(2,none)],xc88⟩
theorem ok88:FnOk Tryz.prog 88 fe88:=fnOk_of Tryz.func88 (by kernel_rfl:chkF Tryz.prog hs88 Tryz.f88=some fe88)
/- 89 slices.Index[[]crimp/api.Point,crimp/api.Point] -/
def hs89:Hints:=[z 0 [1,4],z 1 [6],z 3 [9,10],(4,([0,1,2,3,4,5],[11,12,13,14,15])),z 5 [8,0,3,7,5,16,17],z 6 [4,5,16,18],z 7 [0,3,7,8]]
noncomputable def xc89:XC:=cdOf (chkF Tryz.prog hs89 Tryz.f89)
noncomputable def fe89:FnE:=⟨19,[(4,none)],xc89⟩
theorem ok89:FnOk Tryz.prog 89 fe89:=fnOk_of Tryz.func89 (by kernel_rfl:chkF Tryz.prog hs89 Tryz.f89=some fe89)
/- 90 crimp/patterns.find -/
def hs90:Hints:=[z 0 [1,4,5],z 1 [0,3,6,7,8,9,10]]
noncomputable def xc90:XC:=cdOf (chkF Tryz.prog hs90 Tryz.f90)
noncomputable def fe90:FnE:=⟨11,[(4,none),(5,none)],xc90⟩
theorem ok90:FnOk Tryz.prog 90 fe90:=fnOk_of Tryz.func90 (by kernel_rfl:chkF Tryz.prog hs90 Tryz.f90=some fe90)
/- 91 slices.insertionSortCmpFunc[crimp/corners.Ray] -/
def hs91:Hints:=[z 0 [10,11],z 1 [12,13],z 3 [14,17],(4,([0,1,2,3,4,5,6,7,8,9,10,11,12,13,14,15,16],[18,19,20,21])),(6,([0,1,2,3,4,5,6,7,8,9,10,11,12,13,14,15,16,17],[34,37,38,39,40,41,42,43,44,45,46,47,48,49,50,51,52])),z 5 [35,36],z 2 [9,15,16]]
noncomputable def xc91:XC:=cdOf (chkF Tryz.prog hs91 Tryz.f91)
noncomputable def fe91:FnE:=⟨53,[],xc91⟩
theorem ok91:FnOk Tryz.prog 91 fe91:=fnOk_of Tryz.func91 (by kernel_rfl:chkF Tryz.prog hs91 Tryz.f91=some fe91)
/- 92 slices.heapSortCmpFunc[crimp/corners.Ray] -/
def hs92:Hints:=[z 0 [13],z 2 [1,2,14,15,16],z 3 [17,18,19],z 4 [20],z 6 [21,24,25,26,27,28,29],z 5 [22,23],z 7 [10,11,30,31],z 8 [32],(10,([0,1,2,3,4,5,6,7,8,9,10,11,12,13,14,15,16,17,18,19],[33,36,37,38,39,40,41,42,43,44,45,46,47,48,49,50,51,52,53])),z 11 [54,55,56,57,58,59],z 9 [34,35]]
noncomputable def xc92:XC:=cdOf (chkF Tryz.prog hs92 Tryz.f92)
noncomputable def fe92:FnE:=⟨60,[],xc92⟩
theorem ok92:FnOk Tryz.prog 92 fe92:=fnOk_of Tryz.func92 (by kernel_rfl:chkF Tryz.prog hs92 Tryz.f92=some fe92)
/- 93 slices.breakPatternsCmpFunc[crimp/corners.Ray] -/
def hs93:Hints:=[z 0 [2,3,13,14,15],z 1 [16],z 2 [17,18,19],z 3 [20,21],z 4 [22,23,24,25,26,27],z 5 [28,29,30,31,32,33,34],z 7 [35,38,39,40,41,42],z 8 [43,44],z 9 [45,46,47,48],(10,([0,1,2,3,4,5,6,7,8,9,10,11,12,13,14,15,16,17,18,19],[12,45,49,50,51,52,53,54,55,56,57,58,59,60,61,62,63,64,65,66])),z 6 [36,37]]
noncomputable def xc93:XC:=cdOf (chkF Tryz.prog hs93 Tryz.f93)
noncomputable def fe93:FnE:=⟨67,[],xc93⟩
theorem ok93:FnOk Tryz.prog 93 fe93:=fnOk_of Tryz.func93 (by kernel_rfl:chkF Tryz.prog hs93 Tryz.f93=some fe93)
/- 94 slices.choosePivotCmpFunc[crimp/corners.Ray] -/
def hs94:Hints:=[z 0 [8,9],z 1 [2,15,16,17],z 3 [18,19,20,21,22],z 4 [23,24,25,26,27],z 5 [1,28,29,30,31,32],z 6 [33],z 7 [10,34,35],z 8 [36,37,38,39,40],z 9 [41,42,43,44],z 10 [45,46,47,48],z 11 [0,3,12,14,36,49,50,51,52,53,54],z 12 [11,0,3,10,12,14,34],z 14 [58],z 15 [13,55,57,59],z 16 [55,57,61],z 17 [13,60,62],z 13 [13,60,56]]
noncomputable def xc94:XC:=cdOf (chkF Tryz.prog hs94 Tryz.f94)
noncomputable def fe94:FnE:=⟨63,[(8,none),(9,none)],xc94⟩
theorem ok94:FnOk Tryz.prog 94 fe94:=fnOk_of Tryz.func94 (by kernel_rfl:chkF Tryz.prog hs94 Tryz.f94=some fe94)
/- 95 slices.reverseRangeCmpFunc[crimp/corners.Ray] -/
def hs95:Hints:=[z 0 [1,3,10],z 1 [2,11,12],z 2 [13,14],(3,([0,1,2,3,4,5,6,7,8,9,10,11,12,13,14,15],[15,16,17,18,19,20,21,22,23,24,25,26,27,28,29])),z 4 [30,31],z 5 [32,33]]
noncomputable def xc95:XC:=cdOf (chkF Tryz.prog hs95 Tryz.f95)
noncomputable def fe95:FnE:=⟨34,[],xc95⟩
theorem ok95:FnOk Tryz.prog 95 fe95:=fnOk_of Tryz.func95 (by kernel_rfl:chkF Tryz.prog hs95 Tryz.f95=some fe95)
/- 96 slices.partialInsertionSortCmpFunc[crimp/corners.Ray] -/
def hs96:Hints:=[z 0 [8],z 1 [13,14],z 3 [15],(5,([0,1,2,3,4,5,6,7,8,9,10,11,12,13,14,15,16,17],[19,20,21,22])),z 6 [36,37,38],z 7 [16,39,40],z 8 [9,10,0,3,2,1,35,34,33,23,27,32,31,28,30,29,26,24,25,41],z 9 [8,41,42,43,44],z 10 [9,10,0,3,2,1,35,34,33,23,27,32,31,28,30,29,26,24,25,45],(11,([0,1,2,3,4,5,6,7,8,9,10,11,12,13,14,15,16,17],[8,45,46,47,48,49,50,51,52,53,54,55,56,57,58,59,60,61])),z 12 [62,63,64],z 13 [65,66,67],z 14 [68],(16,([0,1,2,3,4,5,6,7,8,9,10,11,12],[69,72,73,74,75,76,77,78,79,80,81,82,83])),(17,([0,1,2,3,4,5,6,7,8,9,10,11,12,13,14,15,16,17],[84,85,86,87,88,89,90,91,92,93,94,95,96,97,98,99,100])),z 15 [70,71],z 18 [11,65,101,102,103],z 19 [104,105,106],z 20 [107,108],(22,([0,1,2,3,4,5,6,7,8,9,10,11,12],[109,112,113,114,115,116,117,118,119,120,121,122,123])),(23,([0,1,2,3,4,5,6,7,8,9,10,11,12,13,14,15,16,17],[124,125,126,127,128,129,130,131,132,133,134,135,136,137,138,139,140])),z 21 [110,111],z 4 [12,104,17,18],z 24 [0,1,2,3,9,10]]
noncomputable def xc96:XC:=cdOf (chkF Tryz.prog hs96 Tryz.f96)
noncomputable def fe96:FnE:=⟨141,[(8,none)],xc96⟩
theorem ok96:FnOk Tryz.prog 96 fe96:=fnOk_of Tryz.func96 (by kernel_rfl:chkF Tryz.prog hs96 Tryz.f96=some fe96)
/- 97 slices.partitionEqualCmpFunc[crimp/corners.Ray] -/
def hs97:Hints:=[z 0 [10],(1,([0,1,2,3,4,5,6,7,8,9,10,11,12,13,14,15],[3,13,14,15,16,17,18,19,20,21,22,23,24,25,26])),z 2 [2,27,28,29,30],(3,([0,1,2,3,4,5,6,7,8,9,10,11,12,13,14,15,16],[31,32,33,34])),z 4 [47,48,49],(5,([0,1,2,3,4,5,6,7,8,9,10,11,12,13,14,15],[50,51,52,53])),z 6 [65,66,67],z 7 [68,69],(8,([0,1,2,3,4,5,6,7,8,9,10,11,12,13,14,15],[70,71,72,73,74,75,76,77,78,79,80,81,82,83,84])),z 9 [85,86],z 10 [87,88],z 11 [0,1,4,11,12,89]]
noncomputable def xc97:XC:=cdOf (chkF Tryz.prog hs97 Tryz.f97)
noncomputable def fe97:FnE:=⟨90,[(10,none)],xc97⟩
theorem ok97:FnOk Tryz.prog 97 fe97:=fnOk_of Tryz.func97 (by kernel_rfl:chkF Tryz.prog hs97 Tryz.f97=some fe97)
/- 98 slices.partitionCmpFunc[crimp/corners.Ray] -/
def hs98:Hints:=[z 0 [10,11],(1,([0,1,2,3,4,5,6,7,8,9,10,11,12,13,14,15],[3,14,15,16,17,18,19,20,21,22,23,24,25,26,27])),z 2 [2,28,29,30,31],(3,([0,1,2,3,4,5,6,7,8,9,10,11,12,13,14,15],[32,33,34,35])),z 4 [47,48,49],(5,([0,1,2,3,4,5,6,7,8,9,10,11,12,13,14,15,16],[50,51,52,53])),z 6 [66,67,68],z 7 [65,64,63,54,58,62,61,59,60,57,55,56,69,70],(8,([0,1,2,3,4,5,6,7,8,9,10,11,12,13,14,15],[0,1,4,12,138,137,136,127,131,135,134,132,133,130,128,129,119,118,109,113,117,116,114,115,112,110,111,71,72,73,74,75,76,77,78,79,80,81,82,83,84,85])),z 9 [13,86],(10,([0,1,2,3,4,5,6,7,8,9,10,11,12,13,14,15],[10,11,71,87,88,89,90,91,92,93,94,95,96,97,98,99,100])),z 11 [101,102],z 12 [103,104],(13,([0,1,2,3,4,5,6,7,8,9,10,11,12,13,14,15],[105,106,107,108])),z 14 [120,121,122],(15,([0,1,2,3,4,5,6,7,8,9,10,11,12,13,14,15,16],[123,124,125,126])),z 16 [139,140,141],z 17 [142,143],(18,([0,1,2,3,4,5,6,7,8,9,10,11,12,13,14,15],[144,145,146,147,148,149,150,151,152,153,154,155,156,157,158])),z 19 [159,160],z 20 [161,162],(21,([0,1,2,3,4,5,6,7,8,9,10,11,12,13,14,15],[0,1,4,12,138,137,136,127,131,135,134,132,133,130,128,129,119,118,109,113,117,116,114,115,112,110,111,163,164,165,166,167,168,169,170,171,172,173,174,175,176])),z 22 [13,177]]
noncomputable def xc98:XC:=cdOf (chkF Tryz.prog hs98 Tryz.f98)
noncomputable def fe98:FnE:=⟨178,[(10,none),(11,none)],xc98⟩
theorem ok98:FnOk Tryz.prog 98 fe98:=fnOk_of Tryz.func98 (by kernel_rfl:chkF Tryz.prog hs98 Tryz.f98=some fe98)
/- 99 (*strings.Builder).Grow -/
def hs99:Hints:=[z 0 [4,5],z 1 [6],z 2 [7,8],(3,([0,1,2,3,4,5,6,7,8,9,10,11,12],[7,9,10,11,12,13,14,15,16,17,18,19,20])),z 4 [0,1,21,22,23,24]]
noncomputable def xc99:XC:=cdOf (chkF Tryz.prog hs99 Tryz.f99)
noncomputable def fe99:FnE:=⟨25,[],xc99⟩
theorem ok99:FnOk Tryz.prog 99 fe99:=fnOk_of Tryz.func99 (by kernel_rfl:chkF Tryz.prog hs99 Tryz.f99=some fe99)
/- 100 (*strings.Builder).WriteString -/
def hs100:Hints:=[z 0 [4,5],z 1 [6,7],z 2 [0,8,9,10,11,12,13,14,15,16],z 3 [1,17,18]]
noncomputable def xc100:XC:=cdOf (chkF Tryz.prog hs100 Tryz.f100)
noncomputable def fe100:FnE:=⟨19,[(4,none),(5,none)],xc100⟩
theorem ok100:FnOk Tryz.prog 100 fe100:=fnOk_of Tryz.func100 (by kernel_rfl:chkF Tryz.prog hs100 Tryz.f100=some fe100)
/- 101 (*strings.Builder).String -/
def hs101:Hints:=[z 0 [2],(1,([0,1,2,3,4,5,6,7,8,9,10,11],[0,3,4,5,6,7,8,9,10,11,12,13]))]
noncomputable def xc101:XC:=cdOf (chkF Tryz.prog hs101 Tryz.f101)
noncomputable def fe101:FnE:=⟨14,[(2,none)],xc101⟩
theorem ok101:FnOk Tryz.prog 101 fe101:=fnOk_of Tryz.func101 (by kernel_rfl:chkF Tryz.prog hs101 Tryz.f101=some fe101)
/- 102 slices.Clone[[]int,int] -/
def hs102:Hints:=[z 0 [2],z 1 [3],z 2 [0,4],z 3 [0,4,5,6,7]]
noncomputable def xc102:XC:=cdOf (chkF Tryz.prog hs102 Tryz.f102)
noncomputable def fe102:FnE:=⟨8,[(2,none)],xc102⟩
theorem ok102:FnOk Tryz.prog 102 fe102:=fnOk_of Tryz.func102 (by kernel_rfl:chkF Tryz.prog hs102 Tryz.f102=some fe102)
/- 103 slices.Reverse[[]int,int] -/
def hs103:Hints:=[z 0 [4,5,6],z 1 [7,8],(3,([0,1,2,3,4,5,6,7,8,9,10,11,12,13,14,15],[9,14,15,16,17,18,19,20,21,22,23,24,25,26,27])),z 2 [10,11,12,13]]
noncomputable def xc103:XC:=cdOf (chkF Tryz.prog hs103 Tryz.f103)
noncomputable def fe103:FnE:=⟨28,[],xc103⟩
theorem ok103:FnOk Tryz.prog 103 fe103:=fnOk_of Tryz.func103 (by kernel_rfl:chkF Tryz.prog hs103 Tryz.f103=some fe103)
/- 104 slices.Clone[[]crimp/api.Kind,crimp/api.Kind] -/
def hs104:Hints:=[z 0 [2],z 1 [3],z 2 [0,4],z 3 [0,4,5,6,7]]
noncomputable def xc104:XC:=cdOf (chkF Tryz.prog hs104 Tryz.f104)
noncomputable def fe104:FnE:=⟨8,[(2,none)],xc104⟩
theorem ok104:FnOk Tryz.prog 104 fe104:=fnOk_of Tryz.func104 (by kernel_rfl:chkF Tryz.prog hs104 Tryz.f104=some fe104)
/- 105 slices.Reverse[[]crimp/api.Kind,crimp/api.Kind] -/
def hs105:Hints:=[z 0 [4,5,6],z 1 [7,8],(3,([0,1,2,3,4,5,6,7,8,9,10,11,12,13,14,15],[9,14,15,16,17,18,19,20,21,22,23,24,25,26,27])),z 2 [10,11,12,13]]
noncomputable def xc105:XC:=cdOf (chkF Tryz.prog hs105 Tryz.f105)
noncomputable def fe105:FnE:=⟨28,[],xc105⟩
theorem ok105:FnOk Tryz.prog 105 fe105:=fnOk_of Tryz.func105 (by kernel_rfl:chkF Tryz.prog hs105 Tryz.f105=some fe105)
/- 106 slices.Grow[[]int,int] -/
def hs106:Hints:=[z 0 [4],z 1 [5],z 2 [6,7],z 3 [6,8,9,10,11,12,13,14],z 4 [15],z 5 [1,16,17,18,19,20,21,22,23,24,25],z 6 [0,1,16,26]]
noncomputable def xc106:XC:=cdOf (chkF Tryz.prog hs106 Tryz.f106)
noncomputable def fe106:FnE:=⟨27,[(4,none)],xc106⟩
theorem ok106:FnOk Tryz.prog 106 fe106:=fnOk_of Tryz.func106 (by kernel_rfl:chkF Tryz.prog hs106 Tryz.f106=some fe106)
/- 107 slices.Grow[[]crimp/api.Kind,crimp/api.Kind] -/
def hs107:Hints:=[z 0 [4],z 1 [5],z 2 [6,7],z 3 [6,8,9,10,11,12,13,14],z 4 [15],z 5 [1,16,17,18,19,20,21,22,23,24,25],z 6 [0,1,16,26]]
noncomputable def xc107:XC:=cdOf (chkF Tryz.prog hs107 Tryz.f107)
noncomputable def fe107:FnE:=⟨27,[(4,none)],xc107⟩
theorem ok107:FnOk Tryz.prog 107 fe107:=fnOk_of Tryz.func107 (by kernel_rfl:chkF Tryz.prog hs107 Tryz.f107=some fe107)
/- 109 cmp.Compare[crimp/api.Kind] -/
def hs109:Hints:=[z 0 [4],z 1 [7,8],z 2 [9,10],z 3 [5],z 4 [0,1,6,11],z 5 [12],z 6 [12],z 7 [4,6,11],z 8 [0,1,13],z 9 [4,13,14,15],z 10 [0,1,16],z 11 [4,0,1,16,17,18],z 12 [19],z 13 [19]]
noncomputable def xc109:XC:=cdOf (chkF Tryz.prog hs109 Tryz.f109)
noncomputable def fe109:FnE:=⟨20,[(4,none)],xc109⟩
theorem ok109:FnOk Tryz.prog 109 fe109:=fnOk_of Tryz.func109 (by kernel_rfl:chkF Tryz.prog hs109 Tryz.f109=some fe109)
/- 110 internal/strconv.FormatInt -/
def hs110:Hints:=[z 0 [4],z 1 [10],z 2 [1,11,12,13,14,15,16],z 3 [0,17,18,19],z 4 [4,17],z 5 [20,21],z 6 [22],z 7 [23,24,25],z 8 [23,26,27],z 9 [6,28,29,30,31,32],z 10 [0,33],z 11 [34,35],z 12 [5,7,36,37,38,39],z 13 [5,7,34,40,41,42,43],z 14 [4,0,1,11,45,46,47,48,49,50,44,51,52,8],z 15 [9,53]]
noncomputable def xc110:XC:=cdOf (chkF Tryz.prog hs110 Tryz.f110)
noncomputable def fe110:FnE:=⟨54,[(4,none)],xc110⟩
theorem ok110:FnOk Tryz.prog 110 fe110:=fnOk_of Tryz.func110 (by kernel_rfl:chkF Tryz.prog hs110 Tryz.f110=some fe110)
/- 113 slices.siftDownCmpFunc[crimp/patterns.Crease] -/
def hs113:Hints:=[z 0 [1,12],z 1 [13,14,15],z 2 [16,17],(3,([0,1,2,3,4,5,6,7,8,9,10,11,12,13,14,15,16,17,18,19,20,21],[18,19,20,21,22,23])),z 4 [40,41,42],(5,([0,1,2,3,4,5,6,7,8,9,10,11,12,13,14,15],[40,43,44,45,46,47,48,49,50,51,52,53,54,55,56,57])),(6,([0,1,2,3,4,5,6,7,8,9,10,11,12,13,14,15,16,17,18,19,20,21,22,23],[10,58,59,60,61,62,63,64,65,66,67,68,69,70,71,72,73,74,75,76,77,78,79,80])),z 7 [11,81]]
noncomputable def xc113:XC:=cdOf (chkF Tryz.prog hs113 Tryz.f113)
noncomputable def fe113:FnE:=⟨82,[],xc113⟩
theorem ok113:FnOk Tryz.prog 113 fe113:=fnOk_of Tryz.func113 (by kernel_rfl:chkF Tryz.prog hs113 Tryz.f113=some fe113)
/- 114 slices.nextPowerOfTwo -/
def hs114:Hints:=[z 0 [2],z 1 [0,3,4,5,6]]
noncomputable def xc114:XC:=cdOf (chkF Tryz.prog hs114 Tryz.f114)
noncomputable def fe114:FnE:=⟨7,[(2,none)],xc114⟩
theorem ok114:FnOk Tryz.prog 114 fe114:=fnOk_of Tryz.func114 (by kernel_rfl:chkF Tryz.prog hs114 Tryz.f114=some fe114)
/- 115 (*slices.xorshift).Next -/
def hs115:Hints:=[z 0 [2],(1,([0,1,2,3,4,5,6,7,8,9],[3,4,5,6,7,8,9,10,11])),(2,([0,1,2,3,4,5,6,7,8,9],[12,13,14,15,16,17,18,19,20])),(3,([0,1,2,3,4,5,6,7,8,9],[21,22,23,24,25,26,27,28,29])),z 4 [0,30,31,32]]
noncomputable def xc115:XC:=cdOf (chkF Tryz.prog hs115 Tryz.f115)
noncomputable def fe115:FnE:=⟨33,[(2,none)],xc115⟩
theorem ok115:FnOk Tryz.prog 115 fe115:=fnOk_of Tryz.func115 (by kernel_rfl:chkF Tryz.prog hs115 Tryz.f115=some fe115)
/- 116 slices.medianAdjacentCmpFunc[crimp/patterns.Crease] -/
def hs116:Hints:=[z 0 [8],z 1 [0,1,2,3,9,10,11,12,13,14,15,16,17]]
noncomputable def xc116:XC:=cdOf (chkF Tryz.prog hs116 Tryz.f116)
noncomputable def fe116:FnE:=⟨18,[(8,none)],xc116⟩
theorem ok116:FnOk Tryz.prog 116 fe116:=fnOk_of Tryz.func116 (by kernel_rfl:chkF Tryz.prog hs116 Tryz.f116=some fe116)
/- 117 slices.medianCmpFunc[crimp/patterns.Crease] -/
def hs117:Hints:=[z 0 [12],z 1 [14,15,16,17,18,19,13,20,21],z 2 [3,23,24,25,26,27,28,22,29,30],z 3 [0,1,4,5,32,33,34,35,36,37,31,38,39],z 4 [2,40]]
noncomputable def xc117:XC:=cdOf (chkF Tryz.prog hs117 Tryz.f117)
noncomputable def fe117:FnE:=⟨41,[(12,none)],xc117⟩
theorem ok117:FnOk Tryz.prog 117 fe117:=fnOk_of Tryz.func117 (by kernel_rfl:chkF Tryz.prog hs117 Tryz.f117=some fe117)
/- 118 (crimp/sheets.Sheet).has -/
def hs118:Hints:=[z 0 [0,4],z 1 [1,2,5,6,7,8,9,10,11,12,13,14,15,16]]
noncomputable def xc118:XC:=cdOf (chkF Tryz.prog hs118 Tryz.f118)
noncomputable def fe118:FnE:=⟨17,[(4,none)],xc118⟩
theorem ok118:FnOk Tryz.prog 118 fe118:=fnOk_of Tryz.func118 (by kernel_rfl:chkF Tryz.prog hs118 Tryz.f118=some fe118)
/- 119 (crimp/sheets.Sheet).cell -/
def hs119:Hints:=[z 0 [0],(1,([0,1,2,3,4,5,6,7,8,9,10,11,12,13,14],[1,2,5,6,7,8,9,10,11,12,13,14,15,16,17,18]))]
noncomputable def xc119:XC:=cdOf (chkF Tryz.prog hs119 Tryz.f119)
noncomputable def fe119:FnE:=⟨19,[(4,some (some 3))],xc119⟩
theorem ok119:FnOk Tryz.prog 119 fe119:=fnOk_of Tryz.func119 (by kernel_rfl:chkF Tryz.prog hs119 Tryz.f119=some fe119)
/- 120 crimp/sheets.named -/
def hs120:Hints:=[z 0 [0,1,5],z 1 [9,10],z 2 [11],z 3 [2,3,6,12,13,14],z 4 [5,6,12,16,17,18,19,20,21,15,22,23],z 5 [7,8,24,25,26,27,28,29],z 6 [2,3,30,31],z 7 [2,3,30,32,33,34,35]]
noncomputable def xc120:XC:=cdOf (chkF Tryz.prog hs120 Tryz.f120)
noncomputable def fe120:FnE:=⟨36,[(4,some (some 3)),(5,none)],xc120⟩
theorem ok120:FnOk Tryz.prog 120 fe120:=fnOk_of Tryz.func120 (by kernel_rfl:chkF Tryz.prog hs120 Tryz.f120=some fe120)
/- 121 slices.BinarySearchFunc[[]crimp/patterns.Crease,crimp/patterns.Crease,crimp/sheets.Unit] -/
def hs121:Hints:=[z 0 [1,6,7],z 1 [12,13],z 2 [14],z 3 [15,16],z 4 [17,18,19,20,21,22,23],(5,([0,1,2,3,4,5,6,7],[24,25,26,27,28,29,30])),z 6 [11,31,32,33],z 7 [11,31,34],(8,([0,1,2,3,4,5,6,7,8,9,10,11,12,13,14,15],[0,2,4,8,9,10,47,46,40,44,45,43,41,42,35,36,37,38,39,48]))]
noncomputable def xc121:XC:=cdOf (chkF Tryz.prog hs121 Tryz.f121)
noncomputable def fe121:FnE:=⟨49,[(6,none),(7,none)],xc121⟩
theorem ok121:FnOk Tryz.prog 121 fe121:=fnOk_of Tryz.func121 (by kernel_rfl:chkF Tryz.prog hs121 Tryz.f121=some fe121)
/- 122 crimp/patterns.find$1 -/
def hs122:Hints:=[z 0 [0,1,4],(1,([0,1,2,3,4],[2,3,5,6,7,8]))]
noncomputable def xc122:XC:=cdOf (chkF Tryz.prog hs122 Tryz.f122)
noncomputable def fe122:FnE:=⟨9,[(4,none)],xc122⟩
theorem ok122:FnOk Tryz.prog 122 fe122:=fnOk_of Tryz.func122 (by kernel_rfl:chkF Tryz.prog hs122 Tryz.f122=some fe122)
/- 123 slices.siftDownCmpFunc[crimp/corners.Ray] -/
def hs123:Hints:=[z 0 [1,12],z 1 [13,14,15],z 2 [16,17],(3,([0,1,2,3,4,5,6,7,8,9,10,11,12,13,14,15,16,17,18,19,20,21],[18,19,20,21,22,23])),z 4 [40,41,42],(5,([0,1,2,3,4,5,6,7,8,9,10,11,12,13,14,15],[40,43,44,45,46,47,48,49,50,51,52,53,54,55,56,57])),(6,([0,1,2,3,4,5,6,7,8,9,10,11,12,13,14,15,16,17,18,19,20,21,22,23],[10,58,59,60,61,62,63,64,65,66,67,68,69,70,71,72,73,74,75,76,77,78,79,80])),z 7 [11,81]]
noncomputable def xc123:XC:=cdOf (chkF Tryz.prog hs123 Tryz.f123)
noncomputable def fe123:FnE:=⟨82,[],xc123⟩
theorem ok123:FnOk Tryz.prog 123 fe123:=fnOk_of Tryz.func123 (by kernel_rfl:chkF Tryz.prog hs123 Tryz.f123=some fe123)
/- 124 slices.medianAdjacentCmpFunc[crimp/corners.Ray] -/
def hs124:Hints:=[z 0 [8],z 1 [0,1,2,3,9,10,11,12,13,14,15,16,17]]
noncomputable def xc124:XC:=cdOf (chkF Tryz.prog hs124 Tryz.f124)
noncomputable def fe124:FnE:=⟨18,[(8,none)],xc124⟩
theorem ok124:FnOk Tryz.prog 124 fe124:=fnOk_of Tryz.func124 (by kernel_rfl:chkF Tryz.prog hs124 Tryz.f124=some fe124)
/- 125 slices.medianCmpFunc[crimp/corners.Ray] -/
def hs125:Hints:=[z 0 [12],z 1 [14,15,16,17,18,19,13,20,21],z 2 [3,23,24,25,26,27,28,22,29,30],z 3 [0,1,4,5,32,33,34,35,36,37,31,38,39],z 4 [2,40]]
noncomputable def xc125:XC:=cdOf (chkF Tryz.prog hs125 Tryz.f125)
noncomputable def fe125:FnE:=⟨41,[(12,none)],xc125⟩
theorem ok125:FnOk Tryz.prog 125 fe125:=fnOk_of Tryz.func125 (by kernel_rfl:chkF Tryz.prog hs125 Tryz.f125=some fe125)
/- 126 (*strings.Builder).copyCheck -/
def hs126:Hints:=[z 0 [2,3,4,5],z 1 [0,6,7,8,9,10,11,12,13],z 2 [0,6,14,15,16,17,18]]
noncomputable def xc126:XC:=cdOf (chkF Tryz.prog hs126 Tryz.f126)
noncomputable def fe126:FnE:=⟨20,[],xc126⟩
theorem ok126:FnOk Tryz.prog 126 fe126:=fnOk_of Tryz.func126 (by kernel_rfl:chkF Tryz.prog hs126 Tryz.f126=some fe126)
/- 127 (*strings.Builder).grow -/
def hs127:Hints:=[(0,([0,1,2,3,4,5,6,7,8,9,10,11,12,13,14,15],[1,5,6,7,8,9,10,11,12,13,14,15,16,17,18,19])),z 1 [20,21,22,23,24,25],z 2 [0,4,26,27,28,29]]
noncomputable def xc127:XC:=cdOf (chkF Tryz.prog hs127 Tryz.f127)
noncomputable def fe127:FnE:=⟨30,[],xc127⟩
theorem ok127:FnOk Tryz.prog 127 fe127:=fnOk_of Tryz.func127 (by kernel_rfl:chkF Tryz.prog hs127 Tryz.f127=some fe127)
/- 128 cmp.isNaN[crimp/api.Kind] -/
def hs128:Hints:=[z 0 [2],z 1 [0,3,4,5]]
noncomputable def xc128:XC:=cdOf (chkF Tryz.prog hs128 Tryz.f128)
noncomputable def fe128:FnE:=⟨6,[(2,none)],xc128⟩
theorem ok128:FnOk Tryz.prog 128 fe128:=fnOk_of Tryz.func128 (by kernel_rfl:chkF Tryz.prog hs128 Tryz.f128=some fe128)
/- 129 internal/strconv.small -/
def hs129:Hints:=[z 0 [2],z 1 [3],z 2 [0,4,5,6,7,8],z 3 [0,4,9,10,11,12,13,14]]
noncomputable def xc129:XC:=cdOf (chkF Tryz.prog hs129 Tryz.f129)
noncomputable def fe129:FnE:=⟨15,[(2,none)],xc129⟩
theorem ok129:FnOk Tryz.prog 129 fe129:=fnOk_of Tryz.func129 (by kernel_rfl:chkF Tryz.prog hs129 Tryz.f129=some fe129)
/- 130 internal/strconv.numDigits -/
def hs130:Hints:=[z 0 [2],z 1 [4,5,6],z 2 [0,3,7,8,9,10,11,12,13,14]]
noncomputable def xc130:XC:=cdOf (chkF Tryz.prog hs130 Tryz.f130)
noncomputable def fe130:FnE:=⟨15,[(2,none)],xc130⟩
theorem ok130:FnOk Tryz.prog 130 fe130:=fnOk_of Tryz.func130 (by kernel_rfl:chkF Tryz.prog hs130 Tryz.f130=some fe130)
/- 131 internal/strconv.formatBase10 -/
def hs131:Hints:=[z 0 [17,18],z 1 [19],z 2 [20,21,22,23],z 3 [24,25],z 4 [5,26,27,28,29],z 5 [7,30,31,32,33,34,35],z 6 [6,36,37,38,39,40,41],(7,([0,1,2,3,4,5,6,7,8,9,10,11,12,13,14],[9,42,43,44,45,46,47,48,49,50,51,52,53,54])),(8,([0,1,2,3,4,5,6,7,8,9,10,11,12,13,14],[8,55,56,57,58,59,60,61,62,63,64,65,66,67])),(9,([0,1,2,3,4,5,6,7,8,9,10,11,12,13,14],[11,68,69,70,71,72,73,74,75,76,77,78,79,80])),(10,([0,1,2,3,4,5,6,7,8,9,10,11,12,13,14],[10,81,82,83,84,85,86,87,88,89,90,91,92,93])),z 11 [94,95],z 12 [1,96,97],z 13 [98],z 14 [99,100,101],z 15 [102,103],z 16 [13,104,105,106,107,108,109],(17,([0,1,2,3,4,5,6,7,8,9,10,11,12,13,14],[15,110,111,112,113,114,115,116,117,118,119,120,121,122])),(18,([0,1,2,3,4,5,6,7,8,9,10,11,12,13,14],[14,123,124,125,126,127,128,129,130,131,132,133,134,135])),z 19 [136,137],z 20 [99,138],z 21 [139,140,141,142],z 22 [143,144],(23,([0,1,2,3,4,5,6,7,8,9,10,11,12,13,14],[16,145,146,147,148,149,150,151,152,153,154,155,156,157])),z 24 [158,159],z 25 [4,139,160],z 26 [0,12,161,162,163,164,165,166]]
noncomputable def xc131:XC:=cdOf (chkF Tryz.prog hs131 Tryz.f131)
noncomputable def fe131:FnE:=⟨167,[],xc131⟩
theorem ok131:FnOk Tryz.prog 131 fe131:=fnOk_of Tryz.func131 (by kernel_rfl:chkF Tryz.prog hs131 Tryz.f131=some fe131)
/- 132 internal/strconv.formatBits -/
def hs132:Hints:=[z 1 [19,20,21,22,23,24,25,26,27],z 2 [28,29],z 3 [28],z 6 [30,31,32],z 7 [30,33],z 8 [34,35,36,37,38],z 9 [39,40],z 10 [2,41,42,43],z 11 [44,45],z 12 [46,47,48],z 13 [49,50,51,52,53,54],z 14 [55,56,57],z 15 [14,15,16,58,59],z 16 [1,60,61,62,63],z 17 [2,34,64,65],z 18 [66,67],z 19 [68,69,70],z 20 [71,72,73],z 21 [1,74,75,76,77,78,79,80,81],z 22 [18,82],z 23 [17,83,84],z 24 [1,85,86,87,88],z 25 [3],z 26 [89,90,91],z 27 [92,93],z 28 [4,89],z 29 [0,12,13,94,95,96,97,98],z 30 [0,12,13,94,99,100,101]]
noncomputable def xc132:XC:=cdOf (chkF Tryz.prog hs132 Tryz.f132)
noncomputable def fe132:FnE:=⟨102,[(10,none),(11,none)],xc132⟩
theorem ok132:FnOk Tryz.prog 132 fe132:=fnOk_of Tryz.func132 (by kernel_rfl:chkF Tryz.prog hs132 Tryz.f132=some fe132)
/- 137 slices.order2CmpFunc[crimp/patterns.Crease] -/
def hs137:Hints:=[z 0 [10,11],(1,([0,1,2,3,4,5,6,7,8,9,10],[0,4,12,13,14,15,16,17,18,19,20,21])),z 2 [3,22,23,24,25,26,27],z 3 [1,2,28,29],z 4 [1,2,3,22,30,31]]
noncomputable def xc137:XC:=cdOf (chkF Tryz.prog hs137 Tryz.f137)
noncomputable def fe137:FnE:=⟨32,[(10,none),(11,none)],xc137⟩
theorem ok137:FnOk Tryz.prog 137 fe137:=fnOk_of Tryz.func137 (by kernel_rfl:chkF Tryz.prog hs137 Tryz.f137=some fe137)
/- 138 slices.order2CmpFunc[crimp/corners.Ray] -/
def hs138:Hints:=[z 0 [10,11],(1,([0,1,2,3,4,5,6,7,8,9,10],[0,4,12,13,14,15,16,17,18,19,20,21])),z 2 [3,22,23,24,25,26,27],z 3 [1,2,28,29],z 4 [1,2,3,22,30,31]]
noncomputable def xc138:XC:=cdOf (chkF Tryz.prog hs138 Tryz.f138)
noncomputable def fe138:FnE:=⟨32,[(10,none),(11,none)],xc138⟩
theorem ok138:FnOk Tryz.prog 138 fe138:=fnOk_of Tryz.func138 (by kernel_rfl:chkF Tryz.prog hs138 Tryz.f138=some fe138)
/- 141 internal/strconv.log10Pow2 -/
def hs141:Hints:=[z 0 [2],z 1 [0,3,4,5]]
noncomputable def xc141:XC:=cdOf (chkF Tryz.prog hs141 Tryz.f141)
noncomputable def fe141:FnE:=⟨6,[(2,none)],xc141⟩
theorem ok141:FnOk Tryz.prog 141 fe141:=fnOk_of Tryz.func141 (by kernel_rfl:chkF Tryz.prog hs141 Tryz.f141=some fe141)
/- 142 internal/strconv.bool2[int] -/
def hs142:Hints:=[z 0 [2],z 1 [0],z 2 [3],z 3 [3]]
noncomputable def xc142:XC:=cdOf (chkF Tryz.prog hs142 Tryz.f142)
noncomputable def fe142:FnE:=⟨4,[(2,none)],xc142⟩
theorem ok142:FnOk Tryz.prog 142 fe142:=fnOk_of Tryz.func142 (by kernel_rfl:chkF Tryz.prog hs142 Tryz.f142=some fe142)
/- 143 internal/strconv.isPowerOfTwo -/
def hs143:Hints:=[z 0 [2],z 1 [0,3,4,5,6,7]]
noncomputable def xc143:XC:=cdOf (chkF Tryz.prog hs143 Tryz.f143)
noncomputable def fe143:FnE:=⟨8,[(2,none)],xc143⟩
theorem ok143:FnOk Tryz.prog 143 fe143:=fnOk_of Tryz.func143 (by kernel_rfl:chkF Tryz.prog hs143 Tryz.f143=some fe143)
/- 144 math/bits.TrailingZeros -/
def hs144:Hints:=[z 0 [2],z 1 [0,3,4,5],z 2 [0,6,7]]
noncomputable def xc144:XC:=cdOf (chkF Tryz.prog hs144 Tryz.f144)
noncomputable def fe144:FnE:=⟨8,[(2,none)],xc144⟩
theorem ok144:FnOk Tryz.prog 144 fe144:=fnOk_of Tryz.func144 (by kernel_rfl:chkF Tryz.prog hs144 Tryz.f144=some fe144)
/- 149 math/bits.TrailingZeros32 -/
def hs149:Hints:=[z 0 [2],z 1 [3],z 2 [0,4],z 3 [0,4,5,6,7,8,9,10,11,12,13]]
noncomputable def xc149:XC:=cdOf (chkF Tryz.prog hs149 Tryz.f149)
noncomputable def fe149:FnE:=⟨14,[(2,none)],xc149⟩
theorem ok149:FnOk Tryz.prog 149 fe149:=fnOk_of Tryz.func149 (by kernel_rfl:chkF Tryz.prog hs149 Tryz.f149=some fe149)
/- 150 math/bits.TrailingZeros64 -/
def hs150:Hints:=[z 0 [2],z 1 [3],z 2 [0,4],z 3 [0,4,5,6,7,8,9,10,11,12,13]]
noncomputable def xc150:XC:=cdOf (chkF Tryz.prog hs150 Tryz.f150)
noncomputable def fe150:FnE:=⟨14,[(2,none)],xc150⟩
theorem ok150:FnOk Tryz.prog 150 fe150:=fnOk_of Tryz.func150 (by kernel_rfl:chkF Tryz.prog hs150 Tryz.f150=some fe150)
noncomputable def xpl:List (Nat×FnE):=[(3,fe3),(5,fe5),(6,fe6),(7,fe7),(8,fe8),(9,fe9),(10,fe10),(11,fe11),(12,fe12),(16,fe16),(17,fe17),(18,fe18),(19,fe19),(20,fe20),(21,fe21),(22,fe22),(23,fe23),(24,fe24),(25,fe25),(26,fe26),(27,fe27),(28,fe28),(29,fe29),(30,fe30),(31,fe31),(32,fe32),(33,fe33),(34,fe34),(35,fe35),(36,fe36),(37,fe37),(38,fe38),(39,fe39),(40,fe40),(41,fe41),(42,fe42),(43,fe43),(47,fe47),(49,fe49),(50,fe50),(51,fe51),(52,fe52),(53,fe53),(54,fe54),(55,fe55),(56,fe56),(57,fe57),(58,fe58),(59,fe59),(60,fe60),(61,fe61),(62,fe62),(63,fe63),(64,fe64),(65,fe65),(66,fe66),(67,fe67),(69,fe69),(70,fe70),(71,fe71),(74,fe74),(75,fe75),(76,fe76),(77,fe77),(78,fe78),(79,fe79),(80,fe80),(81,fe81),(82,fe82),(83,fe83),(84,fe84),(85,fe85),(86,fe86),(87,fe87),(88,fe88),(89,fe89),(90,fe90),(91,fe91),(92,fe92),(93,fe93),(94,fe94),(95,fe95),(96,fe96),(97,fe97),(98,fe98),(99,fe99),(100,fe100),(101,fe101),(102,fe102),(103,fe103),(104,fe104),(105,fe105),(106,fe106),(107,fe107),(109,fe109),(110,fe110),(113,fe113),(114,fe114),(115,fe115),(116,fe116),(117,fe117),(118,fe118),(119,fe119),(120,fe120),(121,fe121),(122,fe122),(123,fe123),(124,fe124),(125,fe125),(126,fe126),(127,fe127),(128,fe128),(129,fe129),(130,fe130),(131,fe131),(132,fe132),(137,fe137),(138,fe138),(141,fe141),(142,fe142),(143,fe143),(144,fe144),(149,fe149),(150,fe150)]
theorem xpOk:XpOk Tryz.prog (aget xpl):=xpOk_of (l:=xpl) ⟨ok3,ok5,ok6,ok7,ok8,ok9,ok10,ok11,ok12,ok16,ok17,ok18,ok19,ok20,ok21,ok22,ok23,ok24,ok25,ok26,ok27,ok28,ok29,ok30,ok31,ok32,ok33,ok34,ok35,ok36,ok37,ok38,ok39,ok40,ok41,ok42,ok43,ok47,ok49,ok50,ok51,ok52,ok53,ok54,ok55,ok56,ok57,ok58,ok59,ok60,ok61,ok62,ok63,ok64,ok65,ok66,ok67,ok69,ok70,ok71,ok74,ok75,ok76,ok77,ok78,ok79,ok80,ok81,ok82,ok83,ok84,ok85,ok86,ok87,ok88,ok89,ok90,ok91,ok92,ok93,ok94,ok95,ok96,ok97,ok98,ok99,ok100,ok101,ok102,ok103,ok104,ok105,ok106,ok107,ok109,ok110,ok113,ok114,ok115,ok116,ok117,ok118,ok119,ok120,ok121,ok122,ok123,ok124,ok125,ok126,ok127,ok128,ok129,ok130,ok131,ok132,ok137,ok138,ok141,ok142,ok143,ok144,ok149,ok150,trivial⟩
end Go.Proofs.YtfafinkgmhkdmaaGreatDoor.X
