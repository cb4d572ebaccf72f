/-
 The functions of the translation, with types resolved (made by a program).
-/
import Derived.Test.YtfpcbimohikhmaaDoorProg
import Derived.Test.YtfpcbimohikhmaaDoorAb4
import Derived.KernelRfl
set_option linter.unusedVariables false
set_option maxRecDepth 1000000
namespace Go.Proofs.YtfpcbimohikhmaaDoor.X
open Go Go.Ab

abbrev z (n:Nat)(l:List Nat):Nat×(List Nat×List Nat):=(n,([],l))
noncomputable def cdOf:Option FnE→XC
 |some f=>f.xc
 |none=>.skip

/- 13 crimp/crimplaw08.FacesErrors -/
def hs13:Hints:=[z 0 [0,2],z 1 [25,26,27,28,29,30,31,32,33,34,35,36,37,38,39,40,41,42,43,44,45],z 2 [1,46],z 3 [2,46,47,48],z 4 [50,51,49,52,53],z 5 [55,56,54,57,58],z 6 [60,61,59,62,63],z 7 [65,66,64,67,68],z 8 [70,71,69,72,73],z 9 [75,76,74,77,78],z 10 [80,81,79,82,83],z 11 [5,7,9,11,13,15,17,84,85,86,87,88,89,90,91,92,93,94,95,96,97,98,99,100,101,102,103,104,105,106,107,108,109,110,111,112,113,114,115],z 12 [1,3,4,6,8,10,12,14,16,116],z 13 [2,3,116,117],z 14 [1,4,6,8,10,12,14,16,118,119,120,121,122,123,124,125,126,127,128,129,130,131,132,133,134,135,136,137,138,139,140,141,142,143],z 15 [2,4,6,8,10,12,14,16,118,144,145,146],z 16 [18,147,148,149],z 17 [151,152,153,154,155,150,156,157],z 19 [158,159,160],z 21 [161,164,165,166],z 20 [162,163],z 22 [19,22,168,169,170,171,172,167,173,174],z 23 [1,20,21,198,195,186,194,190,193,192,191,189,188,187,183,182,179,178,23,24,175,176,177,180,181,184,185,196,197,199]]
noncomputable def xc13:XC:=cdOf (chkF Tryd.prog hs13 Tryd.f13)
noncomputable def fe13:FnE:=⟨200,[(2,none)],xc13⟩
theorem ok13:FnOk Tryd.prog 13 fe13:=fnOk_of Tryd.func13 (by kernel_rfl:chkF Tryd.prog hs13 Tryd.f13=some fe13)
/- 20 crimp/crimpref05.Units -/
def hs20:Hints:=[z 0 [0,2],z 3 [6,7,8,9,10,11,12],z 5 [13],z 6 [16],z 8 [17,20,21,22,23,24],z 9 [25,26,27,28,29,30,31,32],z 7 [25,18,19],z 4 [5,14,15],z 10 [1,3,4,33]]
noncomputable def xc20:XC:=cdOf (chkF Tryd.prog hs20 Tryd.f20)
noncomputable def fe20:FnE:=⟨34,[(2,none)],xc20⟩
theorem ok20:FnOk Tryd.prog 20 fe20:=fnOk_of Tryd.func20 (by kernel_rfl:chkF Tryd.prog hs20 Tryd.f20=some fe20)
/- 21 crimp/crimpref05.Neighbour -/
def hs21:Hints:=[z 0 [0,6],(1,([0,1,2,3,4,5,6,7,8,9,10,11,12,13,14,15],[1,8,9,10,11,12,13,14,15,16,17,18,19,20,21])),(2,([0,1,2,3,4,5],[2,3,7,22,23,24,25,26]))]
noncomputable def xc21:XC:=cdOf (chkF Tryd.prog hs21 Tryd.f21)
noncomputable def fe21:FnE:=⟨27,[(6,none)],xc21⟩
theorem ok21:FnOk Tryd.prog 21 fe21:=fnOk_of Tryd.func21 (by kernel_rfl:chkF Tryd.prog hs21 Tryd.f21=some fe21)
/- 23 crimp/crimpref06.With -/
def hs23:Hints:=[z 0 [0],z 1 [8,9],z 2 [2,10,11],z 4 [12,13,14,15,16],z 6 [21,24,25,26,27],(7,([0,1,2,3,4,5,6,7,8,9,10,11,12,13,14,15,16,17,18,19,20],[28,29,30,31,32,33,34,35,36,37,38,39,40,41,42,43,44,45,46,47,48])),z 5 [28,22,23],z 8 [1,5,6,7,49]]
noncomputable def xc23:XC:=cdOf (chkF Tryd.prog hs23 Tryd.f23)
noncomputable def fe23:FnE:=⟨50,[(4,some (some 3))],xc23⟩
theorem ok23:FnOk Tryd.prog 23 fe23:=fnOk_of Tryd.func23 (by kernel_rfl:chkF Tryd.prog hs23 Tryd.f23=some fe23)
/- 27 crimp/patterns.Check -/
def hs27:Hints:=[z 0 [0,2],z 1 [9,10,11],z 2 [12],z 3 [1,3,13,14],z 4 [2,3,13,15,16],z 5 [1,17],z 6 [2,17,18],z 8 [22,23,24],z 9 [26,27,28,29,30,31,32,25,33,34],(10,([0,1,2,3,4,5,6,7],[5,6,7,35,36,37])),z 11 [21,41,38,40,39,1,19,20,42],z 12 [2,42,43],z 13 [19,20,21],z 14 [44,45,46,47],(16,([0,1,2,3,4,5,6,7,8,9,10,11,12,13,14],[48,51,52,53,54,55,56,57,58,59,60,61,62,63,64])),z 17 [8,1,65],z 15 [2,65,49,50],z 18 [1,8]]
noncomputable def xc27:XC:=cdOf (chkF Tryd.prog hs27 Tryd.f27)
noncomputable def fe27:FnE:=⟨66,[(2,none)],xc27⟩
theorem ok27:FnOk Tryd.prog 27 fe27:=fnOk_of Tryd.func27 (by kernel_rfl:chkF Tryd.prog hs27 Tryd.f27=some fe27)
/- 29 crimp/crimpref05.Valid -/
def hs29:Hints:=[z 0 [0,2],z 1 [1,3,4,5,6,7,8,9,10,11,12,13,14,15,16,17,18,19,20,21,22,23,24,25,26,27],z 2 [28],z 3 [28]]
noncomputable def xc29:XC:=cdOf (chkF Tryd.prog hs29 Tryd.f29)
noncomputable def fe29:FnE:=⟨29,[(2,none)],xc29⟩
theorem ok29:FnOk Tryd.prog 29 fe29:=fnOk_of Tryd.func29 (by kernel_rfl:chkF Tryd.prog hs29 Tryd.f29=some fe29)
/- 30 crimp/crimpref06.Check -/
def hs30:Hints:=[z 0 [0,2],z 1 [10,11,12],z 2 [1,13],z 3 [2,13],z 4 [14,15,16,17],z 6 [18,21,22,23,24,25,26,27,28],z 7 [3,35,34,33,32,30,31,29,1,36],z 5 [2,36,19,20],z 8 [3,37,38,39],z 12 [40,41,42,43],z 14 [44],z 16 [47,48,49],(18,([0,1,2,3,4,5,6,7,8,9,10,11,12,13,14,15,16,17],[50,53,54,55,56,57,58,59,60,61,62,63,64,65,66,67,68,69])),z 19 [70,71],z 17 [70,51,52],z 20 [9,72],z 21 [7,1,4,5,6,8,73],z 22 [2,5,73,74,75],z 23 [76],z 24 [8,76,77],z 13 [45,46],z 25 [1,4,5,6,7,78]]
noncomputable def xc30:XC:=cdOf (chkF Tryd.prog hs30 Tryd.f30)
noncomputable def fe30:FnE:=⟨79,[(2,none)],xc30⟩
theorem ok30:FnOk Tryd.prog 30 fe30:=fnOk_of Tryd.func30 (by kernel_rfl:chkF Tryd.prog hs30 Tryd.f30=some fe30)
/- 37 crimp/faces.Graph -/
def hs37:Hints:=[z 0 [0,2,3],z 1 [15,16,14,17,18],z 2 [19],z 3 [1,4,5,20,21],z 4 [2,3,5,20,22],z 5 [23],z 7 [27,28,29],z 8 [31,32,33,34,35,36,37,30,38,39,10],(9,([0,1,2,3,4,5,6,7,8,9,10,11,12,13,14,15,16,17,18,19,20,21,22,23,24,25,26],[8,9,40,41,42,43,44,45,46,47,48,49,50,51,52,53,54,55,56,57,58,59,60,61,62,63,64,65])),z 10 [66],z 11 [1,4,24,25,26,67,68,69],z 12 [6,70],z 13 [72],z 14 [73,74,75,76],z 15 [12,13,77,78,79,80,81,82,83,84,85],z 16 [71,86,87],z 17 [11,88]]
noncomputable def xc37:XC:=cdOf (chkF Tryd.prog hs37 Tryd.f37)
noncomputable def fe37:FnE:=⟨89,[(2,none),(3,none)],xc37⟩
theorem ok37:FnOk Tryd.prog 37 fe37:=fnOk_of Tryd.func37 (by kernel_rfl:chkF Tryd.prog hs37 Tryd.f37=some fe37)
/- 38 crimp/faces.Loose -/
def hs38:Hints:=[z 0 [0,2,3],z 1 [1,7,8,6,9,10],z 2 [4,5,11,12,13]]
noncomputable def xc38:XC:=cdOf (chkF Tryd.prog hs38 Tryd.f38)
noncomputable def fe38:FnE:=⟨14,[(2,none),(3,none)],xc38⟩
theorem ok38:FnOk Tryd.prog 38 fe38:=fnOk_of Tryd.func38 (by kernel_rfl:chkF Tryd.prog hs38 Tryd.f38=some fe38)
/- 40 crimp/crimplaw08.lives -/
def hs40:Hints:=[z 0 [0],z 1 [25,26,27],(2,([0,1,2,3,4,5,6,7,8,9,10,11,12],[2,3,28,29,30,31,32,33,34,35,36,37,38,39])),z 3 [40,41,42,43,44],z 4 [45,46,47,48,49],z 6 [50],z 8 [51,55,56,57,58,59,54,60,61],z 9 [63,64,65,66,67,62,68,69],z 10 [71,72,73,74,75,70,76,77],(11,([0,1,2,3,4,5,6,7,8,9,10,11,12,13,14,15,16,17,18,19,20,21,22,23,24,25,26,27,28,29,30,31,32,33,34,35,36,37,38,39,40,41,42,43,44,45],[8,9,10,11,12,13,78,79,80,83,84,87,88,96,97,103,104,117,118])),z 12 [7,122,119,121,120,116,107,115,110,114,113,111,112,6,109,108,106,105,102,99,101,100,98,95,94,89,93,92,90,91,5,86,85,82,81,4,188,187,184,183,180,177,176,173,172,169,1,123],z 7 [0,123,52,53],z 13 [5,6,7,125,126,127,128,124,129,130,15],z 14 [4,132,133,134,135,131,136,137,17],z 15 [139,140,141,142,143,138,144,145],z 16 [1,147,148,149,150,151,146,152,153,21],z 17 [154,155,156,157,158,159],z 18 [160,161],z 19 [22,163,164,162,165,166],z 20 [188,187,184,183,180,177,176,173,172,169,14,16,18,19,20,23,24,167,168,170,171,174,175,178,179,181,182,185,186,189]]
noncomputable def xc40:XC:=cdOf (chkF Tryd.prog hs40 Tryd.f40)
noncomputable def fe40:FnE:=⟨190,[(0,none)],xc40⟩
theorem ok40:FnOk Tryd.prog 40 fe40:=fnOk_of Tryd.func40 (by kernel_rfl:chkF Tryd.prog hs40 Tryd.f40=some fe40)
/- 42 crimp/crimpref03.Line -/
def hs42:Hints:=[z 0 [0],z 1 [2,12,13],(2,([0,1,2,3,4,5,6,7,8,9,10,11,12,13],[1,5,14,15,16,17,18,19,20,21,22,23])),z 5 [24],z 7 [25,29,30,28,31,32],z 8 [33,34,35,36,37,38,39,40,41,42,43,44,45,46,47,48,49,50],z 9 [10,11,51,52,53,54,55,56,57,58,59,60,61,62,63],z 6 [10,11,51,26,27],z 10 [6,7,8,9,64]]
noncomputable def xc42:XC:=cdOf (chkF Tryd.prog hs42 Tryd.f42)
noncomputable def fe42:FnE:=⟨65,[(4,some (some 2))],xc42⟩
theorem ok42:FnOk Tryd.prog 42 fe42:=fnOk_of Tryd.func42 (by kernel_rfl:chkF Tryd.prog hs42 Tryd.f42=some fe42)
/- 43 crimp/faces.Count -/
def hs43:Hints:=[z 0 [0,2,3],z 1 [1,7,8,6,9,10],z 2 [11],z 3 [4,5,12,13],z 4 [4,5,12,14,15,16]]
noncomputable def xc43:XC:=cdOf (chkF Tryd.prog hs43 Tryd.f43)
noncomputable def fe43:FnE:=⟨17,[(2,none),(3,none)],xc43⟩
theorem ok43:FnOk Tryd.prog 43 fe43:=fnOk_of Tryd.func43 (by kernel_rfl:chkF Tryd.prog hs43 Tryd.f43=some fe43)
/- 44 crimp/faces.Convex -/
def hs44:Hints:=[z 0 [0,4,5],z 1 [1,27,28,29,26,30,31],z 2 [32],z 3 [2,6,7,33,34],z 4 [4,5,7,33,35],z 5 [6],z 7 [39,40,41],z 8 [10,43,44,45,46,42,47,48,12],z 9 [50,51,49,52,53,14],z 10 [13],z 12 [56,57,58],z 13 [59,60,61],z 14 [15,62,63,64],z 15 [65],z 17 [68,69],z 18 [19,70,71,72,73,74,75],z 19 [76],z 20 [16,17,18,66,67,77,78,79],z 21 [80],z 22 [11,54,55,81],z 23 [2,8,36,37,38,82],z 24 [84],z 25 [85,86,87],z 29 [90,91,92],z 31 [93,94,95],z 32 [24,25,93,96,97],z 33 [104,105,106],z 34 [104,107],z 35 [21,22,23,88,89,108,109,110],z 36 [103,102,101,100,99,98,116,113,115,114,112,111,83,117],z 37 [103,102,101,100,99,98,116,113,115,114,112,111,83]]
noncomputable def xc44:XC:=cdOf (chkF Tryd.prog hs44 Tryd.f44)
noncomputable def fe44:FnE:=⟨118,[(4,none),(5,none)],xc44⟩
theorem ok44:FnOk Tryd.prog 44 fe44:=fnOk_of Tryd.func44 (by kernel_rfl:chkF Tryd.prog hs44 Tryd.f44=some fe44)
/- 46 crimp/faces.Sizes -/
def hs46:Hints:=[z 0 [0,2,3],z 1 [1,10,11,9,12,13],z 2 [14],z 3 [4,5,15,16],z 4 [2,3,5,15,17,18,19,20],z 5 [4],z 7 [24,25,26],z 8 [8,27,28,29,30,31,32],z 9 [33],z 10 [6,21,22,23,34]]
noncomputable def xc46:XC:=cdOf (chkF Tryd.prog hs46 Tryd.f46)
noncomputable def fe46:FnE:=⟨35,[(2,none),(3,none)],xc46⟩
theorem ok46:FnOk Tryd.prog 46 fe46:=fnOk_of Tryd.func46 (by kernel_rfl:chkF Tryd.prog hs46 Tryd.f46=some fe46)
/- 47 crimp/faces.Cells -/
def hs47:Hints:=[z 0 [0,4,5],z 1 [2,12,13,11,14,15],z 2 [16],z 3 [1,6,7,17,18],z 4 [4,5,7,17],z 5 [6],z 7 [22,23,24,25],z 8 [10,26,27],z 9 [9,28,29,30,31,32],z 10 [9,28,33],z 11 [1,19,20,21,34,35],z 12 [8,36],z 13 [8,36,37,38]]
noncomputable def xc47:XC:=cdOf (chkF Tryd.prog hs47 Tryd.f47)
noncomputable def fe47:FnE:=⟨39,[(4,none),(5,none)],xc47⟩
theorem ok47:FnOk Tryd.prog 47 fe47:=fnOk_of Tryd.func47 (by kernel_rfl:chkF Tryd.prog hs47 Tryd.f47=some fe47)
/- 48 crimp/crimplaw08.same -/
def hs48:Hints:=[z 0 [4],z 1 [6,7,8,9,10,11,12,13,14,15,16],z 2 [0,1,17],z 3 [4,17],z 4 [18,19,20],(6,([0,1,2,3,4,5,6,7,8],[21,24,25,26,27,28,29,30,31])),z 7 [5,1,0,32],z 5 [4,32,22,23],z 8 [0,1,5]]
noncomputable def xc48:XC:=cdOf (chkF Tryd.prog hs48 Tryd.f48)
noncomputable def fe48:FnE:=⟨33,[(4,none)],xc48⟩
theorem ok48:FnOk Tryd.prog 48 fe48:=fnOk_of Tryd.func48 (by kernel_rfl:chkF Tryd.prog hs48 Tryd.f48=some fe48)
/- 49 crimp/faces.Of -/
def hs49:Hints:=[z 0 [0,2,3],z 1 [10,11],z 2 [12],z 3 [1,4,13,14],z 4 [2,3,4,13,15,16],z 5 [17,18,19,20,21],z 6 [1,5,22],z 8 [23],z 10 [26,27],z 11 [28,29,30,31],z 12 [9,32,33,34,35,36],z 13 [37,38],z 14 [9,32,39],z 15 [6,7,8,24,25,40,41]]
noncomputable def xc49:XC:=cdOf (chkF Tryd.prog hs49 Tryd.f49)
noncomputable def fe49:FnE:=⟨42,[(2,none),(3,none)],xc49⟩
theorem ok49:FnOk Tryd.prog 49 fe49:=fnOk_of Tryd.func49 (by kernel_rfl:chkF Tryd.prog hs49 Tryd.f49=some fe49)
/- 51 crimp/patterns.isKind -/
def hs51:Hints:=[z 0 [2],z 1 [0,3,4,5,6,7,8]]
noncomputable def xc51:XC:=cdOf (chkF Tryd.prog hs51 Tryd.f51)
noncomputable def fe51:FnE:=⟨9,[(2,none)],xc51⟩
theorem ok51:FnOk Tryd.prog 51 fe51:=fnOk_of Tryd.func51 (by kernel_rfl:chkF Tryd.prog hs51 Tryd.f51=some fe51)
/- 54 crimp/crimpref05.Id -/
def hs54:Hints:=[z 0 [0,1,4],z 1 [5,6,7,8,9,10,11,12,13,14,15,16,17,18,19,20,21,22,23,24,25,26,27,28,29,30],z 2 [2,3,31],z 3 [2,3,31,32,33,34,35,36,37,38,39,40,41,42,43,44,45]]
noncomputable def xc54:XC:=cdOf (chkF Tryd.prog hs54 Tryd.f54)
noncomputable def fe54:FnE:=⟨46,[(4,none)],xc54⟩
theorem ok54:FnOk Tryd.prog 54 fe54:=fnOk_of Tryd.func54 (by kernel_rfl:chkF Tryd.prog hs54 Tryd.f54=some fe54)
/- 55 crimp/crimpref03.Neighbour -/
def hs55:Hints:=[z 0 [0],z 1 [1,8,9,10],z 2 [2,11,12],z 4 [13],(6,([0,1,2,3,4,5,6,7],[14,17,18,19,20,21,22,23])),z 5 [15,16],z 7 [5,6,7,24,25]]
noncomputable def xc55:XC:=cdOf (chkF Tryd.prog hs55 Tryd.f55)
noncomputable def fe55:FnE:=⟨26,[(4,some (some 3))],xc55⟩
theorem ok55:FnOk Tryd.prog 55 fe55:=fnOk_of Tryd.func55 (by kernel_rfl:chkF Tryd.prog hs55 Tryd.f55=some fe55)
/- 56 crimp/sheets.Cell -/
def hs56:Hints:=[z 0 [0,5],z 1 [7,8],z 2 [9],z 3 [1,2,6,10,11,12],z 4 [5,6,10,13,14,15],z 5 [1,2,16,17],z 6 [1,2,16,18,19,20]]
noncomputable def xc56:XC:=cdOf (chkF Tryd.prog hs56 Tryd.f56)
noncomputable def fe56:FnE:=⟨21,[(4,some (some 3)),(5,none)],xc56⟩
theorem ok56:FnOk Tryd.prog 56 fe56:=fnOk_of Tryd.func56 (by kernel_rfl:chkF Tryd.prog hs56 Tryd.f56=some fe56)
/- 57 crimp/sheets.Id -/
def hs57:Hints:=[z 0 [0,1,4,5],z 1 [7,8],z 2 [9],z 3 [2,3,6,10,11],z 4 [4,5,6,10,12,13,14,15,16,17,18,19,20,21,22,23,24,25,26,27,28,29,30,31,32,33,34,35,36,37],z 5 [2,3,38],z 6 [2,3,38,39,40,41,42,43,44,45,46,47,48,49,50,51]]
noncomputable def xc57:XC:=cdOf (chkF Tryd.prog hs57 Tryd.f57)
noncomputable def fe57:FnE:=⟨52,[(4,none),(5,none)],xc57⟩
theorem ok57:FnOk Tryd.prog 57 fe57:=fnOk_of Tryd.func57 (by kernel_rfl:chkF Tryd.prog hs57 Tryd.f57=some fe57)
/- 58 crimp/sheets.Name -/
def hs58:Hints:=[z 0 [0,7],z 1 [3,11,12,13,14,10,15,16],z 2 [17],z 3 [1,2,8,9,18,19,20],z 4 [1,2,8,9,18,21,22,23,24,25]]
noncomputable def xc58:XC:=cdOf (chkF Tryd.prog hs58 Tryd.f58)
noncomputable def fe58:FnE:=⟨26,[(6,some (some 2)),(7,none)],xc58⟩
theorem ok58:FnOk Tryd.prog 58 fe58:=fnOk_of Tryd.func58 (by kernel_rfl:chkF Tryd.prog hs58 Tryd.f58=some fe58)
/- 61 crimp/patterns.order -/
def hs61:Hints:=[z 0 [0,1,4],z 1 [5,6,7,8],z 2 [2,3,9,10,11,12,13,14],z 3 [2,3,9,15,16,17,18,19,20,21]]
noncomputable def xc61:XC:=cdOf (chkF Tryd.prog hs61 Tryd.f61)
noncomputable def fe61:FnE:=⟨22,[(4,none)],xc61⟩
theorem ok61:FnOk Tryd.prog 61 fe61:=fnOk_of Tryd.func61 (by kernel_rfl:chkF Tryd.prog hs61 Tryd.f61=some fe61)
/- 62 (crimp/patterns.Crease).unit -/
def hs62:Hints:=[z 0 [0],z 1 [1,3,4,5,6,7]]
noncomputable def xc62:XC:=cdOf (chkF Tryd.prog hs62 Tryd.f62)
noncomputable def fe62:FnE:=⟨8,[(2,some (some 2))],xc62⟩
theorem ok62:FnOk Tryd.prog 62 fe62:=fnOk_of Tryd.func62 (by kernel_rfl:chkF Tryd.prog hs62 Tryd.f62=some fe62)
/- 64 crimp/sheets.Check -/
def hs64:Hints:=[z 0 [0,2],z 1 [1,3,4,5,6,7,8,9,10,11,12,13,14,15,16,17,18,19,20,21,22,23,24,25,26,27],z 2 [28],z 3 [28]]
noncomputable def xc64:XC:=cdOf (chkF Tryd.prog hs64 Tryd.f64)
noncomputable def fe64:FnE:=⟨29,[(2,none)],xc64⟩
theorem ok64:FnOk Tryd.prog 64 fe64:=fnOk_of Tryd.func64 (by kernel_rfl:chkF Tryd.prog hs64 Tryd.f64=some fe64)
/- 65 slices.ContainsFunc[[]crimp/patterns.Crease,crimp/patterns.Crease] -/
def hs65:Hints:=[z 0 [4],z 1 [0,1,5,6,7,8]]
noncomputable def xc65:XC:=cdOf (chkF Tryd.prog hs65 Tryd.f65)
noncomputable def fe65:FnE:=⟨9,[(4,none)],xc65⟩
theorem ok65:FnOk Tryd.prog 65 fe65:=fnOk_of Tryd.func65 (by kernel_rfl:chkF Tryd.prog hs65 Tryd.f65=some fe65)
/- 66 crimp/patterns.Check$1 -/
def hs66:Hints:=[z 0 [0,2],z 1 [1,3,4,5,6]]
noncomputable def xc66:XC:=cdOf (chkF Tryd.prog hs66 Tryd.f66)
noncomputable def fe66:FnE:=⟨7,[(2,none)],xc66⟩
theorem ok66:FnOk Tryd.prog 66 fe66:=fnOk_of Tryd.func66 (by kernel_rfl:chkF Tryd.prog hs66 Tryd.f66=some fe66)
/- 70 crimp/sheets.Neighbour -/
def hs70:Hints:=[z 0 [0,6,7],z 1 [1,12,13,14,11,15,16],z 2 [17],z 3 [2,3,8,9,18,19],z 4 [6,7,2,8,18,21,22,23,20,24,25],z 5 [9,26],z 6 [3,10,27],z 7 [3,10,27,28,29,30,31,32]]
noncomputable def xc70:XC:=cdOf (chkF Tryd.prog hs70 Tryd.f70)
noncomputable def fe70:FnE:=⟨33,[(6,none),(7,none)],xc70⟩
theorem ok70:FnOk Tryd.prog 70 fe70:=fnOk_of Tryd.func70 (by kernel_rfl:chkF Tryd.prog hs70 Tryd.f70=some fe70)
/- 71 slices.SortFunc[[]crimp/faces.Joint,crimp/faces.Joint] -/
def hs71:Hints:=[z 0 [5,6],z 1 [0,1,4,7,8,9,10,11,12,13]]
noncomputable def xc71:XC:=cdOf (chkF Tryd.prog hs71 Tryd.f71)
noncomputable def fe71:FnE:=⟨14,[],xc71⟩
theorem ok71:FnOk Tryd.prog 71 fe71:=fnOk_of Tryd.func71 (by kernel_rfl:chkF Tryd.prog hs71 Tryd.f71=some fe71)
/- 72 crimp/faces.Graph$1 -/
def hs72:Hints:=[z 0 [0,1,4],z 1 [5,6,7,8],z 2 [2,3,9,10,11,12,13,14],z 3 [2,3,9,15,16,17,18,19]]
noncomputable def xc72:XC:=cdOf (chkF Tryd.prog hs72 Tryd.f72)
noncomputable def fe72:FnE:=⟨20,[(4,none)],xc72⟩
theorem ok72:FnOk Tryd.prog 72 fe72:=fnOk_of Tryd.func72 (by kernel_rfl:chkF Tryd.prog hs72 Tryd.f72=some fe72)
/- 73 slices.ContainsFunc[[]crimp/faces.Joint,crimp/faces.Joint] -/
def hs73:Hints:=[z 0 [4],z 1 [0,1,5,6,7,8]]
noncomputable def xc73:XC:=cdOf (chkF Tryd.prog hs73 Tryd.f73)
noncomputable def fe73:FnE:=⟨9,[(4,none)],xc73⟩
theorem ok73:FnOk Tryd.prog 73 fe73:=fnOk_of Tryd.func73 (by kernel_rfl:chkF Tryd.prog hs73 Tryd.f73=some fe73)
/- 74 crimp/faces.Loose$1 -/
def hs74:Hints:=[z 0 [0,2],z 1 [1,3,4,5,6,7]]
noncomputable def xc74:XC:=cdOf (chkF Tryd.prog hs74 Tryd.f74)
noncomputable def fe74:FnE:=⟨8,[(2,none)],xc74⟩
theorem ok74:FnOk Tryd.prog 74 fe74:=fnOk_of Tryd.func74 (by kernel_rfl:chkF Tryd.prog hs74 Tryd.f74=some fe74)
/- 75 crimp/crimplaw08.on -/
def hs75:Hints:=[z 1 [5,6],z 3 [7,8,9],(5,([0,1,2,3,4,5,6,7,8,9,10,11,12,13,14,15,16],[10,13,14,15,16,17,18,19,20,21,22,23,24,25,26,27,28])),z 4 [11,12],z 6 [0,3,4,29]]
noncomputable def xc75:XC:=cdOf (chkF Tryd.prog hs75 Tryd.f75)
noncomputable def fe75:FnE:=⟨30,[(2,some (some 3))],xc75⟩
theorem ok75:FnOk Tryd.prog 75 fe75:=fnOk_of Tryd.func75 (by kernel_rfl:chkF Tryd.prog hs75 Tryd.f75=some fe75)
/- 76 crimp/crimpref03.Corners -/
def hs76:Hints:=[z 0 [0],(1,([0,1,2,3,4,5,6,7],[8,9,10,11,12,13])),z 2 [14,15,16,17,18,19,20,21,22,23,24,25,26,27,28,29,30],(3,([0,1,2,3,4,5,6,7,8,9],[1,31,32,33,34,35,36,37,38])),z 4 [39,40],z 5 [41,42,43],(6,([0,1,2,3,4,5,6,7,8,9,10,11,12],[3,4,5,6,7,41,44,45,46,47,48,49,50,51,52,53,54,55]))]
noncomputable def xc76:XC:=cdOf (chkF Tryd.prog hs76 Tryd.f76)
noncomputable def fe76:FnE:=⟨56,[(2,some (some 6))],xc76⟩
theorem ok76:FnOk Tryd.prog 76 fe76:=fnOk_of Tryd.func76 (by kernel_rfl:chkF Tryd.prog hs76 Tryd.f76=some fe76)
/- 77 crimp/crimpref01.Across -/
def hs77:Hints:=[z 0 [2,3],z 1 [4],z 2 [0,5],z 3 [2,3,5,6],z 4 [0,7],z 5 [2,3,0,7,8],z 6 [9],z 7 [9]]
noncomputable def xc77:XC:=cdOf (chkF Tryd.prog hs77 Tryd.f77)
noncomputable def fe77:FnE:=⟨10,[(2,none),(3,none)],xc77⟩
theorem ok77:FnOk Tryd.prog 77 fe77:=fnOk_of Tryd.func77 (by kernel_rfl:chkF Tryd.prog hs77 Tryd.f77=some fe77)
/- 78 slices.Max[[]int,int] -/
def hs78:Hints:=[z 0 [2],z 1 [5,6],z 2 [7,8],z 3 [7,9,10,11],z 5 [12,13,14],z 7 [15,18,19,20,21,22,23],z 6 [16,17],z 8 [0,3,4,24]]
noncomputable def xc78:XC:=cdOf (chkF Tryd.prog hs78 Tryd.f78)
noncomputable def fe78:FnE:=⟨25,[(2,none)],xc78⟩
theorem ok78:FnOk Tryd.prog 78 fe78:=fnOk_of Tryd.func78 (by kernel_rfl:chkF Tryd.prog hs78 Tryd.f78=some fe78)
/- 79 crimp/cells.Corners -/
def hs79:Hints:=[z 0 [0,3],z 1 [7,8],z 2 [1,9,10],z 3 [3,9,11,12,13,14],z 4 [4,15,16,17,18,19,20],z 7 [22,23],(8,([0,1,2,3,4,5,6,7,8,9,10],[24,25,26,27,28,29,30,31,32,33])),(9,([0,1,2,3,4,5,6,7,8,9,10],[6,34,35,36,37,38,39,40,41,42,43])),z 10 [44],z 11 [1,5,21,45]]
noncomputable def xc79:XC:=cdOf (chkF Tryd.prog hs79 Tryd.f79)
noncomputable def fe79:FnE:=⟨46,[(2,some (some 6)),(3,none)],xc79⟩
theorem ok79:FnOk Tryd.prog 79 fe79:=fnOk_of Tryd.func79 (by kernel_rfl:chkF Tryd.prog hs79 Tryd.f79=some fe79)
/- 80 crimp/faces.sectorOf -/
def hs80:Hints:=[z 0 [0],z 1 [2,6,7,8,9,10,11,12,13,14,15],z 2 [1,16],z 3 [5,17,18,19],z 4 [5,17,20,21]]
noncomputable def xc80:XC:=cdOf (chkF Tryd.prog hs80 Tryd.f80)
noncomputable def fe80:FnE:=⟨22,[(4,some (some 2))],xc80⟩
theorem ok80:FnOk Tryd.prog 80 fe80:=fnOk_of Tryd.func80 (by kernel_rfl:chkF Tryd.prog hs80 Tryd.f80=some fe80)
/- 82 slices.Clip[[]int,int] -/
def hs82:Hints:=[z 0 [2],z 1 [0,3,4,5,6,7,8]]
noncomputable def xc82:XC:=cdOf (chkF Tryd.prog hs82 Tryd.f82)
noncomputable def fe82:FnE:=⟨9,[(2,none)],xc82⟩
theorem ok82:FnOk Tryd.prog 82 fe82:=fnOk_of Tryd.func82 (by kernel_rfl:chkF Tryd.prog hs82 Tryd.f82=some fe82)
/- 83 crimp/faces.creased -/
def hs83:Hints:=[z 0 [0,2],z 1 [6,7,8,9],z 2 [1,10],z 4 [14,15,16],z 5 [5,17,18,19,20,21,22],z 6 [23],z 7 [3,11,12,13,24]]
noncomputable def xc83:XC:=cdOf (chkF Tryd.prog hs83 Tryd.f83)
noncomputable def fe83:FnE:=⟨25,[(2,none)],xc83⟩
theorem ok83:FnOk Tryd.prog 83 fe83:=fnOk_of Tryd.func83 (by kernel_rfl:chkF Tryd.prog hs83 Tryd.f83=some fe83)
/- 84 slices.Repeat[[]int,int] -/
def hs84:Hints:=[z 0 [4],z 1 [9],z 2 [10,11],z 3 [1,10,13,14,15,16,17,18,12,19,20],z 4 [5,21,22,23,24,25],z 5 [26,27],z 6 [6,26,28,29,30],z 7 [0,31,32,33],z 8 [34,35,36],(9,([0,1,2,3,4,5,6,7,8,9],[37,38,39,40,41,42,43,44,45,46])),z 10 [7,8,47]]
noncomputable def xc84:XC:=cdOf (chkF Tryd.prog hs84 Tryd.f84)
noncomputable def fe84:FnE:=⟨48,[(4,none)],xc84⟩
theorem ok84:FnOk Tryd.prog 84 fe84:=fnOk_of Tryd.func84 (by kernel_rfl:chkF Tryd.prog hs84 Tryd.f84=some fe84)
/- 85 crimp/sheets.Count -/
def hs85:Hints:=[z 0 [0,2],z 1 [3,4],z 2 [1,5],z 3 [1,5,6,7,8,9,10,11]]
noncomputable def xc85:XC:=cdOf (chkF Tryd.prog hs85 Tryd.f85)
noncomputable def fe85:FnE:=⟨12,[(2,none)],xc85⟩
theorem ok85:FnOk Tryd.prog 85 fe85:=fnOk_of Tryd.func85 (by kernel_rfl:chkF Tryd.prog hs85 Tryd.f85=some fe85)
/- 86 crimp/faces.Of$1 -/
def hs86:Hints:=[z 0 [11,12,13,14],z 1 [0,15,16],z 2 [17,18],(3,([0,1,2,3,4,5,6],[19,20,21,22,23,24])),z 6 [26,27],z 7 [29,30,31,32,33,28,34,35],z 8 [8,10,36,37,38,44,45],z 9 [54,55,56,57,58],z 10 [9,59,60,61,62],z 11 [9,54,63]]
noncomputable def xc86:XC:=cdOf (chkF Tryd.prog hs86 Tryd.f86)
noncomputable def fe86:FnE:=⟨64,[],xc86⟩
theorem ok86:FnOk Tryd.prog 86 fe86:=fnOk_of Tryd.func86 (by kernel_rfl:chkF Tryd.prog hs86 Tryd.f86=some fe86)
/- 88 crimp/crimpref01.Reflect -/
def hs88:Hints:=[z 0 [0,1],z 1 [9,10,11,8,12,13],z 2 [2,14,15,16,17,18,19,20,21,22,23,24,25],z 3 [3,5,6,7,26,27,28,29,30,31,32,33,34,35,36,37,38]]
noncomputable def xc88:XC:=cdOf (chkF Tryd.prog hs88 Tryd.f88)
noncomputable def fe88:FnE:=⟨39,[(4,some (some 2))],xc88⟩
theorem ok88:FnOk Tryd.prog 88 fe88:=fnOk_of Tryd.func88 (by kernel_rfl:chkF Tryd.prog hs88 Tryd.f88=some fe88)
/- 89 crimp/crimpref03.With -/
def hs89:Hints:=[z 0 [0],z 2 [10],(4,([0,1,2,3,4,5,6,7,8,9,10,11,12,13,14,15,16,17,18],[11,14,15,16,17,18,19,20,21,22,23,24,25,26])),z 5 [27,28,29,30,31],z 6 [36],z 7 [37],z 9 [38,41,42,43,44,45,46,47,48,49,50],z 10 [51,52],z 11 [9,53,54,55,56,57,62,63],z 12 [7,73,68,72,70,71,5,69,67,65,66,6,64,61,59,60,58,4,35,34,33,32,1,3,8,74,75],z 8 [8,74,39,40],z 3 [4,5,6,7,12,13],z 13 [1,3,76]]
noncomputable def xc89:XC:=cdOf (chkF Tryd.prog hs89 Tryd.f89)
noncomputable def fe89:FnE:=⟨77,[(2,some (some 3))],xc89⟩
theorem ok89:FnOk Tryd.prog 89 fe89:=fnOk_of Tryd.func89 (by kernel_rfl:chkF Tryd.prog hs89 Tryd.f89=some fe89)
/- 90 (crimp/sheets.Sheet).has -/
def hs90:Hints:=[z 0 [0,4],z 1 [1,2,5,6,7,8,9,10,11,12,13,14,15,16]]
noncomputable def xc90:XC:=cdOf (chkF Tryd.prog hs90 Tryd.f90)
noncomputable def fe90:FnE:=⟨17,[(4,none)],xc90⟩
theorem ok90:FnOk Tryd.prog 90 fe90:=fnOk_of Tryd.func90 (by kernel_rfl:chkF Tryd.prog hs90 Tryd.f90=some fe90)
/- 91 (crimp/sheets.Sheet).cell -/
def hs91:Hints:=[z 0 [0],(1,([0,1,2,3,4,5,6,7,8,9,10,11,12,13,14],[1,2,5,6,7,8,9,10,11,12,13,14,15,16,17,18]))]
noncomputable def xc91:XC:=cdOf (chkF Tryd.prog hs91 Tryd.f91)
noncomputable def fe91:FnE:=⟨19,[(4,some (some 3))],xc91⟩
theorem ok91:FnOk Tryd.prog 91 fe91:=fnOk_of Tryd.func91 (by kernel_rfl:chkF Tryd.prog hs91 Tryd.f91=some fe91)
/- 92 crimp/cells.Check -/
def hs92:Hints:=[z 0 [0,2],z 1 [1,3,4,5,6,7,8,9,10,11,12,13,14,15,16,17,18,19,20,21,22,23,24],z 2 [25],z 3 [25]]
noncomputable def xc92:XC:=cdOf (chkF Tryd.prog hs92 Tryd.f92)
noncomputable def fe92:FnE:=⟨26,[(2,none)],xc92⟩
theorem ok92:FnOk Tryd.prog 92 fe92:=fnOk_of Tryd.func92 (by kernel_rfl:chkF Tryd.prog hs92 Tryd.f92=some fe92)
/- 94 math/bits.Len -/
def hs94:Hints:=[z 0 [2],z 1 [0,3,4,5],z 2 [0,6,7]]
noncomputable def xc94:XC:=cdOf (chkF Tryd.prog hs94 Tryd.f94)
noncomputable def fe94:FnE:=⟨8,[(2,none)],xc94⟩
theorem ok94:FnOk Tryd.prog 94 fe94:=fnOk_of Tryd.func94 (by kernel_rfl:chkF Tryd.prog hs94 Tryd.f94=some fe94)
/- 95 slices.IndexFunc[[]crimp/patterns.Crease,crimp/patterns.Crease] -/
def hs95:Hints:=[z 0 [4],z 1 [6],z 3 [9,10],z 4 [11,12,13,14,15],z 5 [8,0,1,7,5,16,17],z 6 [4,5,16,18],z 7 [0,1,7,8]]
noncomputable def xc95:XC:=cdOf (chkF Tryd.prog hs95 Tryd.f95)
noncomputable def fe95:FnE:=⟨19,[(4,none)],xc95⟩
theorem ok95:FnOk Tryd.prog 95 fe95:=fnOk_of Tryd.func95 (by kernel_rfl:chkF Tryd.prog hs95 Tryd.f95=some fe95)
/- 96 crimp/cells.Neighbour -/
def hs96:Hints:=[z 0 [0,5],z 1 [7,8,9,10,11,12],z 2 [1,2,13,14],z 3 [5,1,13,15,16,17,18,19,20,21],(4,([0,1,2,3,4,5,6,7,8,9,10,11,12,13],[2,22,23,24,25,26,27,28,29,30,31,32,33])),z 5 [34,35],z 6 [6,36,37],z 7 [6,36,38]]
noncomputable def xc96:XC:=cdOf (chkF Tryd.prog hs96 Tryd.f96)
noncomputable def fe96:FnE:=⟨39,[(4,some (some 3)),(5,none)],xc96⟩
theorem ok96:FnOk Tryd.prog 96 fe96:=fnOk_of Tryd.func96 (by kernel_rfl:chkF Tryd.prog hs96 Tryd.f96=some fe96)
/- 97 slices.pdqsortCmpFunc[crimp/faces.Joint] -/
def hs97:Hints:=[z 2 [21,22,23],z 3 [24],z 4 [4,2,1,0,96,95,94,84,89,93,92,90,91,88,85,87,86,74,73,70,11,10,3,12,25,26,27,28,29,30],z 5 [25,31],z 6 [4,2,1,0,96,95,94,84,89,93,92,90,91,88,85,87,86,74,73,70,11,10,3,12,32,33,34,35,36,37],z 7 [32,38],z 8 [39,40,41,42,43,44],z 9 [45,46],z 10 [39,48,49,50,51,52,47,53,54],z 11 [55],z 12 [14,56,57,58,59,60,61],z 13 [62,63,64,65,66,67],z 15 [14,56,68,69,71,72],z 16 [75,76,77,78,79],(17,([0,1,2,3,4,5,6,7,8,9,10,11,12,13,14,15,16],[80,75,81,82,83])),z 18 [1,12,13,97,98,99,100,101,102,103],z 19 [15,104],z 20 [11,10,13,97,106,107,108,109,110,111,105,112,113],z 21 [17,114],z 22 [115,116,117,118,119,120],z 23 [12,121,122],z 24 [123,124],z 25 [18,19,20,125,126,127,128],z 26 [1,129,130,131,132,133,134],z 27 [16,135,136],z 28 [18,19,20,125,137,138,139],z 29 [2,140,141,142,143,144,145,146],z 30 [16,147]]
noncomputable def xc97:XC:=cdOf (chkF Tryd.prog hs97 Tryd.f97)
noncomputable def fe97:FnE:=⟨148,[],xc97⟩
theorem ok97:FnOk Tryd.prog 97 fe97:=fnOk_of Tryd.func97 (by kernel_rfl:chkF Tryd.prog hs97 Tryd.f97=some fe97)
/- 98 slices.IndexFunc[[]crimp/faces.Joint,crimp/faces.Joint] -/
def hs98:Hints:=[z 0 [4],z 1 [6],z 3 [9,10],z 4 [11,12,13,14,15],z 5 [8,0,1,7,5,16,17],z 6 [4,5,16,18],z 7 [0,1,7,8]]
noncomputable def xc98:XC:=cdOf (chkF Tryd.prog hs98 Tryd.f98)
noncomputable def fe98:FnE:=⟨19,[(4,none)],xc98⟩
theorem ok98:FnOk Tryd.prog 98 fe98:=fnOk_of Tryd.func98 (by kernel_rfl:chkF Tryd.prog hs98 Tryd.f98=some fe98)
/- 99 math/bits.Mul -/
def hs99:Hints:=[z 0 [4,5],z 1 [0,1,11,12,13,14,15,10,16,17],z 2 [6,7,18,19,20,21],z 3 [4,5,0,1,23,24,25,22,26,27],z 4 [8,9,28,29]]
noncomputable def xc99:XC:=cdOf (chkF Tryd.prog hs99 Tryd.f99)
noncomputable def fe99:FnE:=⟨30,[(4,none),(5,none)],xc99⟩
theorem ok99:FnOk Tryd.prog 99 fe99:=fnOk_of Tryd.func99 (by kernel_rfl:chkF Tryd.prog hs99 Tryd.f99=some fe99)
/- 101 crimp/patterns.find$1 -/
def hs101:Hints:=[z 0 [0,1,4],(1,([0,1,2,3,4],[2,3,5,6,7,8]))]
noncomputable def xc101:XC:=cdOf (chkF Tryd.prog hs101 Tryd.f101)
noncomputable def fe101:FnE:=⟨9,[(4,none)],xc101⟩
theorem ok101:FnOk Tryd.prog 101 fe101:=fnOk_of Tryd.func101 (by kernel_rfl:chkF Tryd.prog hs101 Tryd.f101=some fe101)
/- 102 crimp/crimpref01.Far -/
def hs102:Hints:=[z 0 [0,1,4],z 1 [8,9,10,7,11,12],z 2 [2,3,5,6,13,14,15,16,17,18,19,20,21,22,23,24,25]]
noncomputable def xc102:XC:=cdOf (chkF Tryd.prog hs102 Tryd.f102)
noncomputable def fe102:FnE:=⟨26,[(4,none)],xc102⟩
theorem ok102:FnOk Tryd.prog 102 fe102:=fnOk_of Tryd.func102 (by kernel_rfl:chkF Tryd.prog hs102 Tryd.f102=some fe102)
/- 111 math/bits.Len32 -/
def hs111:Hints:=[z 1 [3],z 2 [2,4,5,6],z 4 [4,7],z 5 [8,9,10],z 6 [11,12],z 7 [0,8,13,14,15,16,17,18]]
noncomputable def xc111:XC:=cdOf (chkF Tryd.prog hs111 Tryd.f111)
noncomputable def fe111:FnE:=⟨19,[(2,none)],xc111⟩
theorem ok111:FnOk Tryd.prog 111 fe111:=fnOk_of Tryd.func111 (by kernel_rfl:chkF Tryd.prog hs111 Tryd.f111=some fe111)
/- 112 math/bits.Len64 -/
def hs112:Hints:=[z 1 [3],z 2 [2,4,5,6],z 4 [4,7],z 5 [8,9,10],z 6 [11,12],z 7 [8,13],z 8 [14,15,16],z 9 [17,18],z 10 [0,14,19,20,21,22,23,24]]
noncomputable def xc112:XC:=cdOf (chkF Tryd.prog hs112 Tryd.f112)
noncomputable def fe112:FnE:=⟨25,[(2,none)],xc112⟩
theorem ok112:FnOk Tryd.prog 112 fe112:=fnOk_of Tryd.func112 (by kernel_rfl:chkF Tryd.prog hs112 Tryd.f112=some fe112)
/- 113 slices.insertionSortCmpFunc[crimp/faces.Joint] -/
def hs113:Hints:=[z 0 [10,11],z 1 [12,13],z 3 [14,17],(4,([0,1,2,3,4,5,6,7,8,9,10,11,12,13,14,15,16],[18,19,20,21])),(6,([0,1,2,3,4,5,6,7,8,9,10,11,12,13,14,15,16,17],[34,37,38,39,40,41,42,43,44,45,46,47,48,49,50,51,52])),z 5 [35,36],z 2 [9,15,16]]
noncomputable def xc113:XC:=cdOf (chkF Tryd.prog hs113 Tryd.f113)
noncomputable def fe113:FnE:=⟨53,[],xc113⟩
theorem ok113:FnOk Tryd.prog 113 fe113:=fnOk_of Tryd.func113 (by kernel_rfl:chkF Tryd.prog hs113 Tryd.f113=some fe113)
/- 114 slices.heapSortCmpFunc[crimp/faces.Joint] -/
def hs114:Hints:=[z 0 [13],z 2 [1,2,14,15,16],z 3 [17,18,19],z 4 [20],z 6 [21,24,25,26,27,28,29],z 5 [22,23],z 7 [10,11,30,31],z 8 [32],(10,([0,1,2,3,4,5,6,7,8,9,10,11,12,13,14,15,16,17,18,19],[33,36,37,38,39,40,41,42,43,44,45,46,47,48,49,50,51,52,53])),z 11 [54,55,56,57,58,59],z 9 [34,35]]
noncomputable def xc114:XC:=cdOf (chkF Tryd.prog hs114 Tryd.f114)
noncomputable def fe114:FnE:=⟨60,[],xc114⟩
theorem ok114:FnOk Tryd.prog 114 fe114:=fnOk_of Tryd.func114 (by kernel_rfl:chkF Tryd.prog hs114 Tryd.f114=some fe114)
/- 115 slices.breakPatternsCmpFunc[crimp/faces.Joint] -/
def hs115:Hints:=[z 0 [2,3,13,14,15],z 1 [16],z 2 [17,18,19],z 3 [20,21],z 4 [22,23,24,25,26,27],z 5 [28,29,30,31,32,33,34],z 7 [35,38,39,40,41,42],z 8 [43,44],z 9 [45,46,47,48],(10,([0,1,2,3,4,5,6,7,8,9,10,11,12,13,14,15,16,17,18,19],[12,45,49,50,51,52,53,54,55,56,57,58,59,60,61,62,63,64,65,66])),z 6 [36,37]]
noncomputable def xc115:XC:=cdOf (chkF Tryd.prog hs115 Tryd.f115)
noncomputable def fe115:FnE:=⟨67,[],xc115⟩
theorem ok115:FnOk Tryd.prog 115 fe115:=fnOk_of Tryd.func115 (by kernel_rfl:chkF Tryd.prog hs115 Tryd.f115=some fe115)
/- 116 slices.choosePivotCmpFunc[crimp/faces.Joint] -/
def hs116:Hints:=[z 0 [8,9],z 1 [2,15,16,17],z 3 [18,19,20,21,22],z 4 [23,24,25,26,27],z 5 [1,28,29,30,31,32],z 6 [33],z 7 [10,34,35],z 8 [36,37,38,39,40],z 9 [41,42,43,44],z 10 [45,46,47,48],z 11 [0,3,12,14,36,49,50,51,52,53,54],z 12 [11,0,3,10,12,14,34],z 14 [58],z 15 [13,55,57,59],z 16 [55,57,61],z 17 [13,60,62],z 13 [13,60,56]]
noncomputable def xc116:XC:=cdOf (chkF Tryd.prog hs116 Tryd.f116)
noncomputable def fe116:FnE:=⟨63,[(8,none),(9,none)],xc116⟩
theorem ok116:FnOk Tryd.prog 116 fe116:=fnOk_of Tryd.func116 (by kernel_rfl:chkF Tryd.prog hs116 Tryd.f116=some fe116)
/- 117 slices.reverseRangeCmpFunc[crimp/faces.Joint] -/
def hs117:Hints:=[z 0 [1,3,10],z 1 [2,11,12],z 2 [13,14],(3,([0,1,2,3,4,5,6,7,8,9,10,11,12,13,14,15],[15,16,17,18,19,20,21,22,23,24,25,26,27,28,29])),z 4 [30,31],z 5 [32,33]]
noncomputable def xc117:XC:=cdOf (chkF Tryd.prog hs117 Tryd.f117)
noncomputable def fe117:FnE:=⟨34,[],xc117⟩
theorem ok117:FnOk Tryd.prog 117 fe117:=fnOk_of Tryd.func117 (by kernel_rfl:chkF Tryd.prog hs117 Tryd.f117=some fe117)
/- 118 slices.partialInsertionSortCmpFunc[crimp/faces.Joint] -/
def hs118:Hints:=[z 0 [8],z 1 [13,14],z 3 [15],(5,([0,1,2,3,4,5,6,7,8,9,10,11,12,13,14,15,16,17],[19,20,21,22])),z 6 [36,37,38],z 7 [16,39,40],z 8 [9,10,0,3,2,1,35,34,33,23,27,32,31,28,30,29,26,24,25,41],z 9 [8,41,42,43,44],z 10 [9,10,0,3,2,1,35,34,33,23,27,32,31,28,30,29,26,24,25,45],(11,([0,1,2,3,4,5,6,7,8,9,10,11,12,13,14,15,16,17],[8,45,46,47,48,49,50,51,52,53,54,55,56,57,58,59,60,61])),z 12 [62,63,64],z 13 [65,66,67],z 14 [68],(16,([0,1,2,3,4,5,6,7,8,9,10,11,12],[69,72,73,74,75,76,77,78,79,80,81,82,83])),(17,([0,1,2,3,4,5,6,7,8,9,10,11,12,13,14,15,16,17],[84,85,86,87,88,89,90,91,92,93,94,95,96,97,98,99,100])),z 15 [70,71],z 18 [11,65,101,102,103],z 19 [104,105,106],z 20 [107,108],(22,([0,1,2,3,4,5,6,7,8,9,10,11,12],[109,112,113,114,115,116,117,118,119,120,121,122,123])),(23,([0,1,2,3,4,5,6,7,8,9,10,11,12,13,14,15,16,17],[124,125,126,127,128,129,130,131,132,133,134,135,136,137,138,139,140])),z 21 [110,111],z 4 [12,104,17,18],z 24 [0,1,2,3,9,10]]
noncomputable def xc118:XC:=cdOf (chkF Tryd.prog hs118 Tryd.f118)
noncomputable def fe118:FnE:=⟨141,[(8,none)],xc118⟩
theorem ok118:FnOk Tryd.prog 118 fe118:=fnOk_of Tryd.func118 (by kernel_rfl:chkF Tryd.prog hs118 Tryd.f118=some fe118)
/- 119 slices.partitionEqualCmpFunc[crimp/faces.Joint] -/
def hs119:Hints:=[z 0 [10],(1,([0,1,2,3,4,5,6,7,8,9,10,11,12,13,14,15],[3,13,14,15,16,17,18,19,20,21,22,23,24,25,26])),z 2 [2,27,28,29,30],(3,([0,1,2,3,4,5,6,7,8,9,10,11,12,13,14,15,16],[31,32,33,34])),z 4 [47,48,49],(5,([0,1,2,3,4,5,6,7,8,9,10,11,12,13,14,15],[50,51,52,53])),z 6 [65,66,67],z 7 [68,69],(8,([0,1,2,3,4,5,6,7,8,9,10,11,12,13,14,15],[70,71,72,73,74,75,76,77,78,79,80,81,82,83,84])),z 9 [85,86],z 10 [87,88],z 11 [0,1,4,11,12,89]]
noncomputable def xc119:XC:=cdOf (chkF Tryd.prog hs119 Tryd.f119)
noncomputable def fe119:FnE:=⟨90,[(10,none)],xc119⟩
theorem ok119:FnOk Tryd.prog 119 fe119:=fnOk_of Tryd.func119 (by kernel_rfl:chkF Tryd.prog hs119 Tryd.f119=some fe119)
/- 120 slices.partitionCmpFunc[crimp/faces.Joint] -/
def hs120:Hints:=[z 0 [10,11],(1,([0,1,2,3,4,5,6,7,8,9,10,11,12,13,14,15],[3,14,15,16,17,18,19,20,21,22,23,24,25,26,27])),z 2 [2,28,29,30,31],(3,([0,1,2,3,4,5,6,7,8,9,10,11,12,13,14,15],[32,33,34,35])),z 4 [47,48,49],(5,([0,1,2,3,4,5,6,7,8,9,10,11,12,13,14,15,16],[50,51,52,53])),z 6 [66,67,68],z 7 [65,64,63,54,58,62,61,59,60,57,55,56,69,70],(8,([0,1,2,3,4,5,6,7,8,9,10,11,12,13,14,15],[0,1,4,12,138,137,136,127,131,135,134,132,133,130,128,129,119,118,109,113,117,116,114,115,112,110,111,71,72,73,74,75,76,77,78,79,80,81,82,83,84,85])),z 9 [13,86],(10,([0,1,2,3,4,5,6,7,8,9,10,11,12,13,14,15],[10,11,71,87,88,89,90,91,92,93,94,95,96,97,98,99,100])),z 11 [101,102],z 12 [103,104],(13,([0,1,2,3,4,5,6,7,8,9,10,11,12,13,14,15],[105,106,107,108])),z 14 [120,121,122],(15,([0,1,2,3,4,5,6,7,8,9,10,11,12,13,14,15,16],[123,124,125,126])),z 16 [139,140,141],z 17 [142,143],(18,([0,1,2,3,4,5,6,7,8,9,10,11,12,13,14,15],[144,145,146,147,148,149,150,151,152,153,154,155,156,157,158])),z 19 [159,160],z 20 [161,162],(21,([0,1,2,3,4,5,6,7,8,9,10,11,12,13,14,15],[0,1,4,12,138,137,136,127,131,135,134,132,133,130,128,129,119,118,109,113,117,116,114,115,112,110,111,163,164,165,166,167,168,169,170,171,172,173,174,175,176])),z 22 [13,177]]
noncomputable def xc120:XC:=cdOf (chkF Tryd.prog hs120 Tryd.f120)
noncomputable def fe120:FnE:=⟨178,[(10,none),(11,none)],xc120⟩
theorem ok120:FnOk Tryd.prog 120 fe120:=fnOk_of Tryd.func120 (by kernel_rfl:chkF Tryd.prog hs120 Tryd.f120=some fe120)
/- 121 math/bits.Mul32 -/
def hs121:Hints:=[z 0 [4,5],z 1 [0,1,7,8,9,10,11],z 2 [6,12,13,14,15,16]]
noncomputable def xc121:XC:=cdOf (chkF Tryd.prog hs121 Tryd.f121)
noncomputable def fe121:FnE:=⟨17,[(4,none),(5,none)],xc121⟩
theorem ok121:FnOk Tryd.prog 121 fe121:=fnOk_of Tryd.func121 (by kernel_rfl:chkF Tryd.prog hs121 Tryd.f121=some fe121)
/- 122 math/bits.Mul64 -/
def hs122:Hints:=[z 0 [4,5],z 1 [14,15],z 2 [16,17],z 3 [18,19],z 4 [20,21],z 5 [22,23,24],z 6 [8,10,25,26,27,28,29,30],z 7 [31,32],z 8 [11,33,34],z 9 [6,35,36,37,38,39],z 10 [7,9,12,13,40,41,42,43,44,45,46,47],z 11 [0,1,48,49,50]]
noncomputable def xc122:XC:=cdOf (chkF Tryd.prog hs122 Tryd.f122)
noncomputable def fe122:FnE:=⟨51,[(4,none),(5,none)],xc122⟩
theorem ok122:FnOk Tryd.prog 122 fe122:=fnOk_of Tryd.func122 (by kernel_rfl:chkF Tryd.prog hs122 Tryd.f122=some fe122)
/- 124 slices.nextPowerOfTwo -/
def hs124:Hints:=[z 0 [2],z 1 [0,3,4,5,6]]
noncomputable def xc124:XC:=cdOf (chkF Tryd.prog hs124 Tryd.f124)
noncomputable def fe124:FnE:=⟨7,[(2,none)],xc124⟩
theorem ok124:FnOk Tryd.prog 124 fe124:=fnOk_of Tryd.func124 (by kernel_rfl:chkF Tryd.prog hs124 Tryd.f124=some fe124)
/- 125 (*slices.xorshift).Next -/
def hs125:Hints:=[z 0 [2],(1,([0,1,2,3,4,5,6,7,8,9],[3,4,5,6,7,8,9,10,11])),(2,([0,1,2,3,4,5,6,7,8,9],[12,13,14,15,16,17,18,19,20])),(3,([0,1,2,3,4,5,6,7,8,9],[21,22,23,24,25,26,27,28,29])),z 4 [0,30,31,32]]
noncomputable def xc125:XC:=cdOf (chkF Tryd.prog hs125 Tryd.f125)
noncomputable def fe125:FnE:=⟨33,[(2,none)],xc125⟩
theorem ok125:FnOk Tryd.prog 125 fe125:=fnOk_of Tryd.func125 (by kernel_rfl:chkF Tryd.prog hs125 Tryd.f125=some fe125)
/- 128 slices.siftDownCmpFunc[crimp/faces.Joint] -/
def hs128:Hints:=[z 0 [1,12],z 1 [13,14,15],z 2 [16,17],(3,([0,1,2,3,4,5,6,7,8,9,10,11,12,13,14,15,16,17,18,19,20,21],[18,19,20,21,22,23])),z 4 [40,41,42],(5,([0,1,2,3,4,5,6,7,8,9,10,11,12,13,14,15],[40,43,44,45,46,47,48,49,50,51,52,53,54,55,56,57])),(6,([0,1,2,3,4,5,6,7,8,9,10,11,12,13,14,15,16,17,18,19,20,21,22,23],[10,58,59,60,61,62,63,64,65,66,67,68,69,70,71,72,73,74,75,76,77,78,79,80])),z 7 [11,81]]
noncomputable def xc128:XC:=cdOf (chkF Tryd.prog hs128 Tryd.f128)
noncomputable def fe128:FnE:=⟨82,[],xc128⟩
theorem ok128:FnOk Tryd.prog 128 fe128:=fnOk_of Tryd.func128 (by kernel_rfl:chkF Tryd.prog hs128 Tryd.f128=some fe128)
/- 129 slices.medianAdjacentCmpFunc[crimp/faces.Joint] -/
def hs129:Hints:=[z 0 [8],z 1 [0,1,2,3,9,10,11,12,13,14,15,16,17]]
noncomputable def xc129:XC:=cdOf (chkF Tryd.prog hs129 Tryd.f129)
noncomputable def fe129:FnE:=⟨18,[(8,none)],xc129⟩
theorem ok129:FnOk Tryd.prog 129 fe129:=fnOk_of Tryd.func129 (by kernel_rfl:chkF Tryd.prog hs129 Tryd.f129=some fe129)
/- 130 slices.medianCmpFunc[crimp/faces.Joint] -/
def hs130:Hints:=[z 0 [12],z 1 [14,15,16,17,18,19,13,20,21],z 2 [3,23,24,25,26,27,28,22,29,30],z 3 [0,1,4,5,32,33,34,35,36,37,31,38,39],z 4 [2,40]]
noncomputable def xc130:XC:=cdOf (chkF Tryd.prog hs130 Tryd.f130)
noncomputable def fe130:FnE:=⟨41,[(12,none)],xc130⟩
theorem ok130:FnOk Tryd.prog 130 fe130:=fnOk_of Tryd.func130 (by kernel_rfl:chkF Tryd.prog hs130 Tryd.f130=some fe130)
/- 132 slices.order2CmpFunc[crimp/faces.Joint] -/
def hs132:Hints:=[z 0 [10,11],(1,([0,1,2,3,4,5,6,7,8,9,10],[0,4,12,13,14,15,16,17,18,19,20,21])),z 2 [3,22,23,24,25,26,27],z 3 [1,2,28,29],z 4 [1,2,3,22,30,31]]
noncomputable def xc132:XC:=cdOf (chkF Tryd.prog hs132 Tryd.f132)
noncomputable def fe132:FnE:=⟨32,[(10,none),(11,none)],xc132⟩
theorem ok132:FnOk Tryd.prog 132 fe132:=fnOk_of Tryd.func132 (by kernel_rfl:chkF Tryd.prog hs132 Tryd.f132=some fe132)
noncomputable def xpl:List (Nat×FnE):=[(13,fe13),(20,fe20),(21,fe21),(23,fe23),(27,fe27),(29,fe29),(30,fe30),(37,fe37),(38,fe38),(40,fe40),(42,fe42),(43,fe43),(44,fe44),(46,fe46),(47,fe47),(48,fe48),(49,fe49),(51,fe51),(54,fe54),(55,fe55),(56,fe56),(57,fe57),(58,fe58),(61,fe61),(62,fe62),(64,fe64),(65,fe65),(66,fe66),(70,fe70),(71,fe71),(72,fe72),(73,fe73),(74,fe74),(75,fe75),(76,fe76),(77,fe77),(78,fe78),(79,fe79),(80,fe80),(82,fe82),(83,fe83),(84,fe84),(85,fe85),(86,fe86),(88,fe88),(89,fe89),(90,fe90),(91,fe91),(92,fe92),(94,fe94),(95,fe95),(96,fe96),(97,fe97),(98,fe98),(99,fe99),(101,fe101),(102,fe102),(111,fe111),(112,fe112),(113,fe113),(114,fe114),(115,fe115),(116,fe116),(117,fe117),(118,fe118),(119,fe119),(120,fe120),(121,fe121),(122,fe122),(124,fe124),(125,fe125),(128,fe128),(129,fe129),(130,fe130),(132,fe132)]
theorem xpOk:XpOk Tryd.prog (aget xpl):=xpOk_of (l:=xpl) ⟨ok13,ok20,ok21,ok23,ok27,ok29,ok30,ok37,ok38,ok40,ok42,ok43,ok44,ok46,ok47,ok48,ok49,ok51,ok54,ok55,ok56,ok57,ok58,ok61,ok62,ok64,ok65,ok66,ok70,ok71,ok72,ok73,ok74,ok75,ok76,ok77,ok78,ok79,ok80,ok82,ok83,ok84,ok85,ok86,ok88,ok89,ok90,ok91,ok92,ok94,ok95,ok96,ok97,ok98,ok99,ok101,ok102,ok111,ok112,ok113,ok114,ok115,ok116,ok117,ok118,ok119,ok120,ok121,ok122,ok124,ok125,ok128,ok129,ok130,ok132,trivial⟩
end Go.Proofs.YtfpcbimohikhmaaDoor.X
