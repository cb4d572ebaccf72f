/-
 The functions of the translation, with types resolved (made by a program).
-/
import Derived.Test.YthiammkiobbclaaGreatDoorProg
import Derived.Test.YthiammkiobbclaaGreatDoorAb4
import Derived.KernelRfl
set_option linter.unusedVariables false
set_option maxRecDepth 1000000
namespace Go.Proofs.YthiammkiobbclaaGreatDoor.X
open Go Go.Ab
noncomputable section
abbrev z (n:Nat)(l:List Nat):Nat×(List Nat×List Nat):=(n,([],l))
def A0S:Option FnE->XC
 |some f=>f.xc
 |none=>.skip
def hs3:A0m:=[z 0 [0,2],z 1 [1,12,13],z 2 [14,15,16],z 3 [3,17,18],z 4 [2,17],z 6 [19,20,21,22],z 8 [23,24,25,26,27],(10,([0,1,2,3,4,5,6,7,8,9,10,11,12,13,14],[30,33,34,35,36,37,38,39,40])),z 11 [47,48],z 12 [49,50,51,52,53],z 13 [49,54,55],z 9 [47,31,32],z 14 [6,7,57,58,56,59,60],z 15 [3,62,63,61,64,65],z 16 [71,69,70,8,9,66,67,68],z 17 [4,5,83,80,79,78,93,90,88,89,10,11,72],z 18 [2,4,72,73],z 19 [5,83,80,79,78,93,90,88,89,10,11,74,75,76,77,81,82,84],z 20 [5,83,80,79,78,93,90,88,89,10,11,74,85,86,87,91,92,94]]
def fe3:FnE:=⟨95,[(2,none)],A0S (A0n Tryz.prog hs3 Tryz.f3)⟩
theorem ok3:A0O Tryz.prog 3 fe3:=A0d Tryz.func3 (by kernel_rfl:A0n Tryz.prog hs3 Tryz.f3=some fe3)
def hs4:A0m:=[z 0 [0,2],z 1 [1,20,21],z 2 [22,23,24],z 3 [25],z 4 [3,4,26,27],z 5 [2,26,29,30,28,31,32],z 6 [34,35,33,36,37],z 7 [6,8,38,39,40,41,42,43,44,45,46,47,48,49],z 8 [3,4,5,7,50],z 9 [2,50],z 11 [51,52,53],z 13 [54,57,58,59],z 16 [60,61],z 18 [62,65,66,67,68,69,70,71,72,73],z 19 [74,75,91],z 20 [15,92,93,94,95,96,97],z 17 [63,64],z 21 [14,99,100,98,101,102],z 22 [17,103],z 23 [90,82,89,87,88,86,84,85,83,3,81,80,79,77,78,76,4,11,9,10,153,152,142,140,141,139,138,137,135,136,5,132,130,131,129,128,127,125,126,122,121,119,120,118,116,117,109,108,170,167,165,166,7,12,13,16,104],z 24 [2,13,16,104,105,106,107],(25,([0,1,2,3,4,5,6,7,8,9,10,11,12,13,14,15,16,17,18,19,20,21,22,23,24,25,26,27,28,29,30,31,32],[110,111,112,113,114,115,123,124,133,134])),z 26 [90,82,89,87,88,86,84,85,83,3,81,80,79,77,78,76,4,11,9,10,153,152,142,140,141,139,138,137,135,136,5,132,130,131,129,128,127,125,126,122,121,119,120,118,116,117,109,108,170,167,165,166,7,12,143],z 27 [2,12,143,145,146,144,147,148],z 28 [19,149,150,151],z 29 [90,82,89,87,88,86,84,85,83,3,81,80,79,77,78,76,4,11,9,10,153,152,142,140,141,139,138,137,135,136,5,132,130,131,129,128,127,125,126,122,121,119,120,118,116,117,109,108,170,167,165,166,7,18,154],z 30 [2,18,154,155,156,157],z 31 [158,159],z 12 [55,56],z 32 [3,4,5,7,9,10,11,170,167,165,166,160,161,162,163,164,168,169,171]]
def fe4:FnE:=⟨172,[(2,none)],A0S (A0n Tryz.prog hs4 Tryz.f4)⟩
theorem ok4:A0O Tryz.prog 4 fe4:=A0d Tryz.func4 (by kernel_rfl:A0n Tryz.prog hs4 Tryz.f4=some fe4)
def hs5:A0m:=[z 0 [0,4],z 1 [2,16,17],z 2 [18,19,20],z 3 [1,5,21,22],(4,([0,1,2,3,4,5,6,7,8,9,10,11,12,13,14],[4,1,21,24,25,26,27,28,29,30,31,32,23,33,34])),z 5 [36,37,35,38,39],z 6 [6,41,42,40,43,44],z 7 [46,47,48,45,49,50],z 8 [5,52,53,54,51,55,56],z 9 [7,8,9,10,11,12,13,14,15,57,58,59,60,61,62,63,64,65,66,67,68,69,70,71,72,73,74,75,76,77,78,79,80,81,82,83,84,85,86,87,88,89,90,91,92]]
def fe5:FnE:=⟨93,[(4,none)],A0S (A0n Tryz.prog hs5 Tryz.f5)⟩
theorem ok5:A0O Tryz.prog 5 fe5:=A0d Tryz.func5 (by kernel_rfl:A0n Tryz.prog hs5 Tryz.f5=some fe5)
def hs6:A0m:=[z 0 [0,4],z 1 [2,11,12],z 2 [13,14,15],z 3 [1,16,17,18],z 4 [20,21,19,22,23],z 5 [24,25,26],z 6 [27,28],z 7 [5,6,7,8,9,10,29,30,31,32,33,34,35,36,37,38,39,40,41,42,43],z 8 [5,6,7,8,9,10,29,44,45,46,47,48,49,50,51,52,53,54,55,56,57,58,59,60,61,62,63]]
def fe6:FnE:=⟨64,[(4,none)],A0S (A0n Tryz.prog hs6 Tryz.f6)⟩
theorem ok6:A0O Tryz.prog 6 fe6:=A0d Tryz.func6 (by kernel_rfl:A0n Tryz.prog hs6 Tryz.f6=some fe6)
def hs7:A0m:=[z 0 [0,4],z 1 [2,14,15],z 2 [16,17,18],z 3 [1,19,20,21],z 4 [22,23,24,25,26,27,28,29],z 5 [6,7,30,32,33,34,31,35,36],z 6 [5,8,9,37,38,39,40,41,42,43,44,45,46,47,48,49,50,51,52,53,54,55,56],z 7 [4,30,58,59,60,57,61,62],z 8 [5,7,11,63,64,65,66,67,68,69,70,71,72,73,74,75,76,77,78,79,80,81,82,83,84,85,86,87,88,89,90,91],z 9 [6,10,92],z 10 [4,92],z 12 [93,94],z 14 [95,98,99,100,101,102,103,104],z 15 [13,10,12,110,109,108,106,107,105,133,130,129,126,125,6,111],z 16 [4,111,112,113,114,115,116,117,118,119,120,121],z 13 [96,97],z 17 [6,10,12,13,133,130,129,126,125,122,123,124,127,128,131,132,134]]
def fe7:FnE:=⟨135,[(4,none)],A0S (A0n Tryz.prog hs7 Tryz.f7)⟩
theorem ok7:A0O Tryz.prog 7 fe7:=A0d Tryz.func7 (by kernel_rfl:A0n Tryz.prog hs7 Tryz.f7=some fe7)
def hs9:A0m:=[z 0 [0],z 1 [10,11,9,12,13],z 2 [15,16,14,17,18],z 3 [1,2,3,4,19,20,21,22,23,24,25,26,27,28,29,30,31],z 4 [32],z 5 [0,32],z 7 [33],z 9 [34,37,38,39,40,41,42,43,44,45,46,47,48,49,50,51,52,53,54,55,56,57,58,59,60],z 10 [61,62,63,64,65,66,67,68,69,70,71],z 11 [7,8,72,73,74,75,76,80,81,85,86,90,91,96,97],z 12 [6,5,102,101,98,100,99,95,94,92,93,89,88,87,84,83,82,79,78,77,103],z 13 [0,103,104,105,106,107],z 8 [35,36],z 14 [5,6,108]]
def fe9:FnE:=⟨109,[(0,none)],A0S (A0n Tryz.prog hs9 Tryz.f9)⟩
theorem ok9:A0O Tryz.prog 9 fe9:=A0d Tryz.func9 (by kernel_rfl:A0n Tryz.prog hs9 Tryz.f9=some fe9)
def D2f:A0m:=[z 0 [0],z 5 [9],z 7 [10,13,14,15,16,17],z 8 [18,19],z 9 [4,20,21,22,23,24,25,26,27,28],z 10 [4,20,29],z 11 [30],z 13 [31,32,33,34,35,36],z 14 [37,38,39,40,41,42,43,44,45,46],z 15 [7,37,47,48,49,50,51,52],z 6 [11,12],z 16 [6,53],z 17 [4,5,54,55,56,57,58,59,60,61,62,63],z 18 [4,5,54],z 19 [64,65,66,67],z 21 [68,71,72,73,74,75,76,77],z 22 [84,85,86,87,88,89,90,91],z 20 [84,69,70],z 23 [1,3,83,82,81,79,80,78,8,92]]
def C7s:FnE:=⟨93,[(2,some (some 2))],A0S (A0n Tryz.prog D2f Tryz.f10)⟩
theorem D2g:A0O Tryz.prog 10 C7s:=A0d Tryz.func10 (by kernel_rfl:A0n Tryz.prog D2f Tryz.f10=some C7s)
def D2h:A0m:=[z 0 [0],z 1 [14],z 2 [15],z 3 [16,17,18,19,20,21,22,23],z 5 [24,25,26],z 7 [27,30,31,32,33,34],z 8 [36,37,35,38,39],z 9 [41,42,40,43,44],z 10 [5,46,47,45,48,49],z 11 [6,7,8,9,10,11,50,51,52,55,56,63,64,69,70,77,78,85,86],z 12 [4,93,92,87,91,90,88,89,3,84,81,83,82,80,79,76,73,75,74,72,71,68,65,67,66,62,57,61,60,58,59,2,54,53,1,105,103,104,94],z 6 [0,94,28,29],z 13 [1,2,3,4,96,97,95,98,99],z 14 [105,103,104,12,13,100,101,102,106]]
def C8P:FnE:=⟨107,[(0,none)],A0S (A0n Tryz.prog D2h Tryz.f11)⟩
theorem D5u:A0O Tryz.prog 11 C8P:=A0d Tryz.func11 (by kernel_rfl:A0n Tryz.prog D2h Tryz.f11=some C8P)
def D2i:A0m:=[z 0 [2],z 1 [10],z 2 [0,11,12,13],z 3 [2,11,14,15,16],z 6 [17,18],z 8 [19],z 9 [22,23,24],z 11 [25,28,29],z 13 [30,31,32,33,34,35],z 15 [36,39,40,41,42,43,44,45],z 16 [46,47],z 17 [48,49,50],z 18 [9,48,51,52,53,54],z 14 [37,38],z 19 [7,8,55,56,57,58],z 10 [26,27],z 7 [6,20,21],z 20 [0,3,4,5,59]]
def C4u:FnE:=⟨60,[(2,none)],A0S (A0n Tryz.prog D2i Tryz.f12)⟩
theorem C8Q:A0O Tryz.prog 12 C4u:=A0d Tryz.func12 (by kernel_rfl:A0n Tryz.prog D2i Tryz.f12=some C4u)
def D2j:A0m:=[z 0 [0,2],z 1 [1,6,7,5,8,9],z 2 [3,4,10,11,12,13,14]]
def C7t:FnE:=⟨15,[(2,none)],A0S (A0n Tryz.prog D2j Tryz.f13)⟩
theorem D2k:A0O Tryz.prog 13 C7t:=A0d Tryz.func13 (by kernel_rfl:A0n Tryz.prog D2j Tryz.f13=some C7t)
def D2l:A0m:=[z 0 [0,4],z 1 [13,14],z 2 [15,16,17],z 4 [18,19],(6,([0,1,2,3,4,5,6,7,8,9,10,11,12,13,14,15,16,17],[20,23,24,25,26,27,28,29,30,31])),z 7 [7,39,38,32,33,37,36,34,35,5,1,2,106,96,105,100,104,103,101,102,99,97,98,95,94,93,91,92,90,87,82,86,85,83,84,81,79,80,6,40],z 5 [4,40,21,22],z 8 [5,7,41,42],z 10 [43,44],z 12 [45,48,49,50,51,52,53,54],z 11 [46,47],z 13 [1,9],z 14 [55,56],(16,([0,1,2,3,4,5,6,7,8],[57,60,61,62,63,64,65,66])),z 17 [67,68],z 18 [69,70,71],(19,([0,1,2,3,4,5,6,7,8,9,10,11,12,13,14,15,16,17,18,19,20,21,22,23,24,25,26,27,28,29,30,31,32,33,34,35],[11,12,69,72,73,74,75,76,77,78,88,89])),z 20 [10,106,96,105,100,104,103,101,102,8,99,97,98,95,94,93,91,92,90,2,87,82,86,85,83,84,81,79,80,6,107],z 15 [4,107,58,59],z 21 [2,6,106,96,105,100,104,103,101,102,99,97,98,95,94,93,91,92,90,87,82,86,85,83,84,81,79,80,8,10]]
def C7u:FnE:=⟨108,[(4,none)],A0S (A0n Tryz.prog D2l Tryz.f14)⟩
theorem D2m:A0O Tryz.prog 14 C7u:=A0d Tryz.func14 (by kernel_rfl:A0n Tryz.prog D2l Tryz.f14=some C7u)
def D2n:A0m:=[z 0 [0,4],z 1 [11,12],z 4 [13,14],z 6 [15],z 7 [18,19,20,21,22],z 9 [23,26,27],z 10 [28],z 11 [29],z 12 [30,31,32,33],(14,([0,1,2,3,4,5,6,7,8,9,10,11],[40,43,44,53])),z 13 [41,42],z 15 [9,10],z 16 [8,52,51,45,49,50,48,46,47,1,2,39,37,38,36,34,35,5,7,6,54],z 8 [4,54,24,25],z 17 [8,55,56,57,58,59],z 5 [16,17],z 18 [1,2,5,6,7]]
def C7v:FnE:=⟨60,[(4,none)],A0S (A0n Tryz.prog D2n Tryz.f15)⟩
theorem D2o:A0O Tryz.prog 15 C7v:=A0d Tryz.func15 (by kernel_rfl:A0n Tryz.prog D2n Tryz.f15=some C7v)
def D2p:A0m:=[z 0 [0,2,3],z 1 [1,7,8,6,9,10],z 3 [13],z 4 [4,5,11,12,14,15,16],z 5 [4,11,12,18],z 6 [5,17],z 7 [5,17,19]]
def C7w:FnE:=⟨20,[(2,none),(3,none)],A0S (A0n Tryz.prog D2p Tryz.f16)⟩
theorem D2q:A0O Tryz.prog 16 C7w:=A0d Tryz.func16 (by kernel_rfl:A0n Tryz.prog D2p Tryz.f16=some C7w)
def D2r:A0m:=[z 0 [0,2,3],z 1 [1,8,9,7,10,11],z 2 [12,13,14,15,16],z 3 [4,5,17,18],z 4 [2,3,5,17,19],z 5 [4,20,21,22],z 6 [23,24],z 7 [6,25,26,27,28],z 8 [6,25,4,20]]
def C7x:FnE:=⟨29,[(2,none),(3,none)],A0S (A0n Tryz.prog D2r Tryz.f17)⟩
theorem D2s:A0O Tryz.prog 17 C7x:=A0d Tryz.func17 (by kernel_rfl:A0n Tryz.prog D2r Tryz.f17=some C7x)
def D2t:A0m:=[z 0 [4],z 1 [6,7,8,9,10,11,12,13,14,15,16],z 2 [0,1,17],z 3 [4,17],z 4 [18,19,20],(6,([0,1,2,3,4,5,6,7,8],[21,24,25,26,27,28,29,30,31])),z 7 [5,1,0,32],z 5 [4,32,22,23],z 8 [0,1,5]]
def C7y:FnE:=⟨33,[(4,none)],A0S (A0n Tryz.prog D2t Tryz.f18)⟩
theorem D2u:A0O Tryz.prog 18 C7y:=A0d Tryz.func18 (by kernel_rfl:A0n Tryz.prog D2t Tryz.f18=some C7y)
def D2v:A0m:=[z 0 [0,2,3],z 1 [7,8],z 2 [9],z 3 [1,4,10,11],z 4 [2,3,4,10],z 6 [1,12],z 7 [6,13,14],z 8 [5,15,16]]
def C7z:FnE:=⟨17,[(2,none),(3,none)],A0S (A0n Tryz.prog D2v Tryz.f19)⟩
theorem D2w:A0O Tryz.prog 19 C7z:=A0d Tryz.func19 (by kernel_rfl:A0n Tryz.prog D2v Tryz.f19=some C7z)
def D2x:A0m:=[z 0 [0,2,3],z 1 [1,8,9,7,10,11,12,4],z 2 [13],z 3 [5,6,14,15],(4,([0,1,2,3,4,5,6,7,8,9,10,11,12,13,14,15,16,17,18,19,20,21,22,23,24,25,26,27,28,29,30,31,32,33],[5,6,14,16,17,18,19,20,21,22,23,24,25,26,27,28,29,30,31,32,33,34,35,36,37,38,39,40,41,42,43,44,45,46,47]))]
def C7A:FnE:=⟨48,[(2,none),(3,none)],A0S (A0n Tryz.prog D2x Tryz.f20)⟩
theorem D2y:A0O Tryz.prog 20 C7A:=A0d Tryz.func20 (by kernel_rfl:A0n Tryz.prog D2x Tryz.f20=some C7A)
def D2z:A0m:=[z 0 [0,1,4],z 1 [2,3,5,6,7,8,9,10,11,12,13,14,15,16]]
def C7B:FnE:=⟨17,[(4,none)],A0S (A0n Tryz.prog D2z Tryz.f21)⟩
theorem D2A:A0O Tryz.prog 21 C7B:=A0d Tryz.func21 (by kernel_rfl:A0n Tryz.prog D2z Tryz.f21=some C7B)
def D2B:A0m:=[z 0 [0,5],z 1 [7,8],z 2 [9],z 3 [1,2,6,10,11,12],z 4 [5,6,10,13,14,15,16,17,18,19,20,21],z 5 [1,2,22,23],(6,([0,1,2,3,4,5,6,7,8,9,10],[1,2,22,24,25,26,27,28,29,30,31,32]))]
def C7C:FnE:=⟨33,[(4,some (some 2)),(5,none)],A0S (A0n Tryz.prog D2B Tryz.f22)⟩
theorem D2C:A0O Tryz.prog 22 C7C:=A0d Tryz.func22 (by kernel_rfl:A0n Tryz.prog D2B Tryz.f22=some C7C)
def D2D:A0m:=[z 0 [0],(1,([0,1,2,3,4,5,6,7,8],[1,5,6,7,8,9,10,11])),z 2 [12,13,14],z 3 [15],z 4 [4,16,17,18,19,20,21,22],z 5 [3,4,16,23]]
def C32:FnE:=⟨24,[(2,some (some 2))],A0S (A0n Tryz.prog D2D Tryz.f23)⟩
theorem C7D:A0O Tryz.prog 23 C32:=A0d Tryz.func23 (by kernel_rfl:A0n Tryz.prog D2D Tryz.f23=some C32)
def D2E:A0m:=[z 0 [0],z 1 [1,6,7],z 2 [8],z 4 [12,13,14,15],z 5 [16,17,18],z 6 [4,5,21,22,23,24,25,26,27],z 7 [4,5,21,28],z 8 [3,9,10,11,29]]
def C4v:FnE:=⟨30,[(2,some (some 2))],A0S (A0n Tryz.prog D2E Tryz.f24)⟩
theorem C8R:A0O Tryz.prog 24 C4v:=A0d Tryz.func24 (by kernel_rfl:A0n Tryz.prog D2E Tryz.f24=some C4v)
def D2F:A0m:=[z 0 [4],z 3 [10,11],z 5 [12,15,16,17,18],z 4 [13,14],z 6 [7],z 7 [19,20],z 9 [21],z 10 [24,25,26],z 11 [27,28,29,30,31,32,33,34,35],z 12 [27,36,37,38,39,40,41,42],(13,([0,1,2,3,4,5,6,7,8,9],[9,43,44,45,46,47,48,49,50,51])),z 8 [22,23],z 14 [0,1,5,6,8,52]]
def C7E:FnE:=⟨53,[(4,none)],A0S (A0n Tryz.prog D2F Tryz.f25)⟩
theorem D2G:A0O Tryz.prog 25 C7E:=A0d Tryz.func25 (by kernel_rfl:A0n Tryz.prog D2F Tryz.f25=some C7E)
def D2H:A0m:=[z 0 [0,2,3],z 1 [7,8,6,9,10],z 2 [11],z 3 [1,4,5,12,13],z 4 [1,4,5,12,14,15,16,17,18,19,20]]
def C7F:FnE:=⟨21,[(2,none),(3,none)],A0S (A0n Tryz.prog D2H Tryz.f26)⟩
theorem D2I:A0O Tryz.prog 26 C7F:=A0d Tryz.func26 (by kernel_rfl:A0n Tryz.prog D2H Tryz.f26=some C7F)
def D2J:A0m:=[z 0 [0,4],z 1 [2,9,10,11,8,12,13],z 2 [14],z 3 [1,5,6,15,16],z 4 [4,1,6,15,17,18],z 5 [20,21,22],z 6 [5,7,19],z 7 [5,7,19,24,25,26],z 8 [23],z 9 [23]]
def C7G:FnE:=⟨27,[(4,none)],A0S (A0n Tryz.prog D2J Tryz.f27)⟩
theorem D2K:A0O Tryz.prog 27 C7G:=A0d Tryz.func27 (by kernel_rfl:A0n Tryz.prog D2J Tryz.f27=some C7G)
def D2L:A0m:=[z 0 [0,2],z 1 [6],z 3 [7,8,9,10],z 5 [11,14,15,16,17,18],z 6 [19,20],z 7 [21,22,23],z 8 [5,21,24,25,26,27,28,29,30,31,32],z 4 [12,13],z 9 [1,3,4,33]]
def C7H:FnE:=⟨34,[(2,none)],A0S (A0n Tryz.prog D2L Tryz.f28)⟩
theorem D2M:A0O Tryz.prog 28 C7H:=A0d Tryz.func28 (by kernel_rfl:A0n Tryz.prog D2L Tryz.f28=some C7H)
def D2N:A0m:=[z 0 [0,5],z 1 [11,12,13],z 2 [14,15,16,17,18],z 3 [1,2,6,19,20,21],z 4 [5,6,19,23,24,22,25,26,8],(5,([0,1,2,3,4,5,6,7,8,9,10],[2,27,28,29,30,31,32,33,34,35])),z 6 [36,37],z 8 [40,41],(9,([0,1,2,3,4,5,6,7,8,9],[10,42,43,44,45,46,47,48,49,50])),z 10 [51],z 11 [1,7,9,38,39,52]]
def C7I:FnE:=⟨53,[(4,some (some 2)),(5,none)],A0S (A0n Tryz.prog D2N Tryz.f29)⟩
theorem D2O:A0O Tryz.prog 29 C7I:=A0d Tryz.func29 (by kernel_rfl:A0n Tryz.prog D2N Tryz.f29=some C7I)
def D2P:A0m:=[z 0 [0,2],z 1 [6,7,8,9,10,11],z 2 [1,12],z 3 [2,12],z 4 [13],z 6 [17,18,19,20],z 7 [4,21,22,23,28,29,36,37],z 8 [16,3,43,42,41,39,40,38,1,35,34,33,31,32,30,27,24,26,25,14,15,5,44],z 9 [2,5,44,45,46,47],z 10 [48],z 11 [1,3,14,15,16]]
def C7J:FnE:=⟨49,[(2,none)],A0S (A0n Tryz.prog D2P Tryz.f30)⟩
theorem D2Q:A0O Tryz.prog 30 C7J:=A0d Tryz.func30 (by kernel_rfl:A0n Tryz.prog D2P Tryz.f30=some C7J)
def D2R:A0m:=[z 0 [0,2,3],z 1 [1,7,8,6,9,10],z 2 [4,5,11,12,13,14]]
def C7K:FnE:=⟨15,[(2,none),(3,none)],A0S (A0n Tryz.prog D2R Tryz.f31)⟩
theorem D2S:A0O Tryz.prog 31 C7K:=A0d Tryz.func31 (by kernel_rfl:A0n Tryz.prog D2R Tryz.f31=some C7K)
def D2T:A0m:=[z 1 [0,6,7,5,8,9,4],z 2 [3,10]]
def C8S:FnE:=⟨11,[(2,some (some 2))],A0S (A0n Tryz.prog D2T Tryz.f32)⟩
theorem D5v:A0O Tryz.prog 32 C8S:=A0d Tryz.func32 (by kernel_rfl:A0n Tryz.prog D2T Tryz.f32=some C8S)
def D2U:A0m:=[z 0 [0,2],z 1 [1,8,9],z 2 [11,12,10,13,14],z 3 [3,16,17,15,18,19],z 4 [4,5,6,7,20,21,22,23,24,25,26,27,28,29,30,31,32,33,34]]
def C7L:FnE:=⟨35,[(2,none)],A0S (A0n Tryz.prog D2U Tryz.f33)⟩
theorem D2V:A0O Tryz.prog 33 C7L:=A0d Tryz.func33 (by kernel_rfl:A0n Tryz.prog D2U Tryz.f33=some C7L)
def D2W:A0m:=[z 0 [0,2,3],z 1 [5,6],z 2 [7],z 3 [1,4,8,9],z 4 [1,4,8,10,11,12,13,14,15,16,17]]
def C7M:FnE:=⟨18,[(2,none),(3,none)],A0S (A0n Tryz.prog D2W Tryz.f34)⟩
theorem D2X:A0O Tryz.prog 34 C7M:=A0d Tryz.func34 (by kernel_rfl:A0n Tryz.prog D2W Tryz.f34=some C7M)
def D2Y:A0m:=[z 0 [0,8],z 1 [18,19],z 2 [4,20,21,22],z 5 [23,24,25],z 7 [26,29,30,31,32],(8,([0,1,2,3,4,5,6,7,8,9,10,11,12,13,14,15,16,17,18,19,20,21],[33,34,35,36,37,38,39,40,41,42,43,44,45,46,47,48,49,50,51,52])),z 9 [14,15,53,54,63,64],z 10 [77],z 11 [78,79,80,81,82],z 12 [83,84],z 13 [83,85,86,87,88,89,90],z 14 [13,91,92,93,94,95],z 15 [13,91,96],z 16 [16,97,98,99],z 17 [12,11,112,110,111,109,105,108,107,106,10,2,9,76,67,75,71,74,72,73,70,68,69,66,65,3,62,58,61,59,60,57,55,56,1,100],z 18 [8,100,97,101,102,103,104],z 19 [16,113,114,115,116,117,118],z 20 [113],z 21 [119,120,121],z 23 [122,125,126,127,128,129],z 24 [17,16,11,112,110,111,109,105,108,107,106,10,2,9,76,67,75,71,74,72,73,70,68,69,66,65,3,62,58,61,59,60,57,55,56,1,12,130],z 22 [8,130,123,124],z 25 [16,17,131,132,133,134],z 6 [27,28],z 26 [1,2,3,9,10,11,12]]
def C7N:FnE:=⟨135,[(8,none)],A0S (A0n Tryz.prog D2Y Tryz.f35)⟩
theorem D2Z:A0O Tryz.prog 35 C7N:=A0d Tryz.func35 (by kernel_rfl:A0n Tryz.prog D2Y Tryz.f35=some C7N)
def D20:A0m:=[z 0 [0,6],z 1 [3,8,9],(2,([0,1,2,3,4,5,6,7,8,9,10,11,12,13,14,15,16,17,18,19,20,21,22,23,24,25,26,27,28,29,30,31,32,33,34,35,36,37,38,39,40,41,42,43,44],[1,2,7,10,11,12,13,14,15,16,17,18,19,20,21,22,23,24,25,26,27,28,29,30,31,32,33,34,35,36,37,38,39,40,41,42,43,44,45,46,47,48,49,50,51,52,53]))]
def C7O:FnE:=⟨54,[(6,none)],A0S (A0n Tryz.prog D20 Tryz.f36)⟩
theorem D21:A0O Tryz.prog 36 C7O:=A0d Tryz.func36 (by kernel_rfl:A0n Tryz.prog D20 Tryz.f36=some C7O)
def D22:A0m:=[z 0 [0,3],z 1 [10,11,9,12,13],z 2 [15,16],z 3 [1,4,5,14,17,18],z 4 [4,5,14,20,21],z 5 [1,19,22],z 6 [3,19,23,24,25],z 7 [1,26],z 9 [30,31,32,33],(10,([0,1,2,3,4,5,6,7,8,9,10,11,12,13,14,15,16,17],[7,8,34,35,36,37,38,39,40,41,42,43,44,45,46,47,48,49,50])),z 11 [51],z 12 [6,27,28,29,52]]
def C7P:FnE:=⟨53,[(2,some (some 3)),(3,none)],A0S (A0n Tryz.prog D22 Tryz.f37)⟩
theorem D23:A0O Tryz.prog 37 C7P:=A0d Tryz.func37 (by kernel_rfl:A0n Tryz.prog D22 Tryz.f37=some C7P)
def D24:A0m:=[z 0 [0,2],z 1 [6],z 4 [1,3,7],z 5 [5,8,9],z 6 [10,11],z 7 [4,12]]
def C7Q:FnE:=⟨13,[(2,none)],A0S (A0n Tryz.prog D24 Tryz.f38)⟩
theorem D25:A0O Tryz.prog 38 C7Q:=A0d Tryz.func38 (by kernel_rfl:A0n Tryz.prog D24 Tryz.f38=some C7Q)
def D26:A0m:=[z 0 [13,14,15,16],z 1 [4,17],z 3 [19,20],z 4 [21,22,23],z 5 [8,24,25,26,27,28,29,30,31],(6,([0,1,2,3,4,5,6,7,8],[7,38,39,40,41,42,43,44,45,46,47])),z 7 [7,38,48],(8,([0,1,2,3,4,5,6,7,8],[1,2,3,18,17,49,50,51,52,53,54,55])),z 9 [56,57],z 11 [60,61],(12,([0,1,2,3,4,5,6,7,8,9,10],[10,62,63,64,65,66,67,68,69,70,71])),z 13 [72],z 14 [0,58,59,74,75,73,76,77,12],z 15 [11],z 16 [4,9,78,79,80,81,82]]
def C7R:FnE:=⟨83,[],A0S (A0n Tryz.prog D26 Tryz.f39)⟩
theorem D27:A0O Tryz.prog 39 C7R:=A0d Tryz.func39 (by kernel_rfl:A0n Tryz.prog D26 Tryz.f39=some C7R)
def D28:A0m:=[z 0 [2],z 1 [0,3,4,5,6,7,8]]
def C33:FnE:=⟨9,[(2,none)],A0S (A0n Tryz.prog D28 Tryz.f40)⟩
theorem C7S:A0O Tryz.prog 40 C33:=A0d Tryz.func40 (by kernel_rfl:A0n Tryz.prog D28 Tryz.f40=some C33)
def D29:A0m:=[z 0 [2],z 1 [3],z 2 [0,4],z 3 [0,4,5,6,7]]
def C1v:FnE:=⟨8,[(2,none)],A0S (A0n Tryz.prog D29 Tryz.f41)⟩
theorem C4w:A0O Tryz.prog 41 C1v:=A0d Tryz.func41 (by kernel_rfl:A0n Tryz.prog D29 Tryz.f41=some C1v)
def D3a:A0m:=[z 0 [2],z 1 [0,3,4,5,6,7,8]]
def C7T:FnE:=⟨9,[(2,none)],A0S (A0n Tryz.prog D3a Tryz.f42)⟩
theorem D3b:A0O Tryz.prog 42 C7T:=A0d Tryz.func42 (by kernel_rfl:A0n Tryz.prog D3a Tryz.f42=some C7T)
def D3c:A0m:=[z 0 [0,4],z 1 [7,8],z 2 [9],z 3 [1,5,10,11,12],z 4 [4,1,5,10,13,14,15],z 5 [16,17],z 6 [18,19],z 8 [20,23,24,25,26,27,28],(9,([0,1,2,3,4,5],[6,29,30,31,32,33])),z 7 [21,22],(10,([0,1,2,3,4,5],[6,34,35,36]))]
def C7U:FnE:=⟨37,[(2,none),(3,some (some 2)),(4,none)],A0S (A0n Tryz.prog D3c Tryz.f43)⟩
theorem D3d:A0O Tryz.prog 43 C7U:=A0d Tryz.func43 (by kernel_rfl:A0n Tryz.prog D3c Tryz.f43=some C7U)
def D3e:A0m:=[z 0 [4],z 1 [6,7,8,9],z 2 [0,1,10],z 3 [4,10,11],z 5 [14,15],(6,([0,1,2,3,4,5,6,7,8],[5,16,17,18,19,20,21,22,23])),z 7 [13,1,0,12,24],z 8 [4,24,25],z 9 [0,1,12,13]]
def C7V:FnE:=⟨26,[(4,none)],A0S (A0n Tryz.prog D3e Tryz.f44)⟩
theorem D3f:A0O Tryz.prog 44 C7V:=A0d Tryz.func44 (by kernel_rfl:A0n Tryz.prog D3e Tryz.f44=some C7V)
def D3g:A0m:=[z 0 [4],z 1 [6,7,8,9],z 2 [0,1,10],z 3 [4,10,11],z 5 [14,15],(6,([0,1,2,3,4,5,6,7,8],[5,16,17,18,19,20,21,22,23])),z 7 [13,1,0,12,24],z 8 [4,24,25],z 9 [0,1,12,13]]
def C7W:FnE:=⟨26,[(4,none)],A0S (A0n Tryz.prog D3g Tryz.f45)⟩
theorem D3h:A0O Tryz.prog 45 C7W:=A0d Tryz.func45 (by kernel_rfl:A0n Tryz.prog D3g Tryz.f45=some C7W)
def D3i:A0m:=[z 0 [4],(1,([0,1,2,3,4,5,6,7,8,9],[0,1,5,6,7,8,9,10,11,12,13]))]
def C7X:FnE:=⟨14,[(4,none)],A0S (A0n Tryz.prog D3i Tryz.f46)⟩
theorem D3j:A0O Tryz.prog 46 C7X:=A0d Tryz.func46 (by kernel_rfl:A0n Tryz.prog D3i Tryz.f46=some C7X)
def D3k:A0m:=[z 0 [4],(1,([0,1,2,3,4,5,6,7,8,9],[0,1,5,6,7,8,9,10,11,12,13]))]
def C7Y:FnE:=⟨14,[(4,none)],A0S (A0n Tryz.prog D3k Tryz.f47)⟩
theorem D3l:A0O Tryz.prog 47 C7Y:=A0d Tryz.func47 (by kernel_rfl:A0n Tryz.prog D3k Tryz.f47=some C7Y)
def D3m:A0m:=[z 0 [2],z 1 [0,4,5,6],z 2 [7,8],z 3 [3,9]]
def C4x:FnE:=⟨10,[(2,none)],A0S (A0n Tryz.prog D3m Tryz.f48)⟩
theorem C8T:A0O Tryz.prog 48 C4x:=A0d Tryz.func48 (by kernel_rfl:A0n Tryz.prog D3m Tryz.f48=some C4x)
def D3n:A0m:=[z 0 [2],z 1 [0,4,5,6],z 2 [7,8],z 3 [3,9]]
def C4y:FnE:=⟨10,[(2,none)],A0S (A0n Tryz.prog D3n Tryz.f49)⟩
theorem C8U:A0O Tryz.prog 49 C4y:=A0d Tryz.func49 (by kernel_rfl:A0n Tryz.prog D3n Tryz.f49=some C4y)
def D3o:A0m:=[z 0 [0,5],z 1 [10,11,9,12,13],z 2 [15,16],z 3 [1,2,6,7,14,17,18],z 4 [2,7,14,20,21,22,23,24,25],z 5 [1,6,19,26],z 6 [5,19,27],z 8 [30,31],z 9 [8,32,33,34],z 10 [6,29,1,28,35,36],z 11 [5,35,37],z 12 [1,6,28,29,38]]
def C7Z:FnE:=⟨39,[(4,some (some 3)),(5,none)],A0S (A0n Tryz.prog D3o Tryz.f50)⟩
theorem D3p:A0O Tryz.prog 50 C7Z:=A0d Tryz.func50 (by kernel_rfl:A0n Tryz.prog D3o Tryz.f50=some C7Z)
def D3q:A0m:=[z 4 [8,9],z 5 [4,10,11],z 6 [12],z 7 [0,7],z 9 [16,17,18,19],z 10 [5,6,20,21,22],z 11 [23],z 12 [3,13,14,15,24]]
def C4z:FnE:=⟨25,[(2,some (some 8))],A0S (A0n Tryz.prog D3q Tryz.f51)⟩
theorem C8V:A0O Tryz.prog 51 C4z:=A0d Tryz.func51 (by kernel_rfl:A0n Tryz.prog D3q Tryz.f51=some C4z)
def D3r:A0m:=[z 0 [0,1,4],z 1 [9,10,11],z 3 [14,15],z 4 [16,17,18],z 6 [21,22],z 7 [24,25,26,23,27,28],(8,([0,1,2,3,4,5,6,7,8,9,10,11,12,13,14,15],[30,31,32,33,34,35,36,37,38,44])),z 9 [20,92,86,91,87,88,89,90,5,3,2,82,83,84,85,79,78,74,77,76,75,73,72,69,65,68,66,67,63,64,60,54,59,58,56,57,55,53,51,52,50,43,39,40,41,42,12,13,19,6,7,8,29],(10,([0,1,2,3,4,5,6,7,8,9,10,11,12,13,14,15,16,17,18,19,20,21,22,23,24,25,26,27,28,29,30,31,32,33,34,35,36,37,38,39,40,41,42,43,44,45,46,47,48],[6,7,8,29,46,47,48,49,61,62,70,71,80,81,93])),z 11 [20,92,86,91,87,88,89,90,5,3,2,82,83,84,85,79,78,74,77,76,75,73,72,69,65,68,66,67,63,64,60,54,59,58,56,57,55,53,51,52,50,43,39,40,41,42,12,13,19,45],z 12 [4,45,94],z 13 [5,19,20,95],z 14 [2,3,12,13]]
def C70:FnE:=⟨96,[(4,none)],A0S (A0n Tryz.prog D3r Tryz.f52)⟩
theorem D3s:A0O Tryz.prog 52 C70:=A0d Tryz.func52 (by kernel_rfl:A0n Tryz.prog D3r Tryz.f52=some C70)
def D3t:A0m:=[z 0 [0,1,4],z 1 [9,10],z 3 [14,15,16,17],z 4 [19,20,21,18,22,23],(5,([0,1,2,3,4,5,6,7,8,9,10,11,12,13,14,15,16,17,18,19],[5,6,7,8,24,25,26,35,36])),z 6 [13,42,37,41,38,39,40,3,2,34,33,29,32,31,30,28,27,11,12,43],z 7 [4,43,44],z 8 [2,3,11,12,13]]
def C71:FnE:=⟨45,[(4,none)],A0S (A0n Tryz.prog D3t Tryz.f53)⟩
theorem D3u:A0O Tryz.prog 53 C71:=A0d Tryz.func53 (by kernel_rfl:A0n Tryz.prog D3t Tryz.f53=some C71)
def D3v:A0m:=[z 0 [0,1,6],z 1 [2,3,10,11,12,9,13,14],z 2 [15,16],z 3 [17,18,19],(4,([0,1,2,3,4,5,6],[4,7,8,17,20,21,22,23,24,25])),z 5 [26],z 6 [26]]
def C72:FnE:=⟨27,[(6,none)],A0S (A0n Tryz.prog D3v Tryz.f54)⟩
theorem D3w:A0O Tryz.prog 54 C72:=A0d Tryz.func54 (by kernel_rfl:A0n Tryz.prog D3v Tryz.f54=some C72)
def D3x:A0m:=[z 0 [3],z 1 [7],z 2 [0,8,9],z 3 [3,8],z 4 [0,10],z 6 [14,15,16],z 7 [17,18,19,20,24,25],z 8 [13,4,28,27,26,23,22,21,11,12,6,29,30],(9,([0,1,2,3,4,5,6,7,8,9,10,11,12,13,14,15,16,17,18,19,20],[3,6,29,31,32,33,34,35,36,37,38,39,40,41,42,43,44,45,46,47,48,49])),z 10 [50],z 11 [11,12,13,51,52],z 12 [4,53,54],(13,([0,1,2,3,4,5,6,7,8],[4,53,55,56,57,58,59,60,61]))]
def C8W:FnE:=⟨62,[(2,some (some 2)),(3,none)],A0S (A0n Tryz.prog D3x Tryz.f55)⟩
theorem D5w:A0O Tryz.prog 55 C8W:=A0d Tryz.func55 (by kernel_rfl:A0n Tryz.prog D3x Tryz.f55=some C8W)
def D3y:A0m:=[z 0 [0,2],z 1 [1,3,4,5,6,7]]
def C73:FnE:=⟨8,[(2,none)],A0S (A0n Tryz.prog D3y Tryz.f56)⟩
theorem D3z:A0O Tryz.prog 56 C73:=A0d Tryz.func56 (by kernel_rfl:A0n Tryz.prog D3y Tryz.f56=some C73)
def D3A:A0m:=[z 0 [0,2],z 1 [1,6,7,5,8,9],z 2 [3,4,10,11,12]]
def C74:FnE:=⟨13,[(2,none)],A0S (A0n Tryz.prog D3A Tryz.f57)⟩
theorem D3B:A0O Tryz.prog 57 C74:=A0d Tryz.func57 (by kernel_rfl:A0n Tryz.prog D3A Tryz.f57=some C74)
def D3C:A0m:=[z 0 [10,11],z 1 [12,13],z 2 [7,14,15,16,17,18,19,20],z 3 [21,22,23,24,25,26],z 4 [1,3,4,27,28],z 6 [31,32],(7,([0,1,2,3,4,5,6,7],[8,33,34,35,36,37,38,39,40])),z 8 [41],z 9 [0,2,6,29,30,1,27,42,43,44],(10,([0,1,2,3,4],[45,46,47,48])),(11,([0,1,2,3],[3,49,50,51,52])),z 12 [4,9,53,54,55,56]]
def C4A:FnE:=⟨57,[],A0S (A0n Tryz.prog D3C Tryz.f58)⟩
theorem C8X:A0O Tryz.prog 58 C4A:=A0d Tryz.func58 (by kernel_rfl:A0n Tryz.prog D3C Tryz.f58=some C4A)
def D3D:A0m:=[z 0 [6],z 1 [10,11,12],z 2 [13,14],z 3 [15],z 4 [0,1,2,7,16,17],z 5 [6,16,18,19],z 6 [20,21],z 7 [0,1,2,7,8,22,23,24,25],z 8 [6,22,26,27,28,29,30],z 9 [8,31,32,33,34,35,36,37,38,39,40],z 10 [2,41,42,43,44,45],(11,([0,1,2,3,4,5,6,7,8],[0,1,7,46,47,48,49,50,51,52,53,54])),z 12 [9,55],z 13 [6,31,56,57,58,59,60],z 14 [61,62,63,64,65,66,67],(15,([0,1,2,3,4,5,6,7,8],[7,8,68,69,70,71,72,73,74,75,76,77])),z 16 [1,2,78,79,80,81,82],z 17 [0,83],z 18 [6,2,8,68,84,85,86,87,88],z 19 [1,7,89,90,91,92,93],z 20 [0,94]]
def C8Y:FnE:=⟨95,[(6,none)],A0S (A0n Tryz.prog D3D Tryz.f59)⟩
theorem D5x:A0O Tryz.prog 59 C8Y:=A0d Tryz.func59 (by kernel_rfl:A0n Tryz.prog D3D Tryz.f59=some C8Y)
def D3E:A0m:=[z 0 [0,4],z 1 [10,11],z 2 [12,13,14],z 3 [15,16,17,18],z 4 [19,20],z 6 [23,24],z 7 [25,26,27,28],z 8 [29],z 10 [32,33],(11,([0,1,2,3,4,5,6,7,8,9,10,11,12,13,14,15,16,17,18,19,20,21,22],[9,34,35,55])),z 12 [56],z 13 [8,30,31],z 14 [22,21,7,57,58,59,60,61],z 15 [7,57,62],z 16 [1,2,5,6,63]]
def C4B:FnE:=⟨64,[(4,none)],A0S (A0n Tryz.prog D3E Tryz.f60)⟩
theorem C8Z:A0O Tryz.prog 60 C4B:=A0d Tryz.func60 (by kernel_rfl:A0n Tryz.prog D3E Tryz.f60=some C4B)
def D3F:A0m:=[z 0 [5,6],z 1 [0,1,4,7,8,9,10,11,12,13]]
def C80:FnE:=⟨14,[],A0S (A0n Tryz.prog D3F Tryz.f61)⟩
theorem D5y:A0O Tryz.prog 61 C80:=A0d Tryz.func61 (by kernel_rfl:A0n Tryz.prog D3F Tryz.f61=some C80)
def D3G:A0m:=[z 0 [4],z 3 [12,13,14,15],z 4 [16,17,18],z 5 [11,1,9,0,10,5,6,19],z 6 [4,5,19,20,21,22,23],z 7 [6,7,24,25,26],z 8 [27],z 9 [11,1,9,0,10,8,28,29],z 10 [4,8,28,30],z 11 [0,1,9,10,11,31,32,33,34],z 12 [35],z 13 [35]]
def C75:FnE:=⟨36,[(4,none)],A0S (A0n Tryz.prog D3G Tryz.f62)⟩
theorem D3H:A0O Tryz.prog 62 C75:=A0d Tryz.func62 (by kernel_rfl:A0n Tryz.prog D3G Tryz.f62=some C75)
def D3I:A0m:=[z 0 [0,2],z 1 [4,5],z 2 [6],z 3 [1,3,7,8],z 4 [2,1,3,7,9,10],z 5 [11],z 6 [11]]
def C76:FnE:=⟨12,[(2,none)],A0S (A0n Tryz.prog D3I Tryz.f63)⟩
theorem D3J:A0O Tryz.prog 63 C76:=A0d Tryz.func63 (by kernel_rfl:A0n Tryz.prog D3I Tryz.f63=some C76)
def D3K:A0m:=[z 0 [0,2],z 1 [10,11,12],z 2 [13],z 3 [1,3,14],z 4 [2,3,14,15,16],z 6 [17],z 8 [21,22,23,24],(9,([0,1,2,3,4,5,6,7,8,9,10,11,12,13],[25,26,27,28,29,30,31,32,33,34,35,36,37])),z 10 [38,39,40,41,42,43,44,45,46],z 12 [49,50],z 13 [9,51,52,53,54,55,56],z 14 [57,58],z 15 [6,7,47,48,59,60,61,62],z 16 [63],z 17 [1,4,5,18,19,20,64,65]]
def C77:FnE:=⟨66,[(2,none)],A0S (A0n Tryz.prog D3K Tryz.f64)⟩
theorem D3L:A0O Tryz.prog 64 C77:=A0d Tryz.func64 (by kernel_rfl:A0n Tryz.prog D3K Tryz.f64=some C77)
def D3M:A0m:=[z 0 [0],z 1 [10,11,12],z 2 [13,14],z 4 [5],z 6 [17,18],z 7 [19,20,21,22],z 8 [29,30,31,32,33,34],z 9 [35,36,37,38,39],(10,([0,1,2,3,4,5,6,7,8,9,10,11,12,13,14,15,16],[40,41,42,43,44,45,46,47,48,49,50,51,52,53,54,55,56])),(11,([0,1,2,3,4,5,6,7,8,9,10,11,12,13,14,15,16,17],[8,9,40,57,58,59,60,61,62,63,64,65,66,67,68,69,70,71,72])),z 12 [73],(13,([0,1,2,3,4,5,6,7],[1,2,6,7,15,16,74,75,76,77,78,79,80]))]
def C78:FnE:=⟨81,[(4,some (some 2))],A0S (A0n Tryz.prog D3M Tryz.f65)⟩
theorem D3N:A0O Tryz.prog 65 C78:=A0d Tryz.func65 (by kernel_rfl:A0n Tryz.prog D3M Tryz.f65=some C78)
def D3O:A0m:=[z 0 [2],z 4 [12,13,14],z 5 [5,15,16,17,18],z 6 [19],z 7 [20,21],z 8 [20,22],z 9 [3,9,10,11,23,24],z 10 [0],z 12 [28,29,30],z 13 [8,31,32,33],z 14 [34],z 15 [6,25,26,27,35]]
def C79:FnE:=⟨36,[(2,none)],A0S (A0n Tryz.prog D3O Tryz.f66)⟩
theorem D3P:A0O Tryz.prog 66 C79:=A0d Tryz.func66 (by kernel_rfl:A0n Tryz.prog D3O Tryz.f66=some C79)
def D3Q:A0m:=[z 0 [2],z 1 [0,3,4,5,6,7,8]]
def C34:FnE:=⟨9,[(2,none)],A0S (A0n Tryz.prog D3Q Tryz.f67)⟩
theorem C8a:A0O Tryz.prog 67 C34:=A0d Tryz.func67 (by kernel_rfl:A0n Tryz.prog D3Q Tryz.f67=some C34)
def D3R:A0m:=[z 0 [2],z 4 [12,13,14],z 5 [5,15,16,17,18],z 6 [19],z 7 [20,21],z 8 [20,22],z 9 [3,9,10,11,23,24],z 10 [0],z 12 [28,29,30],z 13 [8,31,32,33],z 14 [34],z 15 [6,25,26,27,35]]
def C8b:FnE:=⟨36,[(2,none)],A0S (A0n Tryz.prog D3R Tryz.f68)⟩
theorem D3S:A0O Tryz.prog 68 C8b:=A0d Tryz.func68 (by kernel_rfl:A0n Tryz.prog D3R Tryz.f68=some C8b)
def D3T:A0m:=[z 0 [4,5,6],z 1 [7,8],(3,([0,1,2,3,4,5,6,7,8,9,10,11,12,13,14,15],[9,14,15,16,17,18,19,20,21,22,23,24,25,26,27])),z 2 [10,11,12,13]]
def C4C:FnE:=⟨28,[],A0S (A0n Tryz.prog D3T Tryz.f69)⟩
theorem C81:A0O Tryz.prog 69 C4C:=A0d Tryz.func69 (by kernel_rfl:A0n Tryz.prog D3T Tryz.f69=some C4C)
def D3U:A0m:=[z 0 [2],z 1 [3],z 2 [0,4],z 3 [0,4,5,6,7]]
def C4D:FnE:=⟨8,[(2,none)],A0S (A0n Tryz.prog D3U Tryz.f70)⟩
theorem C82:A0O Tryz.prog 70 C4D:=A0d Tryz.func70 (by kernel_rfl:A0n Tryz.prog D3U Tryz.f70=some C4D)
def D3V:A0m:=[z 0 [4,5,6],z 1 [7,8],(3,([0,1,2,3,4,5,6,7,8,9,10,11,12,13,14,15],[9,14,15,16,17,18,19,20,21,22,23,24,25,26,27])),z 2 [10,11,12,13]]
def C4E:FnE:=⟨28,[],A0S (A0n Tryz.prog D3V Tryz.f71)⟩
theorem C83:A0O Tryz.prog 71 C4E:=A0d Tryz.func71 (by kernel_rfl:A0n Tryz.prog D3V Tryz.f71=some C4E)
def D3W:A0m:=[z 0 [4],z 1 [0,1,5,6,7,8]]
def C4F:FnE:=⟨9,[(4,none)],A0S (A0n Tryz.prog D3W Tryz.f72)⟩
theorem C84:A0O Tryz.prog 72 C4F:=A0d Tryz.func72 (by kernel_rfl:A0n Tryz.prog D3W Tryz.f72=some C4F)
def D3X:A0m:=[z 0 [0,4,5],z 1 [2,7,8,9,10],z 2 [1,6,11,12,13,14,15,16,17]]
def C8c:FnE:=⟨18,[(4,none),(5,none)],A0S (A0n Tryz.prog D3X Tryz.f73)⟩
theorem D3Y:A0O Tryz.prog 73 C8c:=A0d Tryz.func73 (by kernel_rfl:A0n Tryz.prog D3X Tryz.f73=some C8c)
def D3Z:A0m:=[z 0 [0,6],(1,([0,1,2,3,4,5,6,7,8,9,10,11,12],[2,3,9,10,11,12,13,14,15,16,17,18,19])),z 2 [1,7,8,20,21,22,23,24,25,26,27,28,29,30,31]]
def C8d:FnE:=⟨32,[(6,none)],A0S (A0n Tryz.prog D3Z Tryz.f74)⟩
theorem D30:A0O Tryz.prog 74 C8d:=A0d Tryz.func74 (by kernel_rfl:A0n Tryz.prog D3Z Tryz.f74=some C8d)
def D31:A0m:=[z 0 [0,1,8],z 1 [2,4,14,15,16,13,17,18],(2,([0,1,2,3,4,5,6,7,8,9,10,11,12,13,14,15],[9,10,19,20,21,22,23,24,25,26,27,28,29,30,31,32])),z 3 [3,5,11,12,33,34,35,36,37,38,39,40,41,42,43,44,45,46,47,48]]
def C8e:FnE:=⟨49,[(8,none)],A0S (A0n Tryz.prog D31 Tryz.f75)⟩
theorem D32:A0O Tryz.prog 75 C8e:=A0d Tryz.func75 (by kernel_rfl:A0n Tryz.prog D31 Tryz.f75=some C8e)
def D33:A0m:=[z 0 [0,4],(1,([0,1,2,3,4,5,6,7,8,9,10,11,12],[1,2,5,6,7,8,9,10,11,12,13,14,15,16]))]
def C8f:FnE:=⟨17,[(4,none)],A0S (A0n Tryz.prog D33 Tryz.f76)⟩
theorem D34:A0O Tryz.prog 76 C8f:=A0d Tryz.func76 (by kernel_rfl:A0n Tryz.prog D33 Tryz.f76=some C8f)
def D35:A0m:=[z 0 [4],z 1 [0,1,5,6,7]]
def C85:FnE:=⟨8,[(4,none)],A0S (A0n Tryz.prog D35 Tryz.f77)⟩
theorem D5z:A0O Tryz.prog 77 C85:=A0d Tryz.func77 (by kernel_rfl:A0n Tryz.prog D35 Tryz.f77=some C85)
def D36:A0m:=[z 0 [4],z 1 [0,1,5,6,7]]
def C86:FnE:=⟨8,[(4,none)],A0S (A0n Tryz.prog D36 Tryz.f78)⟩
theorem D5A:A0O Tryz.prog 78 C86:=A0d Tryz.func78 (by kernel_rfl:A0n Tryz.prog D36 Tryz.f78=some C86)
def D37:A0m:=[z 0 [0],z 1 [1,6],z 3 [10,11,12,13],z 4 [4,14,15],z 5 [5,16,17,18,19],z 6 [5,16,20,21,22],z 7 [23],z 8 [7,8,9,24,25]]
def C8g:FnE:=⟨26,[(2,none),(3,none)],A0S (A0n Tryz.prog D37 Tryz.f79)⟩
theorem D38:A0O Tryz.prog 79 C8g:=A0d Tryz.func79 (by kernel_rfl:A0n Tryz.prog D37 Tryz.f79=some C8g)
def D39:A0m:=[z 0 [0,1,4,5,6,7,8,9]]
def C87:FnE:=⟨10,[],A0S (A0n Tryz.prog D39 Tryz.f81)⟩
theorem D5B:A0O Tryz.prog 81 C87:=A0d Tryz.func81 (by kernel_rfl:A0n Tryz.prog D39 Tryz.f81=some C87)
def D4a:A0m:=[z 0 [0,6],(1,([0,1,2,3,4,5,6,7,8,9,10,11,12,13,14,15,16,17,18,19,20,21,22,23,24,25,26,27,28,29,30,31,32,33,34,35,36,37,38,39,40,41,42,43,44,45,46,47,48,49,50,51],[1,2,3,7,8,9,10,11,12,13,14,15,16,17,18,19,20,21,22,23,24,25,26,27,28,29,30,31,32,33,34,35,36,37,38,39,40,41,42,43,44,45,46,47,48,49,50,51,52,53,54,55,56,57]))]
def C8h:FnE:=⟨58,[(6,none)],A0S (A0n Tryz.prog D4a Tryz.f82)⟩
theorem D4b:A0O Tryz.prog 82 C8h:=A0d Tryz.func82 (by kernel_rfl:A0n Tryz.prog D4a Tryz.f82=some C8h)
def D4c:A0m:=[z 2 [21,22,23],z 3 [24],z 4 [4,2,1,0,96,95,94,84,89,93,92,90,91,88,85,87,86,74,73,70,11,10,3,12,25,26,27,28,29,30],z 5 [25,31],z 6 [4,2,1,0,96,95,94,84,89,93,92,90,91,88,85,87,86,74,73,70,11,10,3,12,32,33,34,35,36,37],z 7 [32,38],z 8 [39,40,41,42,43,44],z 9 [45,46],z 10 [39,48,49,50,51,52,47,53,54],z 11 [55],z 12 [14,56,57,58,59,60,61],z 13 [62,63,64,65,66,67],z 15 [14,56,68,69,71,72],z 16 [75,76,77,78,79],(17,([0,1,2,3,4,5,6,7,8,9,10,11,12,13,14,15,16],[80,75,81,82,83])),z 18 [1,12,13,97,98,99,100,101,102,103],z 19 [15,104],z 20 [11,10,13,97,106,107,108,109,110,111,105,112,113],z 21 [17,114],z 22 [115,116,117,118,119,120],z 23 [12,121,122],z 24 [123,124],z 25 [18,19,20,125,126,127,128],z 26 [1,129,130,131,132,133,134],z 27 [16,135,136],z 28 [18,19,20,125,137,138,139],z 29 [2,140,141,142,143,144,145,146],z 30 [16,147]]
def C88:FnE:=⟨148,[],A0S (A0n Tryz.prog D4c Tryz.f83)⟩
theorem D5C:A0O Tryz.prog 83 C88:=A0d Tryz.func83 (by kernel_rfl:A0n Tryz.prog D4c Tryz.f83=some C88)
def D4d:A0m:=[z 0 [2],z 1 [0,3,4,5],z 2 [0,6,7]]
def C89:FnE:=⟨8,[(2,none)],A0S (A0n Tryz.prog D4d Tryz.f84)⟩
theorem D5D:A0O Tryz.prog 84 C89:=A0d Tryz.func84 (by kernel_rfl:A0n Tryz.prog D4d Tryz.f84=some C89)
def D4e:A0m:=[z 0 [4],z 1 [7,8],z 2 [9,10],z 3 [5],z 4 [0,1,6,11],z 5 [12],z 6 [12],z 7 [4,6,11],z 8 [0,1,13],z 9 [4,13,14,15],z 10 [0,1,16],z 11 [4,0,1,16,17,18],z 12 [19],z 13 [19]]
def C8i:FnE:=⟨20,[(4,none)],A0S (A0n Tryz.prog D4e Tryz.f85)⟩
theorem D4f:A0O Tryz.prog 85 C8i:=A0d Tryz.func85 (by kernel_rfl:A0n Tryz.prog D4e Tryz.f85=some C8i)
def D4g:A0m:=[z 0 [4],z 1 [0,1,5,6,7,8]]
def C8j:FnE:=⟨9,[(4,none)],A0S (A0n Tryz.prog D4g Tryz.f86)⟩
theorem D4h:A0O Tryz.prog 86 C8j:=A0d Tryz.func86 (by kernel_rfl:A0n Tryz.prog D4g Tryz.f86=some C8j)
def D4i:A0m:=[z 0 [0,2],z 1 [1,3]]
def C8k:FnE:=⟨4,[(2,none)],A0S (A0n Tryz.prog D4i Tryz.f87)⟩
theorem D4j:A0O Tryz.prog 87 C8k:=A0d Tryz.func87 (by kernel_rfl:A0n Tryz.prog D4i Tryz.f87=some C8k)
def D4k:A0m:=[z 0 [4],z 1 [5],z 2 [6,7],z 3 [6,8,9,10,11,12,13,14],z 4 [15],z 5 [1,16,17,18,19,20,21,22,23,24,25],z 6 [0,1,16,26]]
def C8l:FnE:=⟨27,[(4,none)],A0S (A0n Tryz.prog D4k Tryz.f88)⟩
theorem D4l:A0O Tryz.prog 88 C8l:=A0d Tryz.func88 (by kernel_rfl:A0n Tryz.prog D4k Tryz.f88=some C8l)
def D4m:A0m:=[z 0 [4],z 1 [5],z 2 [6,7],z 3 [6,8,9,10,11,12,13,14],z 4 [15],z 5 [1,16,17,18,19,20,21,22,23,24,25],z 6 [0,1,16,26]]
def C8m:FnE:=⟨27,[(4,none)],A0S (A0n Tryz.prog D4m Tryz.f89)⟩
theorem D4n:A0O Tryz.prog 89 C8m:=A0d Tryz.func89 (by kernel_rfl:A0n Tryz.prog D4m Tryz.f89=some C8m)
def D4o:A0m:=[z 0 [4],z 1 [6],z 3 [9,10],z 4 [11,12,13,14,15],z 5 [8,0,1,7,5,16,17],z 6 [4,5,16,18],z 7 [0,1,7,8]]
def C4G:FnE:=⟨19,[(4,none)],A0S (A0n Tryz.prog D4o Tryz.f90)⟩
theorem C9a:A0O Tryz.prog 90 C4G:=A0d Tryz.func90 (by kernel_rfl:A0n Tryz.prog D4o Tryz.f90=some C4G)
def D4p:A0m:=[z 0 [8],z 1 [12],z 2 [0,1,2,3,13],z 3 [8,13,14],z 4 [0,1,2,3,15,16,17,18],z 5 [8,15,19],z 6 [20,21,22,23,24],z 7 [20,25,26,27,28,29],z 8 [30,31],z 9 [32,33],z 11 [34,35],z 12 [36,37,38,39],z 13 [40],z 14 [41,42,43,44,45,46,47,48,49],z 15 [11,50,51,52,53,54,55],z 16 [56,57],z 17 [0,1,2,3,58,59,60,61],z 18 [9,10,62,63,64,65]]
def C9b:FnE:=⟨66,[(8,none)],A0S (A0n Tryz.prog D4p Tryz.f91)⟩
theorem D5E:A0O Tryz.prog 91 C9b:=A0d Tryz.func91 (by kernel_rfl:A0n Tryz.prog D4p Tryz.f91=some C9b)
def D4q:A0m:=[z 0 [4],z 1 [0,1,5,6,7]]
def C9c:FnE:=⟨8,[(4,none)],A0S (A0n Tryz.prog D4q Tryz.f92)⟩
theorem D5F:A0O Tryz.prog 92 C9c:=A0d Tryz.func92 (by kernel_rfl:A0n Tryz.prog D4q Tryz.f92=some C9c)
def D4r:A0m:=[z 0 [4,5,6,7],z 1 [1,8,9,10,11],z 2 [0,12,13]]
def C9d:FnE:=⟨14,[],A0S (A0n Tryz.prog D4r Tryz.f93)⟩
theorem D5G:A0O Tryz.prog 93 C9d:=A0d Tryz.func93 (by kernel_rfl:A0n Tryz.prog D4r Tryz.f93=some C9d)
def D4s:A0m:=[z 0 [10,11],z 1 [12,13],z 3 [14,17],(4,([0,1,2,3,4,5,6,7,8,9,10,11,12,13,14,15,16],[18,19,20,21])),(6,([0,1,2,3,4,5,6,7,8,9,10,11,12,13,14,15,16,17],[34,37,38,39,40,41,42,43,44,45,46,47,48,49,50,51,52])),z 5 [35,36],z 2 [9,15,16]]
def C9e:FnE:=⟨53,[],A0S (A0n Tryz.prog D4s Tryz.f94)⟩
theorem D5H:A0O Tryz.prog 94 C9e:=A0d Tryz.func94 (by kernel_rfl:A0n Tryz.prog D4s Tryz.f94=some C9e)
def D4t:A0m:=[z 0 [13],z 2 [1,2,14,15,16],z 3 [17,18,19],z 4 [20],z 6 [21,24,25,26,27,28,29],z 5 [22,23],z 7 [10,11,30,31],z 8 [32],(10,([0,1,2,3,4,5,6,7,8,9,10,11,12,13,14,15,16,17,18,19],[33,36,37,38,39,40,41,42,43,44,45,46,47,48,49,50,51,52,53])),z 11 [54,55,56,57,58,59],z 9 [34,35]]
def C9f:FnE:=⟨60,[],A0S (A0n Tryz.prog D4t Tryz.f95)⟩
theorem D5I:A0O Tryz.prog 95 C9f:=A0d Tryz.func95 (by kernel_rfl:A0n Tryz.prog D4t Tryz.f95=some C9f)
def D4u:A0m:=[z 0 [2,3,13,14,15],z 1 [16],z 2 [17,18,19],z 3 [20,21],z 4 [22,23,24,25,26,27],z 5 [28,29,30,31,32,33,34],z 7 [35,38,39,40,41,42],z 8 [43,44],z 9 [45,46,47,48],(10,([0,1,2,3,4,5,6,7,8,9,10,11,12,13,14,15,16,17,18,19],[12,45,49,50,51,52,53,54,55,56,57,58,59,60,61,62,63,64,65,66])),z 6 [36,37]]
def C9g:FnE:=⟨67,[],A0S (A0n Tryz.prog D4u Tryz.f96)⟩
theorem D5J:A0O Tryz.prog 96 C9g:=A0d Tryz.func96 (by kernel_rfl:A0n Tryz.prog D4u Tryz.f96=some C9g)
def D4v:A0m:=[z 0 [8,9],z 1 [2,15,16,17],z 3 [18,19,20,21,22],z 4 [23,24,25,26,27],z 5 [1,28,29,30,31,32],z 6 [33],z 7 [10,34,35],z 8 [36,37,38,39,40],z 9 [41,42,43,44],z 10 [45,46,47,48],z 11 [0,3,12,14,36,49,50,51,52,53,54],z 12 [11,0,3,10,12,14,34],z 14 [58],z 15 [13,55,57,59],z 16 [55,57,61],z 17 [13,60,62],z 13 [13,60,56]]
def C9h:FnE:=⟨63,[(8,none),(9,none)],A0S (A0n Tryz.prog D4v Tryz.f97)⟩
theorem D5K:A0O Tryz.prog 97 C9h:=A0d Tryz.func97 (by kernel_rfl:A0n Tryz.prog D4v Tryz.f97=some C9h)
def D4w:A0m:=[z 0 [1,3,10],z 1 [2,11,12],z 2 [13,14],(3,([0,1,2,3,4,5,6,7,8,9,10,11,12,13,14,15],[15,16,17,18,19,20,21,22,23,24,25,26,27,28,29])),z 4 [30,31],z 5 [32,33]]
def C9i:FnE:=⟨34,[],A0S (A0n Tryz.prog D4w Tryz.f98)⟩
theorem D5L:A0O Tryz.prog 98 C9i:=A0d Tryz.func98 (by kernel_rfl:A0n Tryz.prog D4w Tryz.f98=some C9i)
def D4x:A0m:=[z 0 [8],z 1 [13,14],z 3 [15],(5,([0,1,2,3,4,5,6,7,8,9,10,11,12,13,14,15,16,17],[19,20,21,22])),z 6 [36,37,38],z 7 [16,39,40],z 8 [9,10,0,3,2,1,35,34,33,23,27,32,31,28,30,29,26,24,25,41],z 9 [8,41,42,43,44],z 10 [9,10,0,3,2,1,35,34,33,23,27,32,31,28,30,29,26,24,25,45],(11,([0,1,2,3,4,5,6,7,8,9,10,11,12,13,14,15,16,17],[8,45,46,47,48,49,50,51,52,53,54,55,56,57,58,59,60,61])),z 12 [62,63,64],z 13 [65,66,67],z 14 [68],(16,([0,1,2,3,4,5,6,7,8,9,10,11,12],[69,72,73,74,75,76,77,78,79,80,81,82,83])),(17,([0,1,2,3,4,5,6,7,8,9,10,11,12,13,14,15,16,17],[84,85,86,87,88,89,90,91,92,93,94,95,96,97,98,99,100])),z 15 [70,71],z 18 [11,65,101,102,103],z 19 [104,105,106],z 20 [107,108],(22,([0,1,2,3,4,5,6,7,8,9,10,11,12],[109,112,113,114,115,116,117,118,119,120,121,122,123])),(23,([0,1,2,3,4,5,6,7,8,9,10,11,12,13,14,15,16,17],[124,125,126,127,128,129,130,131,132,133,134,135,136,137,138,139,140])),z 21 [110,111],z 4 [12,104,17,18],z 24 [0,1,2,3,9,10]]
def C9j:FnE:=⟨141,[(8,none)],A0S (A0n Tryz.prog D4x Tryz.f99)⟩
theorem D5M:A0O Tryz.prog 99 C9j:=A0d Tryz.func99 (by kernel_rfl:A0n Tryz.prog D4x Tryz.f99=some C9j)
def C4H:A0m:=[z 0 [10],(1,([0,1,2,3,4,5,6,7,8,9,10,11,12,13,14,15],[3,13,14,15,16,17,18,19,20,21,22,23,24,25,26])),z 2 [2,27,28,29,30],(3,([0,1,2,3,4,5,6,7,8,9,10,11,12,13,14,15,16],[31,32,33,34])),z 4 [47,48,49],(5,([0,1,2,3,4,5,6,7,8,9,10,11,12,13,14,15],[50,51,52,53])),z 6 [65,66,67],z 7 [68,69],(8,([0,1,2,3,4,5,6,7,8,9,10,11,12,13,14,15],[70,71,72,73,74,75,76,77,78,79,80,81,82,83,84])),z 9 [85,86],z 10 [87,88],z 11 [0,1,4,11,12,89]]
def C1w:FnE:=⟨90,[(10,none)],A0S (A0n Tryz.prog C4H Tryz.f100)⟩
theorem C9k:A0O Tryz.prog 100 C1w:=A0d Tryz.func100 (by kernel_rfl:A0n Tryz.prog C4H Tryz.f100=some C1w)
def C4I:A0m:=[z 0 [10,11],(1,([0,1,2,3,4,5,6,7,8,9,10,11,12,13,14,15],[3,14,15,16,17,18,19,20,21,22,23,24,25,26,27])),z 2 [2,28,29,30,31],(3,([0,1,2,3,4,5,6,7,8,9,10,11,12,13,14,15],[32,33,34,35])),z 4 [47,48,49],(5,([0,1,2,3,4,5,6,7,8,9,10,11,12,13,14,15,16],[50,51,52,53])),z 6 [66,67,68],z 7 [65,64,63,54,58,62,61,59,60,57,55,56,69,70],(8,([0,1,2,3,4,5,6,7,8,9,10,11,12,13,14,15],[0,1,4,12,138,137,136,127,131,135,134,132,133,130,128,129,119,118,109,113,117,116,114,115,112,110,111,71,72,73,74,75,76,77,78,79,80,81,82,83,84,85])),z 9 [13,86],(10,([0,1,2,3,4,5,6,7,8,9,10,11,12,13,14,15],[10,11,71,87,88,89,90,91,92,93,94,95,96,97,98,99,100])),z 11 [101,102],z 12 [103,104],(13,([0,1,2,3,4,5,6,7,8,9,10,11,12,13,14,15],[105,106,107,108])),z 14 [120,121,122],(15,([0,1,2,3,4,5,6,7,8,9,10,11,12,13,14,15,16],[123,124,125,126])),z 16 [139,140,141],z 17 [142,143],(18,([0,1,2,3,4,5,6,7,8,9,10,11,12,13,14,15],[144,145,146,147,148,149,150,151,152,153,154,155,156,157,158])),z 19 [159,160],z 20 [161,162],(21,([0,1,2,3,4,5,6,7,8,9,10,11,12,13,14,15],[0,1,4,12,138,137,136,127,131,135,134,132,133,130,128,129,119,118,109,113,117,116,114,115,112,110,111,163,164,165,166,167,168,169,170,171,172,173,174,175,176])),z 22 [13,177]]
def C1x:FnE:=⟨178,[(10,none),(11,none)],A0S (A0n Tryz.prog C4I Tryz.f101)⟩
theorem C9l:A0O Tryz.prog 101 C1x:=A0d Tryz.func101 (by kernel_rfl:A0n Tryz.prog C4I Tryz.f101=some C1x)
def C4J:A0m:=[z 1 [3],z 2 [2,4,5,6],z 4 [4,7],z 5 [8,9,10],z 6 [11,12],z 7 [0,8,13,14,15,16,17,18]]
def C1y:FnE:=⟨19,[(2,none)],A0S (A0n Tryz.prog C4J Tryz.f102)⟩
theorem C9m:A0O Tryz.prog 102 C1y:=A0d Tryz.func102 (by kernel_rfl:A0n Tryz.prog C4J Tryz.f102=some C1y)
def C4K:A0m:=[z 1 [3],z 2 [2,4,5,6],z 4 [4,7],z 5 [8,9,10],z 6 [11,12],z 7 [8,13],z 8 [14,15,16],z 9 [17,18],z 10 [0,14,19,20,21,22,23,24]]
def C1z:FnE:=⟨25,[(2,none)],A0S (A0n Tryz.prog C4K Tryz.f103)⟩
theorem C9n:A0O Tryz.prog 103 C1z:=A0d Tryz.func103 (by kernel_rfl:A0n Tryz.prog C4K Tryz.f103=some C1z)
def C4L:A0m:=[z 0 [2],z 1 [0,3,4,5]]
def B9c:FnE:=⟨6,[(2,none)],A0S (A0n Tryz.prog C4L Tryz.f104)⟩
theorem C4M:A0O Tryz.prog 104 B9c:=A0d Tryz.func104 (by kernel_rfl:A0n Tryz.prog C4L Tryz.f104=some B9c)
def C4N:A0m:=[z 0 [4],z 1 [6],z 3 [9,10],z 4 [11,12,13,14,15],z 5 [8,0,1,7,5,16,17],z 6 [4,5,16,18],z 7 [0,1,7,8]]
def B9d:FnE:=⟨19,[(4,none)],A0S (A0n Tryz.prog C4N Tryz.f105)⟩
theorem C4O:A0O Tryz.prog 105 B9d:=A0d Tryz.func105 (by kernel_rfl:A0n Tryz.prog C4N Tryz.f105=some B9d)
def C4P:A0m:=[z 0 [3],z 1 [0,1,4,5,6,7,8]]
def B9e:FnE:=⟨9,[(3,none)],A0S (A0n Tryz.prog C4P Tryz.f106)⟩
theorem C4Q:A0O Tryz.prog 106 B9e:=A0d Tryz.func106 (by kernel_rfl:A0n Tryz.prog C4P Tryz.f106=some B9e)
def C4R:A0m:=[z 0 [4],z 1 [10,11],z 2 [12,13,14,15,16,17],z 3 [5,18,19],z 4 [5,18,20,21],z 6 [22,23,24],z 8 [25,29,30,28,31,32,8],z 9 [33,34,35,36,37,38],z 10 [9,39,40,41],z 7 [26,27],z 11 [7,42],z 12 [0,1,43,44,45,46,47,48],z 13 [6,0,1,43,49]]
def C1A:FnE:=⟨50,[(4,none)],A0S (A0n Tryz.prog C4R Tryz.f107)⟩
theorem C9o:A0O Tryz.prog 107 C1A:=A0d Tryz.func107 (by kernel_rfl:A0n Tryz.prog C4R Tryz.f107=some C1A)
def C4S:A0m:=[z 0 [4],z 1 [7,8],z 2 [0,1,9,10,11,12],z 3 [4,9,13,14],z 4 [0,1,15,16,17,18,19],z 5 [4,15],z 6 [20,21,22],z 7 [23],z 8 [5,1,0,6,24,25],z 9 [4,24,26,27],z 10 [6,28,29,30,31,32,33]]
def C1B:FnE:=⟨34,[(4,none)],A0S (A0n Tryz.prog C4S Tryz.f108)⟩
theorem C9p:A0O Tryz.prog 108 C1B:=A0d Tryz.func108 (by kernel_rfl:A0n Tryz.prog C4S Tryz.f108=some C1B)
def C4T:A0m:=[z 0 [4],z 1 [0,1,5,6,7]]
def C1C:FnE:=⟨8,[(4,none)],A0S (A0n Tryz.prog C4T Tryz.f109)⟩
theorem C9q:A0O Tryz.prog 109 C1C:=A0d Tryz.func109 (by kernel_rfl:A0n Tryz.prog C4T Tryz.f109=some C1C)
def C4U:A0m:=[z 0 [1,12],z 1 [13,14,15],z 2 [16,17],(3,([0,1,2,3,4,5,6,7,8,9,10,11,12,13,14,15,16,17,18,19,20,21],[18,19,20,21,22,23])),z 4 [40,41,42],(5,([0,1,2,3,4,5,6,7,8,9,10,11,12,13,14,15],[40,43,44,45,46,47,48,49,50,51,52,53,54,55,56,57])),(6,([0,1,2,3,4,5,6,7,8,9,10,11,12,13,14,15,16,17,18,19,20,21,22,23],[10,58,59,60,61,62,63,64,65,66,67,68,69,70,71,72,73,74,75,76,77,78,79,80])),z 7 [11,81]]
def C1D:FnE:=⟨82,[],A0S (A0n Tryz.prog C4U Tryz.f111)⟩
theorem C9r:A0O Tryz.prog 111 C1D:=A0d Tryz.func111 (by kernel_rfl:A0n Tryz.prog C4U Tryz.f111=some C1D)
def C4V:A0m:=[z 0 [2],z 1 [0,3,4,5,6]]
def C1E:FnE:=⟨7,[(2,none)],A0S (A0n Tryz.prog C4V Tryz.f112)⟩
theorem C9s:A0O Tryz.prog 112 C1E:=A0d Tryz.func112 (by kernel_rfl:A0n Tryz.prog C4V Tryz.f112=some C1E)
def C4W:A0m:=[z 0 [2],(1,([0,1,2,3,4,5,6,7,8,9],[3,4,5,6,7,8,9,10,11])),(2,([0,1,2,3,4,5,6,7,8,9],[12,13,14,15,16,17,18,19,20])),(3,([0,1,2,3,4,5,6,7,8,9],[21,22,23,24,25,26,27,28,29])),z 4 [0,30,31,32]]
def C1F:FnE:=⟨33,[(2,none)],A0S (A0n Tryz.prog C4W Tryz.f113)⟩
theorem C9t:A0O Tryz.prog 113 C1F:=A0d Tryz.func113 (by kernel_rfl:A0n Tryz.prog C4W Tryz.f113=some C1F)
def C4X:A0m:=[z 0 [8],z 1 [0,1,2,3,9,10,11,12,13,14,15,16,17]]
def C1G:FnE:=⟨18,[(8,none)],A0S (A0n Tryz.prog C4X Tryz.f114)⟩
theorem C9u:A0O Tryz.prog 114 C1G:=A0d Tryz.func114 (by kernel_rfl:A0n Tryz.prog C4X Tryz.f114=some C1G)
def C4Y:A0m:=[z 0 [12],z 1 [14,15,16,17,18,19,13,20,21],z 2 [3,23,24,25,26,27,28,22,29,30],z 3 [0,1,4,5,32,33,34,35,36,37,31,38,39],z 4 [2,40]]
def C1H:FnE:=⟨41,[(12,none)],A0S (A0n Tryz.prog C4Y Tryz.f115)⟩
theorem C9v:A0O Tryz.prog 115 C1H:=A0d Tryz.func115 (by kernel_rfl:A0n Tryz.prog C4Y Tryz.f115=some C1H)
def C4Z:A0m:=[z 1 [0,3],z 2 [5],z 3 [6,7,8],z 4 [4,9]]
def C1I:FnE:=⟨10,[(2,none)],A0S (A0n Tryz.prog C4Z Tryz.f116)⟩
theorem C9w:A0O Tryz.prog 116 C1I:=A0d Tryz.func116 (by kernel_rfl:A0n Tryz.prog C4Z Tryz.f116=some C1I)
def C40:A0m:=[z 0 [2,3],z 1 [4,5,6,7,8,9],z 2 [0,10,11,12,13],z 3 [0,10,15,16,14,17,18]]
def C1J:FnE:=⟨19,[(2,none),(3,none)],A0S (A0n Tryz.prog C40 Tryz.f117)⟩
theorem C9x:A0O Tryz.prog 117 C1J:=A0d Tryz.func117 (by kernel_rfl:A0n Tryz.prog C40 Tryz.f117=some C1J)
def C41:A0m:=[z 0 [4],z 1 [14,15],z 2 [17,18,19,20,21,22,23],z 3 [0,1,5,16],z 4 [16,25,26],z 5 [0,1,5,24,27,28,29,30],z 6 [24,32,33,34,35],z 7 [0,1,5,31],z 8 [31,37,38,39,40,41,42,43,44],z 9 [0,1,5,36,45,46,47],z 10 [4,36,48,49],z 11 [50,51],z 13 [52,53,54,55,56],z 15 [57,58],z 16 [59,60,61,62,63],z 17 [64,65,66,67,68,69,70,71],z 18 [72],z 19 [1,0,131,129,130,9,126,122,125,124,123,5,106,103,105,104,10,92,90,91,85,86,89,87,88,7,8,6,11,73],z 20 [4,11,73,74,75,76,77],z 21 [64,78,79,80,81,82,83,84],z 22 [1,0,131,129,130,9,126,122,125,124,123,5,106,103,105,104,10,92,90,91,85,86,89,87,88,7,8,6,93,94],z 23 [4,93,95,96],z 24 [97,98],z 25 [99,100,101,102],z 26 [1,0,131,129,130,9,126,122,125,124,123,5,106,103,105,104,10,92,90,91,85,86,89,87,88,7,6,107,108,109,110,111,112],z 27 [113],z 28 [8,12,114,115,116,117],z 29 [8,12,114],z 30 [107,118,119,120,121,127,128],z 31 [1,0,131,129,130,9,126,122,125,124,123,5,106,103,105,104,10,92,90,91,85,86,89,87,88,7,6,132,133,134,135,136,137],z 32 [138],z 33 [8,13,139],z 34 [8,13,139,140,141,142],z 35 [0,1,5,131,129,130,126,122,125,124,123,106,103,105,104,92,90,91,85,86,89,87,88,6,7,8,9,10]]
def C1K:FnE:=⟨143,[(4,none)],A0S (A0n Tryz.prog C41 Tryz.f119)⟩
theorem C9y:A0O Tryz.prog 119 C1K:=A0d Tryz.func119 (by kernel_rfl:A0n Tryz.prog C41 Tryz.f119=some C1K)
def C42:A0m:=[z 0 [10,11],(1,([0,1,2,3,4,5,6,7,8,9,10],[0,4,12,13,14,15,16,17,18,19,20,21])),z 2 [3,22,23,24,25,26,27],z 3 [1,2,28,29],z 4 [1,2,3,22,30,31]]
def C1L:FnE:=⟨32,[(10,none),(11,none)],A0S (A0n Tryz.prog C42 Tryz.f120)⟩
theorem C9z:A0O Tryz.prog 120 C1L:=A0d Tryz.func120 (by kernel_rfl:A0n Tryz.prog C42 Tryz.f120=some C1L)
def C43:A0m:=[z 0 [2,3],z 1 [13,14],z 2 [15],z 3 [0,4,16],z 4 [2,3,16,17,18],z 5 [19,20,21],z 6 [22],z 7 [4,5,6,23,24,25,26,27],z 8 [0,7,28,29,30,31,32,33,34,35],z 9 [2,3,23,36,37,38],z 10 [6,39,40,41,42],z 11 [4,43,44],z 12 [0,5,8,9,45],z 13 [2,3,45,46,47],z 14 [9,48,49,50,51,52,53,54,55,56],z 15 [0,5,8,10,57],z 16 [2,3,57,58],z 17 [0,5,8,10,59,60,61,62,63,64,65,66,67],z 18 [2,3,59,68,69],z 19 [70,71,72,73,74],z 20 [0,5,8,10,11,75],z 21 [2,3,8,75,76],z 22 [0,5,10,11,77,78,79,80,81,82,83,84,85,86,87,88,89,90],z 23 [2,3,0,77,91,92],z 24 [93,94,95,96,97],z 25 [5,10,11,12,98],z 26 [5,10,11,12,98,99,100,101,102,103,104,105,106,107,108,109,110,111,112,113,114,115,116]]
def C1M:FnE:=⟨117,[(2,none),(3,none)],A0S (A0n Tryz.prog C43 Tryz.f121)⟩
theorem C9A:A0O Tryz.prog 121 C1M:=A0d Tryz.func121 (by kernel_rfl:A0n Tryz.prog C43 Tryz.f121=some C1M)
def C44:A0m:=[z 0 [2],z 1 [0,3,4,5]]
def C1N:FnE:=⟨6,[(2,none)],A0S (A0n Tryz.prog C44 Tryz.f123)⟩
theorem C9B:A0O Tryz.prog 123 C1N:=A0d Tryz.func123 (by kernel_rfl:A0n Tryz.prog C44 Tryz.f123=some C1N)
def C45:A0m:=[z 0 [4],z 1 [12,13,11,14,15],z 2 [16,17],z 5 [18,19],z 7 [20,23,24,25,26,27,28,29],z 6 [21,22],z 8 [9,38,36,37,34,35,30,31,32,33],z 9 [0,1,5,6,7,8,76,74,75,69,72,73,70,71,39],z 10 [4,39,40],z 11 [41,42,43],z 12 [44,45,46],z 13 [47,48,49,50,51,52],z 14 [53,54,55,56,57,58,59,60,61,62],z 15 [63,64],z 16 [65,66,67,68],z 17 [7,76,74,75,1,69,72,73,70,71,0,5,10,6,8,77,78,79,80],z 18 [0,1,5,6,7,8,76,74,75,69,72,73,70,71,10]]
def C1O:FnE:=⟨81,[(4,none)],A0S (A0n Tryz.prog C45 Tryz.f124)⟩
theorem C9C:A0O Tryz.prog 124 C1O:=A0d Tryz.func124 (by kernel_rfl:A0n Tryz.prog C45 Tryz.f124=some C1O)
def C46:A0m:=[z 0 [2,3],z 3 [9,10,11],z 5 [12,15,16,17,18,19,20,21],z 4 [13,14],z 6 [5],z 7 [0,22,23],z 8 [24],z 10 [25,28,29],z 11 [30,31,32,33],z 12 [30,34,35,36],z 9 [26,27],z 13 [4,6,7,8,37,38]]
def C1P:FnE:=⟨39,[(2,none),(3,none)],A0S (A0n Tryz.prog C46 Tryz.f125)⟩
theorem C9D:A0O Tryz.prog 125 C1P:=A0d Tryz.func125 (by kernel_rfl:A0n Tryz.prog C46 Tryz.f125=some C1P)
def xpl:List (Nat×FnE):=[(3,fe3),(4,fe4),(5,fe5),(6,fe6),(7,fe7),(9,fe9),(10,C7s),(11,C8P),(12,C4u),(13,C7t),(14,C7u),(15,C7v),(16,C7w),(17,C7x),(18,C7y),(19,C7z),(20,C7A),(21,C7B),(22,C7C),(23,C32),(24,C4v),(25,C7E),(26,C7F),(27,C7G),(28,C7H),(29,C7I),(30,C7J),(31,C7K),(32,C8S),(33,C7L),(34,C7M),(35,C7N),(36,C7O),(37,C7P),(38,C7Q),(39,C7R),(40,C33),(41,C1v),(42,C7T),(43,C7U),(44,C7V),(45,C7W),(46,C7X),(47,C7Y),(48,C4x),(49,C4y),(50,C7Z),(51,C4z),(52,C70),(53,C71),(54,C72),(55,C8W),(56,C73),(57,C74),(58,C4A),(59,C8Y),(60,C4B),(61,C80),(62,C75),(63,C76),(64,C77),(65,C78),(66,C79),(67,C34),(68,C8b),(69,C4C),(70,C4D),(71,C4E),(72,C4F),(73,C8c),(74,C8d),(75,C8e),(76,C8f),(77,C85),(78,C86),(79,C8g),(81,C87),(82,C8h),(83,C88),(84,C89),(85,C8i),(86,C8j),(87,C8k),(88,C8l),(89,C8m),(90,C4G),(91,C9b),(92,C9c),(93,C9d),(94,C9e),(95,C9f),(96,C9g),(97,C9h),(98,C9i),(99,C9j),(100,C1w),(101,C1x),(102,C1y),(103,C1z),(104,B9c),(105,B9d),(106,B9e),(107,C1A),(108,C1B),(109,C1C),(111,C1D),(112,C1E),(113,C1F),(114,C1G),(115,C1H),(116,C1I),(117,C1J),(119,C1K),(120,C1L),(121,C1M),(123,C1N),(124,C1O),(125,C1P)]
theorem B5t:C3Y Tryz.prog (aget xpl):=B6C (l:=xpl) ⟨ok3,ok4,ok5,ok6,ok7,ok9,D2g,D5u,C8Q,D2k,D2m,D2o,D2q,D2s,D2u,D2w,D2y,D2A,D2C,C7D,C8R,D2G,D2I,D2K,D2M,D2O,D2Q,D2S,D5v,D2V,D2X,D2Z,D21,D23,D25,D27,C7S,C4w,D3b,D3d,D3f,D3h,D3j,D3l,C8T,C8U,D3p,C8V,D3s,D3u,D3w,D5w,D3z,D3B,C8X,D5x,C8Z,D5y,D3H,D3J,D3L,D3N,D3P,C8a,D3S,C81,C82,C83,C84,D3Y,D30,D32,D34,D5z,D5A,D38,D5B,D4b,D5C,D5D,D4f,D4h,D4j,D4l,D4n,C9a,D5E,D5F,D5G,D5H,D5I,D5J,D5K,D5L,D5M,C9k,C9l,C9m,C9n,C4M,C4O,C4Q,C9o,C9p,C9q,C9r,C9s,C9t,C9u,C9v,C9w,C9x,C9y,C9z,C9A,C9B,C9C,C9D,trivial⟩
end
end Go.Proofs.YthiammkiobbclaaGreatDoor.X
