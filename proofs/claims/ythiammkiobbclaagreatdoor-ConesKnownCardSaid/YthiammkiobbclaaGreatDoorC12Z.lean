/-
 The chapter's examples hold (the functions are run by the kernel).
-/
import Derived.Test.YthiammkiobbclaaGreatDoorLMZ
import Derived.Test.YthiammkiobbclaaGreatDoorC10Z
import Derived.Test.YthiammkiobbclaaGreatDoorC11Z
set_option maxRecDepth 1000000
set_option linter.unusedVariables false
namespace Go.Proofs.YthiammkiobbclaaGreatDoor.X
open Go Go.Ab
theorem C3f (a k:List Int)(n m:Nat)(c1 c2:Option Nat)(hn:n=a.length)(hm:m=k.length)(hz:a.length<1000000)(hz2:k.length<1000000){v:AV}(hv:(C8C [AV.agg [AV.imm (Cont.ints IntKind.i64 a) n c1,AV.imm (Cont.ints IntKind.u8 k) m c2]]).map (·.v)=some v):SpecP Tryz.prog G 31 [AV.agg [AV.imm (Cont.ints IntKind.i64 a) n c1,AV.imm (Cont.ints IntKind.u8 k) m c2]] v []:=by
 cases hv;exact C6v _ _ rfl ⟨hn,hm,hz,hz2⟩
theorem D1n:SpecP Tryz.prog G 16 [(AV.agg [AV.imm (Cont.ints IntKind.i64 [4,4]) 2 (some 2),AV.imm (Cont.ints IntKind.u8 [3,3]) 2 (some 2)])] (AV.tup [AV.int IntKind.i64 2,AV.int IntKind.i64 0]) []:=B9E [4,4] [3,3] _ _ _ _ rfl rfl (by decide) (by decide) (by kernel_rfl)
theorem D1o:SpecP Tryz.prog G 17 [(AV.agg [AV.imm (Cont.ints IntKind.i64 [4,4]) 2 (some 2),AV.imm (Cont.ints IntKind.u8 [3,3]) 2 (some 2)])] (AV.tup [AV.imm (Cont.ints IntKind.i64 [0,1]) 2 (some 2),AV.int IntKind.i64 0]) []:=C2X [4,4] [3,3] _ _ _ _ rfl rfl (by decide) (by decide) (by kernel_rfl)
theorem D1p:SpecP Tryz.prog G 31 [(AV.agg [AV.imm (Cont.ints IntKind.i64 [4,4]) 2 (some 2),AV.imm (Cont.ints IntKind.u8 [3,3]) 2 (some 2)])] (AV.tup [AV.bool true,AV.int IntKind.i64 0]) []:=C3f [4,4] [3,3] _ _ _ _ rfl rfl (by decide) (by decide) (by kernel_rfl)
theorem D1q:SpecP Tryz.prog G 16 [(AV.agg [AV.imm (Cont.ints IntKind.i64 [4,4]) 2 (some 2),AV.imm (Cont.ints IntKind.u8 [1,1]) 2 (some 2)])] (AV.tup [AV.int IntKind.i64 1,AV.int IntKind.i64 0]) []:=B9E [4,4] [1,1] _ _ _ _ rfl rfl (by decide) (by decide) (by kernel_rfl)
theorem D1r:SpecP Tryz.prog G 17 [(AV.agg [AV.imm (Cont.ints IntKind.i64 [4,4]) 2 (some 2),AV.imm (Cont.ints IntKind.u8 [1,1]) 2 (some 2)])] (AV.tup [AV.imm (Cont.ints IntKind.i64 [1,0]) 2 (some 2),AV.int IntKind.i64 0]) []:=C2X [4,4] [1,1] _ _ _ _ rfl rfl (by decide) (by decide) (by kernel_rfl)
theorem D1s:SpecP Tryz.prog G 31 [(AV.agg [AV.imm (Cont.ints IntKind.i64 [4,4]) 2 (some 2),AV.imm (Cont.ints IntKind.u8 [1,1]) 2 (some 2)])] (AV.tup [AV.bool true,AV.int IntKind.i64 0]) []:=C3f [4,4] [1,1] _ _ _ _ rfl rfl (by decide) (by decide) (by kernel_rfl)
theorem D1t:SpecP Tryz.prog G 16 [(AV.agg [AV.imm (Cont.ints IntKind.i64 [2,2,2,2]) 4 (some 4),AV.imm (Cont.ints IntKind.u8 [1,2,1,1]) 4 (some 4)])] (AV.tup [AV.int IntKind.i64 1,AV.int IntKind.i64 0]) []:=B9E [2,2,2,2] [1,2,1,1] _ _ _ _ rfl rfl (by decide) (by decide) (by kernel_rfl)
theorem D1u:SpecP Tryz.prog G 17 [(AV.agg [AV.imm (Cont.ints IntKind.i64 [2,2,2,2]) 4 (some 4),AV.imm (Cont.ints IntKind.u8 [1,2,1,1]) 4 (some 4)])] (AV.tup [AV.imm (Cont.ints IntKind.i64 [3,0,1,2]) 4 (some 4),AV.int IntKind.i64 0]) []:=C2X [2,2,2,2] [1,2,1,1] _ _ _ _ rfl rfl (by decide) (by decide) (by kernel_rfl)
theorem D1v:SpecP Tryz.prog G 31 [(AV.agg [AV.imm (Cont.ints IntKind.i64 [2,2,2,2]) 4 (some 4),AV.imm (Cont.ints IntKind.u8 [1,2,1,1]) 4 (some 4)])] (AV.tup [AV.bool true,AV.int IntKind.i64 0]) []:=C3f [2,2,2,2] [1,2,1,1] _ _ _ _ rfl rfl (by decide) (by decide) (by kernel_rfl)
theorem D1w:SpecP Tryz.prog G 16 [(AV.agg [AV.imm (Cont.ints IntKind.i64 [2,1,2,3]) 4 (some 4),AV.imm (Cont.ints IntKind.u8 [1,1,1,2]) 4 (some 4)])] (AV.tup [AV.int IntKind.i64 0,AV.int IntKind.i64 0]) []:=B9E [2,1,2,3] [1,1,1,2] _ _ _ _ rfl rfl (by decide) (by decide) (by kernel_rfl)
theorem D1x:SpecP Tryz.prog G 17 [(AV.agg [AV.imm (Cont.ints IntKind.i64 [2,1,2,3]) 4 (some 4),AV.imm (Cont.ints IntKind.u8 [1,1,1,2]) 4 (some 4)])] (AV.tup [AV.imm (Cont.ints IntKind.i64 []) 0 (some 0),AV.int IntKind.i64 7]) []:=C2X [2,1,2,3] [1,1,1,2] _ _ _ _ rfl rfl (by decide) (by decide) (by kernel_rfl)
theorem D1y:SpecP Tryz.prog G 31 [(AV.agg [AV.imm (Cont.ints IntKind.i64 [2,1,2,3]) 4 (some 4),AV.imm (Cont.ints IntKind.u8 [1,1,1,2]) 4 (some 4)])] (AV.tup [AV.bool false,AV.int IntKind.i64 0]) []:=C3f [2,1,2,3] [1,1,1,2] _ _ _ _ rfl rfl (by decide) (by decide) (by kernel_rfl)
theorem D1z:SpecP Tryz.prog G 16 [(AV.agg [AV.imm (Cont.ints IntKind.i64 [2,2,2,2]) 4 (some 4),AV.imm (Cont.ints IntKind.u8 [3,3,3,3]) 4 (some 4)])] (AV.tup [AV.int IntKind.i64 8,AV.int IntKind.i64 0]) []:=B9E [2,2,2,2] [3,3,3,3] _ _ _ _ rfl rfl (by decide) (by decide) (by kernel_rfl)
theorem D1A:SpecP Tryz.prog G 17 [(AV.agg [AV.imm (Cont.ints IntKind.i64 [2,2,2,2]) 4 (some 4),AV.imm (Cont.ints IntKind.u8 [3,3,3,3]) 4 (some 4)])] (AV.tup [AV.imm (Cont.ints IntKind.i64 [0,1,2,3]) 4 (some 4),AV.int IntKind.i64 0]) []:=C2X [2,2,2,2] [3,3,3,3] _ _ _ _ rfl rfl (by decide) (by decide) (by kernel_rfl)
theorem D1B:SpecP Tryz.prog G 31 [(AV.agg [AV.imm (Cont.ints IntKind.i64 [2,2,2,2]) 4 (some 4),AV.imm (Cont.ints IntKind.u8 [3,3,3,3]) 4 (some 4)])] (AV.tup [AV.bool true,AV.int IntKind.i64 0]) []:=C3f [2,2,2,2] [3,3,3,3] _ _ _ _ rfl rfl (by decide) (by decide) (by kernel_rfl)
theorem D1C:SpecP Tryz.prog G 16 [(AV.agg [AV.imm (Cont.ints IntKind.i64 [3,5]) 2 (some 2),AV.imm (Cont.ints IntKind.u8 [1,1]) 2 (some 2)])] (AV.tup [AV.int IntKind.i64 0,AV.int IntKind.i64 0]) []:=B9E [3,5] [1,1] _ _ _ _ rfl rfl (by decide) (by decide) (by kernel_rfl)
theorem D1D:SpecP Tryz.prog G 17 [(AV.agg [AV.imm (Cont.ints IntKind.i64 [3,5]) 2 (some 2),AV.imm (Cont.ints IntKind.u8 [1,1]) 2 (some 2)])] (AV.tup [AV.imm (Cont.ints IntKind.i64 []) 0 (some 0),AV.int IntKind.i64 7]) []:=C2X [3,5] [1,1] _ _ _ _ rfl rfl (by decide) (by decide) (by kernel_rfl)
theorem D1E:SpecP Tryz.prog G 31 [(AV.agg [AV.imm (Cont.ints IntKind.i64 [3,5]) 2 (some 2),AV.imm (Cont.ints IntKind.u8 [1,1]) 2 (some 2)])] (AV.tup [AV.bool false,AV.int IntKind.i64 0]) []:=C3f [3,5] [1,1] _ _ _ _ rfl rfl (by decide) (by decide) (by kernel_rfl)
theorem D1F:SpecP Tryz.prog G 16 [(AV.agg [AV.nils,AV.nils])] (AV.tup [AV.int IntKind.i64 1,AV.int IntKind.i64 0]) []:=B7C (B9E [] [] _ _ _ _ rfl rfl (by decide) (by decide) (by kernel_rfl))
theorem D1G:SpecP Tryz.prog G 17 [(AV.agg [AV.nils,AV.nils])] (AV.tup [AV.imm (Cont.ints IntKind.i64 []) 0 (some 0),AV.int IntKind.i64 0]) []:=B7C (C2X [] [] _ _ _ _ rfl rfl (by decide) (by decide) (by kernel_rfl))
theorem D1H:SpecP Tryz.prog G 31 [(AV.agg [AV.nils,AV.nils])] (AV.tup [AV.bool true,AV.int IntKind.i64 0]) []:=B7C (C3f [] [] _ _ _ _ rfl rfl (by decide) (by decide) (by kernel_rfl))
theorem D1I:SpecP Tryz.prog G 26 [(AV.agg [AV.imm (Cont.ints IntKind.i64 [2,1,2,3]) 4 (some 4),AV.imm (Cont.ints IntKind.u8 [1,2,1,1]) 4 (some 4)])] (AV.tup [AV.imm (Cont.ints IntKind.i64 [0,2,1,3]) 4 (some 4),AV.int IntKind.i64 0]) []:=D60 [2,1,2,3] [1,2,1,1] _ _ _ _ rfl rfl (by decide) (by decide) (by kernel_rfl)
def D1J:List Mem:=[⟨32,[AV.str [97,52,32,97,52]],AV.agg [AV.fullc 1 2 2,AV.fullc 0 2 2],[⟨Cont.ints IntKind.u8 [3,3],1,2,none,some true,true,false⟩,⟨Cont.ints IntKind.i64 [4,4],1,2,none,some true,true,false⟩]⟩,
 ⟨16,[(AV.agg [AV.imm (Cont.ints IntKind.i64 [4,4]) 2 (some 2),AV.imm (Cont.ints IntKind.u8 [3,3]) 2 (some 2)])],(AV.tup [AV.int IntKind.i64 2,AV.int IntKind.i64 0]),[]⟩,
 ⟨17,[(AV.agg [AV.imm (Cont.ints IntKind.i64 [4,4]) 2 (some 2),AV.imm (Cont.ints IntKind.u8 [3,3]) 2 (some 2)])],(AV.tup [AV.imm (Cont.ints IntKind.i64 [0,1]) 2 (some 2),AV.int IntKind.i64 0]),[]⟩,
 ⟨31,[(AV.agg [AV.imm (Cont.ints IntKind.i64 [4,4]) 2 (some 2),AV.imm (Cont.ints IntKind.u8 [3,3]) 2 (some 2)])],(AV.tup [AV.bool true,AV.int IntKind.i64 0]),[]⟩,
 ⟨32,[AV.str [109,52,32,109,52]],AV.agg [AV.fullc 1 2 2,AV.fullc 0 2 2],[⟨Cont.ints IntKind.u8 [1,1],1,2,none,some true,true,false⟩,⟨Cont.ints IntKind.i64 [4,4],1,2,none,some true,true,false⟩]⟩,
 ⟨16,[(AV.agg [AV.imm (Cont.ints IntKind.i64 [4,4]) 2 (some 2),AV.imm (Cont.ints IntKind.u8 [1,1]) 2 (some 2)])],(AV.tup [AV.int IntKind.i64 1,AV.int IntKind.i64 0]),[]⟩,
 ⟨17,[(AV.agg [AV.imm (Cont.ints IntKind.i64 [4,4]) 2 (some 2),AV.imm (Cont.ints IntKind.u8 [1,1]) 2 (some 2)])],(AV.tup [AV.imm (Cont.ints IntKind.i64 [1,0]) 2 (some 2),AV.int IntKind.i64 0]),[]⟩,
 ⟨31,[(AV.agg [AV.imm (Cont.ints IntKind.i64 [4,4]) 2 (some 2),AV.imm (Cont.ints IntKind.u8 [1,1]) 2 (some 2)])],(AV.tup [AV.bool true,AV.int IntKind.i64 0]),[]⟩,
 ⟨32,[AV.str [109,50,32,118,50,32,109,50,32,109,50]],AV.agg [AV.fullc 1 4 4,AV.fullc 0 4 4],[⟨Cont.ints IntKind.u8 [1,2,1,1],1,4,none,some true,true,false⟩,⟨Cont.ints IntKind.i64 [2,2,2,2],1,4,none,some true,true,false⟩]⟩,
 ⟨16,[(AV.agg [AV.imm (Cont.ints IntKind.i64 [2,2,2,2]) 4 (some 4),AV.imm (Cont.ints IntKind.u8 [1,2,1,1]) 4 (some 4)])],(AV.tup [AV.int IntKind.i64 1,AV.int IntKind.i64 0]),[]⟩,
 ⟨17,[(AV.agg [AV.imm (Cont.ints IntKind.i64 [2,2,2,2]) 4 (some 4),AV.imm (Cont.ints IntKind.u8 [1,2,1,1]) 4 (some 4)])],(AV.tup [AV.imm (Cont.ints IntKind.i64 [3,0,1,2]) 4 (some 4),AV.int IntKind.i64 0]),[]⟩,
 ⟨31,[(AV.agg [AV.imm (Cont.ints IntKind.i64 [2,2,2,2]) 4 (some 4),AV.imm (Cont.ints IntKind.u8 [1,2,1,1]) 4 (some 4)])],(AV.tup [AV.bool true,AV.int IntKind.i64 0]),[]⟩,
 ⟨32,[AV.str [109,50,32,109,49,32,109,50,32,118,51]],AV.agg [AV.fullc 1 4 4,AV.fullc 0 4 4],[⟨Cont.ints IntKind.u8 [1,1,1,2],1,4,none,some true,true,false⟩,⟨Cont.ints IntKind.i64 [2,1,2,3],1,4,none,some true,true,false⟩]⟩,
 ⟨16,[(AV.agg [AV.imm (Cont.ints IntKind.i64 [2,1,2,3]) 4 (some 4),AV.imm (Cont.ints IntKind.u8 [1,1,1,2]) 4 (some 4)])],(AV.tup [AV.int IntKind.i64 0,AV.int IntKind.i64 0]),[]⟩,
 ⟨17,[(AV.agg [AV.imm (Cont.ints IntKind.i64 [2,1,2,3]) 4 (some 4),AV.imm (Cont.ints IntKind.u8 [1,1,1,2]) 4 (some 4)])],(AV.tup [AV.imm (Cont.ints IntKind.i64 []) 0 (some 0),AV.int IntKind.i64 7]),[]⟩,
 ⟨31,[(AV.agg [AV.imm (Cont.ints IntKind.i64 [2,1,2,3]) 4 (some 4),AV.imm (Cont.ints IntKind.u8 [1,1,1,2]) 4 (some 4)])],(AV.tup [AV.bool false,AV.int IntKind.i64 0]),[]⟩,
 ⟨32,[AV.str [97,50,32,97,50,32,97,50,32,97,50]],AV.agg [AV.fullc 1 4 4,AV.fullc 0 4 4],[⟨Cont.ints IntKind.u8 [3,3,3,3],1,4,none,some true,true,false⟩,⟨Cont.ints IntKind.i64 [2,2,2,2],1,4,none,some true,true,false⟩]⟩,
 ⟨16,[(AV.agg [AV.imm (Cont.ints IntKind.i64 [2,2,2,2]) 4 (some 4),AV.imm (Cont.ints IntKind.u8 [3,3,3,3]) 4 (some 4)])],(AV.tup [AV.int IntKind.i64 8,AV.int IntKind.i64 0]),[]⟩,
 ⟨17,[(AV.agg [AV.imm (Cont.ints IntKind.i64 [2,2,2,2]) 4 (some 4),AV.imm (Cont.ints IntKind.u8 [3,3,3,3]) 4 (some 4)])],(AV.tup [AV.imm (Cont.ints IntKind.i64 [0,1,2,3]) 4 (some 4),AV.int IntKind.i64 0]),[]⟩,
 ⟨31,[(AV.agg [AV.imm (Cont.ints IntKind.i64 [2,2,2,2]) 4 (some 4),AV.imm (Cont.ints IntKind.u8 [3,3,3,3]) 4 (some 4)])],(AV.tup [AV.bool true,AV.int IntKind.i64 0]),[]⟩,
 ⟨32,[AV.str [109,51,32,109,53]],AV.agg [AV.fullc 1 2 2,AV.fullc 0 2 2],[⟨Cont.ints IntKind.u8 [1,1],1,2,none,some true,true,false⟩,⟨Cont.ints IntKind.i64 [3,5],1,2,none,some true,true,false⟩]⟩,
 ⟨16,[(AV.agg [AV.imm (Cont.ints IntKind.i64 [3,5]) 2 (some 2),AV.imm (Cont.ints IntKind.u8 [1,1]) 2 (some 2)])],(AV.tup [AV.int IntKind.i64 0,AV.int IntKind.i64 0]),[]⟩,
 ⟨17,[(AV.agg [AV.imm (Cont.ints IntKind.i64 [3,5]) 2 (some 2),AV.imm (Cont.ints IntKind.u8 [1,1]) 2 (some 2)])],(AV.tup [AV.imm (Cont.ints IntKind.i64 []) 0 (some 0),AV.int IntKind.i64 7]),[]⟩,
 ⟨31,[(AV.agg [AV.imm (Cont.ints IntKind.i64 [3,5]) 2 (some 2),AV.imm (Cont.ints IntKind.u8 [1,1]) 2 (some 2)])],(AV.tup [AV.bool false,AV.int IntKind.i64 0]),[]⟩,
 ⟨32,[AV.str [45]],AV.agg [AV.nils,AV.nils],[]⟩,
 ⟨16,[(AV.agg [AV.nils,AV.nils])],(AV.tup [AV.int IntKind.i64 1,AV.int IntKind.i64 0]),[]⟩,
 ⟨17,[(AV.agg [AV.nils,AV.nils])],(AV.tup [AV.imm (Cont.ints IntKind.i64 []) 0 (some 0),AV.int IntKind.i64 0]),[]⟩,
 ⟨31,[(AV.agg [AV.nils,AV.nils])],(AV.tup [AV.bool true,AV.int IntKind.i64 0]),[]⟩,
 ⟨32,[AV.str [109,50,32,118,49,32,109,50,32,109,51]],AV.agg [AV.fullc 1 4 4,AV.fullc 0 4 4],[⟨Cont.ints IntKind.u8 [1,2,1,1],1,4,none,some true,true,false⟩,⟨Cont.ints IntKind.i64 [2,1,2,3],1,4,none,some true,true,false⟩]⟩,
 ⟨26,[(AV.agg [AV.imm (Cont.ints IntKind.i64 [2,1,2,3]) 4 (some 4),AV.imm (Cont.ints IntKind.u8 [1,2,1,1]) 4 (some 4)])],(AV.tup [AV.imm (Cont.ints IntKind.i64 [0,2,1,3]) 4 (some 4),AV.int IntKind.i64 0]),[]⟩]
theorem C6w:C1r Tryz.prog G D1J:=⟨D0R,D1n,D1o,D1p,D0T,D1q,D1r,D1s,D0V,D1t,D1u,D1v,D0X,D1w,D1x,D1y,D0Z,D1z,D1A,D1B,D01,D1C,D1D,D1E,D03,D1F,D1G,D1H,D05,D1I,trivial⟩
theorem D7w:B3C Tryz.prog G (B86 (C4t D1J)):=B87 (B6W C6w)
theorem D7x:evM G (aget xpl) B5i (B86 (C4t D1J)) 100000 1000 1 [] (.fn 11 [] []) []=some ⟨.bool true,[],[],[]⟩:=by kernel_rfl
theorem D7y:SpecP Tryz.prog G 11 [] (.bool true) []:=A5D hcm hmx B5t A3G D7w D7x rfl
theorem B2M:A1j Tryz.prog G 11 e11:=by
 intro args r h hp;unfold e11 at h;split at h<;>cases h;exact D7y
set_option linter.unusedSimpArgs false
theorem B9O {l:List Int}{k:Int}(h0:0<=k)(h1:k<l.length):l.Perm (gR l k::C1U l k):=by
 have hk:k.toNat<l.length:=by omega
 unfold gR C1U;rw[List.getElem?_eq_getElem hk,show(k+1).toNat=k.toNat+1 by omega];have e:l=l.take k.toNat++l[k.toNat]::l.drop (k.toNat+1):=by
  rw[<- List.drop_eq_getElem_cons hk,List.take_append_drop]
 conv=>lhs;rw[e]
 exact List.perm_middle
theorem B4h {x:List Int}(hx:∀y∈x,0<=y/\y<256):∀(f i:Nat) (l:List Int),l.length=f->(oxR x f i l).Perm l
 |0,i,l,h=>by rw[List.length_eq_zero_iff.1 h];exact List.Perm.refl _
 |f+1,i,l,h=>by
  have hk:=C0J hx (i:=i) (n:=l.length) (by omega);have hp:=B9O hk.1 hk.2;have hr:=B4g hk.1 hk.2;have ih:=B4h hx f (i+1) (C1U l (pkX x i l.length)) (by omega);rw[oxR];rw[show((i+1:Nat):Int)=(i:Int)+1 by omega]at ih;exact(List.Perm.cons _ ih).trans hp.symm
theorem B7M {x:List Int}(hx:∀y∈x,0<=y/\y<256)(n:Nat):(oxL x n).Perm (idO n):=B4h hx n 0 (idN n) (B7I n)
theorem C0M {a k:List Int}(hc:chk a k=0)(h:A0l a k=false):ofE a k=14:=by
 unfold ofE;rw[if_pos hc,if_neg];intro hb;rw[A1d.2 ⟨hc,hb⟩]at h;cases h
theorem C0N {a k o:List Int}(h:ofE a k≠0):A4v a k o=ofE a k:=by unfold A4v;rw[if_neg h]
theorem C0O {a k o:List Int}(h:A4v a k o≠0):A3n a k o=A4v a k o:=by unfold A3n;rw[if_neg h]
theorem D7z:TabOk Tryz.prog G T6:=A0q A0C ⟨C2l,C6p,C55,C2K,C2J,B9F,C8y,C25,B2M,trivial⟩
theorem sp6 (c l:Int)(ks ys:List Int)(hk:okK ks)(hy:∀y∈ys,0<=y/\y<256):SpecP Tryz.prog G 6 [fV c l ks,.imm (.ints .u8 ys) ys.length none] (.bool true) []:=by
 refine A0e hcm hmx D7z ok6 rfl (D1b c l ks ys) ?_;dsimp -failIfUnchanged -proj -eta -iota -zeta only[rd,rdw,qs,ql,qx];obtain⟨h1,h2,h3,h4⟩:=B2v (c:=c) (l:=l) hk;have hc:=A8s (c:=c) (l:=l) hk;generalize ofA c l ks=a at*;generalize ofK c ks=k at*;have hrl:=A1W a;have hp:=B7M hy a.length;have hpl:=A0K hp;simp only[Int.toNat_natCast,and_true,true_and,A0i,A0t,decide_eq_true_eq,beq_iff_eq,Bool.not_eq_false',Bool.not_eq_true'];refine⟨hk,⟨hy,by omega,by omega⟩,by omega,⟨by omega,by omega⟩,fun h=>?_,fun h=>?_⟩
 ·have e1:∀l,bLs true l=l:=fun l=>rfl;rw[h];simp only[e1,and_true,true_and];refine⟨by omega,B2D h,h3,by omega,⟨by rw[List.length_take];omega,by rw[List.length_take];omega⟩,⟨h3,h1,hp⟩,A9U h hp⟩
 ·have e2:∀l,bLs false l=[]:=fun l=>rfl;have e3:=C0M hc h;have e4:A4v a k (oxL ys a.length)=14:=by rw[C0N (by omega),e3]
  have e5:A3n a k (oxL ys a.length)=14:=by rw[C0O (by omega),e4]
  rw[h];simp only[e2,and_true,true_and];exact⟨by omega,e3,rfl,e5⟩
end Go.Proofs.YthiammkiobbclaaGreatDoor.X
