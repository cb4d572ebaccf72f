/-
 The chapter's examples hold (the functions are run by the kernel).
-/
import Derived.Test.YthiammkiobbclaaGreatDoorLMZ
import Derived.Test.YthiammkiobbclaaGreatDoorC10Z
import Derived.Test.YthiammkiobbclaaGreatDoorD11Z
set_option maxRecDepth 1000000
set_option linter.unusedVariables false
namespace Go.Proofs.YthiammkiobbclaaGreatDoor.X
open Go Go.Ab

theorem mk_f (a k:List Int)(n m:Nat)(c1 c2:Option Nat)(hn:n=a.length)(hm:m=k.length)(hz:a.length<1000000)(hz2:k.length<1000000){v:AV}(hv:(e31c [AV.agg [AV.imm (Cont.ints IntKind.i64 a) n c1,AV.imm (Cont.ints IntKind.u8 k) m c2]]).map (·.v)=some v):SpecP Tryz.prog G 31 [AV.agg [AV.imm (Cont.ints IntKind.i64 a) n c1,AV.imm (Cont.ints IntKind.u8 k) m c2]] v []:=by
 cases hv
 exact ctc31 _ _ rfl ⟨hn,hm,hz,hz2⟩
theorem me_c0:SpecP Tryz.prog G 16 [(AV.agg [AV.imm (Cont.ints IntKind.i64 [4,4]) 2 (some 2),AV.imm (Cont.ints IntKind.u8 [3,3]) 2 (some 2)])] (AV.tup [AV.int IntKind.i64 2,AV.int IntKind.i64 0]) []:=mk_c [4,4] [3,3] _ _ _ _ rfl rfl (by decide) (by decide) (by kernel_rfl)
theorem me_s0:SpecP Tryz.prog G 17 [(AV.agg [AV.imm (Cont.ints IntKind.i64 [4,4]) 2 (some 2),AV.imm (Cont.ints IntKind.u8 [3,3]) 2 (some 2)])] (AV.tup [AV.imm (Cont.ints IntKind.i64 [0,1]) 2 (some 2),AV.int IntKind.i64 0]) []:=mk_s [4,4] [3,3] _ _ _ _ rfl rfl (by decide) (by decide) (by kernel_rfl)
theorem me_f0:SpecP Tryz.prog G 31 [(AV.agg [AV.imm (Cont.ints IntKind.i64 [4,4]) 2 (some 2),AV.imm (Cont.ints IntKind.u8 [3,3]) 2 (some 2)])] (AV.tup [AV.bool true,AV.int IntKind.i64 0]) []:=mk_f [4,4] [3,3] _ _ _ _ rfl rfl (by decide) (by decide) (by kernel_rfl)
theorem me_c1:SpecP Tryz.prog G 16 [(AV.agg [AV.imm (Cont.ints IntKind.i64 [4,4]) 2 (some 2),AV.imm (Cont.ints IntKind.u8 [1,1]) 2 (some 2)])] (AV.tup [AV.int IntKind.i64 1,AV.int IntKind.i64 0]) []:=mk_c [4,4] [1,1] _ _ _ _ rfl rfl (by decide) (by decide) (by kernel_rfl)
theorem me_s1:SpecP Tryz.prog G 17 [(AV.agg [AV.imm (Cont.ints IntKind.i64 [4,4]) 2 (some 2),AV.imm (Cont.ints IntKind.u8 [1,1]) 2 (some 2)])] (AV.tup [AV.imm (Cont.ints IntKind.i64 [1,0]) 2 (some 2),AV.int IntKind.i64 0]) []:=mk_s [4,4] [1,1] _ _ _ _ rfl rfl (by decide) (by decide) (by kernel_rfl)
theorem me_f1:SpecP Tryz.prog G 31 [(AV.agg [AV.imm (Cont.ints IntKind.i64 [4,4]) 2 (some 2),AV.imm (Cont.ints IntKind.u8 [1,1]) 2 (some 2)])] (AV.tup [AV.bool true,AV.int IntKind.i64 0]) []:=mk_f [4,4] [1,1] _ _ _ _ rfl rfl (by decide) (by decide) (by kernel_rfl)
theorem me_c2:SpecP Tryz.prog G 16 [(AV.agg [AV.imm (Cont.ints IntKind.i64 [2,2,2,2]) 4 (some 4),AV.imm (Cont.ints IntKind.u8 [1,2,1,1]) 4 (some 4)])] (AV.tup [AV.int IntKind.i64 1,AV.int IntKind.i64 0]) []:=mk_c [2,2,2,2] [1,2,1,1] _ _ _ _ rfl rfl (by decide) (by decide) (by kernel_rfl)
theorem me_s2:SpecP Tryz.prog G 17 [(AV.agg [AV.imm (Cont.ints IntKind.i64 [2,2,2,2]) 4 (some 4),AV.imm (Cont.ints IntKind.u8 [1,2,1,1]) 4 (some 4)])] (AV.tup [AV.imm (Cont.ints IntKind.i64 [3,0,1,2]) 4 (some 4),AV.int IntKind.i64 0]) []:=mk_s [2,2,2,2] [1,2,1,1] _ _ _ _ rfl rfl (by decide) (by decide) (by kernel_rfl)
theorem me_f2:SpecP Tryz.prog G 31 [(AV.agg [AV.imm (Cont.ints IntKind.i64 [2,2,2,2]) 4 (some 4),AV.imm (Cont.ints IntKind.u8 [1,2,1,1]) 4 (some 4)])] (AV.tup [AV.bool true,AV.int IntKind.i64 0]) []:=mk_f [2,2,2,2] [1,2,1,1] _ _ _ _ rfl rfl (by decide) (by decide) (by kernel_rfl)
theorem me_c3:SpecP Tryz.prog G 16 [(AV.agg [AV.imm (Cont.ints IntKind.i64 [2,1,2,3]) 4 (some 4),AV.imm (Cont.ints IntKind.u8 [1,1,1,2]) 4 (some 4)])] (AV.tup [AV.int IntKind.i64 0,AV.int IntKind.i64 0]) []:=mk_c [2,1,2,3] [1,1,1,2] _ _ _ _ rfl rfl (by decide) (by decide) (by kernel_rfl)
theorem me_s3:SpecP Tryz.prog G 17 [(AV.agg [AV.imm (Cont.ints IntKind.i64 [2,1,2,3]) 4 (some 4),AV.imm (Cont.ints IntKind.u8 [1,1,1,2]) 4 (some 4)])] (AV.tup [AV.imm (Cont.ints IntKind.i64 []) 0 (some 0),AV.int IntKind.i64 7]) []:=mk_s [2,1,2,3] [1,1,1,2] _ _ _ _ rfl rfl (by decide) (by decide) (by kernel_rfl)
theorem me_f3:SpecP Tryz.prog G 31 [(AV.agg [AV.imm (Cont.ints IntKind.i64 [2,1,2,3]) 4 (some 4),AV.imm (Cont.ints IntKind.u8 [1,1,1,2]) 4 (some 4)])] (AV.tup [AV.bool false,AV.int IntKind.i64 0]) []:=mk_f [2,1,2,3] [1,1,1,2] _ _ _ _ rfl rfl (by decide) (by decide) (by kernel_rfl)
theorem me_c4:SpecP Tryz.prog G 16 [(AV.agg [AV.imm (Cont.ints IntKind.i64 [2,2,2,2]) 4 (some 4),AV.imm (Cont.ints IntKind.u8 [3,3,3,3]) 4 (some 4)])] (AV.tup [AV.int IntKind.i64 8,AV.int IntKind.i64 0]) []:=mk_c [2,2,2,2] [3,3,3,3] _ _ _ _ rfl rfl (by decide) (by decide) (by kernel_rfl)
theorem me_s4:SpecP Tryz.prog G 17 [(AV.agg [AV.imm (Cont.ints IntKind.i64 [2,2,2,2]) 4 (some 4),AV.imm (Cont.ints IntKind.u8 [3,3,3,3]) 4 (some 4)])] (AV.tup [AV.imm (Cont.ints IntKind.i64 [0,1,2,3]) 4 (some 4),AV.int IntKind.i64 0]) []:=mk_s [2,2,2,2] [3,3,3,3] _ _ _ _ rfl rfl (by decide) (by decide) (by kernel_rfl)
theorem me_f4:SpecP Tryz.prog G 31 [(AV.agg [AV.imm (Cont.ints IntKind.i64 [2,2,2,2]) 4 (some 4),AV.imm (Cont.ints IntKind.u8 [3,3,3,3]) 4 (some 4)])] (AV.tup [AV.bool true,AV.int IntKind.i64 0]) []:=mk_f [2,2,2,2] [3,3,3,3] _ _ _ _ rfl rfl (by decide) (by decide) (by kernel_rfl)
theorem me_c5:SpecP Tryz.prog G 16 [(AV.agg [AV.imm (Cont.ints IntKind.i64 [3,5]) 2 (some 2),AV.imm (Cont.ints IntKind.u8 [1,1]) 2 (some 2)])] (AV.tup [AV.int IntKind.i64 0,AV.int IntKind.i64 0]) []:=mk_c [3,5] [1,1] _ _ _ _ rfl rfl (by decide) (by decide) (by kernel_rfl)
theorem me_s5:SpecP Tryz.prog G 17 [(AV.agg [AV.imm (Cont.ints IntKind.i64 [3,5]) 2 (some 2),AV.imm (Cont.ints IntKind.u8 [1,1]) 2 (some 2)])] (AV.tup [AV.imm (Cont.ints IntKind.i64 []) 0 (some 0),AV.int IntKind.i64 7]) []:=mk_s [3,5] [1,1] _ _ _ _ rfl rfl (by decide) (by decide) (by kernel_rfl)
theorem me_f5:SpecP Tryz.prog G 31 [(AV.agg [AV.imm (Cont.ints IntKind.i64 [3,5]) 2 (some 2),AV.imm (Cont.ints IntKind.u8 [1,1]) 2 (some 2)])] (AV.tup [AV.bool false,AV.int IntKind.i64 0]) []:=mk_f [3,5] [1,1] _ _ _ _ rfl rfl (by decide) (by decide) (by kernel_rfl)
theorem me_c6:SpecP Tryz.prog G 16 [(AV.agg [AV.nils,AV.nils])] (AV.tup [AV.int IntKind.i64 1,AV.int IntKind.i64 0]) []:=nilfan (mk_c [] [] _ _ _ _ rfl rfl (by decide) (by decide) (by kernel_rfl))
theorem me_s6:SpecP Tryz.prog G 17 [(AV.agg [AV.nils,AV.nils])] (AV.tup [AV.imm (Cont.ints IntKind.i64 []) 0 (some 0),AV.int IntKind.i64 0]) []:=nilfan (mk_s [] [] _ _ _ _ rfl rfl (by decide) (by decide) (by kernel_rfl))
theorem me_f6:SpecP Tryz.prog G 31 [(AV.agg [AV.nils,AV.nils])] (AV.tup [AV.bool true,AV.int IntKind.i64 0]) []:=nilfan (mk_f [] [] _ _ _ _ rfl rfl (by decide) (by decide) (by kernel_rfl))
theorem me_r7:SpecP Tryz.prog G 26 [(AV.agg [AV.imm (Cont.ints IntKind.i64 [2,1,2,3]) 4 (some 4),AV.imm (Cont.ints IntKind.u8 [1,2,1,1]) 4 (some 4)])] (AV.tup [AV.imm (Cont.ints IntKind.i64 [0,2,1,3]) 4 (some 4),AV.int IntKind.i64 0]) []:=mk_r [2,1,2,3] [1,2,1,1] _ _ _ _ rfl rfl (by decide) (by decide) (by kernel_rfl)
def mems:List Mem:=[⟨32,[AV.str [97,52,32,97,52]],AV.agg [AV.fullc 1 2 2,AV.fullc 0 2 2],[⟨Cont.ints IntKind.u8 [3,3],1,2,none,some true,true,false⟩,⟨Cont.ints IntKind.i64 [4,4],1,2,none,some true,true,false⟩]⟩,
 ⟨16,[(AV.agg [AV.imm (Cont.ints IntKind.i64 [4,4]) 2 (some 2),AV.imm (Cont.ints IntKind.u8 [3,3]) 2 (some 2)])],(AV.tup [AV.int IntKind.i64 2,AV.int IntKind.i64 0]),[]⟩,
 ⟨17,[(AV.agg [AV.imm (Cont.ints IntKind.i64 [4,4]) 2 (some 2),AV.imm (Cont.ints IntKind.u8 [3,3]) 2 (some 2)])],(AV.tup [AV.imm (Cont.ints IntKind.i64 [0,1]) 2 (some 2),AV.int IntKind.i64 0]),[]⟩,
 ⟨31,[(AV.agg [AV.imm (Cont.ints IntKind.i64 [4,4]) 2 (some 2),AV.imm (Cont.ints IntKind.u8 [3,3]) 2 (some 2)])],(AV.tup [AV.bool true,AV.int IntKind.i64 0]),[]⟩,
 ⟨32,[AV.str [109,52,32,109,52]],AV.agg [AV.fullc 1 2 2,AV.fullc 0 2 2],[⟨Cont.ints IntKind.u8 [1,1],1,2,none,some true,true,false⟩,⟨Cont.ints IntKind.i64 [4,4],1,2,none,some true,true,false⟩]⟩,
 ⟨16,[(AV.agg [AV.imm (Cont.ints IntKind.i64 [4,4]) 2 (some 2),AV.imm (Cont.ints IntKind.u8 [1,1]) 2 (some 2)])],(AV.tup [AV.int IntKind.i64 1,AV.int IntKind.i64 0]),[]⟩,
 ⟨17,[(AV.agg [AV.imm (Cont.ints IntKind.i64 [4,4]) 2 (some 2),AV.imm (Cont.ints IntKind.u8 [1,1]) 2 (some 2)])],(AV.tup [AV.imm (Cont.ints IntKind.i64 [1,0]) 2 (some 2),AV.int IntKind.i64 0]),[]⟩,
 ⟨31,[(AV.agg [AV.imm (Cont.ints IntKind.i64 [4,4]) 2 (some 2),AV.imm (Cont.ints IntKind.u8 [1,1]) 2 (some 2)])],(AV.tup [AV.bool true,AV.int IntKind.i64 0]),[]⟩,
 ⟨32,[AV.str [109,50,32,118,50,32,109,50,32,109,50]],AV.agg [AV.fullc 1 4 4,AV.fullc 0 4 4],[⟨Cont.ints IntKind.u8 [1,2,1,1],1,4,none,some true,true,false⟩,⟨Cont.ints IntKind.i64 [2,2,2,2],1,4,none,some true,true,false⟩]⟩,
 ⟨16,[(AV.agg [AV.imm (Cont.ints IntKind.i64 [2,2,2,2]) 4 (some 4),AV.imm (Cont.ints IntKind.u8 [1,2,1,1]) 4 (some 4)])],(AV.tup [AV.int IntKind.i64 1,AV.int IntKind.i64 0]),[]⟩,
 ⟨17,[(AV.agg [AV.imm (Cont.ints IntKind.i64 [2,2,2,2]) 4 (some 4),AV.imm (Cont.ints IntKind.u8 [1,2,1,1]) 4 (some 4)])],(AV.tup [AV.imm (Cont.ints IntKind.i64 [3,0,1,2]) 4 (some 4),AV.int IntKind.i64 0]),[]⟩,
 ⟨31,[(AV.agg [AV.imm (Cont.ints IntKind.i64 [2,2,2,2]) 4 (some 4),AV.imm (Cont.ints IntKind.u8 [1,2,1,1]) 4 (some 4)])],(AV.tup [AV.bool true,AV.int IntKind.i64 0]),[]⟩,
 ⟨32,[AV.str [109,50,32,109,49,32,109,50,32,118,51]],AV.agg [AV.fullc 1 4 4,AV.fullc 0 4 4],[⟨Cont.ints IntKind.u8 [1,1,1,2],1,4,none,some true,true,false⟩,⟨Cont.ints IntKind.i64 [2,1,2,3],1,4,none,some true,true,false⟩]⟩,
 ⟨16,[(AV.agg [AV.imm (Cont.ints IntKind.i64 [2,1,2,3]) 4 (some 4),AV.imm (Cont.ints IntKind.u8 [1,1,1,2]) 4 (some 4)])],(AV.tup [AV.int IntKind.i64 0,AV.int IntKind.i64 0]),[]⟩,
 ⟨17,[(AV.agg [AV.imm (Cont.ints IntKind.i64 [2,1,2,3]) 4 (some 4),AV.imm (Cont.ints IntKind.u8 [1,1,1,2]) 4 (some 4)])],(AV.tup [AV.imm (Cont.ints IntKind.i64 []) 0 (some 0),AV.int IntKind.i64 7]),[]⟩,
 ⟨31,[(AV.agg [AV.imm (Cont.ints IntKind.i64 [2,1,2,3]) 4 (some 4),AV.imm (Cont.ints IntKind.u8 [1,1,1,2]) 4 (some 4)])],(AV.tup [AV.bool false,AV.int IntKind.i64 0]),[]⟩,
 ⟨32,[AV.str [97,50,32,97,50,32,97,50,32,97,50]],AV.agg [AV.fullc 1 4 4,AV.fullc 0 4 4],[⟨Cont.ints IntKind.u8 [3,3,3,3],1,4,none,some true,true,false⟩,⟨Cont.ints IntKind.i64 [2,2,2,2],1,4,none,some true,true,false⟩]⟩,
 ⟨16,[(AV.agg [AV.imm (Cont.ints IntKind.i64 [2,2,2,2]) 4 (some 4),AV.imm (Cont.ints IntKind.u8 [3,3,3,3]) 4 (some 4)])],(AV.tup [AV.int IntKind.i64 8,AV.int IntKind.i64 0]),[]⟩,
 ⟨17,[(AV.agg [AV.imm (Cont.ints IntKind.i64 [2,2,2,2]) 4 (some 4),AV.imm (Cont.ints IntKind.u8 [3,3,3,3]) 4 (some 4)])],(AV.tup [AV.imm (Cont.ints IntKind.i64 [0,1,2,3]) 4 (some 4),AV.int IntKind.i64 0]),[]⟩,
 ⟨31,[(AV.agg [AV.imm (Cont.ints IntKind.i64 [2,2,2,2]) 4 (some 4),AV.imm (Cont.ints IntKind.u8 [3,3,3,3]) 4 (some 4)])],(AV.tup [AV.bool true,AV.int IntKind.i64 0]),[]⟩,
 ⟨32,[AV.str [109,51,32,109,53]],AV.agg [AV.fullc 1 2 2,AV.fullc 0 2 2],[⟨Cont.ints IntKind.u8 [1,1],1,2,none,some true,true,false⟩,⟨Cont.ints IntKind.i64 [3,5],1,2,none,some true,true,false⟩]⟩,
 ⟨16,[(AV.agg [AV.imm (Cont.ints IntKind.i64 [3,5]) 2 (some 2),AV.imm (Cont.ints IntKind.u8 [1,1]) 2 (some 2)])],(AV.tup [AV.int IntKind.i64 0,AV.int IntKind.i64 0]),[]⟩,
 ⟨17,[(AV.agg [AV.imm (Cont.ints IntKind.i64 [3,5]) 2 (some 2),AV.imm (Cont.ints IntKind.u8 [1,1]) 2 (some 2)])],(AV.tup [AV.imm (Cont.ints IntKind.i64 []) 0 (some 0),AV.int IntKind.i64 7]),[]⟩,
 ⟨31,[(AV.agg [AV.imm (Cont.ints IntKind.i64 [3,5]) 2 (some 2),AV.imm (Cont.ints IntKind.u8 [1,1]) 2 (some 2)])],(AV.tup [AV.bool false,AV.int IntKind.i64 0]),[]⟩,
 ⟨32,[AV.str [45]],AV.agg [AV.nils,AV.nils],[]⟩,
 ⟨16,[(AV.agg [AV.nils,AV.nils])],(AV.tup [AV.int IntKind.i64 1,AV.int IntKind.i64 0]),[]⟩,
 ⟨17,[(AV.agg [AV.nils,AV.nils])],(AV.tup [AV.imm (Cont.ints IntKind.i64 []) 0 (some 0),AV.int IntKind.i64 0]),[]⟩,
 ⟨31,[(AV.agg [AV.nils,AV.nils])],(AV.tup [AV.bool true,AV.int IntKind.i64 0]),[]⟩,
 ⟨32,[AV.str [109,50,32,118,49,32,109,50,32,109,51]],AV.agg [AV.fullc 1 4 4,AV.fullc 0 4 4],[⟨Cont.ints IntKind.u8 [1,2,1,1],1,4,none,some true,true,false⟩,⟨Cont.ints IntKind.i64 [2,1,2,3],1,4,none,some true,true,false⟩]⟩,
 ⟨26,[(AV.agg [AV.imm (Cont.ints IntKind.i64 [2,1,2,3]) 4 (some 4),AV.imm (Cont.ints IntKind.u8 [1,2,1,1]) 4 (some 4)])],(AV.tup [AV.imm (Cont.ints IntKind.i64 [0,2,1,3]) 4 (some 4),AV.int IntKind.i64 0]),[]⟩]
theorem memsOk:MemOk Tryz.prog G mems:=⟨me_p0,me_c0,me_s0,me_f0,me_p1,me_c1,me_s1,me_f1,me_p2,me_c2,me_s2,me_f2,me_p3,me_c3,me_s3,me_f3,me_p4,me_c4,me_s4,me_f4,me_p5,me_c5,me_s5,me_f5,me_p6,me_c6,me_s6,me_f6,me_p7,me_r7,trivial⟩
theorem meOk:TBok Tryz.prog G (memoT (memF mems)):=memoT_ok (memF_ok memsOk)
theorem ev11:evM G (aget xpl) nats (memoT (memF mems)) 100000 1000 1 [] (.fn 11 [] []) []=some ⟨.bool true,[],[],[]⟩:=by kernel_rfl
theorem sp11:SpecP Tryz.prog G 11 [] (.bool true) []:=specP_of_evM hcm hmx xpOk natsOk meOk ev11 rfl
theorem ct11l:CtOk Tryz.prog G 11 e11:=by
 intro args r h hp
 unfold e11 at h
 split at h<;>cases h
 exact sp11
end Go.Proofs.YthiammkiobbclaaGreatDoor.X
