/-
 The chapter's examples hold (the functions are run by the kernel).
-/
import Derived.Test.YthiammkiobbclaaGreatDoorC9Z
set_option maxRecDepth 1000000
set_option linter.unusedVariables false
namespace Go.Proofs.YthiammkiobbclaaGreatDoor.X
open Go Go.Ab
theorem C6f:A5N Tryz.prog (B3K 110):=
 B6R Tryz.func110 (by kernel_rfl) (by kernel_rfl) (by kernel_rfl) (by kernel_rfl)
theorem C6g:A5N Tryz.prog (B3L 118):=
 B6S Tryz.func118 (by kernel_rfl) (by kernel_rfl) (by kernel_rfl) (by kernel_rfl)
def B5i:Nat->List AV->Option AV:=C1q (B3K 110) (B3L 118)
theorem A3G:A5N Tryz.prog B5i:=B85 C6f C6g
theorem B7C {f:Nat}{rest:List AV}{v:AV}{bs:List Blk}(h:SpecP Tryz.prog G f (.agg [.imm (.ints .i64 []) 0 none,.imm (.ints .u8 []) 0 none]::rest) v bs):SpecP Tryz.prog G f (.agg [.nils,.nils]::rest) v bs:=h.args fun w F xs h=>by
 cases h with
 |cons _ _ _ _ h1 h2=>
  refine .cons _ _ _ _ ?_ h2;cases h1 with
  |agg _ x h3=>
   refine .agg _ x ?_;cases h4:x.toList with
   |nil=>rw[h4]at h3;cases h3
   |cons y ys=>
    rw[h4]at h3;cases h3 with
    |cons _ _ _ _ g1 g2=>
     cases g2 with
     |cons _ _ _ _ g3 g4=>exact .cons _ _ _ _ (by cases g1;exact .imm0 _ _ _ rfl (fun n e=>by cases e)) (.cons _ _ _ _ (by cases g3;exact .imm0 _ _ _ rfl (fun n e=>by cases e)) g4)
theorem B9E (a k:List Int)(n m:Nat)(c1 c2:Option Nat)(hn:n=a.length)(hm:m=k.length)(hz:a.length<1000000)(hz2:k.length<1000000){v:AV}(hv:(C1X [AV.agg [AV.imm (Cont.ints IntKind.i64 a) n c1,AV.imm (Cont.ints IntKind.u8 k) m c2]]).map (·.v)=some v):SpecP Tryz.prog G 16 [AV.agg [AV.imm (Cont.ints IntKind.i64 a) n c1,AV.imm (Cont.ints IntKind.u8 k) m c2]] v []:=by
 cases hv;exact B7B _ _ rfl ⟨hn,hm,hz⟩
theorem C2X (a k:List Int)(n m:Nat)(c1 c2:Option Nat)(hn:n=a.length)(hm:m=k.length)(hz:a.length<1000000)(hz2:k.length<1000000){v:AV}(hv:(C8v [AV.agg [AV.imm (Cont.ints IntKind.i64 a) n c1,AV.imm (Cont.ints IntKind.u8 k) m c2]]).map (·.v)=some v):SpecP Tryz.prog G 17 [AV.agg [AV.imm (Cont.ints IntKind.i64 a) n c1,AV.imm (Cont.ints IntKind.u8 k) m c2]] v []:=by
 cases hv;exact C6e _ _ rfl ⟨hn,hm,hz⟩
theorem D60 (a k:List Int)(n m:Nat)(c1 c2:Option Nat)(hn:n=a.length)(hm:m=k.length)(hz:a.length<1000000)(hz2:k.length<1000000){v:AV}(hv:(C8r [AV.agg [AV.imm (Cont.ints IntKind.i64 a) n c1,AV.imm (Cont.ints IntKind.u8 k) m c2]]).map (·.v)=some v):SpecP Tryz.prog G 26 [AV.agg [AV.imm (Cont.ints IntKind.i64 a) n c1,AV.imm (Cont.ints IntKind.u8 k) m c2]] v []:=by
 cases hv;exact C55 _ _ rfl ⟨hn,hm,hz⟩
theorem B7D:B3C Tryz.prog G (fun _ _ _ _=>none):=fun _ _ _ _ _ h=>by cases h
theorem D0Q:evM G (aget xpl) B5i (fun _ _ _ _=>none) 100000 1000 1 [] (.fn 32 [] []) ([AV.str [97,52,32,97,52]])=some ⟨AV.agg [AV.fullc 6 2 2,AV.fullc 8 2 2],[(8,HO.blk {c:=Cont.ints IntKind.u8 [3,3],sz:=1,n:=2,cap:=none,nil:=some true,mu:=true,bx:=false}),(6,HO.blk {c:=Cont.ints IntKind.i64 [4,4],sz:=1,n:=2,cap:=none,nil:=some true,mu:=true,bx:=false})],[8,6],[]⟩:=by kernel_rfl
theorem D0R:SpecP Tryz.prog G 32 ([AV.str [97,52,32,97,52]]) (AV.agg [AV.fullc 1 2 2,AV.fullc 0 2 2]) ([⟨Cont.ints IntKind.u8 [3,3],1,2,none,some true,true,false⟩,⟨Cont.ints IntKind.i64 [4,4],1,2,none,some true,true,false⟩]):=
 A03 hcm hmx B5t A3G B7D D0Q [(0,8),(1,6)] (by repeat (first|exact True.intro|refine And.intro rfl ?_))
theorem D0S:evM G (aget xpl) B5i (fun _ _ _ _=>none) 100000 1000 1 [] (.fn 32 [] []) ([AV.str [109,52,32,109,52]])=some ⟨AV.agg [AV.fullc 6 2 2,AV.fullc 8 2 2],[(8,HO.blk {c:=Cont.ints IntKind.u8 [1,1],sz:=1,n:=2,cap:=none,nil:=some true,mu:=true,bx:=false}),(6,HO.blk {c:=Cont.ints IntKind.i64 [4,4],sz:=1,n:=2,cap:=none,nil:=some true,mu:=true,bx:=false})],[8,6],[]⟩:=by kernel_rfl
theorem D0T:SpecP Tryz.prog G 32 ([AV.str [109,52,32,109,52]]) (AV.agg [AV.fullc 1 2 2,AV.fullc 0 2 2]) ([⟨Cont.ints IntKind.u8 [1,1],1,2,none,some true,true,false⟩,⟨Cont.ints IntKind.i64 [4,4],1,2,none,some true,true,false⟩]):=
 A03 hcm hmx B5t A3G B7D D0S [(0,8),(1,6)] (by repeat (first|exact True.intro|refine And.intro rfl ?_))
theorem D0U:evM G (aget xpl) B5i (fun _ _ _ _=>none) 100000 1000 1 [] (.fn 32 [] []) ([AV.str [109,50,32,118,50,32,109,50,32,109,50]])=some ⟨AV.agg [AV.fullc 6 4 4,AV.fullc 8 4 4],[(8,HO.blk {c:=Cont.ints IntKind.u8 [1,2,1,1],sz:=1,n:=4,cap:=none,nil:=some true,mu:=true,bx:=false}),(6,HO.blk {c:=Cont.ints IntKind.i64 [2,2,2,2],sz:=1,n:=4,cap:=none,nil:=some true,mu:=true,bx:=false})],[8,6],[]⟩:=by kernel_rfl
theorem D0V:SpecP Tryz.prog G 32 ([AV.str [109,50,32,118,50,32,109,50,32,109,50]]) (AV.agg [AV.fullc 1 4 4,AV.fullc 0 4 4]) ([⟨Cont.ints IntKind.u8 [1,2,1,1],1,4,none,some true,true,false⟩,⟨Cont.ints IntKind.i64 [2,2,2,2],1,4,none,some true,true,false⟩]):=
 A03 hcm hmx B5t A3G B7D D0U [(0,8),(1,6)] (by repeat (first|exact True.intro|refine And.intro rfl ?_))
theorem D0W:evM G (aget xpl) B5i (fun _ _ _ _=>none) 100000 1000 1 [] (.fn 32 [] []) ([AV.str [109,50,32,109,49,32,109,50,32,118,51]])=some ⟨AV.agg [AV.fullc 6 4 4,AV.fullc 8 4 4],[(8,HO.blk {c:=Cont.ints IntKind.u8 [1,1,1,2],sz:=1,n:=4,cap:=none,nil:=some true,mu:=true,bx:=false}),(6,HO.blk {c:=Cont.ints IntKind.i64 [2,1,2,3],sz:=1,n:=4,cap:=none,nil:=some true,mu:=true,bx:=false})],[8,6],[]⟩:=by kernel_rfl
theorem D0X:SpecP Tryz.prog G 32 ([AV.str [109,50,32,109,49,32,109,50,32,118,51]]) (AV.agg [AV.fullc 1 4 4,AV.fullc 0 4 4]) ([⟨Cont.ints IntKind.u8 [1,1,1,2],1,4,none,some true,true,false⟩,⟨Cont.ints IntKind.i64 [2,1,2,3],1,4,none,some true,true,false⟩]):=
 A03 hcm hmx B5t A3G B7D D0W [(0,8),(1,6)] (by repeat (first|exact True.intro|refine And.intro rfl ?_))
theorem D0Y:evM G (aget xpl) B5i (fun _ _ _ _=>none) 100000 1000 1 [] (.fn 32 [] []) ([AV.str [97,50,32,97,50,32,97,50,32,97,50]])=some ⟨AV.agg [AV.fullc 6 4 4,AV.fullc 8 4 4],[(8,HO.blk {c:=Cont.ints IntKind.u8 [3,3,3,3],sz:=1,n:=4,cap:=none,nil:=some true,mu:=true,bx:=false}),(6,HO.blk {c:=Cont.ints IntKind.i64 [2,2,2,2],sz:=1,n:=4,cap:=none,nil:=some true,mu:=true,bx:=false})],[8,6],[]⟩:=by kernel_rfl
theorem D0Z:SpecP Tryz.prog G 32 ([AV.str [97,50,32,97,50,32,97,50,32,97,50]]) (AV.agg [AV.fullc 1 4 4,AV.fullc 0 4 4]) ([⟨Cont.ints IntKind.u8 [3,3,3,3],1,4,none,some true,true,false⟩,⟨Cont.ints IntKind.i64 [2,2,2,2],1,4,none,some true,true,false⟩]):=
 A03 hcm hmx B5t A3G B7D D0Y [(0,8),(1,6)] (by repeat (first|exact True.intro|refine And.intro rfl ?_))
theorem D00:evM G (aget xpl) B5i (fun _ _ _ _=>none) 100000 1000 1 [] (.fn 32 [] []) ([AV.str [109,51,32,109,53]])=some ⟨AV.agg [AV.fullc 6 2 2,AV.fullc 8 2 2],[(8,HO.blk {c:=Cont.ints IntKind.u8 [1,1],sz:=1,n:=2,cap:=none,nil:=some true,mu:=true,bx:=false}),(6,HO.blk {c:=Cont.ints IntKind.i64 [3,5],sz:=1,n:=2,cap:=none,nil:=some true,mu:=true,bx:=false})],[8,6],[]⟩:=by kernel_rfl
theorem D01:SpecP Tryz.prog G 32 ([AV.str [109,51,32,109,53]]) (AV.agg [AV.fullc 1 2 2,AV.fullc 0 2 2]) ([⟨Cont.ints IntKind.u8 [1,1],1,2,none,some true,true,false⟩,⟨Cont.ints IntKind.i64 [3,5],1,2,none,some true,true,false⟩]):=
 A03 hcm hmx B5t A3G B7D D00 [(0,8),(1,6)] (by repeat (first|exact True.intro|refine And.intro rfl ?_))
theorem D02:evM G (aget xpl) B5i (fun _ _ _ _=>none) 100000 1000 1 [] (.fn 32 [] []) ([AV.str [45]])=some ⟨AV.agg [AV.nils,AV.nils],[],[],[]⟩:=by kernel_rfl
theorem D03:SpecP Tryz.prog G 32 ([AV.str [45]]) (AV.agg [AV.nils,AV.nils]) []:=A5D hcm hmx B5t A3G B7D D02 rfl
theorem D04:evM G (aget xpl) B5i (fun _ _ _ _=>none) 100000 1000 1 [] (.fn 32 [] []) ([AV.str [109,50,32,118,49,32,109,50,32,109,51]])=some ⟨AV.agg [AV.fullc 6 4 4,AV.fullc 8 4 4],[(8,HO.blk {c:=Cont.ints IntKind.u8 [1,2,1,1],sz:=1,n:=4,cap:=none,nil:=some true,mu:=true,bx:=false}),(6,HO.blk {c:=Cont.ints IntKind.i64 [2,1,2,3],sz:=1,n:=4,cap:=none,nil:=some true,mu:=true,bx:=false})],[8,6],[]⟩:=by kernel_rfl
theorem D05:SpecP Tryz.prog G 32 ([AV.str [109,50,32,118,49,32,109,50,32,109,51]]) (AV.agg [AV.fullc 1 4 4,AV.fullc 0 4 4]) ([⟨Cont.ints IntKind.u8 [1,2,1,1],1,4,none,some true,true,false⟩,⟨Cont.ints IntKind.i64 [2,1,2,3],1,4,none,some true,true,false⟩]):=
 A03 hcm hmx B5t A3G B7D D04 [(0,8),(1,6)] (by repeat (first|exact True.intro|refine And.intro rfl ?_))
end Go.Proofs.YthiammkiobbclaaGreatDoor.X
