/-
 Closed calls, run (made by a program).
-/
import Derived.Test.YthiammkiobbclaaGreatDoorLNZ
import Derived.KernelRfl
set_option maxRecDepth 1000000
set_option linter.unusedVariables false
namespace Go.Proofs.YthiammkiobbclaaGreatDoor.X
open Go Go.Ab

theorem noMe:TBok Tryz.prog G (fun _ _ _ _=>none):=fun _ _ _ _ _ h=>by cases h
theorem ev_p0:evM G (aget xpl) nats (fun _ _ _ _=>none) 100000 1000 1 [] (.fn 32 [] []) ([AV.str [97,52,32,97,52]])=some ⟨AV.agg [AV.fullc 6 2 2,AV.fullc 8 2 2],[(8,HO.blk {c:=Cont.ints IntKind.u8 [3,3],sz:=1,n:=2,cap:=none,nil:=some true,mu:=true,bx:=false}),(6,HO.blk {c:=Cont.ints IntKind.i64 [4,4],sz:=1,n:=2,cap:=none,nil:=some true,mu:=true,bx:=false})],[8,6],[]⟩:=by kernel_rfl
theorem me_p0:SpecP Tryz.prog G 32 ([AV.str [97,52,32,97,52]]) (AV.agg [AV.fullc 1 2 2,AV.fullc 0 2 2]) ([⟨Cont.ints IntKind.u8 [3,3],1,2,none,some true,true,false⟩,⟨Cont.ints IntKind.i64 [4,4],1,2,none,some true,true,false⟩]):=
 specP_of_evS hcm hmx xpOk natsOk noMe ev_p0 [(0,8),(1,6)] (by repeat (first|exact True.intro|refine And.intro rfl ?_))
theorem ev_p1:evM G (aget xpl) nats (fun _ _ _ _=>none) 100000 1000 1 [] (.fn 32 [] []) ([AV.str [109,52,32,109,52]])=some ⟨AV.agg [AV.fullc 6 2 2,AV.fullc 8 2 2],[(8,HO.blk {c:=Cont.ints IntKind.u8 [1,1],sz:=1,n:=2,cap:=none,nil:=some true,mu:=true,bx:=false}),(6,HO.blk {c:=Cont.ints IntKind.i64 [4,4],sz:=1,n:=2,cap:=none,nil:=some true,mu:=true,bx:=false})],[8,6],[]⟩:=by kernel_rfl
theorem me_p1:SpecP Tryz.prog G 32 ([AV.str [109,52,32,109,52]]) (AV.agg [AV.fullc 1 2 2,AV.fullc 0 2 2]) ([⟨Cont.ints IntKind.u8 [1,1],1,2,none,some true,true,false⟩,⟨Cont.ints IntKind.i64 [4,4],1,2,none,some true,true,false⟩]):=
 specP_of_evS hcm hmx xpOk natsOk noMe ev_p1 [(0,8),(1,6)] (by repeat (first|exact True.intro|refine And.intro rfl ?_))
theorem ev_p2:evM G (aget xpl) nats (fun _ _ _ _=>none) 100000 1000 1 [] (.fn 32 [] []) ([AV.str [109,50,32,118,50,32,109,50,32,109,50]])=some ⟨AV.agg [AV.fullc 6 4 4,AV.fullc 8 4 4],[(8,HO.blk {c:=Cont.ints IntKind.u8 [1,2,1,1],sz:=1,n:=4,cap:=none,nil:=some true,mu:=true,bx:=false}),(6,HO.blk {c:=Cont.ints IntKind.i64 [2,2,2,2],sz:=1,n:=4,cap:=none,nil:=some true,mu:=true,bx:=false})],[8,6],[]⟩:=by kernel_rfl
theorem me_p2:SpecP Tryz.prog G 32 ([AV.str [109,50,32,118,50,32,109,50,32,109,50]]) (AV.agg [AV.fullc 1 4 4,AV.fullc 0 4 4]) ([⟨Cont.ints IntKind.u8 [1,2,1,1],1,4,none,some true,true,false⟩,⟨Cont.ints IntKind.i64 [2,2,2,2],1,4,none,some true,true,false⟩]):=
 specP_of_evS hcm hmx xpOk natsOk noMe ev_p2 [(0,8),(1,6)] (by repeat (first|exact True.intro|refine And.intro rfl ?_))
theorem ev_p3:evM G (aget xpl) nats (fun _ _ _ _=>none) 100000 1000 1 [] (.fn 32 [] []) ([AV.str [109,50,32,109,49,32,109,50,32,118,51]])=some ⟨AV.agg [AV.fullc 6 4 4,AV.fullc 8 4 4],[(8,HO.blk {c:=Cont.ints IntKind.u8 [1,1,1,2],sz:=1,n:=4,cap:=none,nil:=some true,mu:=true,bx:=false}),(6,HO.blk {c:=Cont.ints IntKind.i64 [2,1,2,3],sz:=1,n:=4,cap:=none,nil:=some true,mu:=true,bx:=false})],[8,6],[]⟩:=by kernel_rfl
theorem me_p3:SpecP Tryz.prog G 32 ([AV.str [109,50,32,109,49,32,109,50,32,118,51]]) (AV.agg [AV.fullc 1 4 4,AV.fullc 0 4 4]) ([⟨Cont.ints IntKind.u8 [1,1,1,2],1,4,none,some true,true,false⟩,⟨Cont.ints IntKind.i64 [2,1,2,3],1,4,none,some true,true,false⟩]):=
 specP_of_evS hcm hmx xpOk natsOk noMe ev_p3 [(0,8),(1,6)] (by repeat (first|exact True.intro|refine And.intro rfl ?_))
theorem ev_p4:evM G (aget xpl) nats (fun _ _ _ _=>none) 100000 1000 1 [] (.fn 32 [] []) ([AV.str [97,50,32,97,50,32,97,50,32,97,50]])=some ⟨AV.agg [AV.fullc 6 4 4,AV.fullc 8 4 4],[(8,HO.blk {c:=Cont.ints IntKind.u8 [3,3,3,3],sz:=1,n:=4,cap:=none,nil:=some true,mu:=true,bx:=false}),(6,HO.blk {c:=Cont.ints IntKind.i64 [2,2,2,2],sz:=1,n:=4,cap:=none,nil:=some true,mu:=true,bx:=false})],[8,6],[]⟩:=by kernel_rfl
theorem me_p4:SpecP Tryz.prog G 32 ([AV.str [97,50,32,97,50,32,97,50,32,97,50]]) (AV.agg [AV.fullc 1 4 4,AV.fullc 0 4 4]) ([⟨Cont.ints IntKind.u8 [3,3,3,3],1,4,none,some true,true,false⟩,⟨Cont.ints IntKind.i64 [2,2,2,2],1,4,none,some true,true,false⟩]):=
 specP_of_evS hcm hmx xpOk natsOk noMe ev_p4 [(0,8),(1,6)] (by repeat (first|exact True.intro|refine And.intro rfl ?_))
theorem ev_p5:evM G (aget xpl) nats (fun _ _ _ _=>none) 100000 1000 1 [] (.fn 32 [] []) ([AV.str [109,51,32,109,53]])=some ⟨AV.agg [AV.fullc 6 2 2,AV.fullc 8 2 2],[(8,HO.blk {c:=Cont.ints IntKind.u8 [1,1],sz:=1,n:=2,cap:=none,nil:=some true,mu:=true,bx:=false}),(6,HO.blk {c:=Cont.ints IntKind.i64 [3,5],sz:=1,n:=2,cap:=none,nil:=some true,mu:=true,bx:=false})],[8,6],[]⟩:=by kernel_rfl
theorem me_p5:SpecP Tryz.prog G 32 ([AV.str [109,51,32,109,53]]) (AV.agg [AV.fullc 1 2 2,AV.fullc 0 2 2]) ([⟨Cont.ints IntKind.u8 [1,1],1,2,none,some true,true,false⟩,⟨Cont.ints IntKind.i64 [3,5],1,2,none,some true,true,false⟩]):=
 specP_of_evS hcm hmx xpOk natsOk noMe ev_p5 [(0,8),(1,6)] (by repeat (first|exact True.intro|refine And.intro rfl ?_))
theorem ev_p6:evM G (aget xpl) nats (fun _ _ _ _=>none) 100000 1000 1 [] (.fn 32 [] []) ([AV.str [45]])=some ⟨AV.agg [AV.nils,AV.nils],[],[],[]⟩:=by kernel_rfl
theorem me_p6:SpecP Tryz.prog G 32 ([AV.str [45]]) (AV.agg [AV.nils,AV.nils]) []:=specP_of_evM hcm hmx xpOk natsOk noMe ev_p6 rfl
theorem ev_p7:evM G (aget xpl) nats (fun _ _ _ _=>none) 100000 1000 1 [] (.fn 32 [] []) ([AV.str [109,50,32,118,49,32,109,50,32,109,51]])=some ⟨AV.agg [AV.fullc 6 4 4,AV.fullc 8 4 4],[(8,HO.blk {c:=Cont.ints IntKind.u8 [1,2,1,1],sz:=1,n:=4,cap:=none,nil:=some true,mu:=true,bx:=false}),(6,HO.blk {c:=Cont.ints IntKind.i64 [2,1,2,3],sz:=1,n:=4,cap:=none,nil:=some true,mu:=true,bx:=false})],[8,6],[]⟩:=by kernel_rfl
theorem me_p7:SpecP Tryz.prog G 32 ([AV.str [109,50,32,118,49,32,109,50,32,109,51]]) (AV.agg [AV.fullc 1 4 4,AV.fullc 0 4 4]) ([⟨Cont.ints IntKind.u8 [1,2,1,1],1,4,none,some true,true,false⟩,⟨Cont.ints IntKind.i64 [2,1,2,3],1,4,none,some true,true,false⟩]):=
 specP_of_evS hcm hmx xpOk natsOk noMe ev_p7 [(0,8),(1,6)] (by repeat (first|exact True.intro|refine And.intro rfl ?_))
end Go.Proofs.YthiammkiobbclaaGreatDoor.X
