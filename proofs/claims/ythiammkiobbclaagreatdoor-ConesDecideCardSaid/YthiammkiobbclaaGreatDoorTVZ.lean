/-
 The chapter's examples hold (the functions are run by the kernel; folding too).
-/
import Derived.Test.YthiammkiobbclaaGreatDoorLMZ
import Derived.Test.YthiammkiobbclaaGreatDoorD11Z
set_option maxRecDepth 1000000
set_option linter.unusedVariables false
namespace Go.Proofs.YthiammkiobbclaaGreatDoor.X
open Go Go.Ab

def fI (a k:List Int):AV:=.agg [immL .i64 a,immL .u8 k]
def fN:AV:=.agg [.nils,.nils]
def rI (n e:Int):AV:=.tup [.int .i64 n,.int .i64 e]
def rL (l:List Int)(e:Int):AV:=.tup [immL .i64 l,.int .i64 e]
def rB (b:Bool):AV:=.tup [.bool b,.int .i64 0]
theorem tq {f:Nat}{x:AV}{b:Bool}(h:evM G (aget xpl) nats (memoT (memF [])) 100000 1000 1 [] (.fn f [] []) [x]=some ⟨rB b,[],[],[]⟩):SpecP Tryz.prog G f [x] (rB b) []:=specP_of_evM hcm hmx xpOk natsOk meN h rfl
theorem tp {l:List Mem}(hl:MemOk Tryz.prog G l){f:Nat}{x:AV}{b:Bool}(h:evM G (aget xpl) nats (memoT (memF l)) 100000 1000 1 [] (.fn f [] []) [x]=some ⟨rB b,[],[],[]⟩):SpecP Tryz.prog G f [x] (rB b) []:=specP_of_evM hcm hmx xpOk natsOk (memoT_ok (memF_ok hl)) h rfl
theorem tc (a k:List Int)(hz:a.length<1000000∧k.length<1000000){v:AV}(hv:(AV.tup [.int .i64 ((cwL a k).length:Nat),.int .i64 (cntE a k)])=v):SpecP Tryz.prog G 16 [fI a k] v []:=by
 exact mk_c a k _ _ _ _ rfl rfl hz.1 hz.2 (by rw[← hv];rfl)
theorem ts (a k:List Int)(hz:a.length<1000000∧k.length<1000000){v:AV}(hv:(AV.tup [immL .i64 (fstL a k),.int .i64 (fstE a k)])=v):SpecP Tryz.prog G 17 [fI a k] v []:=by
 exact mk_s a k _ _ _ _ rfl rfl hz.1 hz.2 (by rw[← hv];rfl)
theorem tr (a k:List Int)(hz:a.length<1000000∧k.length<1000000){v:AV}(hv:(AV.tup [immL .i64 (bLs (altS a k) ((raysL a).take a.length)),.int .i64 (ofE a k)])=v):SpecP Tryz.prog G 26 [fI a k] v []:=by
 exact mk_r a k _ _ _ _ rfl rfl hz.1 hz.2 (by rw[← hv];rfl)
theorem nilfanL {f:Nat}{v:AV}(h:SpecP Tryz.prog G f [fI [] []] v []):SpecP Tryz.prog G f [fN] v []:=h.args fun w F xs h=>by
 cases h with
 |cons _ _ _ _ h1 h2=>
  refine .cons _ _ _ _ ?_ h2
  cases h1 with
  |agg _ x h3=>
   refine .agg _ x ?_
   cases h4:x.toList with
   |nil=>rw[h4]at h3;cases h3
   |cons y ys=>
    rw[h4]at h3
    cases h3 with
    |cons _ _ _ _ g1 g2=>
     cases g2 with
     |cons _ _ _ _ g3 g4=>exact .cons _ _ _ _ (by cases g1;exact .imm0 _ _ _ rfl (fun n e=>by cases e;rfl)) (.cons _ _ _ _ (by cases g3;exact .imm0 _ _ _ rfl (fun n e=>by cases e;rfl)) g4)
theorem tn {f:Nat}{v:AV}(h:SpecP Tryz.prog G f [fI [] []] v []):SpecP Tryz.prog G f [fN] v []:=nilfanL h
theorem tc0:SpecP Tryz.prog G 16 [fI [4,4] [3,3]] (rI 2 0) []:=tc [4,4] [3,3] (by decide) (by kernel_rfl)
theorem ts0:SpecP Tryz.prog G 17 [fI [4,4] [3,3]] (rL [0,1] 0) []:=ts [4,4] [3,3] (by decide) (by kernel_rfl)
theorem tq0:SpecP Tryz.prog G 20 [fI [4,4] [1,1]] (rB true) []:=tq (by kernel_rfl)
theorem tq1:SpecP Tryz.prog G 20 [fI [4,4] [1,2]] (rB false) []:=tq (by kernel_rfl)
theorem tq2:SpecP Tryz.prog G 20 [fI [4,4] [2,1]] (rB false) []:=tq (by kernel_rfl)
theorem tq3:SpecP Tryz.prog G 20 [fI [4,4] [2,2]] (rB true) []:=tq (by kernel_rfl)
theorem tf0:SpecP Tryz.prog G 31 [fI [4,4] [3,3]] (rB true) []:=tp (l:=[⟨20,[fI [4,4] [1,1]],rB true,[]⟩,⟨20,[fI [4,4] [1,2]],rB false,[]⟩,⟨20,[fI [4,4] [2,1]],rB false,[]⟩,⟨20,[fI [4,4] [2,2]],rB true,[]⟩]) ⟨tq0,tq1,tq2,tq3,trivial⟩ (by kernel_rfl)
theorem tc1:SpecP Tryz.prog G 16 [fI [4,4] [1,1]] (rI 1 0) []:=tc [4,4] [1,1] (by decide) (by kernel_rfl)
theorem ts1:SpecP Tryz.prog G 17 [fI [4,4] [1,1]] (rL [1,0] 0) []:=ts [4,4] [1,1] (by decide) (by kernel_rfl)
theorem tf1:SpecP Tryz.prog G 31 [fI [4,4] [1,1]] (rB true) []:=tp (l:=[⟨20,[fI [4,4] [1,1]],rB true,[]⟩]) ⟨tq0,trivial⟩ (by kernel_rfl)
theorem tc2:SpecP Tryz.prog G 16 [fI [2,2,2,2] [1,2,1,1]] (rI 1 0) []:=tc [2,2,2,2] [1,2,1,1] (by decide) (by kernel_rfl)
theorem ts2:SpecP Tryz.prog G 17 [fI [2,2,2,2] [1,2,1,1]] (rL [3,0,1,2] 0) []:=ts [2,2,2,2] [1,2,1,1] (by decide) (by kernel_rfl)
theorem tq4:SpecP Tryz.prog G 20 [fI [2,2,2,2] [1,2,1,1]] (rB true) []:=tq (by kernel_rfl)
theorem tf2:SpecP Tryz.prog G 31 [fI [2,2,2,2] [1,2,1,1]] (rB true) []:=tp (l:=[⟨20,[fI [2,2,2,2] [1,2,1,1]],rB true,[]⟩]) ⟨tq4,trivial⟩ (by kernel_rfl)
theorem tc3:SpecP Tryz.prog G 16 [fI [2,1,2,3] [1,1,1,2]] (rI 0 0) []:=tc [2,1,2,3] [1,1,1,2] (by decide) (by kernel_rfl)
theorem ts3:SpecP Tryz.prog G 17 [fI [2,1,2,3] [1,1,1,2]] (rL [] 7) []:=ts [2,1,2,3] [1,1,1,2] (by decide) (by kernel_rfl)
theorem tq5:SpecP Tryz.prog G 20 [fI [2,1,2,3] [1,1,1,2]] (rB false) []:=tq (by kernel_rfl)
theorem tf3:SpecP Tryz.prog G 31 [fI [2,1,2,3] [1,1,1,2]] (rB false) []:=tp (l:=[⟨20,[fI [2,1,2,3] [1,1,1,2]],rB false,[]⟩]) ⟨tq5,trivial⟩ (by kernel_rfl)
theorem tc4:SpecP Tryz.prog G 16 [fI [2,2,2,2] [3,3,3,3]] (rI 8 0) []:=tc [2,2,2,2] [3,3,3,3] (by decide) (by kernel_rfl)
theorem ts4:SpecP Tryz.prog G 17 [fI [2,2,2,2] [3,3,3,3]] (rL [0,1,2,3] 0) []:=ts [2,2,2,2] [3,3,3,3] (by decide) (by kernel_rfl)
theorem tq6:SpecP Tryz.prog G 20 [fI [2,2,2,2] [1,1,1,1]] (rB false) []:=tq (by kernel_rfl)
theorem tq7:SpecP Tryz.prog G 20 [fI [2,2,2,2] [1,1,1,2]] (rB true) []:=tq (by kernel_rfl)
theorem tq8:SpecP Tryz.prog G 20 [fI [2,2,2,2] [1,1,2,1]] (rB true) []:=tq (by kernel_rfl)
theorem tq9:SpecP Tryz.prog G 20 [fI [2,2,2,2] [1,1,2,2]] (rB false) []:=tq (by kernel_rfl)
theorem tq10:SpecP Tryz.prog G 20 [fI [2,2,2,2] [1,2,1,2]] (rB false) []:=tq (by kernel_rfl)
theorem tq11:SpecP Tryz.prog G 20 [fI [2,2,2,2] [1,2,2,1]] (rB false) []:=tq (by kernel_rfl)
theorem tq12:SpecP Tryz.prog G 20 [fI [2,2,2,2] [1,2,2,2]] (rB true) []:=tq (by kernel_rfl)
theorem tq13:SpecP Tryz.prog G 20 [fI [2,2,2,2] [2,1,1,1]] (rB true) []:=tq (by kernel_rfl)
theorem tq14:SpecP Tryz.prog G 20 [fI [2,2,2,2] [2,1,1,2]] (rB false) []:=tq (by kernel_rfl)
theorem tq15:SpecP Tryz.prog G 20 [fI [2,2,2,2] [2,1,2,1]] (rB false) []:=tq (by kernel_rfl)
theorem tq16:SpecP Tryz.prog G 20 [fI [2,2,2,2] [2,1,2,2]] (rB true) []:=tq (by kernel_rfl)
theorem tq17:SpecP Tryz.prog G 20 [fI [2,2,2,2] [2,2,1,1]] (rB false) []:=tq (by kernel_rfl)
theorem tq18:SpecP Tryz.prog G 20 [fI [2,2,2,2] [2,2,1,2]] (rB true) []:=tq (by kernel_rfl)
theorem tq19:SpecP Tryz.prog G 20 [fI [2,2,2,2] [2,2,2,1]] (rB true) []:=tq (by kernel_rfl)
theorem tq20:SpecP Tryz.prog G 20 [fI [2,2,2,2] [2,2,2,2]] (rB false) []:=tq (by kernel_rfl)
theorem tf4:SpecP Tryz.prog G 31 [fI [2,2,2,2] [3,3,3,3]] (rB true) []:=tp (l:=[⟨20,[fI [2,2,2,2] [1,1,1,1]],rB false,[]⟩,⟨20,[fI [2,2,2,2] [1,1,1,2]],rB true,[]⟩,⟨20,[fI [2,2,2,2] [1,1,2,1]],rB true,[]⟩,⟨20,[fI [2,2,2,2] [1,1,2,2]],rB false,[]⟩,⟨20,[fI [2,2,2,2] [1,2,1,1]],rB true,[]⟩,⟨20,[fI [2,2,2,2] [1,2,1,2]],rB false,[]⟩,⟨20,[fI [2,2,2,2] [1,2,2,1]],rB false,[]⟩,⟨20,[fI [2,2,2,2] [1,2,2,2]],rB true,[]⟩,⟨20,[fI [2,2,2,2] [2,1,1,1]],rB true,[]⟩,⟨20,[fI [2,2,2,2] [2,1,1,2]],rB false,[]⟩,⟨20,[fI [2,2,2,2] [2,1,2,1]],rB false,[]⟩,⟨20,[fI [2,2,2,2] [2,1,2,2]],rB true,[]⟩,⟨20,[fI [2,2,2,2] [2,2,1,1]],rB false,[]⟩,⟨20,[fI [2,2,2,2] [2,2,1,2]],rB true,[]⟩,⟨20,[fI [2,2,2,2] [2,2,2,1]],rB true,[]⟩,⟨20,[fI [2,2,2,2] [2,2,2,2]],rB false,[]⟩]) ⟨tq6,tq7,tq8,tq9,tq4,tq10,tq11,tq12,tq13,tq14,tq15,tq16,tq17,tq18,tq19,tq20,trivial⟩ (by kernel_rfl)
theorem tc5:SpecP Tryz.prog G 16 [fI [3,5] [1,1]] (rI 0 0) []:=tc [3,5] [1,1] (by decide) (by kernel_rfl)
theorem ts5:SpecP Tryz.prog G 17 [fI [3,5] [1,1]] (rL [] 7) []:=ts [3,5] [1,1] (by decide) (by kernel_rfl)
theorem tq21:SpecP Tryz.prog G 20 [fI [3,5] [1,1]] (rB false) []:=tq (by kernel_rfl)
theorem tf5:SpecP Tryz.prog G 31 [fI [3,5] [1,1]] (rB false) []:=tp (l:=[⟨20,[fI [3,5] [1,1]],rB false,[]⟩]) ⟨tq21,trivial⟩ (by kernel_rfl)
theorem tc6:SpecP Tryz.prog G 16 [fN] (rI 1 0) []:=tn (tc [] [] (by decide) (by kernel_rfl))
theorem ts6:SpecP Tryz.prog G 17 [fN] (rL [] 0) []:=tn (ts [] [] (by decide) (by kernel_rfl))
theorem tf6:SpecP Tryz.prog G 31 [fN] (rB true) []:=tq (by kernel_rfl)
theorem tr7:SpecP Tryz.prog G 26 [fI [2,1,2,3] [1,2,1,1]] (rL [0,2,1,3] 0) []:=tr [2,1,2,3] [1,2,1,1] (by decide) (by kernel_rfl)
def tmems:List Mem:=[⟨32,[AV.str [97,52,32,97,52]],AV.agg [AV.fullc 1 2 2,AV.fullc 0 2 2],[⟨Cont.ints IntKind.u8 [3,3],1,2,none,some true,true,false⟩,⟨Cont.ints IntKind.i64 [4,4],1,2,none,some true,true,false⟩]⟩,
 ⟨16,[fI [4,4] [3,3]],(rI 2 0),[]⟩,
 ⟨17,[fI [4,4] [3,3]],(rL [0,1] 0),[]⟩,
 ⟨31,[fI [4,4] [3,3]],rB true,[]⟩,
 ⟨32,[AV.str [109,52,32,109,52]],AV.agg [AV.fullc 1 2 2,AV.fullc 0 2 2],[⟨Cont.ints IntKind.u8 [1,1],1,2,none,some true,true,false⟩,⟨Cont.ints IntKind.i64 [4,4],1,2,none,some true,true,false⟩]⟩,
 ⟨16,[fI [4,4] [1,1]],(rI 1 0),[]⟩,
 ⟨17,[fI [4,4] [1,1]],(rL [1,0] 0),[]⟩,
 ⟨31,[fI [4,4] [1,1]],rB true,[]⟩,
 ⟨32,[AV.str [109,50,32,118,50,32,109,50,32,109,50]],AV.agg [AV.fullc 1 4 4,AV.fullc 0 4 4],[⟨Cont.ints IntKind.u8 [1,2,1,1],1,4,none,some true,true,false⟩,⟨Cont.ints IntKind.i64 [2,2,2,2],1,4,none,some true,true,false⟩]⟩,
 ⟨16,[fI [2,2,2,2] [1,2,1,1]],(rI 1 0),[]⟩,
 ⟨17,[fI [2,2,2,2] [1,2,1,1]],(rL [3,0,1,2] 0),[]⟩,
 ⟨31,[fI [2,2,2,2] [1,2,1,1]],rB true,[]⟩,
 ⟨32,[AV.str [109,50,32,109,49,32,109,50,32,118,51]],AV.agg [AV.fullc 1 4 4,AV.fullc 0 4 4],[⟨Cont.ints IntKind.u8 [1,1,1,2],1,4,none,some true,true,false⟩,⟨Cont.ints IntKind.i64 [2,1,2,3],1,4,none,some true,true,false⟩]⟩,
 ⟨16,[fI [2,1,2,3] [1,1,1,2]],(rI 0 0),[]⟩,
 ⟨17,[fI [2,1,2,3] [1,1,1,2]],(rL [] 7),[]⟩,
 ⟨31,[fI [2,1,2,3] [1,1,1,2]],rB false,[]⟩,
 ⟨32,[AV.str [97,50,32,97,50,32,97,50,32,97,50]],AV.agg [AV.fullc 1 4 4,AV.fullc 0 4 4],[⟨Cont.ints IntKind.u8 [3,3,3,3],1,4,none,some true,true,false⟩,⟨Cont.ints IntKind.i64 [2,2,2,2],1,4,none,some true,true,false⟩]⟩,
 ⟨16,[fI [2,2,2,2] [3,3,3,3]],(rI 8 0),[]⟩,
 ⟨17,[fI [2,2,2,2] [3,3,3,3]],(rL [0,1,2,3] 0),[]⟩,
 ⟨31,[fI [2,2,2,2] [3,3,3,3]],rB true,[]⟩,
 ⟨32,[AV.str [109,51,32,109,53]],AV.agg [AV.fullc 1 2 2,AV.fullc 0 2 2],[⟨Cont.ints IntKind.u8 [1,1],1,2,none,some true,true,false⟩,⟨Cont.ints IntKind.i64 [3,5],1,2,none,some true,true,false⟩]⟩,
 ⟨16,[fI [3,5] [1,1]],(rI 0 0),[]⟩,
 ⟨17,[fI [3,5] [1,1]],(rL [] 7),[]⟩,
 ⟨31,[fI [3,5] [1,1]],rB false,[]⟩,
 ⟨32,[AV.str [45]],AV.agg [AV.nils,AV.nils],[]⟩,
 ⟨16,[fN],(rI 1 0),[]⟩,
 ⟨17,[fN],(rL [] 0),[]⟩,
 ⟨31,[fN],rB true,[]⟩,
 ⟨32,[AV.str [109,50,32,118,49,32,109,50,32,109,51]],AV.agg [AV.fullc 1 4 4,AV.fullc 0 4 4],[⟨Cont.ints IntKind.u8 [1,2,1,1],1,4,none,some true,true,false⟩,⟨Cont.ints IntKind.i64 [2,1,2,3],1,4,none,some true,true,false⟩]⟩,
 ⟨26,[fI [2,1,2,3] [1,2,1,1]],(rL [0,2,1,3] 0),[]⟩]
theorem tmemsOk:MemOk Tryz.prog G tmems:=⟨me_p0,tc0,ts0,tf0,me_p1,tc1,ts1,tf1,me_p2,tc2,ts2,tf2,me_p3,tc3,ts3,tf3,me_p4,tc4,ts4,tf4,me_p5,tc5,ts5,tf5,me_p6,tc6,ts6,tf6,me_p7,tr7,trivial⟩
theorem tev11:evM G (aget xpl) nats (memoT (memF tmems)) 100000 1000 1 [] (.fn 11 [] []) []=some ⟨.bool true,[],[],[]⟩:=by kernel_rfl
theorem tsp11:SpecP Tryz.prog G 11 [] (.bool true) []:=specP_of_evM hcm hmx xpOk natsOk (memoT_ok (memF_ok tmemsOk)) tev11 rfl
theorem ct11t:CtOk Tryz.prog G 11 e11:=by
 intro args r h hp
 unfold e11 at h
 split at h<;>cases h
 exact tsp11
end Go.Proofs.YthiammkiobbclaaGreatDoor.X
