/-
 What the row on moved stacks needs: stacks among the arguments.
-/
import Derived.Test.YtmnaghfndigfkaaDoorR3Z
import Derived.Test.YtmnaghfndigfkaaDoorHCZ
set_option maxRecDepth 1000000
set_option linter.unusedVariables false
namespace Go.Proofs.YtmnaghfndigfkaaDoor.X
open Go Go.Ab Go.ChangeShapes Go.WideShapes Go.ChangeAt Go.RowKit

def shP:Sh:=.st [.int .i8,.int .i8,.int .u8,.sl (.int .u8)]
def shT:Sh:=.sl shP
theorem shp23:shp Tryd.prog 100 23=some shT:=by kernel_rfl
theorem conf_p {H:Type}{d:DataW H}(h:Conf shP d):∃s:Sk,flat noHd shP d=ptV s∧(i8P s.1.1∧i8P s.1.2.1∧0≤s.1.2.2∧s.1.2.2≤255)∧∀k∈s.2,0≤k∧k≤255:=by
 obtain⟨ds,rfl,d1,r1,rfl,⟨x,rfl,h1⟩,d2,r2,rfl,⟨y,rfl,h2⟩,d3,r3,rfl,⟨q,rfl,h3⟩,d4,r4,rfl,h4,rfl⟩:=h
 obtain⟨ks,e4,hk⟩:=conf_ints (hd:=noHd) h4
 refine⟨((x,y,q),ks),?_,⟨wf_i8 h1,wf_i8 h2,(wf_u8 h3).1,(wf_u8 h3).2⟩,fun k hk'=>⟨(wf_u8 (hk k hk')).1,(wf_u8 (hk k hk')).2⟩⟩
 show _::_::_::(flat noHd (.sl (.int .u8)) d4++[])=_
 rw[e4];rfl
theorem conf_ps {H:Type}:∀(es:List (DataW H)),(∀x∈es,Conf shP x)→∃l:List Sk,es.flatMap (flat noHd shP)=flatR l∧l.length=es.length∧rawT l
 |[],_=>⟨[],rfl,rfl,fun x hx=>by simp at hx⟩
 |e::es,h=>by
  obtain⟨c,h1,h2⟩:=conf_p (h e (List.mem_cons_self ..))
  obtain⟨l,g1,g2,g3⟩:=conf_ps es fun x hx=>h x (List.mem_cons_of_mem _ hx)
  refine⟨c::l,?_,by simp[g2],fun x hx=>?_⟩
  ·rw[List.flatMap_cons,h1,g1];rfl
  ·rcases List.mem_cons.1 hx with rfl|hx
   ·exact h2
   ·exact g3 x hx
theorem conf_T {H:Type}{d:DataW H}(h:Conf shT d):∃l:List Sk,argV noHd shT d=.imm (.vals (flatR l)) l.length none∧rawT l:=by
 rcases h with rfl|⟨es,sp,rfl,_,h⟩
 ·exact⟨[],rfl,fun x hx=>by simp at hx⟩
 ·obtain⟨l,g1,g2,g3⟩:=conf_ps es h
  refine⟨l,?_,g3⟩
  rw[← g1,g2]
  rfl
end Go.Proofs.YtmnaghfndigfkaaDoor.X
