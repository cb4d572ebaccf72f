/- An abstract reading of the program: what its operations do to what is known of memory. Part 6 of 9. -/
import Derived.Test.YtfafinkgmhkdmaaGreatDoorAb5
import Derived.RangeFuncIn
import Derived.RangeFuncRecord
import Derived.Laws.StandIn
import Derived.Lib.Bytealg

/-
 What the function finds is what the code does.
-/
set_option linter.unusedVariables false
set_option linter.unusedSimpArgs false
namespace Go.Ab
open Go

section
variable {P:Program}{G:GL}{md:Md}{F:Nat→Prop}{ρ:Nat→Option Nat}{a:Act}{w:World}{ops:Array Oper}{tb:TB}

def TBok (P:Program)(G:GL)(tb:TB):Prop:=∀c h cv args D,tb c h cv args=some D→D.cs=[]∧SpecD P G cv args h D.v D.ws D.al

theorem stripC_C {Sp:SpT}:∀{rt:List (Nat×AV)} {cs:List Cd},cdsC (stripC rt cs)=true→AllC Sp cs→AllC Sp (stripC rt cs)
 |[],cs,h,hc=>hc
 |(_,v)::r,cs,h,hc=>by
  have key:∀cs',cdsC (stripB v cs')=true→cdsC cs'=true∧(AllC Sp cs'→AllC Sp (stripB v cs')):=by
   intro cs' h'
   unfold stripB at h' ⊢
   split at h'
   ·rename_i b u
    simp only[cdsC,cdC,cdB,cond_eq_ite]at h'
    split at h'
    ·rename_i hb;exact⟨h',fun hh=>⟨hb,hh⟩⟩
    ·cases h'
   ·exact⟨h',fun hh=>hh⟩
  obtain⟨k1,k2⟩:=key _ h
  exact k2 (stripC_C k1 hc)

theorem callD_cs {site:Nat}{look:Nat→Option HO}{cv:AV}{vs:List AV}{D:Delta}(htb:TBok P G tb)(hD:opCallD site look tb cv vs=some D):AllC (SpecQ P G) D.cs:=by
 unfold opCallD at hD
 simp only[cond_eq_ite]at hD
 split at hD
 ·split at hD
  ·rename_i D' hD'
   split at hD
   ·cases hD
    obtain⟨h1,h2⟩:=htb _ _ _ _ _ hD'
    rw[h1]
    exact⟨h2,trivial⟩
   ·cases hD
  ·cases hD
 ·cases hD

theorem chk_ok {site:Nat}{look:Nat→Option HO}{x:XO}{gv:Option AV}{rt:List (Nat×AV)}{D:Delta}(htb:TBok P G tb)(hD:runG G site look x .auto (.tab true tb) gv rt=some D)(h:chkE x.op D.cs=true):AllC (SpecQ P G) D.cs:=by
 have call:∀f as,x.op=.call f as∨(∃X,x.op=.callv X as)→chkE x.op D.cs=cdsC D.cs:=fun f as e=>by
  rcases e with e|⟨X,e⟩<;>rw[e]<;>rfl
 by_cases hcall:(∃f as,x.op=.call f as)∨(∃X as,x.op=.callv X as)
 ·have hck:cdsC D.cs=true:=by
   rcases hcall with⟨f,as,e⟩|⟨X,as,e⟩
   ·rw[← call f as (.inl e)];exact h
   ·rw[← call 0 as (.inr ⟨X,e⟩)];exact h
  have run:∀{D':Delta},cdsC D'.cs=true→runU G site look x.op (.tab true tb) rt=some D'→AllC (SpecQ P G) D'.cs:=by
   intro D' hck' hD'
   unfold runU at hD'
   split at hD'
   ·rename_i hk
    rcases hcall with⟨f,as,e⟩|⟨X,as,e⟩<;>rw[e]at hk<;>cases hk
   ·split at hD'
    ·rename_i D0 h0
     cases hD'
     refine stripC_C hck' ?_
     rcases hcall with⟨f,as,e⟩|⟨X,as,e⟩
     ·rw[e]at h0
      simp only[execD,opCall]at h0
      exact callD_cs htb h0
     ·rw[e]at h0
      simp only[execD,opCallv]at h0
      split at h0
      ·simp only[opCall]at h0;exact callD_cs htb h0
      ·exact callD_cs htb h0
      ·cases h0
    ·cases hD'
  unfold runG at hD
  split at hD
  ·exact run hck hD
  ·split at hD
   ·simp only[cond_eq_ite]at hD
    split at hD
    ·exact run hck hD
    ·cases hD;exact trivial
   ·cases hD
 ·have:chkE x.op D.cs=cdsB D.cs:=by
   unfold chkE
   split
   ·rename_i e;exact absurd (.inl ⟨_,_,e⟩) hcall
   ·rename_i e;exact absurd (.inr ⟨_,_,e⟩) hcall
   ·rfl
  rw[this]at h
  exact cdsB_ok h

def WrOk (c0:Nat)(wr wr':List Nat)(H H':Nat→Option HO):Prop:=∀i,i∉wr'→i<c0→i∉wr∧H' i=H i
theorem WrOk.refl (c0:Nat)(wr:List Nat)(H:Nat→Option HO):WrOk c0 wr wr H H:=fun i h _=>⟨h,rfl⟩
theorem WrOk.trans {c0:Nat}{wr wr' wr'':List Nat}{H H' H'':Nat→Option HO}(h:WrOk c0 wr wr' H H')(k:WrOk c0 wr' wr'' H' H''):WrOk c0 wr wr'' H H'':=fun i h1 h2=>by
 obtain⟨k1,k2⟩:=k i h1 h2
 obtain⟨g1,g2⟩:=h i k1 h2
 exact⟨g1,k2.trans g2⟩
theorem addW_ok {c0:Nat}:∀{ws:List (Nat×HO)} {wr:List Nat} {i:Nat},i∉addW c0 wr ws→i<c0→i∉wr∧i∉keys ws
 |[],wr,i,h,hi=>⟨h,by simp[keys]⟩
 |(j,o)::r,wr,i,h,hi=>by
  simp only[addW]at h
  obtain⟨h1,h2⟩:=addW_ok h hi
  have hj:i≠j∧i∉wr:=by
   simp only[cond_eq_ite]at h1
   split at h1
   ·rename_i hc
    have:=Nat.le_of_ble_eq_true hc
    exact⟨by omega,h1⟩
   ·split at h1
    ·rename_i hm
     exact⟨fun e=>h1 (e▸memN_iff.1 hm),h1⟩
    ·simp only[List.mem_cons,not_or]at h1;exact h1
  simp only[keys,List.mem_cons,not_or]
  exact⟨hj.2,hj.1,h2⟩
theorem WrOk.upd {c0:Nat}{wr:List Nat}{H:Nat→Option HO}{ws:List (Nat×HO)}:WrOk c0 wr (addW c0 wr ws) H (updL H ws):=fun i h hi=>by
 obtain⟨h1,h2⟩:=addW_ok h hi
 exact⟨h1,updL_nokey h2⟩

theorem exOpsE_wr {c0:Nat}:∀{xs:List XO} {s s':EvS},exOpsE G tb c0 xs s=some s'→WrOk c0 s.wr s'.wr (aget s.S.h) (aget s'.S.h)
 |[],s,s',he=>by simp only[exOpsE]at he;cases he;exact .refl _ _ _
 |x::r,s,s',he=>by
  simp only[exOpsE]at he
  split at he
  ·rename_i D hD
   rw[cond_eq_ite]at he
   split at he
   ·exact WrOk.trans (wr':=addW c0 s.wr D.ws) (H':=aget (putS s.S x.dst D).h) (by rw[putS_h];exact .upd) (exOpsE_wr he)
   ·cases he
  ·cases he
theorem exEntsE_wr {c0:Nat}{xs:List XO}:∀{ord:List Nat} {s s':EvS} {es:List (Nat×Ent)},exEntsE G tb c0 xs ord s=some (s',es)→WrOk c0 s.wr s'.wr (aget s.S.h) (aget s'.S.h)
 |[],s,s',es,h=>by simp only[exEntsE]at h;cases h;exact .refl _ _ _
 |i::r,s,s',es,h=>by
  simp only[exEntsE]at h
  split at h
  ·rename_i x hxi
   split at h
   ·rename_i e he
    rw[cond_eq_ite]at h
    split at h
    ·split at h
     ·rename_i s'' es' h'
      cases h
      exact WrOk.trans (wr':=addW c0 s.wr e.D.ws) (H':=aget (putS s.S x.dst e.D).h) (by rw[putS_h];exact .upd) (exEntsE_wr h')
     ·cases h
    ·cases h
   ·cases h
  ·cases h

theorem exOpsE_sound (htb:TBok P G tb){c0:Nat}{R:Act→World→Prop}:∀(l:List Oper) (k:Nat) (xs:List XO) (s s':EvS) (F:Nat→Prop) (ρ:Nat→Option Nat) (a:Act) (w:World),(∀j,l[j]? =ops[k+j]?)→compXOs P ops l=some xs→exOpsE G tb c0 xs s=some s'→
  WrOk c0 s.wr s'.wr (aget s.S.h) (aget s'.S.h)∧(RS G F ρ s.S a w→(∀a' w' F' ρ',RS G F' ρ' s'.S a' w'→Ext G F ρ w F' ρ' w'→HKeep w ρ (aget s.S.h) w' ρ' (aget s'.S.h)→a'.defers=a.defers→R a' w')→wpOpsR P ops R (List.range' k l.length) a w)
 |[],k,xs,s,s',F,ρ,a,w,hl,hx,he=>by
  cases hx
  simp only[exOpsE]at he
  cases he
  exact⟨.refl _ _ _,fun hr hQ=>hQ a w F ρ hr (Ext.refl _ _ _) (HKeep.refl _ _ _) rfl⟩
 |o::l,k,xs,s,s',F,ρ,a,w,hl,hx,he=>by
  simp only[compXOs]at hx
  split at hx
  ·rename_i x xl hxo hxl
   cases hx
   simp only[exOpsE]at he
   split at he
   ·rename_i D hD
    rw[cond_eq_ite]at he
    split at he
    ·rename_i hcond
     simp only[Bool.and_eq_true]at hcond
     have c1:=chk_ok htb hD hcond.2.2
     have h0:ops[k]? =some o:=by simpa using(hl 0).symm
     have hnext:∀j,l[j]? =ops[k+1+j]? :=fun j=>by have:=hl (j+1);simpa[Nat.add_assoc,Nat.add_comm 1 j]using this
     refine⟨WrOk.trans (wr':=addW c0 s.wr D.ws) (H':=aget (putS s.S x.dst D).h) (by rw[putS_h];exact .upd) (exOpsE_sound (R:=R) htb l (k+1) xl _ s' F ρ a w hnext hxl he).1,fun hr hQ=>?_⟩
     rw[List.length_cons,List.range'_succ]
     show wpOpR P ops k _ a w
     refine one_sound h0 hxo hr (fun t v h=>readT_get h) (fun t want v hg hv=>gvOf_ok hg hv) (fun _ _ h=>h) hD (okDst_ok hcond.1) (freshA_ok hcond.2.1) c1 ?_
     intro y w' F' ρ' hr' hx' hk'
     rw[← putS_h s.S x.dst D]at hk'
     refine(exOpsE_sound htb l (k+1) xl _ s' F' ρ' _ w' hnext hxl he).2 ?_ ?_
     ·unfold RS;simp only;rw[putS_t,putS_h];exact hr'
     ·intro a' w'' F'' ρ'' h1 h2 h3 h4
      exact hQ a' w'' F'' ρ'' h1 (hx'.trans h2) (hk'.trans h3) (h4.trans (put_defers' _ _ _))
    ·cases he
   ·cases he
  ·cases hx

theorem exEntsE_ok (htb:TBok P G tb){c0:Nat}{xs:List XO}(hx:compXOs P ops ops.toList=some xs):∀{ord:List Nat} {s s':EvS} {es:List (Nat×Ent)},exEntsE G tb c0 xs ord s=some (s',es)→
  keys es=ord∧s'.S.n=s.S.n∧(∀p,p∈es→EntOk P G ops s.S.n p)∧Chain (aget s'.S.t) (aget s'.S.h) es (aget s.S.t) (aget s.S.h)∧WrOk c0 s.wr s'.wr (aget s.S.h) (aget s'.S.h)∧
  (∀p,p∈es→nth? xs p.1=some p.2.x∧(∀t,t∈keys p.2.rt→t∈opdT p.2.x.op.opds))
 |[],s,s',es,h=>by
  simp only[exEntsE]at h
  cases h
  exact⟨rfl,rfl,fun p hp=>by simp at hp,⟨rfl,rfl⟩,.refl _ _ _,fun p hp=>by simp at hp⟩
 |i::r,s,s',es,h=>by
  simp only[exEntsE]at h
  split at h
  ·rename_i x hxi
   split at h
   ·rename_i e he
    rw[cond_eq_ite]at h
    split at h
    ·rename_i hck
     split at h
     ·rename_i s'' es' h'
      cases h
      obtain⟨g1,g2,g3,g4,g5,g6⟩:=exEntsE_ok htb hx h'
      obtain⟨o,ho,hxo⟩:=compXOs_get hx hxi
      simp only[mkEnt]at he
      split at he
      ·rename_i D hD
       rw[cond_eq_ite]at he
       split at he
       ·rename_i hcond
        cases he
        rw[Bool.and_eq_true]at hcond
        have c1:=chk_ok htb hD hck
        refine⟨by simp[keys,g1],g2,fun p hp=>?_,⟨⟨?_,?_,?_,?_⟩,?_⟩,WrOk.trans (by rw[putS_h];exact .upd) g5,fun p hp=>?_⟩
        ·rcases List.mem_cons.1 hp with rfl|hp
         ·exact⟨o,by simpa using ho,hxo,hD,okDst_ok hcond.1,c1⟩
         ·exact g3 p hp
        ·intro t v hv;exact readT_get hv
        ·intro t want v hg hv;exact gvOf_ok hg hv
        ·intro j o' hj;exact readF_get hj
        ·exact freshA_ok hcond.2
        ·simp only[putS_t,putS_h]at g4;exact g4
        ·rcases List.mem_cons.1 hp with rfl|hp
         ·refine⟨hxi,?_⟩
          simp only
          generalize x.op.opds=os
          induction os with
          |nil=>intro t ht;simp[readT,keys]at ht
          |cons q os ih=>
           cases q with
           |t n=>
            intro t ht
            simp only[readT]at ht
            split at ht
            ·simp only[keys,List.mem_cons]at ht
             simp only[opdT,List.mem_cons]
             exact ht.imp (fun h=>h) (ih t)
            ·simp only[opdT,List.mem_cons];exact .inr (ih t ht)
           |c v=>intro t ht;exact ih t ht
           |g n=>intro t ht;exact ih t ht
         ·exact g6 p hp
       ·cases he
      ·cases he
     ·cases h
    ·cases h
   ·cases h
  ·cases h

theorem noneIn_mono {a b a' b':List Nat}(h:noneIn a b=true)(ha:∀i,i∈a'→i∈a)(hb:∀i,i∈b'→i∈b):∀i,i∈a'→i∉b':=
 fun i h1 h2=>noneIn_ok' h i (ha i h1) (hb i h2)

theorem noneIn_mk:∀{a b:List Nat},(∀i,i∈a→i∉b)→noneIn a b=true
 |[],b,h=>rfl
 |x::r,b,h=>by
  simp only[noneIn,cond_eq_ite]
  have:¬ memN x b=true:=fun e=>h x (by simp) (memN_iff.1 e)
  rw[if_neg this]
  exact noneIn_mk fun i hi=>h i (by simp[hi])

theorem pairs_of {xs:List XO}{dep:List (List Nat)}{tbl:List (Nat×List Nat)}{dp:Nat→List Nat}(hd:∀i,dp i=depN dep i):
  ∀{es:List (Nat×Ent)},pairsT dep tbl xs (keys es)=true→pairsHE tbl es=true→(∀p,p∈es→nth? xs p.1=some p.2.x∧(∀t,t∈keys p.2.rt→t∈opdT p.2.x.op.opds))→Pairs dp (tbN tbl) es
 |[],_,_,_=>trivial
 |(i,e)::r,hT,hH,hx=>by
  simp only[keys,pairsT,Bool.and_eq_true,Bool.not_eq_true']at hT
  simp only[pairsHE,Bool.and_eq_true,Bool.or_eq_true]at hH
  obtain⟨hself,hpair,hT⟩:=hT
  obtain⟨hheap,hH⟩:=hH
  obtain⟨x1,x2⟩:=hx (i,e) (by simp)
  have x1:nth? xs i=some e.x:=x1
  have nmem:∀{x:Nat} {l:List Nat},memN x l=false→x∉l:=fun h hm=>by rw[memN_iff.2 hm]at h;cases h
  unfold pairTo at hpair
  rw[x1]at hpair
  simp only at hpair
  have key:∀{r':List (Nat×Ent)},(∀p,p∈r'→p∈r)→pairT dep tbl xs i e.x (keys r')=true→(quietE e=true∨pairHE tbl i e r'=true)→i∉keys r'∧∀p,p∈r'→p.1∉depN dep i∧(i∈tbN tbl p.1∨Apart e p.2):=by
   intro r'
   induction r' with
   |nil=>intro _ _ _;exact⟨by simp[keys],fun p hp=>by simp at hp⟩
   |cons q r' ih=>
    obtain⟨j,f⟩:=q
    intro hsub hp hh
    simp only[keys,pairT,Bool.and_eq_true,Bool.or_eq_true,Bool.not_eq_true']at hp
    obtain⟨hij,hjd,hap,hp⟩:=hp
    have hh2:(quietE e=true∨pairHE tbl i e r'=true)∧(i∈tbN tbl j∨(noneIn (keys e.D.ws) (keys f.rh++(f.D.al++keys f.D.ws))=true∧noneIn (keys f.D.ws) (keys e.rh++e.D.al)=true)):=by
     rcases hh with hq|hh
     ·refine⟨.inl hq,.inr ?_⟩
      simp only[quietE,Bool.and_eq_true]at hq
      obtain⟨q1,q2,q3⟩:=hq
      rw[isNil_ok q1,isNil_ok q2,isNil_ok q3]
      exact⟨rfl,noneIn_mk fun i _ h=>by simp[keys]at h⟩
     ·simp only[pairHE,Bool.and_eq_true,Bool.or_eq_true]at hh
      obtain⟨hc,hh⟩:=hh
      refine⟨.inr hh,?_⟩
      rcases hc with hnil|hm|hc
      ·rw[isNil_ok hnil.1,isNil_ok hnil.2]
       exact .inr ⟨rfl,rfl⟩
      ·exact .inl (memN_iff.1 hm)
      ·simp only[apartH,Bool.and_eq_true]at hc;exact .inr hc
    obtain⟨k1,k2⟩:=ih (fun p hp=>hsub p (by simp[hp])) hp hh2.1
    have hne:i≠j:=fun e=>by subst e;rw[beq_self]at hij;cases hij
    refine⟨by simp only[keys,List.mem_cons,not_or];exact⟨hne,k1⟩,fun p hp=>?_⟩
    rcases List.mem_cons.1 hp with rfl|hp
    ·refine⟨nmem hjd,?_⟩
     obtain⟨y1,y2⟩:=hx (j,f) (List.mem_cons_of_mem _ (hsub _ (by simp)))
     have y1:nth? xs j=some f.x:=y1
     rcases hap with hm|hap
     ·exact .inl (memN_iff.1 hm)
     ·unfold apartJ at hap
      rw[y1]at hap
      simp only[apartT,Bool.and_eq_true]at hap
      rcases hh2.2 with h|⟨h1,h2⟩
      ·exact .inl h
      ·right
       refine apartE_ok ?_
       simp only[apartE,Bool.and_eq_true]
       refine⟨noneIn_mk (noneIn_mono hap.1 (fun i h=>h) fun t ht=>?_),noneIn_mk (noneIn_mono hap.2 (fun i h=>h) fun t ht=>?_),h1,h2⟩
       ·simp only[List.mem_append]at ht ⊢; exact ht.imp (y2 t) (fun h=>h)
       ·simp only[List.mem_append]at ht ⊢; exact ht.imp (x2 t) (fun h=>h)
    ·exact k2 p hp
  obtain⟨k1,k2⟩:=key (r':=r) (fun p hp=>hp) hpair hheap
  refine⟨fun h=>?_,k1,fun p hp=>?_,pairs_of hd hT hH fun p hp=>hx p (by simp[hp])⟩
  ·rw[hd]at h;exact nmem hself h
  ·rw[hd];exact k2 p hp

end
end Go.Ab

/-
 Ranges over functions: the record, the call, the pending jump; rounds.
-/
set_option linter.unusedVariables false
set_option linter.unusedSimpArgs false
namespace Go.Ab
open Go

section
variable {P:Program}{G:GL}{md:Md}{F:Nat→Prop}{ρ:Nat→Option Nat}{H:Nat→Option HO}{a:Act}{w w':World}{ops:Array Oper}{tb:TB}

theorem MRel.allocOff (hm:MRel G F ρ H w){ob:Obj}(hw:w'.heap=w.heap.push ob)(hio:IoEq G w w'):MRel G F ρ H w'∧Ext G F ρ w F ρ w'∧HKeep w ρ H w' ρ H:=by
 have hsz:w'.heap.size=w.heap.size+1:=by rw[hw];simp
 have hold:∀b,b<w.heap.size→w'.heap[b]? =w.heap[b]? :=fun b hb=>push_old hw hb
 have hk:HKeep w ρ H w' ρ H:=⟨fun id o h1 h2=>⟨o,h1,h2,rfl⟩,fun id k h1=>⟨k,h1,rfl,Nat.le_refl _,fun _=>⟨rfl,rfl,.inl rfl,rfl⟩⟩,fun b cs ty fz hb=>⟨cs,ty,fz,(hold b (lt_of_some hb)).trans hb,rfl⟩⟩
 have hwF:∀b,F b→w'.heap[b]? =w.heap[b]? :=fun b hb=>hold b (hm.frz b hb)
 exact⟨⟨fun id o h1=>(hm.heap id o h1).mono hwF (fun _ h=>h) hk rfl (fun b hb=>⟨hold b (hm.lt id b hb),fun h=>h⟩),hm.dom,hm.inj,fun id b hb=>by have:=hm.lt id b hb;omega,fun b hb=>by have:=hm.frz b hb;omega,hm.glob.mono hwF (fun _ h=>h)⟩,
  ⟨hio,by omega,fun b hb _=>hold b hb,hwF,fun _ h=>h,fun _ h=>.inl h,fun id b hb=>.inl ⟨id,hb⟩⟩,hk⟩

theorem enter_loop (hm:MRel G F ρ H w)(ro:Option Nat)(hro:∀l0,ro=some l0→∃r0,w.heap[l0]? =some (.loop r0))(fn:FuncId)(tmps:Array Value)(qs:Array Tmp)(ca cb:Code):
  ∃l mark w0 w1 r0,(Instr.enterLoop fn tmps qs ca cb ro).run P w=.ok (l,mark) w1∧MRel G F ρ H w0∧Ext G F ρ w F ρ w0∧HKeep w ρ H w0 ρ H∧w1.heap=w0.heap.push (.loop {state:=.ready,pending:=none,fn,tmps,params:=qs,assign:=ca,body:=cb,defers:=r0})∧IoEq G w0 w1∧l=w0.heap.size∧
   (mark=[]∨(mark=[markOf r0]∧w0.heap[r0]? =some (.deferred (some []))∧w.heap.size≤r0)):=by
 cases ro with
 |none=>
  obtain⟨h1,h2,h3⟩:=hm.allocOff (w':=w.alloc (.deferred (some []))) (ob:=.deferred (some [])) rfl ⟨rfl,rfl,fun _=>⟨rfl,Nat.le_refl _⟩⟩
  refine⟨_,_,w.alloc (.deferred (some [])),_,_,run_enterLoop_outer fn tmps qs ca cb,h1,h2,h3,rfl,⟨rfl,rfl,fun _=>⟨rfl,Nat.le_refl _⟩⟩,?_,.inr ⟨rfl,?_,Nat.le_refl _⟩⟩
  ·show w.heap.size+1=(w.heap.push _).size
   rw[Array.size_push]
  ·show(w.heap.push _)[w.heap.size]? =_
   rw[Array.getElem?_push_size]
 |some l0=>
  obtain⟨r0,hr0⟩:=hro l0 rfl
  refine⟨w.heap.size,[],w,w.alloc (.loop {state:=.ready,pending:=none,fn,tmps,params:=qs,assign:=ca,body:=cb,defers:=r0.defers}),r0.defers,?_,hm,Ext.refl _ _ _,HKeep.refl _ _ _,rfl,⟨rfl,rfl,fun _=>⟨rfl,Nat.le_refl _⟩⟩,rfl,.inl rfl⟩
  unfold Instr.enterLoop
  simp only[Sem.run_bind,run_getLoop hr0,run_newObj_alloc,Result.andThen,Sem.run_pure]

theorem rangeF_steps {b:Frame}{k:List Item}{cs:List Frame}{g:Operand}{qs:Array Tmp}{ca cb:Code}{l:Nat}{mark:List Deferred}{w1:World}{f:FuncId}{x1 x2:Array Value}{K:Value→World→Prop}
  (he:(Instr.enterLoop b.fn a.tmps qs ca cb b.roundOf).run P w=.ok (l,mark) w1) (hg:a.eval g=.func (.func f) x1 x2)
  (hK:CallOk P f (x1++ #[.func (.yield l) #[] #[]]++x2) w1 K):
  ∃v w3,K v w3∧Steps P (lone (b.atR a (.code (.rangeFunc g qs ca cb)::k)) cs w) (lone (b.atR {a with defers:=mark++a.defers} (.endRangeFunc l::k)) cs w3):=by
 have hev:=Frame.eval_atR b {a with defers:=mark++a.defers} (.inRangeFunc l::k)
 simp only[Frame.atR]at hev
 have hg':({tmps:=a.tmps,defers:=mark++a.defers}:Act).eval g=.func (.func f) x1 x2:=by
  rw[← hg];cases g<;>rfl
 have hres:(do let d ← resolve ({tmps:=a.tmps,defers:=mark++a.defers}:Act).eval {callee:=.value g,args:= #[.const (.func (.yield l) #[] #[])],argTypes:= #[]} 0;invoke d.target d.args:Sem Next).run P w1=(callFunc f (x1++ #[.func (.yield l) #[] #[]]++x2)).run P w1:=by
  simp only[resolve,Deferred.ofValue,hg',Sem.run_bind,Sem.run_pure,Result.andThen_ok,invoke]
  have:Array.map ({tmps:=a.tmps,defers:=mark++a.defers}:Act).eval #[Operand.const (Value.func (Fn.yield l) #[] #[])]= #[Value.func (Fn.yield l) #[] #[]]:=by simp[Act.eval]
  rw[this]
 rcases hK with⟨nx,y,w',h1,h2,h3⟩|⟨f',args,w2,h1,h2⟩|⟨l',fn,tmps,as,bd,w2,h1,h2⟩
 ·refine⟨y,w',h3,.one (step_lone_go ?_)⟩
  rw[h1]at hres
  rw[← finish_atR_inRangeFunc l y]
  rcases h2 with rfl|⟨rfl,rfl⟩<;>simp[stepG,stepG.exec,Frame.atR,Sem.runT_eq,he,GStep.bare_after,stepG.apply,hev,hres]
 ·rw[h1]at hres
  obtain⟨e,w3,fr,⟨v,rfl,hv⟩,hsteps,_,hleave⟩:=h2 (b.atR {a with defers:=mark++a.defers} (.inRangeFunc l::k)::cs)
  refine⟨v,w3,hv,.head (step_lone_go (fr':=Frame.enter P f' args .normal) (cs':=b.atR {a with defers:=mark++a.defers} (.inRangeFunc l::k)::cs) (w':=w2) ?_) (hsteps.trans (.one ?_))⟩
  ·simp[stepG,stepG.exec,Frame.atR,Sem.runT_eq,he,GStep.bare_after,stepG.apply,hev,hres]
  ·rw[← finish_atR_inRangeFunc l v];exact step_leave_returned hleave
 ·rw[h1]at hres
  obtain⟨v,w3,hv,hsteps⟩:=h2 (b.atR {a with defers:=mark++a.defers} (.inRangeFunc l::k)) cs
  refine⟨v,w3,hv,.head (step_lone_go (fr':=Frame.round l' fn tmps as bd .normal) (cs':=b.atR {a with defers:=mark++a.defers} (.inRangeFunc l::k)::cs) (w':=w2) ?_) ?_⟩
  ·simp[stepG,stepG.exec,Frame.atR,Sem.runT_eq,he,GStep.bare_after,stepG.apply,hev,hres]
  ·rw[finish_atR_inRangeFunc]at hsteps;exact hsteps

theorem asets_aset {h:List (Nat×HO)}{id:Nat}{o:HO}{ws:List (Nat×HO)}:aget (asets (aset h id o) ws)=updL (upd (aget h) id (some o)) ws:=by rw[aget_asets,aget_aset]

theorem wpX_rangeF (hcm:G.cm=cmOf P){g:Opd}{ps:List Nat}{as bd:XC}{S:St}{f:Nat}{a0 cp:List AV}(hg:g.ev G S.t=.fn f a0 cp)(hrid:∀l0,md.rid=some l0→∃L,aget S.h l0=some (.loop L)){id:Nat}(hid:aget S.h id=none)
  {D:Delta} (hal:∀i,i∈D.al→aget (aset S.h id (.loop ⟨0,none,S.t,S.n,ps,as,bd⟩)) i=none)
  (hsp:∀F ρ w (xs:Array Value),MRel G F ρ (aget (aset S.h id (.loop ⟨0,none,S.t,S.n,ps,as,bd⟩))) w→RelVs w F ρ (aget (aset S.h id (.loop ⟨0,none,S.t,S.n,ps,as,bd⟩))) (a0++[.yld id]++cp) xs.toList→CallOk P f xs w (KD G F ρ (aget (aset S.h id (.loop ⟨0,none,S.t,S.n,ps,as,bd⟩))) w D))
  {l2:LoopS} (h2:aget (asets (aset S.h id (.loop ⟨0,none,S.t,S.n,ps,as,bd⟩)) D.ws) id=some (.loop l2)) {e:Ex} (hp:pendX l2.pend=some e) (hst:l2.st≠1) {Q:Ex→St→Prop}
  (hQ:Q e {S with h:=aset (asets (aset S.h id (.loop ⟨0,none,S.t,S.n,ps,as,bd⟩)) D.ws) id (.loop {l2 with st:=3})}):WpX P G md (.rangeF g ps as bd) S Q:=by
 intro c hc F ρ a w ro hr hro b k cs hb
 obtain⟨X,qs,ca,cb,rfl,hps,hX,hca,hcb⟩:=cm_rangeF hcm hc
 have hfv:=evOk_of (rt:=S.t) (a:=a) hr.mem hr.tmps X g hX
 rw[hg]at hfv
 obtain⟨x1,x2,hXv,r1,r2⟩:=hfv.fns
 have hro':∀l0,ro=some l0→∃r0,w.heap[l0]? =some (.loop r0):=fun l0 e=>by
  unfold RoOk at hro
  cases hmd:md.rid with
  |none=>rw[hmd]at hro;simp only at hro;rw[hro]at e;cases e
  |some q=>
   rw[hmd]at hro
   obtain⟨b',o,g1,g2,_,_⟩:=hro
   rw[g1]at e;cases e
   obtain⟨L,hL⟩:=hrid q hmd
   obtain⟨b2,p1,p2,r,p3,_⟩:=hr.mem.heap q _ hL
   rw[g2]at p1;cases p1
   exact⟨r,p3⟩
 obtain⟨l,mark,w0,w1,rd,hent,m0,x0,k0,hw1,hio1,hl,hmark⟩:=enter_loop (P:=P) hr.mem ro hro' b.fn a.tmps qs ca cb
 let L0:LoopS:=⟨0,none,S.t,S.n,ps,as,bd⟩
 have hte:∀t v,aget S.t t=some v→RelV w0 F ρ (aget S.h) v (a.tmps.getD t undef):=fun t v h=>(hr.tmps t v h).mono x0.frz x0.keep k0
 obtain⟨ρ1,m1,x1',k1,hρ1,hρo⟩:=m0.alloc (site:=id) (o:=.loop L0) hid hw1 hio1 (fun ρ' H' hk hs=>by
  refine⟨w0.heap.size,hs,fun hF=>by have:=m0.frz _ hF;omega,_,push_new hw1,⟨rfl,rfl,hr.size,fun t v h=>(hte t v h).mono (fun b hb=>push_old hw1 (m0.frz b hb)) (fun _ h=>h) hk,hps,hca,hcb⟩⟩)
 have hH1:upd (aget S.h) id (some (.loop L0))=aget (aset S.h id (.loop L0)):=(aget_aset _ _ _).symm
 rw[hH1]at m1 k1
 have hargs:RelVs w1 F ρ1 (aget (aset S.h id (.loop L0))) (a0++[.yld id]++cp) (x1++ #[Value.func (.yield l) #[] #[]]++x2).toList:=by
  have mv:∀{vs:List AV} {xs:List Value},RelVs w F ρ (aget S.h) vs xs→RelVs w1 F ρ1 (aget (aset S.h id (.loop L0))) vs xs:=fun h=>
   (h.mono x0.frz x0.keep k0).mono x1'.frz x1'.keep k1
  have hy:RelV w1 F ρ1 (aget (aset S.h id (.loop L0))) (.yld id) (Value.func (.yield l) #[] #[]):=.yld id l (.loop L0) (by rw[hρ1,hl]) (by rw[aget_aset,upd_same]) rfl
  simp only[Array.toList_append]
  refine RelVs.app (RelVs.app (mv r1) (.cons _ _ _ _ hy .nil)) (mv r2)
 have hent':(Instr.enterLoop b.fn a.tmps qs ca cb b.roundOf).run P w=.ok (l,mark) w1:=by rw[hb];exact hent
 obtain⟨v,w3,⟨F3,ρ3,m3,x3,k3,_⟩,hsteps⟩:=rangeF_steps (k:=k) (cs:=cs) hent' hXv (hsp F ρ1 w1 _ m1 hargs)
 rw[← aget_asets]at m3 k3
 -- the end of the statement
 obtain⟨bl,y1,y2,rr,y3,y4⟩:=m3.heap id _ h2
 have hbl:bl=l:=by
  obtain⟨o',z1,z2,z3⟩:=k3.box id (.loop L0) (by rw[aget_aset,upd_same]) rfl
  rw[y1,hρ1]at z3;cases z3;exact hl.symm
 subst hbl
 have hbusy:rr.state≠ .busy:=by
  rw[y4.st]
  intro e
  apply hst
  match hq:l2.st,e with
  |0,e=>simp[stOf]at e
  |1,_=>rfl
  |2,e=>simp[stOf]at e
  |n+3,e=>simp[stOf]at e
 have hend:=run_endLoop (P:=P) y3 hbusy
 have hlt3:bl<w3.heap.size:=lt_of_some y3
 obtain⟨m4,x4,k4⟩:=m3.write (w':=w3.putObj bl (.loop {rr with state:=.exhausted})) (o':=.loop {l2 with st:=3}) h2 y1 y2 (World.putObj_heap_same hlt3) (fun j hj=>World.putObj_heap_other hj) World.putObj_size ⟨rfl,rfl,fun _=>⟨rfl,Nat.le_refl _⟩⟩
  (fun cs ty fz h=>by rw[y3]at h;cases h) rfl (fun k h=>by cases h)
  (fun hk=>⟨bl,y1,y2,_,World.putObj_heap_same hlt3,⟨rfl,y4.pend,y4.size,fun t v h=>(y4.tmps t v h).mono (fun b hb=>World.putObj_heap_other (fun(e:b=bl)=>y2 (by rw[← e];exact hb))) (fun _ h=>h) hk,y4.ps,y4.as,y4.bd⟩⟩)
 rw[← aget_aset]at m4 k4
 have hx:Ext G F ρ w F3 ρ3 (w3.putObj bl (.loop {rr with state:=.exhausted})):=((x0.trans x1').trans x3).trans x4
 have hk:HKeep w ρ (aget S.h) (w3.putObj bl (.loop {rr with state:=.exhausted})) ρ3 (aget (aset (asets (aset S.h id (.loop L0)) D.ws) id (.loop {l2 with st:=3}))):=((k0.trans k1).trans k3).trans k4
 have hdefs:DefOk F3 ρ3 {a with defers:=mark++a.defers} (w3.putObj bl (.loop {rr with state:=.exhausted}))∧DX a.defers w (mark++a.defers):=by
  obtain⟨rs,d1,d2,d3⟩:=hr.defs.ext hx rfl
  rcases hmark with rfl|⟨rfl,hm2,hm3⟩
  ·exact⟨⟨rs,d1,by simpa using d2,d3⟩,⟨[],by simp,fun r hr=>by simp at hr⟩⟩
  ·refine⟨⟨rd::rs,?_,by simp[d2],fun r hr'=>?_⟩,⟨[rd],by simp,fun r hr=>by simp at hr;subst hr;exact hm3⟩⟩
   ·refine List.nodup_cons.2 ⟨fun hmem=>?_,d1⟩
    obtain⟨rs0,e1,e2,e3⟩:=hr.defs
    have:rs0.map markOf=rs.map markOf:=e2.symm.trans d2
    have hmem':markOf rd∈rs0.map markOf:=by rw[this];exact List.mem_map.2 ⟨rd,hmem,rfl⟩
    obtain⟨q,hq,e⟩:=List.mem_map.1 hmem'
    have:q=rd:=by simp only[markOf]at e;injection e with e1 e2;injection e1
    subst this
    have:=lt_of_some (e3 q hq).1
    omega
   ·rcases List.mem_cons.1 hr' with rfl|hr'
    ·have hrlt:=lt_of_some hm2
     have hne:∀id',ρ id'≠some r:=fun id' e=>by have:=hr.mem.lt id' r e;omega
     have hrl:r≠bl:=by omega
     have hne1:∀id',ρ1 id'≠some r:=fun id' e=>by
      by_cases e':id'=id
      ·subst e';rw[hρ1]at e;cases e;omega
      ·rw[hρo id' e']at e;exact hne id' e
     have hF1:¬ F r:=fun h=>by have:=hr.mem.frz r h;omega
     have h1r:w1.heap[r]? =some (.deferred (some [])):=by rw[push_old hw1 hrlt];exact hm2
     have h3r:w3.heap[r]? =some (.deferred (some [])):=(x3.same r (lt_of_some h1r) hne1).trans h1r
     refine⟨by rw[World.putObj_heap_other hrl];exact h3r,fun id' e=>?_,fun h=>?_⟩
     ·rcases x3.im id' r e with⟨i2,e2⟩|e2
      ·exact hne1 i2 e2
      ·have:=lt_of_some h1r;omega
     ·rcases x3.more r h with e|e|⟨i2,e2⟩
      ·exact hF1 e
      ·have:=lt_of_some h1r;omega
      ·exact hne1 i2 e2
    ·exact d3 r hr'
 have hRS:RS G F3 ρ3 {S with h:=aset (asets (aset S.h id (.loop L0)) D.ws) id (.loop {l2 with st:=3})} {a with defers:=mark++a.defers} (w3.putObj bl (.loop {rr with state:=.exhausted})):=
  ⟨hr.size,fun t v h=>(hr.tmps t v h).mono hx.frz hx.keep hk,m4,hdefs.1⟩
 have hsteps':Steps P (lone (b.atR a (.code (.rangeFunc X qs ca cb)::k)) cs w) (lone (b.atR {a with defers:=mark++a.defers} ((rr.pending.map Item.code).toList++k)) cs (w3.putObj bl (.loop {rr with state:=.exhausted}))):=
  hsteps.trans (.one (stepR_endRangeFunc hend))
 have hpend:=y4.pend
 generalize (w3.putObj bl (.loop {rr with state:=.exhausted}))=wz at hRS hx hk hdefs hsteps'
 refine⟨e,_,_,⟨_,hQ,F3,ρ3,hRS,hx,hk.kp,hdefs.2⟩,?_⟩
 rw[hpend]at hsteps'
 unfold pendX at hp
 split at hp
 ·rename_i hpn
  cases hp
  rw[hpn]at hsteps'
  exact hsteps'
 ·cases hp
 ·rename_i e' hne hpe
  cases hp
  rw[hpe]at hsteps'
  cases e with
  |normal=>exact absurd rfl hne
  |exit i=>exact⟨k,rfl,by simpa[Ex.code]using hsteps'⟩
  |ret=>exact⟨k,by simpa[Ex.code]using hsteps'⟩

end
end Go.Ab

/-
 Code run by the function: sound; calls too.
-/
set_option linter.unusedVariables false
set_option linter.unusedSimpArgs false
namespace Go.Ab
open Go

section
variable {P:Program}{G:GL}{md:Md}{F:Nat→Prop}{ρ:Nat→Option Nat}{H:Nat→Option HO}{a:Act}{w w':World}{ops:Array Oper}{tb:TB}

theorem drawE_sound (htb:TBok P G tb){c0:Nat}{xs:List XO}{dep:List (List Nat)}{ord:List Nat}{s s':EvS}{es:List (Nat×Ent)}{R:Act→World→Prop}
  (hx:compXOs P ops ops.toList=some xs) (hdep:ops.toList.map depOf=dep) (hT:drawT xs dep ord=true) (he:exEntsE G tb c0 xs ord s=some (s',es)) (hH:pairsHE (ancTab dep ord []) es=true) (hr:RS G F ρ s.S a w)
  (hQ:∀a' w' F' ρ',RS G F' ρ' s'.S a' w'→Ext G F ρ w F' ρ' w'→HKeep w ρ (aget s.S.h) w' ρ' (aget s'.S.h)→a'.defers=a.defers→R a' w'):wpAnyR P ops R ops.size (Array.replicate ops.size false) a {w with drawn:=w.drawn+1}:=by
 obtain⟨k1,k2,k3,k4,_,k6⟩:=exEntsE_ok htb hx he
 simp only[drawT,Bool.and_eq_true]at hT
 obtain⟨b1,b2,b3,b4,b5⟩:=hT
 have hlen:xs.length=ops.size:=by rw[compXOs_len hx];simp
 have hd:=dep_eq (ops:=ops) hdep
 have hsame:=hr.mem.same (w':={w with drawn:=w.drawn+1}) rfl ⟨rfl,rfl,fun _=>⟨rfl,Nat.le_succ _⟩⟩
 refine(any_sound (an:=tbN (ancTab dep ord [])) (ancTab_ok hd (fun j i hi=>by simp[tbN,aget]at hi)) (fun i k hk=>?_) (n:=s.S.n) (TF:=aget s'.S.t) (HF:=aget s'.S.h) ops.size _ es F ρ (aget s.S.t) (aget s.S.h) a _ ?_ (pairs_of hd (by rw[k1];exact b5) hH k6) (by simp) (fun i=>?_) k3 (fun j hj=>?_) k4 ?_ ?_)
 ·rw[hd]at hk
  simp only[depN]at hk
  cases e:nth? dep i with
  |none=>rw[e]at hk;simp at hk
  |some l=>
   rw[e]at hk
   rw[← hlen]
   exact depB_ok b3 l (nth?_mem e) k (by simpa using hk)
 ·have hk:∀(l:List (Nat×Ent)),(keys l).length=l.length:=fun l=>by
   induction l with
   |nil=>rfl
   |cons p r ih=>obtain⟨i,e⟩:=p;simp[keys,ih]
  rw[← hk es,k1,Nat.eq_of_beq_eq_true b1,hlen]
 ·rw[k1]
  have:(Array.replicate ops.size false).getD i true=false↔i<ops.size:=by
   by_cases h:i<ops.size<;>simp[Array.getD,h]
  rw[this,← hlen]
  exact⟨allMem_ok b2 i,allLt_ok b4 i⟩
 ·exfalso
  by_cases h:j<ops.size<;>simp[Array.getD,h]at hj
 ·exact⟨hr.size,fun t v h=>(hr.tmps t v h).mono hsame.2.1.frz hsame.2.1.keep hsame.2.2,hsame.1,hr.defs.ext hsame.2.1 rfl⟩
 ·intro a' w' F' ρ' h1 h2 h3 h4
  refine hQ a' w' F' ρ' ?_ (hsame.2.1.trans h2) (hsame.2.2.trans h3) h4
  unfold RS;rw[k2];exact h1

theorem evC_sound (hcm:G.cm=cmOf P)(hmx:P.follows .mixedOrders=true)(htb:TBok P G tb){rid:Option Nat}{c0:Nat}:∀(n:Nat) (xc:XC) (s:EvS) (e:Ex) (s':EvS),evC G tb rid c0 n xc s=some (e,s')→
  WrOk c0 s.wr s'.wr (aget s.S.h) (aget s'.S.h)∧∀md:Md,md.rid=rid→WpX P G md xc s.S (fun e' S'=>e'=e∧S'=s'.S):=by
 intro n
 induction n with
 |zero=>intro xc s e s' h;simp[evC]at h
 |succ n ih=>
  intro xc s e s' h
  cases xc with
  |skip=>simp only[evC]at h;cases h;exact⟨.refl _ _ _,fun md hmd=>wpX_skip hcm ⟨rfl,rfl⟩⟩
  |exit id=>simp only[evC]at h;cases h;exact⟨.refl _ _ _,fun md hmd=>wpX_exit hcm ⟨rfl,rfl⟩⟩
  |bad=>simp[evC]at h
  |scope x=>
   simp only[evC]at h
   obtain⟨w1,p1⟩:=ih _ _ _ _ h
   exact⟨w1,fun md hmd=>wpX_scope hcm (p1 md hmd)⟩
  |ret=>simp only[evC]at h;cases h;exact⟨.refl _ _ _,fun md hmd=>wpX_ret hcm ⟨rfl,rfl⟩⟩
  |reg st xs dead=>
   simp only[evC]at h
   split at h
   ·rename_i s1 he
    cases h
    refine⟨?_,fun md hmd=>?_⟩
    ·-- what is written does not hang on the code
     exact(exOpsE_wr he:WrOk c0 s.wr s1.wr (aget s.S.h) (aget s1.S.h))
    ·intro c hcc F ρ a w ro hr hro
     obtain⟨id,ops,rfl,hx⟩:=cm_reg hcm hcc
     refine(wpR_region (R:=fun a' w'=>Aft G md F ρ (aget s.S.h) w a.defers (delS s1.S dead) a' w') (compXOs_defer hx) ?_).mono ?_
     ·rw[List.range_eq_range']
      have:=(exOpsE_sound (R:=fun a' w'=>Aft G md F ρ (aget s.S.h) w a.defers (delS s1.S dead) a' w') htb ops.toList 0 xs s s1 F ρ a w (by simp) hx he).2 hr (fun a' w' F' ρ' q1 q2 q3 q4=>⟨F',ρ',delS_rs q1,q2,q3.kp,DX.of_eq q4⟩)
      simpa using this
     ·rintro e a' w' ⟨rfl,h⟩
      exact⟨_,⟨rfl,rfl⟩,h⟩
   ·cases h
  |draw st xs dep ord dead=>
   simp only[evC,cond_eq_ite]at h
   split at h
   ·rename_i hT
    split at h
    ·rename_i s1 es he
     split at h
     ·rename_i hH
      cases h
      refine⟨(exEntsE_wr he:WrOk c0 s.wr s1.wr (aget s.S.h) (aget s1.S.h)),fun md hmd=>?_⟩
      intro c hcc F ρ a w ro hr hro
      obtain⟨id,ops,rfl,hx,hd⟩:=cm_draw hcm hcc
      refine(wpR_draw (R:=fun a' w'=>Aft G md F ρ (aget s.S.h) w a.defers (delS s1.S dead) a' w') hmx (compXOs_defer hx) (drawE_sound htb hx hd hT he hH hr fun a' w' F' ρ' q1 q2 q3 q4=>⟨F',ρ',delS_rs q1,q2,q3.kp,DX.of_eq q4⟩)).mono ?_
      rintro e a' w' ⟨rfl,h⟩
      exact⟨_,⟨rfl,rfl⟩,h⟩
     ·cases h
    ·cases h
   ·cases h
  |seq x y=>
   simp only[evC]at h
   split at h
   ·rename_i e1 s1 h1
    obtain⟨w1,p1⟩:=ih _ _ _ _ h1
    split at h
    ·obtain⟨w2,p2⟩:=ih _ _ _ _ h
     refine⟨w1.trans w2,fun md hmd=>wpX_seq hcm ((p1 md hmd).mono ?_)⟩
     rintro e' S' ⟨rfl,rfl⟩
     exact .inl ⟨rfl,p2 md hmd⟩
    ·rename_i hne
     cases h
     refine⟨w1,fun md hmd=>wpX_seq hcm ((p1 md hmd).mono ?_)⟩
     rintro e' S' ⟨rfl,rfl⟩
     exact .inr ⟨fun e=>hne e,rfl,rfl⟩
   ·cases h
  |cond o x y=>
   simp only[evC]at h
   split at h
   ·rename_i v hv
    split at h
    ·obtain⟨w1,p1⟩:=ih _ _ _ _ h
     exact⟨w1,fun md hmd=>wpX_cond hcm hv (fun _=>p1 md hmd) (fun e=>by cases e)⟩
    ·obtain⟨w1,p1⟩:=ih _ _ _ _ h
     exact⟨w1,fun md hmd=>wpX_cond hcm hv (fun e=>by cases e) (fun _=>p1 md hmd)⟩
   ·cases h
  |block id x=>
   simp only[evC]at h
   split at h
   ·rename_i e1 s1 h1
    obtain⟨w1,p1⟩:=ih _ _ _ _ h1
    split at h
    ·rename_i i
     cases h
     refine⟨w1,fun md hmd=>wpX_block hcm ((p1 md hmd).mono ?_)⟩
     rintro e' S' ⟨rfl,rfl⟩
     by_cases hi:i=id
     ·subst hi;exact .inl ⟨rfl,by rw[beq_self,cond_true],rfl⟩
     ·exact .inr ⟨fun e=>hi (by cases e;rfl),by rw[beq_ne hi,cond_false],rfl⟩
    ·rename_i hne
     cases h
     refine⟨w1,fun md hmd=>wpX_block hcm ((p1 md hmd).mono ?_)⟩
     rintro e' S' ⟨rfl,rfl⟩
     exact .inr ⟨fun e=>hne _ e,rfl,rfl⟩
   ·cases h
  |loop x=>
   simp only[evC]at h
   split at h
   ·rename_i e1 s1 h1
    obtain⟨w1,p1⟩:=ih _ _ _ _ h1
    split at h
    ·obtain⟨w2,p2⟩:=ih _ _ _ _ h
     refine⟨w1.trans w2,fun md hmd=>wpX_loop1 hcm ((p1 md hmd).mono ?_)⟩
     rintro e' S' ⟨rfl,rfl⟩
     exact .inl ⟨rfl,p2 md hmd⟩
    ·rename_i hne
     cases h
     refine⟨w1,fun md hmd=>wpX_loop1 hcm ((p1 md hmd).mono ?_)⟩
     rintro e' S' ⟨rfl,rfl⟩
     exact .inr ⟨fun e=>hne e,rfl,rfl⟩
   ·cases h
  |rangeF g ps as bd=>
   simp only[evC]at h
   split at h
   ·rename_i f a0 cp hg
    simp only[cond_eq_ite]at h
    split at h
    ·rename_i hrid
     split at h
     ·rename_i hfr
      split at h
      ·rename_i D hD
       split at h
       ·rename_i hc2
        rw[Bool.and_eq_true]at hc2
        split at h
        ·rename_i l2 hl2
         split at h
         ·rename_i e2 hp
          split at h
          ·cases h
          ·rename_i hst
           cases h
           refine⟨fun i hi hlt=>?_,fun md hmd=>?_⟩
           ·obtain⟨q1,q2⟩:=addW_ok hi hlt
            simp only[keys,List.mem_cons,not_or]at q2
            refine⟨q1,?_⟩
            simp only[aget_aset]
            rw[upd_other _ _ q2.1,asets_aset,updL_nokey q2.2,upd_other _ _ q2.1]
           ·refine wpX_rangeF hcm hg (fun l0 e0=>?_) (freshA_ok hfr _ (by simp)) (freshA_ok hc2.1) ?_ hl2 hp (fun e1=>hst (by rw[e1];rfl)) ⟨rfl,rfl⟩
            ·rw[hmd]at e0
             rw[e0]at hrid
             simp only[ridB]at hrid
             split at hrid
             ·rename_i L hL;exact⟨L,hL⟩
             ·cases hrid
            ·intro F ρ w xs hm hv
             exact callD_sound hm (fun _ _ h=>h) hD (callD_cs htb hD) (freshA_ok hc2.1) hv
         ·cases h
        ·cases h
       ·cases h
      ·cases h
     ·cases h
    ·cases h
   ·cases h

theorem stOf_ready {n:Nat}(h:Nat.beq n 0=true):stOf n=.ready:=by rw[Nat.eq_of_beq_eq_true h];rfl

theorem updL_from {look A:Nat→Option HO}:∀{ws:List (Nat×HO)} {i:Nat},(∀p,p∈ws→look p.1=some p.2)→i∈keys ws→updL A ws i=look i
 |[],i,h,hi=>by simp[keys]at hi
 |(j,o)::r,i,h,hi=>by
  simp only[updL]
  by_cases hr:i∈keys r
  ·exact updL_from (fun p hp=>h p (by simp[hp])) hr
  ·simp only[keys,List.mem_cons]at hi
   have:i=j:=hi.resolve_right hr
   subst this
   rw[updL_nokey hr,upd_same]
   exact(h (i,o) (by simp)).symm

theorem wsOf_mem {h0:List Nat}{c0:Nat}{wr:List Nat}:∀{h:List (Nat×HO)},(∀p,p∈wsOf h0 c0 wr h→p∈h)∧(∀i,i∈keys h→i∉keys (wsOf h0 c0 wr h)→i∈h0∧i<c0∧i∉wr)
 |[]=>⟨fun p hp=>by simp[wsOf]at hp,fun i hi=>by simp[keys]at hi⟩
 |(j,o)::r=>by
  obtain⟨h1,h2⟩:=wsOf_mem (h0:=h0) (c0:=c0) (wr:=wr) (h:=r)
  simp only[wsOf]
  generalize hq:(cond (memN j h0) (cond (Nat.ble c0 j) true (memN j wr)) true)=q
  cases q with
  |true=>
   rw[cond_true]
   refine⟨fun p hp=>?_,fun i hi hn=>?_⟩
   ·rcases List.mem_cons.1 hp with rfl|hp
    ·simp
    ·exact List.mem_cons_of_mem _ (h1 p hp)
   ·simp only[keys,List.mem_cons,not_or]at hi hn
    exact h2 i (hi.resolve_left hn.1) hn.2
  |false=>
   rw[cond_false]
   refine⟨fun p hp=>List.mem_cons_of_mem _ (h1 p hp),fun i hi hn=>?_⟩
   simp only[keys,List.mem_cons]at hi
   rcases hi with rfl|hi
   ·cases hm:memN i h0 with
    |false=>rw[hm]at hq;cases hq
    |true=>
     rw[hm,cond_true]at hq
     cases hb:Nat.ble c0 i with
     |true=>rw[hb]at hq;cases hq
     |false=>
      rw[hb,cond_false]at hq
      refine⟨memN_iff.1 hm,?_,fun h=>by rw[memN_iff.2 h]at hq;cases hq⟩
      exact Nat.lt_of_not_le fun h=>by rw[Nat.ble_eq_true_of_le h]at hb;cases hb
   ·exact h2 i hi hn

theorem readF_mem {look:Nat→Option HO}:∀{l:List Nat} {p:Nat×HO},p∈readF look l→look p.1=some p.2
 |[],p,h=>by simp[readF]at h
 |i::r,p,h=>by
  simp only[readF]at h
  split at h
  ·rename_i o ho
   rcases List.mem_cons.1 h with rfl|h
   ·exact ho
   ·exact readF_mem h
  ·exact readF_mem h

theorem finE_ok {h:List (Nat×HO)}{c0:Nat}{s:EvS}{vals:List AV}{D:Delta}(hD:finE (keys h) c0 s vals=some D)(hwr:WrOk c0 [] s.wr (aget h) (aget s.S.h)){F':Nat→Prop}{ρ':Nat→Option Nat}{w2:World}
  (q1:MRel G F' ρ' (aget s.S.h) w2) {xs:List Value} (hv:RelVs w2 F' ρ' (aget s.S.h) vals xs) (q3:Ext G F ρ w F' ρ' w2) (q4:HKp (keys h) w ρ (aget h) w2 ρ' (aget s.S.h)):
  D.cs=[]∧KD G F ρ (aget h) w D (unT xs) w2:=by
 unfold finE at hD
 simp only[cond_eq_ite]at hD
 split at hD
 ·rename_i hc
  rw[Bool.and_eq_true]at hc
  obtain⟨c1,c2⟩:=hc
  cases hD
  refine⟨rfl,?_⟩
  generalize hh:readF (aget s.S.h) (reachW (aget s.S.h) 1000000 (refsL vals++keys h) [])=h2 at*
  have hsub:∀id o,aget h2 id=some o→aget s.S.h id=some o:=fun id o e=>readF_get (by rw[hh];exact e)
  have hmem:∀p,p∈h2→aget s.S.h p.1=some p.2:=fun p hp=>readF_mem (by rw[hh];exact hp)
  have hks:=allIn_ok c1
  have hin:∀i,i∈keys h2→aget h2 i=aget s.S.h i∧partR h2 ρ' i=ρ' i:=fun i hi=>by
   obtain⟨o,ho⟩:=key_aget.1 hi
   exact⟨by rw[ho,hsub i o ho],by simp[partR,hi]⟩
  have heq:updL (aget h) (wsOf (keys h) c0 s.wr h2)=aget h2:=by
   funext i
   obtain⟨m1,m2⟩:=wsOf_mem (h0:=keys h) (c0:=c0) (wr:=s.wr) (h:=h2)
   by_cases hi:i∈keys (wsOf (keys h) c0 s.wr h2)
   ·rw[updL_from (look:=aget s.S.h) (fun p hp=>hmem p (m1 p hp)) hi]
    refine((hin i ?_).1).symm
    obtain⟨o,ho⟩:=key_aget.1 hi
    have:=m1 _ (aget_mem ho)
    clear ho
    revert this
    generalize h2=l
    induction l with
    |nil=>intro h;simp at h
    |cons p l ih=>
     obtain⟨j,u⟩:=p
     intro h
     simp only[keys,List.mem_cons]
     rcases List.mem_cons.1 h with e|h
     ·cases e;exact .inl rfl
     ·exact .inr (ih h)
   ·rw[updL_nokey hi]
    by_cases hi2:i∈keys h2
    ·obtain⟨_,g2,g3⟩:=m2 i hi2 hi
     rw[(hin i hi2).1,(hwr i g3 g2).2]
    ·have h1:aget h2 i=none:=by
      cases e:aget h2 i with
      |none=>rfl
      |some o=>exact absurd (key_aget.2 ⟨o,e⟩) hi2
     rw[h1]
     cases e:aget h i with
     |none=>rfl
     |some o=>exact absurd (hks i (by simp[key_aget.2 ⟨o,e⟩])) hi2
  refine⟨F',partR h2 ρ',?_,?_,?_,?_⟩
  ·simp only[heq];exact q1.part hsub c2
  ·refine⟨q3.io,q3.size,q3.same,q3.frz,q3.keep,q3.more,fun id b hb=>q3.im id b ?_⟩
   simp only[partR]at hb
   split at hb
   ·exact hb
   ·cases hb
  ·simp only[heq]
   refine⟨fun id o h1 h2=>?_,fun id k h1=>?_,q4.sz⟩
   ·have hk:id∈keys h:=key_aget.2 ⟨o,h1⟩
    obtain⟨o',g1,g2,g3⟩:=q4.box id o hk h1 h2
    obtain⟨e1,e2⟩:=hin id (hks id (by simp[hk]))
    exact⟨o',e1.trans g1,g2,e2.trans g3⟩
   ·have hk:id∈keys h:=key_aget.2 ⟨_,h1⟩
    obtain⟨k',g1,g2,g3,g4⟩:=q4.blk id k hk h1
    obtain⟨e1,e2⟩:=hin id (hks id (by simp[hk]))
    refine⟨k',e1.trans g1,g2,g3,fun e=>?_⟩
    obtain⟨p1,p2,p3,p4⟩:=g4 e
    exact⟨p1,p2,p3,e2.trans p4⟩
  ·simp only[heq]
   have:=RelVs.move (D:=fun i=>i∈keys h2) hin hv (fun i hi=>hks i (by simp[hi]))
   exact retV_rel this
 ·cases hD

end
end Go.Ab

/-
 Calls and rounds run by the function: sound.
-/
set_option linter.unusedVariables false
set_option linter.unusedSimpArgs false
namespace Go.Ab
open Go

section
variable {P:Program}{G:GL}{md:Md}{F:Nat→Prop}{ρ:Nat→Option Nat}{H:Nat→Option HO}{a:Act}{w w':World}{ops:Array Oper}{tb:TB}

def XpOk (P:Program)(xp:Nat→Option FnE):Prop:=∀f fe,xp f=some fe→∃fn c,P.funcs[f]? =some fn∧(fn.name=="runtime.NumGoroutine")=false∧fn.body=some c∧cmOf P c fe.xc∧resT P fn.results.toList=some fe.rts∧fn.ntmps=fe.n
def NatOk (P:Program)(nat:Nat→List AV→Option AV):Prop:=∀f args v,nat f args=some v→∀F ρ H w (xs:Array Value),RelVs w F ρ H args xs.toList→∃y,(callFunc f xs).run P w=.ok (.value y) w∧RelV w F ρ H v y

theorem setPs_rel:∀{ps:List Nat} {qs:List Nat} {vs:List AV} {t:List (Nat×AV)} {tmps:Array Value} {xs:List Value},RelVs w F ρ H vs xs→(∀i v,aget t i=some v→RelV w F ρ H v (tmps.getD i undef))→allLtP tmps.size ps=true→
  ∀i v,aget (setPs t ps vs) i=some v→RelV w F ρ H v (((ps.zip xs).foldl (fun(tmps:Array Value) (p:Nat×Value)=>tmps.setIfInBounds p.1 p.2) tmps).getD i undef)
 |[],qs,vs,t,tmps,xs,hv,ht,hl,i,v,h=>by
  simp only[setPs]at h
  simpa using ht i v h
 |p::ps,qs,[],t,tmps,xs,hv,ht,hl,i,v,h=>by
  cases hv
  simp only[setPs]at h
  simpa using ht i v h
 |p::ps,qs,u::vs,t,tmps,xs,hv,ht,hl,i,v,h=>by
  cases hv with
  |cons _ _ x xs hx hxs=>
   simp only[setPs]at h
   simp only[allLtP,cond_eq_ite]at hl
   split at hl
   ·rename_i hlt
    simp only[List.zip_cons_cons,List.foldl_cons]
    refine setPs_rel (qs:=qs) hxs (fun j y hy=>?_) (by simpa using hl) i v h
    rw[aget_aset]at hy
    have hlt':p<tmps.size:=Nat.le_of_ble_eq_true hlt
    by_cases e:j=p
    ·subst e
     rw[upd_same]at hy;cases hy
     rw[Array.getD_eq_getD_getElem?,Array.getElem?_setIfInBounds_self,if_pos hlt']
     exact hx
    ·rw[upd_other _ _ e]at hy
     have:=ht j y hy
     rw[Array.getD_eq_getD_getElem?]at this ⊢
     rw[Array.getElem?_setIfInBounds_ne (Ne.symm e)]
     exact this
   ·cases hl

theorem setPs_size {ps:List Nat}:∀{xs:List Value} {tmps:Array Value},((ps.zip xs).foldl (fun(tmps:Array Value) (p:Nat×Value)=>tmps.setIfInBounds p.1 p.2) tmps).size=tmps.size:=by
 intro xs tmps
 generalize ps.zip xs=l
 induction l generalizing tmps with
 |nil=>rfl
 |cons p l ih=>rw[List.foldl_cons,ih];simp

theorem round_fold {ps:Array Nat}{xs:Array Value}{tmps:Array Value}:((ps.zip xs).foldl (fun tmps (t,a)=>tmps.setIfInBounds t a) tmps)=(ps.toList.zip xs.toList).foldl (fun(tmps:Array Value) (p:Nat×Value)=>tmps.setIfInBounds p.1 p.2) tmps:=by
 rw[← Array.foldl_toList,Array.toList_zip]

theorem yld_sound (hcm:G.cm=cmOf P){id:Nat}{l:LoopS}{h:List (Nat×HO)}(hl:aget h id=some (.loop l))(hst:Nat.beq l.st 0=true){args:List AV}(hlen:Nat.beq args.length l.ps.length=true)(hps:allLtP l.n l.ps=true)
  {S1 S2:St} (h1:WpX P G ⟨some id,keys h⟩ l.as ⟨setPs l.t l.ps args,h,l.n⟩ (fun e S'=>e=.normal∧S'=S1)) {l1:LoopS} (hl1:aget S1.h id=some (.loop l1)) (hst1:Nat.beq l1.st 0=true)
  {e:Ex} (h2:WpX P G ⟨some id,keys h⟩ l.bd {S1 with h:=aset S1.h id (.loop {l1 with st:=1})} (fun e' S'=>e'=e∧S'=S2)) {l2:LoopS} (hl2:aget S2.h id=some (.loop l2))
  {D:Delta} (hfin:∀F ρ w F' ρ' w2,MRel G F ρ (aget h) w→MRel G F' ρ' (aget (aset S2.h id (.loop {l2 with st:=cond e.isN 0 2,pend:=cond e.isN none (some e)}))) w2→Ext G F ρ w F' ρ' w2→
   HKp (keys h) w ρ (aget h) w2 ρ' (aget (aset S2.h id (.loop {l2 with st:=cond e.isN 0 2,pend:=cond e.isN none (some e)})))→KD G F ρ (aget h) w D (.bool e.isN) w2):SpecD P G (.yld id) args h D.v D.ws D.al:=by
 intro F ρ w xs hm hv b hb
 obtain⟨b',z1,z2,r,z3,z4⟩:=hm.heap id _ hl
 rw[hb]at z1;cases z1
 have hargs:xs.size=r.params.size:=by
  have e1:=hv.len
  have e2:=Nat.eq_of_beq_eq_true hlen
  have e3:r.params.toList.length=l.ps.length:=by rw[z4.ps]
  simp at e1 e3
  omega
 refine .inr (.inr ⟨b,r.fn,_,r.assign,r.body,w,run_yield z3 hargs,fun c cs=>?_⟩)
 rw[round_fold,z4.ps]
 let tm:Array Value:=(l.ps.zip xs.toList).foldl (fun(tmps:Array Value) (p:Nat×Value)=>tmps.setIfInBounds p.1 p.2) r.tmps
 have htm:∀i v,aget (setPs l.t l.ps args) i=some v→RelV w F ρ (aget h) v (tm.getD i undef):=setPs_rel (qs:=[]) hv z4.tmps (by rw[z4.size];exact hps)
 let b0:Frame:={(default:Frame)with fn:=r.fn,kind:=.normal,roundOf:=some b}
 have hb0:Frame.round b r.fn tm r.assign r.body .normal=b0.atR {tmps:=tm,defers:=[]} [.code r.assign,.beginRound,.code r.body]:=by simp[Frame.round,Frame.atR,b0]
 have hr0:RS G F ρ ⟨setPs l.t l.ps args,h,l.n⟩ {tmps:=tm,defers:=[]} w:=⟨by show tm.size=l.n;rw[← z4.size];exact setPs_size,htm,hm,⟨[],by simp,rfl,fun r hr=>by simp at hr⟩⟩
 have hro0:RoOk ⟨some id,keys h⟩ ρ (aget h) (some b):=⟨b,_,rfl,hb,hl,rfl⟩
 obtain⟨e1,a1,w1,⟨S',⟨rfl,rfl⟩,F1,ρ1,r1,x1,k1,_⟩,harr⟩:=h1 r.assign z4.as F ρ _ w (some b) hr0 hro0 b0 [.beginRound,.code r.body] (c::cs) rfl
 have hks:(⟨some id,keys h⟩:Md).ks=id::keys h:=rfl
 rw[hks]at k1
 have hid1:ρ1 id=some b:=by
  obtain⟨o',g1,g2,g3⟩:=k1.box id _ (by simp) hl rfl
  exact g3.trans hb
 -- the record is busy
 obtain⟨b1,y1,y2,rr,y3,y4⟩:=r1.mem.heap id _ hl1
 rw[hid1]at y1;cases y1
 have hbr:=run_beginRound (P:=P) y3 (by rw[y4.st];exact stOf_ready hst1)
 have hlt1:=lt_of_some y3
 obtain⟨m2,x2,k2⟩:=r1.mem.write (w':=w1.putObj b (.loop {rr with state:=.busy})) (o':=.loop {l1 with st:=1}) hl1 hid1 y2 (World.putObj_heap_same hlt1) (fun j hj=>World.putObj_heap_other hj) World.putObj_size ⟨rfl,rfl,fun _=>⟨rfl,Nat.le_refl _⟩⟩
  (fun cs ty fz h=>by rw[y3]at h;cases h) rfl (fun k h=>by cases h)
  (fun hk=>⟨b,hid1,y2,_,World.putObj_heap_same hlt1,⟨rfl,y4.pend,y4.size,fun t v h=>(y4.tmps t v h).mono (fun b' hb'=>World.putObj_heap_other (fun(e:b'=b)=>y2 (by rw[← e];exact hb'))) (fun _ h=>h) hk,y4.ps,y4.as,y4.bd⟩⟩)
 rw[← aget_aset]at m2 k2
 have r2:RS G F1 ρ1 {S' with h:=aset S'.h id (.loop {l1 with st:=1})} a1 (w1.putObj b (.loop {rr with state:=.busy})):=⟨r1.size,fun t v h=>(r1.tmps t v h).mono x2.frz x2.keep k2,m2,r1.defs.ext x2 rfl⟩
 have hro2:RoOk ⟨some id,keys h⟩ ρ1 (aget (aset S'.h id (.loop {l1 with st:=1}))) (some b):=⟨b,.loop {l1 with st:=1},rfl,hid1,by rw[aget_aset,upd_same],rfl⟩
 have s1:Steps P (lone (b0.atR a1 [.beginRound,.code r.body]) (c::cs) w1) (lone (b0.atR a1 [.code r.body]) (c::cs) (w1.putObj b (.loop {rr with state:=.busy}))):=.one (stepR_beginRound rfl hbr)
 obtain⟨e2,a2,w3,⟨S'',⟨rfl,rfl⟩,F3,ρ3,r3,x3,k3,_⟩,harr2⟩:=h2 r.body z4.bd F1 ρ1 _ _ (some b) r2 hro2 b0 [] (c::cs) rfl
 rw[hks]at k3
 have hid3:ρ3 id=some b:=by
  obtain⟨o',g1,g2,g3⟩:=k3.box id (.loop {l1 with st:=1}) (by simp) (by simp only;rw[aget_aset,upd_same]) rfl
  exact g3.trans hid1
 obtain⟨b3,u1,u2,rq,u3,u4⟩:=r3.mem.heap id _ hl2
 rw[hid3]at u1;cases u1
 have hlt3:=lt_of_some u3
 -- how the round is left
 let jump:Option Code:=cond e2.isN none (some e2.code)
 have hend:=run_endRound (P:=P) jump u3
 have hjn:jump.isNone=e2.isN:=by cases e2<;>rfl
 rw[hjn]at hend
 obtain⟨m4,x4,k4⟩:=r3.mem.write (w':=w3.putObj b (.loop {rq with state:=if e2.isN then .ready else .done,pending:=jump})) (o':=.loop {l2 with st:=cond e2.isN 0 2,pend:=cond e2.isN none (some e2)}) hl2 hid3 u2 (World.putObj_heap_same hlt3) (fun j hj=>World.putObj_heap_other hj) World.putObj_size ⟨rfl,rfl,fun _=>⟨rfl,Nat.le_refl _⟩⟩
  (fun cs ty fz h=>by rw[u3]at h;cases h) rfl (fun k h=>by cases h)
  (fun hk=>⟨b,hid3,u2,_,World.putObj_heap_same hlt3,⟨by cases e2<;>rfl,by cases e2<;>rfl,u4.size,fun t v h=>(u4.tmps t v h).mono (fun b' hb'=>World.putObj_heap_other (fun(e:b'=b)=>u2 (by rw[← e];exact hb'))) (fun _ h=>h) hk,u4.ps,u4.as,u4.bd⟩⟩)
 rw[← aget_aset]at m4 k4
 have hkp:HKp (keys h) w ρ (aget h) (w3.putObj b (.loop {rq with state:=if e2.isN then .ready else .done,pending:=jump})) ρ3 (aget (aset S''.h id (.loop {l2 with st:=cond e2.isN 0 2,pend:=cond e2.isN none (some e2)}))):=by
  have sub:∀{w w':World} {ρ ρ':Nat→Option Nat} {h1 h2:Nat→Option HO},HKp (id::keys h) w ρ h1 w' ρ' h2→HKp (keys h) w ρ h1 w' ρ' h2:=fun k=>⟨fun i o hi=>k.box i o (by simp[hi]),fun i o hi=>k.blk i o (by simp[hi]),k.sz⟩
  exact(((sub k1).trans k2.kp).trans (sub k3)).trans k4.kp
 have hK:=hfin F ρ w F3 ρ3 _ hm m4 (((x1.trans x2).trans x3).trans x4) hkp
 refine⟨.bool e2.isN,_,hK,?_⟩
 have hfirst:Steps P (lone (Frame.round b r.fn tm r.assign r.body .normal) (c::cs) w) (lone (b0.atR a1 [.code r.body]) (c::cs) (w1.putObj b (.loop {rr with state:=.busy}))):=by
  rw[hb0];exact Steps.trans harr s1
 cases e2 with
 |normal=>exact hfirst.trans (Steps.trans harr2 (.one (stepR_round_end rfl rfl hend)))
 |ret=>
  obtain⟨todo,hs⟩:=harr2
  exact hfirst.trans (hs.trans (.one (stepR_round_ret rfl rfl hend)))
 |exit i=>
  obtain⟨k0,hk0,hs⟩:=harr2
  exact hfirst.trans (hs.trans (.one (stepR_round_exit rfl rfl (by rw[hk0];rfl) hend)))

theorem finE_cs {h0:List Nat}{c0:Nat}{s:EvS}{vals:List AV}{D:Delta}(hD:finE h0 c0 s vals=some D):D.cs=[]:=by
 unfold finE at hD
 simp only[cond_eq_ite]at hD
 split at hD
 ·cases hD;rfl
 ·cases hD

end
end Go.Ab

/-
 Functions that are known: what a program's functions compile to.
-/
set_option linter.unusedVariables false
set_option linter.unusedSimpArgs false
namespace Go.Ab
open Go

def chkF (P:Program)(hs:Hints)(fn:Func):Option FnE:=
 match fn.body with
 |some c=>match compC P hs c,resT P fn.results.toList with
  |some xc,some rts=>cond (fn.name=="runtime.NumGoroutine") none (some ⟨fn.ntmps,rts,xc⟩)
  |_,_=>none
 |none=>none
def FnOk (P:Program)(f:Nat)(fe:FnE):Prop:=∃fn c,P.funcs[f]? =some fn∧(fn.name=="runtime.NumGoroutine")=false∧fn.body=some c∧cmOf P c fe.xc∧resT P fn.results.toList=some fe.rts∧fn.ntmps=fe.n
theorem fnOk_of {P:Program}{f:Nat}{fn:Func}{hs:Hints}{fe:FnE}(h1:P.funcs[f]? =some fn)(h2:chkF P hs fn=some fe):FnOk P f fe:=by
 unfold chkF at h2
 split at h2
 ·rename_i c hc
  split at h2
  ·rename_i xc rts hx hr
   rw[cond_eq_ite]at h2
   split at h2
   ·cases h2
   ·rename_i hn
    cases h2
    exact⟨fn,c,h1,by simpa using hn,hc,⟨hs,hx⟩,hr,rfl⟩
  ·cases h2
 ·cases h2
def AllF (P:Program):List (Nat×FnE)→Prop
 |[]=>True
 |(f,fe)::r=>FnOk P f fe∧AllF P r
theorem xpOk_of {P:Program}:∀{l:List (Nat×FnE)},AllF P l→XpOk P (aget l)
 |[],h,f,fe,hf=>by cases hf
 |(g,fe)::r,h,f,fe',hf=>by
  simp only[aget]at hf
  by_cases e:g=f
  ·subst e;rw[beq_self,cond_true]at hf;cases hf;exact h.1
  ·rw[beq_ne e,cond_false]at hf;exact xpOk_of h.2 f fe' hf

end Go.Ab

/-
 Contracts by a table: what a call's condition names comes from the table.
-/
set_option linter.unusedVariables false
set_option linter.unusedSimpArgs false
namespace Go.Ab
open Go

structure Ct where
 v:AV
 bs:List Blk
 p:Option Prop
structure Cx where
 v:AV
 ws:List (Nat×HO)
 p:Option Prop
structure Tab where
 ct:Nat→List AV→Option Ct
 ch:List (Nat×HO)→AV→List AV→Option Cx
def optP:Option Prop→Prop
 |some p=>p
 |none=>True
structure TabOk (P:Program)(G:GL)(T:Tab):Prop where
 ct:∀f args r,T.ct f args=some r→optP r.p→SpecP P G f args r.v r.bs
 ch:∀h cv args r,T.ch h cv args=some r→optP r.p→SpecD P G cv args h r.v r.ws []

def Tab.ctP (T:Tab)(f:Nat)(args:List AV):Option (AV×List Blk):=
 match T.ct f args with
 |some r=>some (r.v,r.bs)
 |none=>none
def Tab.chP (T:Tab)(_:Nat)(h:List (Nat×HO))(cv:AV)(args:List AV):Option Delta:=
 match T.ch h cv args with
 |some r=>some {v:=r.v,ws:=r.ws,al:=[],cs:=[]}
 |none=>none

inductive Dr where
 |plain
 |wrap
 |val (l:List AV)
 |pk (b:Bool)
 |heap
def drD (T:Tab):Dr→Dir
 |.plain=>.ctr T.ctP
 |.wrap=>.wrap
 |.val l=>.val l
 |.pk b=>.pk b
 |.heap=>.tab false T.chP
def drsD (T:Tab):List (Nat×(GDir×Dr))→Dirs
 |[]=>[(0,(.auto,.ctr T.ctP))]
 |(s,(g,d))::r=>(s,(g,drD T d))::drsD T r

theorem drs_of (T:Tab)(s:Nat):∀(l:List (Nat×(GDir×Dr))),∃d,(dirOf (drsD T l) s).2=drD T d:=by
 have key:∀(k:Nat) (l:List (Nat×(GDir×Dr))) (x:GDir×Dir),aget (drsD T l) k=some x→∃d,x.2=drD T d:=by
  intro k l
  induction l with
  |nil=>
   intro x h
   simp only[drsD,aget,cond_eq_ite]at h
   split at h
   ·cases h;exact⟨.plain,rfl⟩
   ·cases h
  |cons p r ih=>
   obtain⟨s',g,d⟩:=p
   intro x h
   simp only[drsD,aget,cond_eq_ite]at h
   split at h
   ·cases h;exact⟨d,rfl⟩
   ·exact ih x h
 intro l
 unfold dirOf
 split
 ·rename_i x hx;exact key _ _ _ hx
 ·cases h:aget (drsD T l) 0 with
  |none=>
   exfalso
   induction l with
   |nil=>simp[drsD,aget,cond_eq_ite]at h
   |cons p r ih=>
    obtain⟨s',g,d⟩:=p
    simp only[drsD,aget,cond_eq_ite]at h
    split at h
    ·cases h
    ·refine ih ?_ h
     rename_i hs _
     simp only[drsD,aget,cond_eq_ite]at hs
     split at hs
     ·cases hs
     ·exact hs
  |some x=>exact key _ _ _ h

def CF (T:Tab):Cd→Prop
 |.call f args v bs=>∃r,T.ct f args=some r∧v=r.v∧bs=r.bs
 |.callD cv args h v ws al=>∃r,T.ch h cv args=some r∧v=r.v∧ws=r.ws∧al=[]
 |.ge _ _ c=>CF T c
 |_=>True

section
variable {T:Tab}

theorem cf_nil:∀c∈([]:List Cd),CF T c:=fun c h=>by simp at h
theorem cf_app {a b:List Cd}(h:∀c∈a,CF T c)(k:∀c∈b,CF T c):∀c∈a++b,CF T c:=fun c hc=>by
 rcases List.mem_append.1 hc with h'|h'
 ·exact h c h'
 ·exact k c h'
theorem cf_cons {a:Cd}{b:List Cd}(h:CF T a)(k:∀c∈b,CF T c):∀c∈a::b,CF T c:=fun c hc=>by
 rcases List.mem_cons.1 hc with rfl|h'
 ·exact h
 ·exact k c h'

theorem frz_cf {look:Nat→Option HO}:∀n,(∀v r,frzV look n v=some r→∀c∈r.2.2,CF T c)∧(∀l r,frzL look n l=some r→∀c∈r.2.2,CF T c)∧(∀k r,frzC look n k=some r→∀c∈r.2.2,CF T c):=by
 intro n
 induction n with
 |zero=>exact⟨fun v r h=>(by cases h),fun v r h=>(by cases h),fun v r h=>(by cases h)⟩
 |succ n ih=>
  obtain⟨i1,i2,i3⟩:=ih
  refine⟨fun v r h=>?_,fun l r h=>?_,fun k r h=>?_⟩
  ·cases v with
   |ptr id off=>
    simp only[frzV]at h
    split at h
    ·split at h
     ·rename_i hc;cases h;exact i3 _ _ hc
     ·cases h
    ·cases h
   |ep id m off=>
    simp only[frzV]at h
    split at h
    ·split at h
     ·rename_i hc;cases h;exact cf_cons trivial (i3 _ _ hc)
     ·cases h
    ·cases h
   |full id len=>
    simp only[frzV]at h
    split at h
    ·split at h
     ·rename_i hc;cases h;exact cf_cons trivial (i3 _ _ hc)
     ·cases h
    ·cases h
   |sl id off len cap=>
    simp only[frzV]at h
    split at h
    ·split at h
     ·rename_i hc;cases h;exact cf_cons trivial (i3 _ _ hc)
     ·cases h
    ·cases h
   |fullc id len cap=>
    simp only[frzV]at h
    split at h
    ·split at h
     ·rename_i hc;cases h;exact cf_cons trivial (i3 _ _ hc)
     ·cases h
    ·cases h
   |fn f a b=>
    simp only[frzV]at h
    split at h
    ·rename_i h1 h2;cases h;exact cf_app (i2 _ _ h1) (i2 _ _ h2)
    ·cases h
   |agg l=>
    simp only[frzV]at h
    split at h
    ·rename_i h1;cases h;exact i2 _ _ h1
    ·cases h
   |tup l=>
    simp only[frzV]at h
    split at h
    ·rename_i h1;cases h;exact i2 _ _ h1
    ·cases h
   |iface t x=>
    simp only[frzV]at h
    split at h
    ·rename_i h1;cases h;exact fun c hc=>i1 _ _ h1 c hc
    ·cases h
   |vw id m sz off len=>
    simp only[frzV]at h
    split at h
    ·split at h
     ·rename_i hc
      rw[cond_eq_ite]at h
      split at h
      ·cases h;exact cf_cons trivial (i3 _ _ hc)
      ·cases h
     ·cases h
    ·cases h
   |may _ _=>cases h
   |yld _=>cases h
   |spare _=>cases h
   |mp _=>cases h
   |undef=>cases h
   |_=>cases h;exact cf_nil
  ·cases l with
   |nil=>cases h;exact cf_nil
   |cons v t=>
    simp only[frzL]at h
    split at h
    ·rename_i h1 h2;cases h;exact cf_app (i1 _ _ h1) (i2 _ _ h2)
    ·cases h
  ·cases k with
   |cells l=>
    simp only[frzC]at h
    split at h
    ·rename_i h1;cases h;exact i2 _ _ h1
    ·cases h
   |_=>cases h;exact cf_nil

theorem frzV_cf {look:Nat→Option HO}{n:Nat}{v:AV}{x ids cs}(h:frzV look n v=some (x,ids,cs)):∀c∈cs,CF T c:=(frz_cf n).1 _ _ h
theorem frzL_cf {look:Nat→Option HO}{n:Nat}{v:List AV}{x ids cs}(h:frzL look n v=some (x,ids,cs)):∀c∈cs,CF T c:=(frz_cf n).2.1 _ _ h
theorem frzC_cf {look:Nat→Option HO}{n:Nat}{v:Cont}{x ids cs}(h:frzC look n v=some (x,ids,cs)):∀c∈cs,CF T c:=(frz_cf n).2.2 _ _ h

theorem srcOf_cf {look:Nat→Option HO}{sz:Nat}{v:AV}{x m cs}(h:srcOf look sz v=some (x,m,cs)):∀c∈cs,CF T c:=by
 unfold srcOf at h
 split at h
 ·cases h;exact cf_cons trivial cf_nil
 ·split at h
  ·rw[cond_eq_ite]at h
   split at h
   ·cases h;exact cf_cons trivial cf_nil
   ·cases h
  ·cases h
 ·split at h
  ·rw[cond_eq_ite]at h
   split at h
   ·cases h;exact cf_cons trivial cf_nil
   ·cases h
  ·cases h
 ·split at h
  ·rw[cond_eq_ite]at h
   split at h
   ·cases h;exact cf_cons trivial cf_nil
   ·cases h
  ·cases h
 ·cases h

theorem getAll_cf {l:List AV}:∀{vs:List AV} {i:Nat},∀c∈getAll l i vs,CF T c
 |[],i=>cf_nil
 |v::r,i=>cf_cons trivial getAll_cf

theorem intRes_cf {d:Dir}{k:IntKind}{n:Int}{cs:List Cd}{D:Delta}(h:intRes d k n cs=some D)(hc:∀c∈cs,CF T c):∀c∈D.cs,CF T c:=by
 unfold intRes at h
 split at h
 ·cases h;exact hc
 ·cases h;exact hc
 ·cases h;exact cf_cons trivial hc

theorem bin_cf {d:Dir}{op:BinOp}{x y:AV}{D:Delta}(h:opBin d op x y=some D):∀c∈D.cs,CF T c:=by
 unfold opBin at h
 split at h
 ·split at h
  ·exact intRes_cf h (cf_cons trivial cf_nil)
  ·cases h;exact cf_cons trivial cf_nil
  ·rw[cond_eq_ite]at h
   split at h
   ·unfold binI at h
    split at h<;>first
     |(exact intRes_cf h cf_nil)
     |(exact intRes_cf h (cf_cons trivial cf_nil))
     |(cases h;done)
     |(cases h;first|exact cf_nil|exact cf_cons trivial cf_nil)
   ·cases h
 ·unfold binS at h
  split at h<;>first|(cases h;done)|(cases h;first|exact cf_nil|exact cf_cons trivial cf_nil)
 ·cases h

theorem slice_cf {look:Nat→Option HO}{d:Dir}{sz:Nat}{lo hi mx:Bool}{x:AV}{bs:List AV}{D:Delta}(h:opSlice look d sz lo hi mx x bs=some D):∀c∈D.cs,CF T c:=by
 have win:∀{id off len cap sz:Nat} {lo hi mx:Bool} {bs:List AV} {D:Delta},opWin id off len cap sz lo hi mx bs=some D→∀c∈D.cs,CF T c:=by
  intro id off len cap sz lo hi mx bs D h
  unfold opWin at h
  repeat' split at h
  all_goals first|(cases h;done)|(cases h;first|exact cf_nil|(repeat' (first|exact cf_nil|exact trivial|apply cf_cons)))
 unfold opSlice at h
 split at h
 ·exact win h
 ·split at h
  ·rename_i hz
   have hc:=frzV_cf (T:=T) hz
   repeat' split at h
   all_goals first|(cases h;done)|(cases h;apply cf_app hc;(repeat' (first|exact cf_nil|exact trivial|apply cf_cons)))
  ·rename_i hz
   have hc:=frzV_cf (T:=T) hz
   repeat' split at h
   all_goals first|(cases h;done)|(cases h;apply cf_app hc;(repeat' (first|exact cf_nil|exact trivial|apply cf_cons)))
  ·cases h

theorem sliceS_cf {look:Nat→Option HO}{d:Dir}{sz:Nat}{lo hi mx:Bool}{x:AV}{bs:List AV}{D:Delta}(h:opSliceS look d sz lo hi mx x bs=some D):∀c∈D.cs,CF T c:=by
 have vw1:∀{id n:Nat} {D:Delta},opView look sz id n lo hi mx bs=some D→∀c∈D.cs,CF T c:=by
  intro id n D h
  unfold opView at h
  simp only[cond_eq_ite]at h
  repeat' split at h
  all_goals first|(cases h;done)|(cases h;(repeat' (first|exact cf_nil|exact trivial|apply cf_cons)))
 have vw2:∀{id n s off len:Nat} {D:Delta},opView2 look sz id n s off len lo hi mx bs=some D→∀c∈D.cs,CF T c:=by
  intro id n s off len D h
  unfold opView2 at h
  simp only[cond_eq_ite]at h
  repeat' split at h
  all_goals first|(cases h;done)|(cases h;(repeat' (first|exact cf_nil|exact trivial|apply cf_cons)))
 have vwT:∀{id n:Nat} {D:Delta},opViewT look sz id n lo hi mx bs=some D→∀c∈D.cs,CF T c:=by
  intro id n D h
  unfold opViewT at h
  simp only[cond_eq_ite]at h
  repeat' split at h
  all_goals first|(cases h;done)|(cases h;(repeat' (first|exact cf_nil|exact trivial|apply cf_cons)))
 have kp:∀{id len:Nat} {D:Delta},opKeep look id len lo hi mx bs=some D→∀c∈D.cs,CF T c:=by
  intro id len D h
  unfold opKeep at h
  simp only[cond_eq_ite]at h
  repeat' split at h
  all_goals first|(cases h;done)|(cases h;(repeat' (first|exact cf_nil|exact trivial|apply cf_cons)))
 unfold opSliceS at h
 repeat' split at h
 all_goals first
  |(cases h;done)
  |exact slice_cf h
  |exact vw1 h
  |(rename_i hv;cases h;first|exact vw1 hv|exact vw2 hv|exact vwT hv|exact kp hv)
  |(cases h;(repeat' (first|exact cf_nil|exact trivial|apply cf_cons)))

theorem apCs_cf {d:Dir}{cap:Option Nat}{n:Nat}:∀c∈apCs d cap n,CF T c:=by
 unfold apCs
 split
 ·split
  ·exact cf_cons trivial cf_nil
  ·exact cf_nil
 ·exact cf_nil
theorem append_cf {site:Nat}{look:Nat→Option HO}{d:Dir}{sz b_ ty:Nat}{x y:AV}{D:Delta}(h:opAppend site look d sz b_ ty x y=some D):∀c∈D.cs,CF T c:=by
 unfold opAppend at h
 split at h
 ·rename_i hs
  have h1:=srcOf_cf (T:=T) hs
  split at h
  ·rename_i hz
   have h2:=frzC_cf (T:=T) hz
   simp only[cond_eq_ite]at h
   repeat' split at h
   all_goals first
    |(cases h;done)
    |(cases h;(repeat' (first|exact cf_app h1 h2|exact cf_app apCs_cf (cf_app h1 h2)|exact trivial|apply cf_cons)))
  ·cases h
 ·cases h

theorem call_cf {site:Nat}{look:Nat→Option HO}{dr:Dr}{f:Nat}{vs:List AV}{D:Delta}(h:opCall site look (drD T dr) f vs=some D):∀c∈D.cs,CF T c:=by
 unfold opCall at h
 split at h
 ·rename_i ct hd
  have hct:ct=T.ctP:=by cases dr<;>first|(cases hd;rfl)|cases hd
  subst hct
  split at h
  ·rename_i hz
   have h1:=frzL_cf (T:=T) hz
   split at h
   ·rename_i v hs hv
    cases h
    refine cf_app h1 (cf_cons ?_ cf_nil)
    unfold Tab.ctP at hv
    split at hv
    ·rename_i r hr
     cases hv
     exact⟨r,hr,rfl,rfl⟩
    ·cases hv
   ·cases h
  ·cases h
 ·rename_i hd
  cases dr<;>cases hd
 ·rename_i tb hd
  have htb:tb=T.chP:=by cases dr<;>first|(cases hd;rfl)|cases hd
  subst htb
  unfold opCallD at h
  simp only[cond_eq_ite]at h
  repeat' split at h
  all_goals first
   |(cases h;done)
   |skip
  rename_i D' hD' _
  cases h
  unfold Tab.chP at hD'
  split at hD'
  ·rename_i r hr
   cases hD'
   exact cf_cons ⟨r,hr,rfl,rfl,rfl⟩ cf_nil
  ·cases hD'
 ·cases h

theorem callD_cf {site:Nat}{look:Nat→Option HO}{cv:AV}{vs:List AV}{D:Delta}(h:opCallD site look T.chP cv vs=some D):∀c∈D.cs,CF T c:=by
 unfold opCallD at h
 simp only[cond_eq_ite]at h
 repeat' split at h
 all_goals first
  |(cases h;done)
  |skip
 rename_i D' hD' _
 cases h
 unfold Tab.chP at hD'
 split at hD'
 ·rename_i r hr
  cases hD'
  exact cf_cons ⟨r,hr,rfl,rfl,rfl⟩ cf_nil
 ·cases hD'

theorem execD_cf {site:Nat}{look:Nat→Option HO}{op:XOp}{dr:Dr}{vs:List AV}{D:Delta}(h:execD site look op (drD T dr) vs=some D):∀c∈D.cs,CF T c:=by
 have key:∀{look:Nat→Option HO} {d:Dir} {c:Cont} {off:Nat} {agg:Option Nat} {D:Delta},loadC d c off agg=some D→∀c∈D.cs,CF T c:=by
  intro look d c off agg D h
  unfold loadC at h
  split at h
  ·unfold loadV at h
   simp only[cond_eq_ite]at h
   repeat' split at h
   all_goals first
    |(cases h;done)
    |(cases h;first|exact cf_cons trivial cf_nil|exact getAll_cf)
  ·split at h<;>(cases h;exact cf_cons trivial cf_nil)
 cases op with
 |bin op x y=>exact bin_cf h
 |slice sz x lo hi mx=>exact sliceS_cf h
 |append sz b_ ty x y=>exact append_cf h
 |call f as=>exact call_cf h
 |callv x as=>
  simp only[execD,opCallv]at h
  split at h
  ·exact call_cf h
  ·split at h
   ·rename_i tb hd
    have htb:tb=T.chP:=by cases dr<;>first|(cases hd;rfl)|cases hd
    subst htb
    exact callD_cf h
   ·cases h
  ·cases h
 |load agg a=>
  simp only[execD,opLoad]at h
  repeat' split at h
  all_goals first
   |(cases h;done)
   |exact key (look:=look) h
   |skip
  rename_i r hr
  cases h
  exact cf_cons trivial (key (look:=look) hr)
 |un op x=>
  simp only[execD,opUn]at h
  split at h
  ·exact intRes_cf h cf_nil
  ·cases h;exact cf_nil
  ·cases h
 |conv k x=>
  simp only[execD,opConv]at h
  split at h
  ·exact intRes_cf h cf_nil
  ·cases h
 |slicea n sz x lo hi mx=>
  simp only[execD,opSlicea,opWin]at h
  simp only[cond_eq_ite]at h
  repeat' split at h
  all_goals first|(cases h;done)|(cases h;first|exact cf_nil|(repeat' (first|exact cf_nil|exact trivial|apply cf_cons)))
 |bstr x=>
  simp only[execD,opBstr]at h
  split at h
  ·cases h;exact cf_nil
  ·split at h
   ·rename_i hs
    rw[cond_eq_ite]at h
    split at h
    ·cases h;exact srcOf_cf hs
    ·cases h
   ·cases h
 |rstr x=>
  simp only[execD,opRstr]at h
  split at h
  ·cases h;exact cf_nil
  ·cases h
 |copy sz x y=>
  simp only[execD,opCopy2]at h
  split at h
  ·rename_i D hS
   cases h
   unfold opCopyS at hS
   split at hS
   ·split at hS
    ·rename_i hs hk
     split at hS
     ·rw[cond_eq_ite]at hS
      split at hS
      ·cases hS
       exact cf_cons trivial (cf_cons trivial (cf_cons trivial (srcOf_cf hs)))
      ·cases hS
     ·cases hS
    ·cases hS
   ·cases hS
  ·unfold opCopy at h
   split at h
   ·rename_i hs
    split at h
    ·rename_i hz
     split at h
     ·split at h
      ·rw[cond_eq_ite]at h
       split at h
       ·split at h
        ·cases h
         exact cf_cons trivial (cf_cons trivial (cf_app (srcOf_cf hs) (frzC_cf hz)))
        ·cases h
       ·cases h
      ·cases h
     ·cases h
    ·cases h
   ·cases h
 |store sz x y=>
  have k1:∀{a v:AV} {D:Delta},opStore look sz a v=some D→∀c∈D.cs,CF T c:=by
   intro a v D h
   simp only[opStore,cond_eq_ite]at h
   repeat' split at h
   all_goals first
    |(cases h;done)
    |(cases h;first|exact cf_nil|(repeat' (first|exact cf_nil|exact trivial|apply cf_cons)))
  simp only[execD,opStoreS]at h
  split at h
  ·rename_i D0 h0
   cases h;exact k1 h0
  ·unfold opStoreF at h
   split at h
   ·split at h
    ·split at h
     ·rename_i hz
      rw[cond_eq_ite]at h
      split at h
      ·split at h
       ·cases h;exact cf_cons trivial (cf_cons trivial (frzV_cf hz))
       ·cases h
      ·cases h
     ·cases h
    ·cases h
   ·cases h
 |eqa neq n ls x y=>
  simp only[execD,opEqa,cond_eq_ite]at h
  repeat' split at h
  all_goals first|(cases h;done)|(cases h;exact cf_nil)
 |_=>
  simp only[execD,opPickD,opPick,opNew,opStore,opEqb,opIsnil,opFieldA,opField,opIdxA,opIdxD,opIdx,opIdxs,opSlices,opLens,opLen,opCap,opBuild,opBuildS,opMks,opExt,opNilck,opRng,opNxt,opGrowz,opMkmap,opMlook,opMput,opMdel,opMlen,opSbyt,opClear,Delta.val,cond_eq_ite]at h
  repeat' split at h
  all_goals first
   |(cases h;done)
   |(cases h;first|exact cf_nil|(repeat' (first|exact cf_nil|exact trivial|apply cf_cons)))

theorem stripC_cf:∀{rt:List (Nat×AV)} {cs:List Cd},(∀c∈cs,CF T c)→∀c∈stripC rt cs,CF T c
 |[],cs,h=>h
 |(_,v)::r,cs,h=>by
  simp only[stripC]
  unfold stripB
  split
  ·exact cf_cons trivial (stripC_cf h)
  ·exact stripC_cf h
theorem geC_cf {b want:Bool}:∀{cs:List Cd},(∀c∈cs,CF T c)→∀c∈geC b want cs,CF T c
 |[],h=>cf_nil
 |x::r,h=>cf_cons (h x (by simp)) (geC_cf fun c hc=>h c (by simp[hc]))

theorem runU_cf {G:GL}{site:Nat}{look:Nat→Option HO}{op:XOp}{dr:Dr}{rt:List (Nat×AV)}{D:Delta}(h:runU G site look op (drD T dr) rt=some D):∀c∈D.cs,CF T c:=by
 unfold runU at h
 split at h
 ·exact execD_cf h
 ·split at h
  ·rename_i D' hD'
   cases h
   exact stripC_cf (execD_cf hD')
  ·cases h
theorem runG_cf {G:GL}{site:Nat}{look:Nat→Option HO}{x:XO}{g:GDir}{dr:Dr}{gv:Option AV}{rt:List (Nat×AV)}{D:Delta}(h:runG G site look x g (drD T dr) gv rt=some D):∀c∈D.cs,CF T c:=by
 unfold runG at h
 split at h
 ·exact runU_cf h
 ·split at h
  ·split at h
   ·rw[cond_eq_ite]at h
    split at h
    ·exact runU_cf h
    ·cases h;exact cf_nil
   ·split at h
    ·rename_i hD;cases h;exact cf_cons trivial (runU_cf hD)
    ·cases h
   ·split at h
    ·rename_i hD;cases h;exact cf_cons trivial (runU_cf hD)
    ·cases h
   ·cases h;exact cf_cons trivial cf_nil
   ·split at h
    ·rename_i hD
     split at h
     ·cases h;exact geC_cf (runU_cf hD)
     ·cases h
    ·cases h
  ·cases h

theorem exOps_cf {G:GL}{ds:List (Nat×(GDir×Dr))}:∀{xs:List XO} {s:Nat} {S S':St} {cs:List Cd},exOps G (drsD T ds) xs s S=some (S',cs)→∀c∈cs,CF T c
 |[],s,S,S',cs,h=>by cases h;exact cf_nil
 |x::r,s,S,S',cs,h=>by
  simp only[exOps]at h
  split at h
  ·rename_i D hD
   rw[cond_eq_ite]at h
   split at h
   ·split at h
    ·rename_i hr
     cases h
     obtain⟨d,hd⟩:=drs_of T s ds
     rw[hd]at hD
     exact cf_app (runG_cf hD) (exOps_cf hr)
    ·cases h
   ·cases h
  ·cases h
theorem exEnts_cf {G:GL}{ds:List (Nat×(GDir×Dr))}{xs:List XO}{s:Nat}:∀{ord:List Nat} {S S':St} {es:List (Nat×Ent)} {cs:List Cd},exEnts G (drsD T ds) xs s ord S=some (S',es,cs)→∀c∈cs,CF T c
 |[],S,S',es,cs,h=>by cases h;exact cf_nil
 |i::r,S,S',es,cs,h=>by
  simp only[exEnts]at h
  split at h
  ·rename_i x hx
   split at h
   ·rename_i e he
    split at h
    ·rename_i hr
     cases h
     refine cf_app ?_ (exEnts_cf hr)
     simp only[mkEnt]at he
     split at he
     ·rename_i D hD
      rw[cond_eq_ite]at he
      split at he
      ·cases he
       obtain⟨d,hd⟩:=drs_of T (s+i) ds
       rw[hd]at hD
       exact runG_cf hD
      ·cases he
     ·cases he
    ·cases h
   ·cases h
  ·cases h
end
end Go.Ab

/-
 Code, executed abstractly along a plan: a tree of outcomes. Loops by an invariant over a family of states, joins, ranges over functions; contracts by a table.
-/
set_option linter.unusedVariables false
set_option linter.unusedSimpArgs false
namespace Go.Ab
open Go

structure LpS (β:Type) where
 ov:β→List (Nat×AV)
 bk:β→List (Nat×HO)
 rd:St→Option β
 pre:β→Prop
 mu:β→Nat

inductive Pn:Type 1 where
 |nil
 |r (ds:List (Nat×(GDir×Dr))) (m:Nat) (p:Pn)
 |rs (i:Nat) (ds:List (Nat×(GDir×Dr))) (m t:Nat) (p q:Pn)
 |nl (i:Nat) (ds:List (Nat×(GDir×Dr))) (m t:Nat) (p q:Pn)
 |frz (t m:Nat) (p:Pn)
 |gc (i:Nat) (p:Pn)
 |cap (t:Nat) (p:Nat→Pn)
 |gho (t id sz:Nat) (c:Cont) (p:Pn)
 |ghc (b off id sz:Nat) (c:Cont) (p:Pn)
 |ren (σ:List (Nat×Nat)) (S:St) (p:Pn)
 |br (b:Bool) (p q:Pn)
 |ass (f:Prop) (p:Pn)
 |tt (p:Pn)
 |ff (p:Pn)
 |cnd (p q:Pn)
 |lit (p:Pn)
 |un (p:Pn)
 |lp {β:Type} (L:LpS β) (dl db:List Nat) (body:β→Pn)
 |jn {β:Type} (L:LpS β) (dl db:List Nat) (p:Pn) (q:β→Pn)
 |rf (id m:Nat) (p:Pn)

inductive Tr:Type 1 where
 |leaf (e:Ex) (S:St) (p:Pn)
 |ob (p:Prop) (t:Tr)
 |br (b:Bool) (t u:Tr)
 |all {β:Type} (pre:β→Prop) (t:β→Tr)
 |imp (p:Prop) (t:Tr)
 |both (t u:Tr)
 |done
 |bad

def Tr.ok (Q:Ex→St→Pn→Prop):Tr→Prop
 |.leaf e S p=>Q e S p
 |.ob p t=>p∧t.ok Q
 |.br b t u=>(b=true→t.ok Q)∧(b=false→u.ok Q)
 |.all pre t=>∀b,pre b→(t b).ok Q
 |.imp p t=>p→t.ok Q
 |.both t u=>t.ok Q∧u.ok Q
 |.done=>True
 |.bad=>False
def Tr.bindN (f:St→Pn→Tr):Tr→Tr
 |.leaf e S p=>match e with
  |.normal=>f S p
  |e=>.leaf e S p
 |.ob p t=>.ob p (t.bindN f)
 |.br b t u=>.br b (t.bindN f) (u.bindN f)
 |.all pre t=>.all pre (fun b=>(t b).bindN f)
 |.imp p t=>.imp p (t.bindN f)
 |.both t u=>.both (t.bindN f) (u.bindN f)
 |.done=>.done
 |.bad=>.bad
def Tr.catch (id:Nat):Tr→Tr
 |.leaf e S p=>match e with
  |.exit i=>.leaf (cond (Nat.beq i id) .normal (.exit i)) S p
  |e=>.leaf e S p
 |.ob p t=>.ob p (t.catch id)
 |.br b t u=>.br b (t.catch id) (u.catch id)
 |.all pre t=>.all pre (fun b=>(t b).catch id)
 |.imp p t=>.imp p (t.catch id)
 |.both t u=>.both (t.catch id) (u.catch id)
 |.done=>.done
 |.bad=>.bad

def cdO (T:Tab):Cd→Prop
 |.b x=>x=true
 |.ge g want c=>(negIf (!want) g=true→cdO T c)
 |.eqn x y=>x=y
 |.get l i v=>l[i]? =some v
 |.call f args _ _=>match T.ct f args with
  |some r=>optP r.p
  |none=>False
 |.callD cv args h _ _ _=>match T.ch h cv args with
  |some r=>optP r.p
  |none=>False
def isNo {α:Type}:Option α→Bool
 |none=>true
 |some _=>false
def cdX (T:Tab):Cd→Bool
 |.b x=>x
 |.ge _ _ c=>cdX T c
 |.eqn x y=>Nat.beq x y
 |.get _ _ _=>false
 |.call f args _ _=>match T.ct f args with
  |some r=>isNo r.p
  |none=>false
 |.callD cv args h _ _ _=>match T.ch h cv args with
  |some r=>isNo r.p
  |none=>false
def obM (T:Tab):Nat→List Cd→Tr→Tr
 |_,[],t=>t
 |m,c::r,t=>cond (Nat.beq (m%2) 1) (cond (cdX T c) (obM T (m/2) r t) .bad) (.ob (cdO T c) (obM T (m/2) r t))
def obL:List Prop→Tr→Tr
 |[],t=>t
 |p::r,t=>.ob p (obL r t)

mutual
def sgV:AV→AV→List (Nat×Nat)
 |.full i _,.full j _=>[(j,i)]
 |.fullc i _ _,.full j _=>[(j,i)]
 |.fullc i _ _,.fullc j _ _=>[(j,i)]
 |.ptr i _,.ptr j _=>[(j,i)]
 |.mp i,.mp j=>[(j,i)]
 |.sl i _ _ _,.sl j _ _ _=>[(j,i)]
 |.agg l,.agg l'=>sgL l l'
 |.tup l,.tup l'=>sgL l l'
 |.fn _ a b,.fn _ a' b'=>sgL a a'++sgL b b'
 |.iface _ v,.iface _ v'=>sgV v v'
 |_,_=>[]
def sgL:List AV→List AV→List (Nat×Nat)
 |v::r,v'::r'=>sgV v v'++sgL r r'
 |_,_=>[]
end
def dedK (seen:List Nat):List (Nat×Nat)→List (Nat×Nat)
 |[]=>[]
 |(k,v)::r=>cond (memN k seen) (dedK seen r) ((k,v)::dedK (k::seen) r)
def sgT (T:List (Nat×AV)):List (Nat×AV)→List (Nat×Nat)
 |[]=>[]
 |(t,v)::r=>(match aget T t with|some u=>sgV u v|none=>[])++sgT T r
def sgB (h h':List (Nat×HO)):List (Nat×Nat)→List (Nat×Nat)
 |[]=>[]
 |(j,i)::r=>(match aget h i,aget h' j with
  |some (.blk b),some (.blk b')=>match b.c,b'.c with
   |.cells l,.cells l'=>sgL l l'
   |_,_=>[]
  |_,_=>[])++sgB h h' r
def idL:List Nat→List (Nat×Nat)
 |[]=>[]
 |k::r=>(k,k)::idL r
def sgS (S S':St):List (Nat×Nat):=
 let s1:=dedK [] (sgT S.t S'.t)
 let s2:=dedK [] (s1++sgB S.h S'.h s1)
 let s3:=dedK [] (s2++sgB S.h S'.h s2)
 dedK [] (s3++idL (keys S'.h))
def havS {β:Type}(L:LpS β)(dl db:List Nat)(S:St)(b:β):St:={t:=asets (delL S.t dl) (L.ov b),h:=asets (delL S.h db) (L.bk b),n:=S.n}
def toS (md:Md)(S S':St):Option (List Prop):=
 match renS (sgS S S') S S' with
 |some ps=>cond (keepB (sgS S S') S S' md.ks) (some ps) none
 |none=>none
def arrive {β:Type}(md:Md)(L:LpS β)(dl db:List Nat)(S0:St)(S:St)(k:β→Tr):Tr:=
 match L.rd S with
 |some b=>match toS md S (havS L dl db S0 b)with
  |some ps=>obL ps (.ob (L.pre b) (k b))
  |none=>.bad
 |none=>.bad

def pnR:Pn→List (Nat×(GDir×Dr))×Nat×Pn
 |.r ds m p=>(ds,m,p)
 |p=>([],0,p)
def syReg (T:Tab)(G:GL)(s:Nat)(dead:List Nat):Pn→List XO→Nat→St→Tr
 |.rs i ds m t p q,xs,k,S=>match exOps G (drsD T ds) (xs.take i) (s+k) S with
  |some (S',cs)=>obM T m cs (match aget S'.t t with
   |some (.bool v)=>.br v (syReg T G s dead p (xs.drop i) (k+i) {S' with t:=aset S'.t t (.bool true)}) (syReg T G s dead q (xs.drop i) (k+i) {S' with t:=aset S'.t t (.bool false)})
   |_=>.bad)
  |none=>.bad
 |.nl i ds m t p q,xs,k,S=>match exOps G (drsD T ds) (xs.take i) (s+k) S with
  |some (S',cs)=>obM T m cs (match aget S'.t t with
   |some (.imm c len _)=>.both (.imp (len=0∧c.size=0) (syReg T G s dead p (xs.drop i) (k+i) {S' with t:=aset S'.t t .nils})) (syReg T G s dead q (xs.drop i) (k+i) {S' with t:=aset S'.t t .nn})
   |_=>.bad)
  |none=>.bad
 |pl,xs,k,S=>match exOps G (drsD T (pnR pl).1) xs (s+k) S with
  |some (S',cs)=>obM T (pnR pl).2.1 cs (.leaf .normal (delS S' dead) (pnR pl).2.2)
  |none=>.bad
def syDraw (T:Tab)(G:GL)(s:Nat)(xs:List XO)(dep:List (List Nat))(ord dead:List Nat)(dp:List (Nat×(GDir×Dr))×Nat×Pn)(S:St):Tr:=
 match exEnts G (drsD T dp.1) xs s ord S with
 |some (S',es,cs)=>cond (drawB dep ord xs.length es) (obM T dp.2.1 cs (.leaf .normal (delS S' dead) dp.2.2)) .bad
 |none=>.bad
def syCond (f g:Pn→Tr)(v:Bool)(pl:Pn):Tr:=
 match pl with
 |.tt p=>.ob (v=true) (f p)
 |.ff p=>.ob (v=false) (g p)
 |.cnd p p'=>.br v (f p) (g p')
 |.lit p=>cond v (f p) (g p)
 |pl=>cond v (f pl) (g pl)
def syRange (md:Md)(T:Tab)(id m:Nat)(ps:List Nat)(as bd:XC)(gv:AV)(S:St)(p:Pn):Tr:=
 match gv with
 |.fn f a cp=>cond (ridB S.h md.rid&&freshA S.h [id]) (match opCallD 0 (aget (aset S.h id (.loop ⟨0,none,S.t,S.n,ps,as,bd⟩))) T.chP (.fn f [] []) (a++[.yld id]++cp)with
  |some D=>match D.al with
   |[]=>match aget (asets (aset S.h id (.loop ⟨0,none,S.t,S.n,ps,as,bd⟩)) D.ws) id with
    |some (.loop l2)=>match pendX l2.pend with
     |some e=>cond (Nat.beq l2.st 1) .bad (obM T m D.cs (.leaf e {S with h:=aset (asets (aset S.h id (.loop ⟨0,none,S.t,S.n,ps,as,bd⟩)) D.ws) id (.loop {l2 with st:=3})} p))
     |none=>.bad
    |_=>.bad
   |_=>.bad
  |none=>.bad) .bad
 |_=>.bad

def syC (md:Md)(T:Tab)(G:GL)(rec:XC→Pn→St→Tr)(xc:XC)(pl:Pn)(S:St):Tr:=
 match xc with
 |.skip=>.leaf .normal S pl
 |.exit id=>.leaf (.exit id) S pl
 |.ret=>.leaf .ret S pl
 |.reg s xs dead=>syReg T G s dead pl xs 0 S
 |.draw s xs dep ord dead=>syDraw T G s xs dep ord dead (pnR pl) S
 |.seq a b=>(rec a pl S).bindN (fun S' p=>rec b p S')
 |.cond c a b=>match c.ev G S.t with
  |.bool v=>syCond (fun p=>rec a p S) (fun p=>rec b p S) v pl
  |_=>.bad
 |.block id a=>(rec a pl S).catch id
 |.loop a=>match pl with
  |.lp L dl db body=>arrive md L dl db S S (fun _=>.all L.pre (fun b=>(rec a (body b) (havS L dl db S b)).bindN (fun S' p=>(rec .skip p S').bindN (fun S'' _=>arrive md L dl db S S'' (fun b'=>.ob (L.mu b'<L.mu b) .done)))))
  |.un p=>(rec a p S).bindN (fun S' p=>rec (.loop a) p S')
  |_=>.bad
 |.rangeF g ps as bd=>match pl with
  |.rf id m p=>syRange md T id m ps as bd (g.ev G S.t) S p
  |_=>.bad
 |.bad=>.bad
 |.scope a=>rec a pl S
def ghcS (S:St)(b off id sz:Nat)(c:Cont):Option St:=
 match aget S.h b with
 |some (.blk k)=>match k.c with
  |.cells l=>match nth? l off with
   |some .nils=>cond (freshA S.h [id]&&Nat.beq c.size 0) (some {S with h:=aset (aset S.h id (.blk {c,sz,n:=0,cap:=some 0,nil:=some true,mu:=true,bx:=false})) b (.blk {k with c:=.cells (l.set off (.full id 0))})}) none
   |_=>none
  |_=>none
 |_=>none
def joinAt:XC→Bool
 |.seq a b=>match a,b with
  |.reg _ _ _,.cond _ _ _=>true
  |.draw _ _ _ _ _,.cond _ _ _=>true
  |_,_=>false
 |.scope _=>false
 |.skip=>false
 |_=>true
def sy (md:Md)(T:Tab)(G:GL):Nat→XC→Pn→St→Tr
 |0,_,_,_=>.bad
 |n+1,xc,pl,S=>
  match pl with
  |.frz t m p=>match frzS S t with
   |some (S',cs)=>obM T m cs (sy md T G n xc p S')
   |none=>.bad
  |.cap t p=>match aget S.t t with
   |some (.imm c len _)=>.all (fun _:Nat=>True) (fun k=>sy md T G n xc (p k) {S with t:=aset S.t t (.imm c len (some k))})
   |_=>.bad
  |.gc i p=>match gcS md.ks S i with
   |some S'=>sy md T G n xc p S'
   |none=>.bad
  |.gho t id sz c p=>match ghoS S t id sz c with
   |some S'=>sy md T G n xc p S'
   |none=>.bad
  |.ghc b off id sz c p=>match ghcS S b off id sz c with
   |some S'=>sy md T G n xc p S'
   |none=>.bad
  |.ren σ S' p=>match renS σ S S' with
   |some ps=>cond (keepB σ S S' md.ks) (obL ps (sy md T G n xc p S')) .bad
   |none=>.bad
  |.br b p p'=>.br b (sy md T G n xc p S) (sy md T G n xc p' S)
  |.ass f p=>.both (.ob f .done) (.imp f (sy md T G n xc p S))
  |.jn L dl db p q=>cond (joinAt xc) (.both ((sy md T G n xc p S).bindN (fun S' p'=>(sy md T G n .skip p' S').bindN (fun S'' _=>arrive md L dl db S S'' (fun _=>.done)))) (.all L.pre (fun b=>.leaf .normal (havS L dl db S b) (q b)))) (syC md T G (sy md T G n) xc (.jn L dl db p q) S)
  |pl=>syC md T G (sy md T G n) xc pl S

section
variable {P:Program}{G:GL}{md:Md}{T:Tab}{F:Nat→Prop}{ρ:Nat→Option Nat}{a:Act}{w:World}

theorem Tr.bindN_ok {f:St→Pn→Tr}{Q:Ex→St→Pn→Prop}:∀{t:Tr},(t.bindN f).ok Q→t.ok (fun e S p=>(e=.normal∧(f S p).ok Q)∨(e≠ .normal∧Q e S p))
 |.leaf e S p,h=>by
  simp only[Tr.bindN]at h
  split at h
  ·exact .inl ⟨rfl,h⟩
  ·rename_i hn;exact .inr ⟨fun e=>hn e,h⟩
 |.ob p t,h=>⟨h.1,Tr.bindN_ok h.2⟩
 |.br b t u,h=>⟨fun hb=>Tr.bindN_ok (h.1 hb),fun hb=>Tr.bindN_ok (h.2 hb)⟩
 |.all pre t,h=>fun b hb=>Tr.bindN_ok (h b hb)
 |.imp p t,h=>fun hp=>Tr.bindN_ok (h hp)
 |.both t u,h=>⟨Tr.bindN_ok h.1,Tr.bindN_ok h.2⟩
 |.done,h=>trivial
 |.bad,h=>h
theorem Tr.catch_ok {id:Nat}{Q:Ex→St→Pn→Prop}:∀{t:Tr},(t.catch id).ok Q→t.ok (fun e S p=>(e=.exit id∧Q .normal S p)∨(e≠ .exit id∧Q e S p))
 |.leaf e S p,h=>by
  simp only[Tr.catch]at h
  cases e with
  |exit i=>
   simp only[Tr.ok]at h ⊢
   by_cases e:i=id
   ·subst e;rw[beq_self,cond_true]at h;exact .inl ⟨rfl,h⟩
   ·rw[beq_ne e,cond_false]at h
    exact .inr ⟨fun e'=>e (by cases e';rfl),h⟩
  |normal=>exact .inr ⟨(fun e=>by cases e),h⟩
  |ret=>exact .inr ⟨(fun e=>by cases e),h⟩
 |.ob p t,h=>⟨h.1,Tr.catch_ok h.2⟩
 |.br b t u,h=>⟨fun hb=>Tr.catch_ok (h.1 hb),fun hb=>Tr.catch_ok (h.2 hb)⟩
 |.all pre t,h=>fun b hb=>Tr.catch_ok (h b hb)
 |.imp p t,h=>fun hp=>Tr.catch_ok (h hp)
 |.both t u,h=>⟨Tr.catch_ok h.1,Tr.catch_ok h.2⟩
 |.done,h=>trivial
 |.bad,h=>h

theorem isNo_ok {p:Option Prop}(h:isNo p=true):optP p:=by
 cases p with
 |none=>trivial
 |some _=>cases h
theorem cdO_ok (hT:TabOk P G T):∀{c:Cd},CF T c→cdO T c→c.holds (SpecQ P G)
 |.b x,hf,h=>h
 |.ge g want c,hf,h=>fun hg=>cdO_ok hT (c:=c) hf (h hg)
 |.eqn x y,hf,h=>h
 |.get _ _ _,hf,h=>h
 |.call f args v bs,hf,h=>by
  obtain⟨r,h1,rfl,rfl⟩:=hf
  simp only[cdO,h1]at h
  exact hT.ct f args r h1 h
 |.callD cv args hh v ws al,hf,h=>by
  obtain⟨r,h1,rfl,rfl,rfl⟩:=hf
  simp only[cdO,h1]at h
  exact hT.ch hh cv args r h1 h
theorem cdX_ok:∀{c:Cd},cdX T c=true→cdO T c
 |.b x,h=>h
 |.ge g want c,h=>fun _=>cdX_ok (c:=c) h
 |.eqn x y,h=>Nat.eq_of_beq_eq_true h
 |.get _ _ _,h=>by cases h
 |.call f args v bs,h=>by
  simp only[cdX]at h
  simp only[cdO]
  split at h
  ·exact isNo_ok h
  ·cases h
 |.callD cv args hh v ws al,h=>by
  simp only[cdX]at h
  simp only[cdO]
  split at h
  ·exact isNo_ok h
  ·cases h
theorem obM_ok (hT:TabOk P G T){Q:Ex→St→Pn→Prop}:∀{cs:List Cd} {m:Nat} {t:Tr},(∀c∈cs,CF T c)→(obM T m cs t).ok Q→AllC (SpecQ P G) cs∧t.ok Q
 |[],m,t,hf,h=>⟨trivial,h⟩
 |c::r,m,t,hf,h=>by
  simp only[obM,cond_eq_ite]at h
  split at h
  ·split at h
   ·rename_i hx
    obtain⟨h1,h2⟩:=obM_ok hT (fun c hc=>hf c (by simp[hc])) h
    exact⟨⟨cdO_ok hT (hf c (by simp)) (cdX_ok hx),h1⟩,h2⟩
   ·exact h.elim
  ·obtain⟨h1,h2⟩:=obM_ok hT (fun c hc=>hf c (by simp[hc])) h.2
   exact⟨⟨cdO_ok hT (hf c (by simp)) h.1,h1⟩,h2⟩
theorem obL_ok {Q:Ex→St→Pn→Prop}:∀{ps:List Prop} {t:Tr},(obL ps t).ok Q→PAll ps∧t.ok Q
 |[],t,h=>⟨trivial,h⟩
 |p::r,t,h=>by
  obtain⟨h1,h2⟩:=obL_ok h.2
  exact⟨⟨h.1,h1⟩,h2⟩

theorem toS_ok {S S':St}{ps:List Prop}(h:toS md S S'=some ps)(hp:PAll ps)(hr:RS G F ρ S a w):∃ρ',RS G F ρ' S' a w∧Ext G F ρ w F ρ' w∧HKp md.ks w ρ (aget S.h) w ρ' (aget S'.h):=by
 unfold toS at h
 split at h
 ·rename_i qs hz
  rw[cond_eq_ite]at h
  split at h
  ·rename_i hk
   cases h
   obtain⟨ρ',q1,q2,q3⟩:=ren_sound hz hp hr
   exact⟨ρ',q1,q2,q3 _ hk⟩
  ·cases h
 ·cases h

theorem arrive_ok {β:Type}{L:LpS β}{dl db:List Nat}{S0 S:St}{k:β→Tr}{Q:Ex→St→Pn→Prop}(h:(arrive md L dl db S0 S k).ok Q):∃b ps,L.rd S=some b∧toS md S (havS L dl db S0 b)=some ps∧PAll ps∧L.pre b∧(k b).ok Q:=by
 unfold arrive at h
 split at h
 ·rename_i b hb
  split at h
  ·rename_i ps hps
   obtain⟨h1,h2⟩:=obL_ok h
   exact⟨b,ps,hb,hps,h1,h2.1,h2.2⟩
  ·exact h.elim
 ·exact h.elim

theorem WpX.via {xc:XC}{S:St}{Q:Ex→St→Prop}(h:∀F ρ a w,RS G F ρ S a w→∃S',WpX P G md xc S' Q∧Aft G md F ρ (aget S.h) w a.defers S' a w):WpX P G md xc S Q:=by
 intro c hc F ρ a w ro hr hro
 obtain⟨S',hW,F',ρ',q1,q2,q3,q4⟩:=h F ρ a w hr
 exact(hW c hc F' ρ' a w ro q1 (hro.next q3)).mono fun e a' w' ⟨S'',r1,r2⟩=>⟨S'',r1,r2.on q2 q3 q4⟩
theorem WpX.post {xc:XC}{S:St}{Q Q':Ex→St→Prop}(h:WpX P G md xc S Q)(hp:∀e S',Q e S'→∀F ρ a w,RS G F ρ S' a w→∃S'',Q' e S''∧Aft G md F ρ (aget S'.h) w a.defers S'' a w):WpX P G md xc S Q':=by
 intro c hc F ρ a w ro hr hro
 refine(h c hc F ρ a w ro hr hro).mono ?_
 rintro e a' w' ⟨S',q1,F',ρ',r1,r2,r3,r4⟩
 obtain⟨S'',s1,s2⟩:=hp e S' q1 F' ρ' a' w' r1
 exact⟨S'',s1,s2.on r2 r3 r4⟩
theorem Aft.of_toS {S S':St}{ps:List Prop}(h:toS md S S'=some ps)(hp:PAll ps)(hr:RS G F ρ S a w):Aft G md F ρ (aget S.h) w a.defers S' a w:=by
 obtain⟨ρ',q1,q2,q3⟩:=toS_ok h hp hr
 exact⟨F,ρ',q1,q2,q3,DX.refl _ _⟩
theorem Aft.trans {S S' S'':St}(h:Aft G md F ρ (aget S.h) w a.defers S' a w)(k:∀F' ρ',RS G F' ρ' S' a w→Aft G md F' ρ' (aget S'.h) w a.defers S'' a w):Aft G md F ρ (aget S.h) w a.defers S'' a w:=by
 obtain⟨F',ρ',q1,q2,q3,q4⟩:=h
 exact(k F' ρ' q1).on q2 q3 q4

theorem frzS_cf {S S':St}{t:Nat}{cs:List Cd}(h:frzS S t=some (S',cs)):∀c∈cs,CF T c:=by
 unfold frzS at h
 split at h
 ·split at h
  ·rename_i hz
   rw[cond_eq_ite]at h
   split at h
   ·cases h;exact frzV_cf hz
   ·cases h
  ·cases h
 ·cases h

theorem ghcS_ok {S S':St}{b off id sz:Nat}{c:Cont}(h:ghcS S b off id sz c=some S')(hr:RS G F ρ S a w):RS G F ρ S' a w∧HKeep w ρ (aget S.h) w ρ (aget S'.h):=by
 unfold ghcS at h
 split at h
 ·rename_i k hk
  split at h
  ·rename_i l hl
   split at h
   ·rename_i hoff
    rw[cond_eq_ite]at h
    split at h
    ·rename_i hc
     rw[Bool.and_eq_true]at hc
     cases h
     have hf:=freshA_ok hc.1 id (by simp)
     have hz:=Nat.eq_of_beq_eq_true hc.2
     obtain⟨m1,m2,m3⟩:=hr.mem.ghost (site:=id) (k:={c,sz,n:=0,cap:=some 0,nil:=some true,mu:=true,bx:=false}) hf rfl hz
     have hbid:b≠id:=fun e=>by rw[e,hf]at hk;cases hk
     let H1:=upd (aget S.h) id (some (.blk {c,sz,n:=0,cap:=some 0,nil:=some true,mu:=true,bx:=false}))
     let k':Blk:={k with c:=.cells (l.set off (.full id 0))}
     have hk1:H1 b=some (.blk k):=by show upd _ _ _ _=_;rw[upd_other _ _ hbid];exact hk
     have m4:HKeep w ρ H1 w ρ (upd H1 b (some (.blk k'))):=by
      refine⟨fun i o' h1 h2=>?_,fun i k1 h1=>?_,fun b cs ty fz hb=>⟨cs,ty,fz,hb,rfl⟩⟩
      ·by_cases e:i=b
       ·subst e;rw[hk1]at h1;cases h1;exact⟨_,upd_same _ _ _,h2,rfl⟩
       ·exact⟨o',by rw[upd_other _ _ e];exact h1,h2,rfl⟩
      ·by_cases e:i=b
       ·subst e;rw[hk1]at h1;cases h1;exact⟨_,upd_same _ _ _,rfl,Nat.le_refl _,fun _=>⟨rfl,rfl,.inl rfl,rfl⟩⟩
       ·exact⟨k1,by rw[upd_other _ _ e];exact h1,rfl,Nat.le_refl _,fun _=>⟨rfl,rfl,.inl rfl,rfl⟩⟩
     have hrel:∀i x,RelE w F ρ (upd H1 b (some (.blk k'))) (.cells l) i x→RelE w F ρ (upd H1 b (some (.blk k'))) (.cells (l.set off (.full id 0))) i x:=by
      rintro i x ⟨h1,h2⟩
      refine⟨?_,h2⟩
      simp only at h1 ⊢
      by_cases e:i=off
      ·subst e
       have hlt:i<l.length:=by
        rw[nth?_eq]at hoff
        exact(List.getElem?_eq_some_iff.1 hoff).1
       have hv:l.getD i .undef=.nils:=by
        rw[nth?_eq]at hoff
        rw[List.getD_eq_getElem?_getD,hoff];rfl
       rw[hv]at h1
       have hv':(l.set i (.full id 0)).getD i .undef=.full id 0:=by
        rw[List.getD_eq_getElem?_getD,List.getElem?_set_self hlt];rfl
       rw[hv']
       cases h1 with
       |imm _ _ hi=>
        generalize he:x=z at hi
        cases hi
        subst he
        exact .full id 0 _ _ (by rw[upd_other _ _ (Ne.symm hbid)];exact upd_same _ _ _) (Nat.le_refl _) ⟨_,_,_,rfl⟩ (fun _=>.inl ⟨rfl,(fun e=>by cases e),(fun n e=>by cases e;rfl),rfl⟩)
      ·have hv':(l.set off (.full id 0)).getD i .undef=l.getD i .undef:=by
        rw[List.getD_eq_getElem?_getD,List.getElem?_set_ne (Ne.symm e),List.getD_eq_getElem?_getD]
       rw[hv'];exact h1
     have hkeep:HKeep w ρ (aget S.h) w ρ (upd H1 b (some (.blk k'))):=m3.trans m4
     have hmem:MRel G F ρ (upd H1 b (some (.blk k'))) w:=by
      refine⟨fun i o h1=>?_,fun i b' hb=>?_,m1.inj,m1.lt,m1.frz,m1.glob⟩
      ·by_cases e:i=b
       ·subst e
        rw[upd_same]at h1;cases h1
        have ho:=(m1.heap i _ hk1).mono (h':=upd H1 i (some (.blk k'))) (fun _ _=>rfl) (fun _ h=>h) m4 rfl (fun b hb=>⟨rfl,fun h=>h⟩)
        obtain⟨h1,h2⟩:=ho
        refine⟨by simpa[hl,k',Cont.size]using h1,?_⟩
        rcases h2 with h2|⟨bb,g1,g2,_,g3,g4⟩
        ·exact .inl h2
        ·obtain⟨cs,ty,fz,q1,q2,q3,q4⟩:=g2 (by rw[hl];rfl)
         refine .inr ⟨bb,g1,RelB.ofCells rfl ⟨cs,ty,fz,q1,q2,by simpa[hl,k',Cont.size]using q3,fun j hj=>?_⟩ g3 g4⟩
         obtain⟨x,x1,x2⟩:=q4 j (by simpa[hl,k',Cont.size]using hj)
         rw[hl]at x2
         exact⟨x,x1,hrel j x x2⟩
       ·rw[upd_other _ _ e]at h1
        exact(m1.heap i o h1).mono (fun _ _=>rfl) (fun _ h=>h) m4 rfl (fun b hb=>⟨rfl,fun h=>h⟩)
      ·obtain⟨o',ho'⟩:=m1.dom i b' hb
       by_cases e:i=b
       ·subst e;exact⟨_,upd_same _ _ _⟩
       ·exact⟨o',by rw[upd_other _ _ e];exact ho'⟩
     refine⟨⟨hr.size,fun u y hu=>?_,?_,hr.defs⟩,?_⟩
     ·simp only[aget_aset]
      exact(hr.tmps u y hu).mono (fun _ _=>rfl) (fun _ h=>h) hkeep
     ·simp only[aget_aset];exact hmem
     ·simp only[aget_aset];exact hkeep
    ·cases h
   ·cases h
  ·cases h
 ·cases h

theorem capS_ok {S:St}{t:Nat}{c:Cont}{len:Nat}{k:Option Nat}(hv:aget S.t t=some (.imm c len k))(hr:RS G F ρ S a w):∃k,RS G F ρ {S with t:=aset S.t t (.imm c len (some k))} a w:=by
 have hput:∀(v':AV),RelV w F ρ (aget S.h) v' (a.tmps.getD t undef)→RS G F ρ {S with t:=aset S.t t v'} a w:=fun v' hv'=>by
  refine⟨hr.size,fun u y hu=>?_,hr.mem,hr.defs⟩
  simp only[aget_aset]at hu
  by_cases e':u=t
  ·subst e'
   rw[upd_same]at hu
   cases hu
   exact hv'
  ·rw[upd_other _ _ e']at hu;exact hr.tmps u y hu
 have h:=hr.tmps t _ hv
 generalize hy:a.tmps.getD t undef=y at h
 cases h with
 |imm _ _ hi=>
  cases hi with
  |imm _ _ _ b o cap' xs hF hc hr ho hl hcap=>exact⟨cap',hput _ (by rw[hy];exact .imm _ _ (.imm _ _ _ b o cap' xs hF hc hr ho hl (fun n h=>by cases h;rfl)))⟩
  |imm0 _ _ x hc hcap=>exact⟨0,hput _ (by rw[hy];exact .imm _ _ (.imm0 _ _ x hc (fun n h=>by cases h;rfl)))⟩

theorem sy_skip (hT:TabOk P G T):∀(n:Nat) (pl:Pn) (S:St) (Q:Ex→St→Pn→Prop),(sy md T G n .skip pl S).ok Q→∀F ρ a w,RS G F ρ S a w→
  ∃S',(∃p,Q .normal S' p)∧Aft G md F ρ (aget S.h) w a.defers S' a w:=by
 intro n
 induction n with
 |zero=>intro pl S Q h;exact h.elim
 |succ n ih=>
  intro pl S Q h F ρ a w hr
  simp only[sy]at h
  split at h
  ·split at h
   ·rename_i S' cs hz
    obtain⟨h1,h2⟩:=obM_ok hT (frzS_cf hz) h
    obtain⟨F',q1,q2,q3⟩:=frzS_ok hz h1 hr
    obtain⟨S'',r1,r2⟩:=ih _ _ Q h2 F' ρ a w q1
    exact⟨S'',r1,r2.on q2 q3.kp (DX.refl _ _)⟩
   ·exact h.elim
  ·split at h
   ·rename_i c len k hz
    obtain⟨k',q⟩:=capS_ok hz hr
    exact ih _ _ Q (h k' trivial) F ρ a w q
   ·exact h.elim
  ·split at h
   ·rename_i S' hz
    obtain⟨ρ',q1,q2,q3⟩:=gcS_ok hz hr
    obtain⟨S'',r1,r2⟩:=ih _ _ Q h F ρ' a w q1
    exact⟨S'',r1,r2.on q2 q3 (DX.refl _ _)⟩
   ·exact h.elim
  ·split at h
   ·rename_i S' hz
    obtain⟨S'',r1,r2⟩:=ih _ _ Q h F ρ a w (ghoS_ok hz hr).1
    exact⟨S'',r1,r2.on (Ext.refl _ _ _) (ghoS_ok hz hr).2.kp (DX.refl _ _)⟩
   ·exact h.elim
  ·split at h
   ·rename_i S' hz
    obtain⟨S'',r1,r2⟩:=ih _ _ Q h F ρ a w (ghcS_ok hz hr).1
    exact⟨S'',r1,r2.on (Ext.refl _ _ _) (ghcS_ok hz hr).2.kp (DX.refl _ _)⟩
   ·exact h.elim
  ·split at h
   ·rename_i ps hz
    rw[cond_eq_ite]at h
    split at h
    ·rename_i hk
     obtain⟨h1,h2⟩:=obL_ok h
     obtain⟨ρ',q1,q2,q3⟩:=ren_sound hz h1 hr
     obtain⟨S'',r1,r2⟩:=ih _ _ Q h2 F ρ' a w q1
     exact⟨S'',r1,r2.on q2 (q3 _ hk) (DX.refl _ _)⟩
    ·exact h.elim
   ·exact h.elim
  ·rename_i b p p'
   cases hb:b with
   |true=>exact ih _ _ Q (h.1 hb) F ρ a w hr
   |false=>exact ih _ _ Q (h.2 hb) F ρ a w hr
  ·exact ih _ _ Q (h.2 h.1.1) F ρ a w hr
  ·rw[show joinAt .skip=false from rfl,cond_false]at h
   exact⟨S,⟨_,h⟩,.here hr⟩
  ·exact⟨S,⟨_,h⟩,.here hr⟩

theorem syRange_ok (hcm:G.cm=cmOf P)(hT:TabOk P G T){g:Opd}{ps:List Nat}{as bd:XC}{S:St}{id m:Nat}{p:Pn}{Q:Ex→St→Pn→Prop}(h:(syRange md T id m ps as bd (g.ev G S.t) S p).ok Q):WpX P G md (.rangeF g ps as bd) S (fun e S'=>∃p,Q e S' p):=by
 unfold syRange at h
 split at h
 ·rename_i f a0 cp hg
  simp only[cond_eq_ite]at h
  split at h
  ·rename_i hc
   rw[Bool.and_eq_true]at hc
   split at h
   ·rename_i D hD
    split at h
    ·rename_i hal
     split at h
     ·rename_i l2 hl2
      split at h
      ·rename_i e2 hp
       split at h
       ·exact h.elim
       ·rename_i hst
        obtain⟨h1,h2⟩:=obM_ok hT (callD_cf hD) h
        refine wpX_rangeF hcm hg (fun l0 e0=>?_) (freshA_ok hc.2 _ (by simp)) (D:=D) (fun i hi=>by rw[hal]at hi;cases hi) ?_ hl2 hp (fun e1=>hst (by rw[e1];rfl)) ⟨p,h2⟩
        ·have hrid:=hc.1
         rw[e0]at hrid
         simp only[ridB]at hrid
         split at hrid
         ·rename_i L hL;exact⟨L,hL⟩
         ·cases hrid
        ·intro F ρ w xs hm hv
         exact callD_sound hm (fun _ _ h=>h) hD h1 (fun i hi=>by rw[hal]at hi;cases hi) hv
      ·exact h.elim
     ·exact h.elim
    ·exact h.elim
   ·exact h.elim
  ·exact h.elim
 ·exact h.elim

theorem wpOpsR_app {ops:Array Oper}{R:Act→World→Prop}:∀(l1 l2:List Nat) (a:Act) (w:World),wpOpsR P ops (wpOpsR P ops R l2) l1 a w→wpOpsR P ops R (l1++l2) a w
 |[],l2,a,w,h=>h
 |i::r,l2,a,w,h=>wpOpR_mono (fun a w h=>wpOpsR_app r l2 a w h) h
theorem compXOs_split {ops:Array Oper}:∀(i:Nat) (l:List Oper) (xs:List XO),compXOs P ops l=some xs→compXOs P ops (l.take i)=some (xs.take i)∧compXOs P ops (l.drop i)=some (xs.drop i)
 |0,l,xs,h=>⟨by simp[compXOs],by simpa using h⟩
 |i+1,[],xs,h=>by cases h;exact⟨by simp[compXOs],by simp[compXOs]⟩
 |i+1,o::l,xs,h=>by
  simp only[compXOs]at h
  split at h
  ·rename_i x xl hx hl
   cases h
   obtain⟨h1,h2⟩:=compXOs_split i l xl hl
   refine⟨?_,by simpa using h2⟩
   simp only[List.take_succ_cons,compXOs,hx,h1]
  ·cases h

theorem syReg_ops (hT:TabOk P G T){ops:Array Oper}{s:Nat}{dead:List Nat}{Q:Ex→St→Pn→Prop}{F0:Nat→Prop}{ρ0:Nat→Option Nat}{H0:Nat→Option HO}{w0:World}{ds0:List Deferred}:∀(pl:Pn) (xs:List XO) (k:Nat) (S:St) (l:List Oper) (F:Nat→Prop) (ρ:Nat→Option Nat) (a:Act) (w:World),
  (∀j,j<l.length→l[j]? =ops[k+j]?)→compXOs P ops l=some xs→(syReg T G s dead pl xs k S).ok Q→RS G F ρ S a w→Ext G F0 ρ0 w0 F ρ w→HKeep w0 ρ0 H0 w ρ (aget S.h)→a.defers=ds0→
  wpOpsR P ops (fun a' w'=>∃S',(∃p,Q .normal S' p)∧Aft G md F0 ρ0 H0 w0 ds0 S' a' w') (List.range' k l.length) a w:=by
 have fin:∀(pl:Pn) (xs:List XO) (k:Nat) (S:St) (l:List Oper) (F:Nat→Prop) (ρ:Nat→Option Nat) (a:Act) (w:World),
   (∀j,j<l.length→l[j]? =ops[k+j]?)→compXOs P ops l=some xs→(match exOps G (drsD T (pnR pl).1) xs (s+k) S with
    |some (S',cs)=>obM T (pnR pl).2.1 cs (.leaf .normal (delS S' dead) (pnR pl).2.2)
    |none=>.bad).ok Q→RS G F ρ S a w→Ext G F0 ρ0 w0 F ρ w→HKeep w0 ρ0 H0 w ρ (aget S.h)→a.defers=ds0→
   wpOpsR P ops (fun a' w'=>∃S',(∃p,Q .normal S' p)∧Aft G md F0 ρ0 H0 w0 ds0 S' a' w') (List.range' k l.length) a w:=by
  intro pl xs k S l F ρ a w hl hx h hr hE hK hd
  split at h
  ·rename_i S' cs he
   obtain⟨h1,h2⟩:=obM_ok hT (exOps_cf he) h
   refine exOps_sound l k xs (s+k) S S' cs F ρ a w hl hx he h1 hr fun a' w' F' ρ' q1 q2 q3 q4=>?_
   exact⟨_,⟨_,h2⟩,F',ρ',delS_rs q1,hE.trans q2,(hK.trans q3).kp,DX.of_eq (q4.trans hd)⟩
  ·exact h.elim
 intro pl
 induction pl with
 |rs i ds m t p q ihp ihq=>
  intro xs k S l F ρ a w hl hx h hr hE hK hd
  simp only[syReg]at h
  split at h
  ·rename_i S' cs he
   obtain⟨h1,h2⟩:=obM_ok hT (exOps_cf he) h
   split at h2
   ·rename_i v hv
    obtain⟨hx1,hx2⟩:=compXOs_split i l xs hx
    by_cases hi:i≤l.length
    ·have hlen:(l.take i).length=i:=by simp;omega
     have hsz:List.range' k l.length=List.range' k (l.take i).length++List.range' (k+i) (l.drop i).length:=by
      rw[hlen,List.range'_append_1]
      congr 1
      simp
      omega
     rw[hsz]
     refine wpOpsR_app _ _ a w ?_
     refine exOps_sound (l.take i) k (xs.take i) (s+k) S S' cs F ρ a w (fun j hj=>?_) hx1 he h1 hr fun a' w' F' ρ' q1 q2 q3 q4=>?_
     ·rw[hlen]at hj
      rw[List.getElem?_take_of_lt hj];exact hl j (by omega)
     ·have hdr:∀j,j<(l.drop i).length→(l.drop i)[j]? =ops[k+i+j]? :=fun j hj=>by
       rw[List.getElem?_drop,hl (i+j) (by simp at hj;omega),Nat.add_assoc]
      have hset:∀b,v=b→RS G F' ρ' {S' with t:=aset S'.t t (.bool b)} a' w':=fun b e=>by
       refine⟨q1.size,fun u y hu=>?_,q1.mem,q1.defs⟩
       simp only[aget_aset]at hu
       by_cases e':u=t
       ·subst e'
        rw[upd_same]at hu
        cases hu
        subst e
        exact q1.tmps u _ hv
       ·rw[upd_other _ _ e']at hu;exact q1.tmps u y hu
      cases hv':v with
      |true=>exact ihp _ _ _ _ F' ρ' a' w' hdr hx2 (h2.1 hv') (hset true hv') (hE.trans q2) (hK.trans q3) (q4.trans hd)
      |false=>exact ihq _ _ _ _ F' ρ' a' w' hdr hx2 (h2.2 hv') (hset false hv') (hE.trans q2) (hK.trans q3) (q4.trans hd)
    ·have hlt:l.take i=l:=List.take_of_length_le (by omega)
     have hd0:l.drop i=[]:=List.drop_of_length_le (by omega)
     rw[hlt]at hx1
     rw[hd0]at hx2
     have hsz:List.range' k l.length=List.range' k l.length++List.range' (k+i) 0:=by simp
     rw[hsz]
     refine wpOpsR_app _ _ a w ?_
     refine exOps_sound l k (xs.take i) (s+k) S S' cs F ρ a w hl hx1 he h1 hr fun a' w' F' ρ' q1 q2 q3 q4=>?_
     have hset:∀b,v=b→RS G F' ρ' {S' with t:=aset S'.t t (.bool b)} a' w':=fun b e=>by
      refine⟨q1.size,fun u y hu=>?_,q1.mem,q1.defs⟩
      simp only[aget_aset]at hu
      by_cases e':u=t
      ·subst e'
       rw[upd_same]at hu
       cases hu
       subst e
       exact q1.tmps u _ hv
      ·rw[upd_other _ _ e']at hu;exact q1.tmps u y hu
     cases hv':v with
     |true=>exact ihp _ _ _ [] F' ρ' a' w' (fun j hj=>by simp at hj) hx2 (h2.1 hv') (hset true hv') (hE.trans q2) (hK.trans q3) (q4.trans hd)
     |false=>exact ihq _ _ _ [] F' ρ' a' w' (fun j hj=>by simp at hj) hx2 (h2.2 hv') (hset false hv') (hE.trans q2) (hK.trans q3) (q4.trans hd)
   ·exact h2.elim
  ·exact h.elim
 |nl i ds m t p q ihp ihq=>
  intro xs k S l F ρ a w hl hx h hr hE hK hd
  simp only[syReg]at h
  split at h
  ·rename_i S' cs he
   obtain⟨h1,h2⟩:=obM_ok hT (exOps_cf he) h
   split at h2
   ·rename_i c len cap hv
    obtain⟨hx1,hx2⟩:=compXOs_split i l xs hx
    have hput:∀{F':Nat→Prop} {ρ':Nat→Option Nat} {a':Act} {w':World} (v':AV),RS G F' ρ' S' a' w'→RelV w' F' ρ' (aget S'.h) v' (a'.tmps.getD t undef)→RS G F' ρ' {S' with t:=aset S'.t t v'} a' w':=fun v' q1 hv'=>by
     refine⟨q1.size,fun u y hu=>?_,q1.mem,q1.defs⟩
     simp only[aget_aset]at hu
     by_cases e':u=t
     ·subst e'
      rw[upd_same]at hu
      cases hu
      exact hv'
     ·rw[upd_other _ _ e']at hu;exact q1.tmps u y hu
    have two:∀{F':Nat→Prop} {ρ':Nat→Option Nat} {a':Act} {w':World},RS G F' ρ' S' a' w'→((len=0∧c.size=0)∧RS G F' ρ' {S' with t:=aset S'.t t .nils} a' w')∨RS G F' ρ' {S' with t:=aset S'.t t .nn} a' w':=fun{F' ρ' a' w'} q1=>by
     have hr:=q1.tmps t _ hv
     generalize hy:a'.tmps.getD t undef=y at hr
     cases hr with
     |imm _ _ hi=>
      cases hi with
      |imm _ _ _ b o cap' xs hF hc hr ho hl hcap=>exact .inr (hput .nn q1 (by rw[hy];exact .imm _ _ (.nn _ _ _)))
      |imm0 _ _ x hc hcap=>
       cases x with
       |none=>exact .inl ⟨⟨rfl,hc⟩,hput .nils q1 (by rw[hy];exact .imm _ _ .nils)⟩
       |some x=>exact .inr (hput .nn q1 (by rw[hy];exact .imm _ _ (.nn _ _ _)))
    by_cases hi:i≤l.length
    ·have hlen:(l.take i).length=i:=by simp;omega
     have hsz:List.range' k l.length=List.range' k (l.take i).length++List.range' (k+i) (l.drop i).length:=by
      rw[hlen,List.range'_append_1]
      congr 1
      simp
      omega
     rw[hsz]
     refine wpOpsR_app _ _ a w ?_
     refine exOps_sound (l.take i) k (xs.take i) (s+k) S S' cs F ρ a w (fun j hj=>?_) hx1 he h1 hr fun a' w' F' ρ' q1 q2 q3 q4=>?_
     ·rw[hlen]at hj
      rw[List.getElem?_take_of_lt hj];exact hl j (by omega)
     ·have hdr:∀j,j<(l.drop i).length→(l.drop i)[j]? =ops[k+i+j]? :=fun j hj=>by
       rw[List.getElem?_drop,hl (i+j) (by simp at hj;omega),Nat.add_assoc]
      rcases two q1 with⟨hz,q1'⟩|q1'
      ·exact ihp _ _ _ _ F' ρ' a' w' hdr hx2 (h2.1 hz) q1' (hE.trans q2) (hK.trans q3) (q4.trans hd)
      ·exact ihq _ _ _ _ F' ρ' a' w' hdr hx2 h2.2 q1' (hE.trans q2) (hK.trans q3) (q4.trans hd)
    ·have hlt:l.take i=l:=List.take_of_length_le (by omega)
     have hd0:l.drop i=[]:=List.drop_of_length_le (by omega)
     rw[hlt]at hx1
     rw[hd0]at hx2
     have hsz:List.range' k l.length=List.range' k l.length++List.range' (k+i) 0:=by simp
     rw[hsz]
     refine wpOpsR_app _ _ a w ?_
     refine exOps_sound l k (xs.take i) (s+k) S S' cs F ρ a w hl hx1 he h1 hr fun a' w' F' ρ' q1 q2 q3 q4=>?_
     rcases two q1 with⟨hz,q1'⟩|q1'
     ·exact ihp _ _ _ [] F' ρ' a' w' (fun j hj=>by simp at hj) hx2 (h2.1 hz) q1' (hE.trans q2) (hK.trans q3) (q4.trans hd)
     ·exact ihq _ _ _ [] F' ρ' a' w' (fun j hj=>by simp at hj) hx2 h2.2 q1' (hE.trans q2) (hK.trans q3) (q4.trans hd)
   ·exact h2.elim
  ·exact h.elim
 |_=>
  intro xs k S l F ρ a w hl hx h hr hE hK hd
  exact fin _ xs k S l F ρ a w hl hx h hr hE hK hd

theorem syC_sound (hcm:G.cm=cmOf P)(hm:P.follows .mixedOrders=true)(hT:TabOk P G T){n:Nat}(hrec:∀xc pl S Q,(sy md T G n xc pl S).ok Q→WpX P G md xc S (fun e S'=>∃p,Q e S' p))
  {xc:XC} {pl:Pn} {S:St} {Q:Ex→St→Pn→Prop} (h:(syC md T G (sy md T G n) xc pl S).ok Q):WpX P G md xc S (fun e S'=>∃p,Q e S' p):=by
 cases xc with
 |skip=>exact wpX_skip hcm ⟨pl,h⟩
 |exit id=>exact wpX_exit hcm ⟨pl,h⟩
 |ret=>exact wpX_ret hcm ⟨pl,h⟩
 |reg s xs dead=>
  simp only[syC]at h
  intro c hcc F ρ a w ro hr hro
  obtain⟨id,ops,rfl,hx⟩:=cm_reg hcm hcc
  have h1:=syReg_ops (md:=md) hT pl xs 0 S ops.toList F ρ a w (fun j _=>by simp) hx h hr (Ext.refl _ _ _) (HKeep.refl _ _ _) rfl
  refine(wpR_region (R:=fun a' w'=>∃S',(∃p,Q .normal S' p)∧Aft G md F ρ (aget S.h) w a.defers S' a' w') (compXOs_defer hx) (by rw[List.range_eq_range'];simpa using h1)).mono ?_
  rintro e a' w' ⟨rfl,h⟩
  exact h
 |draw s xs dep ord dead=>
  simp only[syC,syDraw]at h
  split at h
  ·rename_i S' es cs he
   rw[cond_eq_ite]at h
   split at h
   ·rename_i hB
    obtain⟨h1,h2⟩:=obM_ok hT (exEnts_cf he) h
    exact wpX_draw hcm hm he hB h1 ⟨_,h2⟩
   ·exact h.elim
  ·exact h.elim
 |seq x y=>
  simp only[syC]at h
  refine wpX_seq hcm ((hrec x pl S _ (Tr.bindN_ok h)).mono ?_)
  rintro e S' ⟨p,⟨rfl,hU⟩|⟨hn,hQ⟩⟩
  ·exact .inl ⟨rfl,hrec y p S' Q hU⟩
  ·exact .inr ⟨hn,p,hQ⟩
 |cond o x y=>
  simp only[syC]at h
  split at h
  ·rename_i v hv
   unfold syCond at h
   split at h
   ·have hvt:v=true:=h.1
    exact wpX_cond hcm hv (fun _=>hrec _ _ _ Q h.2) (fun e=>by rw[hvt]at e;cases e)
   ·have hvt:v=false:=h.1
    exact wpX_cond hcm hv (fun e=>by rw[hvt]at e;cases e) (fun _=>hrec _ _ _ Q h.2)
   ·exact wpX_cond hcm hv (fun e=>hrec _ _ _ Q (h.1 e)) (fun e=>hrec _ _ _ Q (h.2 e))
   ·exact wpX_cond hcm hv (fun e=>by rw[e,cond_true]at h;exact hrec _ _ _ Q h) (fun e=>by rw[e,cond_false]at h;exact hrec _ _ _ Q h)
   ·exact wpX_cond hcm hv (fun e=>by rw[e,cond_true]at h;exact hrec _ _ _ Q h) (fun e=>by rw[e,cond_false]at h;exact hrec _ _ _ Q h)
  ·exact h.elim
 |block id x=>
  simp only[syC]at h
  refine wpX_block hcm ((hrec x pl S _ (Tr.catch_ok h)).mono ?_)
  rintro e S' ⟨p,⟨rfl,hQ⟩|⟨hn,hQ⟩⟩
  ·exact .inl ⟨rfl,p,hQ⟩
  ·exact .inr ⟨hn,p,hQ⟩
 |loop x=>
  simp only[syC]at h
  split at h
  ·rename_i β L dl db body
   obtain⟨b0,ps0,_,g2,g3,g4,hall⟩:=arrive_ok h
   have key:∀(N:Nat) (b:β),L.mu b=N→L.pre b→WpX P G md (.loop x) (havS L dl db S b) (fun e S'=>∃p,Q e S' p):=by
    intro N
    induction N using Nat.strongRecOn with
    |_ N ih=>
     intro b hN hb
     refine wpX_loop1 hcm ((hrec x (body b) _ _ (Tr.bindN_ok (hall b hb))).mono ?_)
     rintro e S' ⟨p,⟨rfl,hU⟩|⟨hn,hQ⟩⟩
     ·refine .inl ⟨rfl,WpX.via fun F ρ a w hr=>?_⟩
      obtain⟨S2,⟨p2,h2⟩,r2⟩:=sy_skip hT n p S' _ (Tr.bindN_ok hU) F ρ a w hr
      rcases h2 with⟨_,h2⟩|⟨hn,_⟩
      ·obtain⟨b',ps,_,k2,k3,k4,k5⟩:=arrive_ok h2
       exact⟨_,ih _ (hN▸k5.1) b' rfl k4,Aft.trans r2 fun F' ρ' hr'=>Aft.of_toS k2 k3 hr'⟩
      ·exact absurd rfl hn
     ·exact .inr ⟨hn,p,hQ⟩
   exact WpX.via fun F ρ a w hr=>⟨_,key _ b0 rfl g4,Aft.of_toS g2 g3 hr⟩
  ·refine wpX_loop1 hcm ((hrec x _ S _ (Tr.bindN_ok h)).mono ?_)
   rintro e S' ⟨p,⟨rfl,hU⟩|⟨hn,hQ⟩⟩
   ·exact .inl ⟨rfl,hrec _ p S' Q hU⟩
   ·exact .inr ⟨hn,p,hQ⟩
  ·exact h.elim
 |rangeF g ps as bd=>
  simp only[syC]at h
  split at h
  ·exact syRange_ok hcm hT h
  ·exact h.elim
 |bad=>exact h.elim
 |scope x=>exact wpX_scope hcm (hrec x pl S Q h)

theorem sy_sound (hcm:G.cm=cmOf P)(hm:P.follows .mixedOrders=true)(hT:TabOk P G T):∀(n:Nat) (xc:XC) (pl:Pn) (S:St) (Q:Ex→St→Pn→Prop),(sy md T G n xc pl S).ok Q→WpX P G md xc S (fun e S'=>∃p,Q e S' p):=by
 intro n
 induction n with
 |zero=>intro xc pl S Q h;exact h.elim
 |succ n ih=>
  intro xc pl S Q h
  simp only[sy]at h
  split at h
  ·split at h
   ·rename_i S' cs hz
    obtain⟨h1,h2⟩:=obM_ok hT (frzS_cf hz) h
    exact WpX.pre (fun F ρ a w hr=>by obtain⟨F',q1,q2,q3⟩:=frzS_ok hz h1 hr;exact⟨F',ρ,q1,q2,q3.kp⟩) (ih _ _ _ Q h2)
   ·exact h.elim
  ·split at h
   ·rename_i c len k hz
    intro cc hc F ρ a w ro hr hro
    obtain⟨k',q⟩:=capS_ok hz hr
    exact ih _ _ _ Q (h k' trivial) cc hc F ρ a w ro q hro
   ·exact h.elim
  ·split at h
   ·rename_i S' hz
    exact WpX.pre (fun F ρ a w hr=>by obtain⟨ρ',q1,q2,q3⟩:=gcS_ok hz hr;exact⟨F,ρ',q1,q2,q3⟩) (ih _ _ _ Q h)
   ·exact h.elim
  ·split at h
   ·rename_i S' hz
    exact WpX.pre (fun F ρ a w hr=>⟨F,ρ,(ghoS_ok hz hr).1,Ext.refl _ _ _,(ghoS_ok hz hr).2.kp⟩) (ih _ _ _ Q h)
   ·exact h.elim
  ·split at h
   ·rename_i S' hz
    exact WpX.pre (fun F ρ a w hr=>⟨F,ρ,(ghcS_ok hz hr).1,Ext.refl _ _ _,(ghcS_ok hz hr).2.kp⟩) (ih _ _ _ Q h)
   ·exact h.elim
  ·split at h
   ·rename_i ps hz
    rw[cond_eq_ite]at h
    split at h
    ·rename_i hk
     obtain⟨h1,h2⟩:=obL_ok h
     exact WpX.pre (fun F ρ a w hr=>by obtain⟨ρ',q1,q2,q3⟩:=ren_sound hz h1 hr;exact⟨F,ρ',q1,q2,q3 _ hk⟩) (ih _ _ _ Q h2)
    ·exact h.elim
   ·exact h.elim
  ·rename_i b p p'
   intro c hc
   cases hb:b with
   |true=>exact ih _ _ _ Q (h.1 hb) c hc
   |false=>exact ih _ _ _ Q (h.2 hb) c hc
  ·exact ih _ _ _ Q (h.2 h.1.1)
  ·rename_i β L dl db p q
   rw[cond_eq_ite]at h
   split at h
   case isFalse=>exact syC_sound hcm hm hT ih h
   obtain⟨hA,hB⟩:=h
   refine(ih _ _ _ _ (Tr.bindN_ok hA)).post ?_
   rintro e S' ⟨p',⟨rfl,hU⟩|⟨hn,hQ⟩⟩ F ρ a w hr
   ·obtain⟨S2,⟨p2,h2⟩,r2⟩:=sy_skip hT n p' S' _ (Tr.bindN_ok hU) F ρ a w hr
    rcases h2 with⟨_,h2⟩|⟨hn,_⟩
    ·obtain⟨b',ps,_,k2,k3,k4,_⟩:=arrive_ok h2
     exact⟨_,⟨_,hB b' k4⟩,Aft.trans r2 fun F' ρ' hr'=>Aft.of_toS k2 k3 hr'⟩
    ·exact absurd rfl hn
   ·exact⟨S',⟨p',hQ⟩,.here hr⟩
  ·exact syC_sound hcm hm hT ih h

end

abbrev yM (s:Nat):Nat×(GDir×Dr):=(s,(.may,.plain))
abbrev yL (s:Nat):Nat×(GDir×Dr):=(s,(.onl,.plain))
abbrev yO (s:Nat):Nat×(GDir×Dr):=(s,(.on,.plain))
abbrev iL (l:List Int):List Int:=l
abbrev iI (n:Int):Int:=n
abbrev uL (l:List UInt8):List UInt8:=l
def endP (rts:List RT)(vals:List AV)(blks:List Blk)(e:Ex)(S:St):Prop:=
 match e with
 |.exit _=>False
 |_=>match resV S rts with
  |some vs=>match renS (sgS (resS S vs) (retS vals blks)) (resS S vs) (retS vals blks)with
   |some ps=>PAll ps
   |none=>False
  |none=>False
def fnP (T:Tab)(G:GL)(n:Nat)(fe:FnE)(pl:Pn)(args vals:List AV)(blks:List Blk):Prop:=
 (sy ⟨none,[]⟩ T G n fe.xc pl (entryS args fe.n)).ok (fun e S _=>endP fe.rts vals blks e S)
theorem fnP_spec {P:Program}{G:GL}{T:Tab}{n:Nat}{f:Nat}{fe:FnE}{pl:Pn}{args vals:List AV}{blks:List Blk}{p:Prop}(hcm:G.cm=cmOf P)(hmx:P.follows .mixedOrders=true)(hT:TabOk P G T)(hf:FnOk P f fe)(hle:Nat.ble args.length fe.n=true)
  (h:fnP T G n fe pl args vals blks=p) (hp:p):SpecP P G f args (retV vals) blks:=by
 obtain⟨fn,c,g1,g2,g3,g4,g5,g6⟩:=hf
 have h0:fnP T G n fe pl args vals blks:=by rw[h];exact hp
 have h1:=sy_sound hcm hmx hT n fe.xc pl _ _ h0
 rw[← g6]at h1 hle
 refine spec_of_body (rts:=fe.rts) (vals:=vals) (blks:=blks) hcm g1 g2 g3 g4 g5 hle (h1.mono ?_)
 rintro e S' ⟨_,hq⟩
 unfold endP at hq
 split at hq
 ·exact hq.elim
 ·rename_i hne
  refine⟨?_,?_⟩
  ·cases e with
   |normal=>exact .inr rfl
   |ret=>exact .inl rfl
   |exit i=>exact absurd rfl (hne i)
  ·split at hq
   ·rename_i vs hvs
    split at hq
    ·rename_i ps hps
     exact⟨vs,_,ps,hvs,hps,hq⟩
    ·exact hq.elim
   ·exact hq.elim

def endD (rts:List RT)(vals:List AV)(h ws:List (Nat×HO))(e:Ex)(S:St):Prop:=
 match e with
 |.exit _=>False
 |_=>match resV S rts with
  |some vs=>match renS (sgS (resS S vs) (retH vals h ws)) (resS S vs) (retH vals h ws)with
   |some ps=>cond (keepB (sgS (resS S vs) (retH vals h ws)) (resS S vs) (retH vals h ws) (keys h)) (PAll ps) False
   |none=>False
  |none=>False
def fnD (T:Tab)(G:GL)(n:Nat)(fe:FnE)(pl:Pn)(args:List AV)(h:List (Nat×HO))(vals:List AV)(ws:List (Nat×HO)):Prop:=
 (sy ⟨none,keys h⟩ T G n fe.xc pl (entryH args h fe.n)).ok (fun e S _=>endD fe.rts vals h ws e S)
theorem fnD_spec {P:Program}{G:GL}{T:Tab}{n:Nat}{f:Nat}{fe:FnE}{pl:Pn}{args vals:List AV}{h ws:List (Nat×HO)}{p:Prop}(hcm:G.cm=cmOf P)(hmx:P.follows .mixedOrders=true)(hT:TabOk P G T)(hf:FnOk P f fe)(hle:Nat.ble args.length fe.n=true)
  (he:fnD T G n fe pl args h vals ws=p) (hp:p):SpecD P G (.fn f [] []) args h (retV vals) ws []:=by
 obtain⟨fn,c,g1,g2,g3,g4,g5,g6⟩:=hf
 have h0:fnD T G n fe pl args h vals ws:=by rw[he];exact hp
 have h1:=sy_sound hcm hmx hT n fe.xc pl _ _ h0
 rw[← g6]at h1 hle
 refine specD_of_body (rts:=fe.rts) (vals:=vals) hcm g1 g2 g3 g4 g5 hle (h1.mono ?_)
 rintro e S' ⟨_,hq⟩
 unfold endD at hq
 split at hq
 ·exact hq.elim
 ·rename_i hne
  refine⟨?_,?_⟩
  ·cases e with
   |normal=>exact .inr rfl
   |ret=>exact .inl rfl
   |exit i=>exact absurd rfl (hne i)
  ·split at hq
   ·rename_i vs hvs
    split at hq
    ·rename_i ps hps
     rw[cond_eq_ite]at hq
     split at hq
     ·rename_i hk
      exact⟨vs,_,ps,hvs,hps,hq,hk⟩
     ·exact hq.elim
    ·exact hq.elim
   ·exact hq.elim

abbrev CtE:=List AV→Option Ct
def tabL (l:List (Nat×CtE))(ch:List (Nat×HO)→AV→List AV→Option Cx):Tab:=
 ⟨fun f args=>match aget l f with
  |some e=>e args
  |none=>none,ch⟩
def noCh:List (Nat×HO)→AV→List AV→Option Cx:=fun _ _ _=>none
def CtOk (P:Program)(G:GL)(f:Nat)(e:CtE):Prop:=∀args r,e args=some r→optP r.p→SpecP P G f args r.v r.bs
def ChOk (P:Program)(G:GL)(ch:List (Nat×HO)→AV→List AV→Option Cx):Prop:=∀h cv args r,ch h cv args=some r→optP r.p→SpecD P G cv args h r.v r.ws []
theorem noCh_ok {P:Program}{G:GL}:ChOk P G noCh:=fun h cv args r e=>by cases e
def CtsOk (P:Program)(G:GL):List (Nat×CtE)→Prop
 |[]=>True
 |(f,e)::r=>CtOk P G f e∧CtsOk P G r
theorem tabL_ok {P:Program}{G:GL}{ch:List (Nat×HO)→AV→List AV→Option Cx}(hch:ChOk P G ch):∀{l:List (Nat×CtE)},CtsOk P G l→TabOk P G (tabL l ch):=fun{l} hl=>by
 refine⟨?_,hch⟩
 induction l with
 |nil=>intro f args r h;simp[tabL,aget]at h
 |cons p r ih=>
  obtain⟨g,e⟩:=p
  intro f args x h hp
  simp only[tabL,aget]at h
  by_cases hg:g=f
  ·subst hg
   rw[beq_self,cond_true]at h
   exact hl.1 args x h hp
  ·rw[beq_ne hg,cond_false]at h
   exact ih hl.2 f args x (by simpa[tabL]using h) hp

/-! ### For what is asked -/
@[simp] theorem ltb_iff {x y:Int}:ltb x y=true↔x<y:=by simp[ltb]
@[simp] theorem ltb_no {x y:Int}:ltb x y=false↔y≤x:=by simp[ltb]
@[simp] theorem leb_iff {x y:Int}:leb x y=true↔x≤y:=by simp[leb]
@[simp] theorem leb_no {x y:Int}:leb x y=false↔y<x:=by simp[leb]
@[simp] theorem ltn_iff {x y:Nat}:ltn x y=true↔x<y:=by simp[ltn]
@[simp] theorem ltn_no {x y:Nat}:ltn x y=false↔y≤x:=by simp[ltn]
@[simp] theorem len'_iff {x y:Nat}:len' x y=true↔x≤y:=by simp[len']
@[simp] theorem len'_no {x y:Nat}:len' x y=false↔y<x:=by simp[len']
@[simp] theorem inR_i64 {n:Int}:inR .i64 n=true↔ -9223372036854775808≤n∧n≤9223372036854775807:=by
 simp[inR,IntKind.min,IntKind.max,IntKind.signed,IntKind.bits]
@[simp] theorem inR_u8 {n:Int}:inR .u8 n=true↔0≤n∧n≤255:=by
 simp[inR,IntKind.min,IntKind.max,IntKind.signed,IntKind.bits]
@[simp] theorem inR_i32 {n:Int}:inR .i32 n=true↔ -2147483648≤n∧n≤2147483647:=by
 simp[inR,IntKind.min,IntKind.max,IntKind.signed,IntKind.bits]
@[simp] theorem size_ints {k:IntKind}{l:List Int}:(Cont.ints k l).size=l.length:=rfl
@[simp] theorem size_bools {l:List Bool}:(Cont.bools l).size=l.length:=rfl
@[simp] theorem size_vals {l:List AV}:(Cont.vals l).size=l.length:=rfl
@[simp] theorem size_cells {l:List AV}:(Cont.cells l).size=l.length:=rfl
@[simp] theorem getD_drop {α:Type}(l:List α)(n i:Nat)(d:α):(l.drop n).getD i d=l.getD (n+i) d:=by
 simp[List.getD_eq_getElem?_getD]

/-! ### Arguments said with less -/
theorem SpecP.args {P:Program}{G:GL}{f:Nat}{args args':List AV}{v:AV}{bs:List Blk}(h:SpecP P G f args' v bs)(hr:∀w F xs,RelIs w F args xs→RelIs w F args' xs):SpecP P G f args v bs:=
 fun F w vs hm hv=>h F w vs hm (hr w F vs.toList hv)
mutual
def capsV:AV→AV
 |.imm c l _=>.imm c l none
 |.agg l=>.agg (capsL l)
 |v=>v
def capsL:List AV→List AV
 |[]=>[]
 |v::r=>capsV v::capsL r
end
mutual
theorem RelI.caps {w:World}{F:Nat→Prop}:∀{v:AV} {x:Value},RelI w F v x→RelI w F (capsV v) x
 |_,_,.undef x=>.undef x
 |_,_,.bool b=>.bool b
 |_,_,.int k n=>.int k n
 |_,_,.str l s h=>.str l s h
 |_,_,.nilp=>.nilp
 |_,_,.nils=>.nils
 |_,_,.nilf=>.nilf
 |_,_,.nili=>.nili
 |_,_,.nn a l c=>.nn a l c
 |_,_,.iptr c b o xs hb hc hr ho=>.iptr c b o xs hb hc hr ho
 |_,_,.imm c len cap b o cap' xs hb hc hr ho hl hcap=>.imm c len none b o cap' xs hb hc hr ho hl (fun n e=>by cases e)
 |_,_,.imm0 c cap x hc hcap=>.imm0 c none x hc (fun n e=>by cases e)
 |_,_,.fn f l1 l2 x1 x2 h1 h2=>.fn f l1 l2 x1 x2 h1 h2
 |_,_,.agg l x h=>.agg _ x h.caps
 |_,_,.tup l x h=>.tup l x h
 |_,_,.may b v x h hn=>.may b v x h hn
 |_,_,.iface t v x h=>.iface t v x h
theorem RelIs.caps {w:World}{F:Nat→Prop}:∀{l:List AV} {xs:List Value},RelIs w F l xs→RelIs w F (capsL l) xs
 |_,_,.nil=>.nil
 |_,_,.cons v l x xs h hs=>.cons _ _ x xs h.caps hs.caps
end
theorem SpecP.caps {P:Program}{G:GL}{f:Nat}{args:List AV}{v:AV}{bs:List Blk}(h:SpecP P G f (capsL args) v bs):SpecP P G f args v bs:=h.args fun _ _ _ h=>h.caps
/-! ### Joins -/
structure VI where v:Int
structure VB where v:Bool
structure VL where v:List Int
def jI (t:Nat)(k:IntKind)(x:Int):LpS VI where
 ov b:=[(t,.int k b.v)]
 bk b:=[]
 rd S:=match aget S.t t with
  |some (.int _ i)=>some ⟨i⟩
  |_=>none
 pre b:=b.v=x
 mu b:=0
def blkOf (k:IntKind)(a:List Int):Blk:=⟨.ints k a,1,a.length,none,some true,true,false⟩
def jL (id:Nat)(k:IntKind)(vs:List Int→List (Nat×HO))(x:List Int):LpS VL where
 ov b:=[]
 bk b:=(id,.blk (blkOf k b.v))::vs b.v
 rd S:=match aget S.h id with
  |some (.blk ⟨.ints _ a,_,_,_,_,_,_⟩)=>some ⟨a⟩
  |_=>none
 pre b:=b.v=x
 mu b:=0
end Go.Ab

/-
 Ranges over functions: the contract of a round (a call of yield), from the round's code.
-/
set_option linter.unusedVariables false
set_option linter.unusedSimpArgs false
namespace Go.Ab
open Go

section
variable {P:Program}{G:GL}{md:Md}{T:Tab}{F:Nat→Prop}{ρ:Nat→Option Nat}{a:Act}{w:World}
theorem yld_soundQ (hcm:G.cm=cmOf P){id:Nat}{l:LoopS}{h:List (Nat×HO)}(hl:aget h id=some (.loop l))(hst:Nat.beq l.st 0=true){args:List AV}(hlen:Nat.beq args.length l.ps.length=true)(hps:allLtP l.n l.ps=true)
  {R:Ex→St→Prop} {D:Delta}
  (h1:WpX P G ⟨some id,keys h⟩ l.as ⟨setPs l.t l.ps args,h,l.n⟩ (fun e S1=>e=.normal∧∃l1,aget S1.h id=some (.loop l1)∧Nat.beq l1.st 0=true∧
   WpX P G ⟨some id,keys h⟩ l.bd {S1 with h:=aset S1.h id (.loop {l1 with st:=1})} (fun e S2=>∃l2,aget S2.h id=some (.loop l2)∧R e {S2 with h:=aset S2.h id (.loop {l2 with st:=cond e.isN 0 2,pend:=cond e.isN none (some e)})})))
  (hfin:∀e S3,R e S3→∀F ρ w F' ρ' w2,MRel G F ρ (aget h) w→MRel G F' ρ' (aget S3.h) w2→Ext G F ρ w F' ρ' w2→
   HKp (keys h) w ρ (aget h) w2 ρ' (aget S3.h)→KD G F ρ (aget h) w D (.bool e.isN) w2):SpecD P G (.yld id) args h D.v D.ws D.al:=by
 intro F ρ w xs hm hv b hb
 obtain⟨b',z1,z2,r,z3,z4⟩:=hm.heap id _ hl
 rw[hb]at z1;cases z1
 have hargs:xs.size=r.params.size:=by
  have e1:=hv.len
  have e2:=Nat.eq_of_beq_eq_true hlen
  have e3:r.params.toList.length=l.ps.length:=by rw[z4.ps]
  simp at e1 e3
  omega
 refine .inr (.inr ⟨b,r.fn,_,r.assign,r.body,w,run_yield z3 hargs,fun c cs=>?_⟩)
 rw[round_fold,z4.ps]
 let tm:Array Value:=(l.ps.zip xs.toList).foldl (fun(tmps:Array Value) (p:Nat×Value)=>tmps.setIfInBounds p.1 p.2) r.tmps
 have htm:∀i v,aget (setPs l.t l.ps args) i=some v→RelV w F ρ (aget h) v (tm.getD i undef):=setPs_rel (qs:=[]) hv z4.tmps (by rw[z4.size];exact hps)
 let b0:Frame:={(default:Frame)with fn:=r.fn,kind:=.normal,roundOf:=some b}
 have hb0:Frame.round b r.fn tm r.assign r.body .normal=b0.atR {tmps:=tm,defers:=[]} [.code r.assign,.beginRound,.code r.body]:=by simp[Frame.round,Frame.atR,b0]
 have hr0:RS G F ρ ⟨setPs l.t l.ps args,h,l.n⟩ {tmps:=tm,defers:=[]} w:=⟨by show tm.size=l.n;rw[← z4.size];exact setPs_size,htm,hm,⟨[],by simp,rfl,fun r hr=>by simp at hr⟩⟩
 have hro0:RoOk ⟨some id,keys h⟩ ρ (aget h) (some b):=⟨b,_,rfl,hb,hl,rfl⟩
 obtain⟨e1,a1,w1,⟨S',⟨rfl,l1,hl1,hst1,h2⟩,F1,ρ1,r1,x1,k1,_⟩,harr⟩:=h1 r.assign z4.as F ρ _ w (some b) hr0 hro0 b0 [.beginRound,.code r.body] (c::cs) rfl
 have hks:(⟨some id,keys h⟩:Md).ks=id::keys h:=rfl
 rw[hks]at k1
 have hid1:ρ1 id=some b:=by
  obtain⟨o',g1,g2,g3⟩:=k1.box id _ (by simp) hl rfl
  exact g3.trans hb
 -- the record is busy
 obtain⟨b1,y1,y2,rr,y3,y4⟩:=r1.mem.heap id _ hl1
 rw[hid1]at y1;cases y1
 have hbr:=run_beginRound (P:=P) y3 (by rw[y4.st];exact stOf_ready hst1)
 have hlt1:=lt_of_some y3
 obtain⟨m2,x2,k2⟩:=r1.mem.write (w':=w1.putObj b (.loop {rr with state:=.busy})) (o':=.loop {l1 with st:=1}) hl1 hid1 y2 (World.putObj_heap_same hlt1) (fun j hj=>World.putObj_heap_other hj) World.putObj_size ⟨rfl,rfl,fun _=>⟨rfl,Nat.le_refl _⟩⟩
  (fun cs ty fz h=>by rw[y3]at h;cases h) rfl (fun k h=>by cases h)
  (fun hk=>⟨b,hid1,y2,_,World.putObj_heap_same hlt1,⟨rfl,y4.pend,y4.size,fun t v h=>(y4.tmps t v h).mono (fun b' hb'=>World.putObj_heap_other (fun(e:b'=b)=>y2 (by rw[← e];exact hb'))) (fun _ h=>h) hk,y4.ps,y4.as,y4.bd⟩⟩)
 rw[← aget_aset]at m2 k2
 have r2:RS G F1 ρ1 {S' with h:=aset S'.h id (.loop {l1 with st:=1})} a1 (w1.putObj b (.loop {rr with state:=.busy})):=⟨r1.size,fun t v h=>(r1.tmps t v h).mono x2.frz x2.keep k2,m2,r1.defs.ext x2 rfl⟩
 have hro2:RoOk ⟨some id,keys h⟩ ρ1 (aget (aset S'.h id (.loop {l1 with st:=1}))) (some b):=⟨b,.loop {l1 with st:=1},rfl,hid1,by rw[aget_aset,upd_same],rfl⟩
 have s1:Steps P (lone (b0.atR a1 [.beginRound,.code r.body]) (c::cs) w1) (lone (b0.atR a1 [.code r.body]) (c::cs) (w1.putObj b (.loop {rr with state:=.busy}))):=.one (stepR_beginRound rfl hbr)
 obtain⟨e2,a2,w3,⟨S'',⟨l2,hl2,hR⟩,F3,ρ3,r3,x3,k3,_⟩,harr2⟩:=h2 r.body z4.bd F1 ρ1 _ _ (some b) r2 hro2 b0 [] (c::cs) rfl
 rw[hks]at k3
 have hid3:ρ3 id=some b:=by
  obtain⟨o',g1,g2,g3⟩:=k3.box id (.loop {l1 with st:=1}) (by simp) (by simp only;rw[aget_aset,upd_same]) rfl
  exact g3.trans hid1
 obtain⟨b3,u1,u2,rq,u3,u4⟩:=r3.mem.heap id _ hl2
 rw[hid3]at u1;cases u1
 have hlt3:=lt_of_some u3
 -- how the round is left
 let jump:Option Code:=cond e2.isN none (some e2.code)
 have hend:=run_endRound (P:=P) jump u3
 have hjn:jump.isNone=e2.isN:=by cases e2<;>rfl
 rw[hjn]at hend
 obtain⟨m4,x4,k4⟩:=r3.mem.write (w':=w3.putObj b (.loop {rq with state:=if e2.isN then .ready else .done,pending:=jump})) (o':=.loop {l2 with st:=cond e2.isN 0 2,pend:=cond e2.isN none (some e2)}) hl2 hid3 u2 (World.putObj_heap_same hlt3) (fun j hj=>World.putObj_heap_other hj) World.putObj_size ⟨rfl,rfl,fun _=>⟨rfl,Nat.le_refl _⟩⟩
  (fun cs ty fz h=>by rw[u3]at h;cases h) rfl (fun k h=>by cases h)
  (fun hk=>⟨b,hid3,u2,_,World.putObj_heap_same hlt3,⟨by cases e2<;>rfl,by cases e2<;>rfl,u4.size,fun t v h=>(u4.tmps t v h).mono (fun b' hb'=>World.putObj_heap_other (fun(e:b'=b)=>u2 (by rw[← e];exact hb'))) (fun _ h=>h) hk,u4.ps,u4.as,u4.bd⟩⟩)
 rw[← aget_aset]at m4 k4
 have hkp:HKp (keys h) w ρ (aget h) (w3.putObj b (.loop {rq with state:=if e2.isN then .ready else .done,pending:=jump})) ρ3 (aget (aset S''.h id (.loop {l2 with st:=cond e2.isN 0 2,pend:=cond e2.isN none (some e2)}))):=by
  have sub:∀{w w':World} {ρ ρ':Nat→Option Nat} {h1 h2:Nat→Option HO},HKp (id::keys h) w ρ h1 w' ρ' h2→HKp (keys h) w ρ h1 w' ρ' h2:=fun k=>⟨fun i o hi=>k.box i o (by simp[hi]),fun i o hi=>k.blk i o (by simp[hi]),k.sz⟩
  exact(((sub k1).trans k2.kp).trans (sub k3)).trans k4.kp
 have hK:=hfin e2 _ hR F ρ w F3 ρ3 _ hm m4 (((x1.trans x2).trans x3).trans x4) hkp
 refine⟨.bool e2.isN,_,hK,?_⟩
 have hfirst:Steps P (lone (Frame.round b r.fn tm r.assign r.body .normal) (c::cs) w) (lone (b0.atR a1 [.code r.body]) (c::cs) (w1.putObj b (.loop {rr with state:=.busy}))):=by
  rw[hb0];exact Steps.trans harr s1
 cases e2 with
 |normal=>exact hfirst.trans (Steps.trans harr2 (.one (stepR_round_end rfl rfl hend)))
 |ret=>
  obtain⟨todo,hs⟩:=harr2
  exact hfirst.trans (hs.trans (.one (stepR_round_ret rfl rfl hend)))
 |exit i=>
  obtain⟨k0,hk0,hs⟩:=harr2
  exact hfirst.trans (hs.trans (.one (stepR_round_exit rfl rfl (by rw[hk0];rfl) hend)))

def Tr.only (f:St→Pn→Tr):Tr→Tr
 |.leaf e S p=>match e with
  |.normal=>f S p
  |_=>.bad
 |.ob p t=>.ob p (t.only f)
 |.br b t u=>.br b (t.only f) (u.only f)
 |.all pre t=>.all pre (fun b=>(t b).only f)
 |.imp p t=>.imp p (t.only f)
 |.both t u=>.both (t.only f) (u.only f)
 |.done=>.done
 |.bad=>.bad
theorem Tr.only_ok {f:St→Pn→Tr}{Q:Ex→St→Pn→Prop}:∀{t:Tr},(t.only f).ok Q→t.ok (fun e S p=>e=.normal∧(f S p).ok Q)
 |.leaf e S p,h=>by
  simp only[Tr.only]at h
  split at h
  ·exact⟨rfl,h⟩
  ·exact h.elim
 |.ob p t,h=>⟨h.1,Tr.only_ok h.2⟩
 |.br b t u,h=>⟨fun hb=>Tr.only_ok (h.1 hb),fun hb=>Tr.only_ok (h.2 hb)⟩
 |.all pre t,h=>fun b hb=>Tr.only_ok (h b hb)
 |.imp p t,h=>fun hp=>Tr.only_ok (h hp)
 |.both t u,h=>⟨Tr.only_ok h.1,Tr.only_ok h.2⟩
 |.done,h=>trivial
 |.bad,h=>h

def endY (id:Nat)(v:Bool)(h ws:List (Nat×HO))(e:Ex)(S:St):Prop:=
 match aget S.h id with
 |some (.loop l2)=>match renS (sgS ⟨entryT 0 [.bool e.isN],aset S.h id (.loop {l2 with st:=cond e.isN 0 2,pend:=cond e.isN none (some e)}),1⟩ (retH [.bool v] h ws)) ⟨entryT 0 [.bool e.isN],aset S.h id (.loop {l2 with st:=cond e.isN 0 2,pend:=cond e.isN none (some e)}),1⟩ (retH [.bool v] h ws)with
  |some ps=>cond (keepB (sgS ⟨entryT 0 [.bool e.isN],aset S.h id (.loop {l2 with st:=cond e.isN 0 2,pend:=cond e.isN none (some e)}),1⟩ (retH [.bool v] h ws)) ⟨entryT 0 [.bool e.isN],aset S.h id (.loop {l2 with st:=cond e.isN 0 2,pend:=cond e.isN none (some e)}),1⟩ (retH [.bool v] h ws) (keys h)) (PAll ps) False
  |none=>False
 |_=>False
def fnY (T:Tab)(G:GL)(n id:Nat)(pl:Pn)(args:List AV)(h:List (Nat×HO))(v:Bool)(ws:List (Nat×HO)):Prop:=
 match aget h id with
 |some (.loop l)=>cond (Nat.beq l.st 0&&(Nat.beq args.length l.ps.length&&allLtP l.n l.ps))
  (((sy ⟨some id,keys h⟩ T G n l.as pl ⟨setPs l.t l.ps args,h,l.n⟩).only (fun S1 p=>match aget S1.h id with
   |some (.loop l1)=>cond (Nat.beq l1.st 0) (sy ⟨some id,keys h⟩ T G n l.bd p {S1 with h:=aset S1.h id (.loop {l1 with st:=1})}) .bad
   |_=>.bad)).ok (fun e S _=>endY id v h ws e S)) False
 |_=>False
theorem fnY_spec {n id:Nat}{pl:Pn}{args:List AV}{h ws:List (Nat×HO)}{v:Bool}{p:Prop}(hcm:G.cm=cmOf P)(hmx:P.follows .mixedOrders=true)(hT:TabOk P G T)
  (he:fnY T G n id pl args h v ws=p) (hp:p):SpecD P G (.yld id) args h (.bool v) ws []:=by
 have h0:fnY T G n id pl args h v ws:=by rw[he];exact hp
 unfold fnY at h0
 split at h0
 ·rename_i l hl
  rw[cond_eq_ite]at h0
  split at h0
  ·rename_i hc
   simp only[Bool.and_eq_true]at hc
   refine yld_soundQ hcm hl hc.1 hc.2.1 hc.2.2 (D:={v:=.bool v,ws:=ws,al:=[],cs:=[]})
    (R:=fun e S3=>∃ps,renS (sgS ⟨entryT 0 [.bool e.isN],S3.h,1⟩ (retH [.bool v] h ws)) ⟨entryT 0 [.bool e.isN],S3.h,1⟩ (retH [.bool v] h ws)=some ps∧PAll ps∧keepB (sgS ⟨entryT 0 [.bool e.isN],S3.h,1⟩ (retH [.bool v] h ws)) ⟨entryT 0 [.bool e.isN],S3.h,1⟩ (retH [.bool v] h ws) (keys h)=true)
    ((sy_sound hcm hmx hT n l.as pl _ _ (Tr.only_ok h0)).mono ?_) ?_
   ·rintro e S1 ⟨p1,rfl,h1⟩
    refine⟨rfl,?_⟩
    split at h1
    ·rename_i l1 hl1
     rw[cond_eq_ite]at h1
     split at h1
     ·rename_i hst
      refine⟨l1,hl1,hst,(sy_sound hcm hmx hT n l.bd p1 _ _ h1).mono ?_⟩
      rintro e S2 ⟨_,h2⟩
      unfold endY at h2
      split at h2
      ·rename_i l2 hl2
       refine⟨l2,hl2,?_⟩
       split at h2
       ·rename_i ps hps
        rw[cond_eq_ite]at h2
        split at h2
        ·rename_i hk
         exact⟨ps,hps,h2,hk⟩
        ·exact h2.elim
       ·exact h2.elim
      ·exact h2.elim
     ·exact h1.elim
    ·exact h1.elim
   ·rintro e S3 ⟨ps,hren,hps,hkeep⟩ F ρ w F' ρ' w2 hm q1 q3 q4
    obtain⟨hn,ρ2,r1,r2,r3,r4⟩:=ren_soundM (S:=⟨entryT 0 [.bool e.isN],S3.h,1⟩) hren hps q1
    have hk2:=q4.trans (r4 _ hkeep)
    simp only[retH,aget_asets]at r1 r3 hk2
    refine⟨F',ρ2,r1,q3.trans r2,hk2.all,?_⟩
    have h1:=r3 #[.bool e.isN] (entryT_tmps (xs:=[.bool e.isN]) (.cons _ _ _ _ (.imm _ _ (.bool _)) .nil))
    have h2:=h1 0 (.bool v) (by simp[entryT,aget,beq_self])
    simpa using h2
  ·exact h0.elim
 ·exact h0.elim
end

def XC.rf:XC→Option (List Nat×XC×XC)
 |.rangeF _ ps as bd=>some (ps,as,bd)
 |.seq a b=>match a.rf with
  |some r=>some r
  |none=>b.rf
 |.cond _ a b=>match a.rf with
  |some r=>some r
  |none=>b.rf
 |.block _ a=>a.rf
 |.loop a=>a.rf
 |.scope a=>a.rf
 |_=>none
def rfLoop (fe:FnE)(t:List (Nat×AV)):LoopS:=match fe.xc.rf with
 |some (ps,as,bd)=>⟨0,none,t,fe.n,ps,as,bd⟩
 |none=>⟨0,none,t,fe.n,[],.bad,.bad⟩
end Go.Ab

/-
 The native function that the evaluator answers: the place of a byte in a text.
-/
set_option linter.unusedVariables false
namespace Go.Ab
open Go Go.Lib

def idxB:List UInt8→UInt8→Int→Int
 |[],_,_=> -1
 |b::l,c,i=>cond (Nat.beq b.toNat c.toNat) i (idxB l c (i+1))
theorem idxB_eq (c:UInt8):∀(l:List UInt8) (i:Int),idxB l c i=if indexByte l c== -1 then -1 else i+indexByte l c
 |[],i=>by simp[idxB,indexByte]
 |b::l,i=>by
  rw[idxB,idxB_eq c l (i+1),indexByte]
  have hb:Nat.beq b.toNat c.toNat=(b==c):=by
   cases h:(b==c)with
   |true=>rw[beq_iff_eq]at h;subst h;simp
   |false=>
    have:b.toNat≠c.toNat:=fun e=>by
     rw[beq_eq_false_iff_ne]at h
     exact h (UInt8.toNat_inj.1 e)
    exact Bool.eq_false_iff.2 fun e=>this (Nat.eq_of_beq_eq_true e)
  have hge:=indexByte_ge l c
  rw[hb]
  cases(b==c)with
  |true=>simp
  |false=>
   simp only[cond_false,Bool.false_eq_true,if_false]
   by_cases h:indexByte l c= -1
   ·simp[h]
   ·have h1:¬ (indexByte l c+1= -1):=by omega
    simp[h,h1];omega
def natIdx (i:Nat)(f:Nat)(args:List AV):Option AV:=
 cond (Nat.beq i f) (match args with
  |[.str s,.int .u8 b]=>some (.int .i64 (idxB s b.toNat.toUInt8 0))
  |_=>none) none
theorem natIdx_ok {P:Program}{i:Nat}{fn:Func}(hf:P.funcs[i]? =some fn)(hname:(fn.name=="runtime.NumGoroutine")=false)
  (hb:fn.body.isNone=true) (hn:Extern.findNext fn=none) (he:Extern.find fn=some Extern.BytealgIndexByte.indexByte):NatOk P (natIdx i):=by
 intro f args v h F ρ H w xs hx
 unfold natIdx at h
 rw[cond_eq_ite]at h
 split at h
 ·rename_i hif
  have hif:=Nat.eq_of_beq_eq_true hif
  subst hif
  split at h
  ·rename_i s b
   cases h
   obtain⟨l⟩:=xs
   cases hx with
   |cons _ _ x1 r1 h1 hr=>
    cases hr with
    |cons _ _ x2 r2 h2 hr2=>
     cases hr2
     obtain⟨sb,rfl,hs⟩:=h1.strs
     have:=h2.ints;subst this
     refine⟨.int .i64 (indexByte s b.toNat.toUInt8),?_,?_⟩
     ·rw[run_callFunc_indexByte hf hname hb hn he]
      have:=run_indexByteString (P:=P) sb b w
      rw[hs]at this
      rw[this]
      rfl
     ·have hge:=indexByte_ge s b.toNat.toUInt8
      have:idxB s b.toNat.toUInt8 0=indexByte s b.toNat.toUInt8:=by
       rw[idxB_eq]
       by_cases h:indexByte s b.toNat.toUInt8= -1
       ·simp[h]
       ·simp[h]
      rw[this]
      exact .imm _ _ (.int _ _)
  ·cases h
 ·cases h
def cntB:List UInt8→UInt8→Int→Int
 |[],_,n=>n
 |b::l,c,n=>cond (Nat.beq b.toNat c.toNat) (cntB l c (n+1)) (cntB l c n)
theorem cntB_eq (c:UInt8):∀(l:List UInt8) (n:Int),cntB l c n=n+(countByte l c:Nat)
 |[],n=>by simp[cntB,countByte]
 |b::l,n=>by
  have hb:Nat.beq b.toNat c.toNat=(b==c):=by
   cases h:(b==c)with
   |true=>rw[beq_iff_eq]at h;subst h;simp
   |false=>
    have:b.toNat≠c.toNat:=fun e=>by
     rw[beq_eq_false_iff_ne]at h
     exact h (UInt8.toNat_inj.1 e)
    exact Bool.eq_false_iff.2 fun e=>this (Nat.eq_of_beq_eq_true e)
  unfold cntB countByte
  rw[hb,List.count_cons,cntB_eq c l,cntB_eq c l]
  cases(b==c)with
  |true=>simp[countByte];omega
  |false=>simp[countByte]
def natCnt (i:Nat)(f:Nat)(args:List AV):Option AV:=
 cond (Nat.beq i f) (match args with
  |[.str s,.int .u8 b]=>some (.int .i64 (cntB s b.toNat.toUInt8 0))
  |_=>none) none
theorem natCnt_ok {P:Program}{i:Nat}{fn:Func}(hf:P.funcs[i]? =some fn)(hname:(fn.name=="runtime.NumGoroutine")=false)
  (hb:fn.body.isNone=true) (hn:Extern.findNext fn=none) (he:Extern.find fn=some Extern.BytealgCount.count):NatOk P (natCnt i):=by
 intro f args v h F ρ H w xs hx
 unfold natCnt at h
 rw[cond_eq_ite]at h
 split at h
 ·rename_i hif
  have hif:=Nat.eq_of_beq_eq_true hif
  subst hif
  split at h
  ·rename_i s b
   cases h
   obtain⟨l⟩:=xs
   cases hx with
   |cons _ _ x1 r1 h1 hr=>
    cases hr with
    |cons _ _ x2 r2 h2 hr2=>
     cases hr2
     obtain⟨sb,rfl,hs⟩:=h1.strs
     have:=h2.ints;subst this
     refine⟨.int .i64 (countByte s b.toNat.toUInt8:Nat),?_,?_⟩
     ·rw[run_callFunc_extern hf hname hb hn he]
      have:=run_countString (P:=P) sb b w
      rw[hs]at this
      rw[this]
      rfl
     ·rw[cntB_eq,Int.zero_add]
      exact .imm _ _ (.int _ _)
  ·cases h
 ·cases h
def natOr (a b:Nat→List AV→Option AV)(f:Nat)(args:List AV):Option AV:=
 match a f args with
 |some v=>some v
 |none=>b f args
theorem natOr_ok {P:Program}{a b:Nat→List AV→Option AV}(ha:NatOk P a)(hb:NatOk P b):NatOk P (natOr a b):=by
 intro f args v h
 unfold natOr at h
 split at h
 ·rename_i u hu;cases h;exact ha f args _ hu
 ·exact hb f args v h
end Go.Ab
