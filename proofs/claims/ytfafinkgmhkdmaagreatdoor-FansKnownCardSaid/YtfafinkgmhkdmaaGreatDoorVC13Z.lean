/-
 The law on texts of fans.
-/
import Derived.Test.YtfafinkgmhkdmaaGreatDoorVC12Z
import Derived.Test.YtfafinkgmhkdmaaGreatDoorVLZ
set_option maxRecDepth 1000000
set_option linter.unusedVariables false
set_option linter.unusedSimpArgs false
namespace Go.Proofs.YtfafinkgmhkdmaaGreatDoor.X
open Go Go.Ab
theorem D44:TabOk Tryz.prog G ZL:=A0m A0s ⟨ct27,C6x,C6y,D2I,D43,D4C,C1R,trivial⟩
theorem B0J (s:List UInt8):∃h t,A0f s=h::t:=by
 have h1:=(A2P s).1;cases h:A0f s with
 |nil=>rw[h]at h1;simp at h1
 |cons x r=>exact⟨x,r,rfl⟩
theorem B0K (s:List UInt8):∀(p:List UInt8),(32:UInt8)∉p->A0f (p++32::s)=p::A0f s
 |[],h=>by simp[A0f]
 |c::p,h=>by
  have hc:(c==32)=false:=beq_eq_false_iff_ne.2 fun e=>h (by simp[e]);have ih:=B0K s p fun hm=>h (List.mem_cons_of_mem _ hm);rw[List.cons_append,A0f,hc,ih];rfl
theorem B0L:∀(p:List UInt8),(32:UInt8)∉p->A0f p=[p]
 |[],h=>rfl
 |c::p,h=>by
  have hc:(c==32)=false:=beq_eq_false_iff_ne.2 fun e=>h (by simp[e]);have ih:=B0L p fun hm=>h (List.mem_cons_of_mem _ hm);rw[A0f,hc,ih];rfl
theorem B29 (x y:List UInt8)(r:List (List UInt8)):Lib.join (x::y::r) [32]=x++32::Lib.join (y::r) [32]:=by
 rw[Lib.join_cons,Lib.join_cons,Lib.joinTail];simp[Lib.joinTail]
theorem A7K:∀(l:List (List UInt8)),l≠[]->(∀p∈l,(32:UInt8)∉p)->A0f (Lib.join l [32])=l
 |[],h,_=>(h rfl).elim
 |[x],_,h=>by rw[Lib.join_one];exact B0L x (h x (by simp))
 |x::y::r,_,h=>by
  rw[B29,B0K _ _ (h x (by simp)),A7K (y::r) (by simp) fun p hp=>h p (List.mem_cons_of_mem _ hp)]
theorem A7L:∀(t:List UInt8),Lib.join (A0f t) [32]=t
 |[]=>by rw[A0f,Lib.join_one]
 |c::s=>by
  have ih:=A7L s;obtain⟨h,r,e⟩:=B0J s;rw[A0f,e];rw[e]at ih;cases hc:(c==32)with
  |true=>
   rw[cond_true,B29,ih,beq_iff_eq.1 hc];rfl
  |false=>
   rw[cond_false,B5D];rw[Lib.join_cons]at ih ⊢;rw[List.cons_append,ih]
theorem B3W (a b k j:List Int)(h:a.length=k.length):pcs (a++b) (k++j)=pcs a k++pcs b j:=by
 unfold pcs;exact List.zipWith_append h
theorem C1t (k:Int):C1M k≠32:=by
 unfold C1M;split
 ·decide
 ·split<;>decide
theorem C5n {n:Int}(h1:1<=n)(h2:n<=8):UInt8.ofNat (48+n.toNat)≠32:=by
 obtain⟨m,rfl⟩:∃m:Nat,n=m:=⟨n.toNat,(Int.toNat_of_nonneg (by omega)).symm⟩;have hm:m=1\/m=2\/m=3\/m=4\/m=5\/m=6\/m=7\/m=8:=by omega
 rcases hm with rfl|rfl|rfl|rfl|rfl|rfl|rfl|rfl<;>decide
theorem C5o {n k:Int}(h1:1<=n)(h2:n<=8)(k1:1<=k)(k2:k<=3):B8n (pcT n k)=n/\B0Q (pcT n k)=k/\okP (pcT n k)=true:=by
 obtain⟨m,rfl⟩:∃m:Nat,n=m:=⟨n.toNat,(Int.toNat_of_nonneg (by omega)).symm⟩;have hm:m=1\/m=2\/m=3\/m=4\/m=5\/m=6\/m=7\/m=8:=by omega
 have hk:k=1\/k=2\/k=3:=by omega
 rcases hk with rfl|rfl|rfl<;>rcases hm with rfl|rfl|rfl|rfl|rfl|rfl|rfl|rfl<;>exact⟨by decide +kernel,by decide +kernel,by decide +kernel⟩
theorem C1u (x:UInt8):((x.toNat:Int)).toNat.toUInt8=x:=by
 show UInt8.ofNat x.toNat=x;exact UInt8.ofNat_toNat
theorem C5p {p:List UInt8}(h:okP p=true)(hk1:1<=B0Q p):pcT (B8n p) (B0Q p)=p:=by
 unfold okP at h;simp only[Bool.and_eq_true,beq_iff_eq,decide_eq_true_eq]at h;obtain⟨hl,h1,h2⟩:=h
 match p,hl with
 |[x,y],_=>
  simp only[List.getD_cons_succ,List.getD_cons_zero]at h1 h2;have ey:UInt8.ofNat (48+(B8n [x,y]).toNat)=y:=by
   have:48+(B8n [x,y]).toNat=y.toNat:=by
    show 48+((y.toNat:Int)-48).toNat=y.toNat
    omega
   rw[this];exact UInt8.ofNat_toNat
  have ex:C1M (B0Q [x,y])=x:=by
   have e:B0Q [x,y]=1+A27 [109,118,97] x 0:=by
    show 1+A27 [109,118,97] (((x.toNat:Int)).toNat.toUInt8) 0=_;rw[C1u]
   rw[e]at hk1 ⊢;simp only[A27,B6n]at hk1 ⊢;cases g1:((109:UInt8)==x)with
   |true=>rw[<- beq_iff_eq.1 g1];rfl
   |false=>
    cases g2:((118:UInt8)==x)with
    |true=>rw[<- beq_iff_eq.1 g2];rfl
    |false=>
     cases g3:((97:UInt8)==x)with
     |true=>rw[<- beq_iff_eq.1 g3];rfl
     |false=>rw[g1,g2,g3]at hk1;exact absurd hk1 (by decide)
  unfold pcT;rw[ex,ey]
theorem B6o:∀(l:List (List UInt8)),(∀p∈l,okP p=true)->(∀p∈l,1<=B0Q p)->pcs (pcA l) (pcK l)=l
 |[],_,_=>rfl
 |p::l,h,hk=>by
  have ih:=B6o l (fun q hq=>h q (List.mem_cons_of_mem _ hq)) fun q hq=>hk q (List.mem_cons_of_mem _ hq);show pcT (B8n p) (B0Q p)::pcs (pcA l) (pcK l)=_;rw[ih,C5p (h p (by simp)) (hk p (by simp))]
theorem B6p:∀(a k:List Int),a.length=k.length->(∀x∈a,1<=x/\x<=8)->(∀x∈k,1<=x/\x<=3)->pcA (pcs a k)=a/\pcK (pcs a k)=k/\(pcs a k).all okP=true/\∀p∈pcs a k,(32:UInt8)∉p
 |[],[],_,_,_=>⟨rfl,rfl,rfl,by simp[pcs]⟩
 |x::a,y::k,hl,ha,hk=>by
  obtain⟨g1,g2,g3,g4⟩:=B6p a k (by simpa using hl) (fun z hz=>ha z (List.mem_cons_of_mem _ hz)) fun z hz=>hk z (List.mem_cons_of_mem _ hz);obtain⟨a1,a2⟩:=ha x (by simp);obtain⟨k1,k2⟩:=hk y (by simp);obtain⟨q1,q2,q3⟩:=C5o a1 a2 k1 k2;have e:pcs (x::a) (y::k)=pcT x y::pcs a k:=rfl;rw[e];refine⟨?_,?_,?_,?_⟩
  ·show B8n (pcT x y)::pcA (pcs a k)=_;rw[q1,g1]
  ·show B0Q (pcT x y)::pcK (pcs a k)=_;rw[q2,g2]
  ·rw[List.all_cons,q3,g3];rfl
  ·intro p hp;rcases List.mem_cons.1 hp with rfl|hp
   ·intro hm;unfold pcT at hm;simp only[List.mem_cons,List.not_mem_nil,or_false]at hm;rcases hm with hm|hm
    ·exact C1t y hm.symm
    ·exact C5n a1 a2 hm.symm
   ·exact g4 p hp
theorem B6q (a k:List Int)(h:a.length=k.length):(pcs a k).length=a.length:=by
 unfold pcs;rw[List.length_zipWith,<- h];omega
theorem B85 {a k:List Int}(h:chk a k=0):A5t (txF a k)=0/\A2b (txF a k)=a/\A2f (txF a k)=k/\(txF a k).length<1000:=by
 obtain⟨h1,h2,h3⟩:=A2y h;have hl:a.length<=8:=by have:=A2q a h2.1;have:=h2.2;omega
 by_cases h0:a=[]
 ·subst h0;have:k=[]:=List.length_eq_zero_iff.1 h1.symm;subst this;exact⟨rfl,rfl,rfl,by decide⟩
 ·have ha:∀x∈a,1<=x/\x<=8:=fun x hx=>⟨h2.1 x hx,by have:=B25 a h2.1 x hx;have:=h2.2;omega⟩;obtain⟨g1,g2,g3,g4⟩:=B6p a k h1 ha h3;have pl:=B6q a k h1;have et:txF a k=Lib.join (pcs a k) [32]:=by unfold txF;rw[if_neg h0]
  have hne:pcs a k≠[]:=fun e=>h0 (List.length_eq_zero_iff.1 (by rw[<- pl,e];rfl));have es:A0f (txF a k)=pcs a k:=by rw[et];exact A7K _ hne g4
  have n45:(txF a k==[45])=false:=by
   rw[beq_eq_false_iff_ne];intro e;have:pcs a k=[[45]]:=by rw[<- es,e];rfl
   rw[this]at g3;exact absurd g3 (by decide)
  have ho:okT (txF a k)=true:=by
   unfold okT;rw[n45,es,g1,g2,g3,h];rfl
  obtain⟨e1,e2,e3⟩:=A87 ho;have p2:∀x∈pcs a k,x.length=2:=fun x hx=>by
   have:=List.all_eq_true.1 g3 x hx;unfold okP at this;simp only[Bool.and_eq_true,beq_iff_eq,decide_eq_true_eq]at this;exact this.1
  have jl:=B24 (pcs a k) [32] p2;refine⟨e3,by rw[e1,es,g1],by rw[e2,es,g2],?_⟩;rw[et];omega
theorem C5q {t:List UInt8}(h:A5t t=0):chk (A2b t) (A2f t)=0/\txF (A2b t) (A2f t)=t:=by
 cases ho:okT t with
 |false=>
  obtain⟨e1,e2⟩:=A7J ho;have h45:(t==[45])=true:=by
   cases g:(t==[45])with
   |true=>rfl
   |false=>rw[A88 ho g]at h;exact absurd h (by decide)
  rw[e1,e2,beq_iff_eq.1 h45];exact⟨rfl,rfl⟩
 |true=>
  obtain⟨e1,e2,e3⟩:=A87 ho;have ho':=ho;unfold okT at ho';simp only[Bool.and_eq_true,Bool.not_eq_true',beq_iff_eq]at ho';obtain⟨h45,hall,hc⟩:=ho';obtain⟨c1,c2,c3⟩:=A2y hc;obtain⟨x,r,es⟩:=B0J t;have hk:∀p∈A0f t,1<=B0Q p:=fun p hp=>(c3 (B0Q p) (List.mem_map_of_mem hp)).1;have hm:=B6o (A0f t) (fun p hp=>List.all_eq_true.1 hall p hp) hk;rw[e1,e2];refine⟨hc,?_⟩;unfold txF;rw[if_neg (by rw[es];exact fun e=>by cases e),hm,A7L]
theorem C9Y (t:List UInt8):A5t t=0\/(A5t t=4/\A2b t=[]/\A2f t=[]):=by
 cases ho:okT t with
 |false=>
  obtain⟨e1,e2⟩:=A7J ho;cases g:(t==[45])with
  |true=>left;unfold A5t;rw[ho,g];rfl
  |false=>exact .inr ⟨A88 ho g,e1,e2⟩
 |true=>exact .inl (A87 ho).2.2
theorem C1v {k:Int}(h1:1<=k)(h2:k<=3):(Utf8.encode (UInt8.toNat (([109,118,97]:List UInt8)[(k-1).toNat]?.getD 0):Int)).data.toList=[C1M k]:=by
 have hk:k=1\/k=2\/k=3:=by omega
 rcases hk with rfl|rfl|rfl<;>rfl
theorem C5r {a k:List Int}(h:a.length=k.length)(h0:0<a.length):txF (a.take 1) (k.take 1)=pcT (a[0]?.getD 0) (k[0]?.getD 0):=by
 match a,k,h,h0 with
 |x::a,y::k,_,_=>simp[txF,pcs,Lib.join_one]
theorem C1w {a k:List Int}{n:Nat}(h:a.length=k.length)(hn:n<a.length)(h0:0<n):txF (a.take (n+1)) (k.take (n+1))=txF (a.take n) (k.take n)++[32]++pcT (a[n]?.getD 0) (k[n]?.getD 0):=by
 have hk:n<k.length:=by omega
 have e1:a[n]? =some a[n]:=List.getElem?_eq_getElem hn;have e2:k[n]? =some k[n]:=List.getElem?_eq_getElem hk;have t1:a.take (n+1)=a.take n++[a[n]]:=by rw[List.take_add_one,e1];rfl
 have t2:k.take (n+1)=k.take n++[k[n]]:=by rw[List.take_add_one,e2];rfl
 have l1:(a.take n).length=n:=by rw[List.length_take];omega
 have l2:(k.take n).length=n:=by rw[List.length_take];omega
 have n1:a.take n≠[]:=fun e=>by
  have:=congrArg List.length e;rw[l1]at this;simp at this;omega
 have n2:a.take (n+1)≠[]:=fun e=>by
  have:=congrArg List.length e;rw[t1,List.length_append,l1]at this;simp at this
 rw[e1,e2];unfold txF;rw[if_neg n1,if_neg n2,t1,t2,B3W _ _ _ _ (by rw[l1,l2])];have pl:=B6q (a.take n) (k.take n) (by rw[l1,l2]);cases hp:pcs (a.take n) (k.take n)with
 |nil=>
  have:=congrArg List.length hp;rw[pl,l1]at this;simp at this;omega
 |cons x r=>
  rw[List.cons_append,Lib.join_cons,Lib.join_cons];simp[Lib.joinTail,pcs]
theorem C5s (c l:Int)(ks:List Int)(t:List UInt8)(hk:okK ks):SpecP Tryz.prog G 15 [fV c l ks,.str t] (.bool true) []:=by
 refine A0d hcm hmx D44 D0m rfl (C5m c l ks t) ?_;obtain⟨hl,h8,hA,hK⟩:=B7O (c:=c) (l:=l) hk;have hc:=B8X (c:=c) (l:=l) hk;generalize ofA c l ks=A at*;generalize ofK c ks=K at*;simp only[A0n,A0K,A0H,A09,A0Q,A1x,A0E,A03,A0w,A1t,A1q,A0F,A0I,A0r,A0J,A0G,List.getElem?_drop,beq_iff_eq,beq_eq_false_iff_ne,bne_iff_ne,bne_eq_false_iff_eq,ne_eq,Nat.zero_add,Nat.add_zero,Nat.mul_one,Int.toNat_natCast,and_true,true_and,List.length_drop,List.length_append,List.length_cons,List.length_nil,List.length_set,List.getD_eq_getElem?_getD,implies_true,iI,iL,uL,Bool.not_eq_true',Bool.not_eq_false',Int.natCast_inj,Bool.not_not];refine fun hlt=>⟨hk,⟨0,rfl,by omega,rfl⟩,?_⟩;rintro⟨i,s⟩ ⟨n,rfl,hn,rfl⟩;refine⟨fun hlt=>?_,fun hge=>?_⟩
 ·simp only at hlt;have hnl:n<A.length:=by omega
  have hnk:n<K.length:=by omega
  have e1:A[n]? =some A[n]:=List.getElem?_eq_getElem hnl;have e2:K[n]? =some K[n]:=List.getElem?_eq_getElem hnk;have gA:1<=A[n]/\A[n]<=8:=⟨hA.1 _ (List.getElem_mem hnl),by
   have:=B25 A hA.1 _ (List.getElem_mem hnl);have:=hA.2;omega⟩
  have gK:=hK _ (List.getElem_mem hnk);simp only[Int.toNat_natCast,e1,e2,Option.getD_some,C1v gK.1 gK.2,List.length_cons,List.length_nil];have pl:(txF (A.take n) (K.take n)).length<=1000:=by
   have hz:chk (A.take n) (K.take n)=0:=B51 (by rw[List.length_take,List.length_take,hl]) ⟨fun x hx=>hA.1 x (List.mem_of_mem_take hx),by
    have h1:A.sum=(A.take n++A.drop n).sum:=by rw[List.take_append_drop]
    rw[List.sum_append]at h1;have h2:=A2q (A.drop n) fun x hx=>hA.1 x (List.mem_of_mem_drop hx);have:=hA.2;omega⟩ fun x hx=>hK x (List.mem_of_mem_take hx)
   have:=(B85 hz).2.2.2;omega
  refine⟨by omega,by omega,by omega,by omega,by omega,by omega,by omega,by omega,by omega,by omega,by omega,fun h0=>?_,fun h0=>?_⟩
  ·obtain rfl:n=0:=by omega
   refine⟨by omega,⟨1,by omega,by omega,?_⟩,by omega⟩;rw[C5r hl (by omega),e1,e2];rfl
  ·refine⟨by omega,by omega,by omega,⟨n+1,by omega,by omega,?_⟩,by omega⟩;rw[C1w hl hnl (by omega),e1,e2];rfl
 ·simp only at hge;obtain rfl:n=A.length:=by omega
  rw[List.take_length,hl,List.take_length];obtain⟨q1,q2,q3,q4⟩:=B85 hc;simp only[q1,q2,q3,A4i,hl,true_and];have h4:(txF A K).length<1000000:=by omega
  refine⟨h4,hc,⟨by omega,by omega⟩,rfl,by omega,fun hne=>?_,fun he=>?_⟩
  ·rcases C9Y t with h|⟨h1,h2,h3⟩
   ·exact absurd h hne
   ·rw[h2,h3];exact⟨h1,by decide,rfl⟩
  ·obtain⟨g1,g2⟩:=C5q he;obtain⟨c1,c2,c3⟩:=A2y g1;have:=A2q _ c2.1;have:=c2.2;exact⟨by omega,g1,g1,g2⟩
end Go.Proofs.YtfafinkgmhkdmaaGreatDoor.X
