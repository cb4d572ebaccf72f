/-
 Cones, plain: the choices of kinds, in their order, and how many ways they have.
-/
import Derived.Test.YthiammkiobbclaaGreatDoorC16Z
import Derived.Test.YthiammkiobbclaaGreatDoorO19Z
set_option maxRecDepth 1000000
set_option linter.unusedVariables false
namespace Go.Proofs.YthiammkiobbclaaGreatDoor.X
open Go Go.Ab
def D5r (n:Nat)(h:List Int):Bool:=h.length==n&&h.all fun x=>x==1||x==2
theorem B90:(List.range 7).all (fun n=>(A7A n).length==2 ^ n&&((A7A n).all (D5r n)&&(List.range (2 ^ n)).all fun m=>(List.range n).all fun i=>gR (hM n m) i==1+Int.tmod (Int.fdiv m (2 ^ min (n-1-i) 64)) 2))=true:=by decide +kernel
theorem B78:∀n:Nat,(A7A n).Nodup
 |0=>List.nodup_cons.2 ⟨List.not_mem_nil,List.nodup_nil⟩
 |n+1=>by
  have ih:=B78 n;unfold A7A;rw[List.nodup_append];refine⟨List.Pairwise.map _ (fun x y h e=>h (by simpa using e)) ih,List.Pairwise.map _ (fun x y h e=>h (by simpa using e)) ih,fun x hx y hy e=>?_⟩;obtain⟨u,_,rfl⟩:=List.mem_map.1 hx;obtain⟨v,_,rfl⟩:=List.mem_map.1 hy;simp at e
theorem A8B {n:Nat}(hn:n<=6):(A7A n).length=2 ^ n/\(∀h∈A7A n,h.length=n/\∀x∈h,x=1\/x=2)/\∀m:Nat,m<2 ^ n->∀i:Nat,i<n->gR (hM n m) i=1+Int.tmod (Int.fdiv m (2 ^ min (n-1-i) 64)) 2:=by
 have h:=List.all_eq_true.1 B90 n (List.mem_range.2 (by omega));rw[Bool.and_eq_true,Bool.and_eq_true,beq_iff_eq]at h;obtain⟨h1,h2,h3⟩:=h;refine⟨h1,fun x hx=>?_,fun m hm i hi=>?_⟩
 ·have:=List.all_eq_true.1 h2 x hx;unfold D5r at this;rw[Bool.and_eq_true,beq_iff_eq]at this;refine⟨this.1,fun y hy=>?_⟩;have:=List.all_eq_true.1 this.2 y hy;rw[Bool.or_eq_true,beq_iff_eq,beq_iff_eq]at this;exact this
 ·exact beq_iff_eq.1 (List.all_eq_true.1 (List.all_eq_true.1 h3 m (List.mem_range.2 hm)) i (List.mem_range.2 hi))
theorem C66 {n m:Nat}(hm:m<(A7A n).length):hM n m=(A7A n)[m]:=by
 unfold hM;rw[Int.toNat_natCast,List.getElem?_eq_getElem hm];rfl
theorem A7B:∀k:List Int,A2N k=(A7A k.length).filter (A6f k)
 |[]=>rfl
 |x::k=>by
  have ih:=A7B k;unfold A2N;rw[List.length_cons];unfold A7A;rw[List.filter_append,List.filter_map,List.filter_map,ih];have e1:((A6f (x::k))∘fun h=>(1:Int)::h)=fun h=>(x==3||x==1)&&A6f k h:=rfl;have e2:((A6f (x::k))∘fun h=>(2:Int)::h)=fun h=>(x==3||x==2)&&A6f k h:=rfl;rw[e1,e2,Bool.or_comm (x==1),Bool.or_comm (x==2)]
  congr 1
  ·cases(x==3||x==1)with
   |false=>simp
   |true=>simp
  ·cases(x==3||x==2)with
   |false=>simp
   |true=>simp
theorem C67 {k h:List Int}(hl:h.length=k.length):B5w k h k.length=A6f k h:=by
 rw[<- A7w k h hl,Bool.eq_iff_iff,A91];unfold B5w;rw[List.all_eq_true];constructor
 ·intro hf i hi;have:=hf i (List.mem_range.2 hi);rw[Bool.or_eq_true,beq_iff_eq,beq_iff_eq]at this;exact this
 ·intro hf i hi;rw[Bool.or_eq_true,beq_iff_eq,beq_iff_eq];exact hf i (List.mem_range.1 hi)
theorem C68 (k h:List Int)(i:Nat):B5w k h (i+1)=(B5w k h i&&(gR k i==3||gR k i==gR h i)):=by
 unfold B5w;rw[List.range_succ,List.all_append,List.all_cons,List.all_nil,Bool.and_true]
theorem D5s {a k:List Int}{m:Nat}(hm:m<(A7A k.length).length):kN a k (m+1)=kN a k m++(if isK a k (hM k.length m)=true then[hM k.length m]else[]):=by
 rw[C66 hm];unfold kN;rw[List.take_add_one,List.getElem?_eq_getElem hm,List.filter_append];refine congrArg _ ?_;show List.filter _ [_]=_;rw[List.filter_cons,List.filter_nil]
theorem B4v {a k:List Int}(hc:chk a k=0)(hn:k.length<=6){m:Nat}(hm:(A7A k.length).length<=m):kN a k m=A1a a k:=by
 rw[A7y hc,A7B,List.filter_filter];unfold kN;rw[List.take_of_length_le hm];refine List.filter_congr fun h hh=>?_;unfold isK;rw[C67 ((A8B hn).2.1 h hh).1,Bool.and_comm]
theorem C69 {a k:List Int}(hc:chk a k=0)(hn:k.length<=6){m:Nat}(hm:m<(A7A k.length).length)(h:isK a k (hM k.length m)=true):(A1a a k)[(kN a k m).length]? =some (hM k.length m):=by
 rw[<- B4v hc hn (Nat.le_refl _)];have e:(A7A k.length)=(A7A k.length).take (m+1)++(A7A k.length).drop (m+1):=(List.take_append_drop ..).symm;have e2:kN a k (A7A k.length).length=kN a k (m+1)++((A7A k.length).drop (m+1)).filter fun h=>isK a k h:=by
  unfold kN;rw[List.take_length,<- List.filter_append,<- e]
 rw[e2,D5s hm,if_pos h,List.append_assoc,List.getElem?_append_right (Nat.le_refl _),Nat.sub_self];rfl
theorem D13 {a k:List Int}{m:Nat}:(kN a k m).length<=m:=by
 unfold kN;exact Nat.le_trans (List.length_filter_le _ _) (by rw[List.length_take];omega)
theorem B79:∀(a k k':List Int) (s:Int),a.length=k.length->k'.length=k.length->(∀x∈k',1<=x/\x<=3)->A4s a k s=0->A4s a k' s=0
 |[],k,k',s,_,_,_,_=>by cases k'<;>rfl
 |x::a,[],k',s,h,_,_,_=>by simp at h
 |x::a,y::k,[],s,_,h,_,_=>by simp at h
 |x::a,y::k,z::k',s,h1,h2,h3,h=>by
  have hz:=h3 z (List.mem_cons_self ..);simp only[A4s]at h ⊢;split at h
  ·cases h
  ·rename_i hn;rw[if_neg (by omega)];exact B79 a k k' _ (by simpa using h1) (by simpa using h2) (fun w hw=>h3 w (List.mem_cons_of_mem _ hw)) h
theorem C3R {a k k':List Int}(h:chk a k=0)(hk:a.length=k.length)(h2:k'.length=k.length)(h3:∀x∈k',x=1\/x=2):chk a k'=0:=by
 unfold chk at h ⊢;rw[if_pos hk]at h;rw[if_pos (by omega)];exact B79 a k k' 0 hk h2 (fun x hx=>by have:=h3 x hx;omega) h
theorem C0X {h x:List Int}(hh:∀y∈h,y=1\/y=2)(hl:x.length=h.length):B5l h x=true↔x=h:=by
 rw[A91];constructor
 ·intro hf;refine List.ext_getElem hl fun i h1 h2=>?_;have e1:gR h (i:Int)=h[i]:=by
   unfold gR;rw[Int.toNat_natCast,List.getElem?_eq_getElem h2];rfl
  have e2:gR x (i:Int)=x[i]:=by
   unfold gR;rw[Int.toNat_natCast,List.getElem?_eq_getElem h1];rfl
  have:=hf i h2;rw[e1,e2]at this;have h3:=hh h[i] (List.getElem_mem h2);omega
 ·rintro rfl i hi;exact .inr rfl
theorem B8a (X:List (List Int)):∀L:List (List Int),L.Nodup->(L.map fun h=>(((X.filter fun x=>x==h).length:Nat):Int)).sum=((X.filter fun x=>L.contains x).length:Nat)
 |[],_=>by
  have e:(X.filter fun x=>([]:List (List Int)).contains x)=[]:=List.filter_eq_nil_iff.2 fun x _=>by simp
  rw[e];rfl
 |h::L,hn=>by
  obtain⟨h1,h2⟩:=List.nodup_cons.1 hn;rw[List.map_cons,List.sum_cons,B8a X L h2];clear hn h2
  induction X with
  |nil=>rfl
  |cons x X ih=>
   rw[List.filter_cons,List.filter_cons,List.filter_cons,List.contains_cons];cases e:x==h with
   |true=>
    have:x=h:=beq_iff_eq.1 e;subst this;have:L.contains x=false:=by
     rw[<- Bool.not_eq_true,List.contains_iff_mem];exact h1
    rw[this];simp only[Bool.true_or,if_true,List.length_cons,Bool.false_eq_true,if_false];omega
   |false=>
    rw[Bool.false_or];cases L.contains x<;>simp only[if_true,List.length_cons,Bool.false_eq_true,if_false]<;>omega
theorem A3m {a k h:List Int}(hc:chk a k=0)(hh:h∈A1a a k):h.length=k.length/\(∀y∈h,y=1\/y=2)/\A6f k h=true/\A8p a=true/\h∈A5S a/\A0l a h=true:=by
 rw[A7y hc]at hh;obtain⟨h1,h2⟩:=List.mem_filter.1 hh;obtain⟨e1,e2,e3⟩:=A3y.1 h1;rw[A3Z hc h1,Bool.and_eq_true,List.contains_iff_mem]at h2;exact⟨e1,e2,e3,h2.1,h2.2,A1d.2 ⟨C3R hc (A1V hc).1 e1 e2,h2.1⟩⟩
theorem B91 {a k h:List Int}(hc:chk a k=0)(hh:h∈A1a a k):1<=(cwL a h).length:=by
 obtain⟨h1,h2,h3,h4,h5,h6⟩:=A3m hc hh;have:=(C0Q h6).2 ⟨h,h5,(C0X h2 rfl).2 rfl⟩;cases e:cwL a h with
 |nil=>exact absurd e this
 |cons x r=>simp
theorem B92 {a k:List Int}(hc:chk a k=0)(hn:k.length<=6):B1L a (A1a a k)=((cwL a k).length:Nat):=by
 obtain⟨hl,hA,_⟩:=A1V hc;have hne:a≠ones:=fun e=>by
  rw[e]at hl;have:ones.length=8:=rfl;omega
 cases hb:A8p a with
 |false=>
  have e1:A1a a k=[]:=by
   cases e:A1a a k with
   |nil=>rfl
   |cons x r=>
    have:=(A3m hc (h:=x) (by rw[e];exact List.mem_cons_self ..)).2.2.2.1;rw[hb]at this;cases this
  have e2:A0l a k=false:=by
   rw[<- Bool.not_eq_true,A1d];intro h;rw[hb]at h;cases h.2
  rw[e1,C3D e2];rfl
 |true=>
  have hs:A0l a k=true:=A1d.2 ⟨hc,hb⟩;have hk2:=A8x hs;have hnd:(A1a a k).Nodup:=by
   rw[A7y hc,A7B];exact((B78 _).filter _).filter _
  rw[B1K hs hne];have e1:B1L a (A1a a k)=((A1a a k).map fun h=>((((A5S a).filter fun x=>x==h).length:Nat):Int)).sum:=by
   unfold B1L;refine congrArg _ (List.map_congr_left fun h hh=>?_);obtain⟨h1,h2,h3,h4,h5,h6⟩:=A3m hc hh;rw[B1K h6 hne];refine congrArg _ (congrArg _ (List.filter_congr fun x hx=>?_));rw[Bool.eq_iff_iff,C0X h2 (by rw[(hk2 x hx).2.1];omega),beq_iff_eq]
  rw[e1,B8a _ _ hnd];refine congrArg _ (congrArg _ (List.filter_congr fun x hx=>?_));obtain⟨_,g1,g2⟩:=hk2 x hx;rw[Bool.eq_iff_iff,List.contains_iff_mem,A7y hc,List.mem_filter,A3y,A7w k x (by omega)];constructor
  ·exact fun h=>h.1.2.2
  ·intro hf;have hm:x∈A2N k:=A3y.2 ⟨by omega,g2,hf⟩;refine⟨⟨by omega,g2,hf⟩,?_⟩;rw[A3Z hc hm,hb,Bool.true_and,List.contains_iff_mem];exact hx
theorem C7a:ksT.all (fun p=>decide (p.2.length<=1000))=true:=by decide +kernel
theorem C7b {a h:List Int}(hs:A0l a h=true)(hne:a≠ones):(cwL a h).length<=1000:=by
 rw[B1K hs hne];refine Nat.le_trans (List.length_filter_le _ _) ?_;rcases B4l hs with e|⟨_,hi⟩
 ·exact absurd e hne
 ·obtain⟨p,hp,_,e⟩:=B4m hi hne;rw[e];exact of_decide_eq_true (List.all_eq_true.1 C7a p hp)
theorem B93 (a:List Int)(L:List (List Int))(h:List Int):B1L a (L++[h])=B1L a L+((cwL a h).length:Nat):=by
 unfold B1L;rw[List.map_append,List.sum_append];simp
theorem B8b {a:List Int}:∀L:List (List Int),(∀h∈L,(cwL a h).length<=1000)->0<=B1L a L/\B1L a L<=1000*(L.length:Int)
 |[],_=>by simp[B1L]
 |h::L,hL=>by
  have h1:=hL h (List.mem_cons_self ..);have h2:=B8b L fun x hx=>hL x (List.mem_cons_of_mem _ hx);unfold B1L at h2 ⊢;rw[List.map_cons,List.sum_cons,List.length_cons];omega
theorem C7c {a k h:List Int}{m:Nat}(hc:chk a k=0)(hn:k.length<=6)(hh:h∈kN a k m):h∈A1a a k:=by
 rw[<- B4v hc hn (Nat.le_refl _)];unfold kN at hh ⊢;obtain⟨h1,h2⟩:=List.mem_filter.1 hh;rw[List.take_length];exact List.mem_filter.2 ⟨List.mem_of_mem_take h1,h2⟩
theorem D14 {a k:List Int}{m:Nat}(hc:chk a k=0)(hn:k.length<=6):0<=B1L a (kN a k m)/\B1L a (kN a k m)<=1000*((kN a k m).length:Int):=by
 obtain⟨hl,_,_⟩:=A1V hc;have hne:a≠ones:=fun e=>by
  rw[e]at hl;have:ones.length=8:=rfl;omega
 exact B8b _ fun h hh=>C7b (A3m hc (C7c hc hn hh)).2.2.2.2.2 hne
set_option linter.unusedSimpArgs false
theorem C3S (a:List Int)(H:List (List Int)):(A1l a H).length=H.length*2:=by
 unfold A1l
 induction H with
 |nil=>rfl
 |cons h H ih=>rw[List.flatMap_cons,List.length_append,ih,show(h::H).length=H.length+1 from rfl,Nat.add_mul];show 2+_=_;omega
theorem B8c {a:List Int}:∀{H:List (List Int)} {t:Nat} {h:List Int},H[t]? =some h->((A1l a H).drop (t*2))[0]? =some (A10 .i64 a)/\((A1l a H).drop (t*2))[1]? =some (A10 .u8 h)
 |[],t,h,e=>by simp at e
 |x::H,0,h,e=>by
  simp at e;subst e;exact⟨rfl,rfl⟩
 |x::H,t+1,h,e=>by
  have:=B8c (a:=a) (H:=H) (t:=t) (h:=h) (by simpa using e);rw[show(t+1)*2=t*2+2 by omega];exact this
theorem D7K:TabOk Tryz.prog G T4k:=A0q A0C ⟨C2l,C6u,B7B,D41,D4J,B2M,trivial⟩
theorem sp4 (c l:Int)(ks:List Int)(hk:okK ks):SpecP Tryz.prog G 4 [fV c l ks] (.bool true) []:=by
 refine A0e hcm hmx D7K ok4 rfl (D12 c l ks) ?_;dsimp -failIfUnchanged -proj -eta -iota -zeta only[rd,rdw,qs,ql,qx];obtain⟨h1,h2,h3,h4⟩:=B2v (c:=c) (l:=l) hk;have hc:=A8s (c:=c) (l:=l) hk;generalize ofA c l ks=a at*;generalize ofK c ks=k at*
 by_cases hn:(k.length:Int)<=6
 case neg=>
  have e:ltb 6 (k.length:Int)=true:=A0h.2 (by omega);have e2:ltb 6 (k.length:Int)=false↔False:=by rw[e];simp
  simp only[e2,false_imp_iff,and_true,true_and,imp_self,implies_true];exact hk
 have hn:k.length<=6:=by omega
 have h0:A39 a k=0:=by
  unfold A39 ofE;rw[if_pos hc];split<;>simp
 obtain⟨f1,f2,f3⟩:=A8B hn;have h64:2 ^ k.length<=64:=Nat.pow_le_pow_right (by omega) hn;have e64:(1*2 ^ min k.length 64:Int)=((2 ^ k.length:Nat):Int):=by
  rw[Nat.min_eq_left (by omega),Int.one_mul,Int.natCast_pow];rfl
 simp only[Int.toNat_natCast,e64,gR0,iI,A0p,and_true,true_and,A0k,A0M,A0h,A0x,A0u,A0t,A0i,A0y,C3S,beq_iff_eq,beq_eq_false_iff_ne,ne_eq,bne,Bool.not_not,Bool.not_eq_false',Bool.not_eq_true',imp_self,implies_true,forall_const,true_imp_iff,decide_eq_true_eq,beq_self_eq_true,Bool.not_true,Bool.false_eq_true,Bool.true_eq_false,false_imp_iff];refine⟨hk,fun _=>⟨by omega,by omega,hc,h0,⟨0,rfl,by omega,rfl,rfl⟩,?_⟩⟩;rintro⟨M,T,S⟩ ⟨m,hm,hml,hT,hS⟩;simp only at hm hT hS ⊢;subst hm hT hS;simp only[Int.toNat_natCast];have hbd:=D14 (m:=m) hc hn;have hkm:=D13 (a:=a) (k:=k) (m:=m);refine⟨by omega,fun hlt=>⟨⟨0,rfl,by omega,rfl,rfl⟩,?_⟩,fun hge=>⟨fun _ h=>h ?_,fun h=>h ?_⟩⟩
 ·have hm2:m<2 ^ k.length:=by omega
  have hma:m<(A7A k.length).length:=by omega
  have hst:=D5s (a:=a) hma;have hg:=C69 (a:=a) (k:=k) (m:=m) hc hn hma;have hx:=f3 m hm2;obtain⟨hl,h12⟩:=f2 (hM k.length m) (C66 hma▸List.getElem_mem hma);have hz:∀i:Nat,i<k.length->gR (hM k.length m) i=1\/gR (hM k.length m) i=2:=fun i hi=>by
   have e:gR (hM k.length m) (i:Int)=(hM k.length m)[i]'(by omega):=by
    unfold gR;rw[Int.toNat_natCast,List.getElem?_eq_getElem (by omega)];rfl
   rw[e];exact h12 _ (List.getElem_mem _)
  generalize hM k.length m=h at*;rintro⟨I,F,H⟩ ⟨i,hi,hil,hF,hH⟩;simp only at hi hF hH ⊢;subst hi hF hH;simp only[Int.toNat_natCast];refine⟨fun hlt2=>?_,fun hge2=>?_⟩
  ·have hi2:i<k.length:=by omega
   rw[show((k.length:Int)-1-(i:Int)).toNat=k.length-1-i by omega,<- hx i hi2];have hz:=hz i hi2;have hf:=C68 k h i;have htk:List.take i h++[gR h i]=List.take (i+1) h:=by
    have e:gR h (i:Int)=h[i]'(by omega):=by
     unfold gR;rw[Int.toNat_natCast,List.getElem?_eq_getElem (by omega)];rfl
    rw[List.take_add_one,List.getElem?_eq_getElem (by omega),e];rfl
   generalize gR h i=x at*;have hxr:inR .u8 x=true:=by rcases hz with rfl|rfl<;>rfl
   have htl:(List.take i h).length=i:=by rw[List.length_take];omega
   have htl2:(List.take i h++[x]).length=i+1:=by rw[List.length_append,htl];rfl
   simp only[htl,htl2];rw[htk];refine⟨by omega,by omega,by omega,by omega,hxr,fun ht=>⟨by omega,by omega,by omega,by rw[List.length_drop];omega,fun h3'=>⟨by omega,by omega,trivial,trivial,⟨i+1,by omega,by omega,?_,rfl⟩,by omega⟩,fun h3'=>⟨by omega,by omega,by omega,by rw[List.length_drop];omega,by omega,by omega,trivial,trivial,⟨i+1,by omega,by omega,?_,rfl⟩,by omega⟩⟩,fun ht=>⟨by omega,by omega,trivial,trivial,⟨i+1,by omega,by omega,?_,rfl⟩,by omega⟩⟩
   ·rw[hf,ht,h3'];rfl
   ·rw[hf,ht,beq_false_of_ne h3',Bool.true_and,Bool.false_or]
   ·rw[hf,ht];rfl
  ·have hik:i=k.length:=by omega
   subst hik;rw[List.take_of_length_le (by omega)];have hok:okD a h=true:=C0K h3 (by omega) fun x hx=>by have:=h12 x hx;omega
   have hdc:dcd a h=0:=by
    unfold okD at hok;exact beq_iff_eq.1 hok
   refine⟨by omega,fun h=>h hdc,fun _=>⟨fun hfi=>?_,fun hfi=>⟨fun hfo=>?_,fun hfo=>?_⟩⟩⟩
   ·have:isK a k h=false:=by unfold isK;rw[hfi];rfl
    rw[this,if_neg (by decide),List.append_nil]at hst;exact⟨by omega,⟨m+1,by omega,by omega,by rw[hst],by rw[hst]⟩,by omega⟩
   ·rw[hok,Bool.true_and]at hfo;have:isK a k h=false:=by unfold isK;rw[hfi,hfo];rfl
    rw[this,if_neg (by decide),List.append_nil]at hst;exact⟨by omega,⟨m+1,by omega,by omega,by rw[hst],by rw[hst]⟩,by omega⟩
   ·rw[hok,Bool.true_and]at hfo;have hk1:isK a k h=true:=by unfold isK;rw[hfi,hfo];rfl
    rw[hk1,if_pos rfl]at hst;have hg:=hg hk1;have htl:(kN a k m).length<(A1a a k).length:=(List.getElem?_eq_some_iff.1 hg).1;have hkA:kA a k ((kN a k m).length:Nat)=h:=by unfold kA;rw[Int.toNat_natCast,hg];rfl
    have hfn:=B8c (a:=a) hg;have hhm:h∈A1a a k:=List.mem_of_getElem? hg;have hle:leb ((A1a a k).length:Int) ((kN a k m).length:Int)=false:=A0M.2 (by omega);have hs2:=(A3m hc hhm).2.2.2.2.2;have hcp:=B91 hc hhm;have hc2:A39 a h=0:=by
     unfold A39 ofE;rw[if_pos (A1d.1 hs2).1];split<;>simp
    have hcl:=C7b hs2 fun e=>by
     rw[e]at h1;have:ones.length=8:=rfl;omega
    have e1:eqB a a=true:=decide_eq_true rfl;have e2:eqB h h=true:=decide_eq_true rfl;have e3:((a.length:Int)==(k.length:Int))=true:=beq_iff_eq.2 (by omega);have e4:((h.length:Int)==(k.length:Int))=true:=beq_iff_eq.2 (by omega);have hsa:=B93 a (kN a k m) h;rw[<- hst]at hsa;have hln:(kN a k (m+1)).length=(kN a k m).length+1:=by rw[hst,List.length_append];rfl
    simp only[hkA,hle,e1,e2,e3,e4,hc2,cond_true,cond_false,Bool.and_true,Bool.not_true,Bool.not_false,true_imp_iff,Bool.false_eq_true,false_imp_iff,true_and,and_true,not_true_eq_false];refine⟨fun _=>by omega,fun _=>by omega,fun _=>hfn.1,fun _=>hfn.2,fun _=>⟨by omega,by omega⟩,by omega,by omega,by omega,hfn.1,by omega,by omega,by omega,by rw[List.getElem?_drop];exact hfn.2,by omega,fun h=>by omega,fun _=>⟨by omega,by omega,by omega,⟨m+1,by omega,by omega,by rw[hln];omega,hsa.symm⟩,by omega⟩⟩
 ·rw[B4v hc hn (by omega),B92 hc hn]
 ·rw[B4v hc hn (by omega)]
end Go.Proofs.YthiammkiobbclaaGreatDoor.X
