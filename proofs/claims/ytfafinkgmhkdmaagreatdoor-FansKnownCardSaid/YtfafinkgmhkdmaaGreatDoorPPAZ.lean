/-
 What the functions on whole patterns compute: equal, fits, counts, the reference's check, the opposite, the back side.
-/
import Derived.Test.YtfafinkgmhkdmaaGreatDoorPC6Z
set_option maxRecDepth 1000000
set_option linter.unusedVariables false
namespace Go.Proofs.YtfafinkgmhkdmaaGreatDoor.P
open Go Go.Ab Go.Proofs.YtfafinkgmhkdmaaGreatDoor.X
structure L2i where (i n:Int)
structure L3i where (i p o:Int)
structure L25 where (i:Int)(l:List AV)
set_option linter.unusedSimpArgs false
def asc (us:List Int):Prop:=us.Pairwise (fun x y=>x<y)
theorem B5T (w h:Int):∀n,asc (unL w h n)
 |0=>.nil
 |n+1=>by
  rw[B7H];unfold asc;rw[List.pairwise_append];refine⟨B5T w h n,?_,fun x hx y hy=>?_⟩
  ·split
   ·exact List.pairwise_singleton ..
   ·exact .nil
  ·have:=B5N hx;split at hy
   ·rw[List.mem_singleton]at hy;omega
   ·simp at hy
theorem B0q (w h:Int):asc (units w h):=B5T w h _
theorem B5U (c k:Int):cdC (c/3,c%3,k)=c:=by unfold cdC;simp only;omega
theorem A8X {d:Int}{us:List Int}(h:asc (d::us)):asc us/\∀x∈us,d<x:=⟨(List.pairwise_cons.1 h).2,(List.pairwise_cons.1 h).1⟩
theorem A4g:∀{us ks:List Int} {x:Cr},x∈wthL us ks->cdC x∈us/\x.1=cdC x/3/\x.2.1=cdC x%3/\x.2.2∈ks/\x.2.2≠0
 |[],ks,x,h=>by simp[wthL]at h
 |c::us,[],x,h=>by simp[wthL]at h
 |c::us,k::ks,x,h=>by
  simp only[wthL]at h;split at h
  ·obtain⟨h1,h2,h3,h4,h5⟩:=A4g h;exact⟨by simp[h1],h2,h3,by simp[h4],h5⟩
  ·rename_i hk;rcases List.mem_cons.1 h with rfl|h
   ·rw[B5U];exact⟨by simp,rfl,rfl,by simp,hk⟩
   ·obtain⟨h1,h2,h3,h4,h5⟩:=A4g h;exact⟨by simp[h1],h2,h3,by simp[h4],h5⟩
theorem B1y:∀{us ks:List Int},asc us->(wthL us ks).Pairwise (fun x y=>cdC x<cdC y)
 |[],ks,_=>by simp[wthL]
 |c::us,[],_=>by simp[wthL]
 |c::us,k::ks,h=>by
  obtain⟨h1,h2⟩:=A8X h;simp only[wthL];split
  ·exact B1y h1
  ·refine List.pairwise_cons.2 ⟨fun y hy=>?_,B1y h1⟩;rw[B5U];exact h2 _ (A4g hy).1
def B7K (c:Int):List Cr->Int
 |[]=>0
 |x::r=>cond (ltb (cdC x) c) (B7K c r) (cond (cdC x==c) x.2.2 0)
def lbF (c:Int)(l:List Cr):Bool:=decide (lbN c l<l.length)&&(cdC (l[lbN c l]?.getD (0,0,0))==c)
theorem C32 (l:List Cr)(c e:Int):fdB l c e=lbF (3*c+e) l:=by
 unfold fdB lbF lbI
 congr 1
 by_cases h:lbN (3*c+e) l<l.length
 ·rw[decide_eq_true h,A0n];omega
 ·rw[decide_eq_false h,A0K];omega
theorem B2T (c:Int)(x:Cr)(r:List Cr):lbN c (x::r)=cond (ltb (cdC x) c) (lbN c r+1) 0:=rfl
theorem B7L (c:Int)(x:Cr)(r:List Cr):lbF c (x::r)=cond (ltb (cdC x) c) (lbF c r) (cdC x==c):=by
 unfold lbF;rw[B2T];cases ltb (cdC x) c
 ·simp
 ·simp
theorem B5V (c:Int):∀(l:List Cr),cond (lbF c l) (cK l (lbN c l:Nat)) 0=B7K c l
 |[]=>by unfold B7K;simp[lbF]
 |x::r=>by
  have ih:=B5V c r;rw[B2T,B7L];simp only[B7K];cases ltb (cdC x) c
  ·simp only[cond_false];cases(cdC x==c)
   ·rfl
   ·simp[cK]
  ·simp only[cond_true];rw[<- ih];unfold cK;cases lbF c r
   ·rfl
   ·simp only[cond_true,Int.toNat_natCast];rw[List.getElem?_cons_succ]
theorem B3R {c:Int}:∀{l:List Cr},(∀x∈l,c<cdC x)->B7K c l=0
 |[],_=>rfl
 |x::r,h=>by
  have:=h x (by simp);have h1:ltb (cdC x) c=false:=by rw[A0K];omega
  have h2:(cdC x==c)=false:=by rw[beq_eq_false_iff_ne];omega
  simp only[B7K,h1,h2,cond_false]
theorem B3S {d:Int}{us ks:List Int}(h:∀x∈us,d<x):∀x∈wthL us ks,d<cdC x:=fun x hx=>h _ (A4g hx).1
theorem B0r:∀{us ks:List Int} {j:Nat} {c:Int},asc us->ks.length=us.length->us[j]? =some c->B7K c (wthL us ks)=ks[j]?.getD 0
 |[],ks,j,c,_,_,h=>by simp at h
 |d::us,[],j,c,_,h,_=>by simp at h
 |d::us,q::ks,0,c,ha,hl,h=>by
  obtain⟨h1,h2⟩:=A8X ha;have hdc:d=c:=by simpa using h
  subst hdc;simp only[wthL];have hab:=B3S (ks:=ks) h2
  by_cases hq:q=0
  ·rw[if_pos hq,B3R hab,hq];rfl
  ·rw[if_neg hq];have e1:ltb (cdC (d/3,d%3,q)) d=false:=by rw[A0K,B5U];omega
   have e2:(cdC (d/3,d%3,q)==d)=true:=by rw[beq_iff_eq,B5U]
   simp only[B7K,e1,e2,cond_false,cond_true];rfl
 |d::us,q::ks,j+1,c,ha,hl,h=>by
  obtain⟨h1,h2⟩:=A8X ha;have hj:us[j]? =some c:=by simpa using h
  have ih:=B0r (us:=us) (ks:=ks) (j:=j) (c:=c) h1 (by simpa using hl) hj;have hdc:d<c:=h2 c (List.mem_of_getElem? hj);simp only[wthL,List.getElem?_cons_succ]
  by_cases hq:q=0
  ·rw[if_pos hq,ih]
  ·rw[if_neg hq];have e1:ltb (cdC (d/3,d%3,q)) c=true:=by rw[A0n,B5U];exact hdc
   simp only[B7K,e1,cond_true,ih]
def kds (w h:Int)(ks:List Int):Prop:=ks.length=(units w h).length/\∀k∈ks,0<=k/\k<=3
def vP (w h:Int)(l:List Cr):Prop:=∃ks,kds w h ks/\l=wthL (units w h) ks
theorem vP_mem {w h:Int}{l:List Cr}(hv:vP w h l){x:Cr}(hx:x∈l):cdC x∈units w h/\x.1=cdC x/3/\x.2.1=cdC x%3/\1<=x.2.2/\x.2.2<=3:=by
 obtain⟨ks,⟨h1,h2⟩,rfl⟩:=hv;obtain⟨a,b,c,d,e⟩:=A4g hx;have:=h2 _ d;exact⟨a,b,c,by omega,by omega⟩
theorem vP_edg {w h:Int}{l:List Cr}(hv:vP w h l):edg l:=fun x hx=>by
 obtain⟨-,-,h3,-,-⟩:=vP_mem hv hx;omega
theorem vP_len {w h:Int}{l:List Cr}(hs:s5 w h)(hv:vP w h l):l.length<=300:=by
 obtain⟨ks,-,rfl⟩:=hv;have:=B2P (units w h) ks;have:=B5M hs;omega
theorem B5W {w h c:Int}(hs:s5 w h)(hc:c∈units w h):A47 w h (c/3)=true/\c/3<nbI w h (c/3) (c%3)/\0<=c:=by
 have h1:=B5N hc;have:=B8Q hs;have h3:((3*(4*w*h).toNat:Nat):Int)=3*(4*w*h):=by omega
 refine⟨A4f.2 ⟨by omega,by omega⟩,?_,h1.1⟩;have h2:=h1.2.2;unfold unB at h2;exact A0n.1 h2
theorem C0w {w h:Int}{l:List Cr}(hs:s5 w h)(hv:vP w h l){x:Cr}(hx:x∈l):A3t w h x=true:=by
 obtain⟨h1,h2,h3,h4,h5⟩:=vP_mem hv hx;obtain⟨u1,u2,u3⟩:=B5W hs h1;rw[<- h2,<- h3]at u2;rw[<- h2]at u1;unfold A3t okN okI;rw[B8P hs,u1];have hb:=A4f.1 u1;simp only[Bool.true_and,Bool.and_eq_true,decide_eq_true_eq,A0H];omega
theorem B8V:∀(l:List Cr),(∀x∈l,0<=x.2.1/\x.2.1<=2)->l.Pairwise (fun x y=>cdC x<cdC y)->A62 l=true
 |[],_,_=>rfl
 |[x],_,_=>rfl
 |x::y::r,he,h=>by
  have h1:=List.pairwise_cons.1 h;have ih:=B8V (y::r) (fun z hz=>he z (by simp at hz ⊢; exact .inr hz)) h1.2;have hxy:=(B2S (he x (by simp)) (he y (by simp))).1.2 (h1.1 y (by simp));simp only[A62,Bool.and_eq_true]at ih ⊢;exact⟨A0n.2 hxy,ih⟩
theorem vP_pw {w h:Int}{l:List Cr}(hv:vP w h l):l.Pairwise (fun x y=>cdC x<cdC y):=by
 obtain⟨ks,-,rfl⟩:=hv;exact B1y (B0q w h)
theorem vP_chk {w h:Int}{l:List Cr}(hs:s5 w h)(hv:vP w h l):chkI w h l=0:=by
 have h1:B2Q l=false:=by
  unfold B2Q;rw[List.any_eq_false];intro x hx;obtain⟨-,-,-,h4,h5⟩:=vP_mem hv hx;rw[C0s.2 ⟨h4,h5⟩];simp
 have h2:l.all (A3t w h)=true:=List.all_eq_true.2 fun x hx=>C0w hs hv hx;have h3:A62 l=true:=B8V l (fun x hx=>by obtain⟨-,-,h3,-,-⟩:=vP_mem hv hx;omega) (vP_pw hv);unfold chkI;rw[B8P hs,h1,h2,h3];rfl
def cod (w h i e:Int):Int:=3*min i (nbI w h i e)+e
theorem C8K {w h i e:Int}(hs:s5 w h)(hn:neE w h i e=0):A47 w h i=true/\e<=2/\0<=nbI w h i e:=by
 have h0:=A7I.2 hn;unfold okN okI at h0;simp only[Bool.and_eq_true,decide_eq_true_eq,A0H]at h0;exact⟨h0.1.2,h0.2.1,h0.2.2⟩
theorem C8L {w h:Int}{l:List Cr}{i e:Int}(hs:s5 w h)(hv:vP w h l)(he:0<=e):atE w h l i e=neE w h i e/\(neE w h i e=0->atC w h l i e=cod w h i e/3/\atD w h l i e=cod w h i e%3/\atI w h l i e=(lbN (cod w h i e) l:Nat)/\atF w h l i e=lbF (cod w h i e) l):=by
 have hc:=vP_chk hs hv;have h1:atE w h l i e=neE w h i e:=by unfold atE;rw[hc];rfl
 refine⟨h1,fun hn=>?_⟩;have hB:atB w h l i e=true:=by unfold atB;rw[h1,hn];rfl
 obtain⟨-,n2,n3,n4,n5,n6⟩:=C31 (w:=w) (h:=h) (i:=i) he hn;have hcd:3*nmC w h i e+nmE w h i e=cod w h i e:=by rw[n4,n5];rfl
 have h2:=(C8K hs hn).2.1;unfold atC atD atI atF;rw[hB,n4,n5];simp only[bI,cond_true,Bool.true_and];have e1:cod w h i e/3=min i (nbI w h i e):=by unfold cod;omega
 have e2:cod w h i e%3=e:=by unfold cod;omega
 refine⟨e1.symm,e2.symm,?_,?_⟩
 ·unfold lbI;rfl
 ·rw[C32];rfl
theorem kn_eq {w h:Int}{ks:List Int}{i e:Int}{j:Nat}(hs:s5 w h)(hk:kds w h ks)(he:0<=e)(hn:neE w h i e=0)(hj:(units w h)[j]? =some (cod w h i e)):knI w h (wthL (units w h) ks) i e=ks[j]?.getD 0:=by
 obtain⟨h1,h2⟩:=C8L (i:=i) (e:=e) hs ⟨ks,hk,rfl⟩ he;obtain⟨-,-,h3,h4⟩:=h2 hn;unfold knI;rw[h3,h4];unfold bI;rw[B5V];exact B0r (B0q w h) hk.1 hj
end Go.Proofs.YtfafinkgmhkdmaaGreatDoor.P
