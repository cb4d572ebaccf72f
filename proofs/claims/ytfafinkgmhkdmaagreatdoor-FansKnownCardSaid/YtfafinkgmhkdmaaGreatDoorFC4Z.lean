/-
 The law on patterns of fans answers true.
-/
import Derived.Test.YtfafinkgmhkdmaaGreatDoorFP2Z
import Derived.Test.YtfafinkgmhkdmaaGreatDoorFO4Z
import Derived.Test.YtfafinkgmhkdmaaGreatDoorVLZ
set_option maxRecDepth 1000000
set_option linter.unusedVariables false
set_option linter.unusedSimpArgs false
namespace Go.Proofs.YtfafinkgmhkdmaaGreatDoor.X
open Go Go.Ab
theorem B6l (l:List Int):∀n:Nat,0<=unN l n/\unN l n<=2*n
 |0=>by simp[unN]
 |n+1=>by
  have:=B6l l n;have h1:=Int.tmod_nonneg 2 (Int.natCast_nonneg n);have h2:=Int.tmod_lt_of_pos (n:Int) (by decide:(0:Int)<2);simp only[unN];cases(l[n]?.getD 0 !=0)<;>simp<;>omega
structure GF (a k:List Int)(d:Int):Prop where
 rl:(raysL (crF a k d) 2 2).length=k.length
 al:a.length=k.length
 un:unN (kdN a k d a.length) 8=(crF a k d).length
 no:a.length=0->angR (raysL (crF a k d) 2 2) (raysL (crF a k d) 2 2).length=[]/\kndR (raysL (crF a k d) 2 2)=[]/\dR (raysL (crF a k d) 2 2) 0=0
 yes:0<a.length->tOk a (mnN a d a.length)=true/\angR (raysL (crF a k d) 2 2) (raysL (crF a k d) 2 2).length=rotL' a (mnN a d a.length).toNat/\kndR (raysL (crF a k d) 2 2)=rotL' k (mnN a d a.length).toNat/\dR (raysL (crF a k d) 2 2) 0=lsN a d a.length
 at_:∀n:Nat,n<(raysL (crF a k d) 2 2).length->(kdN a k d a.length)[(dR (raysL (crF a k d) 2 2) n).toNat]?.getD 0=kR (raysL (crF a k d) 2 2) n
 mid:∀x y,(x=1\/x=3)/\(y=1\/y=3)->∃q d',raysL (crF a k d) x y=midL q d'
 l8:∀n,(kdN a k d n).length=8
theorem B1I (a k:List Int)(d:Int):∀n,(kdN a k d n).length=8
 |0=>rfl
 |n+1=>by simp only[kdN,List.length_set];exact B1I a k d n
theorem C9L (kd:List Int){n:Nat}(h:n<(RI kd).length):kd[(dR (RI kd) n).toNat]?.getD 0=kR (RI kd) n:=by
 have e:(RI kd)[n]? =some (RI kd)[n]:=List.getElem?_eq_getElem h;have hm:(RI kd)[n]∈RI kd:=List.getElem_mem h;unfold dR kR;rw[Int.toNat_natCast,e];simp only[Option.getD_some];obtain⟨r,_,hr⟩:=List.mem_map.1 (List.mem_filter.1 hm).1;rw[<- hr];simp
theorem C9M {a k:List Int}{d:Int}(h:flF a k d):GF a k d:=by
 obtain⟨c,ks,hc,hk,ha,hkk,n,rfl,hn⟩:=h;have hf:=C1i hc hn;have hcr:=C1j (ks:=ks) hc hn;rw[<- ha,<- hkk]at hcr;have hA:a=aC c:=by rw[ha,B7P]
 have hK:k=(kI (nC c)).map (gK ks):=by rw[hkk,C0z]
 have hkl:k.length=nC c:=by rw[hK];simp[kI]
 have hal:a.length=nC c:=by rw[hA];exact hf.al
 have hkd:kdN a k n a.length=(kdN (aC c) (kI (nC c)) n (nC c)).map (gK ks):=by rw[hal,hA,hK,B1B (gK0 ks)]
 have g0:=fun j=>(C0A hk j).2.2;have hR:raysL (crF a k n) 2 2=RI (kdN a k n a.length):=by rw[hcr,hkd];exact C5c (A4J hk _)
 have hR2:raysL (crF a k n) 2 2=(RI (kdN (aC c) (kI (nC c)) n (nC c))).map (re2 (gK ks)):=by rw[hR,hkd,C36 g0]
 have h8:((kdN (aC c) (kI (nC c)) n (nC c)).map (gK ks))[8]?.getD 0=0:=by
  rw[List.getElem?_eq_none (by rw[List.length_map,B1I];exact Nat.le_refl 8)];rfl
 refine⟨?_,by omega,?_,fun h0=>?_,fun h0=>?_,fun i hi=>?_,fun x y hxy=>?_,B1I a k n⟩
 ·rw[hR2,List.length_map,hf.rl,hkl]
 ·rw[hkd,B54 g0,hf.un,hcr,A8Z (gK0 ks),A0T,A5r g0,List.length_map]
 ·have h1:=hf.no (by omega);have hl:=hf.rl;rw[hR2,B2X,B2Y,B53,List.length_map,h1.1,h1.2];refine⟨rfl,rfl,?_⟩;have:RI (kdN (aC c) (kI (nC c)) n (nC c))=[]:=List.eq_nil_of_length_eq_zero (by omega);rw[this];rfl
 ·obtain⟨q1,q2,q3,q4⟩:=hf.yes (by omega);rw[hR2,B2X,B2Y,B53,List.length_map,hf.rl,hal,hA,q2,q3,q4,hK,B7R];exact⟨q1,rfl,rfl,rfl⟩
 ·rw[hR]at hi ⊢;exact C9L _ hi
 ·rw[hcr];obtain⟨rfl|rfl,rfl|rfl⟩:=hxy
  ·exact⟨_,_,C5d (A4J hk _) h8⟩
  ·exact⟨_,_,C5f (A4J hk _) h8⟩
  ·exact⟨_,_,C5e (A4J hk _) h8⟩
  ·exact⟨_,_,C5g (A4J hk _) h8⟩
theorem C9N:TabOk Tryz.prog G T3z:=A0m A0s ⟨D4J,D4K,P.ct27,D4x,D4I,C6y,ct27,C0X,trivial⟩
theorem C5i {c f:Int}{ks:List Int}(hc:0<=c/\c<=255)(hf:0<=f/\f<=255)(hk:okK ks):flF (ofA c 0 ks) (ofK c ks) (f.tmod 8):=by
 obtain⟨c',rfl⟩:=Int.eq_ofNat_of_zero_le hc.1;obtain⟨f',rfl⟩:=Int.eq_ofNat_of_zero_le hf.1;exact⟨c',ks,by omega,hk,rfl,rfl,f'%8,rfl,Nat.mod_lt _ (by decide)⟩
theorem sp3 (c l f:Int)(ks:List Int)(hc:0<=c/\c<=255)(hf:0<=f/\f<=255)(hk:okK ks):SpecP Tryz.prog G 3 [fV c l ks,.int .u8 f] (.bool true) []:=by
 refine A0d hcm hmx C9N ok3 rfl (C9C c l f ks) ?_;have hF:=C5i hc hf hk;have h0:0<=f.tmod 8/\f.tmod 8<8:=⟨Int.tmod_nonneg 8 hf.1,Int.tmod_lt_of_pos f (by decide)⟩;have hz:=B6j hF;have hch:=B1H hF;obtain⟨g1,g2,g3,g4,g5,g6,g7,g8⟩:=C9M hF;have hck:=P.vP_chk s22 hz;have hzl:=B1F hz;have hze:=B1G hz;have hR:zR c ks f=raysL (crF (ofA c 0 ks) (ofK c ks) (f.tmod 8)) 2 2:=rfl;have hQ:∀i,zQ c ks f i=Nat.beq (raysL (crF (ofA c 0 ks) (ofK c ks) (f.tmod 8)) (1+2*i.tmod 2) (1+i.tdiv 2*2)).length 0:=fun i=>rfl;simp only[B1E,hR,hQ,show zA c ks=ofA c 0 ks from rfl];generalize ofA c 0 ks=a at*;generalize ofK c ks=k at*;generalize f.tmod 8=d at*;have hbd:=B0F (crF a k d) 2 2;have hfl:=B1D (raysL (crF a k d) 2 2);have hrl8:(raysL (crF a k d) 2 2).length<=8:=by rw[A6I];exact A6H _ _ _
 have hcrl:=hzl;simp only[A0n,A0K,A0H,A09,A0Q,A1x,A0E,A03,A0w,A0F,A0r,A0G,List.getElem?_drop,beq_iff_eq,beq_eq_false_iff_ne,bne_iff_ne,bne_eq_false_iff_eq,ne_eq,Nat.zero_add,Nat.add_zero,Int.toNat_natCast,and_true,true_and,implies_true,iI,iL,Bool.not_eq_true',Bool.not_eq_false',hck];have hok:=(A2y hch).2.1;generalize hRR:raysL (crF a k d) 2 2=R at*;refine⟨hk,by omega,hF,⟨hzl,hze⟩,⟨0,rfl,by omega,rfl,by simp[A63],rfl,rfl⟩,?_⟩;rintro⟨lb,db,sb,mb,ib⟩ ⟨n,rfl,hn,rfl,rfl,rfl,rfl⟩;simp only[Int.toNat_natCast,g8];refine⟨fun hlt=>?_,fun hge=>?_⟩
 ·have hnl:n<a.length:=by omega
  obtain⟨s1,s2⟩:=A22 hok.1 n;have s3:=hok.2;have hd:0<=A63 a d n/\A63 a d n<=15:=by unfold A63;omega
  have ht:=Int.tmod_nonneg 8 hd.1;have htl:=Int.tmod_lt_of_pos (A63 a d n) (by decide:(0:Int)<8);have hs:A63 a d (n+1)=A63 a d n+a[n]?.getD 0:=by unfold A63;rw[B26 hnl];omega
  obtain⟨s4,s5⟩:=A22 hok.1 (n+1);have hd2:0<=A63 a d (n+1)/\A63 a d (n+1)<=15:=by unfold A63;omega
  refine⟨by omega,by omega,by omega,by rw[List.length_drop];omega,ht,htl,by omega,⟨fun h=>?_,fun h=>?_⟩,?_⟩
  ·have e:ltb ((A63 a d n).tmod 8) (lsN a d n)=true:=by rw[A0n];exact h
   rw[e];exact⟨rfl,rfl⟩
  ·have e:ltb ((A63 a d n).tmod 8) (lsN a d n)=false:=by rw[A0K];exact h
   rw[e];exact⟨rfl,rfl⟩
  ·rintro⟨s',m'⟩ ⟨h1,h2⟩;simp only at h1 h2;subst h1 h2;simp only[List.getD_eq_getElem?_getD];refine⟨by omega,by omega,by omega,by rw[List.length_drop];omega,by omega,by omega,⟨n+1,by omega,by omega,rfl,hs.symm,rfl,rfl⟩,by omega⟩
 ·obtain rfl:n=a.length:=by omega
  refine⟨⟨⟨hzl,hz⟩,.inl ⟨rfl,rfl⟩⟩,by omega,⟨0,rfl,by omega,rfl⟩,?_⟩;rintro⟨u,i⟩ ⟨j,rfl,hj,rfl⟩;have hu:=B6l (kdN a k d a.length) j;simp only[Int.toNat_natCast];refine⟨fun hlt=>?_,fun hge=>?_⟩
  ·have hmod:=Int.tmod_nonneg 2 (Int.natCast_nonneg j);have hmod2:=Int.tmod_lt_of_pos (j:Int) (by decide:(0:Int)<2);refine⟨⟨by omega,by omega,by omega,fun h=>?_,fun h=>?_⟩,?_⟩
   ·have e:unN (kdN a k d a.length) (j+1)=unN (kdN a k d a.length) j+1+(j:Int).tmod 2:=by
     simp only[unN];rw[bne_iff_ne.2 (by simpa using h)];rfl
    exact⟨by omega,by omega,e.symm⟩
   ·have e:unN (kdN a k d a.length) (j+1)=unN (kdN a k d a.length) j:=by
     simp only[unN];rw[bne_eq_false_iff_eq.2 (by simpa using h)];rfl
    exact e.symm
   ·rintro⟨v⟩ hv;have hv:v=_:=hv;subst hv;exact⟨by omega,⟨j+1,by omega,by omega,rfl⟩,by omega⟩
  ·obtain rfl:j=8:=by omega
   refine⟨⟨0,rfl,by omega⟩,?_⟩;rintro⟨i⟩ ⟨j,rfl,hj⟩;simp only[Int.toNat_natCast];refine⟨fun hlt=>?_,fun hge=>?_⟩
   ·have hjl:j<R.length:=by omega
    obtain⟨q1,q2⟩:=A81 hjl;have hb:=B6g hbd j;have e1:ltb (dR R j) 0=false:=by rw[A0K];omega
    have e2:ltb 7 (dR R j)=false:=by rw[A0K];omega
    have q3:=g6 j hjl;have q2':(flR R)[j*2+1]? =some (AV.int IntKind.u8 (kR R j)):=q2;simp only[e1,e2,cond_false,cond_true,List.getD_eq_getElem?_getD,q3,bne_self_eq_false]
    repeat' (with_reducible apply And.intro)
    all_goals first
     |omega
     |exact q1
     |exact q2
     |exact True.intro
     |exact⟨j+1,by omega,by omega⟩
     |with_reducible rfl
     |rfl
   ·refine⟨⟨⟨hzl,hz⟩,.inl ⟨rfl,rfl⟩⟩,by omega,⟨0,rfl,by omega⟩,?_⟩;rintro⟨i⟩ ⟨t,rfl,ht⟩;simp only[Int.toNat_natCast];refine⟨fun hlt=>?_,fun hge=>?_⟩
    ·have ht4:t=0\/t=1\/t=2\/t=3:=by omega
     have hx:((1+2*(t:Int).tmod 2=1\/1+2*(t:Int).tmod 2=3)/\(1+(t:Int).tdiv 2*2=1\/1+(t:Int).tdiv 2*2=3))/\0<=(t:Int).tmod 2/\(t:Int).tmod 2<=1/\0<=(t:Int).tdiv 2/\(t:Int).tdiv 2<=1:=by
      rcases ht4 with rfl|rfl|rfl|rfl<;>decide
     obtain⟨hx,hx1,hx2,hx3,hx4⟩:=hx;have hpt:ptZ (1+2*(t:Int).tmod 2) (1+(t:Int).tdiv 2*2):=by unfold ptZ;omega
     obtain⟨q,d',hm⟩:=g7 _ _ hx;refine⟨by omega,by omega,by omega,by omega,by omega,⟨⟨hzl,hz⟩,hpt⟩,fun h=>?_,fun h=>?_⟩
     ·rw[hm]at h ⊢;have hl:=Nat.eq_of_beq_eq_true h;simp only[B27,hl]
      repeat' (with_reducible apply And.intro)
      all_goals first
       |omega
       |exact⟨t+1,by omega,by omega⟩
       |rfl
     ·rw[hm]at h ⊢;have hm2:midL q d'=[(d',q),(d'+4,q)]:=by
       unfold midL at h ⊢;split
       ·rename_i e;rw[if_pos e]at h;cases h
       ·rfl
      have ha:angR [(d',q),(d'+4,q)] 2=[4,4]:=by
       have e0:nxR [(d',q),(d'+4,q)] (0:Nat)-dR [(d',q),(d'+4,q)] (0:Nat)=4:=by
        rw[show nxR [(d',q),(d'+4,q)] (0:Nat)=d'+4 by simp[nxR,dR],show dR [(d',q),(d'+4,q)] (0:Nat)=d' from rfl];omega
       have e1:nxR [(d',q),(d'+4,q)] (1:Nat)-dR [(d',q),(d'+4,q)] (1:Nat)=4:=by
        rw[show nxR [(d',q),(d'+4,q)] (1:Nat)=d'+8 by simp[nxR,dR],show dR [(d',q),(d'+4,q)] (1:Nat)=d'+4 from rfl];omega
       exact congr (congrArg List.cons e0) (congr (congrArg List.cons e1) rfl)
      have hk2:kndR [(d',q),(d'+4,q)]=[q,q]:=rfl;rw[hm2];simp only[List.length_cons,List.length_nil,Nat.zero_add,ha,hk2]
      repeat' (with_reducible apply And.intro)
      all_goals first
       |omega
       |exact⟨t+1,by omega,by omega⟩
       |rfl
       |decide
       |simp
    ·have hr:∀(l:List Int) (m:Nat),(rotL' l m).length=l.length:=fun l m=>by
      unfold rotL';rw[List.length_append,List.length_drop,List.length_take];omega
     have hal8:=A2q a hok.1;have hal9:=hok.2;have eqt:∀l:List Int,eqB l l=true:=fun l=>by unfold eqB;simp
     refine⟨fun h0=>?_,fun h0=>?_⟩
     ·obtain⟨w1,w2,w3⟩:=g4 (by omega);have ea:a=[]:=List.eq_nil_of_length_eq_zero (by omega);have ek:k=[]:=List.eq_nil_of_length_eq_zero (by omega);rw[w1,w2,w3,ea,ek,eqt];exact⟨⟨rfl,rfl,by decide,by decide⟩,fun _ h=>absurd rfl h,fun h=>by cases h⟩
     ·obtain⟨w0,w1,w2,w3⟩:=g5 (by omega);rw[w0,w1,w2,w3];simp only[show ∀l,bLt true l=l from fun _=>rfl,eqt,hr];exact⟨⟨by omega,hch⟩,fun _=>⟨⟨trivial,trivial,by omega,by omega⟩,fun _ h=>absurd trivial h,fun h=>by cases h⟩,fun h=>absurd rfl h⟩
end Go.Proofs.YtfafinkgmhkdmaaGreatDoor.X
