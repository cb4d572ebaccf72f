/-
 The contracts of the check, of look up and set of a pattern.
-/
import Derived.Test.YtfafinkgmhkdmaaGreatDoorPC4Z
import Derived.Test.YtfafinkgmhkdmaaGreatDoorPO4Z
set_option maxRecDepth 1000000
set_option linter.unusedVariables false
set_option linter.unusedSimpArgs false
namespace Go.Proofs.YtfafinkgmhkdmaaGreatDoor.P
open Go Go.Ab Go.Proofs.YtfafinkgmhkdmaaGreatDoor.X
theorem unC_flat:∀(l:List Cr),unC (flatC l)=l
 |[]=>rfl
 |(c,e,k)::l=>by
  have ih:=unC_flat l;show(c,e,k)::unC (flatC l)=_;rw[ih]
theorem A21 {l:List Cr}(h:l.length<1000000000):okA (flatC l) l.length:=by
 unfold okA;rw[unC_flat];exact⟨rfl,rfl,h⟩
theorem C0s {k:Int}:kdB k=true↔1<=k/\k<=3:=by unfold kdB;simp
theorem D3C (k:Int):SpecP Tryz.prog G 28 [.int .u8 k] (.bool (kdB k)) []:=by
 refine A0d hcm hmx A26 D0J rfl (C3M k) ?_;unfold kdB;refine⟨fun h=>⟨by rw[h];rfl,trivial⟩,fun h=>⟨by rw[h];rfl,trivial⟩⟩
theorem D3D:A06 Tryz.prog G 28 e51:=by
 intro args r h hp;unfold e51 at h;split at h<;>cases h;exact(D3C _).caps
theorem C8u (c e c' e':Int)(h1:sml c)(h2:sml c')(h3:0<=e/\e<=255)(h4:0<=e'/\e'<=255):SpecP Tryz.prog G 31 [.agg [.int .i64 c,.int .u8 e],.agg [.int .i64 c',.int .u8 e']] (.int .i64 (A6C c e c' e')) []:=by
 refine A0d hcm hmx A26 D0P rfl (B5O c e c' e') ?_;unfold sml at h1 h2;unfold A6C;simp only[bne_iff_ne,ne_eq,bne_eq_false_iff_eq,A0w,and_true];refine⟨fun h=>⟨by omega,by rw[if_neg h]⟩,fun h=>⟨by omega,by omega,by omega,by rw[if_pos h]⟩⟩
theorem C6t:A06 Tryz.prog G 31 e61:=by
 intro args r h hp;unfold e61 at h;split at h<;>cases h;obtain⟨h1,h2,h3,h4,h5,h6⟩:=hp;exact(C8u _ _ _ _ h1 h2 ⟨h3,h4⟩ ⟨h5,h6⟩).caps
theorem D3E (c e k:Int):SpecP Tryz.prog G 30 [.agg [.int .i64 c,.int .u8 e,.int .u8 k]] (.agg [.int .i64 c,.int .u8 e]) []:=by
 refine A0d hcm hmx A26 D0N rfl (C3N c e k) ?_;exact⟨rfl,rfl,trivial⟩
theorem D3F:A06 Tryz.prog G 30 e62:=by
 intro args r h hp;unfold e62 at h;split at h<;>cases h;exact(D3E _ _ _).caps
theorem C3S:A1Z Tryz.prog G C8m:=⟨D3D,C6t,D3F,ct58,C3L⟩
theorem C3T:TabOk Tryz.prog G CP1:=A0m A0s C3S
theorem C8v:A06 Tryz.prog G 27 e66:=by
 intro args r h hp;unfold e66 at h;split at h<;>cases h;exact(A0d hcm hmx C3T D0H rfl (B5P _ _ _) ⟨rfl,trivial⟩:SpecP Tryz.prog G 27 [_] (.bool _) []).caps
theorem C8w:A06 Tryz.prog G 122 C8n:=by
 intro args r h hp;unfold C8n at h;split at h<;>cases h;exact(A0d hcm hmx C3T C2R rfl (C0q _ _ _ _ _) ⟨hp,rfl,trivial⟩:SpecP Tryz.prog G 122 [_,_] (.int .i64 _) []).caps
theorem C3U:A1Z Tryz.prog G C8o:=⟨C8v,C8w,C3S⟩
theorem C3V:TabOk Tryz.prog G CP2:=A0m A0s C3U
theorem D3G {cs:List Cr}{n:Nat}(h:n<cs.length):cs[n]?.getD (0,0,0)=(cC cs n,cE cs n,cK cs n):=by
 rw[List.getElem?_eq_getElem h];exact cAt h
theorem D3H (l:List Cr)(hz:l.length<1000000000):SpecP Tryz.prog G 53 [.imm (.vals (flatC l)) l.length none,.fn 27 [] []] (.int .i64 (A27 l 0)) []:=by
 refine A0d hcm hmx C3V D1m rfl (C3O l) ?_;simp only[A0n,A0K,A0H,A09,A0E,A0Q,A0w,A1t,and_true,true_and,A0r,Bool.not_eq_true',Bool.not_eq_false'];refine⟨⟨0,by simp,by omega,by simp⟩,?_⟩;rintro⟨i⟩ ⟨n,hi,hn,he⟩;simp only at hi he ⊢;subst hi;simp only[Int.toNat_natCast];refine⟨fun hlt=>?_,fun hge=>?_⟩
 ·have g1:n<l.length:=by omega
  obtain⟨c1,c2,c3⟩:=B7I g1;have hst:A27 (l.drop n) n=cond (kdB (cK l n)) (A27 (l.drop (n+1)) ((n:Int)+1)) n:=by rw[A8W g1,cAt g1];rfl
  refine⟨by omega,by omega,by rw[A1S];omega,c1,c2,c3,fun hk=>?_,fun hk=>⟨by omega,⟨n+1,by omega,by omega,?_⟩,by omega⟩⟩
  ·rw[<- he,hst,hk];rfl
  ·rw[<- he,hst,hk];rfl
 ·have g1:l.drop n=[]:=List.drop_eq_nil_of_le (by omega);rw[<- he,g1];rfl
theorem D3I:A06 Tryz.prog G 53 e95:=by
 intro args r h hp;unfold e95 at h;split at h<;>cases h;rename_i a n _;obtain⟨h1,h2,h3⟩:=hp;generalize unC a=l at*;subst h1 h2;exact(D3H _ h3).caps
theorem C3W:A1Z Tryz.prog G C8p:=⟨D3I,C3U⟩
theorem C8x:TabOk Tryz.prog G CP3:=A0m A0s C3W
theorem B5S:∀(l:List Cr) (i:Int),0<=i->leb 0 (A27 l i)=B2Q l
 |[],i,h=>rfl
 |x::l,i,h=>by
  have ih:=B5S l (i+1) (by omega);show leb 0 (cond (kdB x.2.2) (A27 l (i+1)) i)=(!kdB x.2.2||B2Q l);cases kdB x.2.2 with
  |true=>simpa using ih
  |false=>simp only[cond_false,Bool.not_false,Bool.true_or];simpa using h
theorem C8y (l:List Cr)(hz:l.length<1000000000):SpecP Tryz.prog G 26 [.imm (.vals (flatC l)) l.length none,.fn 27 [] []] (.bool (B2Q l)) []:=by
 refine A0d hcm hmx C8x D0F rfl (B5Q l) ?_;rw[unC_flat];exact⟨A21 hz,B5S l 0 (by omega),trivial⟩
theorem C8z:A06 Tryz.prog G 26 e65:=by
 intro args r h hp;unfold e65 at h;split at h<;>cases h;rename_i a n _;obtain⟨h1,h2,h3⟩:=hp;generalize unC a=l at*;subst h1 h2;exact(C8y _ h3).caps
theorem C3X:A1Z Tryz.prog G C8q:=⟨C8z,C3W⟩
theorem C8A:TabOk Tryz.prog G CP4:=A0m A0s C3X
theorem C0t {w h c e k:Int}:(bif neE w h c e !=0 then true else !(nmC w h c e==c&&nmE w h c e==e))= !A3t w h (c,e,k):=by
 unfold A3t nmC nmE;rcases A1A (okN w h c e)with h0|h0
 ·have h1:=A7I.1 h0;rw[h0,h1];simp only[bI,cond_true,Bool.true_and,beq_self_eq_true,Bool.and_true];rw[show((0:Int) !=0)=false from rfl,cond_false]
  congr 1
  rcases A1A (leb c (nbI w h c e))with h2|h2
  ·rw[h2];rw[beq_iff_eq];rw[A0H]at h2;omega
  ·rw[h2];rw[beq_eq_false_iff_ne];rw[A09]at h2;omega
 ·have h1:(neE w h c e !=0)=true:=by
   rw[bne_iff_ne];intro e;rw[A7I.2 e]at h0;cases h0
  rw[h0,h1];rfl
theorem C3Y {α:Type}{f:α->Bool}{l:List α}{n:Nat}(h:n<l.length):(l.take (n+1)).all f=((l.take n).all f&&f l[n]):=by
 rw[C0p h,List.all_append];simp
theorem B2R {w h:Int}{x:Cr}(hx:A3t w h x=true)(he:0<=x.2.1):sml x.1/\0<=x.1/\x.2.1<=2/\x.1<1024:=by
 unfold A3t okN okI at hx;simp only[Bool.and_eq_true,decide_eq_true_eq]at hx;obtain⟨⟨⟨h1,h2⟩,h3,h4⟩,h5⟩:=hx;have:=A6B h1 h2;unfold sml;omega
theorem C0u {l:List Cr}{n:Nat}(h:n+1<l.length):A62 (l.drop n)=(ltb (A6C (cC l n) (cE l n) (cC l (n+1:Nat)) (cE l (n+1:Nat))) 0&&A62 (l.drop (n+1))):=by
 have h0:n<l.length:=by omega
 rw[A8W h0,A8W h,cAt h0,cAt h];rfl
theorem B7J {l:List Cr}{n:Nat}(h:l.length<=n+1):A62 (l.drop n)=true:=by
 by_cases h0:n<l.length
 ·rw[A8W h0,List.drop_eq_nil_of_le h];rfl
 ·rw[List.drop_eq_nil_of_le (by omega)];rfl
theorem C8B (w h:Int)(l:List Cr)(hz:l.length<1000000000)(hg:edg l):SpecP Tryz.prog G 7 [C1O w h l] (.int .i64 (chkI w h l)) []:=by
 refine A0d hcm hmx C8A ok7 rfl (C3P w h l) ?_;rw[C0k,unC_flat];have hg':∀{n:Nat},n<l.length->0<=cE l n/\cE l n<=255:=fun h=>by
  have:=hg _ (List.getElem_mem h);rw[cAt h]at this;exact this
 unfold chkI;rcases A1A (okS w h)with hs|hs
 ·rw[hs];rcases A1A (B2Q l)with hb|hb
  ·rw[hb];exact⟨fun h=>by simp at h,fun _=>⟨A21 hz,fun _=>⟨rfl,trivial⟩,fun h=>by simp at h⟩⟩
  ·rw[hb];refine⟨fun h=>by simp at h,fun _=>⟨A21 hz,fun h=>by simp at h,fun _=>?_⟩⟩;simp only[A0n,A0K,A0H,A09,A0E,A0Q,A0w,A1t,and_true,true_and,A0r,cond_true,cond_false,implies_true,imp_self];refine⟨⟨0,by simp,by omega,by simp⟩,?_⟩;rintro⟨i⟩ ⟨n,hi,hn,ha⟩;simp only at hi ha ⊢;subst hi;simp only[Int.toNat_natCast];refine⟨fun hlt=>?_,fun hge=>⟨⟨0,by simp,by simp⟩,?_⟩⟩
   ·have g1:n<l.length:=by omega
    obtain⟨c1,c2,c3⟩:=B7I g1;rw[C0t (k:=cK l n)];have hst:=C3Y (f:=A3t w h) g1;rw[ha,Bool.true_and,cAt g1]at hst;refine⟨by omega,by omega,by rw[A1S];omega,c1,c2,c3,(hg' g1).1,?_,fun hu=>?_,fun hu=>⟨by omega,⟨n+1,by omega,by omega,?_⟩,by omega⟩⟩
    ·cases(neE w h (cC l n) (cE l n) !=0)<;>rfl
    ·have:l.all (A3t w h)=false:=by
      cases hh:l.all (A3t w h)with
      |false=>rfl
      |true=>
       rw[List.all_eq_true]at hh;have:=hh _ (List.getElem_mem g1);rw[cAt g1]at this;rw[this]at hu;simp at hu
     rw[this];rfl
    ·rw[hst];simpa using hu
   ·have hnn:n=l.length:=by omega
    subst hnn;rw[List.take_length]at ha;rw[ha,cond_true];have hu:∀{n:Nat},n<l.length->sml (cC l n):=fun hn=>by
     rw[List.all_eq_true]at ha;have h1:=ha _ (List.getElem_mem hn);rw[cAt hn]at h1;exact(B2R h1 (hg' hn).1).1
    rintro⟨i⟩ ⟨n,hi,he⟩;simp only at hi he ⊢;subst hi;rw[show((n:Int)+1-1)=n by omega,show((n:Int)+1)=((n+1:Nat):Int)by omega];simp only[Int.toNat_natCast];refine⟨fun hlt=>?_,fun hge=>?_⟩
    ·have g1:n<l.length:=by omega
     have g2:n+1<l.length:=by omega
     obtain⟨c1,c2,c3⟩:=B7I g1;obtain⟨d1,d2,d3⟩:=B7I g2;have hst:=C0u g2;have q1:=hg' g1;have q2:=hg' g2;refine⟨by omega,by omega,by omega,by rw[A1S];omega,c1,c2,c3,by omega,by omega,by rw[A1S];omega,d1,d2,d3,⟨hu g1,hu g2,q1.1,q1.2,q2.1,q2.2⟩,fun ho=>?_,fun ho=>⟨by omega,⟨n+1,by omega,?_⟩,by omega⟩⟩
     ·have:ltb (A6C (cC l n) (cE l n) (cC l (n+1:Nat)) (cE l (n+1:Nat))) 0=false:=by rw[A0K];exact ho
      rw[this,Bool.false_and]at hst;rw[<- he,hst];rfl
     ·have:ltb (A6C (cC l n) (cE l n) (cC l (n+1:Nat)) (cE l (n+1:Nat))) 0=true:=by rw[A0n];exact ho
      rw[this,Bool.true_and]at hst;rw[<- hst];exact he
    ·rw[<- he,B7J (by omega)];rfl
 ·rw[hs];exact⟨fun _=>⟨rfl,trivial⟩,fun h=>by simp at h⟩
theorem ct27:A06 Tryz.prog G 7 e27:=by
 intro args r h hp;unfold e27 at h;split at h<;>cases h;rename_i w h a n _;obtain⟨⟨h1,h2,h3⟩,h4⟩:=hp;generalize unC a=l at*;subst h1 h2;exact(C8B _ _ _ h3 h4).caps
theorem B2S {c e c' e':Int}(h1:0<=e/\e<=2)(h2:0<=e'/\e'<=2):(A6C c e c' e'<0↔3*c+e<3*c'+e')/\(A6C c e c' e'=0↔3*c+e=3*c'+e'):=by
 unfold A6C;split<;>omega
theorem B8R {c:Int}:∀(l:List Cr) (n:Nat),n<=l.length->(∀k,k<n->cdC (l[k]?.getD (0,0,0))<c)->(∀k,n<=k->k<l.length->c<=cdC (l[k]?.getD (0,0,0)))->lbN c l=n
 |[],n,h,_,_=>by simp at h;simp[lbN,h]
 |x::l,0,_,_,h2=>by
  have:=h2 0 (by omega) (by simp);simp only[List.getElem?_cons_zero,Option.getD_some]at this;have:ltb (cdC x) c=false:=by rw[A0K];exact this
  simp only[lbN,this,cond_false]
 |x::l,n+1,h,h1,h2=>by
  have:=h1 0 (by omega);simp only[List.getElem?_cons_zero,Option.getD_some]at this;have hx:ltb (cdC x) c=true:=by rw[A0n];exact this
  have ih:=B8R l n (by simpa using h) (fun k hk=>by simpa using h1 (k+1) (by omega)) (fun k hk hk2=>by simpa using h2 (k+1) (by omega) (by simpa using hk2));simp only[lbN,hx,cond_true,ih]
theorem B8S {l:List Cr}(h:srt l){i j:Nat}(hi:i<j)(hj:j<l.length):cdC (l[i]?.getD (0,0,0))<cdC (l[j]?.getD (0,0,0)):=by
 have h1:=List.pairwise_iff_getElem.1 h.1 i j (by omega) hj hi;rw[List.getElem?_eq_getElem hj,List.getElem?_eq_getElem (by omega:i<l.length)];exact h1
theorem C0v {x:Int}(h0:0<=x)(h1:x<18446744073709551616):IntKind.wrap .u64 x=x:=by
 simp[IntKind.wrap,IntKind.bits,IntKind.signed];omega
theorem C8C (l:List Cr)(c e:Int)(hz:l.length<1000000000)(hs:srt l)(hc:sml c)(he:0<=e/\e<=2):SpecP Tryz.prog G 121 [.imm (.vals (flatC l)) l.length none,.agg [.int .i64 c,.int .u8 e],.fn 122 [] []] (.tup [.int .i64 (lbI l c e),.bool (fdB l c e)]) []:=by
 refine A0d hcm hmx C3V C2P rfl (C0r l c e) ?_;simp only[A0n,A0K,A0H,A09,A0E,A0Q,A0w,A1t,and_true,true_and,A0r,implies_true,imp_self];refine⟨⟨0,l.length,by simp,by simp,by omega,by omega,fun k hk=>by omega,fun k h1 h2=>by omega⟩,?_⟩;have hm:∀{k:Nat},k<l.length->sml (cC l k)/\0<=cE l k/\cE l k<=2:=fun hk=>by
  have:=hs.2 _ (List.getElem_mem hk);rw[cAt hk]at this;exact this
 have hcd:∀{k:Nat},k<l.length->cdC (l[k]?.getD (0,0,0))=3*cC l k+cE l k:=fun hk=>by rw[D3G hk];rfl
 rintro⟨i,j⟩ ⟨n,m,hi,hj,hnm,hml,hlo,hhi⟩;simp only at hi hj ⊢;subst hi;subst hj;rw[C0v (by omega) (by omega)];have hh:Int.fdiv ((n:Int)+m) 2=((n+m)/2:Nat):=by
  rw[Int.fdiv_eq_ediv_of_nonneg _ (by omega)];omega
 rw[hh];simp only[Int.toNat_natCast];refine⟨fun hlt=>?_,fun hge=>?_⟩
 ·have g1:(n+m)/2<l.length:=by omega
  obtain⟨c1,c2,c3⟩:=B7I g1;obtain⟨s1,s2,s3⟩:=hm g1;have ho:=B2S (c:=cC l ((n+m)/2:Nat)) (c':=c) ⟨s2,s3⟩ he;refine⟨by omega,by omega,by omega,by omega,by rw[A1S];omega,c1,c2,c3,⟨s1,hc,s2,by omega,he.1,by omega⟩,fun hl=>?_,fun hl=>?_⟩
  ·have hl':=ho.1.1 hl;rw[<- hcd g1]at hl';refine⟨by omega,⟨(n+m)/2+1,m,by omega,rfl,by omega,hml,fun k hk=>?_,hhi⟩,by omega⟩
   by_cases hk2:k=(n+m)/2
   ·subst hk2;exact hl'
   ·have:=B8S hs (i:=k) (j:=(n+m)/2) (by omega) g1;omega
  ·have hl':3*c+e<=3*cC l ((n+m)/2:Nat)+cE l ((n+m)/2:Nat):=by
    rcases Int.lt_or_le (3*cC l ((n+m)/2:Nat)+cE l ((n+m)/2:Nat)) (3*c+e)with h|h
    ·have:=ho.1.2 h;omega
    ·exact h
   rw[<- hcd g1]at hl';refine⟨⟨n,(n+m)/2,rfl,rfl,by omega,by omega,hlo,fun k hk hk2=>?_⟩,by omega⟩
   by_cases hk3:k=(n+m)/2
   ·subst hk3;exact hl'
   ·have:=B8S hs (i:=(n+m)/2) (j:=k) (by omega) hk2;omega
 ·have hnm':n=m:=by omega
  subst hnm';have hlb:=B8R l n hml hlo hhi;have hlI:lbI l c e=(n:Int):=by unfold lbI;rw[hlb]
  have hfd:fdB l c e=(ltb (n:Int) l.length&&(cdC (l[n]?.getD (0,0,0))==3*c+e)):=by unfold fdB;rw[hlI,hlb]
  rw[hlI,hfd];refine⟨fun h=>by omega,fun h=>by rw[A1S];omega,fun h=>(B7I (by omega)).1,fun h=>(B7I (by omega)).2.1,fun h=>(B7I (by omega)).2.2,fun h=>?_,?_,rfl,?_⟩
  ·obtain⟨s1,s2,s3⟩:=hm (k:=n) (by omega);exact⟨s1,hc,s2,by omega,he.1,by omega⟩
  ·cases ltb (n:Int) l.length<;>rfl
  ·rcases A1A (ltb (n:Int) l.length)with h|h
   ·rw[h];simp only[cond_true,Bool.true_and];rw[A0n]at h;have g1:n<l.length:=by omega
    obtain⟨s1,s2,s3⟩:=hm g1;have ho:=(B2S (c:=cC l n) (c':=c) ⟨s2,s3⟩ he).2;rw[hcd g1]
    by_cases hq:3*cC l n+cE l n=3*c+e
    ·rw[ho.2 hq,hq];simp
    ·have:A6C (cC l n) (cE l n) c e≠0:=fun h=>hq (ho.1 h);rw[beq_eq_false_iff_ne.2 this,beq_eq_false_iff_ne.2 hq]
   ·rw[h];rfl
theorem C8D:A06 Tryz.prog G 121 C8r:=by
 intro args r h hp;unfold C8r at h;split at h<;>cases h;rename_i a n _ c e;obtain⟨⟨h1,h2,h3⟩,h4,h5,h6⟩:=hp;generalize unC a=l at*;subst h1 h2;exact(C8C _ _ _ h3 h4 h5 h6).caps
theorem C3Z:A1Z Tryz.prog G C8s:=⟨ct27,C8D,C3X⟩
theorem C8E:TabOk Tryz.prog G CP5:=A0m A0s C3Z
theorem D3J (l:List Cr)(c e:Int)(hz:l.length<1000000000)(hs:srt l)(hc:sml c)(he:0<=e/\e<=2):SpecP Tryz.prog G 90 [.imm (.vals (flatC l)) l.length none,.agg [.int .i64 c,.int .u8 e]] (.tup [.int .i64 (lbI l c e),.bool (fdB l c e)]) []:=by
 refine A0d hcm hmx C8E D2c rfl (B5R l c e) ?_;rw[unC_flat];exact⟨⟨A21 hz,hs,hc,he⟩,rfl,rfl,trivial⟩
theorem C6u:A06 Tryz.prog G 90 e87:=by
 intro args r h hp;unfold e87 at h;split at h<;>cases h;rename_i a n _ c e;obtain⟨⟨h1,h2,h3⟩,h4,h5,h6⟩:=hp;generalize unC a=l at*;subst h1 h2;exact(D3J _ _ _ h3 h4 h5 h6).caps
theorem C30:A1Z Tryz.prog G C8t:=⟨C6u,C3Z⟩
theorem C8F:TabOk Tryz.prog G CP6:=A0m A0s C30
end Go.Proofs.YtfafinkgmhkdmaaGreatDoor.P
