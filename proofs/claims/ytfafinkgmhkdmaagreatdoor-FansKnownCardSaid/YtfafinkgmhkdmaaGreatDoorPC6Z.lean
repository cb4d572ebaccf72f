/-
 The contracts of look up and set of a pattern.
-/
import Derived.Test.YtfafinkgmhkdmaaGreatDoorPC5Z
set_option maxRecDepth 1000000
set_option linter.unusedVariables false
set_option linter.unusedSimpArgs false
namespace Go.Proofs.YtfafinkgmhkdmaaGreatDoor.P
open Go Go.Ab Go.Proofs.YtfafinkgmhkdmaaGreatDoor.X
theorem B8T:∀(l:List Cr),(∀x∈l,0<=x.2.1/\x.2.1<=2)->A62 l=true->l.Pairwise (fun x y=>cdC x<cdC y)
 |[],_,_=>.nil
 |[x],_,_=>by simp
 |x::y::r,he,h=>by
  simp only[A62,Bool.and_eq_true]at h;have ih:=B8T (y::r) (fun z hz=>he z (by simp at hz ⊢; exact .inr hz)) (by simp only[A62,Bool.and_eq_true];exact h.2);have hxy:cdC x<cdC y:=by
   have h1:=h.1;rw[A0n]at h1;exact(B2S (he x (by simp)) (he y (by simp))).1.1 h1
  refine List.pairwise_cons.2 ⟨fun z hz=>?_,ih⟩;rcases List.mem_cons.1 hz with rfl|hz
  ·exact hxy
  ·have:=(List.pairwise_cons.1 ih).1 z hz;omega
theorem A2y {w h:Int}{l:List Cr}(hg:edg l)(hc:chkI w h l=0):srt l/\okS w h=true/\B2Q l=false/\l.all (A3t w h)=true/\A62 l=true:=by
 unfold chkI at hc;rcases A1A (okS w h)with h1|h1<;>rw[h1]at hc
 ·rcases A1A (B2Q l)with h2|h2<;>rw[h2]at hc
  ·simp at hc
  ·rcases A1A (l.all (A3t w h))with h3|h3<;>rw[h3]at hc
   ·rcases A1A (A62 l)with h4|h4<;>rw[h4]at hc
    ·have hu:∀x∈l,sml x.1/\0<=x.1/\x.2.1<=2/\x.1<1024:=fun x hx=>B2R (List.all_eq_true.1 h3 x hx) (hg x hx).1;exact⟨⟨B8T l (fun x hx=>⟨(hg x hx).1,(hu x hx).2.2.1⟩) h4,fun x hx=>⟨(hu x hx).1,(hg x hx).1,(hu x hx).2.2.1⟩⟩,h1,h2,h3,h4⟩
    ·simp at hc
   ·simp at hc
 ·simp at hc
theorem C31 {w h i e:Int}(he:0<=e)(hn:neE w h i e=0):sml (nmC w h i e)/\0<=nmE w h i e/\nmE w h i e<=2/\nmE w h i e=e/\nmC w h i e=min i (nbI w h i e)/\0<=nmC w h i e:=by
 have h0:=A7I.2 hn;unfold nmC nmE;rw[h0];unfold okN okI at h0;simp only[Bool.and_eq_true,decide_eq_true_eq,A0H]at h0;obtain⟨⟨h1,h2⟩,h3,h4⟩:=h0;have:=A6B h1 h2;simp only[bI,cond_true];unfold sml;refine⟨by omega,by omega,by omega,trivial,trivial,by omega⟩
theorem C8G (w h:Int)(l:List Cr)(i e:Int)(hz:l.length<1000000000)(hg:edg l)(he:0<=e):SpecP Tryz.prog G 61 [C1O w h l,.int .i64 i,.int .u8 e] (.tup [.agg [.int .i64 (atC w h l i e),.int .u8 (atD w h l i e)],.int .i64 (atI w h l i e),.bool (atF w h l i e),.int .i64 (atE w h l i e)]) []:=by
 refine A0d hcm hmx C8F D1z rfl (C3Q w h l i e) ?_;rw[unC_flat];unfold atC atD atI atF atB atE;refine⟨⟨A21 hz,hg⟩,fun h0=>?_,fun h0=>⟨he,fun h1=>?_,fun h1=>?_⟩⟩
 ·have h0':(chkI w h l==0)=false:=by rw[beq_eq_false_iff_ne];simpa using h0
  simp only[bne_iff_ne,ne_eq]at h0;simp[h0',h0,bI]
 ·have h0':chkI w h l=0:=by simpa using h0
  have h1':(neE w h i e==0)=false:=by rw[beq_eq_false_iff_ne];simpa using h1
  simp[h0',h1',bI]
 ·have h0':chkI w h l=0:=by simpa using h0
  have h1':neE w h i e=0:=by simpa using h1
  have:=C31 he h1';rw[h0',h1'];simp only[beq_self_eq_true,cond_true,bI,Bool.true_and,and_true];exact⟨A21 hz,(A2y hg h0').1,this.1,this.2.1,this.2.2.1⟩
theorem D3K:A06 Tryz.prog G 61 e50:=by
 intro args r h hp;unfold e50 at h;split at h<;>cases h;rename_i w h a n _ i e;obtain⟨⟨h1,h2,h3⟩,h4,h5,h6⟩:=hp;generalize unC a=l at*;subst h1 h2;exact(C8G _ _ _ _ _ h3 h4 h5).caps
theorem C8H:A1Z Tryz.prog G D2q:=⟨D3K,C30⟩
theorem C8I:TabOk Tryz.prog G CP7:=A0m A0s C8H
theorem B8U (c:Int):∀(l:List Cr),lbN c l<=l.length
 |[]=>by simp[lbN]
 |x::l=>by
  have:=B8U c l;simp only[lbN];cases ltb (cdC x) c<;>simp<;>omega
theorem C8J {w h:Int}{l:List Cr}{i e:Int}:0<=atI w h l i e/\atI w h l i e<=l.length/\(atF w h l i e=true->atI w h l i e<l.length):=by
 unfold atI atF;rcases A1A (atB w h l i e)with h0|h0<;>rw[h0]
 ·have:=B8U (3*nmC w h i e+nmE w h i e) l;refine⟨by simp only[bI,cond_true,lbI];omega,by simp only[bI,cond_true,lbI];omega,fun hf=>?_⟩;simp only[Bool.true_and,fdB,Bool.and_eq_true,A0n]at hf;exact hf.1
 ·exact⟨by simp[bI],by simp[bI],fun h=>by simp at h⟩
theorem D3L (w h:Int)(l:List Cr)(i e:Int)(hz:l.length<1000000000)(hg:edg l)(he:0<=e/\e<=255):SpecP Tryz.prog G 34 [C1O w h l,.int .i64 i,.int .u8 e] (.tup [.int .u8 (knI w h l i e),.int .i64 (atE w h l i e)]) []:=by
 refine A0d hcm hmx C8I D0V rfl (C3R w h l i e) ?_;rw[unC_flat];obtain⟨a1,a2,a3⟩:=C8J (w:=w) (h:=h) (l:=l) (i:=i) (e:=e);refine⟨⟨A21 hz,hg,he⟩,fun h0=>?_,fun h0=>⟨fun h1=>?_,fun h1=>?_⟩⟩
 ·have:atF w h l i e=false:=by
   unfold atF atB;have:(atE w h l i e==0)=false:=by rw[beq_eq_false_iff_ne];simpa using h0
   rw[this];rfl
  unfold knI;rw[this];exact⟨rfl,rfl,trivial⟩
 ·have:atF w h l i e=false:=by simpa using h1
  unfold knI;rw[this];exact⟨rfl,rfl,trivial⟩
 ·have hf:atF w h l i e=true:=by simpa using h1
  have h3:=a3 hf;have h0':atE w h l i e=0:=by simpa using h0
  obtain⟨n,hn⟩:=Int.eq_ofNat_of_zero_le a1;have g1:n<l.length:=by omega
  refine⟨by simp;omega,by simp;omega,by simp only[A0Q,A0r];rw[A1S];omega,?_,?_,h0'.symm,trivial⟩
  ·rw[hn];exact(C8l g1).2.2
  ·unfold knI;rw[hf];rfl
theorem ct16:A06 Tryz.prog G 34 e16:=by
 intro args r h hp;unfold e16 at h;split at h<;>cases h;rename_i w h a n _ i e;obtain⟨⟨h1,h2,h3⟩,h4,h5,h6⟩:=hp;generalize unC a=l at*;subst h1 h2;exact(D3L _ _ _ _ _ h3 h4 ⟨h5,h6⟩).caps
end Go.Proofs.YtfafinkgmhkdmaaGreatDoor.P
