/-
 The contracts of look up and set of a pattern.
-/
import Derived.Test.YtfafinkgmhkdmaaGreatDoorPC5Z
set_option maxRecDepth 1000000
set_option linter.unusedVariables false
set_option linter.unusedSimpArgs false
namespace Go.Proofs.YtfafinkgmhkdmaaGreatDoor.P
open Go Go.Ab Go.Proofs.YtfafinkgmhkdmaaGreatDoor.X

theorem asc_pw:∀(l:List Cr),(∀x∈l,0≤x.2.1∧x.2.1≤2)→ascB l=true→l.Pairwise (fun x y=>cdC x<cdC y)
 |[],_,_=>.nil
 |[x],_,_=>by simp
 |x::y::r,he,h=>by
  simp only[ascB,Bool.and_eq_true]at h
  have ih:=asc_pw (y::r) (fun z hz=>he z (by simp at hz ⊢; exact .inr hz)) (by simp only[ascB,Bool.and_eq_true];exact h.2)
  have hxy:cdC x<cdC y:=by
   have h1:=h.1
   rw[ltb_iff]at h1
   exact(ord_cd (he x (by simp)) (he y (by simp))).1.1 h1
  refine List.pairwise_cons.2 ⟨fun z hz=>?_,ih⟩
  rcases List.mem_cons.1 hz with rfl|hz
  ·exact hxy
  ·have:=(List.pairwise_cons.1 ih).1 z hz
   omega
theorem chk_ok {w h:Int}{l:List Cr}(hg:edg l)(hc:chkI w h l=0):srt l∧okS w h=true∧badL l=false∧l.all (unitB w h)=true∧ascB l=true:=by
 unfold chkI at hc
 rcases bool_or (okS w h)with h1|h1<;>rw[h1]at hc
 ·rcases bool_or (badL l)with h2|h2<;>rw[h2]at hc
  ·simp at hc
  ·rcases bool_or (l.all (unitB w h))with h3|h3<;>rw[h3]at hc
   ·rcases bool_or (ascB l)with h4|h4<;>rw[h4]at hc
    ·have hu:∀x∈l,sml x.1∧0≤x.1∧x.2.1≤2∧x.1<1024:=fun x hx=>unit_sml (List.all_eq_true.1 h3 x hx) (hg x hx).1
     exact⟨⟨asc_pw l (fun x hx=>⟨(hg x hx).1,(hu x hx).2.2.1⟩) h4,fun x hx=>⟨(hu x hx).1,(hg x hx).1,(hu x hx).2.2.1⟩⟩,h1,h2,h3,h4⟩
    ·simp at hc
   ·simp at hc
 ·simp at hc
theorem nm_ok {w h i e:Int}(he:0≤e)(hn:neE w h i e=0):sml (nmC w h i e)∧0≤nmE w h i e∧nmE w h i e≤2∧nmE w h i e=e∧nmC w h i e=min i (nbI w h i e)∧0≤nmC w h i e:=by
 have h0:=neE_ok.2 hn
 unfold nmC nmE
 rw[h0]
 unfold okN okI at h0
 simp only[Bool.and_eq_true,decide_eq_true_eq,leb_iff]at h0
 obtain⟨⟨h1,h2⟩,h3,h4⟩:=h0
 have:=cell_ok h1 h2
 simp only[bI,cond_true]
 unfold sml
 refine⟨by omega,by omega,by omega,trivial,trivial,by omega⟩
theorem sp50 (w h:Int)(l:List Cr)(i e:Int)(hz:l.length<1000000000)(hg:edg l)(he:0≤e):SpecP Tryz.prog G 61 [patV w h l,.int .i64 i,.int .u8 e] (.tup [.agg [.int .i64 (atC w h l i e),.int .u8 (atD w h l i e)],.int .i64 (atI w h l i e),.bool (atF w h l i e),.int .i64 (atE w h l i e)]) []:=by
 refine fnP_spec hcm hmx CP6ok ok61 rfl (ob_o50 w h l i e) ?_
 rw[unC_flat]
 unfold atC atD atI atF atB atE
 refine⟨⟨okA_flat hz,hg⟩,fun h0=>?_,fun h0=>⟨he,fun h1=>?_,fun h1=>?_⟩⟩
 ·have h0':(chkI w h l==0)=false:=by rw[beq_eq_false_iff_ne];simpa using h0
  simp only[bne_iff_ne,ne_eq]at h0
  simp[h0',h0,bI]
 ·have h0':chkI w h l=0:=by simpa using h0
  have h1':(neE w h i e==0)=false:=by rw[beq_eq_false_iff_ne];simpa using h1
  simp[h0',h1',bI]
 ·have h0':chkI w h l=0:=by simpa using h0
  have h1':neE w h i e=0:=by simpa using h1
  have:=nm_ok he h1'
  rw[h0',h1']
  simp only[beq_self_eq_true,cond_true,bI,Bool.true_and,and_true]
  exact⟨okA_flat hz,(chk_ok hg h0').1,this.1,this.2.1,this.2.2.1⟩
theorem ct50:CtOk Tryz.prog G 61 e50:=by
 intro args r h hp
 unfold e50 at h
 split at h<;>cases h
 rename_i w h a n _ i e
 obtain⟨⟨h1,h2,h3⟩,h4,h5,h6⟩:=hp
 generalize unC a=l at*
 subst h1 h2
 exact(sp50 _ _ _ _ _ h3 h4 h5).caps
theorem cP7ok:CtsOk Tryz.prog G cP7':=⟨ct50,cP6ok⟩
theorem CP7ok:TabOk Tryz.prog G CP7:=tabL_ok noCh_ok cP7ok
theorem lbN_le (c:Int):∀(l:List Cr),lbN c l≤l.length
 |[]=>by simp[lbN]
 |x::l=>by
  have:=lbN_le c l
  simp only[lbN]
  cases ltb (cdC x) c<;>simp<;>omega
theorem at_le {w h:Int}{l:List Cr}{i e:Int}:0≤atI w h l i e∧atI w h l i e≤l.length∧(atF w h l i e=true→atI w h l i e<l.length):=by
 unfold atI atF
 rcases bool_or (atB w h l i e)with h0|h0<;>rw[h0]
 ·have:=lbN_le (3*nmC w h i e+nmE w h i e) l
  refine⟨by simp only[bI,cond_true,lbI];omega,by simp only[bI,cond_true,lbI];omega,fun hf=>?_⟩
  simp only[Bool.true_and,fdB,Bool.and_eq_true,ltb_iff]at hf
  exact hf.1
 ·exact⟨by simp[bI],by simp[bI],fun h=>by simp at h⟩
theorem sp16 (w h:Int)(l:List Cr)(i e:Int)(hz:l.length<1000000000)(hg:edg l)(he:0≤e∧e≤255):SpecP Tryz.prog G 34 [patV w h l,.int .i64 i,.int .u8 e] (.tup [.int .u8 (knI w h l i e),.int .i64 (atE w h l i e)]) []:=by
 refine fnP_spec hcm hmx CP7ok ok34 rfl (ob_o16 w h l i e) ?_
 rw[unC_flat]
 obtain⟨a1,a2,a3⟩:=at_le (w:=w) (h:=h) (l:=l) (i:=i) (e:=e)
 refine⟨⟨okA_flat hz,hg,he⟩,fun h0=>?_,fun h0=>⟨fun h1=>?_,fun h1=>?_⟩⟩
 ·have:atF w h l i e=false:=by
   unfold atF atB
   have:(atE w h l i e==0)=false:=by rw[beq_eq_false_iff_ne];simpa using h0
   rw[this];rfl
  unfold knI;rw[this];exact⟨rfl,rfl,trivial⟩
 ·have:atF w h l i e=false:=by simpa using h1
  unfold knI;rw[this];exact⟨rfl,rfl,trivial⟩
 ·have hf:atF w h l i e=true:=by simpa using h1
  have h3:=a3 hf
  have h0':atE w h l i e=0:=by simpa using h0
  obtain⟨n,hn⟩:=Int.eq_ofNat_of_zero_le a1
  have g1:n<l.length:=by omega
  refine⟨by simp;omega,by simp;omega,by simp only[ltn_iff,size_vals];rw[flatC_len];omega,?_,?_,h0'.symm,trivial⟩
  ·rw[hn];exact(cgetd g1).2.2
  ·unfold knI;rw[hf];rfl
theorem ct16:CtOk Tryz.prog G 34 e16:=by
 intro args r h hp
 unfold e16 at h
 split at h<;>cases h
 rename_i w h a n _ i e
 obtain⟨⟨h1,h2,h3⟩,h4,h5,h6⟩:=hp
 generalize unC a=l at*
 subst h1 h2
 exact(sp16 _ _ _ _ _ h3 h4 ⟨h5,h6⟩).caps
end Go.Proofs.YtfafinkgmhkdmaaGreatDoor.P
