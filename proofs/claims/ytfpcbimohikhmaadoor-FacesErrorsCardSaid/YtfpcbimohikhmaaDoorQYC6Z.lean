/-
 Contracts: sizes, cells of a face, equal lists, sectors, corners.
-/
import Derived.Test.YtfpcbimohikhmaaDoorQYO4Z
import Derived.Test.YtfpcbimohikhmaaDoorQYC5Z
set_option maxRecDepth 1000000
set_option linter.unusedVariables false
set_option linter.unusedSimpArgs false
namespace Go.Proofs.YtfpcbimohikhmaaDoor.X
open Go Go.Ab

theorem le_maxL:∀{l:List Int} {x:Int},x∈l→x≤maxL l
 |[],x,h=>by simp at h
 |y::r,x,h=>by
  show x≤r.foldl max y
  have:∀(r:List Int) (y:Int),y≤r.foldl max y∧∀x∈r,x≤r.foldl max y:=by
   intro r
   induction r with
   |nil=>intro y;exact⟨Int.le_refl _,fun x h=>by simp at h⟩
   |cons z r ih=>
    intro y
    rw[List.foldl_cons]
    obtain⟨h1,h2⟩:=ih (max y z)
    refine⟨Int.le_trans (Int.le_max_left _ _) h1,fun x hx=>?_⟩
    rcases List.mem_cons.1 hx with rfl|hx
    ·exact Int.le_trans (Int.le_max_right _ _) h1
    ·exact h2 x hx
  rcases List.mem_cons.1 h with rfl|h
  ·exact(this r x).1
  ·exact(this r y).2 x h
theorem gI_at {l:List Int}{i:Nat}(h:i<l.length):gI l i=l[i]:=by unfold gI;rw[List.getElem?_eq_getElem h];rfl
theorem drop_gI (l:List Int)(n:Nat):gI (l.drop n) 0=gI l n:=by
 unfold gI;rw[List.getElem?_drop,Nat.add_zero]
theorem szL_len (F:List Int)(k:Nat):(szL F k).length=k:=by simp[szL]
theorem gI_szL {F:List Int}{k j:Nat}(h:j<k):gI (szL F k) j=((F.count (j:Int):Nat):Int):=by
 unfold gI szL
 rw[List.getElem?_map,List.getElem?_range h];rfl
theorem szL_zero (k:Nat):szL [] k=List.replicate k 0:=by
 refine List.ext_getElem (by simp[szL]) (fun i h1 h2=>?_)
 simp[szL]
theorem szL_step {F:List Int}{n k:Nat}(hn:n<F.length)(h0:0≤gI F n)(hk:gI F n<k):(szL (F.take n) k).set (gI F n).toNat (gI (szL (F.take n) k) (gI F n).toNat+1)=szL (F.take (n+1)) k:=by
 have hk':(gI F n).toNat<k:=by omega
 refine List.ext_getElem (by simp[szL]) (fun i h1 h2=>?_)
 have hi:i<k:=by rw[szL_len]at h2;exact h2
 rw[← gI_at h1,← gI_at h2,gI_set (by rw[szL_len];exact hk'),gI_szL hi,gI_szL hi,gI_szL hk',List.take_succ_eq_append_getElem hn,List.count_append,← gI_at hn]
 have e:((gI F n).toNat:Int)=gI F n:=by omega
 by_cases hij:i=(gI F n).toNat
 ·subst hij
  rw[if_pos rfl,e]
  simp
 ·rw[if_neg hij]
  have:([gI F n].count (i:Int))=0:=by
   rw[List.count_eq_zero]
   simp
   omega
  rw[this];simp
set_option maxHeartbeats 1000000 in
theorem sp46 {w h:Int}{l:List Cr}(hs:s5 w h)(hv:vP w h l):SpecP Tryd.prog G 46 [patV w h l] (.tup [.full 0 (kF (facL w h l)),.int .i64 0]) [⟨.ints .i64 (szL (facL w h l) (kF (facL w h l))),1,kF (facL w h l),some (kF (facL w h l)),some false,true,false⟩]:=by
 refine fnP_spec hcm hmx YVok ok46 rfl (ob_o46 w h l) ?_
 dsimp -failIfUnchanged -proj -eta -iota -zeta only[rd,rdw,qs,ql,qx]
 obtain⟨n100,n4⟩:=nC_le hs
 have hl:=facL_len hs l
 have hle:=facL_le hs l
 have hm:=hle _ (maxL_mem (l:=facL w h l) (fun e=>by rw[e]at hl;simp at hl;omega))
 have hmx2:∀x∈facL w h l,x≤maxL (facL w h l):=fun x hx=>le_maxL hx
 have hk:(maxL (facL w h l)+1).toNat=kF (facL w h l):=rfl
 simp only[unC_flat]
 generalize facL w h l=F at*
 have hk2:maxL F+1=(kF F:Nat):=by omega
 simp only[ltb_iff,ltb_no,leb_iff,leb_no,len'_iff,ltn_iff,inR_i64,and_true,true_and,Cont.size,hk,gI_getD,drop_gI,List.length_drop]
 refine⟨⟨hs,okV_of hs hv⟩,⟨hl.symm,by omega,by omega⟩,by omega,by omega,by omega,by omega,⟨0,rfl,by omega,(szL_zero _).symm⟩,?_⟩
 rintro⟨i,m⟩ ⟨n,hi,hnn,hmm⟩
 simp only at hi hmm ⊢
 subst hi;subst hmm
 simp only[Int.toNat_natCast,szL_len]
 refine⟨fun hlt=>?_,fun hge=>?_⟩
 ·have hlt':n<F.length:=by omega
  have hx:gI F n∈F:=by rw[gI_at hlt'];exact List.getElem_mem hlt'
  have h1:=hle _ hx
  have h2:=hmx2 _ hx
  have h3:gI (szL (F.take n) (kF F)) (gI F n).toNat=(((F.take n).count ((gI F n).toNat:Int):Nat):Int):=gI_szL (by omega)
  have h4:(F.take n).count ((gI F n).toNat:Int)≤n:=by
   have:=List.count_le_length (a:=((gI F n).toNat:Int)) (l:=F.take n)
   rw[List.length_take]at this;omega
  have hst:=szL_step (k:=kF F) hlt' h1.1 (by omega)
  repeat' (with_reducible apply And.intro)
  all_goals first
   |omega
   |exact⟨n+1,by omega,by omega,hst⟩
 ·have:n=F.length:=by omega
  subst this
  rw[List.take_length]
theorem ct46v:CtOk Tryd.prog G 46 e46v:=by
 intro args r h hp
 unfold e46v at h
 split at h<;>cases h
 rename_i w h a n _
 obtain⟨hs,⟨h1,h2,h3⟩,hv⟩:=hp
 generalize unC a=l at*
 subst h1 h2
 exact(sp46 hs hv).caps
theorem ct46x:CtOk Tryd.prog G 46 e46x:=by
 intro args r h hp
 unfold e46x at h
 split at h<;>cases h
 rename_i w h a n _
 obtain⟨⟨h1,h2,h3⟩,h4,h5⟩:=hp
 generalize unC a=l at*
 subst h1 h2
 refine SpecP.caps ?_
 refine fnP_spec hcm hmx YWok ok46 rfl (ob_o46x w h l) ?_
 simp[unC_flat,okA_flat h3,h4,h5]
theorem celP_step (F:List Int)(f:Int)(n:Nat):celP F f (n+1)=celP F f n++(if gI F n=f then[(n:Int)]else[]):=by
 unfold celP
 rw[List.range_succ,List.filter_append,List.map_append]
 congr 1
 by_cases h:gI F n=f<;>simp[h]
theorem celP_len (F:List Int)(f:Int)(n:Nat):(celP F f n).length≤n:=by
 unfold celP
 rw[List.length_map]
 have:=List.length_filter_le (fun i=>gI F i==f) (List.range n)
 rwa [List.length_range]at this
theorem YV2ok:TabOk Tryd.prog G YV2:=tabL_ok noCh_ok ⟨ct49v,ct78,ct82,trivial⟩
theorem celL_nil {F:List Int}{f:Int}{n:Nat}(h:n=F.length):celP F f n=celL F f:=by subst h;rfl
theorem sp47v {w h f:Int}{l:List Cr}(hs:s5 w h)(hv:vP w h l)(hne:celL (facL w h l) f≠[]):SpecP Tryd.prog G 47 [patV w h l,.int .i64 f] (.tup [.imm (.ints .i64 (celL (facL w h l) f)) (celL (facL w h l) f).length (some (celL (facL w h l) f).length),.int .i64 0]) []:=by
 refine fnP_spec hcm hmx YV2ok ok47 rfl (ob_o47v w h f l) ?_
 dsimp -failIfUnchanged -proj -eta -iota -zeta only[rd,rdw,qs,ql,qx]
 obtain⟨n100,n4⟩:=nC_le hs
 have hl:=facL_len hs l
 simp only[unC_flat]
 generalize facL w h l=F at*
 simp only[ltb_iff,ltb_no,leb_iff,leb_no,len'_iff,ltn_iff,inR_i64,and_true,true_and,Cont.size,gI_getD,drop_gI,List.length_drop,beq_iff_eq,beq_eq_false_iff_ne,ne_eq]
 refine⟨⟨hs,okV_of hs hv⟩,⟨0,rfl,by omega,rfl,rfl⟩,?_⟩
 rintro⟨i,m,k⟩ ⟨n,hi,hnn,hm,hk⟩
 simp only at hi hm hk ⊢
 subst hi;subst hm;subst hk
 simp only[Int.toNat_natCast]
 have hst:=celP_step F f n
 have hcl:=celP_len F f n
 refine⟨fun hlt=>?_,fun hge=>?_⟩
 ·repeat' (with_reducible apply And.intro)
  any_goals omega
  ·intro he
   rw[if_pos he]at hst
   exact⟨by omega,by omega,⟨n+1,by omega,by omega,hst.symm,by rw[hst,List.length_append];rfl⟩,by omega⟩
  ·intro he
   rw[if_neg he,List.append_nil]at hst
   exact⟨by omega,⟨n+1,by omega,by omega,hst.symm,by rw[hst]⟩,by omega⟩
 ·rw[celL_nil (show n=F.length by omega)]at*
  have:(celL F f).length≠0:=fun e=>hne (List.length_eq_zero_iff.1 e)
  repeat' (with_reducible apply And.intro)
  all_goals first|omega|rfl|exact trivial
theorem ct47v:CtOk Tryd.prog G 47 e47v:=by
 intro args r h hp
 unfold e47v at h
 split at h<;>cases h
 rename_i w h a n _ f
 obtain⟨hs,⟨⟨h1,h2,h3⟩,hv⟩,hne⟩:=hp
 generalize unC a=l at*
 subst h1 h2
 exact(sp47v hs hv hne).caps
theorem ct47x:CtOk Tryd.prog G 47 e47x:=by
 intro args r h hp
 unfold e47x at h
 split at h<;>cases h
 rename_i w h a n _ f
 obtain⟨⟨h1,h2,h3⟩,h4,h5⟩:=hp
 generalize unC a=l at*
 subst h1 h2
 refine SpecP.caps ?_
 refine fnP_spec hcm hmx YWok ok47 rfl (ob_o47x w h f l) ?_
 simp[unC_flat,okA_flat h3,h4,h5]
theorem sp80 {x y q i:Int}(hq:0≤q∧q≤3)(hi:0≤i∧i≤2):SpecP Tryd.prog G 80 [.agg [.int .i64 x,.int .i64 y,.int .u8 q],.int .i64 i] (.agg [.int .i64 (secI q i),.int .i64 (wdI i)]) []:=by
 obtain rfl|rfl|rfl|rfl:q=0∨q=1∨q=2∨q=3:=by omega
 ·refine fnP_spec hcm hmx T0ok ok80 rfl (ob_o80_0 x y i) ?_
  obtain rfl|rfl|rfl:i=0∨i=1∨i=2:=by omega
  all_goals (simp[wdI,bI,secI,secT]<;>decide)
 ·refine fnP_spec hcm hmx T0ok ok80 rfl (ob_o80_1 x y i) ?_
  obtain rfl|rfl|rfl:i=0∨i=1∨i=2:=by omega
  all_goals (simp[wdI,bI,secI,secT]<;>decide)
 ·refine fnP_spec hcm hmx T0ok ok80 rfl (ob_o80_2 x y i) ?_
  obtain rfl|rfl|rfl:i=0∨i=1∨i=2:=by omega
  all_goals (simp[wdI,bI,secI,secT]<;>decide)
 ·refine fnP_spec hcm hmx T0ok ok80 rfl (ob_o80_3 x y i) ?_
  obtain rfl|rfl|rfl:i=0∨i=1∨i=2:=by omega
  all_goals (simp[wdI,bI,secI,secT]<;>decide)
theorem ct80:CtOk Tryd.prog G 80 e80:=by
 intro args r h hp
 unfold e80 at h
 split at h<;>cases h
 obtain⟨h1,h2,h3,h4⟩:=hp
 exact(sp80 ⟨h1,h2⟩ ⟨h3,h4⟩).caps
theorem Y92ok:TabOk Tryd.prog G Y92:=tabL_ok noCh_ok ⟨ct92,trivial⟩
theorem sp79 {x y q:Int}(hx:0≤x∧x≤900)(hy:0≤y∧y≤900)(hq:0≤q∧q≤3):SpecP Tryd.prog G 79 [.agg [.int .i64 x,.int .i64 y,.int .u8 q]] (.tup [.agg (corV x y q),.int .i64 0]) []:=by
 have hc:okCl x y q=true:=okCl_iff.2 ⟨by omega,by omega,by omega,by omega,by omega⟩
 obtain rfl|rfl|rfl|rfl:q=0∨q=1∨q=2∨q=3:=by omega
 ·refine fnP_spec hcm hmx Y92ok ok79 rfl (ob_o79_0 x y) ?_
  rw[hc]
  simp only[inR_i64,and_true,true_and]
  repeat' (with_reducible apply And.intro)
  all_goals first|omega|rfl|exact trivial
 ·refine fnP_spec hcm hmx Y92ok ok79 rfl (ob_o79_1 x y) ?_
  rw[hc]
  simp only[inR_i64,and_true,true_and]
  repeat' (with_reducible apply And.intro)
  all_goals first|omega|rfl|exact trivial
 ·refine fnP_spec hcm hmx Y92ok ok79 rfl (ob_o79_2 x y) ?_
  rw[hc]
  simp only[inR_i64,and_true,true_and]
  repeat' (with_reducible apply And.intro)
  all_goals first|omega|rfl|exact trivial
 ·refine fnP_spec hcm hmx Y92ok ok79 rfl (ob_o79_3 x y) ?_
  rw[hc]
  simp only[inR_i64,and_true,true_and]
  repeat' (with_reducible apply And.intro)
  all_goals first|omega|rfl|exact trivial
theorem ct79:CtOk Tryd.prog G 79 e79:=by
 intro args r h hp
 unfold e79 at h
 split at h<;>cases h
 obtain⟨h1,h2,h3,h4,h5,h6⟩:=hp
 exact(sp79 ⟨h1,h2⟩ ⟨h3,h4⟩ ⟨h5,h6⟩).caps
end Go.Proofs.YtfpcbimohikhmaaDoor.X
