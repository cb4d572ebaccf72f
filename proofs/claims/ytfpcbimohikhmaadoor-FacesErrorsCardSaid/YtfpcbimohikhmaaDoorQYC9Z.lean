/-
 Contracts: whether a face is convex.
-/
import Derived.Test.YtfpcbimohikhmaaDoorQYO6Z
import Derived.Test.YtfpcbimohikhmaaDoorQYC8Z
import Derived.Test.YtfpcbimohikhmaaDoorQPIZ
set_option maxRecDepth 1000000
set_option linter.unusedVariables false
set_option linter.unusedSimpArgs false
namespace Go.Proofs.YtfpcbimohikhmaaDoor.X
open Go Go.Ab

theorem ct56v:CtOk Tryd.prog G 56 e56v:=by
 intro args r h hp
 unfold e56v at h
 split at h<;>cases h
 rename_i w h i
 have hp:okI w h i=true:=hp
 have hb:=hp
 unfold okI at hb
 rw[Bool.and_eq_true]at hb
 have:=sp56 w h i
 unfold ceE at this
 rw[hp,hb.1,hb.2]at this
 exact this.caps
theorem YCvok:TabOk Tryd.prog G YCv:=tabL_ok noCh_ok ⟨ct47v,ct56v,ct79,ct80,trivial⟩
theorem YCxok:TabOk Tryd.prog G YCx:=tabL_ok noCh_ok ⟨ct47x,trivial⟩
theorem ct44x:CtOk Tryd.prog G 44 e44x:=by
 intro args r h hp
 unfold e44x at h
 split at h<;>cases h
 rename_i w h a n _ f
 obtain⟨⟨h1,h2,h3⟩,h4,h5⟩:=hp
 generalize unC a=l at*
 subst h1 h2
 refine SpecP.caps ?_
 refine fnP_spec hcm hmx YCxok ok44 rfl (ob_o44x w h f l) ?_
 simp[unC_flat,okA_flat h3,h4,h5]
theorem cnt8_step (v:List Int)(n:Nat):cnt8 v (n+1)=cnt8 v n+(if b8 v n=true then 1 else 0):=by
 unfold cnt8
 rw[List.range_succ,List.countP_append]
 cases h:b8 v n<;>simp[h]
theorem beg8_step (v:List Int)(n:Nat):beg8 v (n+1)=beg8 v n+(if(b8 v n&& !b8 v ((n+7)%8))=true then 1 else 0):=by
 unfold beg8
 rw[List.range_succ,List.countP_append]
 cases h:(b8 v n&& !b8 v ((n+7)%8))<;>simp[h]
theorem cnt8_le (v:List Int)(n:Nat):cnt8 v n≤n:=by
 unfold cnt8
 have:=List.countP_le_length (p:=fun j=>b8 v j) (l:=List.range n)
 rwa [List.length_range]at this
theorem beg8_le (v:List Int)(n:Nat):beg8 v n≤n:=by
 unfold beg8
 have:=List.countP_le_length (p:=fun j=>b8 v j&& !b8 v ((j+7)%8)) (l:=List.range n)
 rwa [List.length_range]at this
theorem v8o_eq (o:Option (List Int)):v8o o=v8 (o.getD []):=by cases o<;>rfl
theorem v8_get (v:List Int){j:Nat}(h:j<8):(v8 v)[j]? =some (b8 v j):=by
 obtain rfl|rfl|rfl|rfl|rfl|rfl|rfl|rfl:j=0∨j=1∨j=2∨j=3∨j=4∨j=5∨j=6∨j=7:=by omega
 all_goals rfl
theorem v8_get' (v:List Int){j:Nat}(h:j<8):([AV.bool ((v8 v).getD 0 false),.bool ((v8 v).getD 1 false),.bool ((v8 v).getD 2 false),.bool ((v8 v).getD 3 false),.bool ((v8 v).getD 4 false),.bool ((v8 v).getD 5 false),.bool ((v8 v).getD 6 false),.bool ((v8 v).getD 7 false)]:List AV)[j]? =some (.bool (b8 v j)):=by
 obtain rfl|rfl|rfl|rfl|rfl|rfl|rfl|rfl:j=0∨j=1∨j=2∨j=3∨j=4∨j=5∨j=6∨j=7:=by omega
 all_goals rfl
theorem fulK_len (q i:Int)(n:Nat)(v:List Bool):(fulK q i n v).length=v.length:=by
 induction n with
 |zero=>rfl
 |succ n ih=>
  unfold fulK at ih ⊢
  rw[List.range_succ,List.foldl_append,List.foldl_cons,List.foldl_nil,List.length_set,ih]
theorem fulK_step (q i:Int)(n:Nat)(v:List Bool):fulK q i (n+1) v=(fulK q i n v).set ((secI q i+n).tmod 8).toNat true:=by
 unfold fulK
 rw[List.range_succ,List.foldl_append];rfl
theorem cvI_step (w id:Int)(s:List Ent3×Nat)(n:Nat):cvI w id s (n+1)=st1 w id (cvI w id s n) n:=by
 unfold cvI
 rw[List.range_succ,List.foldl_append];rfl
theorem cvF_snoc (w:Int)(C:List Int)(c:Int):cvF w (C++[c])=cvI w c (cvF w C) 3:=by
 unfold cvF
 rw[List.foldl_append];rfl
theorem cvI_wf (w id:Int){s:List Ent3×Nat}(h:WfE s.1 s.2)(n:Nat):WfE (cvI w id s n).1 (cvI w id s n).2:=by
 induction n with
 |zero=>exact h
 |succ n ih=>rw[cvI_step];exact ih.put _ _
theorem cvF_wf (w:Int)(C:List Int):WfE (cvF w C).1 (cvF w C).2:=by
 refine snoc_ind (P:=fun C=>WfE (cvF w C).1 (cvF w C).2) (WfE.nil 0) (fun C c ih=>?_) C
 rw[cvF_snoc];exact cvI_wf w c ih 3
theorem sec_ok {q i:Int}(hq:0≤q∧q≤3)(hi:0≤i∧i≤2):0≤secI q i∧secI q i≤7:=by
 obtain rfl|rfl|rfl|rfl:q=0∨q=1∨q=2∨q=3:=by omega
 all_goals obtain rfl|rfl|rfl:i=0∨i=1∨i=2:=by omega
 all_goals decide
theorem wd_ok (i:Int):1≤wdI i∧wdI i≤2:=by
 unfold wdI bI
 cases(i==0)<;>simp
theorem corP {x y q:Int}{n:Nat}(h:n<3):([AV.int .i64 (2*x+1),.int .i64 (2*y+1),.int .i64 (2*x+hQ q),.int .i64 (2*y+hQ q),.int .i64 (2*x+gQ q),.int .i64 (2*y+(2-gQ q))]:List AV)[n*2]? =some (.int .i64 (crX x q n))∧([AV.int .i64 (2*x+1),.int .i64 (2*y+1),.int .i64 (2*x+hQ q),.int .i64 (2*y+hQ q),.int .i64 (2*x+gQ q),.int .i64 (2*y+(2-gQ q))]:List AV)[n*2+1]? =some (.int .i64 (crY y q n)):=by
 obtain rfl|rfl|rfl:n=0∨n=1∨n=2:=by omega
 all_goals exact⟨rfl,rfl⟩
theorem all_perm {l l':List Ent3}(h:l.Perm l')(p:Ent3→Bool):l.all p=l'.all p:=by
 rw[Bool.eq_iff_iff,List.all_eq_true,List.all_eq_true]
 exact⟨fun a x hx=>a x (h.mem_iff.2 hx),fun a x hx=>a x (h.mem_iff.1 hx)⟩
theorem celL_cell {w h f:Int}{l:List Cr}(hs:s5 w h){n:Nat}(hn:n<(celL (facL w h l) f).length):okI w h (gI (celL (facL w h l) f) n)=true∧(0≤qX w (gI (celL (facL w h l) f) n)∧qX w (gI (celL (facL w h l) f) n)≤4)∧(0≤qY w (gI (celL (facL w h l) f) n)∧qY w (gI (celL (facL w h l) f) n)≤4)∧(0≤qQ (gI (celL (facL w h l) f) n)∧qQ (gI (celL (facL w h l) f) n)≤3):=by
 have hm:gI (celL (facL w h l) f) n∈celL (facL w h l) f:=by rw[gI_at hn];exact List.getElem_mem hn
 obtain⟨i,h1,h2,h3⟩:=mem_celL.1 hm
 rw[facL_len hs]at h1
 have hb:hasB w h (gI (celL (facL w h l) f) n)=true:=by rw[h3];exact nC_has hs h1
 have ho:=okS_of hs
 obtain⟨c1,c2,c3,_⟩:=cell_ok ho hb
 obtain⟨s1,s2,s3,s4⟩:=hs
 refine⟨by unfold okI;rw[ho,hb];rfl,by omega,by omega,c3⟩
set_option maxHeartbeats 4000000 in
theorem sp44 {w h f:Int}{l:List Cr}(hs:s5 w h)(hv:vP w h l)(hne:celL (facL w h l) f≠[]):SpecP Tryd.prog G 44 [patV w h l,.int .i64 f] (.tup [.bool (cvB w (celL (facL w h l) f)),.int .i64 0]) []:=by
 refine fnP_spec hcm hmx YCvok ok44 rfl (ob_o44v w h f l) ?_
 dsimp -failIfUnchanged -proj -eta -iota -zeta only[rd,rdw,qs,ql,qx]
 obtain⟨n100,n4⟩:=nC_le hs
 have hcell:=fun n=>celL_cell (f:=f) (l:=l) hs (n:=n)
 have hClen:(celL (facL w h l) f).length≤100:=by
  have:=celP_len (facL w h l) f (facL w h l).length
  rw[facL_len hs]at this
  unfold celL
  rw[facL_len hs];omega
 have hok:=okV_of hs hv
 simp only[unC_flat]
 generalize celL (facL w h l) f=C at*
 simp only[gI_getD,drop_gI,ltb_iff,ltb_no,leb_iff,leb_no,len'_iff,ltn_iff,inR_i64,and_true,true_and,size_vals,Cont.size,List.length_drop,Int.toNat_natCast,v8o_eq]
 refine⟨⟨hs,hok,hne⟩,⟨0,rfl,by omega,rfl,rfl⟩,?_⟩
 rintro⟨i,es,ck⟩ ⟨n,hi,hnn,he,hc⟩
 simp only at hi he hc ⊢
 subst hi;subst he;subst hc
 simp only[Int.toNat_natCast]
 refine⟨fun hlt=>?_,fun hge=>?_⟩
 ·have hlt':n<C.length:=by omega
  obtain⟨k1,k2,k3,k4⟩:=hcell n hlt'
  have hsn:cvF w (C.take (n+1))=cvI w (gI C n) (cvF w (C.take n)) 3:=by rw[take_at hlt',cvF_snoc,gI_at hlt']
  have hWI:∀m,WfE (cvI w (gI C n) (cvF w (C.take n)) m).1 (cvI w (gI C n) (cvF w (C.take n)) m).2:=cvI_wf w (gI C n) (cvF_wf w _)
  have hst:=fun m=>cvI_step w (gI C n) (cvF w (C.take n)) m
  generalize cvF w (C.take n)=s0 at*
  generalize gI C n=id at*
  refine⟨by omega,by omega,by omega,by omega,k1,by omega,⟨0,rfl,by omega,rfl,rfl⟩,?_⟩
  rintro⟨ic,es,ck⟩ ⟨m,hi,hm3,he,hc⟩
  simp only at hi he hc ⊢
  subst hi
  have hP:(es,ck)=cvI w id s0 m:=by rw[he,hc]
  clear he hc
  refine⟨fun hlt3=>?_,fun hge3=>?_⟩
  ·have hm:m<3:=by omega
   obtain⟨c1,c2⟩:=corP (x:=qX w id) (y:=qY w id) (q:=qQ id) hm
   obtain⟨s1,s2⟩:=sec_ok (q:=qQ id) (i:=(m:Int)) k4 (by omega)
   obtain⟨w1,w2⟩:=wd_ok (m:Int)
   refine⟨by omega,by omega,c1,c2,by omega,⟨0,rfl,by omega,by unfold vsP;rw[v8o_eq];rfl⟩,?_⟩
   rintro⟨ik,vs⟩ ⟨k,hi,hkw,hvs⟩
   simp only at hi hvs ⊢
   subst hi;subst hvs
   have hl8:(fulK (qQ id) m k (vsP w id m es)).length=8:=by rw[fulK_len];unfold vsP;rw[v8o_eq];rfl
   have hfs:=fulK_step (qQ id) m k (vsP w id m es)
   refine⟨fun hklt=>?_,fun hkge=>?_⟩
   ·have tm:(secI (qQ id) m+k).tmod 8=(secI (qQ id) m+k)%8:=Int.tmod_eq_emod_of_nonneg (by omega)
    have:0≤(secI (qQ id) m+k).tmod 8∧(secI (qQ id) m+k).tmod 8<8:=by rw[tm];omega
    exact⟨by omega,by omega,by omega,by rw[hl8];omega,by omega,⟨k+1,by omega,by omega,hfs.symm⟩,by omega⟩
   ·have hk:(wdI (m:Int)).toNat=k:=by omega
    have h1:=hst m
    rw[← hP]at h1
    unfold st1 u8I at h1
    simp only[hk]at h1
    refine⟨by rw[hl8];omega,by omega,⟨m+1,by omega,by omega,?_,?_⟩,by omega⟩
    ·exact(congrArg Prod.fst h1).symm
    ·exact(congrArg Prod.snd h1).symm
  ·have:m=3:=by omega
   subst this
   refine⟨by omega,⟨n+1,by omega,by omega,?_,?_⟩,by omega⟩
   ·rw[hsn,← hP]
   ·rw[hsn,← hP]
 ·have:n=C.length:=by omega
  subst this
  rw[List.take_length]at*
  have hW:=cvF_wf w C
  refine⟨rfl,by rw[left0],?_⟩
  rintro⟨seen⟩ hall
  simp only at hall ⊢
  refine⟨⟨trivial,hW.old⟩,fun hnil=>?_,fun e he=>?_⟩
  ·unfold cvB
   rw[hall,hnil];rfl
  ·refine⟨trivial,ent_get hW he,⟨0,rfl,by omega,rfl,rfl⟩,?_⟩
   have hlp:=left_perm hW he
   have hnx:((cvF w C).1.all fun e=>okV8 e.2.1)=(okV8 e.2.1&&(leftE (cvF w C).1 (seen++[e.2.2])).all fun e=>okV8 e.2.1):=by
    rw[hall,all_perm hlp,List.all_cons]
   rintro⟨i,mm,g⟩ ⟨n,hi,hn8,hmm,hg⟩
   simp only at hi hmm hg ⊢
   subst hi;subst hmm;subst hg
   have hs1:=cnt8_step e.2.1 n
   have hs2:=beg8_step e.2.1 n
   have hl1:=cnt8_le e.2.1 n
   have hl2:=beg8_le e.2.1 n
   refine⟨fun hlt=>?_,fun hge=>?_⟩
   ·have hn:n<8:=by omega
    have tm:((n:Int)+7).tmod 8=(((n+7)%8:Nat):Int):=by rw[Int.tmod_eq_emod_of_nonneg (by omega)];omega
    have hgv:=v8_get' e.2.1 hn
    have hgj:(v8 e.2.1).getD ((n+7)%8) false=b8 e.2.1 ((n+7)%8):=by
     rw[List.getD_eq_getElem?_getD,v8_get e.2.1 (show(n+7)%8<8 by omega)];rfl
    have hgj':List.getD [gI e.2.1 0 !=0,gI e.2.1 1 !=0,gI e.2.1 2 !=0,gI e.2.1 3 !=0,gI e.2.1 4 !=0,gI e.2.1 5 !=0,gI e.2.1 6 !=0,gI e.2.1 7 !=0] ((n+7)%8) false=b8 e.2.1 ((n+7)%8):=hgj
    rw[tm]
    simp only[Int.toNat_natCast,hgj']
    refine⟨by omega,by omega,hgv,fun hb=>⟨by omega,fun _=>⟨by omega,by omega,by omega,by omega,fun hb2=>?_,fun hb2=>?_⟩,fun hb2=>?_⟩,fun hb=>⟨fun hb2=>?_,fun _=>?_⟩⟩
    ·rw[if_pos hb]at hs1
     rw[if_pos (by rw[hb,hb2];rfl)]at hs2
     exact⟨by omega,by omega,⟨n+1,by omega,by omega,by omega,by omega⟩,by omega⟩
    ·rw[if_pos hb]at hs1
     rw[if_neg (by rw[hb,hb2];decide)]at hs2
     exact⟨by omega,⟨n+1,by omega,by omega,by omega,by omega⟩,by omega⟩
    ·rw[hb]at hb2;cases hb2
    ·rw[hb]at hb2;cases hb2
    ·rw[if_neg (by rw[hb];decide)]at hs1
     rw[if_neg (by rw[hb];simp)]at hs2
     exact⟨by omega,⟨n+1,by omega,by omega,by omega,by omega⟩,by omega⟩
   ·have:n=8:=by omega
    subst this
    have hcv:cvB w C=((cvF w C).1.all fun e=>okV8 e.2.1):=rfl
    refine⟨fun h1=>⟨fun h2=>?_,fun h2=>⟨fun h3=>?_,fun h3=>?_⟩⟩,fun h1=>?_⟩
    ·have:okV8 e.2.1=false:=by
      unfold okV8
      rw[decide_eq_true (show cnt8 e.2.1 8<8 by omega),decide_eq_true (show 1<beg8 e.2.1 8 by omega)];rfl
     rw[hcv,hnx,this];rfl
    ·have:okV8 e.2.1=false:=by
      unfold okV8
      rw[decide_eq_true (show cnt8 e.2.1 8<8 by omega),decide_eq_true (show 4<cnt8 e.2.1 8 by omega),Bool.or_true];rfl
     rw[hcv,hnx,this];rfl
    ·have:okV8 e.2.1=true:=by
      unfold okV8
      rw[decide_eq_false (show ¬ 1<beg8 e.2.1 8 by omega),decide_eq_false (show ¬ 4<cnt8 e.2.1 8 by omega)];simp
     exact⟨by rw[hnx,this];rfl,left_len he⟩
    ·have:okV8 e.2.1=true:=by
      unfold okV8
      rw[decide_eq_false (show ¬ cnt8 e.2.1 8<8 by omega)];rfl
     exact⟨by rw[hnx,this];rfl,left_len he⟩
theorem ct44v:CtOk Tryd.prog G 44 e44v:=by
 intro args r h hp
 unfold e44v at h
 split at h<;>cases h
 rename_i w h a n _ f
 obtain⟨hs,⟨⟨h1,h2,h3⟩,hv⟩,hne⟩:=hp
 generalize unC a=l at*
 subst h1 h2
 exact(sp44 hs hv hne).caps
end Go.Proofs.YtfpcbimohikhmaaDoor.X
