/-
 The law on lines.
-/
import Derived.Test.YtfpcbimohikhmaaDoorQYO8Z
import Derived.Test.YtfpcbimohikhmaaDoorQPKZ
import Derived.Test.YtfpcbimohikhmaaDoorQYLZ
set_option maxRecDepth 1000000
set_option linter.unusedVariables false
set_option linter.unusedSimpArgs false
namespace Go.Proofs.YtfpcbimohikhmaaDoor.X
open Go Go.Ab

theorem cvA_succ (w:Int)(n:Nat):cvA w (n+1)=cvA w n++cvR w n:=by
 unfold cvA
 rw[List.range_succ,List.flatMap_append];simp
theorem cvR_len (w:Int)(n:Nat):(cvR w n).length=3:=rfl
theorem cvA_len (w:Int)(n:Nat):(cvA w n).length=n*3:=by
 induction n with
 |zero=>rfl
 |succ n ih=>rw[cvA_succ,List.length_append,ih,cvR_len];omega
theorem cvA_get {w:Int}{n m:Nat}(h:m<n):(List.drop (m*3) (cvA w n))[0]? =some (.int .i64 (qX w m))∧(List.drop (m*3) (cvA w n))[1]? =some (.int .i64 (qY w m))∧(List.drop (m*3) (cvA w n))[2]? =some (.int .u8 (qQ m)):=by
 unfold cvA
 simp only[List.getElem?_drop]
 rw[flatMap_row (k:=3) (by decide) (cvR_len w),flatMap_row (k:=3) (by decide) (cvR_len w),flatMap_row (k:=3) (by decide) (cvR_len w)]
 rw[show(m*3+0)/3=m by omega,show(m*3+1)/3=m by omega,show(m*3+2)/3=m by omega,show(m*3+0)%3=0 by omega,show(m*3+1)%3=1 by omega,show(m*3+2)%3=2 by omega,List.getElem?_range h]
 exact⟨rfl,rfl,rfl⟩
theorem sp41 {w h:Int}(hs:s5 w h):SpecP Tryd.prog G 41 [.agg [.int .i64 w,.int .i64 h]] (.imm (.vals (cvA w (nC w h))) (nC w h) none) []:=by
 refine fnP_spec hcm hmx T0ok ok41 rfl (ob_o41 w h) ?_
 have hs':=hs
 obtain⟨s1,s2,s3,s4⟩:=hs'
 obtain⟨W,hW⟩:∃W:Nat,w=W:=⟨w.toNat,by omega⟩
 obtain⟨H,hH⟩:∃H:Nat,h=H:=⟨h.toNat,by omega⟩
 have hN:nC w h=4*(H*W):=by
  unfold nC
  have:4*w*h=((4*(H*W):Nat):Int):=by rw[hW,hH,Int.mul_assoc,Int.mul_comm (W:Int)];rfl
  rw[this];rfl
 have hle:∀a:Nat,a≤H→a*W≤25:=fun a ha=>Nat.mul_le_mul (show a≤5 by omega) (show W≤5 by omega)
 simp only[ltb_iff,ltb_no,leb_iff,leb_no,len'_iff,ltn_iff,inR_i64,inR_u8,and_true,true_and,size_vals,Cont.size,show w.toNat=W by omega,hN]
 refine⟨⟨0,rfl,by omega,by simp⟩,?_⟩
 rintro⟨iy,l1,n1⟩ ⟨y,hi,hy,hn,hl⟩
 simp only at hi hn hl ⊢
 subst hi;subst hl
 simp only[Int.toNat_natCast]
 have hb:=hle y (by omega)
 have hsm:(y+1)*W=y*W+W:=Nat.succ_mul y W
 refine⟨fun hlt=>?_,fun hge=>?_⟩
 ·refine⟨⟨0,rfl,by omega,by omega,by trivial⟩,?_⟩
  rintro⟨ix,l2,n2⟩ ⟨x,hi,hx,hn2,hl⟩
  simp only at hi hn2 hl ⊢
  subst hi;subst hl
  simp only[Int.toNat_natCast]
  refine⟨fun hlt2=>?_,fun hge2=>?_⟩
  ·refine⟨⟨0,rfl,by omega,by omega,by trivial⟩,?_⟩
   rintro⟨iq,l3,n3⟩ ⟨q,hi,hq,hn3,hl⟩
   simp only at hi hn3 hl ⊢
   subst hi;subst hl
   simp only[Int.toNat_natCast]
   refine⟨fun hlt3=>?_,fun hge3=>?_⟩
   ·have hqo:=q_of (w:=w) (x:=x) (y:=y) (q:=q) ⟨s1,s2⟩ ⟨by omega,by omega⟩ ⟨by omega,by omega⟩ ⟨by omega,by omega⟩
    have hc:4*((y:Int)*w+x)+q=(n3:Nat):=by
     rw[hn3,hW]
     simp only[Int.natCast_add,Int.natCast_mul];rfl
    rw[hc]at hqo
    refine⟨by omega,by omega,⟨q+1,by omega,by omega,by omega,?_⟩,by omega⟩
    rw[cvA_succ]
    unfold cvR
    rw[hqo.1,hqo.2.1,hqo.2.2]
   ·exact⟨by omega,⟨x+1,by omega,by omega,by omega,by trivial⟩,by omega⟩
  ·have:x=W:=by omega
   subst this
   exact⟨by omega,⟨y+1,by omega,by omega,by omega,by trivial⟩,by omega⟩
 ·have:y=H:=by omega
  subst this
  rw[hn]
  repeat' (with_reducible apply And.intro)
  all_goals first|rfl|exact trivial
theorem ct41:CtOk Tryd.prog G 41 e41:=by
 intro args r h hp
 unfold e41 at h
 split at h<;>cases h
 exact sp41 hp
/-! ### Kinds by lines -/
theorem kdM_len (w:Int)(us ls:List Int)(n k:Nat):(kdM w us ls n k).length=us.length:=by simp[kdM]
theorem kdM_get {w:Int}{us ls:List Int}{n k j:Nat}(h:j<us.length):(kdM w us ls n k)[j]'(by rw[kdM_len];exact h)=bI (hasLn w us ls (if j<k then n+1 else n) j) 2 0:=by
 unfold kdM
 rw[List.getElem_map,List.getElem_range]
theorem hasLn_succ {w:Int}{us ls:List Int}{n:Nat}(hn:n<ls.length)(j:Nat):hasLn w us ls (n+1) j=(hasLn w us ls n j||eqLn w us j (modU us (gI ls n))):=by
 unfold hasLn
 rw[take_at hn,List.any_append,← gI_at hn];simp
theorem kdM_zero (w:Int)(us ls:List Int):List.replicate us.length (0:Int)=kdM w us ls 0 0:=by
 refine List.ext_getElem (by simp[kdM]) (fun j h1 h2=>?_)
 rw[kdM_get (by simpa[kdM]using h2)]
 simp[hasLn,bI]
theorem kdM_done (w:Int)(us ls:List Int)(n:Nat):kdM w us ls n us.length=kdM w us ls (n+1) 0:=by
 unfold kdM
 refine List.map_congr_left fun j hj=>?_
 rw[if_pos (List.mem_range.1 hj),if_neg (by omega)]
theorem kdM_on {w:Int}{us ls:List Int}{n k:Nat}(hn:n<ls.length)(hk:k<us.length)(he:eqLn w us k (modU us (gI ls n))=true):(kdM w us ls n k).set k 2=kdM w us ls n (k+1):=by
 refine List.ext_getElem (by simp[kdM]) (fun j h1 h2=>?_)
 have hj:j<us.length:=by simpa[kdM]using h2
 rw[List.getElem_set,kdM_get (k:=k+1) hj]
 by_cases e:k=j
 ·subst e
  rw[if_pos rfl,if_pos (by omega),hasLn_succ hn,he,Bool.or_true];rfl
 ·rw[if_neg e,kdM_get hj]
  by_cases h3:j<k
  ·rw[if_pos h3,if_pos (by omega)]
  ·rw[if_neg h3,if_neg (by omega)]
theorem kdM_off {w:Int}{us ls:List Int}{n k:Nat}(hn:n<ls.length)(hk:k<us.length)(he:eqLn w us k (modU us (gI ls n))=false):kdM w us ls n k=kdM w us ls n (k+1):=by
 unfold kdM
 refine List.map_congr_left fun j hj=>?_
 by_cases e:j=k
 ·subst e
  rw[if_neg (by omega),if_pos (by omega),hasLn_succ hn,he,Bool.or_false]
 ·by_cases h3:j<k
  ·rw[if_pos h3,if_pos (by omega)]
  ·rw[if_neg h3,if_neg (by omega)]
theorem kdM_kds (w h:Int)(ls:List Int)(n k:Nat):kds w h (kdM w (units w h) ls n k):=by
 refine⟨kdM_len ..,fun x hx=>?_⟩
 unfold kdM at hx
 obtain⟨j,_,rfl⟩:=List.mem_map.1 hx
 cases hasLn w (units w h) ls (if j<k then n+1 else n) j<;>simp[bI]
/-- The lines that are chosen. -/
def lnS (w:Int)(us ls:List Int)(k c:Int):Bool:=ls.any fun x=>k==lnK1 w us (modU us x)&&c==lnC1 w us (modU us x)
theorem look_ne {c:Int}{x:Cr}:∀{l:List Cr} {acc:Int},x∈l→(x.1=c/3∧x.2.1=c%3)→(∀y∈l,y.2.2≠0)→lookK c acc l≠0:=by
 intro l
 have key:∀(l:List Cr) (acc:Int),(∀y∈l,y.2.2≠0)→acc≠0→lookK c acc l≠0:=by
  intro l
  induction l with
  |nil=>intro acc _ h;exact h
  |cons y r ih=>
   intro acc hy h
   simp only[lookK]
   refine ih _ (fun z hz=>hy z (by simp[hz])) ?_
   split
   ·exact hy y (by simp)
   ·exact h
 induction l with
 |nil=>intro acc hx;simp at hx
 |cons y r ih=>
  intro acc hx hc hy
  simp only[lookK]
  rcases List.mem_cons.1 hx with rfl|hx
  ·rw[if_pos hc]
   exact key r _ (fun z hz=>hy z (by simp[hz])) (hy _ (by simp))
  ·exact ih hx hc (fun z hz=>hy z (by simp[hz]))
theorem wthL_cr {us ks:List Int}(ha:asc us)(hl:ks.length=us.length){j:Nat}(hj:j<us.length):crB (wthL us ks) us[j]=(ks[j]'(by omega) !=0):=by
 have h1:=kinds_wthL ha hl
 have h2:(kindsL us (wthL us ks))[j]? =some (lookK us[j] 0 (wthL us ks)):=by
  unfold kindsL;rw[List.getElem?_map,List.getElem?_eq_getElem hj];rfl
 rw[h1,List.getElem?_eq_getElem (by omega)]at h2
 have h2:ks[j]'(by omega)=lookK us[j] 0 (wthL us ks):=Option.some.inj h2
 rw[h2]
 cases hc:crB (wthL us ks) us[j]
 ·rw[lookK_none (fun x hx=>?_)]
  ·rfl
  ·intro hq
   have:crB (wthL us ks) us[j]=true:=by
    unfold crB
    rw[List.any_eq_true]
    exact⟨x,hx,by rw[hq.1,hq.2];simp⟩
   rw[this]at hc;cases hc
 ·unfold crB at hc
  rw[List.any_eq_true]at hc
  obtain⟨x,hx,hxe⟩:=hc
  simp only[Bool.and_eq_true,beq_iff_eq]at hxe
  obtain⟨m1,m2,m3,m4,m5⟩:=wthL_mem hx
  have hcd:cdC x=us[j]:=by unfold cdC;omega
  symm
  rw[bne_iff_ne]
  intro h0
  -- the kind that stands at the unit is not 0
  have hn:lookK us[j] 0 (wthL us ks)≠0:=look_ne hx hxe (fun y hy=>(wthL_mem hy).2.2.2.2)
  exact hn h0
theorem onL_lines {w h:Int}(hs:s5 w h)(ls:List Int):OnL w h (lnP w h ls) (lnS w (units w h) ls):=by
 intro c hc
 obtain⟨j,hj,rfl⟩:=List.getElem_of_mem hc
 unfold lnP
 rw[wthL_cr (units_asc w h) (kdM_len ..) hj,kdM_get hj,if_neg (by omega)]
 have hu:=uAt hj
 have:hasLn w (units w h) ls ls.length j=lnS w (units w h) ls (leK w ((units w h)[j]/3) ((units w h)[j]%3)) (leC w ((units w h)[j]/3) ((units w h)[j]%3)):=by
  unfold hasLn lnS eqLn
  rw[List.take_length]
  congr 1
  funext x
  unfold lnK1 lnC1 leK leC
  rw[hu.2.1,hu.2.2]
 rw[this]
 cases lnS w (units w h) ls (leK w ((units w h)[j]/3) ((units w h)[j]%3)) (leC w ((units w h)[j]/3) ((units w h)[j]%3))<;>rfl
theorem dim5_ok {W:Int}(h:0≤W∧W≤255):1≤dim5 W∧dim5 W≤5:=by
 unfold dim5
 rw[Int.tmod_eq_emod_of_nonneg h.1];omega
theorem T10ok:TabOk Tryd.prog G T10:=tabL_ok noCh_ok ⟨ct35,ct20,ct41,ct42,ct23,ct43v,ct38v,ct44v,ct40,trivial⟩
set_option maxHeartbeats 4000000 in
theorem sp10 (W H:Int)(ls:List Int)(h1:0≤W∧W≤255)(h2:0≤H∧H≤255)(hu:u8s ls):SpecP Tryd.prog G 10 [.agg [.int .u8 W,.int .u8 H],.imm (.ints .u8 ls) ls.length none] (.bool true) []:=by
 refine fnP_spec hcm hmx T10ok ok10 rfl (ob_o10 W H ls) ?_
 dsimp -failIfUnchanged -proj -eta -iota -zeta only[rd,rdw,qs,ql,qx]
 have d1:=dim5_ok h1
 have d2:=dim5_ok h2
 have hs:s5 (dim5 W) (dim5 H):=⟨d1.1,d1.2,d2.1,d2.2⟩
 generalize dim5 W=w at*
 generalize dim5 H=h at*
 obtain⟨n100,n4⟩:=nC_le hs
 have hul:=units_len hs
 have hup:0<(units w h).length:=by
  have:=cod_mem (w:=w) (h:=h) (i:=0) (e:=1) hs (nC_has hs (show 0<nC w h by omega)) (by omega) (by
   obtain⟨s1,s2,s3,s4⟩:=hs
   unfold nbI
   have:qX w 0=0∧qY w 0=0∧qQ 0=0:=⟨by simp[qX],by simp[qY],by simp[qQ]⟩
   rw[this.1,this.2.1,this.2.2]
   have:inB w h (nbX 0 0 1) (nbY 0 0 1)=true:=inB_iff.2 (by simp[nbX,nbY];omega)
   rw[this]
   simp[nbX,nbY,nbQ])
  exact List.length_pos_of_mem this
 have hun:=fun n (hn:n<(units w h).length)=>un_ok hn hs
 have hO:=onL_lines hs ls
 have hkd:=fun n=>kdM_kds w h ls n 0
 have hvP:vP w h (lnP w h ls):=⟨_,kdM_kds w h ls ls.length 0,rfl⟩
 have hn2:4*w*h=(nC w h:Nat):=by
  have:=s5_len hs
  unfold nC;omega
 have hcell:∀n,n<(units w h).length→(0≤qX w (uC (units w h) n)∧qX w (uC (units w h) n)≤4)∧(0≤qY w (uC (units w h) n)∧qY w (uC (units w h) n)≤4)∧(0≤qQ (uC (units w h) n)∧qQ (uC (units w h) n)≤3)∧(uC (units w h) n).toNat<nC w h∧(((uC (units w h) n).toNat:Nat):Int)=uC (units w h) n:=fun n hn=>by
  obtain⟨a1,a2,a3,a4⟩:=hun n hn
  have hb:hasB w h (uC (units w h) n)=true:=hasB_iff.2 ⟨a1,a2⟩
  obtain⟨c1,c2,c3,c4⟩:=cell5 hs hb
  obtain⟨s1,s2,s3,s4⟩:=hs
  exact⟨by omega,by omega,c3,has_nC hb⟩
 have hmod:∀n,n<ls.length→∃m:Nat,modU (units w h) (gI ls n)=m∧m<(units w h).length∧(0≤gI ls n∧gI ls n≤255):=fun n hn=>by
  have hx:=hu (gI ls n) (by rw[gI_at hn];exact List.getElem_mem hn)
  have:modU (units w h) (gI ls n)=gI ls n%((units w h).length:Int):=Int.tmod_eq_emod_of_nonneg hx.1
  have h3:=Int.emod_nonneg (gI ls n) (show((units w h).length:Int)≠0 by omega)
  have h4:=Int.emod_lt_of_pos (gI ls n) (show(0:Int)<(units w h).length by omega)
  exact⟨(gI ls n%((units w h).length:Int)).toNat,by omega,by omega,hx⟩
 simp only[unC_flat,gI_getD,drop_gI,ltb_iff,ltb_no,leb_iff,leb_no,len'_iff,ltn_iff,inR_i64,inR_u8,and_true,true_and,size_vals,size_ints,Cont.size,Int.toNat_natCast,List.length_drop,implies_true,flatU_len,cvA_len]
 intro hl6
 repeat' (with_reducible apply And.intro)
 any_goals first|omega|exact hs|exact⟨0,rfl,by omega,kdM_zero w (units w h) ls⟩|fail
 rintro⟨i,m⟩ ⟨n,hi,hn,hm⟩
 simp only at hi hm ⊢
 subst hi;subst hm
 simp only[Int.toNat_natCast]
 refine⟨fun hlt=>?_,fun hge=>?_⟩
 ·have hn':n<ls.length:=by omega
  obtain⟨m,hm,hml,hx⟩:=hmod n hn'
  have hm2:(gI ls n).tmod ((units w h).length:Int)=m:=hm
  simp only[hm,hm2,Int.toNat_natCast]
  obtain⟨u1,u2⟩:=uget hml
  have u2':(List.drop (m*2) (flatU (units w h)))[1]? =some (.int .u8 (uE (units w h) m)):=(List.getElem?_drop (i:=1) (j:=0) ..).symm.trans u2
  obtain⟨q1,q2,q3,q4,q5⟩:=hcell m hml
  obtain⟨a1,a2,a3,a4⟩:=hun m hml
  obtain⟨g1,g2,g3⟩:=cvA_get (w:=w) q4
  rw[q5]at g1 g2 g3
  repeat' (with_reducible apply And.intro)
  any_goals first|omega|(rw[Bool.not_eq_true',beq_eq_false_iff_ne];omega)|exact u1|exact u2|exact u2'|exact g1|exact g2|exact g3|exact⟨0,rfl,by omega,rfl⟩|exact⟨0,rfl,by omega⟩|fail
  rintro⟨ik,mk⟩ ⟨k,hi,hk,hmk⟩
  simp only at hi hmk ⊢
  subst hi;subst hmk
  simp only[Int.toNat_natCast,kdM_len]
  refine⟨fun hklt=>?_,fun hkge=>?_⟩
  ·have hk':k<(units w h).length:=by omega
   obtain⟨v1,v2⟩:=uget hk'
   have v1':(List.drop 0 (List.drop (k*2) (flatU (units w h))))[0]? =some (.int .i64 (uC (units w h) k)):=by first|exact v1|(rw[List.drop_zero];exact v1)
   have v2':(List.drop 1 (List.drop (k*2) (flatU (units w h))))[0]? =some (.int .u8 (uE (units w h) k)):=by first|exact v2|(rw[List.getElem?_drop];exact v2)
   obtain⟨r1,r2,r3,r4,r5⟩:=hcell k hk'
   obtain⟨b1,b2,b3,b4⟩:=hun k hk'
   obtain⟨f1,f2,f3⟩:=cvA_get (w:=w) r4
   rw[r5]at f1 f2 f3
   have hon:=kdM_on (w:=w) hn' hk'
   have hoff:=kdM_off (w:=w) hn' hk'
   rw[hm]at hon hoff
   repeat' (with_reducible apply And.intro)
   any_goals first|omega|exact v1'|exact v2'|exact f1|exact f2|exact f3|fail
   ·intro he
    exact⟨by omega,by omega,by omega,by omega,⟨k+1,by omega,by omega,hon he⟩,by omega⟩
   ·intro he
    exact⟨by omega,⟨k+1,by omega,by omega,hoff he⟩,by omega⟩
  ·have:k=(units w h).length:=by omega
   subst this
   exact⟨by omega,⟨n+1,by omega,by omega,kdM_done ..⟩,by omega⟩
 ·have:n=ls.length:=by omega
  subst this
  have hle:=hO.loose hs hvP
  have hcv:=fun f=>hO.convex hs f
  have hone:(!(maxL (facL w h (lnP w h ls))+1==1)==((ls.length:Int)==0))=false:=by
   by_cases hz:ls=[]
   ·subst hz
    have h0:lnP w h []=[]:=by
     unfold lnP
     rw[List.length_nil,← kdM_zero]
     generalize units w h=us
     induction us with
     |nil=>rfl
     |cons c r ih=>rw[List.length_cons,List.replicate_succ];simp only[wthL,if_pos];exact ih
    rw[h0,fac_none hs];rfl
   ·obtain⟨m,hm,hml,hx⟩:=hmod 0 (List.length_pos_iff.2 hz)
    have hS:lnS w (units w h) ls (leK w ((units w h)[m]/3) ((units w h)[m]%3)) (leC w ((units w h)[m]/3) ((units w h)[m]%3))=true:=by
     unfold lnS
     rw[List.any_eq_true]
     refine⟨gI ls 0,by rw[gI_at (List.length_pos_iff.2 hz)];exact List.getElem_mem _,?_⟩
     have hu:=uAt hml
     rw[hm]
     unfold lnK1 lnC1 leK leC
     rw[hu.2.1,hu.2.2];simp
    have hne:=hO.many hs (List.getElem_mem hml) hS
    have:((ls.length:Int)==0)=false:=by
     rw[beq_eq_false_iff_ne]
     have:=List.length_pos_iff.2 hz
     omega
    rw[this,beq_eq_false_iff_ne.2 hne];rfl
  have hkl:=kdM_len w (units w h) ls ls.length 0
  have hmx:=fac_max (lnP w h ls) hs
  have hcn:=fun j=>celL_ne (j:=j) (lnP w h ls) hs
  have hok:=okV_of hs hvP
  have hP:wthL (units w h) (kdM w (units w h) ls ls.length 0)=lnP w h ls:=rfl
  rw[hP,hkl]
  repeat' (with_reducible apply And.intro)
  any_goals first|omega|exact hs|exact hok.1|exact hok.2|exact hok|exact hone|(rw[hle];rfl)|exact⟨0,rfl,by omega⟩|fail
  rintro⟨i⟩ ⟨n,hi,hn⟩
  simp only at hi ⊢
  subst hi
  intro hlt
  repeat' (with_reducible apply And.intro)
  any_goals first|omega|exact hs|exact hok.1|exact hok.2|exact hok|(rw[hcv];rfl)|exact hcn n (by omega) (by omega)|exact⟨n+1,by omega,by omega⟩|fail
end Go.Proofs.YtfpcbimohikhmaaDoor.X
