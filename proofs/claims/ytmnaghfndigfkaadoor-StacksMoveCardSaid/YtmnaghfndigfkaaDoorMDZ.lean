/-
 Stacks that are moved: the contract of Move.
-/
import Derived.Test.YtmnaghfndigfkaaDoorMCZ
set_option maxRecDepth 1000000
set_option linter.unusedVariables false
set_option linter.unusedSimpArgs false
namespace Go.Proofs.YtmnaghfndigfkaaDoor.X
open Go Go.Ab

theorem mvS_len (t a b:Int)(l:List Sk):(mvS t a b l).length=l.length:=List.length_map ..
theorem mvS_app (t a b:Int)(l m:List Sk):mvS t a b (l++m)=mvS t a b l++mvS t a b m:=List.map_append ..
theorem mvS_mem {t a b:Int}(h:isT t){l:List Sk}(hv:vldT l)(hk:∀s∈l,smK s.2):okQT (mvS t a b l):=by
 intro s hs
 unfold mvS at hs
 obtain⟨s',h1,rfl⟩:=List.mem_map.1 hs
 have hq:=hv s' h1
 have h3:s'.1.2.2≤3:=by
  have:=hq.1
  unfold vldC at this
  rw[decide_eq_true_iff]at this
  exact this.2.2.2.2
 have:=(mvQ_sd h hq.2 h3).1
 exact⟨hk s' h1,this.1,by have:=this.2;show mvQ t s'.1.2.2≤255;omega⟩
theorem allM_app (t a b:Int)(l m:List Sk):allM t a b (l++m)=(allM t a b l&&allM t a b m):=List.all_append ..
theorem st54 {t a b:Int}{l:List Sk}{n:Nat}(g:n<l.length)(hB:mvB t a b (tX l n) (tY l n) (tQ l n)=true)(hA:allM t a b (l.take n)=true):
  allM t a b (l.take (n+1))=true∧set4 (flatC (mvS t a b (l.take n))++repL zr4 (l.length-n)) (n*4) (.int .i64 (mvX' t a (tX l n) (tY l n))) (.int .i64 (mvY' t b (tX l n) (tY l n))) (.int .u8 (mvQ t (tQ l n))) (layC (tKh l n))=flatC (mvS t a b (l.take (n+1)))++repL zr4 (l.length-(n+1)):=by
 refine⟨?_,?_⟩
 ·rw[ttake g,allM_app,hA]
  show(true&&(vldC _&&true))=true
  rw[Bool.and_true,Bool.true_and]
  exact hB
 ·rw[show l.length-n=(l.length-(n+1))+1 by omega]
  have hl:(flatC (mvS t a b (l.take n))).length=n*4:=by rw[flatC_len,mvS_len,List.length_take];omega
  have e:=set4_app (A:=flatC (mvS t a b (l.take n))) (l:=repL zr4 (l.length-(n+1)+1)) (i:=0) (a:=.int .i64 (mvX' t a (tX l n) (tY l n))) (b:=.int .i64 (mvY' t b (tX l n) (tY l n))) (c:=.int .u8 (mvQ t (tQ l n))) (d:=layC (tKh l n))
  rw[hl]at e
  refine Eq.trans e ?_
  rw[ttake g,mvS_app,flatC_app,List.append_assoc]
  rfl
theorem ct54b:CtOk Tryd.prog G 54 e54b:=by
 intro args r h hp
 unfold e54b at h
 split at h<;>cases h
 rename_i l n _ t a b
 obtain⟨ht,hv⟩:=hp
 refine(fnP_spec hcm hmx TM54ok ok54 rfl (ob_o54b l n t a b) ?_:SpecP Tryd.prog G 54 [.imm (.vals l) n none,.agg [.int .u8 t,.int .i64 a,.int .i64 b]] _ []).caps
 rw[hv]
 (repeat' (with_reducible apply And.intro))
 all_goals first|rfl|omega|trivial
theorem okTC_lsk {l:List Sk}(h:l.length≤20)(hk:∀s∈l,smK s.2):okTC (flatT l) l.length:=okTC_T (by omega) hk
theorem ct54o:CtOk Tryd.prog G 54 e54o:=by
 intro args r h hp
 unfold e54o at h
 split at h<;>cases h
 rename_i a0 n0 _ t a b
 obtain⟨hm,h1,hv,hn,hA⟩:=hp
 refine capsTC h1 ?_
 obtain⟨-,rfl,hz,hk⟩:=h1
 generalize unT a0=l at*
 have hV:=mvO_V hm
 have t0:=hm.1.1
 have t7:=hm.1.2
 refine fnP_spec hcm hmx TM54ok ok54 rfl (ob_o54o l t a b) ?_
 simp only[ltb_iff,ltb_no,leb_iff,leb_no,len'_iff,ltn_iff,inR_i64,and_true,true_and,size_vals,iI,unT_flat,Int.toNat_natCast,hV]
 have zr:[AV.int .i64 0,.int .i64 0,.int .u8 0,.nils]=zr4:=rfl
 rw[zr]
 (repeat' (with_reducible apply And.intro))
 all_goals try first|rfl|omega|trivial|exact okTC_lsk hn hk|exact hv|exact⟨0,rfl,by omega,rfl,rfl⟩
 rintro⟨i,o⟩ ⟨n,hi,hl,hB,ho⟩
 simp only at hi ho ⊢
 subst hi ho
 simp only[Int.toNat_natCast]
 have hlen:(flatC (mvS t a b (l.take n))++repL zr4 (l.length-n)).length=l.length*4:=by
  rw[List.length_append,flatC_len,mvS_len,List.length_take,repL_length]
  show min n l.length*4+(l.length-n)*4=_
  omega
 refine⟨fun hlt=>?_,fun hge=>?_⟩
 ·have g:n<l.length:=by omega
  obtain⟨a0,a1,a2,a3⟩:=tget g
  have hc:=hv _ (tmem g)
  have hs:=hk _ (tmem g)
  simp only at hc hs
  (repeat' (with_reducible apply And.intro))
  all_goals try first|rfl|omega|trivial|exact a0|exact a1|exact a2|exact a3|exact hm|exact hc|exact hm.1|exact hm.2|exact hc.1|exact hc.2|exact hs|(rw[flatT_len];omega)
  ·intro _
   trivial
  ·intro h
   cases hb:mvB t a b (tX l n) (tY l n) (tQ l n)with
   |false=>rw[hb]at h;cases h
   |true=>
    obtain⟨p1,p2⟩:=st54 g hb hB
    simp only[bI,cond_true]
    (repeat' (with_reducible apply And.intro))
    all_goals try first|rfl|omega|trivial|exact hs|(rw[hlen];omega)
    all_goals try exact⟨n+1,by omega,by omega,p1,p2⟩
 ·have en:n=l.length:=by omega
  subst en
  rw[List.take_length]at hB
  rw[hA]at hB;cases hB
theorem ct54k:CtOk Tryd.prog G 54 e54k:=by
 intro args r h hp
 unfold e54k at h
 split at h<;>cases h
 rename_i a0 n0 _ t a b
 obtain⟨hm,h1,hv,hn,hA⟩:=hp
 refine capsTC h1 ?_
 obtain⟨-,rfl,hz,hk⟩:=h1
 generalize unT a0=l at*
 have hV:=mvO_V hm
 have t0:=hm.1.1
 have t7:=hm.1.2
 refine fnP_spec hcm hmx TM54ok ok54 rfl (ob_o54k l t a b) ?_
 simp only[ltb_iff,ltb_no,leb_iff,leb_no,len'_iff,ltn_iff,inR_i64,and_true,true_and,size_vals,iI,unT_flat,Int.toNat_natCast,hV]
 have zr:[AV.int .i64 0,.int .i64 0,.int .u8 0,.nils]=zr4:=rfl
 rw[zr]
 (repeat' (with_reducible apply And.intro))
 all_goals try first|rfl|omega|trivial|exact okTC_lsk hn hk|exact hv|exact⟨0,rfl,by omega,rfl,rfl⟩
 rintro⟨i,o⟩ ⟨n,hi,hl,hB,ho⟩
 simp only at hi ho ⊢
 subst hi ho
 simp only[Int.toNat_natCast]
 have hlen:(flatC (mvS t a b (l.take n))++repL zr4 (l.length-n)).length=l.length*4:=by
  rw[List.length_append,flatC_len,mvS_len,List.length_take,repL_length]
  show min n l.length*4+(l.length-n)*4=_
  omega
 refine⟨fun hlt=>?_,fun hge=>?_⟩
 ·have g:n<l.length:=by omega
  obtain⟨a0,a1,a2,a3⟩:=tget g
  have hc:=hv _ (tmem g)
  have hs:=hk _ (tmem g)
  simp only at hc hs
  have hb:mvB t a b (tX l n) (tY l n) (tQ l n)=true:=(List.all_eq_true.1 hA) _ (tmem g)
  (repeat' (with_reducible apply And.intro))
  all_goals try first|rfl|omega|trivial|exact a0|exact a1|exact a2|exact a3|exact hm|exact hc|exact hm.1|exact hm.2|exact hc.1|exact hc.2|exact hs|(rw[flatT_len];omega)
  ·rw[hb];rfl
  ·simp only[hb,bI,cond_true]
   obtain⟨p1,p2⟩:=st54 g hb hB
   exact⟨n+1,by omega,by omega,p1,p2⟩
 ·have en:n=l.length:=by omega
  subst en
  rw[List.take_length,Nat.sub_self]
  show([(258,HO.blk ⟨.vals (flatC (mvS t a b l)++[]),_,_,_,_,_,_⟩)]=[(258,HO.blk ⟨.vals (flatC (unT (flatC (mvS t a b l)++[]))),_,_,_,_,_,_⟩)]∧_=(unT (flatC (mvS t a b l)++[])).length∧_∧okQT (unT (flatC (mvS t a b l)++[])))∧_
  simp only[List.append_nil,unT_flatC]
  (repeat' (with_reducible apply And.intro))
  all_goals first|rfl|exact hn|exact(mvS_len t a b l).symm|exact mvS_mem hm.1 hv hk|trivial|(rw[show repL zr4 0=[]from rfl,List.append_nil,unT_flatC])
/-! ### The reference -/
theorem ct111:CtOk Tryd.prog G 111 e111:=by
 intro args r h hp
 unfold e111 at h
 split at h<;>cases h
 rename_i x y q u v p
 refine fnP_spec hcm hmx T0ok ok111 rfl (ob_o111 x y q u v p) ?_
 have key:ltC (u,v,p) (x,y,q)=decide (v<y∨(v=y∧(u<x∨(u=x∧p<q)))):=rfl
 rw[key]
 simp only[ltb_iff,ltb_no,and_true,true_and,iI,beq_iff_eq,beq_eq_false_iff_ne,ne_eq]
 have tt:∀{P:Prop} [Decidable P],P→(1:Int)=bI (decide P) 1 0:=fun h=>by rw[decide_eq_true h];rfl
 have ff:∀{P:Prop} [Decidable P],¬ P→(0:Int)=bI (decide P) 1 0:=fun h=>by rw[decide_eq_false h];rfl
 refine⟨fun h1=>?_,fun h1=>⟨fun h2=>⟨fun h3=>?_,fun h3=>⟨fun h4=>⟨fun h5=>?_,fun h5=>?_⟩,fun h4=>?_⟩⟩,fun h2=>?_⟩⟩
 all_goals first|exact tt (by omega)|exact ff (by omega)
theorem TM57ok:TabOk Tryd.prog G TM57:=tabL_ok noCh_ok ⟨ct111,trivial⟩
theorem ct57:CtOk Tryd.prog G 57 e57:=by
 intro args r h hp
 unfold e57 at h
 split at h<;>cases h
 rename_i a n _
 obtain⟨l,rfl,rfl,e,hz,hk⟩:=okT_of hp
 rw[e]
 refine(fnP_spec hcm hmx TM57ok ok57 rfl (ob_o57 l) ?_:SpecP Tryd.prog G 57 [lsk l] _ []).caps
 simp only[ltb_iff,ltb_no,leb_iff,leb_no,len'_iff,ltn_iff,inR_i64,and_true,true_and,size_vals,iI,Nat.zero_add,Nat.add_zero,List.nil_append]
 (repeat' (with_reducible apply And.intro))
 all_goals try first|rfl|omega|trivial|(rw[flatT_len])|exact⟨1,rfl,by omega,.inr rfl,by rw[stg_1]⟩
 rintro⟨i,o⟩ ⟨n,hi,h1,hn,ho⟩
 simp only at hi ho ⊢
 subst hi ho
 simp only[Int.toNat_natCast]
 refine⟨fun hlt=>?_,fun hge=>?_⟩
 ·have gn:n<l.length:=by omega
  refine⟨⟨n,rfl,by rw[unT_flat],by rw[unT_flat];exact way_0 gn⟩,?_⟩
  rintro⟨j,o⟩ ⟨j',hj,ho,hw⟩
  simp only at hj ho hw ⊢
  subst hj
  generalize unT o=m at*
  subst ho
  simp only[Int.toNat_natCast]
  obtain⟨w1,w2,w3⟩:=way_len hw
  have stop:(j'=0∨ltC (gT m j').1 (gT m ((j':Int)-1)).1=false)→flatT m=flatT (stg l (n+1)):=fun h=>by rw[way_end hw h]
  refine⟨fun hp=>?_,fun hp=>?_⟩
  ·cases j' with
   |zero=>exact absurd hp (by simp)
   |succ j=>
    have gj:j+1<m.length:=by omega
    have ej:(((j+1:Nat):Int)-1)=(j:Int):=by omega
    simp only[ej,Int.toNat_natCast]
    obtain⟨a0,a1,a2,a3⟩:=tgetE gj
    obtain⟨b0,b1,b2,b3⟩:=tgetE (show j<m.length by omega)
    have hsz:(flatT m).length=m.length*4:=flatT_len m
    (repeat' (with_reducible apply And.intro))
    all_goals try first|omega|exact a0|exact a1|exact a2|exact a3|exact b0|exact b1|exact b2|exact b3
    ·intro hc
     have hl:ltC (gT m (j+1:Nat)).1 (gT m j).1=true:=by
      cases hx:ltC (gT m (j+1:Nat)).1 (gT m j).1 with
      |true=>rfl
      |false=>
       have hc':(bI (ltC (gT m (j+1:Nat)).1 (gT m j).1) 1 0==1)=true:=hc
       rw[hx]at hc';cases hc'
     have sw:=swapT gj
     have hw':=way_step hw hl
     (repeat' (with_reducible apply And.intro))
     all_goals try first|omega|exact a0|exact a1|exact a2|exact a3|exact b0|exact b1|exact b2|exact b3|(simp only[List.length_set,hsz];omega)
     have key:∀o,o=flatT ((m.set (j+1) (gT m j)).set j (gT m (j+1:Nat)))→(o=flatT (unT o)∧Way l n j (unT o)):=fun o e=>by
      subst e;rw[unT_flat];exact⟨rfl,hw'⟩
     exact⟨j,rfl,key _ sw⟩
    ·intro hc
     have hl:ltC (gT m (j+1:Nat)).1 (gT m j).1=false:=by
      cases hx:ltC (gT m (j+1:Nat)).1 (gT m j).1 with
      |false=>rfl
      |true=>
       have hc':(bI (ltC (gT m (j+1:Nat)).1 (gT m j).1) 1 0==1)=false:=hc
       rw[hx]at hc';cases hc'
     have:=stop (.inr (by rw[ej];exact hl))
     (repeat' (with_reducible apply And.intro))
     all_goals try first|omega
     exact⟨n+1,by omega,by omega,by omega,this⟩
  ·have e0:j'=0:=by omega
   have:=stop (.inl e0)
   (repeat' (with_reducible apply And.intro))
   all_goals try first|omega|(subst e0;rfl)
   all_goals try exact⟨n+1,by omega,by omega,by omega,this⟩
 ·rw[stg_end (by omega)]
  (repeat' (with_reducible apply And.intro))
  all_goals first|rfl|trivial|exact(stT_len l).symm|exact stT_len l
end Go.Proofs.YtmnaghfndigfkaaDoor.X
