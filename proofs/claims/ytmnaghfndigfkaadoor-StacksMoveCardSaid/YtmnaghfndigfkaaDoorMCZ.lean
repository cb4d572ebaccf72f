/-
 Stacks that are moved: the contracts.
-/
import Derived.Test.YtmnaghfndigfkaaDoorMOZ
set_option maxRecDepth 1000000
set_option linter.unusedVariables false
set_option linter.unusedSimpArgs false
namespace Go.Proofs.YtmnaghfndigfkaaDoor.X
open Go Go.Ab

/-! ### Room is forgotten -/
theorem capsC:∀(l:List Sk),capsL (flatC l)=flatT l
 |[]=>rfl
 |s::l=>by
  show capsV _::capsV _::capsV _::capsV _::capsL (flatC l)=_
  rw[capsC l];rfl
theorem capsL_get:∀(l:List AV) (i:Nat),(capsL l).getD i .undef=capsV (l.getD i .undef)
 |[],_=>rfl
 |_::_,0=>rfl
 |_::l,i+1=>capsL_get l i
theorem flatT_len' (l:List Sk):(flatT l).length=(flatC l).length:=by rw[flatT_len,flatC_len]
theorem relI_CT {w:World}{F:Nat→Prop}{l:List Sk}{n:Nat}{c:Option Nat}{x:Value}(h:RelI w F (.imm (.vals (flatC l)) n c) x):RelI w F (.imm (.vals (flatT l)) n none) x:=by
 cases h with
 |imm _ _ _ b o cap' xs hb hc hr ho hl hcap=>
  have e:(Cont.vals (flatT l)).size=(Cont.vals (flatC l)).size:=flatT_len' l
  refine .imm _ _ none b o cap' xs hb (fun i hi=>hc i (e▸hi)) (fun i hi=>?_) (fun i hi=>ho i (e▸hi)) hl (fun n e=>by cases e)
  have:=(hr i (e▸hi)).caps
  have e2:(Cont.vals (flatT l)).getV i=capsV ((Cont.vals (flatC l)).getV i):=by
   show(flatT l).getD i .undef=capsV ((flatC l).getD i .undef)
   rw[← capsC,capsL_get]
  rw[e2];exact this
 |imm0 _ _ x hc hcap=>
  refine .imm0 _ none x ?_ (fun n e=>by cases e)
  have e:(Cont.vals (flatT l)).size=(Cont.vals (flatC l)).size:=flatT_len' l
  rw[e];exact hc
theorem relI_TC {w:World}{F:Nat→Prop}{a:List AV}{n:Nat}{c:Option Nat}{x:Value}(ho:okTC a n)(h:RelI w F (.imm (.vals a) n c) x):RelI w F (lsk (unT a)) x:=by
 obtain⟨ha,hn,-,-⟩:=ho
 subst hn
 rcases ha with ha|ha
 ·have:=h.caps
  unfold lsk
  rw[← ha];exact this
 ·unfold lsk
  refine relI_CT (c:=c) ?_
  rw[← ha];exact h
theorem capsTC {f:Nat}{a:List AV}{n:Nat}{c:Option Nat}{b v:AV}{bs:List Blk}(ho:okTC a n)(h:SpecP Tryd.prog G f [lsk (unT a),b] v bs):SpecP Tryd.prog G f [.imm (.vals a) n c,b] v bs:=h.args fun w F xs h=>by
 cases h with
 |cons _ _ _ _ h1 h2=>exact .cons _ _ _ _ (relI_TC ho h1) h2
theorem okTC_T {l:List Sk}(h:l.length<1000000)(hk:∀s∈l,smK s.2):okTC (flatT l) l.length:=by
 unfold okTC;rw[unT_flat];exact⟨.inl rfl,rfl,h,hk⟩
theorem okTC_C {l:List Sk}(h:l.length<1000000)(hk:∀s∈l,smK s.2):okTC (flatC l) l.length:=by
 unfold okTC;rw[unT_flatC];exact⟨.inr rfl,rfl,h,hk⟩
/-! ### Cells of stacks -/
theorem TM105ok:TabOk Tryd.prog G TM105:=tabL_ok noCh_ok ⟨ct86,trivial⟩
theorem ct105:CtOk Tryd.prog G 105 e105:=by
 intro args r h hp
 unfold e105 at h
 split at h<;>cases h
 rename_i x y q a n _
 subst hp
 refine(fnP_spec hcm hmx TM105ok ok105 rfl (ob_o105 x y q a) ?_:SpecP Tryd.prog G 105 [.agg [_,_,_,layV a]] _ []).caps
 simp only[and_true,true_and]
 (repeat' (with_reducible apply And.intro))
 all_goals (cases vldC (x,y,q)<;>rfl)
theorem TM145ok:TabOk Tryd.prog G TM145:=tabL_ok noCh_ok ⟨ct105,trivial⟩
theorem ct145:CtOk Tryd.prog G 145 e145:=by
 intro args r h hp
 unfold e145 at h
 split at h
 ·rename_i a n _ f
  rw[cond_eq_ite]at h
  split at h<;>cases h
  rename_i hf
  have:=Nat.eq_of_beq_eq_true hf;subst this
  obtain⟨h1,hv⟩:=hp
  refine capsTC h1 ?_
  obtain⟨-,-,hz,hk⟩:=h1
  generalize unT a=l at*
  refine fnP_spec hcm hmx TM145ok ok145 rfl (ob_o145 l) ?_
  simp only[ltb_iff,ltb_no,leb_iff,leb_no,len'_iff,ltn_iff,inR_i64,and_true,true_and,size_vals,iI]
  refine⟨⟨0,rfl,by omega⟩,?_⟩
  rintro⟨i⟩ ⟨m,hi,hn⟩
  simp only at hi ⊢
  subst hi
  simp only[Int.toNat_natCast]
  refine⟨fun hlt=>?_,fun hge=>?_⟩
  ·have g:m<l.length:=by omega
   obtain⟨a0,a1,a2,a3⟩:=tget g
   have hc:=(hv _ (tmem g)).1
   simp only at hc
   (repeat' (with_reducible apply And.intro))
   all_goals first|rfl|omega|exact a0|exact a1|exact a2|exact a3|(rw[flatT_len];omega)|(rw[hc];rfl)|exact⟨m+1,by omega,by omega⟩
  ·(repeat' (with_reducible apply And.intro))
   all_goals first|rfl|omega|trivial
 ·cases h
theorem TM104ok:TabOk Tryd.prog G TM104:=tabL_ok noCh_ok ⟨ct145,trivial⟩
theorem ct104:CtOk Tryd.prog G 104 e104:=by
 intro args r h hp
 unfold e104 at h
 split at h
 ·rename_i a n _ f
  rw[cond_eq_ite]at h
  split at h<;>cases h
  rename_i hf
  have:=Nat.eq_of_beq_eq_true hf;subst this
  obtain⟨h1,hv⟩:=hp
  refine capsTC h1 ?_
  obtain⟨-,-,hz,hk⟩:=h1
  generalize unT a=l at*
  refine fnP_spec hcm hmx TM104ok ok104 rfl (ob_o104 l) ?_
  rw[unT_flat]
  (repeat' (with_reducible apply And.intro))
  all_goals first|rfl|exact okTC_T hz hk|exact hv|trivial
 ·cases h
theorem TM73ok:TabOk Tryd.prog G TM73:=tabL_ok noCh_ok ⟨ct67f,ct66f,trivial⟩
theorem ct73:CtOk Tryd.prog G 73 e73:=by
 intro args r h hp
 unfold e73 at h
 split at h<;>cases h
 rename_i x y q a n _
 obtain⟨rfl,hk⟩:=hp
 refine(fnP_spec hcm hmx TM73ok ok73 rfl (ob_o73 x y q a) ?_:SpecP Tryd.prog G 73 [.agg [_,_,_,layV a]] _ []).caps
 (repeat' (with_reducible apply And.intro))
 all_goals first|rfl|exact hk|trivial
theorem TM107ok:TabOk Tryd.prog G TM107:=tabL_ok noCh_ok ⟨ct79,trivial⟩
theorem ct107:CtOk Tryd.prog G 107 e107:=by
 intro args r h hp
 unfold e107 at h
 split at h<;>cases h
 rename_i x y q a n _ u v p b m _
 obtain⟨⟨rfl,rfl⟩,hq⟩:=hp
 refine(fnP_spec hcm hmx TM107ok ok107 rfl (ob_o107 x y q u v p a b) ?_:SpecP Tryd.prog G 107 [.agg [_,_,_,layV a],.agg [_,_,_,layV b]] _ []).caps
 (repeat' (with_reducible apply And.intro))
 all_goals first|rfl|exact hq|omega|trivial
/-! ### Sorting -/
theorem TM153ok:TabOk Tryd.prog G TM153:=tabL_ok noCh_ok ⟨ct107,trivial⟩
theorem way_mem {l:List Sk}{n j:Nat}{o:List Sk}(h:Way l n j o){z:Sk}(hz:z∈o):z∈l:=by
 obtain⟨x,K,R,h1,h2,h3,rfl,h5⟩:=h.ex
 have ht:∀z,z∈K++R→z∈l:=fun z hz=>by
  rw[← h2,stR_mem]at hz
  exact List.mem_of_mem_take hz
 rcases List.mem_append.1 hz with hz|hz
 ·exact ht z (List.mem_append.2 (.inr (List.mem_reverse.1 hz)))
 rcases List.mem_cons.1 hz with rfl|hz
 ·exact List.mem_of_getElem? h1
 rcases List.mem_append.1 hz with hz|hz
 ·exact ht z (List.mem_append.2 (.inl (List.mem_reverse.1 hz)))
 ·exact List.mem_of_mem_drop hz
theorem swapC {m:List Sk}{j:Nat}(h:j+1<m.length):set4 (set4 (flatC m) ((j+1)*4) (.int .i64 (tX m j)) (.int .i64 (tY m j)) (.int .u8 (tQ m j)) (layC (tKh m j))) (j*4) (.int .i64 (tX m (j+1:Nat))) (.int .i64 (tY m (j+1:Nat))) (.int .u8 (tQ m (j+1:Nat))) (layC (tKh m (j+1:Nat)))=flatC ((m.set (j+1) (gT m j)).set j (gT m (j+1:Nat))):=by
 have e1:=set4_C (l:=m) (i:=j+1) (s:=gT m j) h
 have e2:=set4_C (l:=m.set (j+1) (gT m j)) (i:=j) (s:=gT m (j+1:Nat)) (by rw[List.length_set];omega)
 rw[← e2,← e1]
 rfl
theorem swapT {m:List Sk}{j:Nat}(h:j+1<m.length):set4 (set4 (flatT m) (j*4) (.int .i64 (tX m (j+1:Nat))) (.int .i64 (tY m (j+1:Nat))) (.int .u8 (tQ m (j+1:Nat))) (layV (tKh m (j+1:Nat)))) ((j+1)*4) (.int .i64 (tX m j)) (.int .i64 (tY m j)) (.int .u8 (tQ m j)) (layV (tKh m j))=flatT ((m.set (j+1) (gT m j)).set j (gT m (j+1:Nat))):=by
 have e1:=set4_T (l:=m) (i:=j) (s:=gT m (j+1:Nat)) (by omega)
 have e2:=set4_T (l:=m.set j (gT m (j+1:Nat))) (i:=j+1) (s:=gT m j) (by rw[List.length_set];omega)
 rw[List.set_comm _ _ (by omega:j+1≠j),← e2,← e1]
 rfl
theorem sp153 (l:List Sk)(hz:l.length<1000000)(hk:okQT l):SpecD Tryd.prog G (.fn 153 [] []) [.full 258 l.length,.int .i64 0,.int .i64 l.length,.fn 107 [] []] [(258,blkS (flatC l) l.length)] (.tup []) [(258,blkS (flatC (stT l)) l.length)] []:=by
 refine fnD_spec hcm hmx TM153ok ok153 rfl (ob_d_153 l) ?_
 simp only[ltb_iff,ltb_no,leb_iff,leb_no,len'_iff,ltn_iff,inR_i64,and_true,true_and,size_vals,iI]
 refine⟨⟨1,rfl,by omega,.inr rfl,by rw[stg_1]⟩,?_⟩
 rintro⟨i,o⟩ ⟨n,hi,h1,hn,ho⟩
 simp only at hi ho ⊢
 subst hi ho
 simp only[Int.toNat_natCast]
 refine⟨fun hlt=>?_,fun hge=>?_⟩
 ·have gn:n<l.length:=by omega
  refine⟨⟨n,rfl,by rw[unT_flatC],by rw[unT_flatC];exact way_0 gn⟩,?_⟩
  rintro⟨j,o⟩ ⟨j',hj,ho,hw⟩
  simp only at hj ho hw ⊢
  subst hj
  generalize unT o=m at*
  subst ho
  simp only[Int.toNat_natCast]
  obtain⟨w1,w2,w3⟩:=way_len hw
  have stop:(j'=0∨ltC (gT m j').1 (gT m ((j':Int)-1)).1=false)→flatC m=flatC (stg l (n+1)):=fun h=>by rw[way_end hw h]
  refine⟨fun hp=>?_,fun hp=>?_⟩
  ·cases j' with
   |zero=>exact absurd hp (by simp)
   |succ j=>
    have gj:j+1<m.length:=by omega
    have ej:(((j+1:Nat):Int)-1)=(j:Int):=by omega
    simp only[ej,Int.toNat_natCast]
    obtain⟨a0,a1,a2,a3⟩:=cget gj
    obtain⟨b0,b1,b2,b3⟩:=cget (show j<m.length by omega)
    have m1:=hk _ (way_mem hw (tmem gj))
    have m2:=hk _ (way_mem hw (tmem (show j<m.length by omega)))
    simp only at m1 m2
    have hsz:(flatC m).length=m.length*4:=flatC_len m
    (repeat' (with_reducible apply And.intro))
    all_goals try first|omega|exact a0|exact a1|exact a2|exact a3|exact b0|exact b1|exact b2|exact b3
    ·intro hc
     have hl:ltC (gT m (j+1:Nat)).1 (gT m j).1=true:=cmpC_neg.1 hc
     have sw:=swapC gj
     have hw':=way_step hw hl
     (repeat' (with_reducible apply And.intro))
     all_goals try first|omega|exact a0|exact a1|exact a2|exact a3|exact b0|exact b1|exact b2|exact b3|(simp only[List.length_set,hsz];omega)
     have key:∀o,o=flatC ((m.set (j+1) (gT m j)).set j (gT m (j+1:Nat)))→(o=flatC (unT o)∧Way l n j (unT o)):=fun o e=>by
      subst e;rw[unT_flatC];exact⟨rfl,hw'⟩
     exact⟨j,rfl,key _ sw⟩
    ·intro hc
     have hl:ltC (gT m (j+1:Nat)).1 (gT m j).1=false:=by
      rw[← Bool.not_eq_true];intro h;have:=cmpC_neg.2 h
      have hc':0≤cmpC (gT m (j+1:Nat)).1 (gT m j).1:=hc
      omega
     have:=stop (.inr (by rw[ej];exact hl))
     (repeat' (with_reducible apply And.intro))
     all_goals try first|omega
     exact⟨n+1,by omega,by omega,by omega,this⟩
  ·have e0:j'=0:=by omega
   have:=stop (.inl e0)
   (repeat' (with_reducible apply And.intro))
   all_goals try first|omega|(simp;omega)
   all_goals try exact⟨n+1,by omega,by omega,by omega,this⟩
 ·rw[stg_end (by omega)]
  (repeat' (with_reducible apply And.intro))
  all_goals first|rfl|trivial
theorem sp153e (l:List Sk)(a b:Int)(h:b≤a)(h0:0≤a)(h1:a≤1000):SpecD Tryd.prog G (.fn 153 [] []) [.full 258 l.length,.int .i64 a,.int .i64 b,.fn 107 [] []] [(258,blkS (flatC l) l.length)] (.tup []) [] []:=by
 refine fnD_spec hcm hmx TM153ok ok153 rfl (ob_d_153e l a b) ?_
 simp only[ltb_iff,ltb_no,leb_iff,leb_no,len'_iff,ltn_iff,inR_i64,and_true,true_and,size_vals,iI]
 (repeat' (with_reducible apply And.intro))
 all_goals first|omega|rfl|trivial
theorem ch153ok:ChOk Tryd.prog G ch153:=by
 intro h cv args r hr hp
 unfold ch153 at hr
 split at hr
 ·rename_i f i n a b g vs _ _ _ _ _ _ _
  rw[cond_eq_ite]at hr
  split at hr
  ·rename_i hc
   simp only[Bool.and_eq_true]at hc
   cases Nat.eq_of_beq_eq_true hc.1
   cases Nat.eq_of_beq_eq_true hc.2.1
   cases Nat.eq_of_beq_eq_true hc.2.2
   rw[cond_eq_ite]at hr
   split at hr
   ·rename_i ha
    have ha':a=0:=eq_of_beq ha
    subst ha'
    cases hr
    obtain⟨rfl,rfl,hb,hz,hk⟩:=hp
    rw[leb_iff,leb_iff]at hb
    have:b=((unT vs).length:Int):=by omega
    subst this
    exact sp153 _ hz hk
   ·cases hr
    obtain⟨rfl,h1,h2,h3,rfl⟩:=hp
    exact sp153e _ _ _ h1 h2 h3
  ·cases hr
 ·cases hr
theorem TM146ok:TabOk Tryd.prog G TM146:=tabL_ok ch153ok trivial
theorem sp146 (l:List Sk)(hz:l.length≤20)(hk:okQT l):SpecD Tryd.prog G (.fn 146 [] []) [.full 258 l.length,.int .i64 l.length,.fn 107 [] []] [(258,blkS (flatC l) l.length)] (.tup []) [(258,blkS (flatC (stT l)) l.length)] []:=by
 by_cases h20:l.length=20
 ·have key:=fnD_spec hcm hmx TM146ok ok146 rfl (ob_d_146z l) ?_
  ·rw[h20];exact key
  ·simp only[ltb_iff,ltb_no,leb_iff,leb_no,len'_iff,ltn_iff,inR_i64,and_true,true_and,size_vals,iI,unT_flatC,stT_len,h20]
   (repeat' (with_reducible apply And.intro))
   all_goals first|omega|rfl|exact hk|trivial
 ·refine fnD_spec hcm hmx TM146ok ok146 rfl (ob_d_146 l) ?_
  simp only[ltb_iff,ltb_no,leb_iff,leb_no,len'_iff,ltn_iff,inR_i64,and_true,true_and,size_vals,iI,unT_flatC]
  (repeat' (with_reducible apply And.intro))
  all_goals first|omega|rfl|exact hk|trivial
theorem ch146ok:ChOk Tryd.prog G ch146:=by
 intro h cv args r hr hp
 unfold ch146 at hr
 split at hr
 ·rename_i f i n b g vs _ _ _ _ _ _ _
  rw[cond_eq_ite]at hr
  split at hr
  ·rename_i hc
   simp only[Bool.and_eq_true]at hc
   cases Nat.eq_of_beq_eq_true hc.1
   cases Nat.eq_of_beq_eq_true hc.2.1
   cases Nat.eq_of_beq_eq_true hc.2.2
   cases hr
   obtain⟨rfl,rfl,rfl,hz,hk⟩:=hp
   exact sp146 _ hz hk
  ·cases hr
 ·cases hr
theorem TM106ok:TabOk Tryd.prog G TM106:=tabL_ok ch146ok trivial
theorem sp106 (l:List Sk)(hz:l.length≤20)(hk:okQT l):SpecD Tryd.prog G (.fn 106 [] []) [.full 258 l.length,.fn 107 [] []] [(258,blkS (flatC l) l.length)] (.tup []) [(258,blkS (flatC (stT l)) l.length)] []:=by
 refine fnD_spec hcm hmx TM106ok ok106 rfl (ob_d_106 l) ?_
 simp only[ltb_iff,ltb_no,leb_iff,leb_no,len'_iff,ltn_iff,inR_i64,and_true,true_and,size_vals,iI,unT_flatC]
 (repeat' (with_reducible apply And.intro))
 all_goals first|omega|rfl|exact hk|trivial
theorem ch106ok:ChOk Tryd.prog G ch106:=by
 intro h cv args r hr hp
 unfold ch106 at hr
 split at hr
 ·rename_i f i n g vs _ _ _ _ _ _ _
  rw[cond_eq_ite]at hr
  split at hr
  ·rename_i hc
   simp only[Bool.and_eq_true]at hc
   cases Nat.eq_of_beq_eq_true hc.1
   cases Nat.eq_of_beq_eq_true hc.2.1
   cases Nat.eq_of_beq_eq_true hc.2.2
   cases hr
   obtain⟨rfl,rfl,hz,hk⟩:=hp
   exact sp106 _ hz hk
  ·cases hr
 ·cases hr
theorem TM54ok:TabOk Tryd.prog G TM54:=tabL_ok ch106ok ⟨ct55,ct104,ct93,ct73,trivial⟩
end Go.Proofs.YtmnaghfndigfkaaDoor.X
