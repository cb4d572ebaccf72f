/-
 Cones: the contracts of overlapping, of the first order, of all orders, as the law has them.
-/
import Derived.Test.YthiammkiobbclaaGreatDoorO17Z
import Derived.Test.YthiammkiobbclaaGreatDoorC11Z
set_option maxRecDepth 1000000
set_option linter.unusedVariables false
set_option linter.unusedSimpArgs false
namespace Go.Proofs.YthiammkiobbclaaGreatDoor.X
open Go Go.Ab

theorem T36ok:TabOk Tryz.prog G T36:=tabL_ok noCh_ok ⟨ctc28,trivial⟩
theorem ctc36:CtOk Tryz.prog G 36 e36c:=by
 intro args r h hp
 unfold e36c at h
 split at h<;>cases h
 rename_i a n _ k m _ u v
 obtain⟨rfl,rfl,hA,u0,u1,v0,v1⟩:=hp
 refine fan_caps (fnP_spec hcm hmx T36ok ok36 rfl (ob_o36c a k u v) ?_)
 dsimp -failIfUnchanged -proj -eta -iota -zeta only[rd,rdw,qs,ql,qx]
 have hl:=okA_len hA
 have hrl:=raysL_len a
 have d1:∀x y:Int,(if y<x then y else x)=mnI x y:=fun _ _=>rfl
 have d2:∀x y:Int,(if y>x then y else x)=mxI x y:=fun _ _=>rfl
 have hlov:lovB (raysL a) u v=(ltb (mnI (gR (raysL a) u) (gR (raysL a) (u+1))) (mxI (gR (raysL a) v) (gR (raysL a) (v+1)))&&ltb (mnI (gR (raysL a) v) (gR (raysL a) (v+1))) (mxI (gR (raysL a) u) (gR (raysL a) (u+1)))):=rfl
 simp only[gR0,d1,d2]
 rw[hlov]
 generalize ltb (mnI (gR (raysL a) u) (gR (raysL a) (u+1))) (mxI (gR (raysL a) v) (gR (raysL a) (v+1)))=b1
 generalize ltb (mnI (gR (raysL a) v) (gR (raysL a) (v+1))) (mxI (gR (raysL a) u) (gR (raysL a) (u+1)))=b2
 simp only[inR_i64,and_true,true_and,leb_iff,ltb_iff,ltn_iff,size_ints,List.length_drop,imp_self]
 refine⟨hA,?_⟩
 repeat' apply And.intro
 all_goals first|omega|(intro _;omega)|trivial|(cases b1<;>rfl)|(cases b1<;>cases b2<;>rfl)
/-! ### The first of the orders that are the same -/
theorem tk_len (o:List Int)(m:Nat):(tkL o m).length=8:=by unfold tkL;rw[List.length_map,List.length_range]
theorem tk_get {o:List Int}{m i:Nat}(h:i<8):(tkL o m).getD i false=memB (o.take m) (i:Int):=by
 unfold tkL
 rw[List.getD_eq_getElem?_getD,List.getElem?_map,List.getElem?_range h];rfl
theorem tk_at {o:List Int}{q i:Nat}(hq:i<(tkL o q).length):(tkL o q)[i]=memB (o.take q) (i:Int):=by simp[tkL]
theorem tk_set {o:List Int}{m:Nat}(hm:m<o.length)(h0:0≤gR o m):(tkL o m).set (gR o m).toNat true=tkL o (m+1):=by
 have e:gR o (m:Int)=o[m]:=by
  unfold gR;rw[Int.toNat_natCast,List.getElem?_eq_getElem hm];rfl
 rw[e]at h0 ⊢
 refine List.ext_getElem (by rw[List.length_set,tk_len,tk_len]) fun i h1 h2=>?_
 rw[List.getElem_set]
 rw[tk_at,tk_at,Bool.eq_iff_iff,memB_true,List.take_add_one,List.getElem?_eq_getElem hm,List.mem_append]
 simp only[Option.toList_some,List.mem_singleton]
 split
 ·rename_i hi
  simp only[true_iff]
  right;omega
 ·rename_i hi
  rw[memB_true]
  constructor
  ·exact .inl
  ·rintro(h|h)
   ·exact h
   ·omega
theorem fst_no {r o:List Int}{m i:Nat}(hm:m<o.length)(hi:(i:Int)<gR o m)(h:okI r o m i=false):fstB r o=false:=by
 unfold fstB okAt
 rw[← Bool.not_eq_true,List.all_eq_true]
 intro hc
 have:=List.all_eq_true.1 (hc m (List.mem_range.2 hm)) i (List.mem_range.2 (by omega))
 rw[h]at this;cases this
theorem fst_yes {r o:List Int}(h:∀j:Nat,j<o.length→okAt r o j=true):fstB r o=true:=by
 unfold fstB
 rw[List.all_eq_true]
 exact fun j hj=>h j (List.mem_range.1 hj)
theorem T15ok:TabOk Tryz.prog G T15:=tabL_ok noCh_ok ⟨ctc36,trivial⟩
theorem ctc15:CtOk Tryz.prog G 15 e15c:=by
 intro args r h hp
 unfold e15c at h
 split at h<;>cases h
 rename_i a n _ k m _ o p _
 obtain⟨rfl,rfl,rfl,hA,hpm⟩:=hp
 refine fan_caps2 (fnP_spec hcm hmx T15ok ok15 rfl (ob_o15c a k o) ?_)
 dsimp -failIfUnchanged -proj -eta -iota -zeta only[rd,rdw,qs,ql,qx]
 have hl:=okA_len hA
 have hol:o.length=a.length:=perm_len hpm
 have hmem:∀x∈o,0≤x∧x<a.length:=fun x hx=>idO_mem.1 (hpm.mem_iff.1 hx)
 have hK:∀m:Nat,m<o.length→0≤gR o m∧gR o m<a.length:=fun m hm=>by
  have e:gR o (m:Int)=o[m]:=by
   unfold gR;rw[Int.toNat_natCast,List.getElem?_eq_getElem hm];rfl
  rw[e];exact hmem _ (List.getElem_mem hm)
 generalize raysL a=r
 simp only[gR0,inR_i64,and_true,true_and,leb_iff,leb_no,ltb_iff,ltb_no,ltn_iff,len'_iff,iI,size_ints,size_bools,List.length_drop,bne,Bool.not_eq_true',Bool.not_eq_false',beq_iff_eq,beq_eq_false_iff_ne,ne_eq,forall_const,true_imp_iff,imp_self]
 refine⟨⟨0,rfl,by omega,rfl,fun j hj=>by omega⟩,?_⟩
 rintro⟨i,t⟩ ⟨m,hi,hm,ht,hok⟩
 replace ht:t=tkL o m:=ht
 simp only at hi ⊢
 subst hi ht
 simp only[Int.toNat_natCast,tk_len]
 refine⟨fun hlt=>?_,fun hge=>(fst_yes fun j hj=>hok j (by omega)).symm⟩
 have hmo:m<o.length:=by omega
 have hk:=hK m hmo
 refine⟨⟨0,rfl,by omega,fun j hj=>by omega⟩,?_⟩
 rintro⟨i⟩ ⟨p,hi,hp,hokp⟩
 simp only at hi ⊢
 subst hi
 simp only[Int.toNat_natCast]
 have nx:okI r o m p=true→(p:Int)<gR o m→((-9223372036854775808≤(p:Int)+1∧(p:Int)+1≤9223372036854775807)∧(∃q:Nat,(p:Int)+1=q∧(q:Int)≤gR o m∧∀j:Nat,j<q→okI r o m j=true)∧(gR o (m:Int)).toNat-((p:Int)+1).toNat<(gR o (m:Int)).toNat-p):=fun h1 h2=>
  ⟨by omega,⟨p+1,by omega,by omega,fun j hj=>by
   by_cases hj':j<p
   ·exact hokp j hj'
   ·rw[show j=p by omega];exact h1⟩,by omega⟩
 refine⟨by omega,by omega,by omega,by omega,fun hlt2=>⟨by omega,by omega,by omega,fun htk=>nx ?_ hlt2,fun htk=>⟨⟨⟨m,rfl,by omega,by omega,rfl⟩,?_⟩,?_⟩⟩,fun hge2=>⟨by omega,by omega,by omega,by omega,by omega,by omega,by omega,by omega,⟨m+1,by omega,by omega,?_,fun j hj=>?_⟩,by omega⟩⟩
 ·rw[tk_get (by omega)]at htk
  unfold okI;rw[htk];rfl
 ·rw[tk_get (by omega)]at htk
  rintro⟨c,f⟩ ⟨t,hc,hmt,hto,hfr⟩
  simp only at hc hfr ⊢
  subst hc
  simp only[Int.toNat_natCast]
  refine⟨fun hlt3=>?_,fun hge3=>?_⟩
  ·have hto':t<o.length:=by omega
   have hx:=hK t hto'
   have e:gR o (t:Int)=o[t]:=by
    unfold gR;rw[Int.toNat_natCast,List.getElem?_eq_getElem hto'];rfl
   have hd:frO r p (o.drop t)=(bif gR o t==(p:Int)then true else(!lovB r (gR o t) p&&frO r p (o.drop (t+1)))):=by
    rw[e,List.drop_eq_getElem_cons hto'];rfl
   rw[hd]at hfr
   refine⟨by omega,by omega,by omega,by omega,fun hne=>?_,fun heq=>?_⟩
   ·rw[beq_false_of_ne hne,cond_false]at hfr
    refine⟨fun _=>by omega,fun _=>by omega,fun _=>by omega,fun _=>by omega,fun _=>⟨hA,by omega,by omega,by omega,by omega⟩,by cases f<;>rfl,by omega,⟨t+1,by omega,by omega,by omega,?_⟩,by omega⟩
    rw[hfr];cases f<;>rfl
   ·rw[heq,beq_self_eq_true,cond_true,Bool.and_true]at hfr
    exact hfr.symm
  ·rw[show o.drop t=[]from List.drop_eq_nil_of_le (by omega)]at hfr
   rw[show frO r p []=true from rfl,Bool.and_true]at hfr
   exact hfr.symm
 ·rw[tk_get (by omega)]at htk
  rintro⟨v⟩ hv
  simp only at hv ⊢
  subst hv
  refine⟨fun h=>?_,fun h=>nx ?_ hlt2⟩
  ·refine(fst_no hmo hlt2 ?_).symm
   unfold okI;rw[htk,h];rfl
  ·unfold okI;rw[htk,h];rfl
 ·exact tk_set hmo hk.1
 ·by_cases hj':j<m
  ·exact hok j hj'
  ·rw[show j=m by omega]
   unfold okAt
   rw[List.all_eq_true]
   exact fun i hi=>hokp i (by have:=List.mem_range.1 hi;omega)
/-! ### All orders -/
theorem unN_oV (L:List (List Int)):unN (oV L)=L:=by
 induction L with
 |nil=>rfl
 |cons x r ih=>
  show x::unN (oV r)=_
  rw[ih]
theorem oV_len (L:List (List Int)):(oV L).length=L.length:=by unfold oV;rw[List.length_map]
theorem oV_app (L:List (List Int))(o:List Int):oV L++[immN .i64 o]=oV (L++[o]):=by unfold oV;rw[List.map_append];rfl
theorem ordR_len (f:Int)(L:List (List Int)):(ordR f L).length=L.length:=by unfold ordR;rw[List.length_map]
theorem flat_len (L:List (List Int)):∀m:Nat,((List.range m).flatMap fun(f:Nat)=>ordR f L).length=m*L.length
 |0=>by simp
 |m+1=>by
  rw[List.range_succ,List.flatMap_append,List.length_append,flat_len L m,Nat.add_mul]
  simp[ordR_len]
theorem ordL_len (n:Nat):(ordL (n+1)).length=(n+1)*(ordL n).length:=flat_len (ordL n) (n+1)
theorem ordL_le:∀n:Nat,n≤6→(ordL n).length≤720
 |0,_=>by decide
 |1,_=>by rw[ordL_len];decide
 |2,_=>by rw[ordL_len,ordL_len];decide
 |3,_=>by rw[ordL_len,ordL_len,ordL_len];decide
 |4,_=>by rw[ordL_len,ordL_len,ordL_len,ordL_len];decide
 |5,_=>by rw[ordL_len,ordL_len,ordL_len,ordL_len,ordL_len];decide
 |6,_=>by rw[ordL_len,ordL_len,ordL_len,ordL_len,ordL_len,ordL_len];decide
theorem ordR_take {f:Int}{L:List (List Int)}{m:Nat}(h:m<L.length):ordR f (L.take (m+1))=ordR f (L.take m)++[f::(L[m]?.getD []).map (upI f)]:=by
 unfold ordR
 rw[List.take_add_one,List.getElem?_eq_getElem h,List.map_append];rfl
theorem ordL_el:∀{n:Nat} {l:List Int},l∈ordL n→l.length=n
 |0,l,h=>by
  unfold ordL at h
  rw[List.mem_singleton.1 h];rfl
 |n+1,l,h=>by
  unfold ordL ordR at h
  obtain⟨f,_,h⟩:=List.mem_flatMap.1 h
  obtain⟨o,ho,rfl⟩:=List.mem_map.1 h
  rw[List.length_cons,List.length_map,ordL_el ho]
theorem ordL_bd:∀{n:Nat} {l:List Int} {x:Int},l∈ordL n→x∈l→0≤x∧x<n
 |0,l,x,h,hx=>by
  unfold ordL at h
  rw[List.mem_singleton.1 h]at hx;cases hx
 |n+1,l,x,h,hx=>by
  unfold ordL ordR at h
  obtain⟨f,hf,h⟩:=List.mem_flatMap.1 h
  obtain⟨o,ho,rfl⟩:=List.mem_map.1 h
  have hf:=List.mem_range.1 hf
  rcases List.mem_cons.1 hx with rfl|hx
  ·omega
  ·obtain⟨y,hy,rfl⟩:=List.mem_map.1 hx
   have:=ordL_bd ho hy
   unfold upI
   split<;>omega
theorem retW {f:Nat}{args:List AV}{c:Cont}{n:Nat}{cap:Option Nat}{v:AV}(h:SpecP Tryz.prog G f args (.imm c n cap) [])(hr:∀w F x,RelI w F (.imm c n cap) x→RelI w F v x):SpecP Tryz.prog G f args v []:=
 fun F w vs hm hv=>NextOk.mono (h F w vs hm hv) fun y w' ⟨F',ρ',q1,q2,q3⟩=>⟨F',ρ',q1,q2,by
  cases q3 with
  |imm _ _ hi=>exact .imm _ _ (hr _ _ _ hi)⟩
theorem vals1 {w:World}{F:Nat→Prop}{x:Value}{l:List Int}{c:Option Nat}(h:RelI w F (.imm (.vals [immL .i64 l]) 1 c) x):RelI w F (.imm (.vals [immN .i64 l]) 1 none) x:=by
 cases h with
 |imm _ _ _ b o cap' xs hF hc hr ho hl hcap=>
  refine .imm _ _ _ b o cap' xs hF hc (fun i hi=>?_) ho hl (fun n e=>by cases e)
  have hi':i<1:=hi
  have:i=0:=by omega
  subst this
  exact(hr 0 (show 0<(Cont.vals [immL .i64 l]).size from Nat.zero_lt_one)).caps
theorem sp12_0:SpecP Tryz.prog G 12 [.int .i64 0] (.imm (.vals (oV (ordL 0))) (ordL 0).length none) []:=
 retW (fnP_spec hcm hmx T0ok ok12 rfl ob_o12z (by simp)) fun w F x h=>vals1 h
theorem sp12_s {q:Nat}(hq:q≤5)(h:SpecP Tryz.prog G 12 [.int .i64 (q:Int)] (.imm (.vals (oV (ordL q))) (ordL q).length none) []):SpecP Tryz.prog G 12 [.int .i64 ((q+1:Nat):Int)] (.imm (.vals (oV (ordL (q+1)))) (ordL (q+1)).length none) []:=by
 have hT:TabOk Tryz.prog G (T12 q):=tabL_ok noCh_ok ⟨fun args r h' hp=>by
  unfold e12q at h'
  split at h'<;>cases h'
  have hp:_=(q:Int):=hp
  subst hp
  exact h,trivial⟩
 refine fnP_spec hcm hmx hT ok12 rfl (ob_o12n q ((q+1:Nat):Int)) ?_
 dsimp -failIfUnchanged -proj -eta -iota -zeta only[rd,rdw,qs,ql,qx]
 have h7:=ordL_le q (by omega)
 have h8:(q+1)*(ordL q).length≤6*720:=Nat.mul_le_mul (by omega) h7
 have hR:∀m,List.range.loop m []=List.range m:=fun m=>rfl
 simp only[hR,unN_oV,oV_len,gR0,inR_i64,and_true,true_and,leb_iff,leb_no,ltb_iff,ltb_no,ltn_iff,len'_iff,iI,size_ints,size_vals,List.length_drop,beq_eq_false_iff_ne,ne_eq,forall_const,true_imp_iff]
 refine⟨by omega,by omega,by omega,⟨0,rfl,by omega,rfl⟩,?_⟩
 rintro⟨i,L⟩ ⟨f,hi,hf,hL⟩
 simp only at hi hL ⊢
 subst hi
 simp only[Int.toNat_natCast]
 have hLl:L.length=f*(ordL q).length:=by rw[hL];exact flat_len (ordL q) f
 refine⟨fun hlt=>⟨⟨0,rfl,by omega,by rw[hL,List.take_zero];simp[ordR]⟩,?_⟩,fun hge=>?_⟩
 ·have hfl:f*(ordL q).length≤5*720:=Nat.mul_le_mul (by omega) h7
  rintro⟨i,M⟩ ⟨m,hi,hm,hM⟩
  simp only at hi hM ⊢
  subst hi
  simp only[Int.toNat_natCast]
  have hMl:M.length=f*(ordL q).length+m:=by rw[hM,List.length_append,flat_len,ordR_len,List.length_take];omega
  refine⟨fun hlt2=>⟨⟨0,rfl,by omega,by simp⟩,?_⟩,fun hge2=>?_⟩
  ·have hmq:m<(ordL q).length:=by omega
   have hoN:oN q (m:Int)=(ordL q)[m]:=by
    unfold oN;rw[Int.toNat_natCast,List.getElem?_eq_getElem hmq];rfl
   have hget:(List.drop m (oV (ordL q)))[0]? =some (AV.imm (Cont.ints .i64 (oN q m)) (oN q m).length none):=by
    rw[List.getElem?_drop,Nat.add_zero]
    unfold oV
    rw[List.getElem?_map,List.getElem?_eq_getElem hmq,hoN];rfl
   have hoL:(oN q (m:Int)).length=q:=by
    rw[hoN];exact ordL_el (List.getElem_mem hmq)
   have hoB:∀t:Nat,t<q→0≤gR (oN q m) t∧gR (oN q m) t<q:=fun t ht=>by
    have e:gR (oN q m) (t:Int)=(oN q m)[t]'(by omega):=by
     unfold gR;rw[Int.toNat_natCast,List.getElem?_eq_getElem (by omega)];rfl
    rw[e]
    exact ordL_bd (List.getElem_mem hmq) (hoN▸List.getElem_mem _)
   rintro⟨k,o⟩ ⟨t,hk,ht,ho⟩
   simp only at hk ho ⊢
   subst hk
   simp only[Int.toNat_natCast]
   have hol:o.length=t+1:=by rw[ho,List.length_cons,List.length_map,List.length_take];omega
   refine⟨by omega,by omega,by omega,hget,fun hlt3=>?_,fun hge3=>?_⟩
   ·have hb:=hoB t (by omega)
    refine⟨by omega,by omega,by omega,hget,by omega,by omega,by omega,by omega,⟨fun h=>⟨by omega,by unfold upI;rw[if_pos h]⟩,fun h=>by unfold upI;rw[if_neg (by omega)]⟩,?_⟩
    rintro⟨v⟩ hv
    simp only at hv ⊢
    subst hv
    refine⟨by omega,by omega,by rw[List.length_append];rfl,by rw[List.length_append];rfl,⟨t+1,by omega,by omega,?_⟩,by omega⟩
    have e:gR (oN q m) (t:Int)=(oN q m)[t]'(by omega):=by
     unfold gR;rw[Int.toNat_natCast,List.getElem?_eq_getElem (by omega)];rfl
    rw[ho,e,List.take_add_one,List.getElem?_eq_getElem (by omega),List.map_append]
    rfl
   ·have ho2:o=(f:Int)::(oN q m).map (upI f):=by rw[ho,List.take_of_length_le (by omega)]
    have ea:oV M++[AV.imm (Cont.ints .i64 o) o.length none]=oV (M++[o]):=oV_app M o
    rw[ea]
    simp only[unN_oV,List.length_append,List.length_cons,List.length_nil]
    refine⟨by omega,by omega,trivial,trivial,trivial,⟨m+1,by omega,by omega,?_⟩,by omega⟩
    rw[hM,ordR_take hmq,ho2,List.append_assoc];rfl
  ·have hme:m=(ordL q).length:=by omega
   subst hme
   refine⟨by omega,⟨f+1,by omega,by omega,?_⟩,by omega⟩
   rw[hM,List.take_of_length_le (Nat.le_refl _),List.range_succ,List.flatMap_append]
   simp
 ·have hfe:f=q+1:=by omega
  subst hfe
  rw[hL]
  exact⟨rfl,rfl⟩
theorem ctc12:∀q:Nat,q≤6→SpecP Tryz.prog G 12 [.int .i64 (q:Int)] (.imm (.vals (oV (ordL q))) (ordL q).length none) []
 |0,_=>sp12_0
 |q+1,h=>sp12_s (by omega) (ctc12 q (by omega))
end Go.Proofs.YthiammkiobbclaaGreatDoor.X
