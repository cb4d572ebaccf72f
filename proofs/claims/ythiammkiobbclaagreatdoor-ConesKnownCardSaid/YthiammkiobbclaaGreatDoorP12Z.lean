/-
 Cones: the contracts of overlapping, of the first order, of all orders, as the law has them.
-/
import Derived.Test.YthiammkiobbclaaGreatDoorO17Z
import Derived.Test.YthiammkiobbclaaGreatDoorP7Z
set_option maxRecDepth 1000000
set_option linter.unusedVariables false
set_option linter.unusedSimpArgs false
namespace Go.Proofs.YthiammkiobbclaaGreatDoor.X
open Go Go.Ab
theorem D1V:TabOk Tryz.prog G T36:=A0q A0C ⟨B9F,trivial⟩
theorem D1W:A1j Tryz.prog G 36 D1R:=by
 intro args r h hp;unfold D1R at h;split at h<;>cases h;rename_i a n _ k m _ u v;obtain⟨rfl,rfl,hA,u0,u1,v0,v1⟩:=hp;refine A1O (A0e hcm hmx D1V D21 rfl (C3J a k u v) ?_);dsimp -failIfUnchanged -proj -eta -iota -zeta only[rd,rdw,qs,ql,qx];have hl:=A2k hA;have hrl:=A1W a;have d1:∀x y:Int,(if y<x then y else x)=mnI x y:=fun _ _=>rfl;have d2:∀x y:Int,(if y>x then y else x)=mxI x y:=fun _ _=>rfl;have hlov:B7Y (A0b a) u v=(ltb (mnI (gR (A0b a) u) (gR (A0b a) (u+1))) (mxI (gR (A0b a) v) (gR (A0b a) (v+1)))&&ltb (mnI (gR (A0b a) v) (gR (A0b a) (v+1))) (mxI (gR (A0b a) u) (gR (A0b a) (u+1)))):=rfl;simp only[gR0,d1,d2];rw[hlov];generalize ltb (mnI (gR (A0b a) u) (gR (A0b a) (u+1))) (mxI (gR (A0b a) v) (gR (A0b a) (v+1)))=b1;generalize ltb (mnI (gR (A0b a) v) (gR (A0b a) (v+1))) (mxI (gR (A0b a) u) (gR (A0b a) (u+1)))=b2;simp only[A0p,and_true,true_and,A0k,A0h,A0u,A0i,List.length_drop,imp_self];refine⟨hA,?_⟩
 repeat' apply And.intro
 all_goals first|omega|(intro _;omega)|trivial|(cases b1<;>rfl)|(cases b1<;>cases b2<;>rfl)
theorem B7Z (o:List Int)(m:Nat):(tkL o m).length=8:=by unfold tkL;rw[List.length_map,List.length_range]
theorem B70 {o:List Int}{m i:Nat}(h:i<8):(tkL o m).getD i false=A1q (o.take m) (i:Int):=by
 unfold tkL;rw[List.getD_eq_getElem?_getD,List.getElem?_map,List.getElem?_range h];rfl
theorem C6U {o:List Int}{q i:Nat}(hq:i<(tkL o q).length):(tkL o q)[i]=A1q (o.take q) (i:Int):=by simp[tkL]
theorem C6V {o:List Int}{m:Nat}(hm:m<o.length)(h0:0<=gR o m):(tkL o m).set (gR o m).toNat true=tkL o (m+1):=by
 have e:gR o (m:Int)=o[m]:=by
  unfold gR;rw[Int.toNat_natCast,List.getElem?_eq_getElem hm];rfl
 rw[e]at h0 ⊢;refine List.ext_getElem (by rw[List.length_set,B7Z,B7Z]) fun i h1 h2=>?_;rw[List.getElem_set];rw[C6U,C6U,Bool.eq_iff_iff,A1B,List.take_add_one,List.getElem?_eq_getElem hm,List.mem_append];simp only[Option.toList_some,List.mem_singleton];split
 ·rename_i hi;simp only[true_iff];right;omega
 ·rename_i hi;rw[A1B];constructor
  ·exact .inl
  ·rintro(h|h)
   ·exact h
   ·omega
theorem C6W {r o:List Int}{m i:Nat}(hm:m<o.length)(hi:(i:Int)<gR o m)(h:okI r o m i=false):B5m r o=false:=by
 unfold B5m B9W;rw[<- Bool.not_eq_true,List.all_eq_true];intro hc;have:=List.all_eq_true.1 (hc m (List.mem_range.2 hm)) i (List.mem_range.2 (by omega));rw[h]at this;cases this
theorem C3N {r o:List Int}(h:∀j:Nat,j<o.length->B9W r o j=true):B5m r o=true:=by
 unfold B5m;rw[List.all_eq_true];exact fun j hj=>h j (List.mem_range.1 hj)
theorem D1X:TabOk Tryz.prog G T15:=A0q A0C ⟨D1W,trivial⟩
theorem D1Y:A1j Tryz.prog G 15 D1S:=by
 intro args r h hp;unfold D1S at h;split at h<;>cases h;rename_i a n _ k m _ o p _;obtain⟨rfl,rfl,rfl,hA,hpm⟩:=hp;refine A3h (A0e hcm hmx D1X D2o rfl (C3K a k o) ?_);dsimp -failIfUnchanged -proj -eta -iota -zeta only[rd,rdw,qs,ql,qx];have hl:=A2k hA;have hol:o.length=a.length:=A0K hpm;have hmem:∀x∈o,0<=x/\x<a.length:=fun x hx=>A1S.1 (hpm.mem_iff.1 hx);have hK:∀m:Nat,m<o.length->0<=gR o m/\gR o m<a.length:=fun m hm=>by
  have e:gR o (m:Int)=o[m]:=by
   unfold gR;rw[Int.toNat_natCast,List.getElem?_eq_getElem hm];rfl
  rw[e];exact hmem _ (List.getElem_mem hm)
 generalize A0b a=r;simp only[gR0,A0p,and_true,true_and,A0k,A0M,A0h,A0x,A0u,A0t,iI,A0i,A0F,List.length_drop,bne,Bool.not_eq_true',Bool.not_eq_false',beq_iff_eq,beq_eq_false_iff_ne,ne_eq,forall_const,true_imp_iff,imp_self];refine⟨⟨0,rfl,by omega,rfl,fun j hj=>by omega⟩,?_⟩;rintro⟨i,t⟩ ⟨m,hi,hm,ht,hok⟩
 replace ht:t=tkL o m:=ht
 simp only at hi ⊢;subst hi ht;simp only[Int.toNat_natCast,B7Z];refine⟨fun hlt=>?_,fun hge=>(C3N fun j hj=>hok j (by omega)).symm⟩;have hmo:m<o.length:=by omega
 have hk:=hK m hmo;refine⟨⟨0,rfl,by omega,fun j hj=>by omega⟩,?_⟩;rintro⟨i⟩ ⟨p,hi,hp,hokp⟩;simp only at hi ⊢;subst hi;simp only[Int.toNat_natCast];have nx:okI r o m p=true->(p:Int)<gR o m->((-9223372036854775808<=(p:Int)+1/\(p:Int)+1<=9223372036854775807)/\(∃q:Nat,(p:Int)+1=q/\(q:Int)<=gR o m/\∀j:Nat,j<q->okI r o m j=true)/\(gR o (m:Int)).toNat-((p:Int)+1).toNat<(gR o (m:Int)).toNat-p):=fun h1 h2=>
  ⟨by omega,⟨p+1,by omega,by omega,fun j hj=>by
   by_cases hj':j<p
   ·exact hokp j hj'
   ·rw[show j=p by omega];exact h1⟩,by omega⟩
 refine⟨by omega,by omega,by omega,by omega,fun hlt2=>⟨by omega,by omega,by omega,fun htk=>nx ?_ hlt2,fun htk=>⟨⟨⟨m,rfl,by omega,by omega,rfl⟩,?_⟩,?_⟩⟩,fun hge2=>⟨by omega,by omega,by omega,by omega,by omega,by omega,by omega,by omega,⟨m+1,by omega,by omega,?_,fun j hj=>?_⟩,by omega⟩⟩
 ·rw[B70 (by omega)]at htk;unfold okI;rw[htk];rfl
 ·rw[B70 (by omega)]at htk;rintro⟨c,f⟩ ⟨t,hc,hmt,hto,hfr⟩;simp only at hc hfr ⊢;subst hc;simp only[Int.toNat_natCast];refine⟨fun hlt3=>?_,fun hge3=>?_⟩
  ·have hto':t<o.length:=by omega
   have hx:=hK t hto';have e:gR o (t:Int)=o[t]:=by
    unfold gR;rw[Int.toNat_natCast,List.getElem?_eq_getElem hto'];rfl
   have hd:frO r p (o.drop t)=(bif gR o t==(p:Int)then true else(!B7Y r (gR o t) p&&frO r p (o.drop (t+1)))):=by
    rw[e,List.drop_eq_getElem_cons hto'];rfl
   rw[hd]at hfr;refine⟨by omega,by omega,by omega,by omega,fun hne=>?_,fun heq=>?_⟩
   ·rw[beq_false_of_ne hne,cond_false]at hfr;refine⟨fun _=>by omega,fun _=>by omega,fun _=>by omega,fun _=>by omega,fun _=>⟨hA,by omega,by omega,by omega,by omega⟩,by cases f<;>rfl,by omega,⟨t+1,by omega,by omega,by omega,?_⟩,by omega⟩;rw[hfr];cases f<;>rfl
   ·rw[heq,beq_self_eq_true,cond_true,Bool.and_true]at hfr;exact hfr.symm
  ·rw[show o.drop t=[]from List.drop_eq_nil_of_le (by omega)]at hfr;rw[show frO r p []=true from rfl,Bool.and_true]at hfr;exact hfr.symm
 ·rw[B70 (by omega)]at htk;rintro⟨v⟩ hv;simp only at hv ⊢;subst hv;refine⟨fun h=>?_,fun h=>nx ?_ hlt2⟩
  ·refine(C6W hmo hlt2 ?_).symm;unfold okI;rw[htk,h];rfl
  ·unfold okI;rw[htk,h];rfl
 ·exact C6V hmo hk.1
 ·by_cases hj':j<m
  ·exact hok j hj'
  ·rw[show j=m by omega];unfold B9W;rw[List.all_eq_true];exact fun i hi=>hokp i (by have:=List.mem_range.1 hi;omega)
theorem C0S (L:List (List Int)):unN (oV L)=L:=by
 induction L with
 |nil=>rfl
 |cons x r ih=>
  show x::unN (oV r)=_;rw[ih]
theorem C0T (L:List (List Int)):(oV L).length=L.length:=by unfold oV;rw[List.length_map]
theorem C6X (L:List (List Int))(o:List Int):oV L++[A3X .i64 o]=oV (L++[o]):=by unfold oV;rw[List.map_append];rfl
theorem B4t (f:Int)(L:List (List Int)):(A5G f L).length=L.length:=by unfold A5G;rw[List.length_map]
theorem flat_len (L:List (List Int)):∀m:Nat,((List.range m).flatMap fun(f:Nat)=>A5G f L).length=m*L.length
 |0=>by simp
 |m+1=>by
  rw[List.range_succ,List.flatMap_append,List.length_append,flat_len L m,Nat.add_mul];simp[B4t]
theorem A0W (n:Nat):(A0V (n+1)).length=(n+1)*(A0V n).length:=flat_len (A0V n) (n+1)
theorem B71:∀n:Nat,n<=6->(A0V n).length<=720
 |0,_=>by decide
 |1,_=>by rw[A0W];decide
 |2,_=>by rw[A0W,A0W];decide
 |3,_=>by rw[A0W,A0W,A0W];decide
 |4,_=>by rw[A0W,A0W,A0W,A0W];decide
 |5,_=>by rw[A0W,A0W,A0W,A0W,A0W];decide
 |6,_=>by rw[A0W,A0W,A0W,A0W,A0W,A0W];decide
theorem B72 {f:Int}{L:List (List Int)}{m:Nat}(h:m<L.length):A5G f (L.take (m+1))=A5G f (L.take m)++[f::(L[m]?.getD []).map (upI f)]:=by
 unfold A5G;rw[List.take_add_one,List.getElem?_eq_getElem h,List.map_append];rfl
theorem B2P:∀{n:Nat} {l:List Int},l∈A0V n->l.length=n
 |0,l,h=>by
  unfold A0V at h;rw[List.mem_singleton.1 h];rfl
 |n+1,l,h=>by
  unfold A0V A5G at h;obtain⟨f,_,h⟩:=List.mem_flatMap.1 h;obtain⟨o,ho,rfl⟩:=List.mem_map.1 h;rw[List.length_cons,List.length_map,B2P ho]
theorem B73:∀{n:Nat} {l:List Int} {x:Int},l∈A0V n->x∈l->0<=x/\x<n
 |0,l,x,h,hx=>by
  unfold A0V at h;rw[List.mem_singleton.1 h]at hx;cases hx
 |n+1,l,x,h,hx=>by
  unfold A0V A5G at h;obtain⟨f,hf,h⟩:=List.mem_flatMap.1 h;obtain⟨o,ho,rfl⟩:=List.mem_map.1 h;have hf:=List.mem_range.1 hf;rcases List.mem_cons.1 hx with rfl|hx
  ·omega
  ·obtain⟨y,hy,rfl⟩:=List.mem_map.1 hx;have:=B73 ho hy;unfold upI;split<;>omega
theorem D7I {f:Nat}{args:List AV}{c:Cont}{n:Nat}{cap:Option Nat}{v:AV}(h:SpecP Tryz.prog G f args (.imm c n cap) [])(hr:∀w F x,RelI w F (.imm c n cap) x->RelI w F v x):SpecP Tryz.prog G f args v []:=
 fun F w vs hm hv=>A4a.mono (h F w vs hm hv) fun y w' ⟨F',ρ',q1,q2,q3⟩=>⟨F',ρ',q1,q2,by
  cases q3 with
  |imm _ _ hi=>exact .imm _ _ (hr _ _ _ hi)⟩
theorem D1Z {w:World}{F:Nat->Prop}{x:Value}{l:List Int}{c:Option Nat}(h:RelI w F (.imm (.vals [A10 .i64 l]) 1 c) x):RelI w F (.imm (.vals [A3X .i64 l]) 1 none) x:=by
 cases h with
 |imm _ _ _ b o cap' xs hF hc hr ho hl hcap=>
  refine .imm _ _ _ b o cap' xs hF hc (fun i hi=>?_) ho hl (fun n e=>by cases e);have hi':i<1:=hi;have:i=0:=by omega
  subst this;exact(hr 0 (show 0<(Cont.vals [A10 .i64 l]).size from Nat.zero_lt_one)).caps
theorem C6Y:SpecP Tryz.prog G 12 [.int .i64 0] (.imm (.vals (oV (A0V 0))) (A0V 0).length none) []:=
 D7I (A0e hcm hmx A3w C8Q rfl C3M (by simp)) fun w F x h=>D1Z h
theorem C6Z {q:Nat}(hq:q<=5)(h:SpecP Tryz.prog G 12 [.int .i64 (q:Int)] (.imm (.vals (oV (A0V q))) (A0V q).length none) []):SpecP Tryz.prog G 12 [.int .i64 ((q+1:Nat):Int)] (.imm (.vals (oV (A0V (q+1)))) (A0V (q+1)).length none) []:=by
 have hT:TabOk Tryz.prog G (T12 q):=A0q A0C ⟨fun args r h' hp=>by
  unfold D5q at h';split at h'<;>cases h';have hp:_=(q:Int):=hp;subst hp;exact h,trivial⟩
 refine A0e hcm hmx hT C8Q rfl (C3L q ((q+1:Nat):Int)) ?_;dsimp -failIfUnchanged -proj -eta -iota -zeta only[rd,rdw,qs,ql,qx];have h7:=B71 q (by omega);have h8:(q+1)*(A0V q).length<=6*720:=Nat.mul_le_mul (by omega) h7;have hR:∀m,List.range.loop m []=List.range m:=fun m=>rfl;simp only[hR,C0S,C0T,gR0,A0p,and_true,true_and,A0k,A0M,A0h,A0x,A0u,A0t,iI,A0i,A0y,List.length_drop,beq_eq_false_iff_ne,ne_eq,forall_const,true_imp_iff];refine⟨by omega,by omega,by omega,⟨0,rfl,by omega,rfl⟩,?_⟩;rintro⟨i,L⟩ ⟨f,hi,hf,hL⟩;simp only at hi hL ⊢;subst hi;simp only[Int.toNat_natCast];have hLl:L.length=f*(A0V q).length:=by rw[hL];exact flat_len (A0V q) f
 refine⟨fun hlt=>⟨⟨0,rfl,by omega,by rw[hL,List.take_zero];simp[A5G]⟩,?_⟩,fun hge=>?_⟩
 ·have hfl:f*(A0V q).length<=5*720:=Nat.mul_le_mul (by omega) h7;rintro⟨i,M⟩ ⟨m,hi,hm,hM⟩;simp only at hi hM ⊢;subst hi;simp only[Int.toNat_natCast];have hMl:M.length=f*(A0V q).length+m:=by rw[hM,List.length_append,flat_len,B4t,List.length_take];omega
  refine⟨fun hlt2=>⟨⟨0,rfl,by omega,by simp⟩,?_⟩,fun hge2=>?_⟩
  ·have hmq:m<(A0V q).length:=by omega
   have hoN:oN q (m:Int)=(A0V q)[m]:=by
    unfold oN;rw[Int.toNat_natCast,List.getElem?_eq_getElem hmq];rfl
   have hget:(List.drop m (oV (A0V q)))[0]? =some (AV.imm (Cont.ints .i64 (oN q m)) (oN q m).length none):=by
    rw[List.getElem?_drop,Nat.add_zero];unfold oV;rw[List.getElem?_map,List.getElem?_eq_getElem hmq,hoN];rfl
   have hoL:(oN q (m:Int)).length=q:=by
    rw[hoN];exact B2P (List.getElem_mem hmq)
   have hoB:∀t:Nat,t<q->0<=gR (oN q m) t/\gR (oN q m) t<q:=fun t ht=>by
    have e:gR (oN q m) (t:Int)=(oN q m)[t]'(by omega):=by
     unfold gR;rw[Int.toNat_natCast,List.getElem?_eq_getElem (by omega)];rfl
    rw[e];exact B73 (List.getElem_mem hmq) (hoN▸List.getElem_mem _)
   rintro⟨k,o⟩ ⟨t,hk,ht,ho⟩;simp only at hk ho ⊢;subst hk;simp only[Int.toNat_natCast];have hol:o.length=t+1:=by rw[ho,List.length_cons,List.length_map,List.length_take];omega
   refine⟨by omega,by omega,by omega,hget,fun hlt3=>?_,fun hge3=>?_⟩
   ·have hb:=hoB t (by omega);refine⟨by omega,by omega,by omega,hget,by omega,by omega,by omega,by omega,⟨fun h=>⟨by omega,by unfold upI;rw[if_pos h]⟩,fun h=>by unfold upI;rw[if_neg (by omega)]⟩,?_⟩;rintro⟨v⟩ hv;simp only at hv ⊢;subst hv;refine⟨by omega,by omega,by rw[List.length_append];rfl,by rw[List.length_append];rfl,⟨t+1,by omega,by omega,?_⟩,by omega⟩;have e:gR (oN q m) (t:Int)=(oN q m)[t]'(by omega):=by
     unfold gR;rw[Int.toNat_natCast,List.getElem?_eq_getElem (by omega)];rfl
    rw[ho,e,List.take_add_one,List.getElem?_eq_getElem (by omega),List.map_append];rfl
   ·have ho2:o=(f:Int)::(oN q m).map (upI f):=by rw[ho,List.take_of_length_le (by omega)]
    have ea:oV M++[AV.imm (Cont.ints .i64 o) o.length none]=oV (M++[o]):=C6X M o;rw[ea];simp only[C0S,List.length_append,List.length_cons,List.length_nil];refine⟨by omega,by omega,trivial,trivial,trivial,⟨m+1,by omega,by omega,?_⟩,by omega⟩;rw[hM,B72 hmq,ho2,List.append_assoc];rfl
  ·have hme:m=(A0V q).length:=by omega
   subst hme;refine⟨by omega,⟨f+1,by omega,by omega,?_⟩,by omega⟩;rw[hM,List.take_of_length_le (Nat.le_refl _),List.range_succ,List.flatMap_append];simp
 ·have hfe:f=q+1:=by omega
  subst hfe;rw[hL];exact⟨rfl,rfl⟩
theorem C60:∀q:Nat,q<=6->SpecP Tryz.prog G 12 [.int .i64 (q:Int)] (.imm (.vals (oV (A0V q))) (A0V q).length none) []
 |0,_=>C6Y
 |q+1,h=>C6Z (by omega) (C60 q (by omega))
theorem B9Y {f x y:Int}:upI f x<upI f y↔x<y:=by
 unfold upI;split<;>split<;>omega
theorem C61 (f x:Int):upI f x≠f:=by unfold upI;split<;>omega
theorem B74 {f:Int}:∀(x y:List Int),A2l (x.map (upI f)) (y.map (upI f))<0↔A2l x y<0
 |[],[]=>Iff.rfl
 |[],_::_=>by simp[A2l]
 |_::_,[]=>by simp[A2l]
 |a::x,b::y=>by
  rw[List.map_cons,List.map_cons,A3Y,A3Y,B74 x y,B9Y];have:upI f a=upI f b↔a=b:=by unfold upI;split<;>split<;>omega
  rw[this]
theorem C0U {f x:Int}:dnI f (upI f x)=x:=by unfold dnI upI;split<;>split<;>omega
theorem B75 {f x:Int}(h:x≠f):upI f (dnI f x)=x:=by unfold dnI upI;split<;>split<;>omega
theorem B4u:∀n:Nat,(A0V n).Pairwise fun y z=>A2l y z<0
 |0=>List.pairwise_singleton ..
 |n+1=>by
  have ih:=B4u n;unfold A0V;rw[List.pairwise_flatMap];refine⟨fun f _=>?_,?_⟩
  ·unfold A5G;rw[List.pairwise_map];refine ih.imp fun{x y} h=>?_;rw[A3Y];exact .inr ⟨rfl,(B74 x y).2 h⟩
  ·refine List.pairwise_lt_range.imp fun{f g} h x hx y hy=>?_;unfold A5G at hx hy;obtain⟨x',_,rfl⟩:=List.mem_map.1 hx;obtain⟨y',_,rfl⟩:=List.mem_map.1 hy;rw[A3Y];left;omega
theorem A7z {n:Nat}{l:List Int}(hN:l.Nodup)(hm:∀x∈l,0<=x/\x<n)(hl:l.length=n):l.Perm (idO n):=by
 have:=A6c l (idO n) hN (fun x hx=>A1S.2 (hm x hx)) (by rw[A4w,hl]);exact this.symm
theorem A3z {f:Int->Int}:∀(l:List Int),l.Nodup->(∀x∈l,∀y∈l,f x=f y->x=y)->(l.map f).Nodup
 |[],_,_=>List.nodup_nil
 |x::L,h,hf=>by
  obtain⟨h1,h2⟩:=List.nodup_cons.1 h;rw[List.map_cons];refine List.nodup_cons.2 ⟨fun hm=>?_,A3z L h2 fun y hy z hz=>hf y (List.mem_cons_of_mem _ hy) z (List.mem_cons_of_mem _ hz)⟩;obtain⟨y,hy,hy2⟩:=List.mem_map.1 hm;rw[hf y (List.mem_cons_of_mem _ hy) x (List.mem_cons_self ..) hy2]at hy;exact h1 hy
theorem A6g:∀(n:Nat) (l:List Int),l∈A0V n↔l.Perm (idO n)
 |0,l=>by
  unfold A0V;rw[List.mem_singleton];constructor
  ·rintro rfl;exact List.Perm.refl _
  ·intro h;exact List.length_eq_zero_iff.1 (A0K h)
 |n+1,l=>by
  unfold A0V;rw[List.mem_flatMap];constructor
  ·rintro⟨f,hf,hl⟩;have hf:=List.mem_range.1 hf;unfold A5G at hl;obtain⟨o,ho,rfl⟩:=List.mem_map.1 hl;have hp:=(A6g n o).1 ho;refine A7z (List.nodup_cons.2 ⟨fun h=>?_,A3z _ (A1p hp) fun x _ y _ e=>?_⟩) (fun x hx=>?_) (by rw[List.length_cons,List.length_map,A0K hp])
   ·obtain⟨y,_,e⟩:=List.mem_map.1 h;exact C61 _ _ e
   ·have:=congrArg (dnI (f:Int)) e
    rwa [C0U,C0U]at this
   ·rcases List.mem_cons.1 hx with rfl|hx
    ·omega
    ·obtain⟨y,hy,rfl⟩:=List.mem_map.1 hx;have:=A1S.1 (hp.mem_iff.1 hy);unfold upI;split<;>omega
  ·intro h
   match l,h with
   |[],h=>have:=A0K h;simp at this
   |x::o,h=>
    have hN:=A1p h;obtain⟨n1,n2⟩:=List.nodup_cons.1 hN;have hm:∀y∈x::o,0<=y/\y<((n+1:Nat):Int):=fun y hy=>A1S.1 (h.mem_iff.1 hy);have hx:=hm x (List.mem_cons_self ..);refine⟨x.toNat,List.mem_range.2 (by omega),?_⟩;unfold A5G;rw[show((x.toNat:Nat):Int)=x by omega];have hne:∀y∈o,y≠x:=fun y hy e=>n1 (by rw[<- e];exact hy);refine List.mem_map.2 ⟨o.map (dnI x),(A6g n _).2 (A7z (A3z _ n2 fun y hy z hz e=>?_) (fun y hy=>?_) ?_),?_⟩
    ·have:=congrArg (upI x) e
     rwa [B75 (hne y hy),B75 (hne z hz)]at this
    ·obtain⟨z,hz,rfl⟩:=List.mem_map.1 hy;have h1:=hm z (List.mem_cons_of_mem _ hz);have h2:=hne z hz;unfold dnI;split<;>omega
    ·have:=A0K h;rw[List.length_map];simpa using this
    ·rw[List.map_map]
     congr 1
     conv=>rhs;rw[<- List.map_id o]
     exact List.map_congr_left fun y hy=>B75 (hne y hy)
theorem C0V {n:Nat}{r:List Int}(A:Alt n r){u v:Int}(u0:0<=u)(u1:u<n)(v0:0<=v)(v1:v<n):B7Y r u v=ovlB r u v:=by
 have hu:=A.rise u0 u1;have hv:=A.rise v0 v1;rw[Bool.eq_iff_iff];unfold B7Y ovlB;rw[Bool.and_eq_true,A0h,A0h,A0h];have h1:mnI (gR r u) (gR r (u+1))<mxI (gR r u) (gR r (u+1)):=mnx _ _ (by omega);have h2:mnI (gR r v) (gR r (v+1))<mxI (gR r v) (gR r (v+1)):=mnx _ _ (by omega);generalize mnI (gR r u) (gR r (u+1))=a at*;generalize mxI (gR r u) (gR r (u+1))=b at*;generalize mnI (gR r v) (gR r (v+1))=c at*;generalize mxI (gR r v) (gR r (v+1))=d at*;unfold mxI mnI;split<;>split<;>omega
theorem B76 {r:List Int}{i:Int}:∀(l:List Int),frO r i l=false↔∃s x t,l=s++x::t/\i∉s++[x]/\B7Y r x i=true
 |[]=>by
  unfold frO;constructor
  ·intro h;cases h
  ·rintro⟨s,x,t,h,_⟩;cases s<;>cases h
 |y::l=>by
  have ih:=B76 (r:=r) (i:=i) l;unfold frO;cases hy:y==i with
  |true=>
   have hy:=beq_iff_eq.1 hy;rw[cond_true];constructor
   ·intro h;cases h
   ·rintro⟨s,x,t,h,h2,_⟩;cases s with
    |nil=>cases h;exact absurd (by simp[hy]) h2
    |cons z s=>cases h;exact absurd (by simp[hy]) h2
  |false=>
   have hy:=beq_eq_false_iff_ne.1 hy;rw[cond_false,Bool.and_eq_false_iff,Bool.not_eq_false',ih];constructor
   ·rintro(h|⟨s,x,t,rfl,h2,h3⟩)
    ·exact⟨[],y,l,rfl,by simpa using Ne.symm hy,h⟩
    ·exact⟨y::s,x,t,rfl,by simpa using⟨Ne.symm hy,by simpa using h2⟩,h3⟩
   ·rintro⟨s,x,t,h,h2,h3⟩;cases s with
    |nil=>cases h;exact .inl h3
    |cons z s=>
     cases h;exact .inr ⟨s,x,t,rfl,fun h=>h2 (List.mem_cons_of_mem _ h),h3⟩
theorem C62 {n m:Nat}{r o:List Int}{i:Int}(A:Alt n r)(hn:n<=8)(ho:o.Perm (idO n))(i0:0<=i)(i1:i<n)(hi:i∉o.take m):
  frO r i (o.drop m)=false↔∃k:Nat,k<n/\¬ ((k:Int)∈o.take m\/gR (rkF o) i<=gR (rkF o) k\/ovlB r i k=false):=by
 obtain⟨R1,R2⟩:=A2Y hn ho;rw[A3F]at R1 R2;have hN:=A1p ho;have hl:=A0K ho;obtain⟨p,hp,e1,e2⟩:=R2 i i0 i1;rw[B76];constructor
 ·rintro⟨s,x,t,h,h2,h3⟩;have hlen:m+s.length<o.length:=by
   have:=congrArg List.length h;simp at this;omega
  have hx:o[m+s.length]=x:=by
   have:(o.drop m)[s.length]? =some x:=by rw[h,List.getElem?_append_right (Nat.le_refl _)];simp
   rw[List.getElem?_drop,List.getElem?_eq_getElem hlen]at this;exact Option.some.inj this
  obtain⟨x0,x1,x2⟩:=R1 _ hlen;rw[hx]at x0 x1 x2;refine⟨x.toNat,by omega,?_⟩;rw[show((x.toNat:Nat):Int)=x by omega];rintro(h4|h4|h4)
  ·obtain⟨j,hj,hj2⟩:=List.getElem_of_mem h4;rw[List.length_take]at hj;rw[List.getElem_take]at hj2;have:=(R1 j (by omega)).2.2;rw[hj2]at this;omega
  ·
   have hpm:m<=p:=Nat.le_of_not_lt fun h5=>hi (by
    rw[<- e1];exact List.mem_take_iff_getElem.2 ⟨p,by omega,rfl⟩)
   have hps:p<=m+s.length:=by omega
   apply h2;have:(o.drop m)[p-m]? =some i:=by
    rw[List.getElem?_drop,show m+(p-m)=p by omega,List.getElem?_eq_getElem hp,e1]
   rw[h]at this;rcases Nat.lt_or_ge (p-m) s.length with h5|h5
   ·rw[List.getElem?_append_left h5]at this;exact List.mem_append_left _ (List.mem_of_getElem? this)
   ·have h6:p-m=s.length:=by omega
    rw[h6,List.getElem?_append_right (Nat.le_refl _)]at this;simp at this;rw[this];simp
  ·rw[C0V A x0 x1 i0 i1,A40,h4]at h3;cases h3
 ·rintro⟨k,hk,h⟩;have h1:(k:Int)∉o.take m:=fun h'=>h (.inl h');have h2:gR (rkF o) k<gR (rkF o) i:=Int.lt_of_not_ge fun h'=>h (.inr (.inl h'));have h3:ovlB r i k=true:=by
   cases hv:ovlB r i k with
   |true=>rfl
   |false=>exact absurd (.inr (.inr hv)) h
  obtain⟨j,hj,e3,e4⟩:=R2 (k:Int) (by omega) (by omega);have hmj:m<=j:=Nat.le_of_not_lt fun h5=>h1 (by
   rw[<- e3];exact List.mem_take_iff_getElem.2 ⟨j,by omega,rfl⟩)
  have hjp:j<p:=by omega
  refine⟨(o.drop m).take (j-m),k,(o.drop m).drop (j-m+1),?_,?_,by rw[C0V A (by omega) (by omega) i0 i1,A40];exact h3⟩
  ·have hlt:j-m<(o.drop m).length:=by rw[List.length_drop];omega
   have e5:(o.drop m)[j-m]=(k:Int):=by
    rw[List.getElem_drop];have:o[m+(j-m)]'(by omega)=o[j]:=by congr 1;omega
    rw[this,e3]
   rw[<- e5,<- List.drop_eq_getElem_cons hlt,List.take_append_drop]
  ·intro h5;have:i∈(o.drop m).take (j-m+1):=by
    have hlt:j-m<(o.drop m).length:=by rw[List.length_drop];omega
    rw[List.take_add_one,List.getElem?_eq_getElem hlt];have e5:(o.drop m)[j-m]=(k:Int):=by
     rw[List.getElem_drop];have:o[m+(j-m)]'(by omega)=o[j]:=by congr 1;omega
     rw[this,e3]
    rw[e5];exact h5
   obtain⟨q,hq,hq2⟩:=List.getElem_of_mem this;rw[List.length_take]at hq;rw[List.getElem_take,List.getElem_drop]at hq2;have:=(R1 (m+q) (by rw[List.length_drop]at hq;omega)).2.2;rw[hq2]at this;omega
theorem C3O {r rk out:List Int}{n:Nat}(hl:out.length<n){j:Nat}(h:(j:Int)<fr1 r rk n out):frK r rk out j n=false:=by
 obtain⟨m,h1,h2,h3⟩:=B7r (r:=r) (rk:=rk) (out:=out) hl;unfold fr1 at h;cases hf:(List.range n).find? (fun(i:Nat)=>frK r rk out (i:Int) n)with
 |none=>rw[hf]at h;simp at h;omega
 |some q=>
  rw[hf]at h;obtain⟨_,_,h6⟩:=List.find?_range_eq_some.1 hf;have:j<q:=by simpa using h
  have:=h6 j this;simpa using this
theorem C3P {n:Nat}{r o:List Int}(A:Alt n r)(hn:n<=8)(ho:o.Perm (idO n)):
  (∀at_:Nat,at_<n->∀i:Nat,(i:Int)<gR o at_->A1q (o.take at_) i=true\/frO r i (o.drop at_)=false)↔A0I r o=o:=by
 obtain⟨R1,R2⟩:=A2Y hn ho;rw[A3F]at R1 R2;have hN:=A1p ho;have hl:=A0K ho;have e0:A0I r o=A3H r (rkF o) n n:=by unfold A0I;rw[hl]
 have bad:∀(m:Nat),m<n->∀i:Nat,i<n->(frK r (rkF o) (o.take m) i n=false↔A1q (o.take m) i=true\/frO r i (o.drop m)=false):=fun m hm i hi=>by
  cases hb:A1q (o.take m) i with
  |true=>
   unfold frK;rw[hb];simp
  |false=>
   rw[C62 A hn ho (by omega) (by omega) (A4x.1 hb),<- Bool.not_eq_true,A7r];constructor
   ·intro h;right;refine Classical.byContradiction fun hc=>h ⟨A4x.1 hb,fun k hk=>Classical.byContradiction fun hk2=>hc ⟨k,hk,hk2⟩⟩
   ·rintro(h|⟨k,hk,h⟩) h'
    ·cases h
    ·exact h (h'.2 k hk)
 constructor
 ·intro h
  suffices ∀m,m<=n->A3H r (rkF o) n m=o.take m by rw[e0,this n (Nat.le_refl _),List.take_of_length_le (by omega)]
  intro m
  induction m with
  |zero=>intro _;rfl
  |succ m ih=>
   intro hm;have hmo:m<o.length:=by omega
   obtain⟨g0,g1,g2⟩:=R1 m hmo;rw[A3H,ih (by omega),List.take_add_one,List.getElem?_eq_getElem hmo];have hfr:fr1 r (rkF o) n (o.take m)=((o[m].toNat:Nat):Int):=by
    refine C0F (by omega) (A7r.2 ?_) fun j hj=>?_
    ·rw[show((o[m].toNat:Nat):Int)=o[m]by omega];refine⟨fun hmem=>?_,fun k hk=>?_⟩
     ·obtain⟨q,hq,hq2⟩:=List.getElem_of_mem hmem;rw[List.length_take]at hq;rw[List.getElem_take]at hq2;have:=(R1 q (by omega)).2.2;rw[hq2]at this;omega
     ·obtain⟨q,hq,e1,e2⟩:=R2 (k:Int) (by omega) (by omega);rcases Nat.lt_or_ge q m with h5|h5
      ·left;rw[<- e1];exact List.mem_take_iff_getElem.2 ⟨q,by omega,rfl⟩
      ·right;left;omega
    ·refine(bad m (by omega) j (by omega)).2 (h m (by omega) j ?_);unfold gR;rw[Int.toNat_natCast,List.getElem?_eq_getElem hmo];simp only[Option.getD_some];omega
   rw[hfr,show((o[m].toNat:Nat):Int)=o[m]by omega];rfl
 ·intro h at_ hat i hi;have hmo:at_<o.length:=by omega
  have e1:=A6e (r:=r) (rk:=rkF o) (n:=n) (n-at_) at_;rw[show at_+(n-at_)=n by omega,<- e0,h]at e1;have e2:=C0P (r:=r) (rk:=rkF o) hat
  rw[<- e0,h,List.getElem?_eq_getElem hmo,<- e1]at e2;have e3:=Option.some.inj e2;have hg:gR o (at_:Int)=o[at_]:=by
   unfold gR;rw[Int.toNat_natCast,List.getElem?_eq_getElem hmo];rfl
  rw[hg]at hi;obtain⟨g0,g1,g2⟩:=R1 at_ hmo;exact(bad at_ hat i (by omega)).1 (C3O (by rw[List.length_take];omega) (by rw[<- e3];exact hi))
theorem B77 {n:Nat}{r o:List Int}(A:Alt n r)(hn:n<=8)(ho:o.Perm (idO n)):B5m r o=true↔A0I r o=o:=by
 have hl:=A0K ho;rw[<- C3P A hn ho];unfold B5m B9W;rw[List.all_eq_true];constructor
 ·intro h m hm i hi;have:=List.all_eq_true.1 (h m (List.mem_range.2 (by omega))) i (List.mem_range.2 (by omega));unfold okI at this;rw[Bool.or_eq_true,Bool.not_eq_true']at this;exact this
 ·intro h m hm;have hm:=List.mem_range.1 hm;rw[List.all_eq_true];intro i hi;have hi:=List.mem_range.1 hi;unfold okI;rw[Bool.or_eq_true,Bool.not_eq_true'];exact h m (by omega) i (by omega)
theorem D10 {a k o:List Int}(h:A0l a k=true)(ho:o.Perm (idO a.length)):A3d a k o=0↔cwB a.length (A0b a) k o=false:=by
 obtain⟨h1,h2,h3,h4⟩:=A1C h;have A:=A7n h;unfold A3d cwB;rw[<- A7p A h2 ho,<- B7G A h2 h1.symm h4 ho];cases A4y a.length (A0b a) (rkL o)<;>cases A7h k (rkL o)<;>simp
theorem B9Z {a k:List Int}(h:A0l a k=true):A2s a.length (A0b a) k=(A0V a.length).filter fun o=>B9X a k o:=by
 obtain⟨h1,h2,h3,h4⟩:=A1C h;have A:=A7n h;refine A5r A9Z ((B4u _).filter _) fun l=>?_;rw[List.mem_filter,A41 A h2 h1.symm,A6g];refine and_congr_right fun hp=>?_;unfold B9X;rw[Bool.and_eq_true,beq_iff_eq,D10 h hp,B77 A h2 hp]
theorem C63 (a k:List Int):cwL a k=A7R a k:=by
 unfold cwL A7R;cases h:A0l a k with
 |false=>rfl
 |true=>rw[cond_true,cond_true,B9Z h]
end Go.Proofs.YthiammkiobbclaaGreatDoor.X
