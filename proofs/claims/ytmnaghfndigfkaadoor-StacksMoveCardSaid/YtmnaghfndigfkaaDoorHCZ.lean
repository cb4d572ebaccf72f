/-
 Stacks: the contracts of the functions that look at them.
-/
import Derived.Test.YtmnaghfndigfkaaDoorOHAZ
import Derived.Test.YtmnaghfndigfkaaDoorCAZ
set_option maxRecDepth 1000000
set_option linter.unusedVariables false
set_option linter.unusedSimpArgs false
namespace Go.Proofs.YtmnaghfndigfkaaDoor.X
open Go Go.Ab

theorem eqK_iff:∀{a b:List Int},eqK a b=true↔a=b
 |[],[]=>by simp[eqK]
 |[],_::_=>by simp[eqK]
 |_::_,[]=>by simp[eqK]
 |x::a,y::b=>by
  simp only[eqK,cond_eq_ite]
  by_cases h:x=y
  ·subst h;simp[eqK_iff (a:=a) (b:=b)]
  ·have:(x==y)=false:=by simp[h]
   rw[this];simp[h]
theorem eqK_no {a b:List Int}:eqK a b=false↔a≠b:=by
 rw[ne_eq,← eqK_iff];cases eqK a b<;>simp
theorem unT_flat:∀(l:List Sk),unT (flatT l)=l
 |[]=>rfl
 |((x,y,q),ks)::l=>by
  have ih:=unT_flat l
  show((x,y,q),ks)::unT (flatT l)=_
  rw[ih]
theorem flatT_len (l:List Sk):(flatT l).length=l.length*4:=by
 induction l with
 |nil=>rfl
 |cons s l ih=>
  show(skV s++flatT l).length=_
  rw[List.length_append,ih,List.length_cons]
  show 4+_=_
  omega
theorem skV_len (s:Sk):(skV s).length=4:=rfl
theorem flatT_app (a b:List Sk):flatT (a++b)=flatT a++flatT b:=by unfold flatT;rw[List.flatMap_append]
theorem tget {l:List Sk}{n:Nat}(h:n<l.length):(List.drop (n*4) (flatT l))[0]? =some (.int .i64 (tX l n))∧(List.drop (n*4) (flatT l))[1]? =some (.int .i64 (tY l n))∧(List.drop (n*4) (flatT l))[2]? =some (.int .u8 (tQ l n))∧(List.drop (n*4) (flatT l))[3]? =some (.imm (.ints .i64 (tKh l n)) (tKh l n).length none):=by
 unfold flatT tX tY tQ tKh gT
 simp only[List.getElem?_drop,Int.toNat_natCast]
 rw[flatMap_row (k:=4) (by decide) skV_len,flatMap_row (k:=4) (by decide) skV_len,flatMap_row (k:=4) (by decide) skV_len,flatMap_row (k:=4) (by decide) skV_len]
 rw[show(n*4+0)/4=n by omega,show(n*4+1)/4=n by omega,show(n*4+2)/4=n by omega,show(n*4+3)/4=n by omega,show(n*4+0)%4=0 by omega,show(n*4+1)%4=1 by omega,show(n*4+2)%4=2 by omega,show(n*4+3)%4=3 by omega,List.getElem?_eq_getElem h]
 exact⟨rfl,rfl,rfl,rfl⟩
theorem ptV_len (s:Sk):(ptV s).length=4:=rfl
theorem rget {l:List Sk}{n:Nat}(h:n<l.length):(List.drop (n*4) (flatR l))[0]? =some (.int .i8 (tX l n))∧(List.drop (n*4) (flatR l))[1]? =some (.int .i8 (tY l n))∧(List.drop (n*4) (flatR l))[2]? =some (.int .u8 (tQ l n))∧(List.drop (n*4) (flatR l))[3]? =some (pV l n):=by
 unfold flatR tX tY tQ pV tKh gT
 simp only[List.getElem?_drop,Int.toNat_natCast]
 rw[flatMap_row (k:=4) (by decide) ptV_len,flatMap_row (k:=4) (by decide) ptV_len,flatMap_row (k:=4) (by decide) ptV_len,flatMap_row (k:=4) (by decide) ptV_len]
 rw[show(n*4+0)/4=n by omega,show(n*4+1)/4=n by omega,show(n*4+2)/4=n by omega,show(n*4+3)/4=n by omega,show(n*4+0)%4=0 by omega,show(n*4+1)%4=1 by omega,show(n*4+2)%4=2 by omega,show(n*4+3)%4=3 by omega,List.getElem?_eq_getElem h]
 exact⟨rfl,rfl,rfl,rfl⟩
theorem tAt {l:List Sk}{n:Nat}(h:n<l.length):l[n]=((tX l n,tY l n,tQ l n),tKh l n):=by
 unfold tX tY tQ tKh gT
 rw[Int.toNat_natCast,List.getElem?_eq_getElem h];rfl
theorem ttake {l:List Sk}{n:Nat}(h:n<l.length):l.take (n+1)=l.take n++[((tX l n,tY l n,tQ l n),tKh l n)]:=by rw[← tAt h,List.take_add_one,List.getElem?_eq_getElem h];rfl
theorem tmem {l:List Sk}{n:Nat}(h:n<l.length):((tX l n,tY l n,tQ l n),tKh l n)∈l:=by rw[← tAt h];exact List.getElem_mem h
theorem okT_flat {l:List Sk}(h:l.length<1000000)(hk:∀s∈l,smK s.2):okT (flatT l) l.length:=by
 unfold okT;rw[unT_flat];exact⟨rfl,rfl,h,hk⟩
theorem idrop {ks:List Int}{n:Nat}(h:n<ks.length):ks.drop n=ks[n]?.getD 0::ks.drop (n+1):=by
 rw[List.getElem?_eq_getElem h];exact List.drop_eq_getElem_cons h
theorem itake {ks:List Int}{n:Nat}(h:n<ks.length):ks.take (n+1)=ks.take n++[ks[n]?.getD 0]:=by
 rw[List.take_add_one,List.getElem?_eq_getElem h];rfl
theorem getD0 {ks:List Int}{n:Nat}:(List.drop n ks).getD 0 0=ks[n]?.getD 0:=by
 rw[List.getD_eq_getElem?_getD,List.getElem?_drop,Nat.add_zero]
theorem ct64:CtOk Tryd.prog G 64 e64:=by
 intro args r h hp
 unfold e64 at h
 split at h<;>cases h
 exact fnP_spec hcm hmx T0ok ok64 rfl (ob_o64 _ _ _) ⟨rfl,rfl,rfl,trivial⟩
theorem eqK_ob {a b:List Int}{n:Nat}(ha:n<a.length)(hb:n<b.length):eqK (a.drop n) (b.drop n)=cond (a[n]?.getD 0==b[n]?.getD 0) (eqK (a.drop (n+1)) (b.drop (n+1))) false:=by
 rw[idrop ha,idrop hb];rfl
theorem ct67f:CtOk Tryd.prog G 67 e67f:=by
 intro args r h hp
 unfold e67f at h
 split at h<;>cases h
 rename_i ks _ _
 obtain⟨rfl,hz⟩:=hp
 unfold smK at hz
 refine(fnP_spec hcm hmx T0ok ok67 rfl (ob_o67f ks) ?_:SpecP Tryd.prog G 67 [layV ks] _ []).caps
 simp only[ltn_iff,len'_iff,size_ints,Nat.zero_add,List.nil_append,and_true,true_and]
 omega
theorem ct66f:CtOk Tryd.prog G 66 e66f:=by
 intro args r h hp
 unfold e66f at h
 split at h<;>cases h
 rename_i ks _ _
 obtain⟨rfl,hz⟩:=hp
 refine(fnP_spec hcm hmx T0ok ok66 rfl (ob_o66f ks) ?_:SpecP Tryd.prog G 66 [layV ks] _ []).caps
 simp
theorem okT_of {a:List AV}{n:Nat}(h:okT a n):∃l,a=flatT l∧n=l.length∧unT a=l∧l.length<1000000∧∀s∈l,smK s.2:=⟨unT a,h.1,h.2.1,rfl,h.2.2⟩
theorem bI_ff {b:Bool}(h:b=false):(0:Int)=bI b 1 0:=by rw[h];rfl
theorem bI_tt {b:Bool}(h:b=true):(1:Int)=bI b 1 0:=by rw[h];rfl
theorem ct19:CtOk Tryd.prog G 19 e19:=by
 intro args r h hp
 unfold e19 at h
 split at h<;>cases h
 rename_i a _ c b _ _
 obtain⟨rfl,rfl,hza,hzb⟩:=hp
 unfold smK at hza hzb
 refine caps2 (fnP_spec hcm hmx T0ok ok19 rfl (ob_o19 a b c) ?_:SpecP Tryd.prog G 19 [_,layV b] _ [])
 simp only[ltb_iff,ltb_no,leb_iff,leb_no,len'_iff,ltn_iff,inR_i64,and_true,true_and,size_ints,iI,getD0,bne_iff_ne,ne_eq,bne_eq_false_iff_eq,Int.natCast_inj]
 refine⟨fun h=>bI_ff ?_,fun hl=>⟨fun h=>bI_ff ?_,fun hk=>⟨⟨0,rfl,by omega,rfl⟩,?_⟩⟩⟩
 ·rw[eqK_no.2 (fun e=>h (by rw[e])),Bool.and_false]
 ·have:Nat.beq c a.length=false:=by
   cases hb:Nat.beq c a.length
   ·rfl
   ·exact absurd (Nat.eq_of_beq_eq_true hb) h
  rw[this];rfl
 rintro⟨i⟩ ⟨n,hi,hn,he⟩
 simp only at hi he ⊢
 subst hi
 simp only[Int.toNat_natCast,List.length_drop]
 have hkk:Nat.beq c a.length=true:=by rw[hk];exact Nat.beq_refl _
 refine⟨fun hlt=>?_,fun hge=>?_⟩
 ·have g1:n<a.length:=by omega
  have g2:n<b.length:=by omega
  rw[eqK_ob g1 g2]at he
  refine⟨by omega,by omega,by omega,by omega,by omega,by omega,by omega,by omega,fun hc=>bI_ff ?_,fun hc=>⟨by omega,⟨n+1,by omega,by omega,?_⟩,by omega⟩⟩
  ·rw[beq_false_of_ne hc]at he;rw[← he];exact Bool.and_false _
  ·rw[hc,beq_self_eq_true]at he;exact he
 ·rw[List.drop_eq_nil_of_le (by omega),List.drop_eq_nil_of_le (by omega)]at he
  exact bI_tt (by rw[hkk,← he];rfl)
/-! ### The stacks of plain data -/
theorem unR:∀(l:List Sk),unT (flatR l)=l
 |[]=>rfl
 |((x,y,q),ks)::l=>by
  have ih:=unR l
  show((x,y,q),ks)::unT (flatR l)=_
  rw[ih]
theorem flatR_len (l:List Sk):(flatR l).length=l.length*4:=by
 induction l with
 |nil=>rfl
 |cons s l ih=>
  show(ptV s++flatR l).length=_
  rw[List.length_append,ih,List.length_cons]
  show 4+_=_
  omega
theorem stO_len (l:List Sk):(stO l).length≤20:=by unfold stO;rw[List.length_map,List.length_take];omega
theorem stO_lay {l:List Sk}:∀s∈stO l,s.2.length≤8:=by
 intro s hs
 unfold stO at hs
 obtain⟨t,_,rfl⟩:=List.mem_map.1 hs
 show(t.2.take 8).length≤8
 rw[List.length_take];omega
theorem TH15ok:TabOk Tryd.prog G TH15:=tabL_ok noCh_ok ⟨ct64,trivial⟩
theorem drop0 {α:Type}(l:List α)(a b:Nat):(List.drop a (List.drop b l))[0]? =(List.drop b l)[a]? :=by
 rw[List.getElem?_drop,Nat.add_zero]
theorem ct15:CtOk Tryd.prog G 15 e15:=by
 intro args r h hp
 unfold e15 at h
 split at h<;>cases h
 rename_i a n _
 obtain⟨h1,h2,hr⟩:=hp
 generalize unT a=l at*
 subst h1 h2
 refine(fnP_spec hcm hmx TH15ok ok15 rfl (ob_o15 l) ?_:SpecP Tryd.prog G 15 [.imm (.vals (flatR l)) l.length none] _ []).caps
 simp only[ltb_iff,ltb_no,leb_iff,leb_no,len'_iff,ltn_iff,inR_i64,and_true,true_and,size_vals,size_ints,iI,flatR_len,drop0,List.getD_eq_getElem?_getD,List.getElem?_drop,Nat.add_zero,List.length_drop]
 refine⟨⟨0,rfl,by omega,by omega,rfl,rfl⟩,?_⟩
 rintro⟨i,o,n⟩ ⟨m,hi,hn,h20,ho,hm⟩
 simp only at hi ho hm ⊢
 subst hi ho hm
 simp only[Int.toNat_natCast]
 have fin:n=l.length∨20≤n→(l.take n).map stk=stO l∧n=(stO l).length:=by
  intro h
  have e:l.take n=l.take 20:=by
   rcases h with h|h
   ·rw[List.take_of_length_le (by omega),List.take_of_length_le (by omega)]
   ·rw[show n=20 by omega]
  refine⟨by unfold stO;rw[e],?_⟩
  unfold stO
  rw[← e,List.length_map,List.length_take];omega
 refine⟨fun hlt=>⟨fun hlt2=>?_,fun hge=>?_⟩,fun hge=>?_⟩
 ·have g:n<l.length:=by omega
  obtain⟨a0,a1,a2,a3⟩:=rget g
  simp only[List.getElem?_drop,Nat.add_zero]at a0 a1 a2 a3
  have hq:=hr _ (tmem g)
  obtain⟨⟨q1,q2,q3,q4⟩,q5⟩:=hq
  simp only at q1 q2 q3 q4 q5
  unfold i8P at q1 q2
  have E:(l.take (n+1)).map stk=(l.take n).map stk++[((tX l n,tY l n,(tQ l n).tmod 4),(tKh l n).take 8)]:=by
   rw[ttake g,List.map_append];rfl
  have E2:∀o:List Int,o=(tKh l n).take 8→flatT ((l.take n).map stk)++[AV.int .i64 (tX l n),.int .i64 (tY l n),.int .u8 ((tQ l n).tmod 4),.imm (.ints .i64 o) o.length none]=flatT ((l.take (n+1)).map stk):=by
   intro o ho
   rw[E,flatT_app,ho];rfl
  refine⟨by omega,by omega,by omega,a0,by omega,by omega,by omega,by omega,a1,by omega,by omega,by omega,by omega,a2,⟨0,rfl,by omega,by omega,rfl,rfl⟩,?_⟩
  rintro⟨k,o,j⟩ ⟨m,hk,hj,h8,ho,hm⟩
  simp only at hk ho hm ⊢
  subst hk hm
  simp only[Int.toNat_natCast]
  have hol:o.length=j:=by rw[ho,List.length_take];omega
  refine⟨by omega,by omega,by omega,a3,fun hk=>⟨fun hk2=>?_,fun hk2=>?_⟩,fun hk=>?_⟩
  ·have gj:j<(tKh l n).length:=by omega
   have hkr:=q5 _ (List.getElem_mem gj)
   have hkv:(tKh l n)[j]?.getD 0=(tKh l n)[j]:=by rw[List.getElem?_eq_getElem gj];rfl
   refine⟨by omega,by omega,by omega,a3,by omega,by omega,by omega,by omega,by rw[hkv];omega,by omega,by omega,⟨j+1,by omega,by omega,by omega,?_,rfl⟩,by omega⟩
   rw[itake gj,ho]
  ·refine⟨by omega,by omega,⟨n+1,by omega,by omega,by omega,?_,rfl⟩,by omega⟩
   rw[← hol]
   exact E2 o (by rw[ho,show j=8 by omega])
  ·refine⟨by omega,by omega,⟨n+1,by omega,by omega,by omega,?_,rfl⟩,by omega⟩
   rw[← hol]
   refine E2 o (by rw[ho,List.take_of_length_le (by omega),List.take_of_length_le (by omega)])
 ·obtain⟨f1,f2⟩:=fin (.inr (by omega))
  rw[f1,← f2];exact⟨rfl,rfl⟩
 ·obtain⟨f1,f2⟩:=fin (.inl (by omega))
  rw[f1,← f2];exact⟨rfl,rfl⟩
end Go.Proofs.YtmnaghfndigfkaaDoor.X
