/-
 Contracts: creases in a map, Repeat, Count, Clip, Max, gathering.
-/
import Derived.Test.YtfpcbimohikhmaaDoorQYO1Z
import Derived.Test.YtfpcbimohikhmaaDoorQC13Z
set_option maxRecDepth 1000000
set_option linter.unusedVariables false
set_option linter.unusedSimpArgs false
namespace Go.Proofs.YtfpcbimohikhmaaDoor.X
open Go Go.Ab

/-! ### Creases in a map -/
theorem crF_foldl (k:List Int):∀(l:List Cr) (s:List Ent3×Nat),mget (l.foldl crS s).1 k=if l.any (fun x=>decide (k=[x.1,x.2.1]))then some [1]else mget s.1 k
 |[],s=>by simp
 |x::r,s=>by
  rw[List.foldl_cons,crF_foldl k r]
  simp only[List.any_cons,crS,mget_put]
  by_cases h1:r.any (fun x=>decide (k=[x.1,x.2.1]))=true
  ·simp[h1]
  ·by_cases h2:k=[x.1,x.2.1]<;>simp[h1,h2]
theorem crF_get (l:List Cr){c e:Int}(he:0≤e∧e≤2):((mget (crF l).1 [c,e]).getD []).getD 0 0=if crB l (3*c+e)then 1 else 0:=by
 have h1:crB l (3*c+e)=l.any (fun x=>decide ([c,e]=[x.1,x.2.1])):=by
  unfold crB
  congr 1
  funext x
  rw[show(3*c+e)/3=c by omega,show(3*c+e)%3=e by omega]
  rw[Bool.eq_iff_iff]
  simp only[Bool.and_eq_true,beq_iff_eq,decide_eq_true_eq,List.cons.injEq,and_true]
  exact⟨fun q=>⟨q.1.symm,q.2.symm⟩,fun q=>⟨q.1.symm,q.2.symm⟩⟩
 rw[h1]
 unfold crF
 rw[crF_foldl]
 by_cases h:(l.any fun x=>decide ([c,e]=[x.1,x.2.1]))=true
 ·rw[if_pos h,if_pos h];rfl
 ·rw[if_neg h,if_neg h];rfl
theorem crF_step {l:List Cr}{n:Nat}(h:n<l.length):crF (l.take (n+1))=crS (crF (l.take n)) (cC l n,cE l n,cK l n):=by
 have h1:l.take (n+1)=l.take n++[l[n]]:=List.take_succ_eq_append_getElem h
 have h2:l[n]=(cC l n,cE l n,cK l n):=by unfold cC cE cK;simp[h]
 unfold crF
 rw[h1,List.foldl_append,h2];rfl
theorem sp83 (w h:Int)(l:List Cr)(hz:l.length<1000000000):SpecP Tryd.prog G 83 [patV w h l] (.mp 0) [blkMf (crF l).1 (crF l).2]:=by
 refine fnP_spec hcm hmx T0ok ok83 rfl (ob_o83 w h l) ?_
 dsimp -failIfUnchanged -proj -eta -iota -zeta only[rd,rdw,qs,ql,qx]
 simp only[ltb_iff,ltb_no,leb_iff,leb_no,len'_iff,ltn_iff,inR_i64,inR_u8,and_true,true_and,size_vals]
 refine⟨⟨0,by simp,by omega,by simp[crF],by simp[crF]⟩,?_⟩
 rintro⟨i,es,ck⟩ ⟨n,hi,hn,h1,h2⟩
 simp only at hi h1 h2 ⊢
 subst hi;subst h1;subst h2
 simp only[Int.toNat_natCast]
 refine⟨fun hlt=>?_,fun hge=>?_⟩
 ·have g1:n<l.length:=by omega
  obtain⟨a0,a1,a2⟩:=cget g1
  have hst:=crF_step g1
  refine⟨by omega,by omega,by rw[flatC_len];omega,a0,a1,a2,by omega,⟨n+1,by omega,by omega,by rw[hst];rfl,by rw[hst];rfl⟩,by omega⟩
 ·rw[List.take_of_length_le (by omega)];exact⟨rfl,rfl⟩
theorem ct83:CtOk Tryd.prog G 83 e83:=by
 intro args r h hp
 unfold e83 at h
 split at h<;>cases h
 rename_i w h a n _
 obtain⟨h1,h2,h3⟩:=hp
 generalize unC a=l at*
 subst h1 h2
 exact(sp83 _ _ _ h3).caps
/-! ### Library -/
theorem mul_all:((List.range 101).all fun n=>decide (bitI .and .u64 (n:Int) 4294967295=(n:Int)∧Int.fdiv (n:Int) 4294967296=0))=true:=by kernel_rfl
theorem sp122 (y:Int)(h0:0≤y)(h1:y<101):SpecP Tryd.prog G 122 [.int .u64 1,.int .u64 y] (.tup [.int .u64 0,.int .u64 y]) []:=by
 refine fnP_spec hcm hmx T0ok ok122 rfl (ob_o122 y) ?_
 obtain⟨n,rfl⟩:=Int.eq_ofNat_of_zero_le h0
 have h2:=List.all_eq_true.1 mul_all n (List.mem_range.2 (by omega))
 obtain⟨h2,h3⟩:=of_decide_eq_true h2
 have z1:bitI .and .u64 (0:Int) 4294967295=0:=by decide
 have z2:Int.fdiv (0:Int) 4294967296=0:=by decide
 have z3:∀x:Int,0≤x→x<101→inR .u64 x=true:=fun x a b=>by
  unfold inR
  have e1:IntKind.u64.min=0:=rfl
  have e2:IntKind.u64.max=18446744073709551615:=by decide
  rw[decide_eq_true_eq,e1,e2];omega
 simp only[h2,h3,z1,z2,Int.zero_mul,Int.one_mul,Int.add_zero,Int.zero_add,and_true,true_and,iI]
 simp[z3,h0,h1]
theorem ct122:CtOk Tryd.prog G 122 e122:=by
 intro args r h hp
 unfold e122 at h
 split at h<;>cases h
 obtain⟨rfl,h1,h2⟩:=hp
 exact(sp122 _ h1 h2).caps
theorem YAok:TabOk Tryd.prog G YA:=tabL_ok noCh_ok ⟨ct122,trivial⟩
theorem ct99:CtOk Tryd.prog G 99 e99:=by
 intro args r h hp
 unfold e99 at h
 split at h<;>cases h
 rename_i x y
 obtain⟨rfl,h1,h2⟩:=hp
 refine SpecP.caps ?_
 refine fnP_spec hcm hmx YAok ok99 rfl (ob_o99 y) ?_
 simp[h1,h2]
theorem YBok:TabOk Tryd.prog G YB:=tabL_ok noCh_ok ⟨ct99,trivial⟩
theorem putA_all {x:Int}{l l2:List Int}{m k:Nat}(hl2:l2.length=k)(hk:m+k≤l.length)(h1:∀j,j<m→l.getD j 0=x)(h2:∀j,j<k→l2.getD j 0=x):∀j,j<m+k→(putA l l2 m k).getD j 0=x:=fun j hj=>by
 by_cases h:j<m
 ·rw[putA_out hl2 hk (.inl h)];exact h1 j h
 ·rw[putA_in hl2 hk (by omega) (by omega)];exact h2 _ (by omega)
theorem take_getD {l:List Int}{m j:Nat}(h:j<m):(l.take m).getD j 0=l.getD j 0:=by
 rw[List.getD_eq_getElem?_getD,List.getD_eq_getElem?_getD,List.getElem?_take,if_pos h]
theorem sp84 (x z:Int)(h0:0<z)(h1:z<101):SpecP Tryd.prog G 84 [.imm (.ints .i64 [x]) 1 none,.int .i64 z] (.full 0 z.toNat) [rpB x z.toNat]:=by
 refine fnP_spec hcm hmx YBok ok84 rfl (ob_o84 x z) ?_
 dsimp -failIfUnchanged -proj -eta -iota -zeta only[rd,rdw,qs,ql,qx]
 have z3:inR .u64 z=true:=by
  unfold inR
  have e1:IntKind.u64.min=0:=rfl
  have e2:IntKind.u64.max=18446744073709551615:=by decide
  rw[decide_eq_true_eq,e1,e2];omega
 simp only[ltb_iff,ltb_no,leb_iff,leb_no,len'_iff,ltn_iff,inR_i64,inR_u8,z3,and_true,true_and,List.length_replicate,Nat.ble_eq,Option.getD_some]
 refine⟨by omega,by omega,by omega,⟨by omega,by omega,by omega,by omega,by omega,by omega⟩,?_⟩
 rintro⟨l0,k⟩ ⟨hl0,hk⟩
 simp only at hl0 hk ⊢
 have hone:∀j,j<1→(x::l0.drop 1).getD j 0=x:=fun j hj=>by
  have:j=0:=by omega
  subst this;rfl
 refine⟨by omega,⟨1,rfl,by omega,by omega,by simp;omega,hone⟩,?_⟩
 rintro⟨i,l⟩ ⟨m,hi,hm0,hm,hl,hx⟩
 simp only at hi hl hx ⊢
 subst hi
 simp only[Int.toNat_natCast,List.drop_zero]
 have ht:(l.take m).length=m:=by simp;omega
 refine⟨fun hlt=>⟨fun h2=>?_,fun h2=>?_⟩,fun hge=>?_⟩
 ·have hA:=putA_all (l2:=l.take m) ht (show m+m≤l.length by omega) hx (fun j hj=>by rw[take_getD hj];exact hx j hj)
  refine⟨by omega,by omega,by omega,by omega,by omega,by omega,by omega,⟨m+m,by omega,by omega,by omega,?_,hA⟩,by omega⟩
  rw[putA_len ht (by omega)];exact hl
 ·have ht2:((l.take m).take (k+1-m)).length=k+1-m:=by simp;omega
  have hA:=putA_all (l2:=(l.take m).take (k+1-m)) ht2 (show m+(k+1-m)≤l.length by omega) hx (fun j hj=>by rw[take_getD hj,take_getD (by omega)];exact hx j (by omega))
  refine⟨by omega,by omega,by omega,by omega,by omega,by omega,by omega,⟨m+(k+1-m),by omega,by omega,by omega,?_,hA⟩,by omega⟩
  rw[putA_len ht2 (by omega)];exact hl
 ·have hlen:l.length=(List.replicate z.toNat x).length:=by rw[List.length_replicate];omega
  have hfin:l=List.replicate z.toNat x:=List.ext_getElem hlen (fun j q1 q2=>by
   have h3:=hx j (by omega)
   rw[List.getElem_replicate,← h3]
   simp[List.getD,q1])
  exact⟨by omega,by omega,hfin,by omega⟩
theorem ct84:CtOk Tryd.prog G 84 e84:=by
 intro args r h hp
 unfold e84 at h
 split at h<;>cases h
 rename_i x m _ n
 obtain⟨rfl,h1,h2⟩:=hp
 exact(sp84 _ _ h1 h2).caps
theorem YCok:TabOk Tryd.prog G YC:=tabL_ok noCh_ok ⟨ct64,trivial⟩
theorem ct85:CtOk Tryd.prog G 85 e85:=by
 intro args r h hp
 unfold e85 at h
 split at h<;>cases h
 rename_i w h
 refine SpecP.caps ?_
 refine fnP_spec hcm hmx YCok ok85 rfl (ob_o85 w h) ?_
 rcases bool_or (okS w h)with h0|h0
 ·rw[h0]
  have h1:=of_decide_eq_true h0
  have h2:w*h≤256:=h1.2.2.2.2
  have h3:4*w*h=4*(w*h):=by rw[Int.mul_assoc]
  have h4:0≤w*h:=Int.mul_nonneg (by omega) (by omega)
  simp only[bI,cond_true,inR_i64,bne_self_eq_false,Bool.false_eq_true,false_imp_iff,true_and,true_imp_iff,and_true,h3]
  omega
 ·rw[h0];simp[bI]
theorem sp82 (a:List Int)(hz:a.length<1000000000):SpecP Tryd.prog G 82 [.imm (.ints .i64 a) a.length none] (.imm (.ints .i64 a) a.length (some a.length)) []:=by
 refine fnP_spec hcm hmx T0ok ok82 rfl (ob_o82 a) ?_
 simp[Cont.size]
theorem ct82:CtOk Tryd.prog G 82 e82:=by
 intro args r h hp
 unfold e82 at h
 split at h<;>cases h
 obtain⟨rfl,h2⟩:=hp
 exact(sp82 _ h2).caps
theorem maxL_step {a:List Int}{n:Nat}(h0:1≤n)(h:n<a.length):maxL (a.take (n+1))=max (maxL (a.take n)) (a[n]?.getD 0):=by
 cases a with
 |nil=>simp at h
 |cons x r=>
  cases n with
  |zero=>omega
  |succ n=>
   have h':n<r.length:=by simpa using h
   simp only[List.take_succ_cons,maxL]
   rw[List.take_succ_eq_append_getElem h',List.foldl_append]
   simp[h']
theorem sp78 (a:List Int)(h0:0<a.length)(hz:a.length<1000000000):SpecP Tryd.prog G 78 [.imm (.ints .i64 a) a.length none] (.int .i64 (maxL a)) []:=by
 refine fnP_spec hcm hmx T0ok ok78 rfl (ob_o78 a) ?_
 dsimp -failIfUnchanged -proj -eta -iota -zeta only[rd,rdw,qs,ql,qx]
 simp only[ltb_iff,ltb_no,leb_iff,leb_no,len'_iff,ltn_iff,inR_i64,inR_u8,and_true,true_and,Cont.size,List.drop_zero]
 have h1:a[0]?.getD 0=maxL (a.take 1):=by
  cases a with
  |nil=>simp at h0
  |cons x r=>simp[maxL]
 have h2:∀b:Int×Int,(∃n:Nat,b.1=n∧1≤n∧n≤a.length∧b.2=maxL (a.take n))→(b.1<a.length→a[b.1.toNat]?.getD 0=(a.drop b.1.toNat).getD 0 0∧(∃n:Nat,b.1+1=n∧1≤n∧n≤a.length∧(if(a.drop b.1.toNat).getD 0 0>b.2 then(a.drop b.1.toNat).getD 0 0 else b.2)=maxL (a.take n)))∧((a.length:Int)≤b.1→b.2=maxL a)∧1≤b.1∧b.1≤a.length:=by
  rintro⟨i,m⟩ ⟨n,hi,hn0,hn,hm⟩
  simp only at hi hm ⊢
  subst hi;subst hm
  simp only[Int.toNat_natCast]
  have hg:(a.drop n).getD 0 0=a[n]?.getD 0:=by simp[List.getD]
  refine⟨fun hlt=>⟨hg.symm,n+1,by omega,by omega,by omega,?_⟩,fun hge=>by rw[List.take_of_length_le (by omega)],by omega,by omega⟩
  rw[maxL_step (a:=a) hn0 (by omega),hg]
  split<;>omega
 repeat' (with_reducible apply And.intro)
 all_goals first
  |omega
  |exact⟨1,rfl,by omega,by omega,by simpa[List.getD]using h1⟩
  |skip
 intro b hb
 obtain⟨q1,q2,q3,q4⟩:=h2 b hb
 refine⟨fun hlt=>?_,fun hge=>q2 hge⟩
 obtain⟨_,q5⟩:=q1 hlt
 have hd:0<(a.drop b.1.toNat).length:=by simp;omega
 repeat' (with_reducible apply And.intro)
 all_goals first
  |omega
  |exact q5
theorem ct78:CtOk Tryd.prog G 78 e78:=by
 intro args r h hp
 unfold e78 at h
 split at h<;>cases h
 obtain⟨rfl,h1,h2⟩:=hp
 exact(sp78 _ h1 h2).caps
end Go.Proofs.YtfpcbimohikhmaaDoor.X
