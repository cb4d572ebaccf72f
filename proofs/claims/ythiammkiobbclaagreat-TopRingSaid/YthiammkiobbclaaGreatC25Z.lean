/-
 Rings: the law.
-/
import Derived.Test.YthiammkiobbclaaGreatO25Z
import Derived.Test.YthiammkiobbclaaGreatC24Z
import Derived.Test.YthiammkiobbclaaGreatLCZ
set_option maxRecDepth 1000000
set_option linter.unusedVariables false
set_option linter.unusedSimpArgs false
namespace Go.Proofs.YthiammkiobbclaaGreat.X
open Go Go.Ab

theorem T3ok:TabOk Tryz.prog G T3:=tabL_ok noCh_ok ⟨ct25,ctc34,ct6,ctc16,rgt8,ctc17,rgt10,trivial⟩
theorem rotR_of {x:Int}{t:List Int}:rotR (t++[x])=x::t:=by
 unfold rotR
 rw[List.length_append,show[x].length=1 from rfl,Nat.add_sub_cancel,List.drop_left,List.take_left];rfl
theorem rw_cw {a k:List Int}{x:Int}{t:List Int}(hk:k=x::t)(h:altS a k=true):rwL a (t++[x])=cwL a k:=by
 unfold rwL cwL
 rw[rotR_of,h,cond_true,hk]
theorem sp3 (c l:Int)(ks:List Int)(hk:okK ks):SpecP Tryz.prog G 3 [fV c l ks] (.bool true) []:=by
 refine fnP_spec hcm hmx T3ok ok3 rfl (ob_o3 c l ks) ?_
 dsimp -failIfUnchanged -proj -eta -iota -zeta only[rd,rdw,qs,ql,qx]
 obtain⟨h1,h2,h3,h4⟩:=of_ok (c:=c) (l:=l) hk
 have hc:=of_chk (c:=c) (l:=l) hk
 generalize ofA c l ks=a at*
 generalize ofK c ks=k at*
 have hbn:∀x:Int,(x !=0)=true↔x≠0:=fun x=>bne_iff_ne
 simp only[hc,List.nil_append,List.drop_zero,and_true,true_and,eq_self_iff_true,bne_self_eq_false,Bool.false_eq_true,false_imp_iff,forall_const,true_imp_iff,beq_iff_eq,beq_eq_false_iff_ne,ne_eq,Bool.not_eq_true',Bool.not_eq_false',imp_self,implies_true]
 refine⟨hk,by omega,fun h0 hs=>?_⟩
 obtain⟨x,t,rfl⟩:∃x t,k=x::t:=by
  cases k with
  |nil=>exact absurd (by rw[h1];rfl) h0
  |cons x t=>exact⟨x,t,rfl⟩
 have hr:okRing a (t++[x]):=ring_alt (by rw[rotR_of];exact hs) (by omega)
 have hcw:=rw_cw (a:=a) rfl hs
 have hd:List.drop 1 (x::t)=t:=rfl
 have hg:List.getD (x::t) 0 0=x:=rfl
 have hE:cntE a (x::t)=0:=by
  unfold cntE
  rw[ofE_0 hs];rfl
 have hfE:fstE a (x::t)=fstQ a (t++[x]):=by
  unfold fstE fstQ
  rw[ofE_0 hs,hcw];simp
 have hfL:fstL a (x::t)=fstW (rwL a (t++[x])):=by
  unfold fstL fstW
  rw[hcw]
 rw[hd,hg,hE,hfE,hfL,hcw]
 have hl1:(x::t).length=t.length+1:=rfl
 simp only[hl1,bne_self_eq_false,Bool.false_eq_true,false_imp_iff,and_true,true_and,forall_const,true_imp_iff,imp_self,implies_true,eq_self_iff_true,leb_iff,ltb_iff,ltb_no,ltn_iff,len'_iff,iI,inR_i64,size_ints,List.length_drop,List.length_append,List.length_cons,List.length_nil]
 have hfl:(fstW (cwL a (x::t))).length≤8:=by
  unfold fstW
  cases hL:cwL a (x::t)with
  |nil=>decide
  |cons y r=>
   have hy:y∈cwL a (x::t):=by rw[hL];exact List.mem_cons_self ..
   unfold cwL at hy
   rw[hs,cond_true]at hy
   have hy:y∈srtL (grwO a.length (raysL a) (x::t) [] []):=hy
   have hp:=perm_len ((grw_okL (a:=a) (k:=x::t) (r:=raysL a)).2 y ((srtL_perm _).mem_iff.1 hy))
   show y.length≤8
   omega
 refine⟨by omega,by omega,by omega,by omega,by omega,by omega,by omega,by omega,by omega,⟨by omega,by omega,hr⟩,by omega,⟨by omega,by omega,hr⟩,⟨0,rfl,by omega⟩,?_⟩
 rintro⟨i⟩ ⟨m,hi,hm⟩
 simp only at hi ⊢
 subst hi
 simp only[Int.toNat_natCast]
 exact fun hlt=>⟨by omega,by omega,by omega,by omega,by omega,by omega,by omega,by omega,⟨by omega,by omega⟩,⟨m+1,by omega,by omega⟩,by omega⟩
end Go.Proofs.YthiammkiobbclaaGreat.X
