/-
 The law on mirrored fans.
-/
import Derived.Test.YtfafinkgmhkdmaaGreatDoorVLZ
set_option maxRecDepth 1000000
set_option linter.unusedVariables false
set_option linter.unusedSimpArgs false
namespace Go.Proofs.YtfafinkgmhkdmaaGreatDoor.X
open Go Go.Ab
theorem D4M:A1Z Tryz.prog G vL:=⟨ct27,C6y,D2A,D4b,C4C⟩
theorem D4N:TabOk Tryz.prog G VL:=A0m A0s D4M
theorem A86 (x:Int)(l:List Int):A0k (x::l)=x::l.reverse:=by
 simp[A0k,rotL']
theorem B6m (l:List Int):A0k (A0k l)=l:=by
 cases l with
 |nil=>rfl
 |cons x l=>rw[A86,A86,List.reverse_reverse]
theorem C5j (l:List Int):A0k (A17 l)=A17 (A0k l):=by
 simp[A0k,A17,rotL',List.map_reverse]
theorem C9O {l:List Int}(h:∀x∈l,1<=x/\x<=3):A17 (A17 l)=l:=by
 unfold A17;rw[List.map_map]
 conv=>rhs;rw[<- List.map_id l]
 refine List.map_congr_left fun x hx=>?_;have:=h x hx;simp only[Function.comp,id];split
 ·rw[if_pos (by omega)];omega
 ·rfl
theorem C1n {k:List Int}{i:Nat}(hi:i<k.length):(A0k k)[i]?.getD 0=k[(k.length-i)%k.length]?.getD 0:=by
 cases k with
 |nil=>simp at hi
 |cons x l=>
  rw[A86];simp only[List.length_cons]at hi ⊢;cases i with
  |zero=>simp
  |succ j=>
   rw[Nat.mod_eq_of_lt (by omega),show l.length+1-(j+1)=(l.length-1-j)+1 by omega];simp only[List.getElem?_cons_succ];rw[List.getElem?_reverse (by omega)]
theorem D4O (c l:Int)(ks:List Int)(hk:okK ks):SpecP Tryz.prog G 14 [fV c l ks] (.bool true) []:=by
 refine A0d hcm hmx D4N D0k rfl (C8Q c l ks) ?_;dsimp -failIfUnchanged -proj -eta -iota -zeta only[rd,rdw,qs,ql,qx];obtain⟨hl,h8,hA,hK⟩:=B7O (c:=c) (l:=l) hk;generalize ofA c l ks=A at*;generalize ofK c ks=K at*;have b1:((A.reverse.length:Int) !=A.length)=false:=by simp
 have b2:(((A0k K).length:Int) !=A.length)=false:=by simp[A6E,hl]
 have b3:(((A17 (A0k K)).length:Int) !=A.length)=false:=by simp[A6E,A6F,hl]
 have hoo:A17 (A0k (A17 (A0k K)))=K:=by
  rw[C5j,B6m,C9O hK]
 simp only[b1,b2,b3,hoo,B6m,List.reverse_reverse,A4i,cond_false,Bool.not_false,Bool.not_true,Bool.true_and,Bool.and_true];simp only[A0n,A0K,A0H,A09,A0Q,A1x,A0E,A03,A0w,A1t,A1q,A0F,A0I,A0r,A0J,A0G,List.getElem?_drop,beq_iff_eq,beq_eq_false_iff_ne,bne_iff_ne,bne_eq_false_iff_eq,ne_eq,Nat.zero_add,Nat.add_zero,Nat.mul_one,Int.toNat_natCast,and_true,true_and,List.length_drop,List.length_append,List.length_cons,List.length_nil,List.length_set,List.getD_eq_getElem?_getD,implies_true,iI,iL,Bool.not_eq_true',Bool.not_eq_false',Int.natCast_inj,true_imp_iff,A6E,A6F,List.length_reverse];refine⟨hk,by omega,by omega,by omega,by omega,by omega,by omega,by omega,by omega,by omega,⟨0,rfl,by omega⟩,?_⟩;rintro⟨i⟩ ⟨n,rfl,hn⟩ hlt;simp only at hlt;have e1:(A.length:Int)-(n:Int)=((A.length-n:Nat):Int):=by omega
 have e2:(A.length:Int)-1-(n:Int)=((A.length-1-n:Nat):Int):=by omega
 have t1:∀x y:Nat,((x:Int)).tmod (y:Int)=((x%y:Nat):Int):=fun x y=>rfl;have m1:(A.length-n)%A.length<A.length:=Nat.mod_lt _ (by omega);have hr:A.reverse[n]?.getD 0=A[A.length-1-n]?.getD 0:=by rw[List.getElem?_reverse (by omega)]
 have hm:=C1n (k:=K) (i:=n) (by omega);rw[<- hl]at hm;have hov:=B8Y (k:=A0k K) (j:=n) (by rw[A6E];omega);rw[hm]at hov;have hx:1<=K[(A.length-n)%A.length]?.getD 0/\K[(A.length-n)%A.length]?.getD 0<=3:=hK _ (A8Y (by omega));have ho:oKd K A.length n=if K[(A.length-n)%A.length]?.getD 0=3 then 3 else 3-K[(A.length-n)%A.length]?.getD 0:=by
  unfold oKd;rw[e1,t1];simp only[Int.toNat_natCast,List.getD_eq_getElem?_getD]
 simp only[e1,e2,t1,Int.toNat_natCast,hr,hm,hov,ho,bne_self_eq_false,cond_false,Bool.not_false,true_imp_iff,true_and,imp_self,and_true];generalize K[(A.length-n)%A.length]?.getD 0=x at*;have hf:(if x=3 then(3:Int)else 3-x)=if x=1\/x=2 then 3-x else x:=by
  split
  ·rename_i h;rw[if_neg (by omega),h]
  ·rw[if_pos (by omega)]
 refine⟨by omega,by omega,by omega,by omega,by omega,by omega,by omega,by omega,by omega,by omega,by omega,by omega,by omega,by omega,by omega,by omega,by omega,by omega,⟨fun h=>⟨by omega,by rw[if_neg h]⟩,fun h=>by rw[if_pos h,h]⟩,?_⟩;rintro⟨v⟩ rfl;exact⟨by omega,by omega,by omega,by omega,hf.symm,by omega,⟨n+1,by omega,by omega⟩,by omega⟩
theorem D4P:A1Z Tryz.prog G wL:=⟨ct27,D4s,D4u,C6y,C6x,C0X,C9c⟩
theorem D4Q:TabOk Tryz.prog G WL:=A0m A0s D4P
theorem C1o {a k:List Int}(h:chk a k=0){i:Nat}(hi:i<=a.length):chk (rotL' a i) (rotL' k i)=0:=by
 obtain⟨h1,h2,h3⟩:=A2y h;refine B51 (by rw[A1i,A1i,h1]) ⟨fun x hx=>?_,?_⟩ fun x hx=>?_
 ·unfold rotL' at hx;rcases List.mem_append.1 hx with hx|hx
  ·exact h2.1 x (List.mem_of_mem_drop hx)
  ·exact h2.1 x (List.mem_of_mem_take hx)
 ·have:a.sum=(a.take i++a.drop i).sum:=by rw[List.take_append_drop]
  rw[List.sum_append]at this;unfold rotL';rw[List.sum_append];have:=h2.2;omega
 ·unfold rotL' at hx;rcases List.mem_append.1 hx with hx|hx
  ·exact h3 x (List.mem_of_mem_drop hx)
  ·exact h3 x (List.mem_of_mem_take hx)
theorem B8k {a k:List Int}{n:Nat}:B33 a k (n+1)=(B33 a k n||(eqB (rotL' a n) (lsA a k)&&eqB (rotL' k n) (lsK a k))):=by
 unfold B33;rw[List.range_succ,List.any_append];simp[Bool.or_assoc]
theorem B8l {a k:List Int}:((a.length:Int)==0)=B33 a k 0:=by
 unfold B33;rw[Bool.eq_iff_iff];simp
theorem B8m {a k:List Int}:B33 a k a.length=true:=by
 unfold B33
 by_cases h:a.length=0
 ·simp[h]
 ·have hl:=C79 a k;rw[Bool.or_eq_true];right;rw[List.any_eq_true];exact⟨lsI a k,List.mem_range.2 (by omega),by rw[show rotL' a (lsI a k)=lsA a k from rfl,show rotL' k (lsI a k)=lsK a k from rfl,A4i,A4i];rfl⟩
theorem C5k {a k:List Int}{i:Nat}(hi:i<a.length):B3Q (rotL' a i) (rotL' k i) (lsA a k) (lsK a k)=false:=by
 unfold B3Q;rw[A0K];have h1:=C78 (a:=a) (k:=k) hi;have h2:=A3r (lsA a k++lsK a k) (rotL' a i++rotL' k i);omega
theorem D4R (c l:Int)(ks:List Int)(x:Int)(hk:okK ks):SpecP Tryz.prog G 13 [fV c l ks,.int .i64 x] (.bool true) []:=by
 refine A0d hcm hmx D4Q D0i rfl (C9j c l ks x) ?_;dsimp -failIfUnchanged -proj -eta -iota -zeta only[rd,rdw,qs,ql,qx];obtain⟨hl,h8,hA,hK⟩:=B7O (c:=c) (l:=l) hk;have hc:=B8X (c:=c) (l:=l) hk;generalize ofA c l ks=A at*;generalize ofK c ks=K at*;have l1:(lsA A K).length=A.length:=by unfold lsA;rw[A1i]
 have l2:(lsK A K).length=K.length:=by unfold lsK;rw[A1i]
 simp only[A0n,A0K,A0H,A09,A0Q,A1x,A0E,A03,A0w,A1t,A1q,A0F,A0I,A0r,A0J,A0G,List.getElem?_drop,beq_iff_eq,beq_eq_false_iff_ne,bne_iff_ne,bne_eq_false_iff_eq,ne_eq,Nat.zero_add,Nat.add_zero,Nat.mul_one,Int.toNat_natCast,and_true,true_and,List.length_drop,List.length_append,List.length_cons,List.length_nil,List.length_set,List.getD_eq_getElem?_getD,implies_true,iI,iL,Bool.not_eq_true',Bool.not_eq_false',Int.natCast_inj,Bool.not_not,l1,l2,<- hl];refine⟨hk,⟨by omega,hc⟩,⟨0,rfl,by omega,B8l⟩,?_⟩;rintro⟨kk,f⟩ ⟨n,rfl,hn,rfl⟩;refine⟨fun hlt=>?_,fun hge=>?_⟩
 ·simp only at hlt;have hnl:n<A.length:=by omega
  have ht:tOk A n=true:=by unfold tOk;rw[decide_eq_true_eq];omega
  obtain⟨r1,r2⟩:=C3v (a:=A) (k:=K) hl.symm hnl;have hcr:=C1o hc (i:=n) (by omega);have hbf:=C5k (a:=A) (k:=K) hnl;have hfs:=B8k (a:=A) (k:=K) (n:=n);simp only[ht,bLt,cond_true,bI,Int.toNat_natCast,A1i,<- hl,r1,r2,l1,l2,A4i,hbf,Bool.and_self,Bool.true_and,true_and];refine⟨⟨by omega,hc⟩,⟨by omega,hcr⟩,by omega,⟨0,rfl,by omega⟩,?_⟩;rintro⟨i⟩ ⟨m,rfl,hm⟩;simp only[Int.toNat_natCast];refine⟨fun hlm=>?_,fun hgm=>?_⟩
  ·have e1:(m:Int)+(n:Int)=((m+n:Nat):Int):=by omega
   have t1:∀x y:Nat,((x:Int)).tmod (y:Int)=((x%y:Nat):Int):=fun x y=>rfl;have g1:=A6z (l:=A) (i:=n) (m:=m) (by omega) (by omega);have g2:=A6z (l:=K) (i:=n) (m:=m) (by omega) (by omega);rw[<- hl]at g2;have m1:(m+n)%A.length<A.length:=Nat.mod_lt _ (by omega);simp only[e1,t1,Int.toNat_natCast,g1,g2,true_and,and_true,true_imp_iff,imp_self];simp only[bne_self_eq_false,cond_false,true_and,Bool.cond_self];refine⟨by omega,by omega,by omega,by omega,by omega,by omega,by omega,by omega,by omega,by omega,by omega,by omega,by omega,by omega,by omega,by omega,by omega,by omega,by omega,⟨m+1,by omega,by omega⟩,by omega⟩
  ·refine⟨fun hf=>⟨by omega,by omega,⟨n+1,by omega,by omega,?_⟩,by omega⟩,fun hf=>⟨by omega,by omega,by omega,⟨n+1,by omega,by omega,?_⟩,by omega⟩⟩
   ·rw[hfs,hf];rfl
   ·rw[hfs,hf];rfl
 ·simp only at hge;obtain rfl:n=A.length:=by omega
  have hf:=B8m (a:=A) (k:=K);simp only[hf];refine⟨⟨by omega,hc⟩,fun h0=>⟨fun h1=>⟨trivial,?_⟩,fun h1=>⟨trivial,?_,fun hne=>?_⟩⟩,fun h0=>⟨trivial,?_⟩⟩
  ·have e:tOk A x=true:=by unfold tOk;rw[decide_eq_true_eq];omega
   rw[e];rfl
  ·by_cases hx:x=0
   ·have e:tOk A x=true:=by unfold tOk;rw[decide_eq_true_eq];omega
    rw[e,hx];rfl
   ·have e:tOk A x=false:=by unfold tOk;rw[decide_eq_false_iff_not];omega
    rw[e,beq_eq_false_iff_ne.2 hx];rfl
  ·have e:tOk A x=false:=by unfold tOk;rw[decide_eq_false_iff_not];omega
   rw[e];exact⟨rfl,rfl⟩
  ·have e:tOk A x=false:=by unfold tOk;rw[decide_eq_false_iff_not];omega
   rw[e];exact⟨rfl,rfl,rfl⟩
end Go.Proofs.YtfafinkgmhkdmaaGreatDoor.X
