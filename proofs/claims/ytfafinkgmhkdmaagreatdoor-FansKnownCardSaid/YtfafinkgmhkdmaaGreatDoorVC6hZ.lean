/-
 The law on mirrored fans.
-/
import Derived.Test.YtfafinkgmhkdmaaGreatDoorVO6Z
import Derived.Test.YtfafinkgmhkdmaaGreatDoorVC3Z
set_option maxRecDepth 1000000
set_option linter.unusedVariables false
set_option linter.unusedSimpArgs false
namespace Go.Proofs.YtfafinkgmhkdmaaGreatDoor.X
open Go Go.Ab
theorem A4i (a:List Int):eqB a a=true:=by simp[eqB]
theorem D4c (a k b j:List Int)(h1:a.length=b.length)(h2:k.length=j.length)(hz:a.length<1000000000000)(hk:k.length<1000000000000):SpecP Tryz.prog G 10 [A89 a k,A3T b j] (.bool (eqB a b&&eqB k j)) []:=by
 refine A0d hcm hmx A26 D0d rfl (C4n a k b j) ?_;dsimp -failIfUnchanged -proj -eta -iota -zeta only[rd,rdw,qs,ql,qx];simp only[A0n,A0K,A0H,A09,A0Q,A1x,A0E,A03,A0w,A1t,A1q,A0F,A0I,A0r,A0J,A0G,List.getElem?_drop,beq_iff_eq,beq_eq_false_iff_ne,bne_iff_ne,bne_eq_false_iff_eq,ne_eq,Nat.zero_add,Nat.add_zero,Nat.mul_one,Int.toNat_natCast,and_true,true_and,List.length_drop,List.length_append,List.length_cons,List.length_nil,List.length_set,List.getD_eq_getElem?_getD,implies_true,iI,iL,Bool.not_eq_true',Bool.not_eq_false',Int.natCast_inj,Bool.not_eq_true,Bool.not_eq_false];refine⟨h1,h2,⟨0,rfl,by omega,rfl⟩,?_⟩;rintro⟨i⟩ ⟨n,rfl,hn,hi⟩;simp only[Int.toNat_natCast]at hi ⊢;refine⟨fun hlt=>?_,fun hge=>?_⟩
 ·have hs:=B20 (a:=a) (b:=b) (n:=n) (by omega) (by omega);refine⟨by omega,by omega,by omega,by omega,by omega,by omega,by omega,by omega,fun he=>?_,fun he=>⟨by omega,⟨n+1,by omega,by omega,?_⟩,by omega⟩⟩
  ·rw[decide_eq_false he,hi]at hs;rw[hs];rfl
  ·rw[decide_eq_true he,hi]at hs;rw[hs];rfl
 ·have hab:eqB a b=true:=by rw[<- hi];exact B57 (by omega) (by omega)
  refine⟨⟨0,rfl,by omega,hab,rfl⟩,?_⟩;rintro⟨i2⟩ ⟨m,rfl,hm,_,hj⟩;simp only[Int.toNat_natCast]at hj ⊢;refine⟨fun hl2=>?_,fun hg2=>?_⟩
  ·have hs:=B20 (a:=k) (b:=j) (n:=m) (by omega) (by omega);refine⟨by omega,by omega,by omega,by omega,by omega,by omega,by omega,by omega,fun he=>?_,fun he=>⟨by omega,⟨m+1,by omega,by omega,hab,?_⟩,by omega⟩⟩
   ·rw[decide_eq_false he,hj]at hs;rw[hs,Bool.false_and,Bool.and_false]
   ·rw[decide_eq_true he,hj]at hs;rw[hs];rfl
  ·rw[hab,<- hj,B57 (by omega) (by omega)];rfl
theorem C6y:A06 Tryz.prog G 10 e26:=by
 intro args r h hp;unfold e26 at h;split at h<;>cases h;obtain⟨rfl,rfl,rfl,rfl,rfl,rfl,h1,h2,h3,h4⟩:=hp;refine(D4c _ _ _ _ h1 h2 h3 h4).args fun w F xs hr=>?_;cases hr with
 |cons _ _ _ _ r1 rs=>cases rs with
  |cons _ _ _ _ r2 rs2=>exact .cons _ _ _ _ r1 (.cons _ _ _ _ r2.caps rs2)
end Go.Proofs.YtfafinkgmhkdmaaGreatDoor.X
