/-
 The contracts of folding; of a fan behind an angle, by definition.
-/
import Derived.Test.YthiammkiobbclaaGreatDoorC4Z
set_option maxRecDepth 1000000
set_option linter.unusedVariables false
set_option linter.unusedSimpArgs false
namespace Go.Proofs.YthiammkiobbclaaGreatDoor.X
open Go Go.Ab

theorem two {l:List Int}(h:l.length=2):∃x y,l=[x,y]:=by
 match l,h with
 |[x,y],_=>exact⟨x,y,rfl⟩
theorem sp14 (a k:List Int)(hz:a.length<1000000000)(hkz:k.length<1000000000):SpecP Tryz.prog G 20 [fanV a k] (.tup [.bool (okD a k&&foldB a k),.int .i64 (dcd a k)]) []:=by
 refine fnP_spec hcm hmx UFok ok20 rfl (ob_o14 a k) ?_
 dsimp -failIfUnchanged -proj -eta -iota -zeta only[rd,rdw,qs,ql,qx]
 simp only[ltb_iff,ltb_no,leb_iff,leb_no,ltn_iff,ltn_no,len'_iff,len'_no,inR_i64,inR_u8,inR_i32,size_ints,size_bools,size_vals,size_cells,getD_drop,List.getElem?_drop,beq_iff_eq,beq_eq_false_iff_ne,bne_iff_ne,bne_eq_false_iff_eq,ne_eq,Nat.zero_add,Nat.add_zero,Nat.mul_one,Int.toNat_natCast,and_true,true_and,List.length_drop,List.length_append,List.length_cons,List.length_nil,List.length_set,List.getD_eq_getElem?_getD,implies_true,iI,iL,Bool.not_eq_true',Bool.not_eq_false',Int.natCast_inj,List.drop_zero,Bool.and_eq_true,Bool.not_not,Bool.and_true,Bool.true_and]
 refine⟨by omega,fun h=>?_,fun h=>?_⟩
 ·have e:okD a k=false:=by simpa[okD]using h
  simp[e]
 ·have hok:=dcd_ok h
  obtain⟨q1,q2,q3⟩:=rd_ok hok
  have eD:okD a k=true:=okD_iff.2 h
  have hb:=base_iff (a:=rdA a k) (k:=rdK a k)
  rw[q3]at hb
  have hl:=okF_len q1
  have hl2:=hl.2 (by omega)
  have hl:=hl.1
  simp only[bLs_yes eD,eD,Bool.true_and]
  generalize rdA a k=A at*
  generalize rdK a k=K at*
  generalize foldB a k=B at*
  simp only[bLs,cond_true]
  have hi0:A.length≠0→((A.length:Int)==0)=false:=fun h=>beq_eq_false_iff_ne.2 (by omega)
  refine⟨fun h0=>?_,fun h0=>⟨fun h2=>⟨fun h3=>?_,fun h3=>?_⟩,fun h2=>?_⟩⟩
  ·have eB:B=true:=hb.2 (.inl h0)
   simp[h0,eB,h]
  ·have eB:(K[0]?.getD 0==K[1]?.getD 0)=B:=by
    rw[Bool.eq_iff_iff,hb,beq_iff_eq]
    omega
   obtain⟨x,y,rfl⟩:=two h2
   obtain⟨u,v,rfl⟩:=two (hl.trans h2)
   simp at h3 eB
   simp[h3,eB,h]
  ·have eB:B=false:=by
    rw[Bool.eq_false_iff]
    intro hB
    have:=hb.1 hB
    omega
   obtain⟨x,y,rfl⟩:=two h2
   obtain⟨u,v,rfl⟩:=two (hl.trans h2)
   simp at h3
   simp[h3,eB,h]
  ·have eB:B=false:=by
    rw[Bool.eq_false_iff]
    intro hB
    have:=hb.1 hB
    omega
   have e1:¬ (A.length:Int)=2:=by omega
   have e2:¬ A=[]:=fun e=>h0 (by rw[e];rfl)
   simp[h2,hl,h0,e1,e2,eB,h]
theorem ct14:CtOk Tryz.prog G 20 e14:=by
 intro args r h hp
 unfold e14 at h
 split at h<;>cases h
 obtain⟨rfl,rfl,h1,h2⟩:=hp
 exact(sp14 _ _ h1 h2).caps
end Go.Proofs.YthiammkiobbclaaGreatDoor.X
