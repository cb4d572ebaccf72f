/-
 The contracts of the functions on corners.
-/
import Derived.Test.YtfafinkgmhkdmaaGreatDoorFO1Z
import Derived.Test.YtfafinkgmhkdmaaGreatDoorFO2Z
import Derived.Test.YtfafinkgmhkdmaaGreatDoorFO3Z
import Derived.Test.YtfafinkgmhkdmaaGreatDoorVC7Z
set_option maxRecDepth 1000000
set_option linter.unusedVariables false
set_option linter.unusedSimpArgs false
namespace Go.Proofs.YtfafinkgmhkdmaaGreatDoor.X
open Go Go.Ab

theorem ct33z:CtOk Tryz.prog G 33 e33z:=by
 intro args r h hp
 unfold e33z at h
 split at h<;>cases h
 exact(fnP_spec hcm hmx T0ok ok33 rfl (ob_o33 _ _ _ _) (by simp):SpecP Tryz.prog G 33 [_,_] _ _)
theorem ct34z:CtOk Tryz.prog G 34 e34z:=by
 intro args r h hp
 unfold e34z at h
 split at h<;>cases h
 rename_i a n c i e
 exact P.ct16 [.agg [.int .i64 2,.int .i64 2,.imm (.vals a) n c],.int .i64 i,.int .u8 e] ⟨_,_,some _⟩ rfl hp
theorem TK8ok:TabOk Tryz.prog G TK8:=tabL_ok noCh_ok ⟨ct34z,trivial⟩
theorem okCl_in {x y q:Int}(h:inZ x y q):P.okCl x y q=true:=by
 unfold inZ at h
 unfold P.okCl
 rw[decide_eq_true_eq];omega
theorem T86ok:TabOk Tryz.prog G T86:=tabL_ok noCh_ok ⟨P.ct92,trivial⟩
theorem sp86_0 (x y:Int)(h:inZ x y 0):SpecP Tryz.prog G 86 [.agg [.int .i64 x,.int .i64 y,.int .u8 0]] (.tup [.agg (corZ x y 0),.int .i64 0]) []:=by
 refine fnP_spec hcm hmx T86ok ok86 rfl (ob_o86_0 x y) ?_
 have hk:=okCl_in h
 unfold inZ at h
 simp only[hk,P.bI,inR_i64,cx,cy,qhZ,qgZ]
 simp
 omega
theorem sp86_1 (x y:Int)(h:inZ x y 1):SpecP Tryz.prog G 86 [.agg [.int .i64 x,.int .i64 y,.int .u8 1]] (.tup [.agg (corZ x y 1),.int .i64 0]) []:=by
 refine fnP_spec hcm hmx T86ok ok86 rfl (ob_o86_1 x y) ?_
 have hk:=okCl_in h
 unfold inZ at h
 simp only[hk,P.bI,inR_i64,cx,cy,qhZ,qgZ]
 simp
 omega
theorem sp86_2 (x y:Int)(h:inZ x y 2):SpecP Tryz.prog G 86 [.agg [.int .i64 x,.int .i64 y,.int .u8 2]] (.tup [.agg (corZ x y 2),.int .i64 0]) []:=by
 refine fnP_spec hcm hmx T86ok ok86 rfl (ob_o86_2 x y) ?_
 have hk:=okCl_in h
 unfold inZ at h
 simp only[hk,P.bI,inR_i64,cx,cy,qhZ,qgZ]
 simp
 omega
theorem sp86_3 (x y:Int)(h:inZ x y 3):SpecP Tryz.prog G 86 [.agg [.int .i64 x,.int .i64 y,.int .u8 3]] (.tup [.agg (corZ x y 3),.int .i64 0]) []:=by
 refine fnP_spec hcm hmx T86ok ok86 rfl (ob_o86_3 x y) ?_
 have hk:=okCl_in h
 unfold inZ at h
 simp only[hk,P.bI,inR_i64,cx,cy,qhZ,qgZ]
 simp
 omega
theorem ct86z:CtOk Tryz.prog G 86 e86:=by
 intro args r h hp
 unfold e86 at h
 split at h<;>cases h
 rename_i x y q
 have hp:inZ x y q:=hp
 have:q=0∨q=1∨q=2∨q=3:=by unfold inZ at hp;omega
 rcases this with rfl|rfl|rfl|rfl
 ·exact sp86_0 _ _ hp
 ·exact sp86_1 _ _ hp
 ·exact sp86_2 _ _ hp
 ·exact sp86_3 _ _ hp
theorem T57ok:TabOk Tryz.prog G T57:=tabL_ok noCh_ok ⟨ct86z,trivial⟩
theorem ct57:CtOk Tryz.prog G 57 e57:=by
 intro args r h hp
 unfold e57 at h
 split at h<;>cases h
 rename_i x y q e ax ay
 obtain⟨h1,h2,h3⟩:=hp
 have:e=0∨e=1∨e=2:=by omega
 rcases this with rfl|rfl|rfl
 ·exact(fnP_spec hcm hmx T57ok ok57 rfl (ob_o57_0 x y q ax ay) ⟨h1,rfl,trivial⟩:SpecP Tryz.prog G 57 [_,_,_] _ _)
 ·exact(fnP_spec hcm hmx T57ok ok57 rfl (ob_o57_1 x y q ax ay) ⟨h1,rfl,trivial⟩:SpecP Tryz.prog G 57 [_,_,_] _ _)
 ·exact(fnP_spec hcm hmx T57ok ok57 rfl (ob_o57_2 x y q ax ay) ⟨h1,rfl,trivial⟩:SpecP Tryz.prog G 57 [_,_,_] _ _)
theorem ct58:CtOk Tryz.prog G 58 e58:=by
 intro args r h hp
 unfold e58 at h
 split at h<;>cases h
 rename_i x y q e ax ay
 refine(fnP_spec hcm hmx T0ok ok58 rfl (ob_o58 x y q e ax ay) ⟨fun h=>?_,fun h=>?_⟩:SpecP Tryz.prog G 58 [_,_,_] _ _)
 ·rw[h];exact⟨rfl,trivial⟩
 ·rw[h];exact⟨rfl,trivial⟩
/-! ### Rays -/
theorem flR_app (a b:List Ry):flR (a++b)=flR a++flR b:=by unfold flR;rw[List.flatMap_append]
theorem flR_len (l:List Ry):(flR l).length=l.length*2:=RRy.flat_len l
theorem unR_flR:∀l:List Ry,unR (flR l)=l
 |[]=>rfl
 |x::l=>by
  have:=unR_flR l
  unfold flR at this ⊢
  rw[List.flatMap_cons]
  show(x.1,x.2)::unR (List.flatMap RRy.av l)=_
  rw[this]
theorem flR_get {R:List Ry}{n:Nat}(h:n<R.length):(flR R)[n*2]? =some (.int .i64 (dR R n))∧(flR R)[n*2+1]? =some (.int .u8 (kR R n)):=by
 have e:R[n]? =some R[n]:=List.getElem?_eq_getElem h
 have key:∀j,j<2→(flR R)[n*2+j]? =(RRy.av R[n])[j]? :=fun j hj=>by
  unfold flR
  rw[flatMap_row (by decide:0<2) RRy.av_len,show(n*2+j)/2=n by omega,show(n*2+j)%2=j by omega,e]
  rfl
 have d:dR R n=R[n].1:=by unfold dR;rw[Int.toNat_natCast,e];rfl
 have k:kR R n=R[n].2:=by unfold kR;rw[Int.toNat_natCast,e];rfl
 refine⟨?_,?_⟩
 ·rw[d];exact key 0 (by decide)
 ·rw[k];exact key 1 (by decide)
theorem addR_len (L:List Ry)(d k:Int):(addR L d k).length≤L.length+1:=by
 unfold addR
 cases(k==0)<;>simp
theorem unC_flC (l:List P.Cr):P.unC (P.flatC l)=l:=P.unC_flat l
theorem sy8 (l:List P.Cr)(L:List Ry)(x y i d c e:Int)(cap:Option Nat)(hl:L.length<1000000)(hz:l.length<1000000000)(hg:P.edg l)(he:0≤e∧e≤255):SpecD Tryz.prog G (.yld 9002) [.int .i64 i,.agg [.int .i64 d,.int .i64 c,.int .u8 e]] (H8 l L x y cap) (.bool true) [(512,bxO (.full 9001 (addR L d (knZ l c e)).length)),(9001,rowR (addR L d (knZ l c e)))] []:=by
 refine fnY_spec hcm hmx TK8ok (ob_y_8 l L x y i d c e cap) ?_
 rw[unC_flC]
 refine⟨⟨⟨rfl,rfl,hz⟩,hg,he⟩,fun hk=>?_,fun hk=>?_⟩
 ·have hk':(knZ l c e==0)=false:=by simpa using hk
  have ha:addR L d (knZ l c e)=L++[(d,knZ l c e)]:=by unfold addR;rw[hk'];rfl
  rw[ha,flR_app]
  have hs:flR [(d,knZ l c e)]=[.int .i64 d,.int .u8 (knZ l c e)]:=rfl
  rw[hs]
  simp[len'_iff]
  omega
 ·have hk':(knZ l c e==0)=true:=by simpa using hk
  have ha:addR L d (knZ l c e)=L:=by unfold addR;rw[hk'];rfl
  rw[ha]
  simp
theorem ch8ok (l:List P.Cr)(x y:Int):ChOk Tryz.prog G (ch8 l x y):=by
 intro h cv args r hr hp
 unfold ch8 at hr
 split at hr
 ·rw[cond_eq_ite]at hr
  split at hr
  ·rename_i hid
   cases hr
   obtain⟨rfl,h1,h2,h3,h4⟩:=hp
   have:=Nat.eq_of_beq_eq_true hid
   subst this
   exact sy8 _ _ _ _ _ _ _ _ _ h1 h2 h3 h4
  ·cases hr
 ·cases hr
theorem TY8ok (l:List P.Cr)(x y:Int):TabOk Tryz.prog G (TY8 l x y):=tabL_ok (ch8ok l x y) ⟨P.ct57,ct57,ct58,P.ct58,evC_ok 59,P.ct96,trivial⟩
end Go.Proofs.YtfafinkgmhkdmaaGreatDoor.X
