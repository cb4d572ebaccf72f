/-
 The contracts of the functions on corners.
-/
import Derived.Test.YtfafinkgmhkdmaaGreatDoorFO1Z
import Derived.Test.YtfafinkgmhkdmaaGreatDoorFO2Z
import Derived.Test.YtfafinkgmhkdmaaGreatDoorFO3Z
import Derived.Test.YtfafinkgmhkdmaaGreatDoorVC7Z
set_option maxRecDepth 1000000
set_option linter.unusedVariables false
set_option linter.unusedSimpArgs false
namespace Go.Proofs.YtfafinkgmhkdmaaGreatDoor.X
open Go Go.Ab
theorem C9d:A06 Tryz.prog G 33 C8N:=by
 intro args r h hp;unfold C8N at h;split at h<;>cases h;exact(A0d hcm hmx A26 D0T rfl (C0B _ _ _ _) (by simp):SpecP Tryz.prog G 33 [_,_] _ _)
theorem C9e:A06 Tryz.prog G 34 C8M:=by
 intro args r h hp;unfold C8M at h;split at h<;>cases h;rename_i a n c i e;exact P.ct16 [.agg [.int .i64 2,.int .i64 2,.imm (.vals a) n c],.int .i64 i,.int .u8 e] ⟨_,_,some _⟩ rfl hp
theorem C9f:TabOk Tryz.prog G TK8:=A0m A0s ⟨C9e,trivial⟩
theorem A80 {x y q:Int}(h:inZ x y q):P.okCl x y q=true:=by
 unfold inZ at h;unfold P.okCl;rw[decide_eq_true_eq];omega
theorem B8b:TabOk Tryz.prog G T86:=A0m A0s ⟨P.ct92,trivial⟩
theorem C4H (x y:Int)(h:inZ x y 0):SpecP Tryz.prog G 86 [.agg [.int .i64 x,.int .i64 y,.int .u8 0]] (.tup [.agg (B7M x y 0),.int .i64 0]) []:=by
 refine A0d hcm hmx B8b C2k rfl (B7S x y) ?_;have hk:=A80 h;unfold inZ at h;simp only[hk,P.bI,A0w,cx,cy,qhZ,qgZ];simp;omega
theorem C4I (x y:Int)(h:inZ x y 1):SpecP Tryz.prog G 86 [.agg [.int .i64 x,.int .i64 y,.int .u8 1]] (.tup [.agg (B7M x y 1),.int .i64 0]) []:=by
 refine A0d hcm hmx B8b C2k rfl (B7T x y) ?_;have hk:=A80 h;unfold inZ at h;simp only[hk,P.bI,A0w,cx,cy,qhZ,qgZ];simp;omega
theorem C4J (x y:Int)(h:inZ x y 2):SpecP Tryz.prog G 86 [.agg [.int .i64 x,.int .i64 y,.int .u8 2]] (.tup [.agg (B7M x y 2),.int .i64 0]) []:=by
 refine A0d hcm hmx B8b C2k rfl (B7U x y) ?_;have hk:=A80 h;unfold inZ at h;simp only[hk,P.bI,A0w,cx,cy,qhZ,qgZ];simp;omega
theorem C4K (x y:Int)(h:inZ x y 3):SpecP Tryz.prog G 86 [.agg [.int .i64 x,.int .i64 y,.int .u8 3]] (.tup [.agg (B7M x y 3),.int .i64 0]) []:=by
 refine A0d hcm hmx B8b C2k rfl (B7V x y) ?_;have hk:=A80 h;unfold inZ at h;simp only[hk,P.bI,A0w,cx,cy,qhZ,qgZ];simp;omega
theorem C9g:A06 Tryz.prog G 86 e86:=by
 intro args r h hp;unfold e86 at h;split at h<;>cases h;rename_i x y q;have hp:inZ x y q:=hp;have:q=0\/q=1\/q=2\/q=3:=by unfold inZ at hp;omega
 rcases this with rfl|rfl|rfl|rfl
 ·exact C4H _ _ hp
 ·exact C4I _ _ hp
 ·exact C4J _ _ hp
 ·exact C4K _ _ hp
theorem C0Y:TabOk Tryz.prog G T57:=A0m A0s ⟨C9g,trivial⟩
theorem C9h:A06 Tryz.prog G 57 C8O:=by
 intro args r h hp;unfold C8O at h;split at h<;>cases h;rename_i x y q e ax ay;obtain⟨h1,h2,h3⟩:=hp;have:e=0\/e=1\/e=2:=by omega
 rcases this with rfl|rfl|rfl
 ·exact(A0d hcm hmx C0Y C6d rfl (B7W x y q ax ay) ⟨h1,rfl,trivial⟩:SpecP Tryz.prog G 57 [_,_,_] _ _)
 ·exact(A0d hcm hmx C0Y C6d rfl (B7X x y q ax ay) ⟨h1,rfl,trivial⟩:SpecP Tryz.prog G 57 [_,_,_] _ _)
 ·exact(A0d hcm hmx C0Y C6d rfl (B7Y x y q ax ay) ⟨h1,rfl,trivial⟩:SpecP Tryz.prog G 57 [_,_,_] _ _)
theorem ct58:A06 Tryz.prog G 58 e58:=by
 intro args r h hp;unfold e58 at h;split at h<;>cases h;rename_i x y q e ax ay;refine(A0d hcm hmx A26 D1u rfl (B5I x y q e ax ay) ⟨fun h=>?_,fun h=>?_⟩:SpecP Tryz.prog G 58 [_,_,_] _ _)
 ·rw[h];exact⟨rfl,trivial⟩
 ·rw[h];exact⟨rfl,trivial⟩
theorem C0Z (a b:List Ry):flR (a++b)=flR a++flR b:=by unfold flR;rw[List.flatMap_append]
theorem B1D (l:List Ry):(flR l).length=l.length*2:=RRy.flat_len l
theorem A4H:∀l:List Ry,unR (flR l)=l
 |[]=>rfl
 |x::l=>by
  have:=A4H l;unfold flR at this ⊢;rw[List.flatMap_cons];show(x.1,x.2)::unR (List.flatMap RRy.av l)=_;rw[this]
theorem A81 {R:List Ry}{n:Nat}(h:n<R.length):(flR R)[n*2]? =some (.int .i64 (dR R n))/\(flR R)[n*2+1]? =some (.int .u8 (kR R n)):=by
 have e:R[n]? =some R[n]:=List.getElem?_eq_getElem h;have key:∀j,j<2->(flR R)[n*2+j]? =(RRy.av R[n])[j]? :=fun j hj=>by
  unfold flR;rw[A1M (by decide:0<2) RRy.av_len,show(n*2+j)/2=n by omega,show(n*2+j)%2=j by omega,e];rfl
 have d:dR R n=R[n].1:=by unfold dR;rw[Int.toNat_natCast,e];rfl
 have k:kR R n=R[n].2:=by unfold kR;rw[Int.toNat_natCast,e];rfl
 refine⟨?_,?_⟩
 ·rw[d];exact key 0 (by decide)
 ·rw[k];exact key 1 (by decide)
theorem A82 (L:List Ry)(d k:Int):(A0h L d k).length<=L.length+1:=by
 unfold A0h;cases(k==0)<;>simp
theorem B1E (l:List P.Cr):P.unC (P.flatC l)=l:=P.unC_flat l
theorem sy8 (l:List P.Cr)(L:List Ry)(x y i d c e:Int)(cap:Option Nat)(hl:L.length<1000000)(hz:l.length<1000000000)(hg:P.edg l)(he:0<=e/\e<=255):SpecD Tryz.prog G (.yld 9002) [.int .i64 i,.agg [.int .i64 d,.int .i64 c,.int .u8 e]] (H8 l L x y cap) (.bool true) [(512,bxO (.full 9001 (A0h L d (knZ l c e)).length)),(9001,B0P (A0h L d (knZ l c e)))] []:=by
 refine B2E hcm hmx C9f (C38 l L x y i d c e cap) ?_;rw[B1E];refine⟨⟨⟨rfl,rfl,hz⟩,hg,he⟩,fun hk=>?_,fun hk=>?_⟩
 ·have hk':(knZ l c e==0)=false:=by simpa using hk
  have ha:A0h L d (knZ l c e)=L++[(d,knZ l c e)]:=by unfold A0h;rw[hk'];rfl
  rw[ha,C0Z];have hs:flR [(d,knZ l c e)]=[.int .i64 d,.int .u8 (knZ l c e)]:=rfl;rw[hs];simp[A0E];omega
 ·have hk':(knZ l c e==0)=true:=by simpa using hk
  have ha:A0h L d (knZ l c e)=L:=by unfold A0h;rw[hk'];rfl
  rw[ha];simp
theorem C9i (l:List P.Cr)(x y:Int):B7i Tryz.prog G (ch8 l x y):=by
 intro h cv args r hr hp;unfold ch8 at hr;split at hr
 ·rw[cond_eq_ite]at hr;split at hr
  ·rename_i hid;cases hr;obtain⟨rfl,h1,h2,h3,h4⟩:=hp;have:=Nat.eq_of_beq_eq_true hid;subst this;exact sy8 _ _ _ _ _ _ _ _ _ h1 h2 h3 h4
  ·cases hr
 ·cases hr
theorem B6a (l:List P.Cr)(x y:Int):TabOk Tryz.prog G (TY8 l x y):=A0m (C9i l x y) ⟨P.ct57,C9h,ct58,P.ct58,C33 59,P.ct96,trivial⟩
end Go.Proofs.YtfafinkgmhkdmaaGreatDoor.X
