/-
 The contracts of the fan of a corner, of flat fans.
-/
import Derived.Test.YtfafinkgmhkdmaaGreatDoorFC2Z
import Derived.Test.YtfafinkgmhkdmaaGreatDoorFO6Z
import Derived.Test.YtfafinkgmhkdmaaGreatDoorVC15Z
set_option maxRecDepth 1000000
set_option linter.unusedVariables false
set_option linter.unusedSimpArgs false
namespace Go.Proofs.YtfafinkgmhkdmaaGreatDoor.X
open Go Go.Ab
theorem B6e:A06 Tryz.prog G 38 (C1Q .i64):=by
 intro args r h hp;unfold C1Q at h;split at h
 ·rw[cond_eq_ite]at h;split at h
  ·rename_i hk;cases A0u hk;cases h;have hp:_=_:=hp;subst hp;exact(A0d hcm hmx A26 C2b rfl (C4b _) (by simp[Cont.size]):SpecP Tryz.prog G 38 [_] _ _).caps
  ·cases h
 ·cases h
theorem B6f:A06 Tryz.prog G 39 (C1Q .u8):=by
 intro args r h hp;unfold C1Q at h;split at h
 ·rw[cond_eq_ite]at h;split at h
  ·rename_i hk;cases A0u hk;cases h;have hp:_=_:=hp;subst hp;exact(A0d hcm hmx A26 C2c rfl (C4c _) (by simp[Cont.size]):SpecP Tryz.prog G 39 [_] _ _).caps
  ·cases h
 ·cases h
theorem D4H {l:List P.Cr}{x y:Int}(hl:okZ l)(hp:ptZ x y):A06 Tryz.prog G 8 (e8f l (raysL l x y) x y):=by
 intro args r h hq;unfold e8f at h;split at h<;>cases h;obtain⟨rfl,rfl,rfl,rfl⟩:=hq;exact(sp8 l _ _ hl hp).caps
theorem C9z {l:List P.Cr}{x y:Int}(hl:okZ l)(hp:ptZ x y):TabOk Tryz.prog G (T9z l (raysL l x y) x y):=A0m A0s ⟨D4H hl hp,B6e,B6f,trivial⟩
theorem B0F (l:List P.Cr)(x y:Int):∀z∈raysL l x y,B1z z:=fun z hz=>A16 l x y z ((A4I (A16 l x y)).1.subset hz)
theorem B6g {R:List Ry}(h:∀z∈R,B1z z)(i:Int):0<=dR R i/\dR R i<=7:=by
 unfold dR;rcases Nat.lt_or_ge i.toNat R.length with hi|hi
 ·rw[List.getElem?_eq_getElem hi];exact h _ (List.getElem_mem hi)
 ·rw[List.getElem?_eq_none hi];decide
theorem B27 (R:List Ry)(n:Nat):(angR R n).length=n:=by unfold angR;rw[List.length_map,List.length_range]
theorem B6h (R:List Ry)(n:Nat):angR R (n+1)=angR R n++[nxR R n-dR R n]:=by
 unfold angR;rw[List.range_succ,List.map_append];rfl
theorem B8f (R:List Ry):(kndR R).length=R.length:=by unfold kndR;rw[List.length_map]
theorem B8g {R:List Ry}{n:Nat}(h:n<R.length):(kndR R).take (n+1)=(kndR R).take n++[kR R n]:=by
 have e:R[n]? =some R[n]:=List.getElem?_eq_getElem h;rw[List.take_add_one]
 congr 1
 unfold kndR kR;rw[List.getElem?_map,Int.toNat_natCast,e];rfl
theorem sp9 (l:List P.Cr)(x y:Int)(hl:okZ l)(hp:ptZ x y):SpecP Tryz.prog G 9 [C6w l,.agg [.int .i64 x,.int .i64 y]] (.tup [A89 (angR (raysL l x y) (raysL l x y).length) (kndR (raysL l x y)),.int .i64 (dR (raysL l x y) 0),.int .i64 0]) []:=by
 refine A0d hcm hmx (C9z hl hp) ok9 rfl (C4e l (raysL l x y) x y) ?_;have hb:=B0F l x y;have h8:(raysL l x y).length<=8:=by rw[A6I];exact A6H l x y
 generalize raysL l x y=R at*;have hal:=B27 R;have hkl:=B8f R;have hfl:=B1D R;simp only[A0n,A0K,A0H,A09,A0Q,A1x,A0E,A03,A0w,A0F,A0r,A0G,List.getElem?_drop,beq_iff_eq,beq_eq_false_iff_ne,bne_iff_ne,ne_eq,Nat.zero_add,Nat.add_zero,Int.toNat_natCast,and_true,true_and,List.length_append,List.length_cons,List.length_nil,implies_true,iI,iL,Bool.not_eq_true',hal,hkl,hfl];refine⟨fun h0=>?_,fun h0=>?_⟩
 ·have hR:R=[]:=List.eq_nil_of_length_eq_zero (by omega);subst hR;refine⟨rfl,rfl,rfl,?_⟩
  repeat (first|exact rfl|refine⟨rfl,?_⟩)
 ·refine⟨⟨0,rfl,by omega,rfl,rfl⟩,?_⟩;rintro⟨i,a,k⟩ ⟨n,rfl,hn,rfl,rfl⟩;simp only[Int.toNat_natCast,List.length_take,hal,hkl];refine⟨fun hlt=>?_,fun hge=>?_⟩
  ·have hnl:n<R.length:=by omega
   obtain⟨g1,g2⟩:=A81 hnl;have hm:((n:Int)+1).tmod (R.length:Int)=(((n+1)%R.length:Nat):Int):=by
    have:((n:Int)+1)=((n+1:Nat):Int):=by omega
    rw[this];rfl
   have hml:(n+1)%R.length<R.length:=Nat.mod_lt _ (by omega);obtain⟨q1,q2⟩:=A81 hml;have b1:=B6g hb n;have b2:=B6g hb (((n+1)%R.length:Nat):Int);have hnx:nxR R n=cond ((n:Int)+1==R.length) (dR R (((n+1)%R.length:Nat):Int)+8) (dR R (((n+1)%R.length:Nat):Int)):=by unfold nxR;rw[hm]
   rw[hm];simp only[Int.toNat_natCast];have nx1:(n:Int)+1=R.length->nxR R n=dR R (((n+1)%R.length:Nat):Int)+8:=fun e=>by rw[hnx,beq_iff_eq.2 e];rfl
   have nx2:¬ (n:Int)+1=R.length->nxR R n=dR R (((n+1)%R.length:Nat):Int):=fun e=>by rw[hnx,beq_eq_false_iff_ne.2 e];rfl
   have nxb:0<=nxR R n/\nxR R n<=15:=by
    by_cases e:(n:Int)+1=R.length
    ·rw[nx1 e];omega
    ·rw[nx2 e];omega
   refine⟨by omega,by omega,by omega,g1,g2,by omega,by omega,by omega,by omega,by omega,q1,⟨by omega,fun e=>⟨by omega,(nx1 e).symm⟩,fun e=>(nx2 e).symm⟩,?_⟩;rintro⟨v⟩ hv;have hv:v=nxR R n:=hv;subst hv;simp only;exact⟨by omega,by omega,by omega,by omega,⟨n+1,by omega,by omega,(B6h R n).symm,(B8g hnl).symm⟩,by omega⟩
  ·obtain rfl:n=R.length:=by omega
   have g0:=(A81 (R:=R) (n:=0) (by omega)).1;exact⟨by omega,by omega,g0,rfl,rfl,rfl,by rw[List.take_of_length_le (by omega)],by omega,by omega⟩
theorem D4I:A06 Tryz.prog G 9 e9z:=by
 intro args r h hp;unfold e9z at h;split at h<;>cases h;rename_i a n c x y;obtain⟨⟨⟨h1,h2,h3⟩,h4⟩,h5⟩:=hp;generalize P.unC a=l at*;subst h1 h2;exact(sp9 l x y h4 h5).caps
theorem D4J:A06 Tryz.prog G 5 e5z:=by
 intro args r h hp;unfold e5z at h;split at h<;>cases h;rename_i c l ks n _;obtain⟨rfl,hk⟩:=hp;exact(A0d hcm hmx (A0m (l:=[(16,e25)]) A0s ⟨C6x,trivial⟩) ok5 rfl (C9w c l ks) (by simp;exact hk):SpecP Tryz.prog G 5 [fV c l ks] (A3T (ofA c 0 ks) (ofK c ks)) []).caps
end Go.Proofs.YtfafinkgmhkdmaaGreatDoor.X
