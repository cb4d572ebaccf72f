/-
 The contracts of the fan of a corner, of flat fans.
-/
import Derived.Test.YtfafinkgmhkdmaaGreatDoorFC2Z
import Derived.Test.YtfafinkgmhkdmaaGreatDoorFO6Z
import Derived.Test.YtfafinkgmhkdmaaGreatDoorVC15Z
set_option maxRecDepth 1000000
set_option linter.unusedVariables false
set_option linter.unusedSimpArgs false
namespace Go.Proofs.YtfafinkgmhkdmaaGreatDoor.X
open Go Go.Ab

theorem eClV_ok38:CtOk Tryz.prog G 38 (eClV .i64):=by
 intro args r h hp
 unfold eClV at h
 split at h
 ·rw[cond_eq_ite]at h
  split at h
  ·rename_i hk
   cases beqK_ok hk
   cases h
   have hp:_=_:=hp
   subst hp
   exact(fnP_spec hcm hmx T0ok ok38 rfl (ob_o38 _) (by simp[Cont.size]):SpecP Tryz.prog G 38 [_] _ _).caps
  ·cases h
 ·cases h
theorem eClV_ok39:CtOk Tryz.prog G 39 (eClV .u8):=by
 intro args r h hp
 unfold eClV at h
 split at h
 ·rw[cond_eq_ite]at h
  split at h
  ·rename_i hk
   cases beqK_ok hk
   cases h
   have hp:_=_:=hp
   subst hp
   exact(fnP_spec hcm hmx T0ok ok39 rfl (ob_o39 _) (by simp[Cont.size]):SpecP Tryz.prog G 39 [_] _ _).caps
  ·cases h
 ·cases h
theorem ct8f {l:List P.Cr}{x y:Int}(hl:okZ l)(hp:ptZ x y):CtOk Tryz.prog G 8 (e8f l (raysL l x y) x y):=by
 intro args r h hq
 unfold e8f at h
 split at h<;>cases h
 obtain⟨rfl,rfl,rfl,rfl⟩:=hq
 exact(sp8 l _ _ hl hp).caps
theorem T9zok {l:List P.Cr}{x y:Int}(hl:okZ l)(hp:ptZ x y):TabOk Tryz.prog G (T9z l (raysL l x y) x y):=tabL_ok noCh_ok ⟨ct8f hl hp,eClV_ok38,eClV_ok39,trivial⟩
theorem raysL_bnd (l:List P.Cr)(x y:Int):∀z∈raysL l x y,bndR z:=fun z hz=>walkR_bnd l x y z ((srtR_ok (walkR_bnd l x y)).1.subset hz)
theorem dR_bnd {R:List Ry}(h:∀z∈R,bndR z)(i:Int):0≤dR R i∧dR R i≤7:=by
 unfold dR
 rcases Nat.lt_or_ge i.toNat R.length with hi|hi
 ·rw[List.getElem?_eq_getElem hi]
  exact h _ (List.getElem_mem hi)
 ·rw[List.getElem?_eq_none hi];decide
theorem angR_len (R:List Ry)(n:Nat):(angR R n).length=n:=by unfold angR;rw[List.length_map,List.length_range]
theorem angR_succ (R:List Ry)(n:Nat):angR R (n+1)=angR R n++[nxR R n-dR R n]:=by
 unfold angR
 rw[List.range_succ,List.map_append];rfl
theorem kndR_len (R:List Ry):(kndR R).length=R.length:=by unfold kndR;rw[List.length_map]
theorem kndR_get {R:List Ry}{n:Nat}(h:n<R.length):(kndR R).take (n+1)=(kndR R).take n++[kR R n]:=by
 have e:R[n]? =some R[n]:=List.getElem?_eq_getElem h
 rw[List.take_add_one]
 congr 1
 unfold kndR kR
 rw[List.getElem?_map,Int.toNat_natCast,e];rfl
theorem sp9 (l:List P.Cr)(x y:Int)(hl:okZ l)(hp:ptZ x y):SpecP Tryz.prog G 9 [patZ l,.agg [.int .i64 x,.int .i64 y]] (.tup [fanC (angR (raysL l x y) (raysL l x y).length) (kndR (raysL l x y)),.int .i64 (dR (raysL l x y) 0),.int .i64 0]) []:=by
 refine fnP_spec hcm hmx (T9zok hl hp) ok9 rfl (ob_o9 l (raysL l x y) x y) ?_
 have hb:=raysL_bnd l x y
 have h8:(raysL l x y).length≤8:=by rw[raysL_len];exact walkR_len l x y
 generalize raysL l x y=R at*
 have hal:=angR_len R
 have hkl:=kndR_len R
 have hfl:=flR_len R
 simp only[ltb_iff,ltb_no,leb_iff,leb_no,ltn_iff,ltn_no,len'_iff,len'_no,inR_i64,size_ints,size_vals,getD_drop,List.getElem?_drop,beq_iff_eq,beq_eq_false_iff_ne,bne_iff_ne,ne_eq,Nat.zero_add,Nat.add_zero,Int.toNat_natCast,and_true,true_and,List.length_append,List.length_cons,List.length_nil,implies_true,iI,iL,Bool.not_eq_true',hal,hkl,hfl]
 refine⟨fun h0=>?_,fun h0=>?_⟩
 ·have hR:R=[]:=List.eq_nil_of_length_eq_zero (by omega)
  subst hR
  refine⟨rfl,rfl,rfl,?_⟩
  repeat (first|exact rfl|refine⟨rfl,?_⟩)
 ·refine⟨⟨0,rfl,by omega,rfl,rfl⟩,?_⟩
  rintro⟨i,a,k⟩ ⟨n,rfl,hn,rfl,rfl⟩
  simp only[Int.toNat_natCast,List.length_take,hal,hkl]
  refine⟨fun hlt=>?_,fun hge=>?_⟩
  ·have hnl:n<R.length:=by omega
   obtain⟨g1,g2⟩:=flR_get hnl
   have hm:((n:Int)+1).tmod (R.length:Int)=(((n+1)%R.length:Nat):Int):=by
    have:((n:Int)+1)=((n+1:Nat):Int):=by omega
    rw[this];rfl
   have hml:(n+1)%R.length<R.length:=Nat.mod_lt _ (by omega)
   obtain⟨q1,q2⟩:=flR_get hml
   have b1:=dR_bnd hb n
   have b2:=dR_bnd hb (((n+1)%R.length:Nat):Int)
   have hnx:nxR R n=cond ((n:Int)+1==R.length) (dR R (((n+1)%R.length:Nat):Int)+8) (dR R (((n+1)%R.length:Nat):Int)):=by unfold nxR;rw[hm]
   rw[hm]
   simp only[Int.toNat_natCast]
   have nx1:(n:Int)+1=R.length→nxR R n=dR R (((n+1)%R.length:Nat):Int)+8:=fun e=>by rw[hnx,beq_iff_eq.2 e];rfl
   have nx2:¬ (n:Int)+1=R.length→nxR R n=dR R (((n+1)%R.length:Nat):Int):=fun e=>by rw[hnx,beq_eq_false_iff_ne.2 e];rfl
   have nxb:0≤nxR R n∧nxR R n≤15:=by
    by_cases e:(n:Int)+1=R.length
    ·rw[nx1 e];omega
    ·rw[nx2 e];omega
   refine⟨by omega,by omega,by omega,g1,g2,by omega,by omega,by omega,by omega,by omega,q1,⟨by omega,fun e=>⟨by omega,(nx1 e).symm⟩,fun e=>(nx2 e).symm⟩,?_⟩
   rintro⟨v⟩ hv
   have hv:v=nxR R n:=hv
   subst hv
   simp only
   exact⟨by omega,by omega,by omega,by omega,⟨n+1,by omega,by omega,(angR_succ R n).symm,(kndR_get hnl).symm⟩,by omega⟩
  ·obtain rfl:n=R.length:=by omega
   have g0:=(flR_get (R:=R) (n:=0) (by omega)).1
   exact⟨by omega,by omega,g0,rfl,rfl,rfl,by rw[List.take_of_length_le (by omega)],by omega,by omega⟩
theorem ct9z:CtOk Tryz.prog G 9 e9z:=by
 intro args r h hp
 unfold e9z at h
 split at h<;>cases h
 rename_i a n c x y
 obtain⟨⟨⟨h1,h2,h3⟩,h4⟩,h5⟩:=hp
 generalize P.unC a=l at*
 subst h1 h2
 exact(sp9 l x y h4 h5).caps
theorem ct5z:CtOk Tryz.prog G 5 e5z:=by
 intro args r h hp
 unfold e5z at h
 split at h<;>cases h
 rename_i c l ks n _
 obtain⟨rfl,hk⟩:=hp
 exact(fnP_spec hcm hmx (tabL_ok (l:=[(16,e25)]) noCh_ok ⟨ct25,trivial⟩) ok5 rfl (ob_o5 c l ks) (by simp;exact hk):SpecP Tryz.prog G 5 [fV c l ks] (fanV (ofA c 0 ks) (ofK c ks)) []).caps
end Go.Proofs.YtfafinkgmhkdmaaGreatDoor.X
