/-
 Rings, plain: what crosses in a ring's pile crosses in the fan's.
-/
import Derived.Test.YthiammkiobbclaaC20Z
import Derived.Test.YthiammkiobbclaaD21Z
set_option maxRecDepth 1000000
set_option linter.unusedVariables false
namespace Go.Proofs.Ythiammkiobbclaa.X
open Go Go.Ab

theorem anyN_if {n:Nat}{f:Int→Bool}:anyN n f=true↔∃j:Nat,j<n∧f j=true:=by
 unfold anyN
 rw[List.any_eq_true]
 exact⟨fun⟨x,hx,hf⟩=>⟨x,List.mem_range.1 hx,hf⟩,fun⟨x,hx,hf⟩=>⟨x,List.mem_range.2 hx,hf⟩⟩
theorem gR_bh {n:Nat}{r:List Int}(A:Alt n r){c:Int}(h0:0≤c)(h1:c<n):gR r (bhI n c)=gR r (c+1):=by
 rw[bhI_eq h0 h1]
 split
 ·rename_i h;rw[h,A.cl]
 ·rfl
theorem sid_bh {n:Nat}{r:List Int}(A:Alt n r){c:Int}(h0:0≤c)(h1:c<n):sidB r (bhI n c)=ltb (gR r (c+1)) (gR r c):=by
 obtain⟨q,rfl⟩:∃q:Nat,c=q:=⟨c.toNat,by omega⟩
 have hev:=A.ev
 unfold sidB
 rw[bhI_eq h0 h1]
 rcases Nat.mod_two_eq_zero_or_one q with hq|hq
 ·have u:=A.up q (by omega) hq
  rw[if_neg (by omega)]
  have d:=A.dn (q+1) (by omega) (by omega)
  rw[show((q+1:Nat):Int)=(q:Int)+1 by omega]at d
  rw[ltb_no.2 (by omega),ltb_no.2 (by omega)]
 ·have d:=A.dn q (by omega) hq
  rw[ltb_iff.2 d,ltb_iff]
  split
  ·have u:=A.up 0 (by omega) rfl
   exact u
  ·have u:=A.up (q+1) (by omega) (by omega)
   rwa [show((q+1:Nat):Int)=(q:Int)+1 by omega]at u
theorem bh_inj {n c d:Int}(h0:0≤c)(h1:c<n)(k0:0≤d)(k1:d<n):(bhI n c !=bhI n d)=(c !=d):=by
 by_cases h:c=d
 ·rw[h];simp
 ·have:bhI n c≠bhI n d:=fun e=>h (by rw[← bf_bh h0 h1,e,bf_bh k0 k1])
  rw[bne_iff_ne.2 h,bne_iff_ne.2 this]
theorem bes_crs {n:Nat}{r:List Int}(A:Alt n r){i x:Int}(i0:0≤i)(i1:i<n)(x0:0≤x)(x1:x<n)(w:Bool):
  ((bhI n x !=bhI n i)&&((gR r (bhI n x)==gR r (bhI n i))&&((sidB r (bhI n x)==sidB r (bhI n i))&&w)))=(besB r i x&&w):=by
 unfold besB
 rw[bh_inj x0 x1 i0 i1,gR_bh A x0 x1,gR_bh A i0 i1,sid_bh A x0 x1,sid_bh A i0 i1]
 cases h:gR r (x+1)==gR r (i+1)with
 |false=>simp
 |true=>rw[beq_iff_eq.1 h];simp[Bool.and_assoc]
theorem crR_eq {n:Nat}{r rk:List Int}(A:Alt n r):crR n r rk=crsB n r rk:=by
 rw[Bool.eq_iff_iff]
 constructor
 ·intro h
  obtain⟨i,hi,h⟩:=anyN_if.1 h
  have hb:=bhI_rng (n:=n) (c:=i) (by omega) (by omega)
  have hbi:(((bhI n i).toNat:Nat):Int)=bhI n i:=by omega
  refine anyN_if.2 ⟨(bhI n i).toNat,by omega,?_⟩
  rw[hbi]
  rcases(Bool.or_eq_true _ _▸h:cr1 n r rk i=true∨cr2 n r rk i=true)with h|h
  ·obtain⟨x,hx,h⟩:=anyN_if.1 h
   refine anyN_if.2 ⟨x,hx,?_⟩
   unfold c1B at h
   unfold crs1
   rw[gR_bh A (by omega) (by omega),h];rfl
  ·obtain⟨x,hx,h⟩:=anyN_if.1 h
   have hbx:=bhI_rng (n:=n) (c:=x) (by omega) (by omega)
   refine anyN_if.2 ⟨(bhI n x).toNat,by omega,?_⟩
   rw[show(((bhI n x).toNat:Nat):Int)=bhI n x by omega]
   unfold crs1
   rw[bf_bh (by omega) (by omega),bes_crs A (by omega) (by omega) (by omega) (by omega)]
   unfold c2B at h
   rw[h,Bool.or_true]
 ·intro h
  obtain⟨j,hj,h⟩:=anyN_if.1 h
  obtain⟨k,hk,h⟩:=anyN_if.1 h
  have hbj:=bfI_rng (n:=n) (c:=j) (by omega) (by omega)
  have ej:=bh_bf (n:=n) (c:=j) (by omega) (by omega)
  refine anyN_if.2 ⟨(bfI n j).toNat,by omega,?_⟩
  rw[show(((bfI n j).toNat:Nat):Int)=bfI n j by omega]
  unfold crs1 at h
  rcases(Bool.or_eq_true _ _▸h)with h|h
  ·have:cr1 n r rk (bfI n j)=true:=anyN_if.2 ⟨k,hk,by
    unfold c1B
    rw[← gR_bh A (by omega) (by omega),ej];exact h⟩
   rw[this];rfl
  ·have hbk:=bfI_rng (n:=n) (c:=k) (by omega) (by omega)
   have ek:=bh_bf (n:=n) (c:=k) (by omega) (by omega)
   have e:=bes_crs A (i:=bfI n j) (x:=bfI n k) (by omega) (by omega) (by omega) (by omega) (leb 0 (mnI (gR rk (bfI n k)) (gR rk k))&&(btwB n rk j (bfI n k) !=btwB n rk j k))
   rw[ej,ek,h]at e
   have:cr2 n r rk (bfI n j)=true:=anyN_if.2 ⟨(bfI n k).toNat,by omega,by
    rw[show(((bfI n k).toNat:Nat):Int)=bfI n k by omega]
    unfold c2B
    rw[ej,ek];exact e.symm⟩
   rw[this,Bool.or_true]
end Go.Proofs.Ythiammkiobbclaa.X
