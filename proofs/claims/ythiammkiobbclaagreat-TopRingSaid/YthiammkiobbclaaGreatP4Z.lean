/-
 Cones, plain: what it means that nothing crosses.
-/
import Derived.Test.YthiammkiobbclaaGreatD11Z
import Derived.Test.YthiammkiobbclaaGreatC9Z
set_option maxRecDepth 1000000
set_option linter.unusedVariables false
set_option linter.unusedSectionVars false
set_option linter.unusedSimpArgs false
namespace Go.Proofs.YthiammkiobbclaaGreat.X
open Go Go.Ab

/-! ### Fans that alternate -/
structure Alt (n:Nat)(r:List Int):Prop where
 ev:n%2=0
 up:∀k:Nat,k<n→k%2=0→gR r (k:Int)<gR r ((k:Int)+1)
 dn:∀k:Nat,k<n→k%2=1→gR r ((k:Int)+1)<gR r (k:Int)
 cl:gR r (n:Int)=gR r 0
theorem rayL_last:∀(a:List Int) (x:Int) (p:Bool),(rayL x p a)[a.length]?.getD 0=x+sumP p a-sumP (!p) a
 |[],x,p=>by simp[rayL,sumP]
 |a::r,x,p=>by
  simp only[rayL,List.length_cons,List.getElem?_cons_succ,sumP]
  rw[rayL_last r]
  cases p<;>simp<;>omega
theorem alt_of {a k:List Int}(h:altS a k=true):Alt a.length (raysL a):=by
 obtain⟨h1,h2⟩:=altS_iff.1 h
 unfold altB at h2
 simp only[Bool.and_eq_true,Bool.not_eq_true',beq_eq_false_iff_ne,ne_eq,bne_eq_false_iff_eq]at h2
 obtain⟨h3,h4⟩:=h2
 have hev:a.length%2=0:=by
  rw[Int.tmod_eq_emod_of_nonneg (by omega)]at h3
  omega
 have ha:=(alt_facts h).2.2.1.1
 have st:∀k:Nat,k<a.length→gR (raysL a) ((k:Int)+1)=gR (raysL a) (k:Int)+a[k]?.getD 0*sgI k∧1≤a[k]?.getD 0:=fun k hk=>by
  have:=rayL_get a 0 true k hk
  unfold gR
  rw[show((k:Int)+1).toNat=k+1 by omega,Int.toNat_natCast]
  refine⟨by simpa[raysL]using this,?_⟩
  rw[List.getElem?_eq_getElem hk]
  exact ha _ (List.getElem_mem hk)
 refine⟨hev,fun k hk he=>?_,fun k hk he=>?_,?_⟩
 ·obtain⟨e1,e2⟩:=st k hk
  have:sgI k=1:=by unfold sgI;rw[Int.tmod_eq_emod_of_nonneg (by omega)];omega
  rw[this]at e1;omega
 ·obtain⟨e1,e2⟩:=st k hk
  have:sgI k= -1:=by unfold sgI;rw[Int.tmod_eq_emod_of_nonneg (by omega)];omega
  rw[this]at e1;omega
 ·have h5:=rayL_last a 0 true
  unfold gR raysL
  rw[Int.toNat_natCast,h5,h4]
  cases a<;>simp[rayL]
theorem nx_v {n:Nat}{k:Int}(h0:0≤k)(h1:k<n):(k+1).tmod n=if k+1=n then 0 else k+1:=by
 rw[Int.tmod_eq_emod_of_nonneg (by omega)]
 split
 ·rename_i h;rw[h,Int.emod_self]
 ·rw[Int.emod_eq_of_lt (by omega) (by omega)]
theorem nat_of {k:Int}(h:0≤k):∃m:Nat,k=m:=⟨k.toNat,by omega⟩
section
variable {n:Nat}{r:List Int}(A:Alt n r)
include A
theorem Alt.rise {k:Int}(h0:0≤k)(h1:k<n):(k%2=0∧gR r k<gR r (k+1))∨(k%2=1∧gR r (k+1)<gR r k):=by
 obtain⟨m,rfl⟩:=nat_of h0
 rcases Nat.mod_two_eq_zero_or_one m with h|h
 ·exact .inl ⟨by omega,A.up m (by omega) h⟩
 ·exact .inr ⟨by omega,A.dn m (by omega) h⟩
theorem Alt.nx {k:Int}(h0:0≤k)(h1:k<n):gR r ((k+1).tmod n)=gR r (k+1):=by
 rw[nx_v h0 h1]
 split
 ·rename_i h;rw[h,A.cl]
 ·rfl
/-- The event of a sector beside a ray. -/
theorem Alt.skip {g:Bool}{y k:Int}(h0:0≤k)(h1:k<n):skG r g y k=false↔
  (insB r y k=true∨(gR r k=y∧g=decide (k%2=0))∨(gR r (k+1)=y∧g=decide (k%2=1))):=by
 unfold skG insB mnI mxI
 rcases A.rise h0 h1 with⟨h,h'⟩|⟨h,h'⟩
 ·rw[if_neg (by omega),if_pos (by omega),h]
  cases g<;>simp[ltb_iff,leb_iff,leb_no,ltb_no]<;>omega
 ·rw[if_pos (by omega),if_neg (by omega),h]
  cases g<;>simp[ltb_iff,leb_iff,leb_no,ltb_no]<;>omega
end
theorem anyN_iff {n:Nat}{f:Int→Bool}:anyN n f=true↔∃i:Nat,i<n∧f i=true:=by
 unfold anyN
 rw[List.any_eq_true]
 simp[List.mem_range]
theorem anyN_noI {n:Nat}{f:Int→Bool}:anyN n f=false↔∀i:Nat,i<n→f i=false:=by
 rw[← Bool.not_eq_true,anyN_iff]
 constructor
 ·intro h i hi
  rw[← Bool.not_eq_true]
  exact fun h'=>h ⟨i,hi,h'⟩
 ·rintro h ⟨i,hi,h'⟩
  rw[h i hi]at h';cases h'
end Go.Proofs.YthiammkiobbclaaGreat.X
