/-
 The contracts of the functions on fans: checked, given as data, compared; of places in rings.
-/
import Derived.Test.YthiammkiobbclaaMZ
set_option maxRecDepth 1000000
set_option linter.unusedVariables false
set_option linter.unusedSimpArgs false
namespace Go.Proofs.Ythiammkiobbclaa.X
open Go Go.Ab

theorem idxL_step {x:Int}{k:List Int}{n:Nat}(h:n<k.length):idxL x (k.drop n) n=if x=k[n]?.getD 0 then(n:Int)else idxL x (k.drop (n+1)) ((n+1:Nat):Int):=by
 rw[drop_step h];rfl
theorem idxL_end {x:Int}{k:List Int}{n:Nat}(h:k.length≤n):idxL x (k.drop n) n= -1:=by
 rw[List.drop_of_length_le h];rfl
theorem sp64 (k:List Int)(x:Int)(hz:k.length<1000000000000):SpecP Try.prog G 87 [.imm (.ints .i64 k) k.length none,.int .i64 x] (.int .i64 (idxL x k 0)) []:=by
 refine fnP_spec hcm hmx T0ok ok87 rfl (ob_o64 k x) ?_
 dsimp -failIfUnchanged -proj -eta -iota -zeta only[rd,rdw,qs,ql,qx]
 simp only[ltb_iff,ltb_no,leb_iff,leb_no,ltn_iff,ltn_no,len'_iff,len'_no,inR_i64,inR_u8,inR_i32,size_ints,size_bools,size_vals,size_cells,getD_drop,List.getElem?_drop,beq_iff_eq,beq_eq_false_iff_ne,bne_iff_ne,bne_eq_false_iff_eq,ne_eq,Nat.zero_add,Nat.add_zero,Nat.mul_one,Int.toNat_natCast,and_true,true_and,List.length_drop,List.length_append,List.length_cons,List.length_nil,List.length_set,List.getD_eq_getElem?_getD,implies_true,iI,iL,Bool.not_eq_true',Bool.not_eq_false',Int.natCast_inj]
 refine⟨⟨0,rfl,by omega,rfl⟩,?_⟩
 rintro⟨i⟩ ⟨n,rfl,hn,hi⟩
 simp only[Int.toNat_natCast]at hi ⊢
 refine⟨fun hlt=>⟨by omega,by omega,by omega,by omega,fun he=>?_,fun he=>⟨by omega,⟨n+1,by omega,by omega,?_⟩,by omega⟩⟩,fun hge=>?_⟩
 ·rw[idxL_step (by omega),if_pos he]at hi;exact hi
 ·rw[idxL_step (by omega),if_neg he]at hi;exact hi
 ·rw[idxL_end (by omega)]at hi;exact hi
theorem ct64:CtOk Try.prog G 87 (eIdx .i64):=by
 intro args r h hp
 unfold eIdx at h
 split at h
 ·rw[cond_eq_ite]at h
  split at h
  ·rename_i hk
   rw[Bool.and_eq_true]at hk
   cases h
   cases beqK_ok hk.1;cases beqK_ok hk.2
   obtain⟨rfl,hz⟩:=hp
   exact(sp64 _ _ hz).caps
  ·cases h
 ·cases h
theorem sp41 (a:List Int):SpecP Try.prog G 21 [.imm (.ints .i64 a) a.length none] (.imm (.ints .i64 a) a.length (some a.length)) []:=by
 refine fnP_spec hcm hmx T0ok ok21 rfl (ob_o41 a a.length) ?_
 simp[Cont.size]
theorem ct41:CtOk Try.prog G 21 (eClip .i64):=by
 intro args r h hp
 unfold eClip at h
 split at h
 ·rw[cond_eq_ite]at h
  split at h
  ·rename_i hk
   cases h
   cases beqK_ok hk
   obtain rfl:=hp
   exact(sp41 _).caps
  ·cases h
 ·cases h
theorem sp61 (a:List Int):SpecP Try.prog G 14 [.imm (.ints .u8 a) a.length none] (.imm (.ints .u8 a) a.length (some a.length)) []:=by
 refine fnP_spec hcm hmx T0ok ok14 rfl (ob_o61 a a.length) ?_
 simp[Cont.size]
theorem ct61:CtOk Try.prog G 14 (eClip .u8):=by
 intro args r h hp
 unfold eClip at h
 split at h
 ·rw[cond_eq_ite]at h
  split at h
  ·rename_i hk
   cases h
   cases beqK_ok hk
   obtain rfl:=hp
   exact(sp61 _).caps
  ·cases h
 ·cases h
theorem tlAok:CtsOk Try.prog G tlA:=⟨ct64,ct41,ct61,trivial⟩
theorem TAok:TabOk Try.prog G TA:=tabL_ok noCh_ok tlAok
theorem sp39 (k:List Int)(x:Int)(hz:k.length<1000000000000):SpecP Try.prog G 73 [.imm (.ints .i64 k) k.length none,.int .i64 x] (.bool (memB k x)) []:=by
 refine fnP_spec hcm hmx TAok ok73 rfl (ob_o39 k x) ?_
 simp[hz,memB]
theorem ct39:CtOk Try.prog G 73 (eHas .i64):=by
 intro args r h hp
 unfold eHas at h
 split at h
 ·rw[cond_eq_ite]at h
  split at h
  ·rename_i hk
   rw[Bool.and_eq_true]at hk
   cases h
   cases beqK_ok hk.1;cases beqK_ok hk.2
   obtain⟨rfl,hz⟩:=hp
   exact(sp39 _ _ hz).caps
  ·cases h
 ·cases h
end Go.Proofs.Ythiammkiobbclaa.X

/-
 Cones: the contracts of a folded fan's methods.
-/
set_option maxRecDepth 1000000
set_option linter.unusedVariables false
set_option linter.unusedSimpArgs false
namespace Go.Proofs.Ythiammkiobbclaa.X
open Go Go.Ab

theorem bfI_eq {n c:Int}(h0:0≤c)(h1:c<n):bfI n c=if c=0 then n-1 else c-1:=by
 unfold bfI
 rw[Int.tmod_eq_emod_of_nonneg (by omega)]
 split
 ·rename_i h;subst h
  rw[show 0+n-1=n-1 by omega,Int.emod_eq_of_lt (by omega) (by omega)]
 ·rw[show c+n-1=(c-1)+n by omega,Int.add_emod_right,Int.emod_eq_of_lt (by omega) (by omega)]
theorem bfI_rng {n c:Int}(h0:0≤c)(h1:c<n):0≤bfI n c∧bfI n c<n:=by
 rw[bfI_eq h0 h1];split<;>omega
theorem gR0 {r:List Int}{c:Int}:(List.drop c.toNat r).getD 0 0=gR r c:=by
 unfold gR;rw[List.getD_eq_getElem?_getD,List.getElem?_drop,Nat.add_zero]
theorem bt1 (x:Bool):((bif x then(x&&true)else true)=true)=True:=by cases x<;>simp
theorem anyN_no {n:Nat}{f:Int→Bool}(h:∀j:Nat,j<n→f j=false):anyN n f=false:=by
 unfold anyN
 rw[List.any_eq_false]
 intro x hx
 rw[h x (List.mem_range.1 hx)];simp
theorem anyN_yes {n:Nat}{f:Int→Bool}{j:Nat}(h:j<n)(hf:f j=true):anyN n f=true:=by
 unfold anyN
 rw[List.any_eq_true]
 exact⟨j,List.mem_range.2 h,hf⟩
/-- Three values given, capacities not told. -/
theorem con_caps {f:Nat}{a k r:List Int}{n m p:Nat}{c1 c2 c3:Option Nat}{rest:List AV}{v:AV}{bs:List Blk}(h:SpecP Try.prog G f (.agg [.imm (.ints .i64 a) n none,.imm (.ints .u8 k) m none,.imm (.ints .i64 r) p none]::rest) v bs):
  SpecP Try.prog G f (.agg [.imm (.ints .i64 a) n c1,.imm (.ints .u8 k) m c2,.imm (.ints .i64 r) p c3]::rest) v bs:=h.args fun w F xs h=>by
 cases h with
 |cons _ _ _ _ h1 h2=>exact .cons _ _ _ _ h1.caps h2
theorem cok_self (a k r:List Int):cok a k r a.length k.length r.length:=⟨rfl,rfl,rfl⟩
theorem bAnd (x y:Bool):(bif x then y else false)=(x&&y):=by cases x<;>rfl
end Go.Proofs.Ythiammkiobbclaa.X
