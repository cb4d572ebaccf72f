/-
 The contracts of the functions on units and kinds.
-/
import Derived.Test.YtfpcbimohikhmaaDoorQC3Z
import Derived.Test.YtfpcbimohikhmaaDoorQO3Z
set_option maxRecDepth 1000000
set_option linter.unusedVariables false
set_option linter.unusedSimpArgs false
namespace Go.Proofs.YtfpcbimohikhmaaDoor.X
open Go Go.Ab

theorem unL_succ (w h:Int)(n:Nat):unL w h (n+1)=unL w h n++(if unB w h (n:Int)=true then[(n:Int)]else[]):=by
 unfold unL
 rw[List.range_succ,List.map_append,List.filter_append]
 congr 1
 simp only[List.map_cons,List.map_nil,List.filter_cons,List.filter_nil]
 rfl
theorem unL_len (w h:Int)(n:Nat):(unL w h n).length≤n:=by
 unfold unL
 refine Nat.le_trans (List.length_filter_le _ _) ?_
 simp
theorem unL_step {w h i e:Int}{k j:Nat}(hi:i=k)(he:e=j)(hj:j≤2):
  (i<nbI w h i e→unL w h (3*k+(j+1))=unL w h (3*k+j)++[((3*k+j:Nat):Int)])∧(¬ i<nbI w h i e→unL w h (3*k+(j+1))=unL w h (3*k+j)):=by
 have h1:((3*k+j:Nat):Int)/3=i:=by omega
 have h2:((3*k+j:Nat):Int)%3=e:=by omega
 have h3:unB w h ((3*k+j:Nat):Int)=ltb i (nbI w h i e):=by unfold unB;rw[h1,h2]
 rw[← Nat.add_assoc,unL_succ,h3]
 refine⟨fun h=>?_,fun h=>?_⟩
 ·rw[if_pos (by simpa using h)]
 ·rw[if_neg (by simpa using h),List.append_nil]
theorem flatU_app (a b:List Int):flatU (a++b)=flatU a++flatU b:=by unfold flatU;rw[List.flatMap_append]
theorem flatU_len (l:List Int):(flatU l).length=2*l.length:=by
 induction l with
 |nil=>rfl
 |cons x l ih=>unfold flatU at *; rw[List.flatMap_cons,List.length_append,ih];simp;omega
theorem s5_len {w h:Int}(hs:s5 w h):(4*w*h).toNat≤100∧4*w*h≤100∧4≤4*w*h:=by
 obtain⟨h1,h2,h3,h4⟩:=hs
 have e4:4*w*h=4*(w*h):=Int.mul_assoc _ _ _
 have a:=mul_le (a:=w) (b:=h) (c:=5) (d:=5) (by omega) (by omega) (by omega) (by omega)
 have b:=mul_le (a:=1) (b:=1) (c:=w) (d:=h) (by omega) (by omega) (by omega) (by omega)
 omega
theorem units_len {w h:Int}(hs:s5 w h):(units w h).length≤300:=by
 have:=unL_len w h (3*(4*w*h).toNat)
 have:=(s5_len hs).1
 unfold units
 omega
theorem cUok:CtsOk Tryd.prog G cU':=⟨ct21,trivial⟩
theorem CUok:TabOk Tryd.prog G CU:=tabL_ok noCh_ok cUok
theorem sp20 (w h:Int)(hs:s5 w h):SpecP Tryd.prog G 20 [.agg [.int .i64 w,.int .i64 h]] (unV w h) []:=by
 refine fnP_spec hcm hmx CUok ok20 rfl (ob_o20 w h) ?_
 obtain⟨z1,z2,z3⟩:=s5_len hs
 obtain⟨s1,s2,s3,s4⟩:=hs
 simp only[ltb_iff,ltb_no,leb_iff,leb_no,len'_iff,inR_i64,inR_u8,and_true,true_and]
 refine⟨⟨0,by simp,by omega,rfl,rfl⟩,?_⟩
 rintro⟨i,l,n⟩ ⟨k,hi,hk,hl,hn⟩
 simp only at hi hk hl hn ⊢
 subst hi
 refine⟨by omega,by omega,fun hlt=>⟨⟨0,by simp,by omega,by simpa using hl,by simpa using hn⟩,?_⟩,fun hge=>?_⟩
 ·rintro⟨e,l',n'⟩ ⟨j,he,hj,hl',hn'⟩
  simp only at he hj hl' hn' ⊢
  simp only[Int.toNat_natCast]at*
  refine⟨fun h3=>⟨⟨⟨s1,s2,s3,s4⟩,by omega,by omega,by omega,by omega⟩,fun hb=>?_,fun hb=>?_⟩,fun h3=>?_⟩
  ·have hst:=(unL_step (w:=w) (h:=h) (i:=(k:Int)) (e:=e) rfl he (by omega)).1 hb
   have hln:=unL_len w h (3*k+j)
   refine⟨by omega,by omega,by omega,⟨j+1,by omega,by omega,?_,?_⟩,by omega⟩
   ·rw[hst,flatU_app,← hl']
    congr 1
    have h1:((3*k+j:Nat):Int)/3=k:=by omega
    have h2:((3*k+j:Nat):Int)%3=e:=by omega
    unfold flatU
    simp only[List.flatMap_cons,List.flatMap_nil,List.append_nil,h1,h2]
   ·rw[hst,List.length_append,← hn'];rfl
  ·have hst:=(unL_step (w:=w) (h:=h) (i:=(k:Int)) (e:=e) rfl he (by omega)).2 (by omega)
   refine⟨by omega,⟨j+1,by omega,by omega,?_,?_⟩,by omega⟩
   ·rw[hst];exact hl'
   ·rw[hst];exact hn'
  ·have:j=3:=by omega
   subst this
   exact⟨by omega,⟨k+1,by omega,by omega,hl',hn'⟩,by omega⟩
 ·have:k=(4*w*h).toNat:=by omega
  subst this
  exact⟨by rw[hl];rfl,hn⟩
theorem ct20:CtOk Tryd.prog G 20 e20:=by
 intro args r h hp
 unfold e20 at h
 split at h<;>cases h
 exact(sp20 _ _ hp).caps

theorem cWok:CtsOk Tryd.prog G cW':=⟨ct20,cUok⟩
theorem CWok:TabOk Tryd.prog G CW:=tabL_ok noCh_ok cWok
/-! ### Reads of lists -/
theorem uget {us:List Int}{n:Nat}(h:n<us.length):(List.drop 0 (List.drop (n*2) (flatU us)))[0]? =some (.int .i64 (uC us n))∧(List.drop 1 (List.drop (n*2) (flatU us)))[0]? =some (.int .u8 (uE us n)):=by
 unfold flatU uC uE
 simp only[List.getElem?_drop,Int.toNat_natCast]
 rw[flatMap_row (k:=2) (by decide) (fun _=>rfl),flatMap_row (k:=2) (by decide) (fun _=>rfl)]
 rw[show(n*2+(0+0))/2=n by omega,show(n*2+(1+0))/2=n by omega,show(n*2+(0+0))%2=0 by omega,show(n*2+(1+0))%2=1 by omega,List.getElem?_eq_getElem h]
 exact⟨rfl,rfl⟩
theorem cget {cs:List Cr}{n:Nat}(h:n<cs.length):(List.drop (n*3) (flatC cs))[0]? =some (.int .i64 (cC cs n))∧(List.drop (n*3) (flatC cs))[1]? =some (.int .u8 (cE cs n))∧(List.drop (n*3) (flatC cs))[2]? =some (.int .u8 (cK cs n)):=by
 unfold flatC cC cE cK
 simp only[List.getElem?_drop,Int.toNat_natCast]
 rw[flatMap_row (k:=3) (by decide) RCr.av_len,flatMap_row (k:=3) (by decide) RCr.av_len,flatMap_row (k:=3) (by decide) RCr.av_len]
 rw[show(n*3+0)/3=n by omega,show(n*3+1)/3=n by omega,show(n*3+2)/3=n by omega,show(n*3+0)%3=0 by omega,show(n*3+1)%3=1 by omega,show(n*3+2)%3=2 by omega,List.getElem?_eq_getElem h]
 exact⟨rfl,rfl,rfl⟩
theorem cgetd {cs:List Cr}{n:Nat}(h:n<cs.length):(List.drop 0 (List.drop (n*3) (flatC cs)))[0]? =some (.int .i64 (cC cs n))∧(List.drop 1 (List.drop (n*3) (flatC cs)))[0]? =some (.int .u8 (cE cs n))∧(List.drop 2 (List.drop (n*3) (flatC cs)))[0]? =some (.int .u8 (cK cs n)):=by
 obtain⟨h1,h2,h3⟩:=cget h
 exact⟨(List.getElem?_drop ..).trans h1,(List.getElem?_drop ..).trans h2,(List.getElem?_drop ..).trans h3⟩
theorem flatC_len (l:List Cr):(flatC l).length=l.length*3:=RCr.flat_len l
theorem flatC_app (a b:List Cr):flatC (a++b)=flatC a++flatC b:=by unfold flatC;rw[List.flatMap_append]
theorem cAt {cs:List Cr}{n:Nat}(h:n<cs.length):cs[n]=(cC cs n,cE cs n,cK cs n):=by
 unfold cC cE cK
 rw[Int.toNat_natCast,List.getElem?_eq_getElem h];rfl
theorem uAt {us:List Int}{n:Nat}(h:n<us.length):us[n]=3*uC us n+uE us n∧uC us n=us[n]/3∧uE us n=us[n]%3:=by
 unfold uC uE
 rw[Int.toNat_natCast,List.getElem?_eq_getElem h]
 simp only[Option.getD_some,and_self,and_true]
 omega
theorem drop_at {α:Type}{l:List α}{n:Nat}(h:n<l.length):l.drop n=l[n]::l.drop (n+1):=List.drop_eq_getElem_cons h
theorem take_at {α:Type}{l:List α}{n:Nat}(h:n<l.length):l.take (n+1)=l.take n++[l[n]]:=by rw[List.take_add_one,List.getElem?_eq_getElem h];rfl
/-! ### With -/
theorem wthL_nil_r (us:List Int):wthL us []=[]:=by cases us<;>rfl
theorem wthL_take:∀(us ks:List Int) (k:Nat),k<us.length→k<ks.length→wthL (us.take (k+1)) (ks.take (k+1))=wthL (us.take k) (ks.take k)++(if ks[k]?.getD 0=0 then[]else[(us[k]?.getD 0/3,us[k]?.getD 0%3,ks[k]?.getD 0)])
 |[],_,k,h,_=>by simp at h
 |_::_,[],k,_,h=>by simp at h
 |c::us,x::ks,0,_,_=>by
  by_cases h:x=0<;>simp[wthL,h]
 |c::us,x::ks,k+1,h1,h2=>by
  have ih:=wthL_take us ks k (by simpa using h1) (by simpa using h2)
  rw[List.take_succ_cons,List.take_succ_cons,List.take_succ_cons,List.take_succ_cons]
  simp only[wthL,List.getElem?_cons_succ]
  by_cases h:x=0
  ·rw[if_pos h,if_pos h,ih]
  ·rw[if_neg h,if_neg h,ih,List.cons_append]
theorem wthL_end:∀(us ks:List Int) (k:Nat),us.length≤k∨ks.length≤k→wthL (us.take k) (ks.take k)=wthL us ks
 |[],ks,k,_=>by simp[wthL]
 |c::us,[],k,_=>by simp[wthL,wthL_nil_r]
 |c::us,x::ks,0,h=>by simp at h
 |c::us,x::ks,k+1,h=>by
  have ih:=wthL_end us ks k (by simpa using h)
  rw[List.take_succ_cons,List.take_succ_cons]
  simp only[wthL,ih]
theorem wthL_len:∀(us ks:List Int),(wthL us ks).length≤us.length
 |[],_=>by simp[wthL]
 |c::us,[]=>by simp[wthL]
 |c::us,x::ks=>by
  have:=wthL_len us ks
  simp only[wthL]
  split
  ·simp;omega
  ·simp;omega
/-! ### Differ -/
/-! ### Unit -/
theorem unL_mem {w h:Int}{n:Nat}{x:Int}(hx:x∈unL w h n):0≤x∧x<n∧unB w h x=true:=by
 unfold unL at hx
 rw[List.mem_filter,List.mem_map]at hx
 obtain⟨⟨k,hk,rfl⟩,hb⟩:=hx
 rw[List.mem_range]at hk
 refine⟨by simp,?_,hb⟩
 show(k:Int)<n
 omega
/-! ### Kinds -/
theorem kindsL_len (us:List Int)(cs:List Cr):(kindsL us cs).length=us.length:=by simp[kindsL]
end Go.Proofs.YtfpcbimohikhmaaDoor.X
