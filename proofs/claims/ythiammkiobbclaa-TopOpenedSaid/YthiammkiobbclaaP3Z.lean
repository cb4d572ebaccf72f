/-
 Cones: the contracts of folding, checking and deciding.
-/
import Derived.Test.YthiammkiobbclaaMZ
import Derived.Test.YthiammkiobbclaaC6Z
import Derived.Test.YthiammkiobbclaaC4Z
import Derived.Test.YthiammkiobbclaaD11Z
set_option maxRecDepth 1000000
set_option linter.unusedVariables false
set_option linter.unusedSimpArgs false
namespace Go.Proofs.Ythiammkiobbclaa.X
open Go Go.Ab

/-! ### Plain facts -/
theorem rayL_len:∀(a:List Int) (x:Int) (p:Bool),(rayL x p a).length=a.length+1
 |[],x,p=>rfl
 |a::r,x,p=>by simp only[rayL,List.length_cons,rayL_len r]
theorem raysL_len (a:List Int):(raysL a).length=a.length+1:=rayL_len a 0 true
def sgI (m:Nat):Int:=1-2*(m:Int).tmod 2
theorem sgI_0:sgI 0=1:=rfl
theorem sgI_1 (m:Nat):sgI (m+1)= -sgI m:=by
 unfold sgI
 rw[Int.tmod_eq_emod_of_nonneg (by omega),Int.tmod_eq_emod_of_nonneg (by omega)]
 omega
theorem rayL_get:∀(a:List Int) (x:Int) (p:Bool) (m:Nat),m<a.length→(rayL x p a)[m+1]?.getD 0=(rayL x p a)[m]?.getD 0+a[m]?.getD 0*((bif p then 1 else -1)*sgI m)
 |[],x,p,m,h=>by simp at h
 |a::r,x,p,0,h=>by
  cases r with
  |nil=>cases p<;>simp[rayL,sgI_0]<;>omega
  |cons b r=>cases p<;>simp[rayL,sgI_0]<;>omega
 |a::r,x,p,m+1,h=>by
  have:=rayL_get r (bif p then x+a else x-a) (!p) m (by simpa using h)
  simp only[rayL,List.getElem?_cons_succ]
  rw[this,sgI_1]
  cases p<;>simp
theorem rays_step {a:List Int}{m:Nat}(h:m<a.length):(raysL a).take (m+2)=(raysL a).take (m+1)++[((raysL a).take (m+1))[m]?.getD 0+a[m]?.getD 0*(1-2*(m:Int).tmod 2)]:=by
 have hl:=raysL_len a
 rw[List.take_add_one (i:=m+1)]
 have h1:m+1<(raysL a).length:=by omega
 have hg:=rayL_get a 0 true m h
 have e:(raysL a)[m+1]?.getD 0=(raysL a)[m+1]:=by rw[List.getElem?_eq_getElem h1];rfl
 have hg':(raysL a)[m+1]=(raysL a)[m]?.getD 0+a[m]?.getD 0*sgI m:=by
  rw[← e]
  show(rayL 0 true a)[m+1]?.getD 0=(rayL 0 true a)[m]?.getD 0+_
  rw[hg];simp
 rw[List.getElem?_eq_getElem h1,hg',List.getElem?_take_of_lt (by omega)]
 rfl
theorem rayL_bd:∀(a:List Int) (x:Int) (p:Bool),(∀y∈a,1≤y)→∀y∈rayL x p a,x-a.sum≤y∧y≤x+a.sum
 |[],x,p,h,y,hy=>by
  simp only[rayL,List.mem_singleton]at hy
  subst hy;simp
 |a::r,x,p,h,y,hy=>by
  have ha:=h a (List.mem_cons_self ..)
  have hr:0≤r.sum:=sum_nonneg fun x hx=>by have:=h x (List.mem_cons_of_mem _ hx);omega
  simp only[rayL,List.mem_cons]at hy
  rw[List.sum_cons]
  rcases hy with rfl|hy
  ·omega
  ·have:=rayL_bd r _ _ (fun z hz=>h z (List.mem_cons_of_mem _ hz)) y hy
   cases p<;>simp at this<;>omega
theorem perm_sub:∀(l o:List Int),l.Nodup→(∀x∈l,x∈o)→o.length=l.length→o.Perm l
 |[],o,_,_,h=>by rw[List.length_eq_zero_iff.1 h]
 |x::r,o,hn,hs,hl=>by
  have hx:=hs x (List.mem_cons_self ..)
  obtain⟨hxr,hn⟩:=List.nodup_cons.1 hn
  refine(List.perm_cons_erase hx).trans (List.Perm.cons x (perm_sub r (o.erase x) hn (fun y hy=>?_) ?_))
  ·exact(List.mem_erase_of_ne fun e=>hxr (by rw[← e];exact hy)).2 (hs y (List.mem_cons_of_mem _ hy))
  ·rw[List.length_erase_of_mem hx,hl];rfl
/-- The numbers below n. -/
def idO (n:Nat):List Int:=(List.range n).map fun(i:Nat)=>(i:Int)
theorem idO_mem {n:Nat}{x:Int}:x∈idO n↔0≤x∧x<n:=by
 unfold idO
 rw[List.mem_map]
 constructor
 ·rintro⟨i,hi,rfl⟩
  have:=List.mem_range.1 hi
  omega
 ·intro h
  exact⟨x.toNat,List.mem_range.2 (by omega),by omega⟩
theorem idO_nodup (n:Nat):(idO n).Nodup:=by
 unfold idO
 rw[List.Nodup,List.pairwise_map]
 exact(List.nodup_range (n:=n)).imp fun h e=>h (by omega)
theorem idO_len (n:Nat):(idO n).length=n:=by unfold idO;rw[List.length_map,List.length_range]
theorem perm_okO {o:List Int}{n:Nat}(h:o.Perm (idO n))(hn:n≤8):okO o:=by
 refine⟨by rw[h.length_eq,idO_len];exact hn,fun x hx=>?_⟩
 have:=idO_mem.1 (h.mem_iff.1 hx)
 omega
/-! ### Contracts -/
theorem fan_caps {f:Nat}{a k:List Int}{n m:Nat}{c1 c2:Option Nat}{rest:List AV}{v:AV}{bs:List Blk}(h:SpecP Try.prog G f (.agg [.imm (.ints .i64 a) n none,.imm (.ints .u8 k) m none]::rest) v bs):
  SpecP Try.prog G f (.agg [.imm (.ints .i64 a) n c1,.imm (.ints .u8 k) m c2]::rest) v bs:=h.args fun w F xs h=>by
 cases h with
 |cons _ _ _ _ h1 h2=>exact .cons _ _ _ _ h1.caps h2
end Go.Proofs.Ythiammkiobbclaa.X

/-
 Cones: comparing lists (told of the whole world); the first of the orders that are the same.
-/
set_option maxRecDepth 1000000
set_option linter.unusedVariables false
set_option linter.unusedSimpArgs false
namespace Go.Proofs.Ythiammkiobbclaa.X
open Go Go.Ab

/-! ### Comparing -/
theorem S0ok:TabOk Try.prog Gs T0:=tabL_ok (l:=[]) noCh_ok trivial
theorem sct104:CtOk Try.prog Gs 69 e104:=by
 intro args r h hp
 unfold e104 at h
 split at h<;>cases h
 refine fnP_spec hcmS hmx S0ok ok69 rfl (ob_o104 _) ?_
 simp
theorem TS1ok:TabOk Try.prog Gs TS1:=tabL_ok noCh_ok ⟨sct104,trivial⟩
theorem sct85:CtOk Try.prog Gs 49 e85c:=by
 intro args r h hp
 unfold e85c at h
 split at h<;>cases h
 refine fnP_spec hcmS hmx TS1ok ok49 rfl (ob_o85c _ _) ?_
 simp only[ltb_iff,ltb_no,and_true]
 unfold cmI
 refine⟨fun h=>by rw[if_pos h],fun h=>⟨fun h'=>?_,fun h'=>?_⟩⟩
 ·rw[if_neg (by omega),if_pos h']
 ·rw[if_neg (by omega),if_neg (by omega)]
theorem TS2ok:TabOk Try.prog Gs TS2:=tabL_ok noCh_ok ⟨sct85,trivial⟩
theorem cmpL_step {a b:List Int}{m:Nat}(h1:m<a.length)(h2:m<b.length):cmpL (a.drop m) (b.drop m)=if cmI (a[m]?.getD 0) (b[m]?.getD 0)=0 then cmpL (a.drop (m+1)) (b.drop (m+1))else cmI (a[m]?.getD 0) (b[m]?.getD 0):=by
 rw[drop_step h1,drop_step h2];rfl
theorem sp62s (a b:List Int)(ha:a.length<1000000000)(hb:b.length<1000000000):SpecP Try.prog Gs 32 [immN .i64 a,immN .i64 b] (.int .i64 (cmpL a b)) []:=by
 refine fnP_spec hcmS hmx TS2ok ok32 rfl (ob_o62c a b) ?_
 dsimp -failIfUnchanged -proj -eta -iota -zeta only[rd,rdw,qs,ql,qx]
 simp only[inR_i64,and_true,true_and,leb_iff,leb_no,ltb_iff,ltb_no,ltn_iff,iI,size_ints,List.length_drop,List.getD_eq_getElem?_getD,List.getElem?_drop,Nat.add_zero,bne_iff_ne,ne_eq,bne_eq_false_iff_eq]
 refine⟨⟨0,rfl,by omega,by omega,rfl⟩,?_⟩
 rintro⟨i⟩ ⟨m,hi,hm,hn,he⟩
 simp only at hi ⊢
 subst hi
 simp only[Int.toNat_natCast]
 refine⟨fun h1=>⟨by omega,by omega,by omega,by omega,fun h2=>?_,fun h2=>?_⟩,fun h1=>⟨fun h2=>?_,fun h2=>?_⟩⟩
 ·rw[← he,drop_end (l:=b) (by omega),drop_step (l:=a) (by omega)];rfl
 ·rw[cmpL_step (by omega) (by omega)]at he
  refine⟨by omega,by omega,by omega,by omega,fun h3=>?_,fun h3=>?_⟩
  ·rw[if_neg h3]at he;exact he
  ·rw[if_pos h3]at he
   exact⟨by omega,⟨m+1,by omega,by omega,by omega,he⟩,by omega⟩
 ·rw[← he,drop_end (l:=a) (by omega),drop_step (l:=b) (by omega)];rfl
 ·rw[← he,drop_end (l:=a) (by omega),drop_end (l:=b) (by omega)];rfl
/-! ### Contains on the heap -/
/-! ### The first of the orders that are the same -/
theorem rkF_len:∀(o:List Int) (rk:List Int) (i:Int),(rkA rk i o).length=rk.length
 |[],rk,i=>rfl
 |x::r,rk,i=>by unfold rkA;rw[rkF_len r,List.length_set]
theorem rkF8 (o:List Int):(rkF o).length=8:=by unfold rkF;rw[rkF_len];rfl
theorem list8:∀(l:List Int),l.length=8→[gR l 0,gR l 1,gR l 2,gR l 3,gR l 4,gR l 5,gR l 6,gR l 7]=l
 |[a,b,c,d,e,f,g,h],_=>rfl
theorem rkL_eq (o:List Int):rkL o=rkF o:=list8 _ (rkF8 o)
theorem sub_len:∀(l o:List Int),l.Nodup→(∀x∈l,x∈o)→l.length≤o.length
 |[],o,_,_=>Nat.zero_le _
 |x::r,o,hn,hs=>by
  have hx:=hs x (List.mem_cons_self ..)
  obtain⟨hxr,hn⟩:=List.nodup_cons.1 hn
  have:=sub_len r (o.erase x) hn fun y hy=>(List.mem_erase_of_ne fun e=>hxr (by rw[← e];exact hy)).2 (hs y (List.mem_cons_of_mem _ hy))
  rw[List.length_erase_of_mem hx]at this
  have:0<o.length:=List.length_pos_of_mem hx
  rw[List.length_cons];omega
theorem memB_no {l:List Int}{x:Int}:memB l x=false↔x∉l:=by
 rw[← Bool.not_eq_true,memB_true]
theorem free_ex {out:List Int}{n:Nat}(h:out.length<n):∃i:Nat,i<n∧memB out i=false:=by
 refine Classical.byContradiction fun hc=>?_
 have:(idO n).length≤out.length:=sub_len _ _ (idO_nodup n) fun x hx=>by
  obtain⟨h0,h1⟩:=idO_mem.1 hx
  refine Classical.byContradiction fun hx'=>hc ⟨x.toNat,by omega,memB_no.2 ?_⟩
  rwa [show((x.toNat:Nat):Int)=x by omega]
 rw[idO_len]at this;omega
theorem least_ex (rk out:List Int):∀n:Nat,(∃i:Nat,i<n∧memB out i=false)→∃i:Nat,i<n∧memB out i=false∧∀k:Nat,k<n→memB out k=false→gR rk i≤gR rk k
 |0,⟨i,h,_⟩=>by omega
 |n+1,⟨i,h,hi⟩=>by
  by_cases hx:∃i:Nat,i<n∧memB out i=false
  ·obtain⟨j,hj,hj1,hj2⟩:=least_ex rk out n hx
   by_cases hn:memB out n=false∧gR rk n<gR rk j
   ·refine⟨n,by omega,hn.1,fun k hk hm=>?_⟩
    by_cases hk':k<n
    ·have:=hj2 k hk' hm;omega
    ·rw[show k=n by omega];omega
   ·refine⟨j,by omega,hj1,fun k hk hm=>?_⟩
    by_cases hk':k<n
    ·exact hj2 k hk' hm
    ·rw[show k=n by omega]at hm ⊢
     rcases Int.lt_or_le (gR rk n) (gR rk j)with h|h
     ·exact absurd ⟨hm,h⟩ hn
     ·exact h
  ·have:i=n:=Classical.byContradiction fun hc=>hx ⟨i,by omega,hi⟩
   subst this
   refine⟨i,by omega,hi,fun k hk hm=>?_⟩
   by_cases hk':k<i
   ·exact absurd ⟨k,hk',hm⟩ hx
   ·rw[show k=i by omega];omega
theorem frK_ex {r rk out:List Int}{n:Nat}(h:out.length<n):∃i:Nat,i<n∧frK r rk out i n=true:=by
 obtain⟨i,h1,h2,h3⟩:=least_ex rk out n (free_ex h)
 refine⟨i,h1,?_⟩
 unfold frK
 rw[h2,Bool.not_false,Bool.true_and,List.all_eq_true]
 intro k hk
 unfold frC
 cases hm:memB out k with
 |true=>rfl
 |false=>rw[leb_iff.2 (h3 k (List.mem_range.1 hk) hm)];rfl
theorem fr1_of {r rk out:List Int}{n m:Nat}(h1:m<n)(h2:frK r rk out m n=true)(h3:∀j:Nat,j<m→frK r rk out j n=false):fr1 r rk n out=(m:Int):=by
 unfold fr1
 have:(List.range n).find? (fun(i:Nat)=>frK r rk out (i:Int) n)=some m:=by
  rw[List.find?_range_eq_some]
  refine⟨h2,List.mem_range.2 h1,fun j hj=>?_⟩
  rw[h3 j hj];rfl
 rw[this];rfl
theorem fr1_ok {r rk out:List Int}{n:Nat}(h:out.length<n):∃m:Nat,m<n∧fr1 r rk n out=(m:Int)∧frK r rk out m n=true:=by
 obtain⟨i,h1,h2⟩:=frK_ex (r:=r) (rk:=rk) h
 cases hf:(List.range n).find? (fun(i:Nat)=>frK r rk out (i:Int) n)with
 |none=>exact absurd (List.find?_eq_none.1 hf i (List.mem_range.2 h1)) (by simp[h2])
 |some m=>exact⟨m,List.mem_range.1 (List.mem_of_find?_eq_some hf),by unfold fr1;rw[hf];rfl,by simpa using List.find?_some (p:=fun(i:Nat)=>frK r rk out (i:Int) n) hf⟩
theorem lstN_len (r rk:List Int)(n:Nat):∀m,(lstN r rk n m).length=m
 |0=>rfl
 |m+1=>by unfold lstN;rw[List.length_append,lstN_len r rk n m];rfl
theorem lstN_ok (r rk:List Int)(n:Nat):∀m,m≤n→(lstN r rk n m).Nodup∧∀x∈lstN r rk n m,x∈idO n
 |0,_=>⟨List.nodup_nil,fun x hx=>by cases hx⟩
 |m+1,h=>by
  obtain⟨h1,h2⟩:=lstN_ok r rk n m (by omega)
  obtain⟨i,h3,h4,h5⟩:=fr1_ok (r:=r) (rk:=rk) (out:=lstN r rk n m) (n:=n) (by rw[lstN_len];omega)
  unfold lstN
  rw[h4]
  have hi:(i:Int)∉lstN r rk n m:=by
   unfold frK at h5
   rw[Bool.and_eq_true]at h5
   exact memB_no.1 (by simpa using h5.1)
  refine⟨List.nodup_append.2 ⟨h1,by simp,fun x hx y hy e=>?_⟩,fun x hx=>?_⟩
  ·rw[List.mem_singleton]at hy
   subst hy;subst e;exact hi hx
  ·rcases List.mem_append.1 hx with hx|hx
   ·exact h2 x hx
   ·rw[List.mem_singleton]at hx
    subst hx
    exact idO_mem.2 (by omega)
theorem leastL_perm (r o:List Int):(leastL r o).Perm (idO o.length):=by
 obtain⟨h1,h2⟩:=lstN_ok r (rkF o) o.length o.length (Nat.le_refl _)
 exact(perm_sub _ _ h1 h2 (by rw[idO_len,lstN_len])).symm
theorem leastL_len (r o:List Int):(leastL r o).length=o.length:=lstN_len ..
theorem frK_succ {r rk out:List Int}{i:Int}{m:Nat}:frK r rk out i (m+1)=(frK r rk out i m&&frC r rk out i m):=by
 unfold frK
 rw[List.range_succ,List.all_append,Bool.and_assoc]
 simp
end Go.Proofs.Ythiammkiobbclaa.X
/-
 Cones, plain: ranks of an order, what grows, sorted lists.
-/
set_option maxRecDepth 1000000
set_option linter.unusedVariables false
namespace Go.Proofs.Ythiammkiobbclaa.X
open Go Go.Ab

/-! ### Ranks -/
theorem gR_set_self {l:List Int}{x v:Int}(h0:0≤x)(h1:x<l.length):gR (l.set x.toNat v) x=v:=by
 unfold gR;rw[List.getElem?_set_self (by omega)];rfl
theorem gR_set_ne {l:List Int}{x y v:Int}(h0:0≤x)(h1:0≤y)(h:x≠y):gR (l.set x.toNat v) y=gR l y:=by
 unfold gR;rw[List.getElem?_set_ne (by omega)]
theorem rkA_out:∀(o rk:List Int) (i y:Int),(∀x∈o,0≤x)→0≤y→y∉o→gR (rkA rk i o) y=gR rk y
 |[],rk,i,y,_,_,_=>rfl
 |x::o,rk,i,y,h,hy,hn=>by
  unfold rkA
  rw[rkA_out o _ _ y (fun z hz=>h z (List.mem_cons_of_mem _ hz)) hy (fun hm=>hn (List.mem_cons_of_mem _ hm)),gR_set_ne (h x (List.mem_cons_self ..)) hy fun e=>hn (by rw[e];exact List.mem_cons_self ..)]
theorem rkA_in:∀(o rk:List Int) (i:Int) (j:Nat),rk.length=8→o.Nodup→(∀x∈o,0≤x∧x<8)→(h:j<o.length)→gR (rkA rk i o) o[j]=i+j
 |[],rk,i,j,_,_,_,h=>by simp at h
 |x::o,rk,i,0,hr,hn,hx,h=>by
  unfold rkA
  obtain⟨h1,h2⟩:=List.nodup_cons.1 hn
  have hx0:=hx x (List.mem_cons_self ..)
  show gR _ x=_
  rw[rkA_out o _ _ x (fun z hz=>(hx z (List.mem_cons_of_mem _ hz)).1) hx0.1 h1,gR_set_self hx0.1 (by omega)];omega
 |x::o,rk,i,j+1,hr,hn,hx,h=>by
  unfold rkA
  obtain⟨h1,h2⟩:=List.nodup_cons.1 hn
  show gR _ (o[j]'(by simpa using h))=_
  rw[rkA_in o _ _ j (by rw[List.length_set];exact hr) h2 (fun z hz=>hx z (List.mem_cons_of_mem _ hz)) (by simpa using h)];omega
theorem rk_at {o:List Int}(hn:o.Nodup)(ho:okO o){j:Nat}(h:j<o.length):gR (rkF o) o[j]=j:=by
 unfold rkF
 rw[rkA_in o _ 0 j (by simp) hn ho.2 h];omega
theorem rk_no {o:List Int}(ho:okO o){y:Int}(h0:0≤y)(h1:y<8)(h:y∉o):gR (rkF o) y= -1:=by
 unfold rkF
 rw[rkA_out o _ 0 y (fun x hx=>(ho.2 x hx).1) h0 h]
 unfold gR
 rw[List.getElem?_replicate,if_pos (by omega)];rfl
theorem perm_nodup {o:List Int}{n:Nat}(h:o.Perm (idO n)):o.Nodup:=h.nodup_iff.2 (idO_nodup n)
theorem perm_len {o:List Int}{n:Nat}(h:o.Perm (idO n)):o.length=n:=by rw[h.length_eq,idO_len]
/-! ### The map of what was found -/
theorem mget_put {k k' v:List Int}{c:Nat}:∀{es:List (List Int×List Int×Nat)},mget (mput es k v c) k'=if k'=k then some v else mget es k'
 |[]=>by
  simp only[mput,mget,cond_eq_ite,decide_eq_true_eq]
 |e::r=>by
  have ih:=mget_put (k:=k) (k':=k') (v:=v) (c:=c) (es:=r)
  simp only[mput,cond_eq_ite,decide_eq_true_eq]
  split
  ·rename_i h1
   simp only[mget,cond_eq_ite,decide_eq_true_eq,h1]
   split<;>simp_all
  ·rename_i h1
   simp only[mget,cond_eq_ite,decide_eq_true_eq,ih]
   split
   ·rename_i h2
    rw[if_neg fun h3=>h1 (h3.symm.trans h2)]
   ·rfl
theorem snocRec {α:Type}{P:List α→Prop}(h0:P [])(h1:∀l x,P l→P (l++[x]))(l:List α):P l:=by
 suffices ∀n (l:List α),l.length=n→P l from this _ l rfl
 intro n
 induction n with
 |zero=>intro l h;rw[List.length_eq_zero_iff.1 h];exact h0
 |succ n ih=>
  intro l h
  have hne:l≠[]:=fun e=>by rw[e]at h;simp at h
  rw[← List.dropLast_concat_getLast hne]
  exact h1 _ _ (ih _ (by rw[List.length_dropLast,h];rfl))
theorem outV_un (L:List (List Int)):unO (outV L)=L:=by
 induction L with
 |nil=>rfl
 |cons x r ih=>
  show x::unO (outV r)=_
  rw[ih]
/-! ### Growing -/
theorem insA_perm {o:List Int}{i:Nat}(h:okG o):okG (insA o i (o.length:Int)):=by
 have hl:(insA o i (o.length:Int)).length=o.length+1:=by
  unfold insA
  rw[List.length_append,List.length_cons,List.length_take,List.length_drop];omega
 unfold okG at h ⊢
 rw[hl,List.range_succ,List.map_append]
 have p1:(insA o i (o.length:Int)).Perm ((o.length:Int)::o):=by
  unfold insA
  refine List.perm_middle.trans ?_
  rw[List.take_append_drop]
 refine p1.trans ((List.Perm.cons _ h).trans ?_)
 exact(List.perm_append_comm (l₁:=[(o.length:Int)])).trans (by rfl)
theorem insA_len' {o:List Int}{i:Nat}{x:Int}:(insA o i x).length=o.length+1:=by
 unfold insA
 rw[List.length_append,List.length_cons,List.length_take,List.length_drop];omega
theorem grwL_perm {n:Nat}{r k:List Int}:∀(f:Nat) (o:List Int),∀l∈grwL n r k f o,l.Perm (idO (o.length+f))
 |0,o,l,h=>by
  unfold grwL at h
  cases hc:cwB n r k o with
  |true=>rw[hc]at h;cases h
  |false=>
   rw[hc]at h
   rw[List.mem_singleton.1 h]
   exact leastL_perm r o
 |f+1,o,l,h=>by
  unfold grwL at h
  cases hc:cwB n r k o with
  |true=>rw[hc]at h;cases h
  |false=>
   rw[hc,cond_false,List.mem_flatMap]at h
   obtain⟨i,_,h⟩:=h
   have:=grwL_perm f _ l h
   rw[insA_len']at this
   rw[show o.length+(f+1)=o.length+1+f by omega]
   exact this
theorem addU_ok {n:Nat}:∀(M L:List (List Int)),(L.Nodup∧∀l∈L,l.Perm (idO n))→(∀l∈M,l.Perm (idO n))→((M.foldl addU L).Nodup∧∀l∈M.foldl addU L,l.Perm (idO n))
 |[],L,h,_=>h
 |x::M,L,h,hM=>by
  refine addU_ok M _ ?_ fun l hl=>hM l (List.mem_cons_of_mem _ hl)
  unfold addU
  cases hc:L.contains x with
  |true=>exact h
  |false=>
   rw[cond_false]
   have hx:x∉L:=fun hm=>by
    rw[List.contains_iff_mem.2 hm]at hc;cases hc
   refine⟨List.nodup_append.2 ⟨h.1,by simp,fun y hy z hz e=>?_⟩,fun l hl=>?_⟩
   ·rw[List.mem_singleton]at hz;subst hz;subst e;exact hx hy
   ·rcases List.mem_append.1 hl with hl|hl
    ·exact h.2 l hl
    ·rw[List.mem_singleton]at hl;subst hl;exact hM l (List.mem_cons_self ..)
theorem grwO_ok {a r k o:List Int}{L:List (List Int)}(hL:okL a L)(ho:o.length≤a.length):okL a (grwO a.length r k L o):=
 addU_ok _ _ hL fun l hl=>by
  have:=grwL_perm _ _ l hl
  rwa [show o.length+(a.length-o.length)=a.length by omega]at this
theorem grwO_stop {n:Nat}{r k o:List Int}{L:List (List Int)}(h:cwB n r k o=true):grwO n r k L o=L:=by
 unfold grwO
 cases hf:n-o.length<;>(unfold grwL;rw[h];rfl)
theorem grwO_leaf {n:Nat}{r k o:List Int}{L:List (List Int)}(h:cwB n r k o=false)(hn:n≤o.length):grwO n r k L o=addU L (leastL r o):=by
 unfold grwO
 rw[show n-o.length=0 by omega]
 unfold grwL;rw[h];rfl
theorem grwO_node {n:Nat}{r k o:List Int}{L:List (List Int)}(h:cwB n r k o=false)(hn:o.length<n):grwO n r k L o=grwM n r k L o (o.length+1):=by
 unfold grwO grwM
 rw[show n-o.length=(n-(o.length+1))+1 by omega]
 show(cond (cwB n r k o) [] _).foldl addU L=_
 rw[h];rfl
theorem grwM_step {n:Nat}{r k o:List Int}{L:List (List Int)}{m:Nat}:grwM n r k L o (m+1)=grwO n r k (grwM n r k L o m) (insA o m (o.length:Int)):=by
 unfold grwO grwM
 rw[List.range_succ,List.flatMap_append,List.foldl_append,insA_len']
 simp
/-! ### How many orders there are -/
def codL:List Int→Int
 |[]=>0
 |x::r=>x+8*codL r
theorem codL_inj:∀(l p:List Int),l.length=p.length→(∀x∈l,0≤x∧x<8)→(∀x∈p,0≤x∧x<8)→codL l=codL p→l=p
 |[],[],_,_,_,_=>rfl
 |x::l,y::p,hl,h1,h2,h=>by
  have hx:=h1 x (List.mem_cons_self ..)
  have hy:=h2 y (List.mem_cons_self ..)
  unfold codL at h
  have e1:x=y:=by omega
  have e2:codL l=codL p:=by omega
  rw[e1,codL_inj l p (by simpa using hl) (fun z hz=>h1 z (List.mem_cons_of_mem _ hz)) (fun z hz=>h2 z (List.mem_cons_of_mem _ hz)) e2]
theorem codL_bd:∀(l:List Int),(∀x∈l,0≤x∧x<8)→0≤codL l∧codL l<8 ^ l.length
 |[],_=>by simp[codL]
 |x::l,h=>by
  have hx:=h x (List.mem_cons_self ..)
  have ih:=codL_bd l fun z hz=>h z (List.mem_cons_of_mem _ hz)
  unfold codL
  rw[List.length_cons,Int.pow_succ]
  omega
theorem map_nodup {f:List Int→Int}:∀(L:List (List Int)),L.Nodup→(∀x∈L,∀y∈L,f x=f y→x=y)→(L.map f).Nodup
 |[],_,_=>List.nodup_nil
 |x::L,h,hf=>by
  obtain⟨h1,h2⟩:=List.nodup_cons.1 h
  rw[List.map_cons]
  refine List.nodup_cons.2 ⟨fun hm=>?_,map_nodup L h2 fun y hy z hz=>hf y (List.mem_cons_of_mem _ hy) z (List.mem_cons_of_mem _ hz)⟩
  obtain⟨y,hy,hy2⟩:=List.mem_map.1 hm
  rw[hf y (List.mem_cons_of_mem _ hy) x (List.mem_cons_self ..) hy2]at hy
  exact h1 hy
theorem okL_len {a:List Int}{L:List (List Int)}(h:okL a L)(ha:a.length≤8):L.length<100000000:=by
 obtain⟨h1,h2⟩:=h
 have p:∀l∈L,l.length=a.length∧∀x∈l,0≤x∧x<8:=fun l hl=>⟨perm_len (h2 l hl),(perm_okO (h2 l hl) ha).2⟩
 have:=sub_len (L.map codL) (idO 16777216) (map_nodup L h1 fun x hx y hy e=>codL_inj x y (by rw[(p x hx).1,(p y hy).1]) (p x hx).2 (p y hy).2 e) fun c hc=>by
  obtain⟨l,hl,rfl⟩:=List.mem_map.1 hc
  have hb:=codL_bd l (p l hl).2
  have h8:(8:Int) ^ l.length≤16777216:=(by decide:∀n,n<9→(8:Int) ^ n≤16777216) _ (by have:=(p l hl).1;omega)
  exact idO_mem.2 (by omega)
 rw[List.length_map,idO_len]at this
 omega
/-! ### Sorted lists -/
theorem cmI_anti (x y:Int):cmI y x= -cmI x y:=by
 unfold cmI
 split<;>split<;>first|omega|rfl|(split<;>first|omega|rfl)|skip
theorem cmI_0 {x y:Int}(h:cmI x y=0):x=y:=by
 unfold cmI at h
 split at h
 ·cases h
 ·split at h
  ·cases h
  ·omega
theorem cmI_neg {x y:Int}:cmI x y<0↔x<y:=by
 unfold cmI
 split
 ·simp[*]
 ·split<;>(constructor<;>intro h<;>omega)
theorem cmpL_anti:∀(x y:List Int),cmpL y x= -cmpL x y
 |[],[]=>rfl
 |[],_::_=>rfl
 |_::_,[]=>rfl
 |a::r,b::s=>by
  unfold cmpL
  rw[cmI_anti a b,cmpL_anti r s]
  split<;>split<;>first|rfl|omega
theorem cmpL_0:∀(x y:List Int),cmpL x y=0→x=y
 |[],[],_=>rfl
 |[],_::_,h=>by cases h
 |_::_,[],h=>by cases h
 |a::r,b::s,h=>by
  unfold cmpL at h
  split at h
  ·rename_i h1
   rw[cmI_0 h1,cmpL_0 r s h]
  ·rename_i h1;exact absurd h h1
theorem cmpL_self (x:List Int):cmpL x x=0:=by
 have:=cmpL_anti x x
 omega
theorem cmI_self (x:Int):cmI x x=0:=by unfold cmI;simp
theorem cmpL_cons {a b:Int}{r s:List Int}:cmpL (a::r) (b::s)<0↔a<b∨(a=b∧cmpL r s<0):=by
 rw[cmpL]
 split
 ·rename_i h
  have:=cmI_0 h
  subst this
  simp
 ·rename_i h
  rw[cmI_neg]
  constructor
  ·exact .inl
  ·rintro(h1|⟨h1,_⟩)
   ·exact h1
   ·subst h1
    rw[cmI_self]at h;exact absurd rfl h
theorem cmpL_trans:∀(x y z:List Int),cmpL x y<0→cmpL y z<0→cmpL x z<0
 |[],[],z,h,_=>by rw[cmpL_self]at h;omega
 |[],_::_,[],_,h=>by unfold cmpL at h;omega
 |[],_::_,_::_,_,_=>by unfold cmpL;decide
 |_::_,[],z,h,_=>by unfold cmpL at h;omega
 |_::_,_::_,[],_,h=>by unfold cmpL at h;omega
 |a::r,b::s,c::t,h1,h2=>by
  rw[cmpL_cons]at*
  rcases h1 with h1|⟨h1,h3⟩
  ·rcases h2 with h2|⟨h2,h4⟩
   ·left;omega
   ·left;omega
  ·rcases h2 with h2|⟨h2,h4⟩
   ·left;omega
   ·exact .inr ⟨by omega,cmpL_trans r s t h3 h4⟩
theorem swoL:Go.Sort.SWO (Go.Proofs.ltOf cmpL) where
 irrefl x:=by simp only[Go.Proofs.ltOf,decide_eq_false_iff_not,cmpL_self];decide
 trans x y z h1 h2:=by
  simp only[Go.Proofs.ltOf,decide_eq_true_eq]at*
  exact cmpL_trans x y z h1 h2
 ntrans x y z h1 h2:=by
  simp only[Go.Proofs.ltOf,decide_eq_false_iff_not]at*
  intro h3
  have a1:=cmpL_anti x y
  have a2:=cmpL_anti y z
  have a3:=cmpL_anti x z
  by_cases e1:cmpL x y=0
  ·rw[cmpL_0 _ _ e1]at h3;exact h2 h3
  ·have:cmpL y x<0:=by omega
   exact h2 (cmpL_trans y x z this h3)
theorem insS_perm (x:List Int):∀(l:List (List Int)),(insS x l).Perm (x::l)
 |[]=>List.Perm.refl _
 |y::l=>by
  unfold insS
  cases ltb (cmpL x y) 0 with
  |true=>exact List.Perm.refl _
  |false=>exact(List.Perm.cons y (insS_perm x l)).trans (List.Perm.swap x y l)
theorem srtL_perm:∀(l:List (List Int)),(srtL l).Perm l
 |[]=>List.Perm.refl _
 |x::l=>(insS_perm x _).trans (List.Perm.cons x (srtL_perm l))
theorem insS_srt {x:List Int}:∀{l:List (List Int)},l.Pairwise (fun y z=>cmpL y z<0)→x∉l→(insS x l).Pairwise (fun y z=>cmpL y z<0)
 |[],_,_=>List.pairwise_singleton ..
 |y::l,h,hx=>by
  obtain⟨h1,h2⟩:=List.pairwise_cons.1 h
  unfold insS
  cases hc:ltb (cmpL x y) 0 with
  |true=>
   have hc:=ltb_iff.1 hc
   refine List.pairwise_cons.2 ⟨fun z hz=>?_,h⟩
   rcases List.mem_cons.1 hz with rfl|hz
   ·exact hc
   ·exact cmpL_trans _ _ _ hc (h1 z hz)
  |false=>
   have hc:=ltb_no.1 hc
   rw[cond_false]
   refine List.pairwise_cons.2 ⟨fun z hz=>?_,insS_srt h2 fun hm=>hx (List.mem_cons_of_mem _ hm)⟩
   rcases List.mem_cons.1 ((insS_perm x l).mem_iff.1 hz)with rfl|hz
   ·have:=cmpL_anti z y
    have:cmpL z y≠0:=fun e=>hx (by rw[cmpL_0 _ _ e];exact List.mem_cons_self ..)
    omega
   ·exact h1 z hz
theorem srtL_srt:∀{l:List (List Int)},l.Nodup→(srtL l).Pairwise (fun y z=>cmpL y z<0)
 |[],_=>List.Pairwise.nil
 |x::l,h=>by
  obtain⟨h1,h2⟩:=List.nodup_cons.1 h
  exact insS_srt (srtL_srt h2) fun hm=>h1 ((srtL_perm l).mem_iff.1 hm)
end Go.Proofs.Ythiammkiobbclaa.X
