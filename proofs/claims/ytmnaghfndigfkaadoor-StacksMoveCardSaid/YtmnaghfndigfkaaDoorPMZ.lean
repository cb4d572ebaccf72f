/-
 Stacks that are moved, plain: stable sorting; a move and its inverse.
-/
import Derived.Test.YtmnaghfndigfkaaDoorHCZ
import Derived.Test.YtmnaghfndigfkaaDoorCVZ
set_option maxRecDepth 1000000
set_option linter.unusedVariables false
set_option linter.unusedSimpArgs false
namespace Go.Proofs.YtmnaghfndigfkaaDoor.X
open Go Go.Ab

/-! ### Sorting by insertion -/
/-- Into a list that descends. -/
def sinR (x:Sk):List Sk→List Sk
 |[]=>[x]
 |y::r=>cond (ltC x.1 y.1) (y::sinR x r) (x::y::r)
def stR (l:List Sk):List Sk:=l.foldl (fun a x=>sinR x a) []
def stT (l:List Sk):List Sk:=(stR l).reverse
theorem stR_snoc (l:List Sk)(x:Sk):stR (l++[x])=sinR x (stR l):=by unfold stR;rw[List.foldl_append];rfl
theorem sinR_len (x:Sk):∀l,(sinR x l).length=l.length+1
 |[]=>rfl
 |y::r=>by
  unfold sinR
  cases ltC x.1 y.1 with
  |true=>show(sinR x r).length+1=_;rw[sinR_len x r];rfl
  |false=>rfl
theorem snocI {α:Type}{P:List α→Prop}(h0:P [])(h1:∀l x,P l→P (l++[x]))(l:List α):P l:=by
 suffices ∀n (l:List α),l.length=n→P l from this _ l rfl
 intro n
 induction n with
 |zero=>intro l h;rw[List.length_eq_zero_iff.1 h];exact h0
 |succ n ih=>
  intro l h
  have hne:l≠[]:=fun e=>by subst e;simp at h
  rw[← List.dropLast_concat_getLast hne]
  exact h1 _ _ (ih _ (by rw[List.length_dropLast];omega))
theorem stR_len (l:List Sk):(stR l).length=l.length:=by
 refine snocI (P:=fun l=>(stR l).length=l.length) rfl (fun l x ih=>?_) l
 rw[stR_snoc,sinR_len,ih,List.length_append];rfl
theorem stT_len (l:List Sk):(stT l).length=l.length:=by unfold stT;rw[List.length_reverse,stR_len]
/-- Descending. -/
def Dsc (l:List Sk):Prop:=l.Pairwise fun a b=>ltC a.1 b.1=false
theorem sinR_mem {x z:Sk}:∀{l:List Sk},z∈sinR x l↔z=x∨z∈l
 |[]=>by simp[sinR]
 |y::r=>by
  unfold sinR
  cases ltC x.1 y.1 with
  |true=>
   show z∈y::sinR x r↔_
   rw[List.mem_cons,sinR_mem,List.mem_cons]
   constructor
   ·rintro(h|h|h)
    ·exact .inr (.inl h)
    ·exact .inl h
    ·exact .inr (.inr h)
   ·rintro(h|h|h)
    ·exact .inr (.inl h)
    ·exact .inl h
    ·exact .inr (.inr h)
  |false=>
   show z∈x::y::r↔_
   rw[List.mem_cons]
theorem sinR_dsc {x:Sk}:∀{l:List Sk},Dsc l→Dsc (sinR x l)
 |[],_=>List.pairwise_singleton _ _
 |y::r,h=>by
  obtain⟨h1,h2⟩:=List.pairwise_cons.1 h
  unfold sinR
  cases hc:ltC x.1 y.1 with
  |true=>
   show Dsc (y::sinR x r)
   refine List.pairwise_cons.2 ⟨fun z hz=>?_,sinR_dsc h2⟩
   rcases sinR_mem.1 hz with rfl|hz
   ·rw[← Bool.not_eq_true,ltC_iff]
    rw[ltC_iff]at hc
    omega
   ·exact h1 z hz
  |false=>
   show Dsc (x::y::r)
   refine List.pairwise_cons.2 ⟨fun z hz=>?_,h⟩
   rcases List.mem_cons.1 hz with rfl|hz
   ·exact hc
   ·have:=h1 z hz
    rw[← Bool.not_eq_true,ltC_iff]at this hc ⊢
    omega
theorem stR_dsc (l:List Sk):Dsc (stR l):=snocI (P:=fun l=>Dsc (stR l)) List.Pairwise.nil (fun l x ih=>by rw[stR_snoc];exact sinR_dsc ih) l
/-- Those over one cell. -/
def ovr (c:Cl)(l:List Sk):List Sk:=l.filter fun s=>decide (s.1=c)
theorem sinR_ovr {x:Sk}{c:Cl}:∀(l:List Sk),ovr c (sinR x l)=if x.1=c then x::ovr c l else ovr c l
 |[]=>by
  unfold sinR ovr
  split<;>simp[*]
 |y::r=>by
  have ih:=sinR_ovr (x:=x) (c:=c) r
  unfold sinR
  cases hc:ltC x.1 y.1 with
  |true=>
   show ovr c (y::sinR x r)=_
   have hn:¬ (x.1=c∧y.1=c):=fun⟨h1,h2⟩=>by
    rw[h1,h2,ltC_iff]at hc;omega
   unfold ovr at ih ⊢
   rw[List.filter_cons,List.filter_cons,ih]
   by_cases h1:x.1=c
   ·have h2:¬ y.1=c:=fun h2=>hn ⟨h1,h2⟩
    simp[h1,h2]
   ·simp[h1]
  |false=>
   show ovr c (x::y::r)=_
   unfold ovr
   rw[List.filter_cons]
   by_cases h1:x.1=c<;>simp[h1]
theorem stR_ovr (c:Cl)(l:List Sk):ovr c (stR l)=(ovr c l).reverse:=by
 refine snocI (P:=fun l=>ovr c (stR l)=(ovr c l).reverse) rfl (fun l x ih=>?_) l
 rw[stR_snoc,sinR_ovr,ih]
 have e:ovr c (l++[x])=ovr c l++ovr c [x]:=by unfold ovr;rw[List.filter_append]
 rw[e,List.reverse_append]
 by_cases h1:x.1=c<;>simp[ovr,h1]
theorem dsc_unique:∀{a b:List Sk},Dsc a→Dsc b→(∀c,ovr c a=ovr c b)→a=b
 |[],[],_,_,_=>rfl
 |[],y::b,_,_,h=>by
  have:=h y.1
  simp[ovr]at this
 |x::a,[],_,_,h=>by
  have:=h x.1
  simp[ovr]at this
 |x::a,y::b,h1,h2,h=>by
  obtain⟨p1,p2⟩:=List.pairwise_cons.1 h1
  obtain⟨q1,q2⟩:=List.pairwise_cons.1 h2
  have mem:∀{z:Sk} {l m:List Sk},(∀c,ovr c l=ovr c m)→z∈l→z∈m:=fun{z l m} h hz=>by
   have:z∈ovr z.1 l:=List.mem_filter.2 ⟨hz,by simp⟩
   rw[h]at this
   exact(List.mem_filter.1 this).1
  have e:x.1=y.1:=by
   have hx:=mem h (List.mem_cons_self (a:=x) (l:=a))
   have hy:=mem (fun c=>(h c).symm) (List.mem_cons_self (a:=y) (l:=b))
   rcases List.mem_cons.1 hx with rfl|hx
   ·rfl
   ·rcases List.mem_cons.1 hy with rfl|hy
    ·rfl
    ·exact(ltC_tri (p1 y hy) (q1 x hx))
  have hh:=h x.1
  have exy:x=y:=by
   unfold ovr at hh
   rw[List.filter_cons,List.filter_cons]at hh
   simp only[e,decide_true,if_true]at hh
   exact(List.cons.inj hh).1
  subst exy
  rw[dsc_unique p2 q2 fun c=>?_]
  have hc:=h c
  unfold ovr at hc ⊢
  rw[List.filter_cons,List.filter_cons]at hc
  by_cases hx:x.1=c
  ·simp only[hx,decide_true,if_true]at hc
   exact(List.cons.inj hc).2
  ·simpa[hx]using hc
theorem stT_ext {l m:List Sk}(h:∀c,ovr c l=ovr c m):stT l=stT m:=by
 unfold stT
 rw[dsc_unique (stR_dsc l) (stR_dsc m) fun c=>by rw[stR_ovr,stR_ovr,h c]]
theorem stT_ovr (c:Cl)(l:List Sk):ovr c (stT l)=ovr c l:=by
 have:ovr c (stT l)=(ovr c (stR l)).reverse:=by unfold stT ovr;rw[List.filter_reverse]
 rw[this,stR_ovr,List.reverse_reverse]
theorem stR_mem {z:Sk}(l:List Sk):z∈stR l↔z∈l:=by
 refine snocI (P:=fun l=>z∈stR l↔z∈l) Iff.rfl (fun l x ih=>?_) l
 rw[stR_snoc,sinR_mem,ih,List.mem_append,List.mem_singleton]
 exact or_comm
theorem stT_mem {z:Sk}(l:List Sk):z∈stT l↔z∈l:=by unfold stT;rw[List.mem_reverse,stR_mem]
/-! ### A move and its inverse -/
def mvS (t a b:Int)(l:List Sk):List Sk:=l.map fun s=>(mvC t a b s.1,s.2)
def ivT (t:Int):Int:=if t=1 then 3 else if t=3 then 1 else t
def ivX (t a b:Int):Int:=mtX (ivT t) (-a) (-b)
def ivY (t a b:Int):Int:=mtY (ivT t) (-a) (-b)
theorem iv_turn {t:Int}(h:isT t):isT (ivT t):=by
 unfold ivT isT at*
 split
 ·omega
 ·split<;>omega
theorem q_or {q:Int}(h0:0≤q)(h3:q≤3):q=0∨q=1∨q=2∨q=3:=by omega
theorem mv_inv {t a b:Int}(h:isT t){c:Cl}(h0:0≤c.2.2)(h3:c.2.2≤3):mvC (ivT t) (ivX t a b) (ivY t a b) (mvC t a b c)=c:=by
 obtain⟨x,y,q⟩:=c
 have hq:mvQ (ivT t) (mvQ t q)=q:=by
  rcases isT_or h with rfl|rfl|rfl|rfl|rfl|rfl|rfl|rfl<;>rcases q_or h0 h3 with e|e|e|e<;>(simp only at e;subst e;rfl)
 refine Prod.ext ?_ (Prod.ext ?_ hq)
 ·show mvX' _ _ (mvX' t a x y) (mvY' t b x y)=x
  rcases isT_or h with rfl|rfl|rfl|rfl|rfl|rfl|rfl|rfl<;>simp[mvX',mvY',ivT,ivX,ivY,mtX,mtY]<;>omega
 ·show mvY' _ _ (mvX' t a x y) (mvY' t b x y)=y
  rcases isT_or h with rfl|rfl|rfl|rfl|rfl|rfl|rfl|rfl<;>simp[mvX',mvY',ivT,ivX,ivY,mtX,mtY]<;>omega
theorem iv_mvO {t a b:Int}(h:mvO t a b):mvO (ivT t) (ivX t a b) (ivY t a b):=by
 obtain⟨ht,h1,h2,h3,h4,h5⟩:=h
 refine⟨iv_turn ht,?_⟩
 rcases isT_or ht with rfl|rfl|rfl|rfl|rfl|rfl|rfl|rfl<;>simp[ivT,ivX,ivY,mtX,mtY]<;>omega
/-- Moved there and back, in order. -/
theorem mv_back {t a b:Int}(h:isT t){l:List Sk}(hq:∀s∈l,0≤s.1.2.2∧s.1.2.2≤3):stT (mvS (ivT t) (ivX t a b) (ivY t a b) (stT (mvS t a b l)))=stT l:=by
 refine stT_ext fun c=>?_
 have inv:∀s∈l,mvC (ivT t) (ivX t a b) (ivY t a b) (mvC t a b s.1)=s.1:=fun s hs=>mv_inv h (hq s hs).1 (hq s hs).2
 have key:∀m:List Sk,(∀s∈m,∃s'∈l,s=(mvC t a b s'.1,s'.2))→ovr c (mvS (ivT t) (ivX t a b) (ivY t a b) m)=mvS (ivT t) (ivX t a b) (ivY t a b) (m.filter fun s=>decide (mvC (ivT t) (ivX t a b) (ivY t a b) s.1=c)):=fun m _=>by
  unfold ovr mvS
  rw[List.filter_map]
  rfl
 have e1:=key (stT (mvS t a b l)) fun s hs=>by
  have:=(stT_mem _).1 hs
  unfold mvS at this
  obtain⟨s',h1,h2⟩:=List.mem_map.1 this
  exact⟨s',h1,h2.symm⟩
 rw[e1]
 by_cases hc:∃s∈l,s.1=c
 ·obtain⟨s0,hs0,hc0⟩:=hc
  have e2:(stT (mvS t a b l)).filter (fun s=>decide (mvC (ivT t) (ivX t a b) (ivY t a b) s.1=c))=ovr (mvC t a b c) (stT (mvS t a b l)):=by
   unfold ovr
   refine List.filter_congr fun s hs=>?_
   have:=(stT_mem _).1 hs
   unfold mvS at this
   obtain⟨s',h1,rfl⟩:=List.mem_map.1 this
   simp only[inv s' h1]
   rw[decide_eq_decide]
   constructor
   ·intro e;rw[e]
   ·intro e
    have:=congrArg (mvC (ivT t) (ivX t a b) (ivY t a b)) e
    rwa [inv s' h1,← hc0,inv s0 hs0,hc0]at this
  rw[e2,stT_ovr]
  have e3:ovr (mvC t a b c) (mvS t a b l)=mvS t a b (ovr c l):=by
   unfold ovr mvS
   rw[List.filter_map]
   congr 1
   refine List.filter_congr fun s hs=>?_
   simp only[Function.comp]
   rw[decide_eq_decide]
   constructor
   ·intro e
    have:=congrArg (mvC (ivT t) (ivX t a b) (ivY t a b)) e
    rwa [inv s hs,← hc0,inv s0 hs0,hc0]at this
   ·intro e;rw[e]
  rw[e3]
  unfold mvS
  rw[List.map_map]
  have:(ovr c l).map ((fun s:Sk=>(mvC (ivT t) (ivX t a b) (ivY t a b) s.1,s.2))∘fun s:Sk=>(mvC t a b s.1,s.2))=(ovr c l).map id:=by
   refine List.map_congr_left fun s hs=>?_
   have hs':s∈l:=(List.mem_filter.1 hs).1
   show(mvC _ _ _ (mvC t a b s.1),s.2)=s
   rw[inv s hs']
  rw[this,List.map_id]
 ·have e2:(stT (mvS t a b l)).filter (fun s=>decide (mvC (ivT t) (ivX t a b) (ivY t a b) s.1=c))=[]:=by
   refine List.filter_eq_nil_iff.2 fun s hs=>?_
   have:=(stT_mem _).1 hs
   unfold mvS at this
   obtain⟨s',h1,rfl⟩:=List.mem_map.1 this
   simp only[inv s' h1,decide_eq_true_eq]
   exact fun e=>hc ⟨s',h1,e⟩
  have e3:ovr c l=[]:=List.filter_eq_nil_iff.2 fun s hs=>by
   rw[decide_eq_true_eq]
   exact fun e=>hc ⟨s,hs,e⟩
  rw[e2,e3];rfl
/-! ### Cells of a list of stacks, one by one -/
def skC (s:Sk):List AV:=[.int .i64 s.1.1,.int .i64 s.1.2.1,.int .u8 s.1.2.2,layC s.2]
def flatC (l:List Sk):List AV:=l.flatMap skC
theorem flatC_app (a b:List Sk):flatC (a++b)=flatC a++flatC b:=by unfold flatC;rw[List.flatMap_append]
theorem flatC_cons (s:Sk)(l:List Sk):flatC (s::l)=skC s++flatC l:=rfl
theorem flatT_cons (s:Sk)(l:List Sk):flatT (s::l)=skV s++flatT l:=rfl
theorem flatC_len (l:List Sk):(flatC l).length=l.length*4:=by
 induction l with
 |nil=>rfl
 |cons s r ih=>
  rw[flatC_cons,List.length_append,ih,List.length_cons]
  show 4+_=_
  omega
theorem unT_flatC:∀(l:List Sk),unT (flatC l)=l
 |[]=>rfl
 |((x,y,q),ks)::l=>by
  show((x,y,q),ks)::unT (flatC l)=_
  rw[unT_flatC l]
/-- Four cells written, one behind the other. -/
def set4 (l:List AV)(i:Nat)(a b c d:AV):List AV:=(((l.set i a).set (i+1) b).set (i+2) c).set (i+3) d
theorem set4_app {A l:List AV}{a b c d:AV}{i:Nat}:set4 (A++l) (A.length+i) a b c d=A++set4 l i a b c d:=by
 unfold set4
 have e:∀(m:List AV) (j:Nat) (x:AV),(A++m).set (A.length+j) x=A++m.set j x:=fun m j x=>by
  rw[List.set_append,if_neg (by omega),Nat.add_sub_cancel_left]
 rw[e,Nat.add_assoc,e,Nat.add_assoc,e,Nat.add_assoc,e]
theorem set4_C:∀{l:List Sk} {i:Nat} {s:Sk},i<l.length→set4 (flatC l) (i*4) (.int .i64 s.1.1) (.int .i64 s.1.2.1) (.int .u8 s.1.2.2) (layC s.2)=flatC (l.set i s)
 |[],_,_,h=>by simp at h
 |r::l,0,s,_=>rfl
 |r::l,i+1,s,h=>by
  rw[flatC_cons,show(i+1)*4=(skC r).length+i*4 by show _=4+_;omega,set4_app,set4_C (by simpa using h)]
  rfl
theorem set4_T:∀{l:List Sk} {i:Nat} {s:Sk},i<l.length→set4 (flatT l) (i*4) (.int .i64 s.1.1) (.int .i64 s.1.2.1) (.int .u8 s.1.2.2) (layV s.2)=flatT (l.set i s)
 |[],_,_,h=>by simp at h
 |r::l,0,s,_=>rfl
 |r::l,i+1,s,h=>by
  rw[flatT_cons,show(i+1)*4=(skV r).length+i*4 by show _=4+_;omega,set4_app,set4_T (by simpa using h)]
  rfl
def cVal (l:List Sk)(i:Int):List AV:=[.int .i64 (tX l i),.int .i64 (tY l i),.int .u8 (tQ l i),layC (tKh l i)]
theorem cget:∀{l:List Sk} {n:Nat},n<l.length→(flatC l)[n*4]? =some (.int .i64 (tX l n))∧(flatC l)[n*4+1]? =some (.int .i64 (tY l n))∧(flatC l)[n*4+2]? =some (.int .u8 (tQ l n))∧(flatC l)[n*4+3]? =some (layC (tKh l n))
 |[],_,h=>by simp at h
 |r::l,0,_=>⟨rfl,rfl,rfl,rfl⟩
 |r::l,n+1,h=>by
  have ih:=cget (l:=l) (n:=n) (by simpa using h)
  have e:∀k,(flatC (r::l))[(n+1)*4+k]? =(flatC l)[n*4+k]? :=fun k=>by
   rw[flatC_cons,show(n+1)*4+k=(skC r).length+(n*4+k)by show _=4+_;omega,List.getElem?_append_right (by omega),Nat.add_sub_cancel_left]
  exact⟨(e 0).trans ih.1,(e 1).trans ih.2.1,(e 2).trans ih.2.2.1,(e 3).trans ih.2.2.2⟩
theorem tgetE:∀{l:List Sk} {n:Nat},n<l.length→(flatT l)[n*4]? =some (.int .i64 (tX l n))∧(flatT l)[n*4+1]? =some (.int .i64 (tY l n))∧(flatT l)[n*4+2]? =some (.int .u8 (tQ l n))∧(flatT l)[n*4+3]? =some (layV (tKh l n))
 |[],_,h=>by simp at h
 |r::l,0,_=>⟨rfl,rfl,rfl,rfl⟩
 |r::l,n+1,h=>by
  have ih:=tgetE (l:=l) (n:=n) (by simpa using h)
  have e:∀k,(flatT (r::l))[(n+1)*4+k]? =(flatT l)[n*4+k]? :=fun k=>by
   rw[flatT_cons,show(n+1)*4+k=(skV r).length+(n*4+k)by show _=4+_;omega,List.getElem?_append_right (by omega),Nat.add_sub_cancel_left]
  exact⟨(e 0).trans ih.1,(e 1).trans ih.2.1,(e 2).trans ih.2.2.1,(e 3).trans ih.2.2.2⟩
/-! ### The loops -/
/-- The first n are sorted. -/
def stg (l:List Sk)(n:Nat):List Sk:=(stR (l.take n)).reverse++l.drop n
/-- The next one on its way. -/
structure Way (l:List Sk)(n j:Nat)(o:List Sk):Prop where
 ex:∃(x:Sk) (K R:List Sk),l[n]? =some x∧stR (l.take n)=K++R∧R.length=j∧o=R.reverse++x::(K.reverse++l.drop (n+1))∧sinR x (K++R)=K++sinR x R
theorem way_0 {l:List Sk}{n:Nat}(h:n<l.length):Way l n n (stg l n):=
 ⟨l[n],[],stR (l.take n),List.getElem?_eq_getElem h,rfl,by rw[stR_len,List.length_take];omega,by unfold stg;rw[List.drop_eq_getElem_cons h];rfl,rfl⟩
theorem way_len {l:List Sk}{n j:Nat}{o:List Sk}(h:Way l n j o):o.length=l.length∧j≤n∧n<l.length:=by
 obtain⟨x,K,R,h1,h2,h3,rfl,_⟩:=h.ex
 have h4:=congrArg List.length h2
 rw[stR_len,List.length_take,List.length_append]at h4
 obtain⟨h5,_⟩:=List.getElem?_eq_some_iff.1 h1
 simp only[List.length_append,List.length_reverse,List.length_cons,List.length_drop]
 omega
theorem way_end {l:List Sk}{n j:Nat}{o:List Sk}(h:Way l n j o)(hs:j=0∨ltC (gT o j).1 (gT o ((j:Int)-1)).1=false):o=stg l (n+1):=by
 obtain⟨x,K,R,h1,h2,h3,rfl,h5⟩:=h.ex
 obtain⟨hn,h1'⟩:=List.getElem?_eq_some_iff.1 h1
 have e:stR (l.take (n+1))=K++sinR x R:=by
  rw[List.take_add_one,List.getElem?_eq_getElem hn,h1']
  show stR (l.take n++[x])=_
  rw[stR_snoc,h2,h5]
 have e2:sinR x R=x::R:=by
  cases R with
  |nil=>rfl
  |cons y R=>
   rcases hs with hs|hs
   ·rw[← h3]at hs;simp at hs
   ·have hj:j=R.length+1:=by rw[← h3];rfl
    subst hj
    have g1:gT ((y::R).reverse++x::(K.reverse++l.drop (n+1))) ((R.length+1:Nat):Int)=x:=by
     unfold gT
     rw[Int.toNat_natCast,List.getElem?_append_right (by simp)]
     simp
    have g2:gT ((y::R).reverse++x::(K.reverse++l.drop (n+1))) (((R.length+1:Nat):Int)-1)=y:=by
     unfold gT
     rw[show(((R.length+1:Nat):Int)-1).toNat=R.length by omega,List.getElem?_append_left (by simp),List.reverse_cons,List.getElem?_append_right (by simp)]
     simp
    rw[g1,g2]at hs
    unfold sinR
    rw[hs];rfl
 unfold stg
 rw[e,e2,List.reverse_append,List.reverse_cons]
 simp
theorem way_step {l:List Sk}{n j:Nat}{o:List Sk}(h:Way l n (j+1) o)(hs:ltC (gT o (j+1:Nat)).1 (gT o j).1=true):Way l n j ((o.set (j+1) (gT o j)).set j (gT o (j+1:Nat))):=by
 obtain⟨x,K,R,h1,h2,h3,rfl,h5⟩:=h.ex
 cases R with
 |nil=>simp at h3
 |cons y R=>
  have hj:j=R.length:=by simpa using h3.symm
  subst hj
  have e0:(y::R).reverse++x::(K.reverse++l.drop (n+1))=R.reverse++y::x::(K.reverse++l.drop (n+1)):=by simp
  have g1:gT ((y::R).reverse++x::(K.reverse++l.drop (n+1))) ((R.length+1:Nat):Int)=x:=by
   unfold gT
   rw[Int.toNat_natCast,List.getElem?_append_right (by simp)]
   simp
  have g2:gT ((y::R).reverse++x::(K.reverse++l.drop (n+1))) (R.length:Int)=y:=by
   unfold gT
   rw[Int.toNat_natCast,List.getElem?_append_left (by simp),List.reverse_cons,List.getElem?_append_right (by simp)]
   simp
  rw[g1,g2]at hs ⊢
  refine⟨x,K++[y],R,h1,by rw[h2];simp,rfl,?_,?_⟩
  ·rw[e0]
   have e1:∀(m:List Sk) (i:Nat) (z:Sk),(R.reverse++m).set (R.length+i) z=R.reverse++m.set i z:=fun m i z=>by
    rw[List.set_append,if_neg (by simp),List.length_reverse,Nat.add_sub_cancel_left]
   rw[e1]
   rw[List.set_cons_succ,List.set_cons_zero]
   have:=e1 (y::y::(K.reverse++l.drop (n+1))) 0 x
   refine Eq.trans this ?_
   rw[List.set_cons_zero]
   simp
  ·rw[List.append_assoc]
   show sinR x (K++y::R)=_
   rw[h5]
   simp[sinR,hs]
theorem stg_1 (l:List Sk):stg l 1=l:=by
 cases l with
 |nil=>rfl
 |cons s r=>rfl
theorem stg_end {l:List Sk}{n:Nat}(h:l.length≤n):stg l n=stT l:=by
 unfold stg stT
 rw[List.take_of_length_le h,List.drop_of_length_le h,List.append_nil]
end Go.Proofs.YtmnaghfndigfkaaDoor.X
