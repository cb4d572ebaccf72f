/- An abstract reading of the program: what its operations do to what is known of memory. Part 4 of 6. -/
import Derived.Test.YtfpcbimohikhmaaDoorAb3
import Derived.AtR
import Derived.RangeFuncLeaves
import Derived.RangeFuncIn
import Derived.RangeFuncRecord

/-
 Entries of a map: what is put is found, keys and birth numbers stay apart; the entries left to a range.
-/
set_option linter.unusedVariables false
set_option linter.unusedSimpArgs false
namespace Go.Ab
open Go

abbrev Ent3:Type:=List Int×List Int×Nat

theorem mget_put (k k' v:List Int)(c:Nat):∀(es:List Ent3),mget (mput es k v c) k'=if k'=k then some v else mget es k'
 |[]=>by simp only[mput,mget,cond_eq_ite,decide_eq_true_eq]
 |e::r=>by
  simp only[mput,cond_eq_ite,decide_eq_true_eq]
  by_cases h:k=e.1
  ·rw[if_pos h]
   simp only[mget,cond_eq_ite,decide_eq_true_eq]
   by_cases h2:k'=k
   ·rw[if_pos h2,if_pos h2]
   ·rw[if_neg h2,if_neg h2,if_neg (fun q=>h2 (q.trans h.symm))]
  ·rw[if_neg h]
   simp only[mget,cond_eq_ite,decide_eq_true_eq]
   rw[mget_put k k' v c r]
   by_cases h2:k'=e.1
   ·rw[if_pos h2,if_pos h2,if_neg (fun q=>h (q.symm.trans h2))]
   ·rw[if_neg h2,if_neg h2]
theorem mhas_iff {k:List Int}:∀{es:List Ent3},mhas es k=true↔∃e∈es,e.1=k
 |[]=>by simp[mhas]
 |e::r=>by
  simp only[mhas,cond_eq_ite,decide_eq_true_eq]
  by_cases h:k=e.1
  ·simp[h]
  ·rw[if_neg h,mhas_iff]
   simp[Ne.symm h]
structure WfE (es:List Ent3)(c:Nat):Prop where
 keys:es.Pairwise (fun a b=>a.1≠b.1)
 born:es.Pairwise (fun a b=>a.2.2≠b.2.2)
 old:bornP es c
theorem WfE.nil (c:Nat):WfE [] c:=⟨.nil,.nil,fun e h=>by simp at h⟩
theorem put_new {k v:List Int}{c:Nat}:∀{es:List Ent3},mhas es k=false→mput es k v c=es++[(k,v,c)]
 |[],h=>rfl
 |e::r,h=>by
  simp only[mhas,cond_eq_ite,decide_eq_true_eq]at h
  by_cases h2:k=e.1
  ·rw[if_pos h2]at h;cases h
  ·rw[if_neg h2]at h
   simp only[mput,cond_eq_ite,decide_eq_true_eq]
   rw[if_neg h2,put_new h];rfl
theorem put_mem {k v:List Int}{c:Nat}:∀{es:List Ent3} {e:Ent3},mhas es k=true→e∈mput es k v c→(∃e0∈es,e0.1=e.1∧e0.2.2=e.2.2)
 |[],e,h,he=>by cases h
 |d::r,e,h,he=>by
  simp only[mhas,cond_eq_ite,decide_eq_true_eq]at h
  simp only[mput,cond_eq_ite,decide_eq_true_eq]at he
  by_cases h2:k=d.1
  ·rw[if_pos h2]at he
   rcases List.mem_cons.1 he with rfl|he
   ·exact⟨d,by simp,h2.symm,rfl⟩
   ·exact⟨e,by simp[he],rfl,rfl⟩
  ·rw[if_neg h2]at he h
   rcases List.mem_cons.1 he with rfl|he
   ·exact⟨e,by simp,rfl,rfl⟩
   ·obtain⟨e0,h3,h4⟩:=put_mem h he
    exact⟨e0,by simp[h3],h4⟩
theorem put_pw {k v:List Int}{c:Nat}{R:Ent3→Ent3→Prop}(hR:∀a b a' b':Ent3,a.1=a'.1→a.2.2=a'.2.2→b.1=b'.1→b.2.2=b'.2.2→R a b→R a' b'):∀{es:List Ent3},mhas es k=true→es.Pairwise R→(mput es k v c).Pairwise R
 |[],h,hp=>by cases h
 |d::r,h,hp=>by
  obtain⟨h1,h2⟩:=List.pairwise_cons.1 hp
  simp only[mhas,cond_eq_ite,decide_eq_true_eq]at h
  simp only[mput,cond_eq_ite,decide_eq_true_eq]
  by_cases h3:k=d.1
  ·rw[if_pos h3]
   exact List.pairwise_cons.2 ⟨fun b hb=>hR d b _ b h3.symm rfl rfl rfl (h1 b hb),h2⟩
  ·rw[if_neg h3]at h ⊢
   refine List.pairwise_cons.2 ⟨fun b hb=>?_,put_pw hR h h2⟩
   obtain⟨b0,q1,q2,q3⟩:=put_mem h hb
   exact hR d b0 d b rfl rfl q2 q3 (h1 b0 q1)
theorem WfE.put {es:List Ent3}{c:Nat}(h:WfE es c)(k v:List Int):WfE (mput es k v c) (mck es k c):=by
 unfold mck
 cases hk:mhas es k with
 |true=>
  rw[cond_true]
  refine⟨put_pw (fun a b a' b' q1 q2 q3 q4 q=>by rw[← q1,← q3];exact q) hk h.keys,put_pw (fun a b a' b' q1 q2 q3 q4 q=>by rw[← q2,← q4];exact q) hk h.born,fun e he=>?_⟩
  obtain⟨e0,q1,q2,q3⟩:=put_mem hk he
  rw[← q3];exact h.old e0 q1
 |false=>
  rw[cond_false,put_new hk]
  have hn:∀e∈es,e.1≠k:=fun e he q=>by
   have:=mhas_iff.2 ⟨e,he,q⟩
   rw[hk]at this;cases this
  refine⟨List.pairwise_append.2 ⟨h.keys,List.pairwise_singleton _ _,fun a ha b hb=>?_⟩,List.pairwise_append.2 ⟨h.born,List.pairwise_singleton _ _,fun a ha b hb=>?_⟩,fun e he=>?_⟩
  ·simp at hb;subst hb;exact hn a ha
  ·simp at hb;subst hb;exact Nat.ne_of_lt (h.old a ha)
  ·rcases List.mem_append.1 he with he|he
   ·exact Nat.lt_succ_of_lt (h.old e he)
   ·simp at he;subst he;exact Nat.lt_succ_self _
theorem WfE.get {es:List Ent3}{c:Nat}(h:WfE es c){e:Ent3}(he:e∈es):mget es e.1=some e.2.1:=by
 have hk:=h.keys
 clear h
 induction es with
 |nil=>simp at he
 |cons d r ih=>
  obtain⟨h1,h2⟩:=List.pairwise_cons.1 hk
  simp only[mget,cond_eq_ite,decide_eq_true_eq]
  rcases List.mem_cons.1 he with rfl|he
  ·rw[if_pos rfl]
  ·rw[if_neg (fun q=>h1 e he q.symm)]
   exact ih he h2
theorem WfE.mem {es:List Ent3}{k v:List Int}(h:mget es k=some v):∃b,(k,v,b)∈es:=by
 induction es with
 |nil=>cases h
 |cons d r ih=>
  simp only[mget,cond_eq_ite,decide_eq_true_eq]at h
  by_cases hk:k=d.1
  ·rw[if_pos hk]at h
   cases h;subst hk
   exact⟨d.2.2,by simp⟩
  ·rw[if_neg hk]at h
   obtain⟨b,hb⟩:=ih h
   exact⟨b,by simp[hb]⟩

/-! ### What is left to a range -/
theorem left0 (es:List Ent3):leftE es []=es:=by
 unfold leftE;exact List.filter_eq_self.2 (fun e _=>by simp)
theorem mem_left {es:List Ent3}{seen:List Nat}{e:Ent3}:e∈leftE es seen↔e∈es∧e.2.2∉seen:=by
 unfold leftE;rw[List.mem_filter];simp
theorem left_step {es:List Ent3}{seen:List Nat}{e:Ent3}:(leftE es (seen++[e.2.2]))=(leftE es seen).filter (fun d=>d.2.2 !=e.2.2):=by
 unfold leftE
 rw[List.filter_filter]
 refine List.filter_congr (fun d _=>?_)
 by_cases h1:d.2.2∈seen<;>by_cases h2:d.2.2=e.2.2<;>simp[h1,h2]
theorem left_len {es:List Ent3}{seen:List Nat}{e:Ent3}(he:e∈leftE es seen):(leftE es (seen++[e.2.2])).length<(leftE es seen).length:=by
 rw[left_step]
 have:∀(l:List Ent3),e∈l→(l.filter (fun d=>d.2.2 !=e.2.2)).length<l.length:=by
  intro l
  induction l with
  |nil=>intro h;simp at h
  |cons d r ih=>
   intro h
   by_cases hd:d.2.2=e.2.2
   ·rw[List.filter_cons_of_neg (by simp[hd])]
    exact Nat.lt_succ_of_le (List.length_filter_le _ _)
   ·rw[List.filter_cons_of_pos (by simpa using hd)]
    rcases List.mem_cons.1 h with rfl|h
    ·exact absurd rfl hd
    ·exact Nat.succ_lt_succ (ih h)
 exact this _ he
theorem left_perm {es:List Ent3}{c:Nat}(h:WfE es c){seen:List Nat}{e:Ent3}(he:e∈leftE es seen):(leftE es seen).Perm (e::leftE es (seen++[e.2.2])):=by
 rw[left_step]
 have hp:(leftE es seen).Pairwise (fun a b=>a.2.2≠b.2.2):=h.born.filter _
 revert he hp
 generalize leftE es seen=l
 intro he hp
 induction l with
 |nil=>simp at he
 |cons d r ih=>
  obtain⟨h1,h2⟩:=List.pairwise_cons.1 hp
  rcases List.mem_cons.1 he with rfl|he
  ·rw[List.filter_cons_of_neg (by simp)]
   have:r.filter (fun d=>d.2.2 !=e.2.2)=r:=List.filter_eq_self.2 (fun b hb=>by simpa using(h1 b hb).symm)
   rw[this]
  ·rw[List.filter_cons_of_pos (by simpa using h1 e he)]
   exact((ih he h2).cons d).trans (List.Perm.swap _ _ _)
/-! ### An entry that is laid first and written then -/
theorem mborn_mem {k:List Int}{c:Nat}:∀{es:List Ent3},mborn es k c=c∨∃e∈es,e.2.2=mborn es k c
 |[]=>.inl rfl
 |d::r=>by
  simp only[mborn,cond_eq_ite,decide_eq_true_eq]
  by_cases h:k=d.1
  ·rw[if_pos h];exact .inr ⟨d,by simp,rfl⟩
  ·rw[if_neg h]
   rcases mborn_mem (es:=r) (k:=k) (c:=c)with q|⟨e,q1,q2⟩
   ·exact .inl q
   ·exact .inr ⟨e,by simp[q1],q2⟩
theorem mset_put {k z v:List Int}{c:Nat}:∀{es:List Ent3},es.Pairwise (fun a b=>a.2.2≠b.2.2)→bornP es c→mst? (mput es k z c) (mborn es k c:Nat)=true∧mset (mput es k z c) (mborn es k c:Nat) v=mput es k v c
 |[],_,_=>by simp[mst?,mput,mborn,mset]
 |d::r,hp,hb=>by
  obtain⟨h1,h2⟩:=List.pairwise_cons.1 hp
  have ih:=mset_put (k:=k) (z:=z) (v:=v) h2 (c:=c) (fun e he=>hb e (by simp[he]))
  by_cases h:k=d.1
  ·simp[mst?,mput,mborn,mset,h]
  ·have hne:¬ ((d.2.2:Int)=(mborn r k c:Nat)):=by
    have h0:=hb d (by simp)
    rcases mborn_mem (es:=r) (k:=k) (c:=c)with q|⟨e,q1,q2⟩
    ·omega
    ·have:=h1 e q1;omega
   have e1:mput (d::r) k z c=d::mput r k z c:=by simp[mput,h]
   have e2:mput (d::r) k v c=d::mput r k v c:=by simp[mput,h]
   have e3:mborn (d::r) k c=mborn r k c:=by simp[mborn,h]
   rw[e1,e2,e3]
   unfold mst? at ih ⊢
   rw[List.any_cons,ih.1,Bool.or_true]
   refine⟨rfl,?_⟩
   simp only[mset,hne,decide_false,cond_false]
   rw[ih.2]
theorem WfE.mset {es:List Ent3}{c:Nat}(h:WfE es c){k z v:List Int}:mst? (mput es k z c) (mborn es k c:Nat)=true∧mset (mput es k z c) (mborn es k c:Nat) v=mput es k v c:=mset_put h.born h.old
theorem ent_get {kk vk:MV}{es:List Ent3}{seen:List Nat}{e:Ent3}{c:Nat}(h:WfE es c)(he:e∈leftE es seen):(entL kk vk es (seen++[e.2.2]))[0]? =some (.tup [kk.av e.1,vk.av e.2.1]):=by
 have he2:=(mem_left.1 he).1
 have hl:(seen++[e.2.2]).getLast? =some e.2.2:=by simp
 unfold entL
 rw[hl]
 have hp:=h.born
 clear h hl he
 induction es with
 |nil=>simp at he2
 |cons d r ih=>
  obtain⟨h1,h2⟩:=List.pairwise_cons.1 hp
  rcases List.mem_cons.1 he2 with rfl|he
  ·rw[List.filter_cons_of_pos (by simp)];rfl
  ·rw[List.filter_cons_of_neg (by simpa using(h1 e he).symm)]
   exact ih he h2
end Go.Ab

/-
 Regions in any order that the edges allow: what each operation reads and writes decides that the order does not matter.
-/
set_option linter.unusedVariables false
set_option linter.unusedSimpArgs false
namespace Go.Ab
open Go

structure Ent where
 x:XO
 s:Nat
 g:GDir
 d:Dir
 gv:Option AV
 rt:List (Nat×AV)
 rh:List (Nat×HO)
 D:Delta

def refsE:List (Nat×AV)→List Nat
 |[]=>[]
 |(_,.ep id _ _)::r=>id::refsE r
 |(_,.full id _)::r=>id::refsE r
 |(_,.fullc id _ _)::r=>id::refsE r
 |(_,.sl id _ _ _)::r=>id::refsE r
 |(_,.vw id _ _ _ _)::r=>id::refsE r
 |(_,.qu id _ _)::r=>id::refsE r
 |(_,.qe id _ _)::r=>id::refsE r
 |_::r=>refsE r
def rhOf (look:Nat→Option HO)(op:XOp)(rt:List (Nat×AV)):List Nat:=
 match op with
 |.store _ _ _=>refsT rt++reachW look 1000000 (refsT (rt.drop 1)) []
 |.load _ _|.nxt _|.mlook _ _ _ _ _|.mput _ _ _ _ _|.ment _ _ _ _|.mst _ _ _ _ _|.mdel _ _ _ _|.mlen _|.rngm _=>refsT rt
 |.fieldA _ _|.nilck _|.idxA _ _ _ _|.len _|.cap _|.isnil _ _ _=>refsE rt
 |.slice _ _ _ _ _|.slicea _ _ _ _ _ _|.append _ _ _ _ _|.copy _ _ _|.bstr _|.call _ _|.callv _ _|.inv _ _ _|.ent _=>reachW look 1000000 (refsT rt) []
 |_=>[]
def mkEnt (G:GL)(S:St)(x:XO)(s:Nat)(dd:GDir×Dir):Option Ent:=
 let rt:=readT S.t x.op.opds
 let rh:=readF (aget S.h) (rhOf (aget S.h) x.op rt)
 let gv:=gvOf S.t x.guard
 match runG G s (aget rh) x dd.1 dd.2 gv rt with
 |some D=>cond (okDst x.dst S.n&&freshA S.h D.al) (some {x,s,g:=dd.1,d:=dd.2,gv,rt,rh,D}) none
 |none=>none

def nth? {α:Type}:List α→Nat→Option α
 |[],_=>none
 |x::_,0=>some x
 |_::r,n+1=>nth? r n

def exEnts (G:GL)(ds:Dirs)(xs:List XO)(s:Nat):List Nat→St→Option (St×List (Nat×Ent)×List Cd)
 |[],S=>some (S,[],[])
 |i::r,S=>match nth? xs i with
  |some x=>match mkEnt G S x (s+i) (dirOf ds (s+i))with
   |some e=>match exEnts G ds xs s r (putS S x.dst e.D)with
    |some (S',es,cs)=>some (S',(i,e)::es,e.D.cs++cs)
    |none=>none
   |none=>none
  |none=>none

def optL:Option Nat→List Nat
 |some x=>[x]
 |none=>[]
def gL:Option (Nat×Bool)→List Nat
 |some (x,_)=>[x]
 |none=>[]
def apartE (e f:Ent):Bool:=
 noneIn (optL e.x.dst) (keys f.rt++(gL f.x.guard++optL f.x.dst))&&(noneIn (optL f.x.dst) (keys e.rt++gL e.x.guard)&&
 (noneIn (keys e.D.ws) (keys f.rh++(f.D.al++keys f.D.ws))&&noneIn (keys f.D.ws) (keys e.rh++e.D.al)))
def emptL {α:Type}:List α→Bool
 |[]=>true
 |_=>false
def swapB (e f:Ent):Bool:=
 match e.x.op,f.x.op,e.x.guard,f.x.guard with
 |.mlook kk vk false (.t a) (.t b),.ment kk' vk' (.t a') (.t b'),none,none=>Nat.beq a a'&&(Nat.beq b b'&&(beqMV kk kk'&&(beqMV vk vk'&&(emptL e.D.ws&&(emptL e.D.al&&
   (noneIn (optL e.x.dst) (keys f.rt++optL f.x.dst)&&noneIn (optL f.x.dst) (keys e.rt)))))))
 |_,_,_,_=>false

section
variable {P:Program}{G:GL}{ops:Array Oper}{R:Act→World→Prop}

theorem memN_iff {x:Nat}:∀{l:List Nat},memN x l=true↔x∈l
 |[]=>by simp[memN]
 |y::r=>by
  simp only[memN,cond_eq_ite]
  by_cases e:y=x
  ·subst e;simp[beq_self]
  ·rw[if_neg (by simp[beq_ne e]),memN_iff (l:=r)]
   simp[Ne.symm e]

theorem noneIn_ok:∀{a l:List Nat},noneIn a l=true→∀x,x∈a→x∉l
 |[],l,_,x,hx=>by simp at hx
 |y::r,l,h,x,hx=>by
  simp only[noneIn,cond_eq_ite]at h
  split at h
  ·cases h
  ·rename_i hm
   rcases List.mem_cons.1 hx with rfl|hx
   ·exact fun hl=>hm (memN_iff.2 hl)
   ·exact noneIn_ok h x hx

theorem keys_of_aget {α:Type}:∀{l:List (Nat×α)} {k:Nat} {v:α},aget l k=some v→k∈keys l
 |[],k,v,h=>by cases h
 |(j,u)::r,k,v,h=>by
  simp only[aget]at h
  by_cases e:j=k
  ·subst e;simp[keys]
  ·rw[beq_ne e,cond_false]at h
   simp only[keys,List.mem_cons];right;exact keys_of_aget h

structure En (e:Ent)(T:Nat→Option AV)(H:Nat→Option HO):Prop where
 rt:∀t v,aget e.rt t=some v→T t=some v
 gv:∀t want v,e.x.guard=some (t,want)→e.gv=some v→T t=some v
 rh:∀i o,aget e.rh i=some o→H i=some o
 al:∀i,i∈e.D.al→H i=none

theorem updL_other {H:Nat→Option HO}:∀{ws:List (Nat×HO)} {i:Nat},i∉keys ws→updL H ws i=H i
 |[],i,h=>rfl
 |(j,o)::r,i,h=>by
  simp only[keys,List.mem_cons,not_or]at h
  simp only[updL]
  rw[updL_other h.2,upd_other _ _ h.1]
theorem updL_congr {H H':Nat→Option HO}{ws:List (Nat×HO)}{i:Nat}(h:H i=H' i):updL H ws i=updL H' ws i:=by
 induction ws generalizing H H' with
 |nil=>exact h
 |cons p r ih=>
  obtain⟨j,o⟩:=p
  simp only[updL]
  refine ih ?_
  by_cases e:i=j
  ·subst e;rw[upd_same,upd_same]
  ·rw[upd_other _ _ e,upd_other _ _ e];exact h
theorem updL_comm {H:Nat→Option HO}{a b:List (Nat×HO)}(h:∀i,i∈keys a→i∉keys b):updL (updL H a) b=updL (updL H b) a:=by
 funext i
 by_cases hb:i∈keys b
 ·have ha:i∉keys a:=fun ha=>h i ha hb
  rw[updL_other (H:=updL H b) ha]
  exact updL_congr (updL_other ha)
 ·rw[updL_other hb]
  exact updL_congr (updL_other hb).symm
theorem updT_other {T:Nat→Option AV}{dst:Option Nat}{v:AV}{t:Nat}(h:t∉optL dst):updT T dst v t=T t:=by
 cases dst with
 |none=>rfl
 |some d=>exact upd_other _ _ (by simpa[optL]using h)
theorem updT_comm {T:Nat→Option AV}{d e:Option Nat}{u v:AV}(h:∀t,t∈optL d→t∉optL e):updT (updT T d u) e v=updT (updT T e v) d u:=by
 cases d with
 |none=>rfl
 |some d=>
  cases e with
  |none=>rfl
  |some e=>
   have hne:d≠e:=by simpa[optL]using h d (by simp[optL])
   funext t
   simp only[updT,upd]
   by_cases h1:t=d
   ·subst h1;simp[hne]
   ·simp[h1]

structure Apart (e f:Ent):Prop where
 d1:∀t,t∈optL e.x.dst→t∉keys f.rt
 d2:∀t,t∈optL e.x.dst→t∉gL f.x.guard
 d3:∀t,t∈optL e.x.dst→t∉optL f.x.dst
 d4:∀t,t∈optL f.x.dst→t∉keys e.rt
 d5:∀t,t∈optL f.x.dst→t∉gL e.x.guard
 h1:∀i,i∈keys e.D.ws→i∉keys f.rh
 h2:∀i,i∈keys e.D.ws→i∉f.D.al
 h3:∀i,i∈keys e.D.ws→i∉keys f.D.ws
 h4:∀i,i∈keys f.D.ws→i∉keys e.rh
 h5:∀i,i∈keys f.D.ws→i∉e.D.al

theorem apartE_ok {e f:Ent}(h:apartE e f=true):Apart e f:=by
 simp only[apartE,Bool.and_eq_true]at h
 obtain⟨h1,h2,h3,h4⟩:=h
 have a1:=noneIn_ok h1
 have a2:=noneIn_ok h2
 have a3:=noneIn_ok h3
 have a4:=noneIn_ok h4
 simp only[List.mem_append,not_or]at a1 a2 a3 a4
 exact⟨fun t h=>(a1 t h).1,fun t h=>(a1 t h).2.1,fun t h=>(a1 t h).2.2,fun t h=>(a2 t h).1,fun t h=>(a2 t h).2,fun t h=>(a3 t h).1,fun t h=>(a3 t h).2.1,fun t h=>(a3 t h).2.2,fun t h=>(a4 t h).1,fun t h=>(a4 t h).2⟩

def effT (e:Ent)(T:Nat→Option AV):Nat→Option AV:=updT T e.x.dst e.D.v
def effH (e:Ent)(H:Nat→Option HO):Nat→Option HO:=updL H e.D.ws

theorem En.later {e f:Ent}{T:Nat→Option AV}{H:Nat→Option HO}(ha:Apart e f)(he:En e T H):En e (effT f T) (effH f H):=
 ⟨fun t v h=>by rw[effT,updT_other (fun hm=>ha.d4 t hm (keys_of_aget h))];exact he.rt t v h,
  fun t want v hg hv=>by rw[effT,updT_other (fun hm=>ha.d5 t hm (by rw[hg];simp[gL]))];exact he.gv t want v hg hv,
  fun i o h=>by rw[effH,updL_other (fun hm=>ha.h4 i hm (keys_of_aget h))];exact he.rh i o h,
  fun i h=>by rw[effH,updL_other (fun hm=>ha.h5 i hm h)];exact he.al i h⟩
theorem En.earlier {e f:Ent}{T:Nat→Option AV}{H:Nat→Option HO}(ha:Apart e f)(hf:En f (effT e T) (effH e H)):En f T H:=
 ⟨fun t v h=>by have:=hf.rt t v h;rwa [effT,updT_other (fun hm=>ha.d1 t hm (keys_of_aget h))]at this,
  fun t want v hg hv=>by have:=hf.gv t want v hg hv;rwa [effT,updT_other (fun hm=>ha.d2 t hm (by rw[hg];simp[gL]))]at this,
  fun i o h=>by have:=hf.rh i o h;rwa [effH,updL_other (fun hm=>ha.h1 i hm (keys_of_aget h))]at this,
  fun i h=>by have:=hf.al i h;rwa [effH,updL_other (fun hm=>ha.h2 i hm h)]at this⟩
theorem eff_comm {e f:Ent}{T:Nat→Option AV}{H:Nat→Option HO}(ha:Apart e f):effT f (effT e T)=effT e (effT f T)∧effH f (effH e H)=effH e (effH f H):=
 ⟨updT_comm ha.d3,updL_comm ha.h3⟩

def Chain (TF:Nat→Option AV)(HF:Nat→Option HO):List (Nat×Ent)→(Nat→Option AV)→(Nat→Option HO)→Prop
 |[],T,H=>T=TF∧H=HF
 |(_,e)::r,T,H=>En e T H∧Chain TF HF r (effT e T) (effH e H)

def depOf (o:Oper):List Nat:=(o.after.toList.filter (Region.binds .any)).map (·.on)
def dpOf (ops:Array Oper)(i:Nat):List Nat:=match ops[i]? with
 |some o=>depOf o
 |none=>[]

def DC (dp:Nat→List Nat)(listed:Array Bool):Prop:=∀j,listed.getD j false=true→∀k,k∈dp j→listed.getD k false=true
def AncOk (dp an:Nat→List Nat):Prop:=∀j i,i∈an j→∀listed,DC dp listed→(∀k,k∈dp j→listed.getD k false=true)→listed.getD i false=true

def Pairs (dp an:Nat→List Nat):List (Nat×Ent)→Prop
 |[]=>True
 |(i,e)::r=>i∉dp i∧i∉keys r∧(∀p∈r,p.1∉dp i∧(i∈an p.1∨(Apart e p.2∨swapB e p.2=true)))∧Pairs dp an r

theorem keys_app {α:Type}:∀{a b:List (Nat×α)},keys (a++b)=keys a++keys b
 |[],b=>rfl
 |(k,_)::r,b=>by simp[keys,keys_app (a:=r)]
theorem mem_keys {α:Type}{k:Nat}:∀{l:List (Nat×α)},k∈keys l→∃e,(k,e)∈l
 |[],h=>by simp[keys]at h
 |(j,u)::r,h=>by
  simp only[keys,List.mem_cons]at h
  rcases h with rfl|h
  ·exact⟨u,by simp⟩
  ·obtain⟨e,he⟩:=mem_keys h;exact⟨e,by simp[he]⟩
theorem keys_mem {α:Type}{k:Nat}{e:α}:∀{l:List (Nat×α)},(k,e)∈l→k∈keys l
 |[],h=>by simp at h
 |(j,u)::r,h=>by
  simp only[keys,List.mem_cons]
  rcases List.mem_cons.1 h with h|h
  ·cases h;exact .inl rfl
  ·exact .inr (keys_mem h)

theorem Pairs.split {dp an:Nat→List Nat}{i:Nat}{f:Ent}{post:List (Nat×Ent)}:∀{pre:List (Nat×Ent)},Pairs dp an (pre++(i,f)::post)→
  (∀p∈pre,p.1∈an i∨(Apart p.2 f∨swapB p.2 f=true))∧Pairs dp an (pre++post)∧i∉keys (pre++post)
 |[],h=>⟨fun p hp=>by simp at hp,h.2.2.2,h.2.1⟩
 |(j,e)::pre,h=>by
  have h:Pairs dp an ((j,e)::(pre++(i,f)::post)):=h
  obtain⟨h1,h2,h3,h4⟩:=h
  obtain⟨g1,g2,g3⟩:=Pairs.split h4
  have H2:j∉keys (pre++post):=by
   intro hm
   refine h2 ?_
   rw[keys_app]at hm ⊢
   simp only[List.mem_append,keys,List.mem_cons]at hm ⊢
   rcases hm with hm|hm
   ·exact .inl hm
   ·exact .inr (.inr hm)
  have H3:∀p,p∈pre++post→p.1∉dp j∧(j∈an p.1∨(Apart e p.2∨swapB e p.2=true)):=fun p hp=>h3 p (by
   simp only[List.mem_append,List.mem_cons]at hp ⊢
   rcases hp with hp|hp
   ·exact .inl hp
   ·exact .inr (.inr hp))
  have H4:i∉keys ((j,e)::(pre++post)):=by
   simp only[keys,List.mem_cons,not_or]
   refine⟨fun e'=>?_,g3⟩
   subst e'
   refine h2 ?_
   rw[keys_app]
   simp[keys]
  refine⟨fun p hp=>?_,⟨h1,H2,H3,g2⟩,H4⟩
  rcases List.mem_cons.1 hp with rfl|hp
  ·exact(h3 (i,f) (by simp)).2
  ·exact g1 p hp

def EntOk (P:Program)(G:GL)(ops:Array Oper)(n:Nat)(p:Nat×Ent):Prop:=
 ∃o,ops[p.1]? =some o∧compXO P ops o=some p.2.x∧runG G p.2.s (aget p.2.rh) p.2.x p.2.g p.2.d p.2.gv p.2.rt=some p.2.D∧(∀t,p.2.x.dst=some t→t<n)∧AllC (SpecQ P G) p.2.D.cs

def RhL:List (Nat×Ent)→List (Nat×Ent)→Prop
 |[],[]=>True
 |(i,e)::r,(j,e')::r'=>i=j∧(∃rh,keys rh=keys e.rh∧e'={e with rh:=rh})∧RhL r r'
 |_,_=>False
theorem RhL.refl:∀(l:List (Nat×Ent)),RhL l l
 |[]=>trivial
 |(i,e)::r=>⟨rfl,⟨e.rh,rfl,rfl⟩,RhL.refl r⟩
theorem RhL.app {c:List (Nat×Ent)}:∀{a b:List (Nat×Ent)},RhL a b→RhL (a++c) (b++c)
 |[],[],_=>RhL.refl c
 |(i,e)::r,(j,e')::r',h=>⟨h.1,h.2.1,RhL.app h.2.2⟩
 |[],_::_,h=>h.elim
 |_::_,[],h=>h.elim
theorem RhL.keys:∀{a b:List (Nat×Ent)},RhL a b→keys b=keys a∧b.length=a.length
 |[],[],_=>⟨rfl,rfl⟩
 |(i,e)::r,(j,e')::r',h=>by
  obtain⟨h1,h2⟩:=RhL.keys h.2.2
  exact⟨by simp[Go.Ab.keys,h1,h.1],by simp[h2]⟩
 |[],_::_,h=>h.elim
 |_::_,[],h=>h.elim
theorem RhL.mem:∀{a b:List (Nat×Ent)},RhL a b→∀p∈b,∃q∈a,q.1=p.1∧∃rh,Go.Ab.keys rh=Go.Ab.keys q.2.rh∧p.2={q.2 with rh:=rh}
 |[],[],_,p,hp=>by simp at hp
 |(i,e)::r,(j,e')::r',h,p,hp=>by
  rcases List.mem_cons.1 hp with rfl|hp
  ·exact⟨(i,e),by simp,h.1,h.2.1⟩
  ·obtain⟨q,q1,q2⟩:=RhL.mem h.2.2 p hp
   exact⟨q,by simp[q1],q2⟩
 |[],_::_,h,_,_=>h.elim
 |_::_,[],h,_,_=>h.elim
theorem Apart.rh1 {e f:Ent}(h:Apart e f){rh:List (Nat×HO)}(hk:keys rh=keys e.rh):Apart {e with rh:=rh} f:=
 ⟨h.d1,h.d2,h.d3,h.d4,h.d5,h.h1,h.h2,h.h3,fun i hi=>by show i∉keys rh;rw[hk];exact h.h4 i hi,h.h5⟩
theorem Apart.rh2 {e f:Ent}(h:Apart e f){rh:List (Nat×HO)}(hk:keys rh=keys f.rh):Apart e {f with rh:=rh}:=
 ⟨h.d1,h.d2,h.d3,h.d4,h.d5,fun i hi=>by show i∉keys rh;rw[hk];exact h.h1 i hi,h.h2,h.h3,h.h4,h.h5⟩
theorem swapB_rh1 {e f:Ent}(rh:List (Nat×HO)):swapB {e with rh:=rh} f=swapB e f:=rfl
theorem swapB_rh2 {e f:Ent}(rh:List (Nat×HO)):swapB e {f with rh:=rh}=swapB e f:=rfl
theorem Pairs.rh {dp an:Nat→List Nat}:∀{a b:List (Nat×Ent)},RhL a b→Pairs dp an a→Pairs dp an b
 |[],[],_,_=>trivial
 |(i,e)::r,(j,e')::r',h,hp=>by
  obtain⟨rfl,⟨rh,hk,rfl⟩,h3⟩:=h
  obtain⟨p1,p2,p3,p4⟩:=hp
  refine⟨p1,by rw[h3.keys.1];exact p2,fun p hp=>?_,p4.rh h3⟩
  obtain⟨q,q1,q2,rh2,q3,q4⟩:=h3.mem p hp
  obtain⟨s1,s2⟩:=p3 q q1
  rw[← q2,q4]
  refine⟨s1,s2.imp id fun s=>s.imp (fun s=>(s.rh1 hk).rh2 q3) fun s=>by rw[swapB_rh1,swapB_rh2];exact s⟩
 |[],_::_,h,_=>h.elim
 |_::_,[],h,_=>h.elim
theorem mget_put1 (k v:List Int)(c:Nat):∀(es:List (List Int×List Int×Nat)),mget (mput es k v c) k=some v
 |[]=>by simp[mput,mget]
 |e::r=>by
  by_cases h:k=e.1
  ·simp[mput,mget,h]
  ·simp[mput,mget,h,mget_put1 k v c r]
def putR (l:List (Nat×HO))(id:Nat)(o:HO):List (Nat×HO):=l.map fun p=>if p.1=id then(p.1,o)else p
theorem putR_keys (id:Nat)(o:HO):∀(l:List (Nat×HO)),keys (putR l id o)=keys l
 |[]=>rfl
 |(i,x)::r=>by
  have:=putR_keys id o r
  unfold putR at this ⊢
  by_cases h:i=id<;>simp[h,keys,this]
theorem putR_get {id:Nat}{o:HO}{j:Nat}:∀{l:List (Nat×HO)},aget (putR l id o) j=if j=id then(aget l j).map (fun _=>o)else aget l j
 |[]=>by simp[putR,aget]
 |(i,x)::r=>by
  have:=putR_get (id:=id) (o:=o) (j:=j) (l:=r)
  unfold putR at this ⊢
  by_cases h:i=id
  ·subst h
   by_cases h2:i=j
   ·subst h2;simp[aget,beq_self]
   ·simp only[List.map_cons,if_true,aget,beq_ne h2,cond_false]
    exact this
  ·by_cases h2:i=j
   ·subst h2;simp[aget,beq_self,h]
   ·simp only[List.map_cons,h,if_false,aget,beq_ne h2,cond_false]
    exact this
theorem mapOf_get {look:Nat→Option HO}{kk vk:MV}{m:AV}{id:Nat}{b:Blk}{es:List (List Int×List Int×Nat)}{ck:Nat}(h:mapOf look kk vk m=some (id,b,es,ck)):
  m=.mp id∧look id=some (.blk b)∧b.c=.maps kk vk es ck∧∀{look':Nat→Option HO} {b':Blk} {es':List (List Int×List Int×Nat)} {ck':Nat},look' id=some (.blk b')→b'.c=.maps kk vk es' ck'→mapOf look' kk vk m=some (id,b',es',ck'):=by
 obtain⟨rfl,h2,h3⟩:=mapOf_ok h
 refine⟨rfl,h2,h3,fun{look' b' es' ck'} g1 g2=>?_⟩
 have hb:∀(a:MV),beqMV a a=true:=fun a=>by simp[beqMV]
 simp[mapOf,g1,g2,hb]
theorem swap_ok {n i j:Nat}{e f:Ent}(hs:swapB e f=true)(he:EntOk P G ops n (i,e))(hf:EntOk P G ops n (j,f)){T:Nat→Option AV}{H:Nat→Option HO}(ne:En e T H)(nf:En f (effT e T) (effH e H)):
  En f T H∧(∃rh,keys rh=keys e.rh∧EntOk P G ops n (i,{e with rh:=rh})∧En {e with rh:=rh} (effT f T) (effH f H))∧effT f (effT e T)=effT e (effT f T)∧effH f (effH e H)=effH e (effH f H):=by
 obtain⟨o1,a1,a2,a3,a4,a5⟩:=he
 obtain⟨o2,b1,b2,b3,b4,b5⟩:=hf
 obtain⟨⟨xd,xo,xg⟩,s,g,d,gv,rt,rh,D⟩:=e
 obtain⟨⟨yd,yo,yg⟩,s',g',d',gv',rt',rh',D'⟩:=f
 simp only[swapB]at hs
 split at hs
 case h_2=>cases hs
 rename_i kk vk a b kk' vk' a' b'
 simp only[Bool.and_eq_true]at hs
 obtain⟨c1,c2,c3,c4,c5,c6,c7,c8⟩:=hs
 cases Nat.eq_of_beq_eq_true c1
 cases Nat.eq_of_beq_eq_true c2
 cases beqMV_ok c3
 cases beqMV_ok c4
 have w0:D.ws=[]:=by cases h:D.ws with|nil=>rfl|cons _ _=>rw[h]at c5;cases c5
 have l0:D.al=[]:=by cases h:D.al with|nil=>rfl|cons _ _=>rw[h]at c6;cases c6
 have c7:=noneIn_ok c7
 have c8:=noneIn_ok c8
 simp only[List.mem_append,not_or]at c7
 have hH:effH {x:=⟨xd,.mlook kk vk false (.t a) (.t b),none⟩,s,g,d,gv,rt,rh,D} H=H:=by simp[effH,w0,updL]
 rw[hH]at nf
 have nfT:En {x:=⟨yd,.ment kk vk (.t a) (.t b),none⟩,s:=s',g:=g',d:=d',gv:=gv',rt:=rt',rh:=rh',D:=D'} T H:=
  ⟨fun t v h=>by have:=nf.rt t v h;rwa [effT,updT_other (fun hm=>(c7 t hm).1 (keys_of_aget h))]at this,fun t want v hg _=>(by cases hg),nf.rh,nf.al⟩
 -- what each did
 simp only[runG,runU,keepMay,execD,XOp.opds,List.map_cons,List.map_nil,x1,x2,List.getD_cons_zero,List.getD_cons_succ]at a3 b3
 have hst:∀(l:List (Nat×AV)) (t:Nat),aget (stripT l) t=(aget l t).map strip1:=by
  intro l t
  induction l with
  |nil=>rfl
  |cons p r ih=>
   obtain⟨k,v⟩:=p
   by_cases hk:k=t
   ·subst hk;simp[stripT,aget,beq_self]
   ·simp[stripT,aget,beq_ne hk,ih]
 have hevE:∀t v,(Opd.t t).ev G (stripT rt)=v→v≠ .undef→∃u,aget rt t=some u∧strip1 u=v:=by
  intro t v h1 h2
  simp only[Opd.ev,hst]at h1
  cases hq:aget rt t with
  |none=>rw[hq]at h1;exact absurd h1.symm h2
  |some u=>rw[hq]at h1;exact⟨u,rfl,h1⟩
 have hevF:∀t v,(Opd.t t).ev G (stripT rt')=v→v≠ .undef→∃u,aget rt' t=some u∧strip1 u=v:=by
  intro t v h1 h2
  simp only[Opd.ev,hst]at h1
  cases hq:aget rt' t with
  |none=>rw[hq]at h1;exact absurd h1.symm h2
  |some u=>rw[hq]at h1;exact⟨u,rfl,h1⟩
 have hrd0:∀{k:MV} {v:AV} {l:List Int},k.rd v=some l→v≠ .undef:=by
  intro k v l h e
  subst e
  unfold MV.rd at h
  split at h
  ·cases h
  ·split at h
   ·rename_i q _;cases q<;>cases h
   ·cases h
 split at a3
 rotate_left
 ·cases a3
 rename_i De0 he0
 split at b3
 rotate_left
 ·cases b3
 rename_i Df0 hf0
 cases a3;cases b3
 unfold opMlook at he0
 split at he0
 rotate_left
 ·cases he0
 rename_i id blk es ck kl m1 m2
 unfold opMent at hf0
 split at hf0
 rotate_left
 ·cases hf0
 rename_i id2 blk2 es2 ck2 kl2 n1 n2
 rw[cond_eq_ite]at hf0
 split at hf0
 rotate_left
 ·cases hf0
 obtain⟨m3,m4,m5,m6⟩:=mapOf_get m1
 obtain⟨n3,n4,n5,_⟩:=mapOf_get n1
 obtain⟨u1,u2,u3⟩:=hevE a _ m3 (by intro h;cases h)
 obtain⟨v1,v2,v3⟩:=hevF a _ n3 (by intro h;cases h)
 have e1:=(ne.rt _ _ u2).symm.trans (nfT.rt _ _ v2)
 cases e1
 rw[u3]at v3
 cases v3
 have e2:=(ne.rh _ _ m4).symm.trans (nfT.rh _ _ n4)
 cases e2
 rw[m5]at n5
 cases n5
 obtain⟨p1,p2,p3⟩:=hevE b _ rfl (hrd0 m2)
 obtain⟨q1,q2,q3⟩:=hevF b _ rfl (hrd0 n2)
 have e3:=(ne.rt _ _ p2).symm.trans (nfT.rt _ _ q2)
 cases e3
 rw[← p3]at m2
 rw[← q3,m2]at n2
 cases n2
 simp only[Delta.val,Option.some.injEq]at he0
 subst he0
 simp only[Option.some.injEq]at hf0
 subst hf0
 refine⟨nfT,⟨putR rh id (.blk {blk with c:=.maps kk vk (mput es kl ((mget es kl).getD []) ck) (mck es kl ck)}),putR_keys _ _ _,⟨o1,a1,a2,?_,a4,a5⟩,⟨?_,fun t want v hg _=>(by cases hg),?_,fun i h=>(by simp at h)⟩⟩,?_,?_⟩
 ·simp only[runG,runU,keepMay,execD,XOp.opds,List.map_cons,List.map_nil,x1,x2,List.getD_cons_zero,List.getD_cons_succ]
  have hl:aget (putR rh id (.blk {blk with c:=.maps kk vk (mput es kl ((mget es kl).getD []) ck) (mck es kl ck)})) id=some (.blk {blk with c:=.maps kk vk (mput es kl ((mget es kl).getD []) ck) (mck es kl ck)}):=by
   rw[putR_get,if_pos rfl,m4];rfl
  have h1:=m6 hl rfl
  unfold opMlook
  rw[h1,← p3,m2]
  simp only[mget_put1,Option.getD_some,Delta.val]
 ·intro t v h
  rw[effT,updT_other (fun hm=>c8 t hm (keys_of_aget h))]
  exact ne.rt t v h
 ·intro i o h
  rw[putR_get]at h
  simp only[effH,updL]
  by_cases hi:i=id
  ·subst hi
   rw[if_pos rfl,m4]at h
   cases h
   rw[upd_same]
  ·rw[if_neg hi]at h
   rw[upd_other _ _ hi]
   exact ne.rh i o h
 ·exact updT_comm fun t h=>(c7 t h).2
 ·simp only[effH,updL]

theorem Chain.pull {TF:Nat→Option AV}{HF:Nat→Option HO}{n i:Nat}{f:Ent}{post:List (Nat×Ent)}(hf:EntOk P G ops n (i,f)):∀{pre:List (Nat×Ent)} {T:Nat→Option AV} {H:Nat→Option HO},(∀p∈pre,Apart p.2 f∨swapB p.2 f=true)→(∀p∈pre,EntOk P G ops n p)→Chain TF HF (pre++(i,f)::post) T H→
  En f T H∧∃pre',RhL pre pre'∧(∀p∈pre',EntOk P G ops n p)∧Chain TF HF (pre'++post) (effT f T) (effH f H)
 |[],T,H,_,_,h=>⟨h.1,[],trivial,fun p hp=>by simp at hp,h.2⟩
 |(j,e)::pre,T,H,ha,hok,h=>by
  obtain⟨h1,h2⟩:=h
  obtain⟨h3,pre',h4,h5,h6⟩:=Chain.pull hf (fun p hp=>ha p (by simp[hp])) (fun p hp=>hok p (by simp[hp])) h2
  rcases ha (j,e) (by simp)with hae|hae
  ·obtain⟨c1,c2⟩:=eff_comm (T:=T) (H:=H) hae
   rw[c1,c2]at h6
   refine⟨h3.earlier hae,(j,e)::pre',⟨rfl,⟨e.rh,rfl,rfl⟩,h4⟩,fun p hp=>?_,h1.later hae,h6⟩
   rcases List.mem_cons.1 hp with rfl|hp
   ·exact hok _ (by simp)
   ·exact h5 p hp
  ·obtain⟨g1,⟨rh,g2,g3,g4⟩,g5,g6⟩:=swap_ok hae (hok (j,e) (by simp)) hf h1 h3
   rw[g5,g6]at h6
   refine⟨g1,(j,{e with rh:=rh})::pre',⟨rfl,⟨rh,g2,rfl⟩,h4⟩,fun p hp=>?_,g4,h6⟩
   rcases List.mem_cons.1 hp with rfl|hp
   ·exact g3
   ·exact h5 p hp

theorem getD_set_self {listed:Array Bool}{i:Nat}(d:Bool)(h:i<listed.size):(listed.setIfInBounds i true).getD i d=true:=by
 simp[h]

theorem any_sound {an:Nat→List Nat}(han:AncOk (dpOf ops) an)(hdl:∀i k,k∈dpOf ops i→k<ops.size){TF:Nat→Option AV}{HF:Nat→Option HO}{n:Nat}:∀(fuel:Nat) (listed:Array Bool) (rem:List (Nat×Ent)) (F:Nat→Prop) (ρ:Nat→Option Nat) (T:Nat→Option AV) (H:Nat→Option HO) (a:Act) (w:World),
  rem.length=fuel→Pairs (dpOf ops) an rem→listed.size=ops.size→(∀i,listed.getD i true=false↔i∈keys rem)→(∀p,p∈rem→EntOk P G ops n p)→DC (dpOf ops) listed→Chain TF HF rem T H→RSf G F ρ T H n a w→
  (∀a' w' F' ρ',RSf G F' ρ' TF HF n a' w'→Ext G F ρ w F' ρ' w'→HKeep w ρ H w' ρ' HF→a'.defers=a.defers→R a' w')→wpAnyR P ops R fuel listed a w:=by
 intro fuel
 induction fuel with
 |zero=>
  intro listed rem F ρ T H a w hlen hp hsz hun hok hdc hch hr hQ
  have:rem=[]:=by simpa using hlen
  subst this
  refine⟨?_,?_⟩
  ·cases e:Region.ready .any ops listed with
   |nil=>rfl
   |cons j r=>
    have hj:j∈Region.ready .any ops listed:=by rw[e];simp
    have:=(mem_ready.1 hj).1
    rw[hun]at this;simp[keys]at this
  ·obtain⟨h1,h2⟩:=hch
   subst h1;subst h2
   exact hQ a w F ρ hr (Ext.refl _ _ _) (HKeep.refl _ _ _) rfl
 |succ fuel ih=>
  intro listed rem F ρ T H a w hlen hp hsz hun hok hdc hch hr hQ
  refine⟨fun hnil=>?_,fun i hi=>?_⟩
  ·-- the first of what remains is ready
   exfalso
   cases rem with
   |nil=>simp at hlen
   |cons p r=>
    obtain⟨i,e⟩:=p
    obtain⟨h1,h2,h3,h4⟩:=hp
    obtain⟨o,ho,_⟩:=hok (i,e) (by simp)
    have hready:i∈Region.ready .any ops listed:=by
     refine mem_ready.2 ⟨(hun i).2 (by simp[keys]),o,ho,fun ed hed hb=>?_⟩
     have hmem:ed.on∈dpOf ops i:=by
      simp only[dpOf,ho,depOf,List.mem_map,List.mem_filter]
      exact⟨ed,⟨by simpa using hed,hb⟩,rfl⟩
     have hnot:ed.on∉keys ((i,e)::r):=by
      simp only[keys,List.mem_cons,not_or]
      refine⟨fun e'=>h1 (e'▸hmem),fun hm=>?_⟩
      obtain⟨f,hf⟩:=mem_keys hm
      exact(h3 _ hf).1 hmem
     have hnf:¬ listed.getD ed.on true=false:=fun h=>hnot ((hun _).1 h)
     by_cases hlt:ed.on<listed.size
     ·simp only[Array.getD,hlt,dite_true]at hnf ⊢
      simpa using hnf
     ·have:=hdl i _ hmem;omega
    rw[hnil]at hready;cases hready
  ·obtain⟨h0,o,ho,hall⟩:=mem_ready.1 hi
   have him:=(hun i).1 h0
   obtain⟨f,hf⟩:=mem_keys him
   obtain⟨pre,post,rfl⟩:=List.append_of_mem hf
   obtain⟨g1,g2,g3⟩:=hp.split
   have hpl:∀k,k∈dpOf ops i→listed.getD k false=true:=fun k hk=>by
    simp only[dpOf,ho,depOf,List.mem_map,List.mem_filter]at hk
    obtain⟨ed,⟨h1,h2⟩,rfl⟩:=hk
    exact hall ed (by simpa using h1) h2
   have hap:∀p∈pre,Apart p.2 f∨swapB p.2 f=true:=fun p hp=>by
    rcases g1 p hp with h|h
    ·exfalso
     have h5:=han i p.1 h listed hdc hpl
     have h6:listed.getD p.1 true=false:=(hun p.1).2 (keys_mem (l:=pre++(i,f)::post) (e:=p.2) (by simp[hp]))
     simp only[Array.getD_eq_getD_getElem?]at h5 h6
     cases e:listed[p.1]? with
     |none=>rw[e]at h5;cases h5
     |some b=>rw[e]at h5 h6;simp at h5 h6;rw[h5]at h6;cases h6
    ·exact h
   obtain⟨c1,pre',c3,c4,c2⟩:=Chain.pull (hok (i,f) (by simp)) hap (fun p hp=>hok p (by simp[hp])) hch
   obtain⟨k1,k2⟩:=c3.keys
   have g3:i∉keys (pre'++post):=by rw[keys_app,k1,← keys_app];exact g3
   obtain⟨o',ho',hx,hD,hdst,hcs⟩:=hok (i,f) (by simp)
   rw[ho]at ho';cases ho'
   have hilt:i<listed.size:=by
    rw[hsz];exact(Array.getElem?_eq_some_iff.1 ho).1
   refine one_sound (T:=T) ho hx hr c1.rt c1.gv c1.rh hD hdst c1.al hcs ?_
   intro y w' F' ρ' hr' hx' hk'
   refine ih (listed.setIfInBounds i true) (pre'++post) F' ρ' (effT f T) (effH f H) _ w' ?_ (g2.rh c3.app) (by simpa using hsz) (fun j=>?_) (fun p hp=>?_) ?_ c2 hr' (fun a' w'' F'' ρ'' q1 q2 q3 q4=>hQ a' w'' F'' ρ'' q1 (hx'.trans q2) (hk'.trans q3) (q4.trans (put_defers' _ _ _)))
   ·simp at hlen ⊢; omega
   ·by_cases e:i=j
    ·subst e
     rw[getD_set_self true hilt]
     exact⟨fun h=>by simp at h,fun h=>absurd h g3⟩
    ·rw[getD_set_ne true e,hun j]
     rw[keys_app,keys_app,k1]
     simp only[keys,List.mem_append,List.mem_cons]
     exact⟨fun h=>by rcases h with h|h|h;exact .inl h;exact absurd h.symm e;exact .inr h,fun h=>by rcases h with h|h;exact .inl h;exact .inr (.inr h)⟩
   ·rcases List.mem_append.1 hp with hp|hp
    ·exact c4 p hp
    ·exact hok p (by simp[hp])
   ·intro j hj k hk
    by_cases e:i=j
    ·subst e;exact getD_set_true (hpl k hk)
    ·rw[getD_set_ne false e]at hj
     exact getD_set_true (hdc j hj k hk)

end
end Go.Ab

/-
 Regions in any order: the checks, and what follows.
-/
set_option linter.unusedVariables false
set_option linter.unusedSimpArgs false
namespace Go.Ab
open Go

def depN (dep:List (List Nat))(i:Nat):List Nat:=(nth? dep i).getD []
def uni:List Nat→List Nat→List Nat
 |[],acc=>acc
 |x::r,acc=>uni r (cond (memN x acc) acc (x::acc))
def tbN (tbl:List (Nat×List Nat))(i:Nat):List Nat:=(aget tbl i).getD []
def ancOf (tbl:List (Nat×List Nat)):List Nat→List Nat→List Nat
 |[],acc=>acc
 |k::r,acc=>ancOf tbl r (uni (k::tbN tbl k) acc)
def ancTab (dep:List (List Nat)):List Nat→List (Nat×List Nat)→List (Nat×List Nat)
 |[],tbl=>tbl
 |j::r,tbl=>ancTab dep r ((j,ancOf tbl (depN dep j) [])::tbl)
def pairB (dep:List (List Nat))(tbl:List (Nat×List Nat))(i:Nat)(e:Ent):List (Nat×Ent)→Bool
 |[]=>true
 |(j,f)::r=>cond (Nat.beq i j) false (cond (memN j (depN dep i)) false (cond (cond (memN i (tbN tbl j)) true (cond (apartE e f) true (swapB e f))) (pairB dep tbl i e r) false))
def pairsB (dep:List (List Nat))(tbl:List (Nat×List Nat)):List (Nat×Ent)→Bool
 |[]=>true
 |(i,e)::r=>cond (memN i (depN dep i)) false (cond (pairB dep tbl i e r) (pairsB dep tbl r) false)
def allMem (ord:List Nat):Nat→Bool
 |0=>true
 |n+1=>cond (memN n ord) (allMem ord n) false
def allLt (n:Nat):List Nat→Bool
 |[]=>true
 |i::r=>cond (Nat.ble (i+1) n) (allLt n r) false
def depB (n:Nat):List (List Nat)→Bool
 |[]=>true
 |l::r=>cond (allLt n l) (depB n r) false
def drawB (dep:List (List Nat))(ord:List Nat)(n:Nat)(es:List (Nat×Ent)):Bool:=
 Nat.beq ord.length n&&(allMem ord n&&(depB n dep&&(allLt n ord&&pairsB dep (ancTab dep ord []) es)))

section
variable {P:Program}{G:GL}{ops:Array Oper}{R:Act→World→Prop}

theorem uni_mem {i:Nat}:∀{l acc:List Nat},i∈uni l acc→i∈l∨i∈acc
 |[],acc,h=>.inr h
 |x::r,acc,h=>by
  simp only[uni]at h
  rcases uni_mem h with h|h
  ·exact .inl (by simp[h])
  ·rw[cond_eq_ite]at h
   split at h
   ·exact .inr h
   ·rcases List.mem_cons.1 h with rfl|h
    ·exact .inl (by simp)
    ·exact .inr h

theorem ancOf_mem {tbl:List (Nat×List Nat)}{i:Nat}:∀{l acc:List Nat},i∈ancOf tbl l acc→(∃k,k∈l∧(i=k∨i∈tbN tbl k))∨i∈acc
 |[],acc,h=>.inr h
 |x::r,acc,h=>by
  simp only[ancOf]at h
  rcases ancOf_mem h with⟨k,h1,h2⟩|h
  ·exact .inl ⟨k,by simp[h1],h2⟩
  ·rcases uni_mem h with h|h
   ·rcases List.mem_cons.1 h with h|h
    ·exact .inl ⟨x,by simp,.inl h⟩
    ·exact .inl ⟨x,by simp,.inr h⟩
   ·exact .inr h

theorem ancTab_ok {dep:List (List Nat)}{dp:Nat→List Nat}(hd:∀i,dp i=depN dep i):∀{l:List Nat} {tbl:List (Nat×List Nat)},AncOk dp (tbN tbl)→AncOk dp (tbN (ancTab dep l tbl))
 |[],tbl,h=>h
 |j::r,tbl,h=>by
  refine ancTab_ok hd (l:=r) ?_
  intro k i hi listed hdc hpl
  simp only[tbN,aget]at hi
  by_cases e:j=k
  ·subst e
   rw[beq_self,cond_true]at hi
   rcases ancOf_mem hi with⟨q,h1,h2⟩|h1
   ·rw[← hd]at h1
    have hq:=hpl q h1
    rcases h2 with rfl|h2
    ·exact hq
    ·exact h q i h2 listed hdc (hdc q hq)
   ·simp at h1
  ·rw[beq_ne e,cond_false]at hi
   exact h k i hi listed hdc hpl

theorem pairB_ok {dep:List (List Nat)}{tbl:List (Nat×List Nat)}{i:Nat}{e:Ent}:∀{l:List (Nat×Ent)},pairB dep tbl i e l=true→i∉keys l∧∀p,p∈l→p.1∉depN dep i∧(i∈tbN tbl p.1∨(Apart e p.2∨swapB e p.2=true))
 |[],_=>⟨by simp[keys],fun p hp=>by simp at hp⟩
 |(j,f)::r,h=>by
  simp only[pairB,cond_eq_ite]at h
  split at h
  ·cases h
  ·rename_i h1
   split at h
   ·cases h
   ·rename_i h2
    have key:(i∈tbN tbl j∨(Apart e f∨swapB e f=true))∧pairB dep tbl i e r=true:=by
     cases hm:memN i (tbN tbl j)with
     |true=>rw[hm]at h;simp at h;exact⟨.inl (memN_iff.1 hm),h⟩
     |false=>
      cases ha:apartE e f with
      |true=>rw[hm,ha]at h;simp at h;exact⟨.inr (.inl (apartE_ok ha)),h⟩
      |false=>
       cases hw:swapB e f with
       |true=>rw[hm,ha,hw]at h;simp at h;exact⟨.inr (.inr rfl),h⟩
       |false=>rw[hm,ha,hw]at h;simp at h
    obtain⟨g1,g2⟩:=pairB_ok key.2
    refine⟨?_,fun p hp=>?_⟩
    ·simp only[keys,List.mem_cons,not_or]
     exact⟨fun e=>h1 (e▸beq_self i),g1⟩
    ·rcases List.mem_cons.1 hp with rfl|hp
     ·exact⟨fun hm=>h2 (memN_iff.2 hm),key.1⟩
     ·exact g2 p hp

theorem pairsB_ok {dep:List (List Nat)}{tbl:List (Nat×List Nat)}{dp:Nat→List Nat}(hd:∀i,dp i=depN dep i):∀{l:List (Nat×Ent)},pairsB dep tbl l=true→Pairs dp (tbN tbl) l
 |[],_=>trivial
 |(i,e)::r,h=>by
  simp only[pairsB,cond_eq_ite]at h
  split at h
  ·cases h
  ·rename_i h1
   split at h
   ·rename_i h2
    obtain⟨g1,g2⟩:=pairB_ok h2
    exact⟨fun hm=>h1 (memN_iff.2 (hd i▸hm)),g1,fun p hp=>⟨fun hm=>(g2 p hp).1 (hd i▸hm),(g2 p hp).2⟩,pairsB_ok hd h⟩
   ·cases h

theorem allMem_ok {ord:List Nat}:∀{n:Nat},allMem ord n=true→∀i,i<n→i∈ord
 |0,_,i,h=>by omega
 |n+1,h,i,hi=>by
  simp only[allMem,cond_eq_ite]at h
  split at h
  ·rename_i h1
   by_cases e:i=n
   ·subst e;exact memN_iff.1 h1
   ·exact allMem_ok h i (by omega)
  ·cases h
theorem allLt_ok {n:Nat}:∀{l:List Nat},allLt n l=true→∀i,i∈l→i<n
 |[],_,i,h=>by simp at h
 |j::r,h,i,hi=>by
  simp only[allLt,cond_eq_ite]at h
  split at h
  ·rename_i h1
   rcases List.mem_cons.1 hi with rfl|hi
   ·exact Nat.le_of_ble_eq_true h1
   ·exact allLt_ok h i hi
  ·cases h
theorem nth?_mem {α:Type}:∀{l:List α} {i:Nat} {x:α},nth? l i=some x→x∈l
 |[],i,x,h=>by cases h
 |y::r,0,x,h=>by cases h;simp
 |y::r,i+1,x,h=>by simp only[List.mem_cons];right;exact nth?_mem (by simpa[nth?]using h)
theorem depB_ok {n:Nat}:∀{l:List (List Nat)},depB n l=true→∀d,d∈l→∀i,i∈d→i<n
 |[],_,d,h=>by simp at h
 |j::r,h,d,hi=>by
  simp only[depB,cond_eq_ite]at h
  split at h
  ·rename_i h1
   rcases List.mem_cons.1 hi with rfl|hi
   ·exact allLt_ok h1
   ·exact depB_ok h d hi
  ·cases h
theorem nth?_eq {α:Type}:∀{l:List α} {i:Nat},nth? l i=l[i]?
 |[],i=>by simp[nth?]
 |x::r,0=>by simp[nth?]
 |x::r,i+1=>by simp[nth?,nth?_eq (l:=r)]

theorem dep_eq {dep:List (List Nat)}(h:ops.toList.map depOf=dep)(i:Nat):dpOf ops i=depN dep i:=by
 subst h
 simp only[dpOf,depN,nth?_eq,List.getElem?_map,Array.getElem?_toList]
 cases ops[i]? <;>rfl

theorem compXOs_get {l:List Oper}:∀{xs:List XO},compXOs P ops l=some xs→∀{i:Nat} {x:XO},nth? xs i=some x→∃o,l[i]? =some o∧compXO P ops o=some x:=by
 induction l with
 |nil=>intro xs h i x hx;cases h;cases hx
 |cons o r ih=>
  intro xs h i x hx
  simp only[compXOs]at h
  split at h
  ·rename_i y l' h1 h2
   cases h
   cases i with
   |zero=>simp only[nth?]at hx;cases hx;exact⟨o,by simp,h1⟩
   |succ i=>
    obtain⟨o',g1,g2⟩:=ih h2 (by simpa[nth?]using hx)
    exact⟨o',by simpa using g1,g2⟩
  ·cases h

theorem compXOs_len {l:List Oper}:∀{xs:List XO},compXOs P ops l=some xs→xs.length=l.length:=by
 induction l with
 |nil=>intro xs h;cases h;rfl
 |cons o r ih=>
  intro xs h
  simp only[compXOs]at h
  split at h
  ·rename_i y l' h1 h2;cases h;simp[ih h2]
  ·cases h

theorem exEnts_ok {ds:Dirs}{xs:List XO}{s:Nat}(hx:compXOs P ops ops.toList=some xs):∀{ord:List Nat} {S S':St} {es:List (Nat×Ent)} {cs:List Cd},exEnts G ds xs s ord S=some (S',es,cs)→AllC (SpecQ P G) cs→
  keys es=ord∧S'.n=S.n∧(∀p,p∈es→EntOk P G ops S.n p)∧Chain (aget S'.t) (aget S'.h) es (aget S.t) (aget S.h)
 |[],S,S',es,cs,h,hc=>by
  simp only[exEnts]at h
  cases h
  exact⟨rfl,rfl,fun p hp=>by simp at hp,rfl,rfl⟩
 |i::r,S,S',es,cs,h,hc=>by
  simp only[exEnts]at h
  split at h
  ·rename_i x hxi
   split at h
   ·rename_i e he
    split at h
    ·rename_i S'' es' cs' h'
     cases h
     obtain⟨c1,c2⟩:=hc.app
     obtain⟨g1,g2,g3,g4⟩:=exEnts_ok hx h' c2
     obtain⟨o,ho,hxo⟩:=compXOs_get hx hxi
     simp only[mkEnt]at he
     split at he
     ·rename_i D hD
      rw[cond_eq_ite]at he
      split at he
      ·rename_i hcond
       cases he
       rw[Bool.and_eq_true]at hcond
       refine⟨by simp[keys,g1],g2,fun p hp=>?_,⟨?_,?_,?_,?_⟩,?_⟩
       ·rcases List.mem_cons.1 hp with rfl|hp
        ·exact⟨o,by simpa using ho,hxo,hD,okDst_ok hcond.1,c1⟩
        ·exact g3 p hp
       ·intro t v hv;exact readT_get hv
       ·intro t want v hg hv;exact gvOf_ok hg hv
       ·intro j o' hj;exact readF_get hj
       ·exact freshA_ok hcond.2
       ·rw[putS_t,putS_h]at g4;exact g4
      ·cases he
     ·cases he
    ·cases h
   ·cases h
  ·cases h

theorem draw_sound {F:Nat→Prop}{ρ:Nat→Option Nat}{a:Act}{w:World}{xs:List XO}{dep:List (List Nat)}{ord:List Nat}{s:Nat}{ds:Dirs}{S S':St}{es:List (Nat×Ent)}{cs:List Cd}
  (hx:compXOs P ops ops.toList=some xs) (hdep:ops.toList.map depOf=dep) (he:exEnts G ds xs s ord S=some (S',es,cs)) (hB:drawB dep ord xs.length es=true) (hc:AllC (SpecQ P G) cs) (hr:RS G F ρ S a w)
  (hQ:∀a' w' F' ρ',RS G F' ρ' S' a' w'→Ext G F ρ w F' ρ' w'→HKeep w ρ (aget S.h) w' ρ' (aget S'.h)→a'.defers=a.defers→R a' w'):wpAnyR P ops R ops.size (Array.replicate ops.size false) a {w with drawn:=w.drawn+1}:=by
 obtain⟨k1,k2,k3,k4⟩:=exEnts_ok hx he hc
 simp only[drawB,Bool.and_eq_true]at hB
 obtain⟨b1,b2,b3,b4,b5⟩:=hB
 have hlen:xs.length=ops.size:=by rw[compXOs_len hx];simp
 have hd:=dep_eq (ops:=ops) hdep
 have hsame:=hr.mem.same (w':={w with drawn:=w.drawn+1}) rfl ⟨rfl,rfl,fun _=>⟨rfl,Nat.le_succ _⟩⟩
 refine(any_sound (an:=tbN (ancTab dep ord [])) (ancTab_ok hd (fun j i hi=>by simp[tbN,aget]at hi)) (fun i k hk=>?_) (n:=S.n) (TF:=aget S'.t) (HF:=aget S'.h) ops.size _ es F ρ (aget S.t) (aget S.h) a _ ?_ (pairsB_ok hd b5) (by simp) (fun i=>?_) k3 (fun j hj=>?_) k4 ?_ ?_)
 ·rw[hd]at hk
  simp only[depN]at hk
  cases e:nth? dep i with
  |none=>rw[e]at hk;simp at hk
  |some l=>
   rw[e]at hk
   rw[← hlen]
   exact depB_ok b3 l (nth?_mem e) k (by simpa using hk)
 ·have hk:∀(l:List (Nat×Ent)),(keys l).length=l.length:=fun l=>by
   induction l with
   |nil=>rfl
   |cons p r ih=>obtain⟨i,e⟩:=p;simp[keys,ih]
  rw[← hk es,k1,Nat.eq_of_beq_eq_true b1,hlen]
 ·rw[k1]
  have:(Array.replicate ops.size false).getD i true=false↔i<ops.size:=by
   by_cases h:i<ops.size<;>simp[Array.getD,h]
  rw[this,← hlen]
  exact⟨allMem_ok b2 i,allLt_ok b4 i⟩
 ·exfalso
  by_cases h:j<ops.size<;>simp[Array.getD,h]at hj
 ·exact⟨hr.size,fun t v h=>(hr.tmps t v h).mono hsame.2.1.frz hsame.2.1.keep hsame.2.2,hsame.1,hr.defs.ext hsame.2.1 rfl⟩
 ·intro a' w' F' ρ' h1 h2 h3 h4
  refine hQ a' w' F' ρ' ?_ (hsame.2.1.trans h2) (hsame.2.2.trans h3) h4
  unfold RS;rw[k2];exact h1

end
end Go.Ab

/-
 Code, walked in a frame of a function or of a round: it ends normally, at an exit, or at a return.
-/
set_option linter.unusedVariables false
set_option linter.unusedSimpArgs false
namespace Go.Ab
open Go

def ArrR (P:Program)(m:Machine)(b:Frame)(k:List Item)(cs:List Frame):Ex→Act→World→Prop
 |.normal,a,w=>Steps P m (lone (b.atR a k) cs w)
 |.exit id,a,w=>∃k0,exitTo id k0=exitTo id k∧Steps P m (lone (b.atR a (.code (.exit id)::k0)) cs w)
 |.ret,a,w=>∃todo,Steps P m (lone (b.atR a (.code .ret::todo)) cs w)

def wpR (P:Program)(ro:Option Nat)(c:Code)(Q:Ex→Act→World→Prop)(a:Act)(w:World):Prop:=
 ∀(b:Frame) (k:List Item) (cs:List Frame),b.roundOf=ro→∃e a' w',Q e a' w'∧ArrR P (lone (b.atR a (.code c::k)) cs w) b k cs e a' w'

section
variable {P:Program}{ro:Option Nat}{Q:Ex→Act→World→Prop}{a:Act}{w:World}

theorem ArrR.of_steps {m m₁:Machine}{b:Frame}{k:List Item}{cs:List Frame}{e:Ex}{a:Act}{w:World}(h:Steps P m m₁)(h':ArrR P m₁ b k cs e a w):ArrR P m b k cs e a w:=by
 cases e with
 |normal=>exact h.trans h'
 |exit id=>obtain⟨k0,h1,h2⟩:=h';exact⟨k0,h1,h.trans h2⟩
 |ret=>obtain⟨todo,hs⟩:=h';exact⟨todo,h.trans hs⟩

theorem ArrR.pass {m:Machine}{b:Frame}{k k':List Item}{cs:List Frame}{e:Ex}{a:Act}{w:World}(hn:e≠ .normal)(hk:∀id,e=.exit id→exitTo id k=exitTo id k')(h:ArrR P m b k cs e a w):ArrR P m b k' cs e a w:=by
 cases e with
 |normal=>exact absurd rfl hn
 |exit id=>obtain⟨k0,h1,h2⟩:=h;exact⟨k0,h1.trans (hk id rfl),h2⟩
 |ret=>exact h

theorem wpR.mono {c:Code}{Q':Ex→Act→World→Prop}(h:wpR P ro c Q a w)(hq:∀e a w,Q e a w→Q' e a w):wpR P ro c Q' a w:=
 fun b k cs hb=>let ⟨e,a',w',q,r⟩:=h b k cs hb;⟨e,a',w',hq _ _ _ q,r⟩

theorem wpR_skip (h:Q .normal a w):wpR P ro .skip Q a w:=fun _ _ _ _=>⟨.normal,a,w,h,.one stepR_skip⟩
theorem wpR_label {l:Nat}(h:Q .normal a w):wpR P ro (.label l) Q a w:=by
 intro b k cs hb
 have s1:step P (lone (b.atR a (.code (.label l)::k)) cs w)=.next (lone (b.atR a k) cs w):=step_lone_go (by simp[stepG,stepG.exec,Frame.atR])
 exact⟨.normal,a,w,h,.one s1⟩
theorem wpR_exit {id:Nat}(h:Q (.exit id) a w):wpR P ro (.exit id) Q a w:=fun b k cs hb=>⟨.exit id,a,w,h,k,rfl,Steps.refl _ _⟩
theorem wpR_ret (h:Q .ret a w):wpR P ro .ret Q a w:=fun b k cs hb=>⟨.ret,a,w,h,k,Steps.refl _ _⟩

theorem wpR_seq {x y:Code}(h:wpR P ro x (fun e a w=>(e=.normal∧wpR P ro y Q a w)∨(e≠ .normal∧Q e a w)) a w):wpR P ro (.seq x y) Q a w:=by
 intro b k cs hb
 obtain⟨e,a₁,w₁,hq,harr⟩:=h b (.code y::k) cs hb
 rcases hq with⟨rfl,hy⟩|⟨hn,hq⟩
 ·obtain⟨e₂,a₂,w₂,hq₂,harr₂⟩:=hy b k cs hb
  exact⟨e₂,a₂,w₂,hq₂,.of_steps (.head stepR_seq harr) harr₂⟩
 ·exact⟨e,a₁,w₁,hq,.of_steps (.one stepR_seq) (ArrR.pass (k:=.code y::k) (k':=k) hn (fun id _=>rfl) harr)⟩

theorem wpR_cond {c:Operand}{x y:Code}{t:Bool}(hc:a.eval c=.bool t)(h:wpR P ro (if t then x else y) Q a w):wpR P ro (.cond c x y) Q a w:=by
 intro b k cs hb
 obtain⟨e,a₁,w₁,hq,harr⟩:=h b k cs hb
 exact⟨e,a₁,w₁,hq,.of_steps (.one (stepR_cond hc)) harr⟩

theorem wpR_block {id:Nat}{c:Code}(h:wpR P ro c (fun e a w=>(e=.exit id∧Q .normal a w)∨(e≠ .exit id∧Q e a w)) a w):wpR P ro (.block id c) Q a w:=by
 intro b k cs hb
 obtain⟨e,a₁,w₁,hq,harr⟩:=h b (.inBlock id::k) cs hb
 rcases hq with⟨rfl,hq⟩|⟨hn,hq⟩
 ·obtain⟨k0,h1,h2⟩:=harr
  refine⟨.normal,a₁,w₁,hq,?_⟩
  exact Steps.head stepR_block (h2.trans (.one (stepR_exit (k':=k) (by rw[h1];simp[exitTo]))))
 ·cases e with
  |normal=>exact⟨.normal,a₁,w₁,hq,.head stepR_block (Steps.trans harr (.one stepR_inBlock))⟩
  |exit id'=>
   refine⟨.exit id',a₁,w₁,hq,.of_steps (.one stepR_block) (harr.pass (by simp) (fun i e=>?_))⟩
   cases e
   have hne:id≠id':=fun e=>hn (by rw[e])
   have:(id==id')=false:=by simpa using hne
   simp[exitTo,this]
  |ret=>exact⟨.ret,a₁,w₁,hq,.of_steps (.one stepR_block) (harr.pass (by simp) (fun i e=>by cases e))⟩

theorem wpR_scope {c:Code}(h:wpR P ro c Q a w):wpR P ro (.scope c) Q a w:=by
 intro b k cs hb
 obtain⟨e,a₁,w₁,hq,harr⟩:=h b (.inScope c::k) cs hb
 have s1:step P (lone (b.atR a (.code (.scope c)::k)) cs w)=.next (lone (b.atR a (.code c:: .inScope c::k)) cs w):=step_lone_go (by simp[stepG,stepG.exec,Frame.atR])
 refine⟨e,a₁,w₁,hq,.of_steps (.one s1) ?_⟩
 cases e with
 |normal=>exact Steps.trans harr (.one (step_lone_go (by simp[stepG,stepG.exec,Frame.atR])))
 |exit id=>obtain⟨k0,h1,h2⟩:=harr;exact⟨k0,h1.trans rfl,h2⟩
 |ret=>exact harr

theorem wpR_unloop {c:Code}(h:wpR P ro (.loop c) Q a w)(b:Frame)(k:List Item)(cs:List Frame)(hb:b.roundOf=ro):
  ∃e a' w',Q e a' w'∧ArrR P (lone (b.atR a (.code c:: .inLoop c::k)) cs w) b k cs e a' w':=by
 obtain⟨e,a',w',hq,harr⟩:=h b k cs hb
 refine⟨e,a',w',hq,?_⟩
 have tail:∀{m},m≠lone (b.atR a (.code (.loop c)::k)) cs w→Steps P (lone (b.atR a (.code (.loop c)::k)) cs w) m→Steps P (lone (b.atR a (.code c:: .inLoop c::k)) cs w) m:=by
  intro m hne hs
  obtain⟨n,hs⟩:=hs
  cases n with
  |zero=>simp[runN]at hs;exact absurd hs.symm hne
  |succ n=>
   simp only[runN,stepR_loop]at hs
   exact⟨n,hs⟩
 cases e with
 |normal=>exact tail (fun e=>by simp[lone,Frame.atR]at e) harr
 |exit id=>obtain⟨k0,h1,h2⟩:=harr;exact⟨k0,h1,tail (fun e=>by simp[lone,Frame.atR]at e) h2⟩
 |ret=>obtain⟨t,h2⟩:=harr;exact⟨t,tail (fun e=>by simp[lone,Frame.atR]at e) h2⟩

theorem wpR_loop1 {c:Code}(h:wpR P ro c (fun e a' w'=>(e=.normal∧wpR P ro (.loop c) Q a' w')∨(e≠ .normal∧Q e a' w')) a w):wpR P ro (.loop c) Q a w:=by
 intro b k cs hb
 obtain⟨e,a₁,w₁,hq,harr⟩:=h b (.inLoop c::k) cs hb
 rcases hq with⟨rfl,hl⟩|⟨hn,hq⟩
 ·obtain⟨e₂,a₂,w₂,hq₂,harr₂⟩:=wpR_unloop hl b k cs hb
  exact⟨e₂,a₂,w₂,hq₂,.of_steps (.head stepR_loop (Steps.trans harr (.one stepR_inLoop))) harr₂⟩
 ·exact⟨e,a₁,w₁,hq,.of_steps (.one stepR_loop) (ArrR.pass (k:=.inLoop c::k) (k':=k) hn (fun id _=>rfl) harr)⟩

theorem wpOps_steps {ops:Array Oper}{R:Act→World→Prop}(hdef:∀(i:Nat) (o:Oper),ops[i]? =some o→∀c,o.op≠ .defer c)(l:List Nat):
  ∀(a:Act) (w:World),wpOpsR P ops R l a w→∀(b:Frame) (k:List Item) (cs:List Frame),
   ∃a' w',R a' w'∧Steps P (lone (b.atR a (.inRegion ops l::k)) cs w) (lone (b.atR a' k) cs w'):=by
 induction l with
 |nil=>exact fun a w h b k cs=>⟨a,w,h,.one stepR_region_end⟩
 |cons i rest ih=>
  intro a w h b k cs
  simp only[wpOpsR,wpOpR]at h
  cases ho:ops[i]? with
  |none=>
   simp only[ho]at h
   obtain⟨a',w',hq,hs'⟩:=ih a w h b k cs
   have hs:=stepR_op_skip (P:=P) (b:=b) (a:=a) (k:=k) (cs:=cs) (w:=w) (ops:=ops) (i:=i) (rest:=rest) (by simp[ho])
   simp only[ho,Option.bind_none,Act.put]at hs
   exact⟨a',w',hq,.head hs hs'⟩
  |some o=>
   simp only[ho]at h
   by_cases hw:Region.wanted o (yielded ops a.tmps)=true
   ·simp only[hw,if_true]at h
    have hg:=stepGR_op (P:=P) (b:=b) (k:=k) (cs:=cs) (w:=w) (rest:=rest) ho hw
    rw[Oper.semAt_eq _ _ _ (hdef i o ho)]at hg
    have hfin:∀v,(b.atR a (.inRegion ops (i::rest)::k)).finish v=b.atR (a.put o.dst v) (.inRegion ops rest::k):=by
     intro v;rw[Frame.finish_atR,ho];rfl
    rcases h with⟨nx,y,w₁,hr,hy,hK⟩|⟨f,args,w₁,hr,h⟩|⟨l,fn,tmps,as,bd,w₁,hr,h⟩
    ·obtain⟨a',w'',hq,hs⟩:=ih _ _ hK b k cs
     refine⟨a',w'',hq,.head (step_lone_go ?_) hs⟩
     rcases hy with rfl|⟨rfl,rfl⟩
     ·rw[hg,← hfin];simp[stepG.apply,hr]
     ·rw[hg,← hfin];simp[stepG.apply,hr]
    ·obtain⟨e,w'',fr,⟨v,rfl,hR⟩,hsteps,_,hleave⟩:=h (b.atR a (.inRegion ops (i::rest)::k)::cs)
     have henter:step P (lone (b.atR a (.inRegion ops (i::rest)::k)) cs w)=
       .next (lone (Frame.enter P f args .normal) (b.atR a (.inRegion ops (i::rest)::k)::cs) w₁):=
      step_lone_go (by rw[hg];simp[stepG.apply,hr,Frame.atR])
     obtain⟨a',w₃,hq,hs⟩:=ih _ _ hR b k cs
     refine⟨a',w₃,hq,.head henter (hsteps.trans (.head ?_ hs))⟩
     rw[← hfin];exact step_leave_returned hleave
    ·obtain⟨v,w'',hR,hsteps⟩:=h (b.atR a (.inRegion ops (i::rest)::k)) cs
     have henter:step P (lone (b.atR a (.inRegion ops (i::rest)::k)) cs w)=
       .next (lone (Frame.round l fn tmps as bd .normal) (b.atR a (.inRegion ops (i::rest)::k)::cs) w₁):=
      step_lone_go (by rw[hg];simp[stepG.apply,hr,Frame.atR])
     obtain⟨a',w₃,hq,hs⟩:=ih _ _ hR b k cs
     refine⟨a',w₃,hq,.head henter (hsteps.trans ?_)⟩
     rw[hfin];exact hs
   ·simp only[hw,if_false,Bool.false_eq_true]at h
    obtain⟨a',w',hq,hs'⟩:=ih _ _ h b k cs
    have hs:=stepR_op_skip (P:=P) (b:=b) (a:=a) (k:=k) (cs:=cs) (w:=w) (ops:=ops) (i:=i) (rest:=rest) (by simp[ho];simpa using hw)
    simp only[ho,Option.bind_some]at hs
    exact⟨a',w',hq,.head hs hs'⟩

end
end Go.Ab

/-
 A state said more weakly: with other ids, without what is no more needed, with values that are equal.
-/
set_option linter.unusedVariables false
set_option linter.unusedSimpArgs false
namespace Go.Ab
open Go

def PAll:List Prop→Prop
 |[]=>True
 |p::r=>p∧PAll r
theorem PAll.app:∀{a b:List Prop},PAll (a++b)→PAll a∧PAll b
 |[],_,h=>⟨trivial,h⟩
 |_::_,_,h=>let ⟨h1,h2⟩:=PAll.app h.2;⟨⟨h.1,h1⟩,h2⟩

def capP (cap:Option Nat):Option Nat→List Prop
 |none=>[]
 |some n'=>match cap with
  |some n=>[n=n']
  |none=>[False]
def cap0:Option Nat→List Prop
 |none=>[]
 |some n'=>[n'=0]

mutual
def matchV (σ:List (Nat×Nat))(dom:List Nat):Nat→AV→AV→Option (List Prop)
 |0,_,_=>none
 |n+1,v,v'=>
  match v' with
  |.undef=>some []
  |.bool b'=>match v with
   |.bool b=>some [b=b']
   |_=>none
  |.int k' x'=>match v with
   |.int k x=>cond (beqK k k') (some [x=x']) none
   |_=>none
  |.str s'=>match v with
   |.str s=>some [s=s']
   |_=>none
  |.nilp=>match v with
   |.nilp=>some []
   |_=>none
  |.nils=>match v with
   |.nils=>some []
   |_=>none
  |.nilf=>match v with
   |.nilf=>some []
   |_=>none
  |.nili=>match v with
   |.nili=>some []
   |_=>none
  |.iptr c'=>match v with
   |.iptr c=>some [c=c']
   |_=>none
  |.imm c' l' cap'=>match v with
   |.imm c l cap=>some ((c=c')::(l=l')::capP cap cap')
   |.nils=>some ((c'.size=0)::(l'=0)::cap0 cap')
   |_=>none
  |.ptr j o'=>match v with
   |.ptr i o=>match aget σ j with
    |some i'=>cond (Nat.beq i i'&&memN j dom) (some [o=o']) none
    |none=>none
   |_=>none
  |.ep j m' o'=>match v with
   |.ep i m o=>match aget σ j with
    |some i'=>cond (Nat.beq i i'&&memN j dom) (some [m=m',o=o']) none
    |none=>none
   |_=>none
  |.full j m'=>match unc v with
   |.full i m=>match aget σ j with
    |some i'=>cond (Nat.beq i i'&&memN j dom) (some [m=m']) none
    |none=>none
   |_=>none
  |.fullc j m' c'=>match v with
   |.fullc i m c=>match aget σ j with
    |some i'=>cond (Nat.beq i i'&&memN j dom) (some [m=m',c=c']) none
    |none=>none
   |_=>none
  |.sl j o' l' c'=>match v with
   |.sl i o l c=>match aget σ j with
    |some i'=>cond (Nat.beq i i'&&memN j dom) (some [o=o',l=l',c=c']) none
    |none=>none
   |_=>none
  |.fn f' a' b'=>match v with
   |.fn f a b=>cond (Nat.beq f f') (match matchL σ dom n a a',matchL σ dom n b b' with
    |some p,some q=>some (p++q)
    |_,_=>none) none
   |_=>none
  |.agg l'=>match v with
   |.agg l=>matchL σ dom n l l'
   |_=>none
  |.tup l'=>match v with
   |.tup l=>matchL σ dom n l l'
   |_=>none
  |.may b' u'=>match v with
   |.may b u=>match matchV σ dom n u u' with
    |some p=>some ((b=b')::p)
    |none=>none
   |_=>none
  |.iface t' u'=>match v with
   |.iface t u=>cond (Nat.beq t t') (matchV σ dom n u u') none
   |_=>none
  |.yld j=>match v with
   |.yld i=>match aget σ j with
    |some i'=>cond (Nat.beq i i'&&memN j dom) (some []) none
    |none=>none
   |_=>none
  |.mp j=>match v with
   |.mp i=>match aget σ j with
    |some i'=>cond (Nat.beq i i'&&memN j dom) (some []) none
    |none=>none
   |_=>none
  |.vw j n' s' o' l'=>match v with
   |.vw i n s o l=>match aget σ j with
    |some i'=>cond (Nat.beq i i'&&memN j dom) (some [n=n',s=s',o=o',l=l']) none
    |none=>none
   |.full i m=>match aget σ j with
    |some i'=>cond (Nat.beq i i'&&memN j dom) (some [m=n',0=o',m=l']) none
    |none=>none
   |_=>none
  |.spare _=>none
  |.nn=>none
  |.qu j n' d'=>match v with
   |.qu i n d=>match aget σ j with
    |some i'=>cond (Nat.beq i i'&&memN j dom) (some [n=n',d=d']) none
    |none=>none
   |_=>none
  |.qe _ _ _=>none
def matchL (σ:List (Nat×Nat))(dom:List Nat):Nat→List AV→List AV→Option (List Prop)
 |0,_,_=>none
 |n+1,l,l'=>
  match l,l' with
  |[],[]=>some []
  |v::r,v'::r'=>match matchV σ dom n v v',matchL σ dom n r r' with
   |some p,some q=>some (p++q)
   |_,_=>none
  |_,_=>none
end

def matchC (σ:List (Nat×Nat))(dom:List Nat)(n:Nat)(c c':Cont):Option (List Prop):=
 match c,c' with
 |.cells l,.cells l'=>matchL σ dom n l l'
 |.ints k l,.ints k' l'=>cond (beqK k k') (some [l=l']) none
 |.bools l,.bools l'=>some [l=l']
 |.strs l,.strs l'=>some [l=l']
 |.vals l,.vals l'=>some [l=l']
 |.maps kk vk es ck,.maps kk' vk' es' ck'=>cond (beqMV kk kk'&&beqMV vk vk') (some [es=es',ck=ck']) none
 |_,_=>none
theorem beqMV_eq {a b:MV}(h:beqMV a b=true):a=b:=by
 unfold beqMV at h
 simp only[Bool.and_eq_true,beq_iff_eq,decide_eq_true_eq]at h
 cases a;cases b
 simp only at h
 rw[h.1,h.2]
theorem matchC_maps {σ:List (Nat×Nat)}{dom:List Nat}{n:Nat}{c c':Cont}{qs:List Prop}(h:matchC σ dom n c c'=some qs)(hp:PAll qs):
  (c'.isMap=false→c.isMap=false)∧∀kk vk es ck,c'=.maps kk vk es ck→c=.maps kk vk es ck:=by
 cases c<;>cases c'<;>simp only[matchC,reduceCtorEq]at h
 case maps.maps kk vk es ck kk' vk' es' ck'=>
  rw[cond_eq_ite]at h
  split at h
  ·rename_i hb
   rw[Bool.and_eq_true]at hb
   cases beqMV_eq hb.1;cases beqMV_eq hb.2
   cases h
   obtain⟨rfl,rfl,_⟩:=hp
   exact⟨fun h=>h,fun _ _ _ _ h=>h⟩
  ·cases h
 all_goals exact⟨fun _=>rfl,fun kk vk es ck e=>by cases e⟩

structure BOk (k k':Blk):Prop where
 sz:k'.sz=k.sz
 n:k'.n=k.n
 bx:k'.bx=k.bx
 mu:k'.mu=k.mu
 nil:k'.nil=k.nil∨k'.nil=none
 cap:k'.cap=k.cap∨k'.cap=none

section
variable {G:GL}{F:Nat→Prop}{ρ ρ':Nat→Option Nat}{H H':Nat→Option HO}{w:World}{σ:List (Nat×Nat)}{dom:List Nat}

def RenOk (ρ ρ':Nat→Option Nat)(H H':Nat→Option HO)(σ:List (Nat×Nat))(dom:List Nat):Prop:=
 ∀j i,memN j dom=true→aget σ j=some i→ρ' j=ρ i∧(∀k,H i=some (.blk k)→∃k',H' j=some (.blk k')∧BOk k k')∧(∀o,H i=some o→∃o',H' j=some o'∧o'.box=o.box∧∀k l v,o=.que k l v→o'=o)

theorem beqK_ok {k k':IntKind}(h:beqK k k'=true):k=k':=of_decide_eq_true h

theorem FullOk.ren {i j len:Nat}{k k':Blk}{x:Value}(h:FullOk w ρ i len k x)(hb:BOk k k')(hρ:ρ' j=ρ i):FullOk w ρ' j len k' x:=by
 have hc:∀n,k'.cap=some n→k.cap=some n:=fun n h=>by
  rcases hb.cap with e|e
  ·rw[← e];exact h
  ·rw[e]at h;cases h
 have hn:∀q,k'.nil=some q→k.nil=some q:=fun q h=>by
  rcases hb.nil with e|e
  ·rw[← e];exact h
  ·rw[e]at h;cases h
 rcases h with⟨h1,h2,h3,h4⟩|⟨h1,h2,h3,h4⟩|⟨h1,b,cap,cs,ty,fz,g1,g2,g3,g4,g5,g6⟩
 ·exact .inl ⟨h1,fun e=>h2 (hn _ e),fun n e=>h3 n (hc n e),h4⟩
 ·exact .inr (.inl ⟨h1,fun e=>h2 (hn _ e),fun n e=>h3 n (hc n e),h4⟩)
 ·exact .inr (.inr ⟨fun e=>h1 (hn _ e),b,cap,cs,ty,fz,hρ.trans g1,g2,g3,g4,by rw[hb.sz];exact g5,fun n e=>g6.1 n (hc n e),g6.2⟩)

theorem match_sound (hσ:RenOk ρ ρ' H H' σ dom):∀n,(∀v v' ps,matchV σ dom n v v'=some ps→PAll ps→∀x,RelV w F ρ H v x→RelV w F ρ' H' v' x)∧
  (∀l l' ps,matchL σ dom n l l'=some ps→PAll ps→∀xs,RelVs w F ρ H l xs→RelVs w F ρ' H' l' xs):=by
 intro n
 induction n with
 |zero=>exact⟨fun v v' ps h=>by simp[matchV]at h,fun l l' ps h=>by simp[matchL]at h⟩
 |succ n ih=>
  obtain⟨ihV,ihL⟩:=ih
  have ref:∀{i i' j:Nat} {qs:List Prop} {ps:List Prop},(cond (Nat.beq i i'&&memN j dom) (some qs) none)=some ps→i=i'∧memN j dom=true∧qs=ps:=by
   intro i i' j qs ps h
   rw[cond_eq_ite]at h
   split at h
   ·rename_i hc
    rw[Bool.and_eq_true]at hc
    cases h
    exact⟨Nat.eq_of_beq_eq_true hc.1,hc.2,rfl⟩
   ·cases h
  refine⟨fun v v' ps h hp x hx=>?_,fun l l' ps h hp xs hx=>?_⟩
  ·simp only[matchV]at h
   split at h
   ·exact .imm _ _ (.undef _)
   ·split at h
    ·cases h;obtain⟨rfl,_⟩:=hp;have:=hx.bools;subst this;exact .imm _ _ (.bool _)
    ·cases h
   ·split at h
    ·rw[cond_eq_ite]at h
     split at h
     ·rename_i hk
      cases h;obtain⟨rfl,_⟩:=hp;have:=hx.ints;subst this;rw[← beqK_ok hk];exact .imm _ _ (.int _ _)
     ·cases h
    ·cases h
   ·split at h
    ·cases h;obtain⟨rfl,_⟩:=hp;obtain⟨s,rfl,hs⟩:=hx.strs;exact .imm _ _ (.str _ _ hs)
    ·cases h
   ·split at h
    ·cases h;cases hx with|imm _ _ hi=>cases hi;exact .imm _ _ .nilp
    ·cases h
   ·split at h
    ·cases h;cases hx with|imm _ _ hi=>cases hi;exact .imm _ _ .nils
    ·cases h
   ·split at h
    ·cases h;cases hx with|imm _ _ hi=>cases hi;exact .imm _ _ .nilf
    ·cases h
   ·split at h
    ·cases h;cases hx with|imm _ _ hi=>cases hi;exact .imm _ _ .nili
    ·cases h
   ·split at h
    ·cases h;obtain⟨rfl,_⟩:=hp;cases hx with|imm _ _ hi=>exact .imm _ _ hi
    ·cases h
   ·split at h
    ·rename_i c' l' cap' _ c l cap
     cases h
     obtain⟨rfl,rfl,hcap⟩:=hp
     have key:cap'=cap∨cap'=none:=by
      cases cap' with
      |none=>exact .inr rfl
      |some n'=>
       cases cap with
       |none=>exact absurd hcap.1 id
       |some n=>obtain⟨rfl,_⟩:=hcap;exact .inl rfl
     cases hx with
     |imm _ _ hi=>
      rcases key with rfl|rfl
      ·exact .imm _ _ hi
      ·cases hi with
       |imm _ _ _ b o cap' xs hF hc hr ho hl hcap=>exact .imm _ _ (.imm _ _ _ b o cap' xs hF hc hr ho hl (fun n e=>by cases e))
       |imm0 _ _ a hc hcap=>exact .imm _ _ (.imm0 _ _ a hc (fun n e=>by cases e))
    ·rename_i c' l' cap'
     cases h
     obtain⟨h1,rfl,hcap⟩:=hp
     cases hx with
     |imm _ _ hi=>
      cases hi
      refine .imm _ _ (.imm0 _ _ none h1 (fun n e=>?_))
      subst e;exact hcap.1
    ·cases h
   ·split at h
    ·split at h
     ·rename_i i' hi'
      obtain⟨rfl,hm,rfl⟩:=ref h
      obtain⟨rfl,_⟩:=hp
      obtain⟨q1,q2,q3⟩:=hσ _ _ hm hi'
      cases hx with
      |imm _ _ hi=>cases hi
      |ptr _ _ b o hb hh hxb=>
       obtain⟨o',p1,p2⟩:=q3 _ hh
       exact .ptr _ _ b o' (q1.trans hb) p1 (p2.1.trans hxb)
     ·cases h
    ·cases h
   ·split at h
    ·split at h
     ·rename_i i' hi'
      obtain⟨rfl,hm,rfl⟩:=ref h
      obtain⟨rfl,rfl,_⟩:=hp
      obtain⟨q1,q2,q3⟩:=hσ _ _ hm hi'
      cases hx with
      |imm _ _ hi=>cases hi
      |ep _ _ _ k _ hh hle hpp hxx=>
       obtain⟨k',p1,p2⟩:=q2 _ hh
       refine .ep _ _ _ k' _ p1 (by rw[p2.n];exact hle) hpp (fun e=>?_)
       rw[p2.n]at e
       obtain⟨b,hb,hxb⟩:=hxx e
       exact⟨b,q1.trans hb,hxb⟩
     ·cases h
    ·cases h
   ·split at h
    ·split at h
     ·rename_i i' hi'
      obtain⟨rfl,hm,rfl⟩:=ref h
      obtain⟨rfl,_⟩:=hp
      obtain⟨q1,q2,q3⟩:=hσ _ _ hm hi'
      have hx:=hx.unc
      have hu:=‹unc v=_›
      rw[hu]at hx
      cases hx with
      |imm _ _ hi=>cases hi
      |full _ _ k _ hh hle hpp hxx=>
       obtain⟨k',p1,p2⟩:=q2 _ hh
       refine .full _ _ k' _ p1 (by rw[p2.n];exact hle) hpp (fun e=>?_)
       rw[p2.n]at e
       exact(hxx e).ren p2 q1
     ·cases h
    ·cases h
   ·split at h
    ·split at h
     ·rename_i i' hi'
      obtain⟨rfl,hm,rfl⟩:=ref h
      obtain⟨rfl,rfl,_⟩:=hp
      obtain⟨q1,q2,q3⟩:=hσ _ _ hm hi'
      cases hx with
      |imm _ _ hi=>cases hi
      |fullc _ _ _ a hf=>
       cases hf with
       |imm _ _ hi=>cases hi
       |full _ _ k _ hh hle hpp hxx=>
        obtain⟨k',p1,p2⟩:=q2 _ hh
        refine .fullc _ _ _ a (.full _ _ k' _ p1 (by rw[p2.n];exact hle) hpp (fun e=>?_))
        rw[p2.n]at e
        exact(hxx e).ren p2 q1
     ·cases h
    ·cases h
   ·split at h
    ·split at h
     ·rename_i i' hi'
      obtain⟨rfl,hm,rfl⟩:=ref h
      obtain⟨rfl,rfl,rfl,_⟩:=hp
      obtain⟨q1,q2,q3⟩:=hσ _ _ hm hi'
      cases hx with
      |imm _ _ hi=>cases hi
      |sl _ _ _ _ b k hb hh hxb hlc=>
       obtain⟨k',p1,p2⟩:=q2 _ hh
       exact .sl _ _ _ _ b k' (q1.trans hb) p1 (p2.bx.trans hxb) hlc
     ·cases h
    ·cases h
   ·split at h
    ·rw[cond_eq_ite]at h
     split at h
     ·rename_i hf
      split at h
      ·rename_i p q h1 h2
       cases h
       obtain⟨hp1,hp2⟩:=hp.app
       obtain⟨y1,y2,rfl,r1,r2⟩:=hx.fns
       rw[← Nat.eq_of_beq_eq_true hf]
       exact .fn _ _ _ _ _ (ihL _ _ _ h1 hp1 _ r1) (ihL _ _ _ h2 hp2 _ r2)
      ·cases h
     ·cases h
    ·cases h
   ·split at h
    ·obtain⟨y,rfl,r⟩:=hx.aggs;exact .agg _ _ (ihL _ _ _ h hp _ r)
    ·cases h
   ·split at h
    ·obtain⟨y,rfl,r⟩:=hx.tups;exact .tup _ _ (ihL _ _ _ h hp _ r)
    ·cases h
   ·split at h
    ·split at h
     ·rename_i p h1
      cases h
      obtain⟨rfl,hp'⟩:=hp
      exact .may _ _ _ (fun e=>ihV _ _ _ h1 hp' _ (hx.mayInv e)) hx.mayNot
     ·cases h
    ·cases h
   ·split at h
    ·rw[cond_eq_ite]at h
     split at h
     ·rename_i ht
      rw[← Nat.eq_of_beq_eq_true ht]
      cases hx with
      |imm _ _ hi=>cases hi with|iface _ _ y hi=>exact .iface _ _ y (ihV _ _ _ h hp _ hi.toV)
      |iface _ _ y hv=>exact .iface _ _ y (ihV _ _ _ h hp _ hv)
     ·cases h
    ·cases h
   ·split at h
    ·split at h
     ·rename_i i' hi'
      obtain⟨rfl,hm,rfl⟩:=ref h
      obtain⟨q1,q2,q3⟩:=hσ _ _ hm hi'
      cases hx with
      |imm _ _ hi=>cases hi
      |yld _ b o hb hh hxb=>
       obtain⟨o',p1,p2⟩:=q3 _ hh
       exact .yld _ b o' (q1.trans hb) p1 (p2.1.trans hxb)
     ·cases h
    ·cases h
   ·split at h
    ·split at h
     ·rename_i i' hi'
      obtain⟨rfl,hm,rfl⟩:=ref h
      obtain⟨q1,q2,q3⟩:=hσ _ _ hm hi'
      cases hx with
      |imm _ _ hi=>cases hi
      |mp _ b o hb hh hxb=>
       obtain⟨o',p1,p2⟩:=q3 _ hh
       exact .mp _ b o' (q1.trans hb) p1 (p2.1.trans hxb)
     ·cases h
    ·cases h
   ·split at h
    ·split at h
     ·rename_i i' hi'
      obtain⟨rfl,hm,rfl⟩:=ref h
      obtain⟨rfl,rfl,rfl,rfl,_⟩:=hp
      obtain⟨q1,q2,q3⟩:=hσ _ _ hm hi'
      cases hx with
      |imm _ _ hi=>cases hi
      |vw _ _ _ _ _ k _ hh hle hpp hxx=>
       obtain⟨k',p1,p2⟩:=q2 _ hh
       refine .vw _ _ _ _ _ k' _ p1 (by rw[p2.n];exact hle) hpp (fun e=>?_)
       rw[p2.n]at e
       obtain⟨z1,a,c,z2,z3⟩:=hxx e
       exact⟨z1,a,c,z2.ren p2 q1,z3⟩
     ·cases h
    ·split at h
     ·rename_i i' hi'
      obtain⟨rfl,hm,rfl⟩:=ref h
      obtain⟨rfl,rfl,rfl,_⟩:=hp
      obtain⟨q1,q2,q3⟩:=hσ _ _ hm hi'
      cases hx with
      |imm _ _ hi=>cases hi
      |full _ _ k _ hh hle hpp hxx=>
       obtain⟨k',p1,p2⟩:=q2 _ hh
       refine .vw _ _ _ _ _ k' _ p1 (by rw[p2.n];exact hle) hpp (fun e=>?_)
       rw[p2.n]at e
       have hf:=(hxx e).ren p2 q1
       obtain⟨a,l,c,rfl⟩:=hpp
       have hl:l=_:=FullOk.len hf
       subst hl
       refine⟨by omega,a,c,hf,?_⟩
       cases a<;>simp[Addr.add]
     ·cases h
    ·cases h
   ·cases h
   ·cases h
   ·split at h
    ·split at h
     ·rename_i i' hi'
      obtain⟨rfl,hm,rfl⟩:=ref h
      obtain⟨rfl,rfl,_⟩:=hp
      obtain⟨q1,q2,q3⟩:=hσ _ _ hm hi'
      cases hx with
      |imm _ _ hi=>cases hi
      |qu _ _ _ k l v1 _ hh hle hpp hxx=>
       obtain⟨o',p1,_,p3⟩:=q3 _ hh
       have e:=p3 k l v1 rfl
       subst e
       exact .qu _ _ _ k l v1 _ p1 hle hpp (fun e=>(hxx e).mono q1 (fun _ _=>rfl))
     ·cases h
    ·cases h
   ·cases h
  ·simp only[matchL]at h
   split at h
   ·cases hx;exact .nil
   ·split at h
    ·rename_i p q h1 h2
     cases h
     obtain⟨hp1,hp2⟩:=hp.app
     cases hx with
     |cons _ _ y ys hv hs=>exact .cons _ _ _ _ (ihV _ _ _ h1 hp1 _ hv) (ihL _ _ _ h2 hp2 _ hs)
    ·cases h
   ·cases h

end
end Go.Ab

/-
 A state said more weakly: states.
-/
set_option linter.unusedVariables false
set_option linter.unusedSimpArgs false
namespace Go.Ab
open Go

def beqBo:Bool→Bool→Bool
 |true,true=>true
 |false,false=>true
 |_,_=>false
def nilB:Option Bool→Option Bool→Bool
 |_,none=>true
 |some a,some b=>beqBo a b
 |none,some _=>false
def matchT (σ:List (Nat×Nat))(dom:List Nat)(T:List (Nat×AV)):List (Nat×AV)→Option (List Prop)
 |[]=>some []
 |(t,v')::r=>match aget T t with
  |some v=>match matchV σ dom 1000 v v',matchT σ dom T r with
   |some p,some q=>some (p++q)
   |_,_=>none
  |none=>none
def matchO (σ:List (Nat×Nat))(dom:List Nat):HO→HO→Option (List Prop)
 |.blk b,.blk b'=>cond (Nat.beq b.sz b'.sz&&(beqBo b.mu b'.mu&&(beqBo b.bx b'.bx&&nilB b.nil b'.nil))) (match matchC σ dom 1000 b.c b'.c with
  |some p=>some ((b.n=b'.n)::(capP b.cap b'.cap++p))
  |none=>none) none
 |.iter s p,.iter s' p'=>some [s=s',p=p']
 |.loop l,.loop l'=>match matchT σ dom l.t l'.t with
  |some p=>some ((l'.st=l.st)::(l'.pend=l.pend)::(l'.n=l.n)::(l'.ps=l.ps)::(l'.as=l.as)::(l'.bd=l.bd)::p)
  |none=>none
 |.que k l v,.que k' l' v'=>cond (beqK k k') (some [l'=l,v'=v]) none
 |.mit m c s,.mit m' c' s'=>match aget σ m' with
  |some i=>cond (Nat.beq m i&&memN m' dom) (some [c'=c,s'=s]) none
  |none=>none
 |_,_=>none
def matchH (σ:List (Nat×Nat))(dom:List Nat)(h:List (Nat×HO)):List (Nat×HO)→Option (List Prop)
 |[]=>some []
 |(j,o')::r=>match aget σ j with
  |some i=>match aget h i with
   |some o=>match matchO σ dom o o',matchH σ dom h r with
    |some p,some q=>some (p++q)
    |_,_=>none
   |none=>none
  |none=>none
def nodupV:List (Nat×Nat)→Bool
 |[]=>true
 |(_,v)::r=>cond (hasV v r) false (nodupV r)
where hasV (v:Nat):List (Nat×Nat)→Bool
 |[]=>false
 |(_,u)::r=>cond (Nat.beq u v) true (hasV v r)
def nilEq:HO→HO→Bool
 |.blk b,.blk b'=>match b.nil,b'.nil with
  |some x,some y=>beqBo x y
  |none,none=>true
  |_,_=>false
 |_,_=>true
def keepB (σ:List (Nat×Nat))(S S':St):List Nat→Bool
 |[]=>true
 |i::r=>match aget S.h i with
  |none=>keepB σ S S' r
  |some o=>match aget σ i,aget S'.h i with
   |some j,some o'=>cond (Nat.beq i j&&nilEq o o') (keepB σ S S' r) false
   |_,_=>false
def renS (σ:List (Nat×Nat))(S S':St):Option (List Prop):=
 match matchH σ (keys S'.h) S.h S'.h,matchT σ (keys S'.h) S.t S'.t with
 |some p,some q=>cond (nodupV σ&&Nat.beq S'.n S.n) (some (p++q)) none
 |_,_=>none

section
variable {G:GL}{F:Nat→Prop}{ρ ρ':Nat→Option Nat}{H H':Nat→Option HO}{w:World}{σ:List (Nat×Nat)}{dom:List Nat}

theorem matchL_get:∀{n:Nat} {l l':List AV} {ps:List Prop},matchL σ dom n l l'=some ps→PAll ps→l'.length=l.length∧∀i,i<l.length→∃m qs,matchV σ dom m (l.getD i .undef) (l'.getD i .undef)=some qs∧PAll qs
 |0,l,l',ps,h,hp=>by simp[matchL]at h
 |n+1,l,l',ps,h,hp=>by
  simp only[matchL]at h
  split at h
  ·exact⟨rfl,fun i hi=>by simp at hi⟩
  ·split at h
   ·rename_i p q h1 h2
    cases h
    obtain⟨hp1,hp2⟩:=hp.app
    obtain⟨g1,g2⟩:=matchL_get h2 hp2
    refine⟨by simp[g1],fun i hi=>?_⟩
    cases i with
    |zero=>exact⟨n,p,by simpa using h1,hp1⟩
    |succ i=>
     obtain⟨m,qs,k1,k2⟩:=g2 i (by simpa using hi)
     exact⟨m,qs,by simpa using k1,k2⟩
   ·cases h
  ·cases h

theorem matchC_ok (hσ:RenOk ρ ρ' H H' σ dom){n:Nat}{c c':Cont}{ps:List Prop}(h:matchC σ dom n c c'=some ps)(hp:PAll ps):
  c'.size=c.size∧∀i x,i<c.size→RelE w F ρ H c i x→RelE w F ρ' H' c' i x:=by
 unfold matchC at h
 split at h
 ·obtain⟨g1,g2⟩:=matchL_get h hp
  refine⟨g1,fun i x hi hx=>⟨?_,hx.2⟩⟩
  obtain⟨m,qs,k1,k2⟩:=g2 i hi
  exact(match_sound hσ m).1 _ _ _ k1 k2 _ hx.1
 ·rw[cond_eq_ite]at h
  split at h
  ·rename_i hk
   cases h
   obtain⟨rfl,_⟩:=hp
   rw[beqK_ok hk]
   exact⟨rfl,fun i x hi hx=>hx⟩
  ·cases h
 ·cases h;obtain⟨rfl,_⟩:=hp;exact⟨rfl,fun i x hi hx=>hx⟩
 ·cases h;obtain⟨rfl,_⟩:=hp;exact⟨rfl,fun i x hi hx=>hx⟩
 ·cases h;obtain⟨rfl,_⟩:=hp;exact⟨rfl,fun i x hi hx=>hx⟩
 ·exact⟨rfl,fun i x hi=>by simp[Cont.size]at hi⟩
 ·cases h

theorem beqBo_ok {a b:Bool}(h:beqBo a b=true):a=b:=by cases a<;>cases b<;>first|rfl|cases h
theorem nilB_ok {a b:Option Bool}(h:nilB a b=true):b=a∨b=none:=by
 cases b with
 |none=>exact .inr rfl
 |some b=>
  cases a with
  |none=>cases h
  |some a=>have:beqBo a b=true:=h;rw[beqBo_ok this];exact .inl rfl
theorem capP_ok {a b:Option Nat}(h:PAll (capP a b)):b=a∨b=none:=by
 cases b with
 |none=>exact .inr rfl
 |some b=>
  cases a with
  |none=>exact absurd h.1 id
  |some a=>obtain⟨rfl,_⟩:=h;exact .inl rfl

theorem matchO_ok {o o':HO}{ps:List Prop}(h:matchO σ dom o o'=some ps)(hp:PAll ps):
  (∃k k' qs,o=.blk k∧o'=.blk k'∧BOk k k'∧matchC σ dom 1000 k.c k'.c=some qs∧PAll qs)∨(∃s p,o=.iter s p∧o'=.iter s p)∨(∃l l' qs,o=.loop l∧o'=.loop l'∧matchT σ dom l.t l'.t=some qs∧PAll qs∧l'.st=l.st∧l'.pend=l.pend∧l'.n=l.n∧l'.ps=l.ps∧l'.as=l.as∧l'.bd=l.bd)∨
  (∃k l v,o=.que k l v∧o'=.que k l v)∨(∃m m' c s,o=.mit m c s∧o'=.mit m' c s∧aget σ m'=some m∧memN m' dom=true):=by
 unfold matchO at h
 split at h
 ·rename_i b b'
  rw[cond_eq_ite]at h
  split at h
  ·rename_i hc
   simp only[Bool.and_eq_true]at hc
   obtain⟨c1,c2,c3,c4⟩:=hc
   split at h
   ·rename_i p h1
    cases h
    obtain⟨e1,h2⟩:=hp
    obtain⟨e2,e3⟩:=h2.app
    exact .inl ⟨b,b',p,rfl,rfl,⟨(Nat.eq_of_beq_eq_true c1).symm,e1.symm,(beqBo_ok c3).symm,(beqBo_ok c2).symm,nilB_ok c4,capP_ok e2⟩,h1,e3⟩
   ·cases h
  ·cases h
 ·cases h
  obtain⟨rfl,rfl,_⟩:=hp
  exact .inr (.inl ⟨_,_,rfl,rfl⟩)
 ·split at h
  ·rename_i p h1
   cases h
   obtain⟨q1,q2,q3,q4,q5,q6,q7⟩:=hp
   exact .inr (.inr (.inl ⟨_,_,p,rfl,rfl,h1,q7,q1,q2,q3,q4,q5,q6⟩))
  ·cases h
 ·rw[cond_eq_ite]at h
  split at h
  ·rename_i hk
   cases h
   obtain⟨rfl,rfl,_⟩:=hp
   rw[beqK_ok hk]
   exact .inr (.inr (.inr (.inl ⟨_,_,_,rfl,rfl⟩)))
  ·cases h
 ·split at h
  ·rename_i i hi
   rw[cond_eq_ite]at h
   split at h
   ·rename_i hk
    rw[Bool.and_eq_true]at hk
    cases h
    obtain⟨rfl,rfl,_⟩:=hp
    have e:=Nat.eq_of_beq_eq_true hk.1
    subst e
    exact .inr (.inr (.inr (.inr ⟨_,_,_,_,rfl,rfl,hi,hk.2⟩)))
   ·cases h
  ·cases h
 ·cases h

theorem matchH_get {h:List (Nat×HO)}:∀{l:List (Nat×HO)} {ps:List Prop},matchH σ dom h l=some ps→PAll ps→∀j o',aget l j=some o'→∃i o qs,aget σ j=some i∧aget h i=some o∧matchO σ dom o o'=some qs∧PAll qs
 |[],ps,hm,hp,j,o',e=>by cases e
 |(k,u)::r,ps,hm,hp,j,o',e=>by
  simp only[matchH]at hm
  split at hm
  ·rename_i i hi
   split at hm
   ·rename_i o ho
    split at hm
    ·rename_i p q h1 h2
     cases hm
     obtain⟨hp1,hp2⟩:=hp.app
     simp only[aget]at e
     by_cases hk:k=j
     ·subst hk
      rw[beq_self,cond_true]at e;cases e
      exact⟨i,o,p,hi,ho,h1,hp1⟩
     ·rw[beq_ne hk,cond_false]at e
      exact matchH_get h2 hp2 j o' e
    ·cases hm
   ·cases hm
  ·cases hm

theorem matchT_get {T:List (Nat×AV)}:∀{l:List (Nat×AV)} {ps:List Prop},matchT σ dom T l=some ps→PAll ps→∀t v',aget l t=some v'→∃v qs,aget T t=some v∧matchV σ dom 1000 v v'=some qs∧PAll qs
 |[],ps,hm,hp,j,o',e=>by cases e
 |(k,u)::r,ps,hm,hp,j,o',e=>by
  simp only[matchT]at hm
  split at hm
  ·rename_i v hv
   split at hm
   ·rename_i p q h1 h2
    cases hm
    obtain⟨hp1,hp2⟩:=hp.app
    simp only[aget]at e
    by_cases hk:k=j
    ·subst hk
     rw[beq_self,cond_true]at e;cases e
     exact⟨v,p,hv,h1,hp1⟩
    ·rw[beq_ne hk,cond_false]at e
     exact matchT_get h2 hp2 j o' e
   ·cases hm
  ·cases hm

theorem keys_aget {α:Type}{k:Nat}:∀{l:List (Nat×α)},k∈keys l→∃v,aget l k=some v
 |[],h=>by simp[keys]at h
 |(j,u)::r,h=>by
  simp only[aget]
  by_cases e:j=k
  ·subst e;rw[beq_self];exact⟨u,rfl⟩
  ·rw[beq_ne e,cond_false]
   simp only[keys,List.mem_cons]at h
   exact keys_aget (h.resolve_left (fun h=>e h.symm))

theorem hasV_of {v:Nat}:∀{r:List (Nat×Nat)} {k:Nat},aget r k=some v→nodupV.hasV v r=true
 |[],k,h=>by cases h
 |(j,u)::r,k,h=>by
  simp only[aget]at h
  simp only[nodupV.hasV]
  by_cases e:j=k
  ·subst e;rw[beq_self,cond_true]at h;cases h;rw[beq_self];rfl
  ·rw[beq_ne e,cond_false]at h
   rw[hasV_of h];cases Nat.beq u v<;>rfl
theorem nodupV_ok:∀{σ:List (Nat×Nat)},nodupV σ=true→∀{i j v:Nat},aget σ i=some v→aget σ j=some v→i=j
 |[],_,i,j,v,h,_=>by cases h
 |(k,u)::r,hn,i,j,v,hi,hj=>by
  simp only[nodupV,cond_eq_ite]at hn
  split at hn
  ·cases hn
  ·rename_i hh
   simp only[aget]at hi hj
   by_cases e1:k=i<;>by_cases e2:k=j
   ·exact e1.symm.trans e2
   ·subst e1
    rw[beq_self,cond_true]at hi;cases hi
    rw[beq_ne e2,cond_false]at hj
    exact absurd (hasV_of hj) hh
   ·subst e2
    rw[beq_self,cond_true]at hj;cases hj
    rw[beq_ne e1,cond_false]at hi
    exact absurd (hasV_of hi) hh
   ·rw[beq_ne e1,cond_false]at hi
    rw[beq_ne e2,cond_false]at hj
    exact nodupV_ok hn hi hj

structure HKp (kp:List Nat)(w:World)(ρ:Nat→Option Nat)(h:Nat→Option HO)(w':World)(ρ':Nat→Option Nat)(h':Nat→Option HO):Prop where
 box:∀id o,id∈kp→h id=some o→o.box=true→∃o',h' id=some o'∧o'.box=true∧ρ' id=ρ id
 blk:∀id k,id∈kp→h id=some (.blk k)→∃k',h' id=some (.blk k')∧k'.bx=k.bx∧k.n≤k'.n∧
  (k'.n=k.n→k'.nil=k.nil∧k'.sz=k.sz∧(k'.cap=k.cap∨k'.cap=none)∧ρ' id=ρ id)
 sz:∀(b:Nat) (cs:Array Value) (ty:TypeId) (fz:Nat×Nat),w.heap[b]? =some (.cells cs ty fz)→∃cs' ty' fz',w'.heap[b]? =some (.cells cs' ty' fz')∧cs'.size=cs.size
 que:∀id k l v,id∈kp→h id=some (.que k l v)→∃k' l' v',h' id=some (.que k' l' v')∧v≤v'∧
  (v'=v→k'=k∧l'=l∧ρ' id=ρ id∧∀b,ρ id=some b→w'.heap[b]? =w.heap[b]?)
theorem HKeep.kp {kp:List Nat}{w w':World}{ρ ρ':Nat→Option Nat}{h h':Nat→Option HO}(hk:HKeep w ρ h w' ρ' h'):HKp kp w ρ h w' ρ' h':=
 ⟨fun id o _=>hk.box id o,fun id k _=>hk.blk id k,hk.sz,fun id k l v _=>hk.que id k l v⟩
theorem HKp.trans {kp:List Nat}{w w' w'':World}{ρ ρ' ρ'':Nat→Option Nat}{h h' h'':Nat→Option HO}(a:HKp kp w ρ h w' ρ' h')(b:HKp kp w' ρ' h' w'' ρ'' h''):HKp kp w ρ h w'' ρ'' h'' where
 box:=fun id o hid h1 h2=>by
  obtain⟨o',g1,g2,g3⟩:=a.box id o hid h1 h2
  obtain⟨o'',k1,k2,k3⟩:=b.box id o' hid g1 g2
  exact⟨o'',k1,k2,k3.trans g3⟩
 blk:=fun id k hid h1=>by
  obtain⟨k',g1,g2,g3,g4⟩:=a.blk id k hid h1
  obtain⟨k'',l1,l2,l3,l4⟩:=b.blk id k' hid g1
  refine⟨k'',l1,l2.trans g2,Nat.le_trans g3 l3,fun e=>?_⟩
  have e1:k'.n=k.n:=by omega
  obtain⟨p1,p2,p3,p4⟩:=g4 e1
  obtain⟨q1,q2,q3,q4⟩:=l4 (by omega)
  exact⟨q1.trans p1,q2.trans p2,by rcases q3 with q|q<;>rcases p3 with p|p<;>simp_all,q4.trans p4⟩
 sz:=fun b1 cs ty fz h1=>by
  obtain⟨cs1,ty1,fz1,g1,g2⟩:=a.sz b1 cs ty fz h1
  obtain⟨cs2,ty2,fz2,g3,g4⟩:=b.sz b1 cs1 ty1 fz1 g1
  exact⟨cs2,ty2,fz2,g3,g4.trans g2⟩
 que:=fun id k l v hid h1=>by
  obtain⟨k',l',v',g1,g2,g3⟩:=a.que id k l v hid h1
  obtain⟨k'',l'',v'',p1,p2,p3⟩:=b.que id k' l' v' hid g1
  refine⟨k'',l'',v'',p1,Nat.le_trans g2 p2,fun e=>?_⟩
  obtain⟨q1,q2,q3,q4⟩:=g3 (by omega)
  obtain⟨r1,r2,r3,r4⟩:=p3 (by omega)
  exact⟨r1.trans q1,r2.trans q2,r3.trans q3,fun b hb=>(r4 b (q3.trans hb)).trans (q4 b hb)⟩
theorem HKp.refl (kp:List Nat)(w:World)(ρ:Nat→Option Nat)(h:Nat→Option HO):HKp kp w ρ h w ρ h:=(HKeep.refl w ρ h).kp

theorem nilEq_ok {k k':Blk}(h:nilEq (.blk k) (.blk k')=true):k'.nil=k.nil:=by
 simp only[nilEq]at h
 split at h
 ·rename_i e1 e2;rw[e1,e2,beqBo_ok h]
 ·rename_i e1 e2;rw[e1,e2]
 ·cases h
theorem keepB_ok {S S':St}:∀{kp:List Nat},keepB σ S S' kp=true→∀id o,id∈kp→aget S.h id=some o→aget σ id=some id∧∃o',aget S'.h id=some o'∧nilEq o o'=true
 |[],h,id,o,hid,ho=>by simp at hid
 |i::r,h,id,o,hid,ho=>by
  simp only[keepB]at h
  split at h
  ·rename_i hn
   rcases List.mem_cons.1 hid with rfl|hid
   ·rw[hn]at ho;cases ho
   ·exact keepB_ok h id o hid ho
  ·rename_i o1 h1
   split at h
   ·rename_i j o' h2 h3
    rw[cond_eq_ite]at h
    split at h
    ·rename_i hc
     rw[Bool.and_eq_true]at hc
     rcases List.mem_cons.1 hid with rfl|hid
     ·rw[h1]at ho;cases ho
      exact⟨by rw[h2,Nat.eq_of_beq_eq_true hc.1],o',h3,hc.2⟩
     ·exact keepB_ok h id o hid ho
    ·cases h
   ·cases h

theorem ren_soundM {S S':St}{ps:List Prop}(h:renS σ S S'=some ps)(hp:PAll ps)(hm0:MRel G F ρ (aget S.h) w):S'.n=S.n∧∃ρ',MRel G F ρ' (aget S'.h) w∧Ext G F ρ w F ρ' w∧(∀tmps:Array Value,(∀t v,aget S.t t=some v→RelV w F ρ (aget S.h) v (tmps.getD t undef))→∀t v,aget S'.t t=some v→RelV w F ρ' (aget S'.h) v (tmps.getD t undef))∧∀kp,keepB σ S S' kp=true→HKp kp w ρ (aget S.h) w ρ' (aget S'.h):=by
 unfold renS at h
 split at h
 ·rename_i p q h1 h2
  rw[cond_eq_ite]at h
  split at h
  ·rename_i hc
   rw[Bool.and_eq_true]at hc
   cases h
   obtain⟨hp1,hp2⟩:=hp.app
   let ρ':Nat→Option Nat:=fun j=>cond (memN j (keys S'.h)) ((aget σ j).bind ρ) none
   have hρ:∀j i,memN j (keys S'.h)=true→aget σ j=some i→ρ' j=ρ i:=fun j i h1 h2=>by simp only[ρ',h1,h2,cond_true,Option.bind_some]
   have hinv:∀j b,ρ' j=some b→memN j (keys S'.h)=true∧∃i,aget σ j=some i∧ρ i=some b:=fun j b hb=>by
    simp only[ρ']at hb
    cases hm:memN j (keys S'.h)with
    |false=>rw[hm]at hb;cases hb
    |true=>
     rw[hm,cond_true]at hb
     cases hs:aget σ j with
     |none=>rw[hs]at hb;cases hb
     |some i=>rw[hs,Option.bind_some]at hb;exact⟨rfl,i,rfl,hb⟩
   have hσ:RenOk ρ ρ' (aget S.h) (aget S'.h) σ (keys S'.h):=fun j i hm hi=>by
    obtain⟨o',ho'⟩:=keys_aget (memN_iff.1 hm)
    obtain⟨i',o,qs,g1,g2,g3,g4⟩:=matchH_get h1 hp1 j o' ho'
    rw[hi]at g1;cases g1
    refine⟨hρ j i hm hi,fun k hk=>?_,fun o2 ho2=>?_⟩
    ·rw[g2]at hk;cases hk
     rcases matchO_ok g3 g4 with⟨k1,k',qs',e1,e2,e3,_⟩|⟨s,p,e1,e2⟩|⟨l,l',_,e1,e2,_⟩|⟨_,_,_,e1,e2⟩|⟨_,_,_,_,e1,e2,_⟩
     ·cases e1;exact⟨k',e2▸ho',e3⟩
     all_goals cases e1
    ·rw[g2]at ho2;cases ho2
     rcases matchO_ok g3 g4 with⟨k1,k',qs',e1,e2,e3,_⟩|⟨s,p,e1,e2⟩|⟨l,l',_,e1,e2,_⟩|⟨_,_,_,e1,e2⟩|⟨_,_,_,_,e1,e2,_⟩
     ·subst e1;subst e2;exact⟨_,ho',e3.bx,fun _ _ _ e=>by cases e⟩
     ·subst e1;subst e2;exact⟨_,ho',rfl,fun _ _ _ e=>by cases e⟩
     ·subst e1;subst e2;exact⟨_,ho',rfl,fun _ _ _ e=>by cases e⟩
     ·subst e1;subst e2;exact⟨_,ho',rfl,fun _ _ _ e=>rfl⟩
     ·subst e1;subst e2;exact⟨_,ho',rfl,fun _ _ _ e=>by cases e⟩
   have hext:Ext G F ρ w F ρ' w:=⟨IoEq.refl _,Nat.le_refl _,fun _ _ _=>rfl,fun _ _=>rfl,fun _ h=>h,fun _ h=>.inl h,fun j b hb=>by
    obtain⟨_,i,_,h⟩:=hinv j b hb;exact .inl ⟨i,h⟩⟩
   refine⟨Nat.eq_of_beq_eq_true hc.2,ρ',⟨fun j o' ho'=>?_,fun j b hb=>?_,fun i j b hi hj=>?_,fun j b hb=>?_,hm0.frz,hm0.glob⟩,hext,fun tmps htm t v' hv'=>?_,fun kp hkp=>?_⟩
   ·have hm:memN j (keys S'.h)=true:=memN_iff.2 (keys_of_aget ho')
    obtain⟨i,o,qs,g1,g2,g3,g4⟩:=matchH_get h1 hp1 j o' ho'
    have hO:=hm0.heap i o g2
    rcases matchO_ok g3 g4 with⟨k,k',qs',rfl,rfl,e3,e4,e5⟩|⟨s,p,rfl,rfl⟩|⟨l,l',qs',rfl,rfl,e4,e5,e6,e7,e8,e9,e10,e11⟩|⟨k,l,v,rfl,rfl⟩|⟨m,m',c,s,rfl,rfl,e1,e2⟩
    ·obtain⟨s1,s2⟩:=matchC_ok (w:=w) (F:=F) hσ e4 e5
     obtain⟨o1,o2⟩:=hO
     refine⟨by rw[s1,e3.n,e3.sz];exact o1,?_⟩
     rcases o2 with⟨z1,z2⟩|⟨b,z1,z2⟩
     ·exact .inl ⟨by rw[e3.n];exact z1,(hρ j i hm g1).trans z2⟩
     ·refine .inr ⟨b,(hρ j i hm g1).trans z1,⟨fun hnm=>?_,fun kk vk es ck e=>z2.mp kk vk es ck ((matchC_maps e4 e5).2 _ _ _ _ e),fun e=>z2.mu (by rw[← e3.mu];exact e),fun e=>z2.fr (by rw[← e3.mu];exact e)⟩⟩
      obtain⟨cs,ty,fz,y1,y2,y3,y4⟩:=z2.ex ((matchC_maps e4 e5).1 hnm)
      refine⟨cs,ty,fz,y1,y2,by rw[s1];exact y3,fun q hq=>?_⟩
      rw[s1]at hq
      obtain⟨x,x1,x2⟩:=y4 q hq
      exact⟨x,x1,s2 q x hq x2⟩
    ·obtain⟨b,z1,z2⟩:=hO
     exact⟨b,(hρ j i hm g1).trans z1,z2⟩
    ·obtain⟨b,z1,z2,r,z3,z4⟩:=hO
     refine⟨b,(hρ j i hm g1).trans z1,z2,r,z3,⟨by rw[e6];exact z4.st,by rw[e7];exact z4.pend,by rw[e8];exact z4.size,fun t v' hv'=>?_,by rw[e9];exact z4.ps,by rw[e10];exact z4.as,by rw[e11];exact z4.bd⟩⟩
     obtain⟨v,qs2,y1,y2,y3⟩:=matchT_get e4 e5 t v' hv'
     exact(match_sound hσ 1000).1 _ _ _ y2 y3 _ (z4.tmps t v y1)
    ·obtain⟨b,z1,z2⟩:=hO
     exact⟨b,(hρ j i hm g1).trans z1,z2⟩
    ·obtain⟨b,mb,z1,z2,z3,z4⟩:=hO
     refine⟨b,mb,(hρ j i hm g1).trans z1,z2,z3,?_⟩
     cases z4 with
     |imm _ _ hi=>cases hi
     |mp _ _ o hb hh hx=>
      obtain⟨r1,_,r3⟩:=hσ m' m e2 e1
      obtain⟨o',p1,p2,_⟩:=r3 o hh
      exact .mp _ _ o' (r1.trans hb) p1 (p2.trans hx)
   ·exact keys_aget (memN_iff.1 (hinv j b hb).1)
   ·obtain⟨_,i',hi1,hi2⟩:=hinv i b hi
    obtain⟨_,j',hj1,hj2⟩:=hinv j b hj
    have:=hm0.inj i' j' b hi2 hj2
    subst this
    exact nodupV_ok hc.1 hi1 hj1
   ·obtain⟨_,i,_,h⟩:=hinv j b hb
    exact hm0.lt i b h
   ·obtain⟨v,qs,g1,g2,g3⟩:=matchT_get h2 hp2 t v' hv'
    exact(match_sound hσ 1000).1 _ _ _ g2 g3 _ (htm t v g1)
   ·have hkeep:∀id o,id∈kp→aget S.h id=some o→aget σ id=some id∧∃o',aget S'.h id=some o'∧nilEq o o'=true:=fun id o hid ho=>keepB_ok hkp id o hid ho
    refine⟨fun id o hid ho hb=>?_,fun id k hid ho=>?_,fun b cs ty fz hb=>⟨cs,ty,fz,hb,rfl⟩,fun id k l v hid ho=>?_⟩
    ·obtain⟨p1,o',p2,_⟩:=hkeep id o hid ho
     have hm:memN id (keys S'.h)=true:=memN_iff.2 (keys_of_aget p2)
     obtain⟨r1,_,r3⟩:=hσ id id hm p1
     obtain⟨o2,r4,r5,_⟩:=r3 o ho
     exact⟨o2,r4,r5.trans hb,r1⟩
    ·obtain⟨p1,o',p2,p3⟩:=hkeep id _ hid ho
     have hm:memN id (keys S'.h)=true:=memN_iff.2 (keys_of_aget p2)
     obtain⟨r1,r2,_⟩:=hσ id id hm p1
     obtain⟨k',r4,r5⟩:=r2 k ho
     rw[p2]at r4;cases r4
     exact⟨k',p2,r5.bx,Nat.le_of_eq r5.n.symm,fun _=>⟨nilEq_ok p3,r5.sz,r5.cap,r1⟩⟩
    ·obtain⟨p1,o',p2,p3⟩:=hkeep id _ hid ho
     have hm:memN id (keys S'.h)=true:=memN_iff.2 (keys_of_aget p2)
     obtain⟨r1,_,r3⟩:=hσ id id hm p1
     obtain⟨o2,r4,_,r6⟩:=r3 _ ho
     have e:=r6 k l v rfl
     subst e
     exact⟨k,l,v,r4,Nat.le_refl _,fun _=>⟨rfl,rfl,r1,fun _ _=>rfl⟩⟩
  ·cases h
 ·cases h

theorem ren_sound {S S':St}{a:Act}{ps:List Prop}(h:renS σ S S'=some ps)(hp:PAll ps)(hr:RS G F ρ S a w):∃ρ',RS G F ρ' S' a w∧Ext G F ρ w F ρ' w∧∀kp,keepB σ S S' kp=true→HKp kp w ρ (aget S.h) w ρ' (aget S'.h):=by
 obtain⟨h1,ρ',h2,h3,h4,h5⟩:=ren_soundM h hp hr.mem
 exact⟨ρ',⟨hr.size.trans h1.symm,h4 a.tmps hr.tmps,h2,hr.defs.ext h3 rfl⟩,h3,h5⟩

end
end Go.Ab

/-
 Code, executed abstractly along a plan: the tree of its outcomes, with what must be shown on the way.
-/
set_option linter.unusedVariables false
set_option linter.unusedSimpArgs false
namespace Go.Ab
open Go

abbrev Hints:=List (Nat×(List Nat×List Nat))
def compC (P:Program)(hs:Hints):Code→Option XC
 |.skip=>some .skip
 |.region id ops drw=>match compXOs P ops ops.toList with
  |some xs=>match drw with
   |false=>some (.reg (64*(id+1)) xs ((aget hs id).getD ([],[])).2)
   |true=>some (.draw (64*(id+1)) xs (ops.toList.map depOf) ((aget hs id).getD ([],[])).1 ((aget hs id).getD ([],[])).2)
  |none=>none
 |.seq a b=>match compC P hs a,compC P hs b with
  |some x,some y=>some (.seq x y)
  |_,_=>none
 |.cond c a b=>match compX c,compC P hs a,compC P hs b with
  |some c,some x,some y=>some (.cond c x y)
  |_,_,_=>none
 |.block id a=>match compC P hs a with
  |some x=>some (.block id x)
  |none=>none
 |.loop a=>match compC P hs a with
  |some x=>some (.loop x)
  |none=>none
 |.exit id=>some (.exit id)
 |.ret=>some .ret
 |.rangeFunc g ps a b=>match compX g,compC P hs a,compC P hs b with
  |some g,some x,some y=>some (.rangeF g ps.toList x y)
  |_,_,_=>none
 |.scope a=>match compC P hs a with
  |some x=>some (.scope x)
  |none=>none
 |.label _=>some .skip
 |_=>some .bad
def cmOf (P:Program)(c:Code)(xc:XC):Prop:=∃hs,compC P hs c=some xc
structure Md where
 rid:Option Nat
 kp:List Nat
def Md.ks (m:Md):List Nat:=m.rid.toList++m.kp

mutual
inductive Pl where
 |nil
 |r (ds:Dirs) (p:Pl)
 |frz (t:Nat) (p:Pl)
 |gho (t id sz:Nat) (c:Cont) (p:Pl)
 |ren (σ:List (Nat×Nat)) (S:St) (p:Pl)
 |br (b:Bool) (p q:Pl)
 |tt (p:Pl)
 |ff (p:Pl)
 |cnd (p q:Pl)
 |lit (p:Pl)
 |lp (outs:Tree)
 |un (p:Pl)
inductive Tree where
 |leaf (e:Ex) (S:St) (p:Pl)
 |ob (p:Prop) (t:Tree)
 |br (b:Bool) (t u:Tree)
 |lp (a:XC) (S:St) (outs t:Tree)
end

def delL {α:Type}:List (Nat×α)→List Nat→List (Nat×α)
 |l,[]=>l
 |l,k::r=>delL (adel l k) r
def delS (S:St)(dead:List Nat):St:={S with t:=delL S.t dead}

def frzS (S:St)(t:Nat):Option (St×List Cd):=
 match aget S.t t with
 |some v=>match frzV (aget S.h) 60 v with
  |some (v',ids,cs)=>cond (Nat.ble (t+1) S.n) (some ({t:=aset S.t t v',h:=asets S.h (frzW (aget S.h) ids),n:=S.n},cs)) none
  |none=>none
 |none=>none
def ghoS (S:St)(t id sz:Nat)(c:Cont):Option St:=
 match aget S.t t with
 |some .nils=>cond (freshA S.h [id]&&Nat.beq c.size 0) (some {t:=aset S.t t (.full id 0),h:=aset S.h id (.blk {c,sz,n:=0,cap:=some 0,nil:=some true,mu:=true,bx:=false}),n:=S.n}) none
 |_=>none

def Tree.bindN (f:St→Pl→Option Tree):Tree→Option Tree
 |.leaf e S p=>match e with
  |.normal=>f S p
  |e=>some (.leaf e S p)
 |.ob p t=>match t.bindN f with
  |some t=>some (.ob p t)
  |none=>none
 |.br b t u=>match t.bindN f,u.bindN f with
  |some t,some u=>some (.br b t u)
  |_,_=>none
 |.lp a S outs t=>match t.bindN f with
  |some t=>some (.lp a S outs t)
  |none=>none
def Tree.catch (id:Nat):Tree→Tree
 |.leaf e S p=>match e with
  |.exit i=>.leaf (cond (Nat.beq i id) .normal (.exit i)) S p
  |e=>.leaf e S p
 |.ob p t=>.ob p (t.catch id)
 |.br b t u=>.br b (t.catch id) (u.catch id)
 |.lp a S outs t=>.lp a S outs (t.catch id)

def Tree.Sel:Tree→Ex→St→Pl→Prop
 |.leaf e S p,e',S',p'=>e=e'∧S=S'∧p=p'
 |.ob _ t,e,S,p=>t.Sel e S p
 |.br b t u,e,S,p=>(b=true∧t.Sel e S p)∨(b=false∧u.Sel e S p)
 |.lp _ _ _ t,e,S,p=>t.Sel e S p

section
variable (P:Program)(G:GL)(md:Md)

def DX (ds:List Deferred)(w:World)(ds':List Deferred):Prop:=∃new:List Nat,ds'=new.map markOf++ds∧∀r,r∈new→w.heap.size≤r
def RoOk (ρ:Nat→Option Nat)(H:Nat→Option HO)(ro:Option Nat):Prop:=
 match md.rid with
 |none=>ro=none
 |some id=>∃b o,ro=some b∧ρ id=some b∧H id=some o∧o.box=true
def Aft (F:Nat→Prop)(ρ:Nat→Option Nat)(H:Nat→Option HO)(w:World)(ds:List Deferred)(S':St)(a':Act)(w':World):Prop:=
 ∃F' ρ',RS G F' ρ' S' a' w'∧Ext G F ρ w F' ρ' w'∧HKp md.ks w ρ H w' ρ' (aget S'.h)∧DX ds w a'.defers
def WpX (xc:XC)(S:St)(Q:Ex→St→Prop):Prop:=
 ∀c,G.cm c xc→∀F ρ a w ro,RS G F ρ S a w→RoOk md ρ (aget S.h) ro→wpR P ro c (fun e a' w'=>∃S',Q e S'∧Aft G md F ρ (aget S.h) w a.defers S' a' w') a w

def Tree.all (Q:Ex→St→Pl→Prop):Tree→Prop
 |.leaf e S p=>Q e S p
 |.ob p t=>p∧t.all Q
 |.br b t u=>(b=true→t.all Q)∧(b=false→u.all Q)
 |.lp a S outs t=>WpX P G md (.loop a) S (fun e S'=>∃p,outs.Sel e S' p)∧t.all Q
end

section
variable {P:Program}{G:GL}{md:Md}

end
end Go.Ab

/-
 The outcomes of a tree are those of the code.
-/
set_option linter.unusedVariables false
set_option linter.unusedSimpArgs false
namespace Go.Ab
open Go

section
variable {P:Program}{G:GL}{md:Md}{hs:Hints}{dd:Dirs}{F:Nat→Prop}{ρ:Nat→Option Nat}{a:Act}{w:World}

theorem aget_adel {α:Type}(l:List (Nat×α))(k:Nat){t:Nat}{v:α}(h:aget (adel l k) t=some v):aget l t=some v:=by
 induction l with
 |nil=>cases h
 |cons p r ih=>
  obtain⟨j,u⟩:=p
  simp only[adel]at h
  simp only[aget]
  by_cases e:j=k
  ·subst e
   rw[beq_self,cond_true]at h
   have:=ih h
   by_cases e':j=t
   ·subst e'
    exfalso
    clear ih this
    induction r with
    |nil=>cases h
    |cons q r ih=>
     obtain⟨i,x⟩:=q
     simp only[adel]at h
     by_cases e2:i=j
     ·subst e2;rw[beq_self,cond_true]at h;exact ih h
     ·rw[beq_ne e2,cond_false]at h
      simp only[aget]at h
      rw[beq_ne e2,cond_false]at h
      exact ih h
   ·rw[beq_ne e',cond_false];exact this
  ·rw[beq_ne e,cond_false]at h
   simp only[aget]at h
   by_cases e':j=t
   ·subst e';rw[beq_self,cond_true]at h ⊢; exact h
   ·rw[beq_ne e',cond_false]at h ⊢; exact ih h

theorem aget_delL {α:Type}:∀(ks:List Nat) (l:List (Nat×α)) {t:Nat} {v:α},aget (delL l ks) t=some v→aget l t=some v
 |[],l,t,v,h=>h
 |k::r,l,t,v,h=>aget_adel l k (aget_delL r (adel l k) h)

theorem delS_rs {S:St}{dead:List Nat}(h:RS G F ρ S a w):RS G F ρ (delS S dead) a w:=
 ⟨h.size,fun t v hv=>h.tmps t v (aget_delL dead S.t hv),h.mem,h.defs⟩

theorem frzS_ok {S S':St}{t:Nat}{cs:List Cd}(h:frzS S t=some (S',cs))(hc:AllC (SpecQ P G) cs)(hr:RS G F ρ S a w):∃F',RS G F' ρ S' a w∧Ext G F ρ w F' ρ w∧HKeep w ρ (aget S.h) w ρ (aget S'.h):=by
 unfold frzS at h
 split at h
 ·rename_i v hv
  split at h
  ·rename_i v' ids cs' hz
   rw[cond_eq_ite]at h
   split at h
   ·rename_i hlt
    cases h
    obtain⟨F1,f1,f2,f3,f4,f5,f6⟩:=frzAll (look:=aget S.h) ids F (aget S.h) hr.mem (fun id k hk=>.inl hk)
    have hids:=(frz_ids 60).1 _ _ _ _ hz
    have hs:=(frz_sound (Sp:=SpecQ P G) hr.mem (fun _ _ h=>h) f2.keep 60).1 _ _ _ _ hz hc (fun id hid b hb=>f4 id hid (hids id hid) b hb)
    have hx:=hs _ (hr.tmps t v hv)
    refine⟨F1,⟨hr.size,fun u y hu=>?_,?_,hr.defs.ext f2 rfl⟩,f2,by simp only[aget_asets];exact f3⟩
    ·simp only[aget_asets]
     rw[aget_aset]at hu
     by_cases e:u=t
     ·subst e;rw[upd_same]at hu;cases hu;exact .imm _ _ hx
     ·rw[upd_other _ _ e]at hu
      exact(hr.tmps u y hu).mono (fun _ _=>rfl) f2.keep f3
    ·simp only[aget_asets];exact f1
   ·cases h
  ·cases h
 ·cases h

theorem ghoS_ok {S S':St}{t id sz:Nat}{c:Cont}(h:ghoS S t id sz c=some S')(hr:RS G F ρ S a w):RS G F ρ S' a w∧HKeep w ρ (aget S.h) w ρ (aget S'.h):=by
 unfold ghoS at h
 split at h
 ·rename_i hv
  rw[cond_eq_ite]at h
  split at h
  ·rename_i hc
   rw[Bool.and_eq_true]at hc
   cases h
   have hf:=freshA_ok hc.1 id (by simp)
   have hz:=Nat.eq_of_beq_eq_true hc.2
   obtain⟨m1,m2,m3⟩:=hr.mem.ghost (site:=id) (k:={c,sz,n:=0,cap:=some 0,nil:=some true,mu:=true,bx:=false}) hf rfl hz
   refine⟨⟨hr.size,fun u y hu=>?_,?_,hr.defs⟩,by simp only[aget_aset];exact m3⟩
   ·simp only[aget_aset]at hu ⊢
    by_cases e:u=t
    ·subst e
     rw[upd_same]at hu;cases hu
     have hx:=hr.tmps u _ hv
     cases hx with
     |imm _ _ hi=>
      generalize he:a.tmps.getD u undef=z at hi
      cases hi
      exact .full id 0 _ _ (upd_same _ _ _) (Nat.le_refl _) ⟨_,_,_,rfl⟩ (fun _=>.inl ⟨rfl,(fun e=>by cases e),(fun n e=>by cases e;rfl),rfl⟩)
    ·rw[upd_other _ _ e]at hu
     exact(hr.tmps u y hu).mono (fun _ _=>rfl) (fun _ h=>h) m3
   ·simp only[aget_aset];exact m1
  ·cases h
 ·cases h

theorem compXO_defer {ops:Array Oper}{o:Oper}{x:XO}(h:compXO P ops o=some x):∀c,o.op≠ .defer c:=by
 intro c hc
 unfold compXO at h
 split at h
 ·rename_i op g h1 h2
  rw[hc]at h1
  cases h1
 ·cases h

theorem compXOs_defer {ops:Array Oper}{xs:List XO}(h:compXOs P ops ops.toList=some xs):∀(i:Nat) (o:Oper),ops[i]? =some o→∀c,o.op≠ .defer c:=by
 intro i o ho
 have hlen:=compXOs_len h
 have hlt:i<xs.length:=by rw[hlen];simpa using(Array.getElem?_eq_some_iff.1 ho).1
 obtain⟨o',h1,h2⟩:=compXOs_get h (i:=i) (x:=xs[i]) (by rw[nth?_eq];exact List.getElem?_eq_getElem hlt)
 have:o'=o:=by
  have h1:ops[i]? =some o':=by simpa using h1
  rw[ho]at h1;cases h1;rfl
 subst this
 exact compXO_defer h2

theorem wpR_region {ro:Option Nat}{id:Nat}{ops:Array Oper}{R:Act→World→Prop}(hdef:∀(i:Nat) (o:Oper),ops[i]? =some o→∀c,o.op≠ .defer c)
  (h:wpOpsR P ops R (List.range ops.size) a w):wpR P ro (.region id ops false) (fun e a w=>e=.normal∧R a w) a w:=by
 intro b k cs hb
 obtain⟨a',w',h1,h2⟩:=wpOps_steps hdef _ a w h b k cs
 exact⟨.normal,a',w',⟨rfl,h1⟩,.head stepR_region h2⟩

theorem wpR_draw {ro:Option Nat}{id:Nat}{ops:Array Oper}{R:Act→World→Prop}(hm:P.follows .mixedOrders=true)(hdef:∀(i:Nat) (o:Oper),ops[i]? =some o→∀c,o.op≠ .defer c)
  (h:wpAnyR P ops R ops.size (Array.replicate ops.size false) a {w with drawn:=w.drawn+1}):wpR P ro (.region id ops true) (fun e a w=>e=.normal∧R a w) a w:=by
 intro b k cs hb
 have hops:wpOpsR P ops R (Region.schedule (P.follows .mixedOrders) ops (w.tape w.drawn (.order b.fn id))) a {w with drawn:=w.drawn+1}:=by
  simp only[Region.schedule,hm,Bool.true_or,if_true]
  exact wpAnyR_sound ops.size _ _ a _ h
 obtain⟨a',w',h1,h2⟩:=wpOps_steps hdef _ a _ hops b k cs
 exact⟨.normal,a',w',⟨rfl,h1⟩,.head stepR_region_draw h2⟩

theorem compC_region {xc:XC}{id:Nat}{ops:Array Oper}{drw:Bool}(h:compC P hs (.region id ops drw)=some xc):∃xs,compXOs P ops ops.toList=some xs∧
  ((drw=false∧xc=.reg (64*(id+1)) xs ((aget hs id).getD ([],[])).2)∨(drw=true∧xc=.draw (64*(id+1)) xs (ops.toList.map depOf) ((aget hs id).getD ([],[])).1 ((aget hs id).getD ([],[])).2)):=by
 simp only[compC]at h
 split at h
 ·rename_i xs hx
  cases drw
  ·cases h;exact⟨xs,hx,.inl ⟨rfl,rfl⟩⟩
  ·cases h;exact⟨xs,hx,.inr ⟨rfl,rfl⟩⟩
 ·cases h

theorem compC_reg {c:Code}{s:Nat}{xs:List XO}{dead:List Nat}(h:compC P hs c=some (.reg s xs dead)):∃id ops,c=.region id ops false∧compXOs P ops ops.toList=some xs:=by
 cases c with
 |region id ops drw=>
  obtain⟨xs',h1,⟨rfl,h2⟩|⟨rfl,h2⟩⟩:=compC_region h
  ·cases h2;exact⟨id,ops,rfl,h1⟩
  ·cases h2
 |_=>
  simp only[compC]at h
  first
   |(cases h;done)
   |(split at h<;>cases h)
theorem compC_draw {c:Code}{s:Nat}{xs:List XO}{dep:List (List Nat)}{ord dead:List Nat}(h:compC P hs c=some (.draw s xs dep ord dead)):∃id ops,c=.region id ops true∧compXOs P ops ops.toList=some xs∧ops.toList.map depOf=dep:=by
 cases c with
 |region id ops drw=>
  obtain⟨xs',h1,⟨rfl,h2⟩|⟨rfl,h2⟩⟩:=compC_region h
  ·cases h2
  ·cases h2;exact⟨id,ops,rfl,h1,rfl⟩
 |_=>
  simp only[compC]at h
  first
   |(cases h;done)
   |(split at h<;>cases h)
theorem compC_skip {c:Code}(h:compC P hs c=some .skip):c=.skip∨∃l,c=.label l:=by
 cases c with
 |skip=>exact .inl rfl
 |label l=>exact .inr ⟨l,rfl⟩
 |region id ops drw=>obtain⟨xs',h1,⟨rfl,h2⟩|⟨rfl,h2⟩⟩:=compC_region h<;>cases h2
 |_=>
  simp only[compC]at h
  first
   |(cases h;done)
   |(split at h<;>cases h)
theorem compC_ret {c:Code}(h:compC P hs c=some .ret):c=.ret:=by
 cases c with
 |ret=>rfl
 |region id ops drw=>obtain⟨xs',h1,⟨rfl,h2⟩|⟨rfl,h2⟩⟩:=compC_region h<;>cases h2
 |_=>
  simp only[compC]at h
  first
   |(cases h;done)
   |(split at h<;>cases h)
theorem compC_exit {c:Code}{id:Nat}(h:compC P hs c=some (.exit id)):c=.exit id:=by
 cases c with
 |exit i=>cases h;rfl
 |region id ops drw=>obtain⟨xs',h1,⟨rfl,h2⟩|⟨rfl,h2⟩⟩:=compC_region h<;>cases h2
 |_=>
  simp only[compC]at h
  first
   |(cases h;done)
   |(split at h<;>cases h)
theorem compC_seq {c:Code}{x y:XC}(h:compC P hs c=some (.seq x y)):∃a b,c=.seq a b∧compC P hs a=some x∧compC P hs b=some y:=by
 cases c with
 |seq a b=>
  simp only[compC]at h
  split at h
  ·rename_i h1 h2;cases h;exact⟨a,b,rfl,h1,h2⟩
  ·cases h
 |region id ops drw=>obtain⟨xs',h1,⟨rfl,h2⟩|⟨rfl,h2⟩⟩:=compC_region h<;>cases h2
 |_=>
  simp only[compC]at h
  first
   |(cases h;done)
   |(split at h<;>cases h)
theorem compC_cond {c:Code}{o:Opd}{x y:XC}(h:compC P hs c=some (.cond o x y)):∃X a b,c=.cond X a b∧compX X=some o∧compC P hs a=some x∧compC P hs b=some y:=by
 cases c with
 |cond X a b=>
  simp only[compC]at h
  split at h
  ·rename_i h1 h2 h3;cases h;exact⟨X,a,b,rfl,h1,h2,h3⟩
  ·cases h
 |region id ops drw=>obtain⟨xs',h1,⟨rfl,h2⟩|⟨rfl,h2⟩⟩:=compC_region h<;>cases h2
 |_=>
  simp only[compC]at h
  first
   |(cases h;done)
   |(split at h<;>cases h)
theorem compC_block {c:Code}{id:Nat}{x:XC}(h:compC P hs c=some (.block id x)):∃a,c=.block id a∧compC P hs a=some x:=by
 cases c with
 |block i a=>
  simp only[compC]at h
  split at h
  ·rename_i h1;cases h;exact⟨a,rfl,h1⟩
  ·cases h
 |region id ops drw=>obtain⟨xs',h1,⟨rfl,h2⟩|⟨rfl,h2⟩⟩:=compC_region h<;>cases h2
 |_=>
  simp only[compC]at h
  first
   |(cases h;done)
   |(split at h<;>cases h)
theorem compC_loop {c:Code}{x:XC}(h:compC P hs c=some (.loop x)):∃a,c=.loop a∧compC P hs a=some x:=by
 cases c with
 |loop a=>
  simp only[compC]at h
  split at h
  ·rename_i h1;cases h;exact⟨a,rfl,h1⟩
  ·cases h
 |region id ops drw=>obtain⟨xs',h1,⟨rfl,h2⟩|⟨rfl,h2⟩⟩:=compC_region h<;>cases h2
 |_=>
  simp only[compC]at h
  first
   |(cases h;done)
   |(split at h<;>cases h)

theorem cm_reg (hcm:G.cm=cmOf P){c:Code}{s:Nat}{xs:List XO}{dead:List Nat}(h:G.cm c (.reg s xs dead)):∃id ops,c=.region id ops false∧compXOs P ops ops.toList=some xs:=by
 rw[hcm]at h;obtain⟨hs,h⟩:=h;exact compC_reg h
theorem cm_draw (hcm:G.cm=cmOf P){c:Code}{s:Nat}{xs:List XO}{dep:List (List Nat)}{ord dead:List Nat}(h:G.cm c (.draw s xs dep ord dead)):∃id ops,c=.region id ops true∧compXOs P ops ops.toList=some xs∧ops.toList.map depOf=dep:=by
 rw[hcm]at h;obtain⟨hs,h⟩:=h;exact compC_draw h
theorem cm_skip (hcm:G.cm=cmOf P){c:Code}(h:G.cm c .skip):c=.skip∨∃l,c=.label l:=by rw[hcm]at h;obtain⟨hs,h⟩:=h;exact compC_skip h
theorem cm_ret (hcm:G.cm=cmOf P){c:Code}(h:G.cm c .ret):c=.ret:=by rw[hcm]at h;obtain⟨hs,h⟩:=h;exact compC_ret h
theorem cm_exit (hcm:G.cm=cmOf P){c:Code}{id:Nat}(h:G.cm c (.exit id)):c=.exit id:=by rw[hcm]at h;obtain⟨hs,h⟩:=h;exact compC_exit h
theorem cm_seq (hcm:G.cm=cmOf P){c:Code}{x y:XC}(h:G.cm c (.seq x y)):∃a b,c=.seq a b∧G.cm a x∧G.cm b y:=by
 rw[hcm]at h ⊢; obtain⟨hs,h⟩:=h;obtain⟨a,b,h1,h2,h3⟩:=compC_seq h;exact⟨a,b,h1,⟨hs,h2⟩,⟨hs,h3⟩⟩
theorem cm_cond (hcm:G.cm=cmOf P){c:Code}{o:Opd}{x y:XC}(h:G.cm c (.cond o x y)):∃X a b,c=.cond X a b∧compX X=some o∧G.cm a x∧G.cm b y:=by
 rw[hcm]at h ⊢; obtain⟨hs,h⟩:=h;obtain⟨X,a,b,h1,h2,h3,h4⟩:=compC_cond h;exact⟨X,a,b,h1,h2,⟨hs,h3⟩,⟨hs,h4⟩⟩
theorem cm_block (hcm:G.cm=cmOf P){c:Code}{id:Nat}{x:XC}(h:G.cm c (.block id x)):∃a,c=.block id a∧G.cm a x:=by
 rw[hcm]at h ⊢; obtain⟨hs,h⟩:=h;obtain⟨a,h1,h2⟩:=compC_block h;exact⟨a,h1,hs,h2⟩
theorem cm_loop (hcm:G.cm=cmOf P){c:Code}{x:XC}(h:G.cm c (.loop x)):∃a,c=.loop a∧G.cm a x:=by
 rw[hcm]at h ⊢; obtain⟨hs,h⟩:=h;obtain⟨a,h1,h2⟩:=compC_loop h;exact⟨a,h1,hs,h2⟩
theorem cm_rangeF (hcm:G.cm=cmOf P){c:Code}{o:Opd}{ps:List Nat}{x y:XC}(h:G.cm c (.rangeF o ps x y)):∃X qs a b,c=.rangeFunc X qs a b∧qs.toList=ps∧compX X=some o∧G.cm a x∧G.cm b y:=by
 rw[hcm]at h ⊢
 obtain⟨hs,h⟩:=h
 cases c with
 |rangeFunc g qs a b=>
  simp only[compC]at h
  split at h
  ·rename_i h1 h2 h3;cases h;exact⟨g,qs,a,b,rfl,rfl,h1,⟨hs,h2⟩,⟨hs,h3⟩⟩
  ·cases h
 |region id ops drw=>
  obtain⟨xs',h1,⟨rfl,h2⟩|⟨rfl,h2⟩⟩:=compC_region h<;>cases h2
 |_=>
  simp only[compC]at h
  first
   |(cases h;done)
   |(split at h<;>cases h)

theorem cm_scope (hcm:G.cm=cmOf P){c:Code}{x:XC}(h:G.cm c (.scope x)):∃a,c=.scope a∧G.cm a x:=by
 rw[hcm]at h ⊢
 obtain⟨hs,h⟩:=h
 cases c with
 |scope a=>
  simp only[compC]at h
  split at h
  ·rename_i h1;cases h;exact⟨a,rfl,hs,h1⟩
  ·cases h
 |region id ops drw=>
  obtain⟨xs',h1,⟨rfl,h2⟩|⟨rfl,h2⟩⟩:=compC_region h<;>cases h2
 |_=>
  simp only[compC]at h
  first
   |(cases h;done)
   |(split at h<;>cases h)

theorem DX.refl (ds:List Deferred)(w:World):DX ds w ds:=⟨[],rfl,fun r h=>by simp at h⟩
theorem DX.of_eq {ds ds':List Deferred}{w:World}(h:ds'=ds):DX ds w ds':=by subst h;exact DX.refl _ _
theorem DX.trans {ds ds' ds'':List Deferred}{w w':World}(h:DX ds w ds')(hs:w.heap.size≤w'.heap.size)(k:DX ds' w' ds''):DX ds w ds'':=by
 obtain⟨n1,rfl,h2⟩:=h
 obtain⟨n2,rfl,k2⟩:=k
 refine⟨n2++n1,by simp,fun r hr=>?_⟩
 rcases List.mem_append.1 hr with hr|hr
 ·exact Nat.le_trans hs (k2 r hr)
 ·exact h2 r hr

theorem RoOk.next {ρ':Nat→Option Nat}{H H':Nat→Option HO}{w':World}{ro:Option Nat}(h:RoOk md ρ H ro)(hk:HKp md.ks w ρ H w' ρ' H'):RoOk md ρ' H' ro:=by
 unfold RoOk at h ⊢
 cases e:md.rid with
 |none=>rw[e]at h;exact h
 |some id=>
  rw[e]at h
  obtain⟨b,o,h1,h2,h3,h4⟩:=h
  obtain⟨o',g1,g2,g3⟩:=hk.box id o (by simp[Md.ks,e]) h3 h4
  exact⟨b,o',h1,g3.trans h2,g1,g2⟩

theorem Aft.on {F':Nat→Prop}{ρ':Nat→Option Nat}{S S' S'':St}{a' a'':Act}{w' w'':World}{ds:List Deferred}(h2:Ext G F ρ w F' ρ' w')(h3:HKp md.ks w ρ (aget S.h) w' ρ' (aget S'.h))(h4:DX ds w a'.defers)
  (k:Aft G md F' ρ' (aget S'.h) w' a'.defers S'' a'' w''):Aft G md F ρ (aget S.h) w ds S'' a'' w'':=by
 obtain⟨F'',ρ'',q1,q2,q3,q4⟩:=k
 exact⟨F'',ρ'',q1,h2.trans q2,h3.trans q3,h4.trans h2.size q4⟩
theorem Aft.here {S:St}(hr:RS G F ρ S a w):Aft G md F ρ (aget S.h) w a.defers S a w:=⟨F,ρ,hr,Ext.refl _ _ _,HKp.refl _ _ _ _,DX.refl _ _⟩

theorem WpX.mono {xc:XC}{S:St}{Q Q':Ex→St→Prop}(h:WpX P G md xc S Q)(hq:∀e S,Q e S→Q' e S):WpX P G md xc S Q':=
 fun c hc F ρ a w ro hr hro=>(h c hc F ρ a w ro hr hro).mono fun e a' w' ⟨S',h1,h2⟩=>⟨S',hq _ _ h1,h2⟩

theorem cond_rel {S:St}{X:Operand}{o:Opd}{v:Bool}(hX:compX X=some o)(hv:o.ev G S.t=.bool v)(hr:RS G F ρ S a w):a.eval X=.bool v:=by
 have:=evOk_of (rt:=S.t) (a:=a) hr.mem hr.tmps X o hX
 rw[hv]at this
 exact this.bools

theorem WpX.pre {xc:XC}{S S':St}{Q:Ex→St→Prop}(hw:∀F ρ a w,RS G F ρ S a w→∃F' ρ',RS G F' ρ' S' a w∧Ext G F ρ w F' ρ' w∧HKp md.ks w ρ (aget S.h) w ρ' (aget S'.h))(h:WpX P G md xc S' Q):WpX P G md xc S Q:=by
 intro c hc F ρ a w ro hr hro
 obtain⟨F',ρ',h1,h2,h3⟩:=hw F ρ a w hr
 exact(h c hc F' ρ' a w ro h1 (hro.next h3)).mono fun e a' w' ⟨S'',q1,q2⟩=>⟨S'',q1,q2.on h2 h3 (DX.refl _ _)⟩

theorem wpX_draw (hcm:G.cm=cmOf P)(hm:P.follows .mixedOrders=true){s s':Nat}{xs:List XO}{dep:List (List Nat)}{ord dead:List Nat}{ds:Dirs}{S S':St}{es:List (Nat×Ent)}{cs:List Cd}(he:exEnts G ds xs s ord S=some (S',es,cs))
  (hB:drawB dep ord xs.length es=true) (hc:AllC (SpecQ P G) cs) {Q:Ex→St→Prop} (hQ:Q .normal (delS S' dead)):WpX P G md (.draw s' xs dep ord dead) S Q:=by
 intro c hcc F ρ a w ro hr hro
 obtain⟨id,ops,rfl,hx,hd⟩:=cm_draw hcm hcc
 refine(wpR_draw (R:=fun a' w'=>Aft G md F ρ (aget S.h) w a.defers (delS S' dead) a' w') hm (compXOs_defer hx) (draw_sound hx hd he hB hc hr fun a' w' F' ρ' q1 q2 q3 q4=>⟨F',ρ',delS_rs q1,q2,q3.kp,DX.of_eq q4⟩)).mono ?_
 rintro e a' w' ⟨rfl,h⟩
 exact⟨_,hQ,h⟩
theorem wpX_seq (hcm:G.cm=cmOf P){x y:XC}{S:St}{Q:Ex→St→Prop}(h:WpX P G md x S (fun e S'=>(e=.normal∧WpX P G md y S' Q)∨(e≠ .normal∧Q e S'))):WpX P G md (.seq x y) S Q:=by
 intro c hc F ρ a w ro hr hro
 obtain⟨ca,cb,rfl,hca,hcb⟩:=cm_seq hcm hc
 refine wpR_seq ((h ca hca F ρ a w ro hr hro).mono ?_)
 rintro e a' w' ⟨S',hq,F',ρ',q1,q2,q3,q4⟩
 rcases hq with⟨rfl,hy⟩|⟨hn,hQ⟩
 ·exact .inl ⟨rfl,(hy cb hcb F' ρ' a' w' ro q1 (hro.next q3)).mono fun e a'' w'' ⟨S'',r1,r2⟩=>⟨S'',r1,r2.on q2 q3 q4⟩⟩
 ·exact .inr ⟨hn,S',hQ,F',ρ',q1,q2,q3,q4⟩
theorem wpX_cond (hcm:G.cm=cmOf P){o:Opd}{x y:XC}{S:St}{v:Bool}{Q:Ex→St→Prop}(hv:o.ev G S.t=.bool v)(h1:v=true→WpX P G md x S Q)(h2:v=false→WpX P G md y S Q):WpX P G md (.cond o x y) S Q:=by
 intro c hc F ρ a w ro hr hro
 obtain⟨X,ca,cb,rfl,hX,hca,hcb⟩:=cm_cond hcm hc
 refine wpR_cond (cond_rel hX hv hr) ?_
 cases v with
 |true=>rw[if_pos rfl];exact h1 rfl ca hca F ρ a w ro hr hro
 |false=>rw[if_neg (by simp)];exact h2 rfl cb hcb F ρ a w ro hr hro
theorem wpX_block (hcm:G.cm=cmOf P){id:Nat}{x:XC}{S:St}{Q:Ex→St→Prop}(h:WpX P G md x S (fun e S'=>(e=.exit id∧Q .normal S')∨(e≠ .exit id∧Q e S'))):WpX P G md (.block id x) S Q:=by
 intro c hc F ρ a w ro hr hro
 obtain⟨ca,rfl,hca⟩:=cm_block hcm hc
 refine wpR_block ((h ca hca F ρ a w ro hr hro).mono ?_)
 rintro e a' w' ⟨S',⟨rfl,hQ⟩|⟨hn,hQ⟩,q⟩
 ·exact .inl ⟨rfl,S',hQ,q⟩
 ·exact .inr ⟨hn,S',hQ,q⟩
theorem wpX_scope (hcm:G.cm=cmOf P){x:XC}{S:St}{Q:Ex→St→Prop}(h:WpX P G md x S Q):WpX P G md (.scope x) S Q:=by
 intro c hc F ρ a w ro hr hro
 obtain⟨ca,rfl,hca⟩:=cm_scope hcm hc
 exact wpR_scope (h ca hca F ρ a w ro hr hro)
theorem wpX_loop1 (hcm:G.cm=cmOf P){x:XC}{S:St}{Q:Ex→St→Prop}(h:WpX P G md x S (fun e S'=>(e=.normal∧WpX P G md (.loop x) S' Q)∨(e≠ .normal∧Q e S'))):WpX P G md (.loop x) S Q:=by
 intro c hc F ρ a w ro hr hro
 obtain⟨ca,rfl,hca⟩:=cm_loop hcm hc
 refine wpR_loop1 ((h ca hca F ρ a w ro hr hro).mono ?_)
 rintro e a' w' ⟨S',hq,F',ρ',q1,q2,q3,q4⟩
 rcases hq with⟨rfl,hy⟩|⟨hn,hQ⟩
 ·exact .inl ⟨rfl,(hy _ hc F' ρ' a' w' ro q1 (hro.next q3)).mono fun e a'' w'' ⟨S'',r1,r2⟩=>⟨S'',r1,r2.on q2 q3 q4⟩⟩
 ·exact .inr ⟨hn,S',hQ,F',ρ',q1,q2,q3,q4⟩
theorem wpX_skip (hcm:G.cm=cmOf P){S:St}{Q:Ex→St→Prop}(h:Q .normal S):WpX P G md .skip S Q:=by
 intro c hc F ρ a w ro hr hro
 rcases cm_skip hcm hc with rfl|⟨l,rfl⟩
 ·exact wpR_skip ⟨S,h,.here hr⟩
 ·exact wpR_label ⟨S,h,.here hr⟩
theorem wpX_exit (hcm:G.cm=cmOf P){id:Nat}{S:St}{Q:Ex→St→Prop}(h:Q (.exit id) S):WpX P G md (.exit id) S Q:=by
 intro c hc F ρ a w ro hr hro;rw[cm_exit hcm hc];exact wpR_exit ⟨S,h,.here hr⟩
theorem wpX_ret (hcm:G.cm=cmOf P){S:St}{Q:Ex→St→Prop}(h:Q .ret S):WpX P G md .ret S Q:=by
 intro c hc F ρ a w ro hr hro;rw[cm_ret hcm hc];exact wpR_ret ⟨S,h,.here hr⟩

end
end Go.Ab

/-
 An object that nothing names is forgotten.
-/
set_option linter.unusedVariables false
set_option linter.unusedSimpArgs false
namespace Go.Ab
open Go

def gcH (i:Nat):List (Nat×HO)→Bool
 |[]=>true
 |(_,o)::r=>cond (memN i (refsH (some o))) false (gcH i r)
def gcS (ks:List Nat)(S:St)(i:Nat):Option St:=
 cond (memN i ks||(memN i (refsT S.t)|| !gcH i (adel S.h i))) none (some {S with h:=adel S.h i})

theorem memN_no {x:Nat}{l:List Nat}(h:memN x l=false):x∉l:=fun hm=>by rw[memN_iff.2 hm]at h;cases h
theorem refsL_get {i:Nat}:∀{l:List AV},i∉refsL l→∀j,i∉refsV (l.getD j .undef)
 |[],_,j=>by simp[refsV]
 |v::r,h,0=>by simp only[refsL,List.mem_append,not_or]at h;simpa using h.1
 |v::r,h,j+1=>by
  simp only[refsL,List.mem_append,not_or]at h
  have:=refsL_get h.2 j
  simpa using this
theorem refsT_gc {i:Nat}:∀{l:List (Nat×AV)},i∉refsT l→∀{t v},aget l t=some v→i∉refsV v
 |[],_,t,v,h=>by cases h
 |(k,x)::r,hn,t,v,h=>by
  simp only[refsT,List.mem_append,not_or]at hn
  simp only[aget,cond_eq_ite]at h
  split at h
  ·cases h;exact hn.1
  ·exact refsT_gc hn.2 h

section
variable {w:World}{F:Nat→Prop}{ρ:Nat→Option Nat}{h:Nat→Option HO}{i:Nat}
theorem FullOk.dropG {id len:Nat}{k:Blk}{x:Value}(e:id≠i)(hf:FullOk w ρ id len k x):FullOk w (upd ρ i none) id len k x:=by
 unfold FullOk at hf ⊢
 rw[upd_other _ _ e];exact hf
mutual
theorem RelV.dropG:∀{v:AV} {x:Value},RelV w F ρ h v x→i∉refsV v→RelV w F (upd ρ i none) (upd h i none) v x
 |_,_,.imm v x hi,_=>.imm v x hi
 |_,_,.ptr id off b o hb hh hx,hn=>by
  have e:id≠i:=fun e=>hn (by simp[refsV,e])
  exact .ptr id off b o (by rw[upd_other _ _ e];exact hb) (by rw[upd_other _ _ e];exact hh) hx
 |_,_,.ep id n off k x hh hle hp hx,hn=>by
  have e:id≠i:=fun e=>hn (by simp[refsV,e])
  exact .ep id n off k x (by rw[upd_other _ _ e];exact hh) hle hp (by rw[upd_other _ _ e];exact hx)
 |_,_,.full id len k x hh hle hp hx,hn=>by
  have e:id≠i:=fun e=>hn (by simp[refsV,e])
  exact .full id len k x (by rw[upd_other _ _ e];exact hh) hle hp (fun q=>(hx q).dropG e)
 |_,_,.sl id off len cap b k hb hh hx hlc,hn=>by
  have e:id≠i:=fun e=>hn (by simp[refsV,e])
  exact .sl id off len cap b k (by rw[upd_other _ _ e];exact hb) (by rw[upd_other _ _ e];exact hh) hx hlc
 |_,_,.fn f l1 l2 x1 x2 h1 h2,hn=>by
  simp only[refsV,List.mem_append,not_or]at hn
  exact .fn f l1 l2 x1 x2 (h1.dropG hn.1) (h2.dropG hn.2)
 |_,_,.agg l x hl,hn=>.agg l x (hl.dropG (by simpa only[refsV]using hn))
 |_,_,.tup l x hl,hn=>.tup l x (hl.dropG (by simpa only[refsV]using hn))
 |_,_,.may b v x hb hn',hn=>.may b v x (fun q=>(hb q).dropG (by simpa only[refsV]using hn)) hn'
 |_,_,.iface t v x hv,hn=>.iface t v x (hv.dropG (by simpa only[refsV]using hn))
 |_,_,.yld id b o hb hh hx,hn=>by
  have e:id≠i:=fun e=>hn (by simp[refsV,e])
  exact .yld id b o (by rw[upd_other _ _ e];exact hb) (by rw[upd_other _ _ e];exact hh) hx
 |_,_,.spare id a l c hf,hn=>.spare id a l c (hf.dropG (by simpa only[refsV]using hn))
 |_,_,.fullc id len cap a hf,hn=>.fullc id len cap a (hf.dropG (by simpa only[refsV]using hn))
 |_,_,.mp id b o hb hh hx,hn=>by
  have e:id≠i:=fun e=>hn (by simp[refsV,e])
  exact .mp id b o (by rw[upd_other _ _ e];exact hb) (by rw[upd_other _ _ e];exact hh) hx
 |_,_,.vw id n sz off len k x hh hle hp hx,hn=>by
  have e:id≠i:=fun e=>hn (by simp[refsV,e])
  refine .vw id n sz off len k x (by rw[upd_other _ _ e];exact hh) hle hp (fun q=>?_)
  obtain⟨q1,a,c,q2,q3⟩:=hx q
  exact⟨q1,a,c,q2.dropG e,q3⟩
 |_,_,.qu id v d k l v' x hh hle hp hx,hn=>by
  have e:id≠i:=fun e=>hn (by simp[refsV,e])
  exact .qu id v d k l v' x (by rw[upd_other _ _ e];exact hh) hle hp (fun q=>(hx q).mono (upd_other _ _ e) (fun _ _=>rfl))
 |_,_,.qe id v j k l v' x hh hle hp hx,hn=>by
  have e:id≠i:=fun e=>hn (by simp[refsV,e])
  exact .qe id v j k l v' x (by rw[upd_other _ _ e];exact hh) hle hp (fun q=>(hx q).mono (upd_other _ _ e) (fun _ _=>rfl))
theorem RelVs.dropG:∀{l:List AV} {xs:List Value},RelVs w F ρ h l xs→i∉refsL l→RelVs w F (upd ρ i none) (upd h i none) l xs
 |_,_,.nil,_=>.nil
 |_,_,.cons v l x xs h hs,hn=>by
  simp only[refsL,List.mem_append,not_or]at hn
  exact .cons v l x xs (h.dropG hn.1) (hs.dropG hn.2)
end
theorem RelO.dropG {G:GL}{id:Nat}{o:HO}(e:id≠i)(hn:i∉refsH (some o))(hr:RelO G w F ρ h id o):RelO G w F (upd ρ i none) (upd h i none) id o:=by
 cases o with
 |blk k=>
  obtain⟨h0,h1⟩:=hr
  refine⟨h0,?_⟩
  rw[upd_other _ _ e]
  rcases h1 with h1|⟨b,h1,h2⟩
  ·exact .inl h1
  ·refine .inr ⟨b,h1,⟨fun hnm=>?_,h2.mp,h2.mu,h2.fr⟩⟩
   obtain⟨cs,ty,fz,g1,g2,g3,g4⟩:=h2.ex hnm
   refine⟨cs,ty,fz,g1,g2,g3,fun j hj=>?_⟩
   obtain⟨x,p1,p2,p3⟩:=g4 j hj
   refine⟨x,p1,?_,p3⟩
   cases hc:k.c with
   |cells l=>
    rw[hc]at p2
    have hn':i∉refsL l:=by simpa only[refsH,hc,refsC]using hn
    exact RelV.dropG p2 (refsL_get hn' j)
   |_=>rw[hc]at p2;exact p2
 |iter s pos=>
  obtain⟨b,h1,h2,h3⟩:=hr
  exact⟨b,by rw[upd_other _ _ e];exact h1,h2,h3⟩
 |loop l=>
  obtain⟨b,h1,h2,r,h3,h4⟩:=hr
  exact⟨b,by rw[upd_other _ _ e];exact h1,h2,r,h3,⟨h4.st,h4.pend,h4.size,fun t v q=>(h4.tmps t v q).dropG (refsT_gc (by simpa only[refsH]using hn) q),h4.ps,h4.as,h4.bd⟩⟩
 |que k l v=>
  obtain⟨b,h1,h2⟩:=hr
  exact⟨b,by rw[upd_other _ _ e];exact h1,h2⟩
 |mit m ck seen=>
  obtain⟨b,mb,h1,h2,h3,h4⟩:=hr
  exact⟨b,mb,by rw[upd_other _ _ e];exact h1,h2,h3,h4.dropG (by simpa[refsH,refsV]using hn)⟩
end
theorem aget_adel2 {α:Type}(i:Nat):∀(l:List (Nat×α)),aget (adel l i)=upd (aget l) i none
 |[]=>by funext j;simp[adel,aget,upd]
 |(k,x)::r=>by
  funext j
  have ih:=congrFun (aget_adel2 i r) j
  by_cases e:k=i
  ·subst e
   simp only[adel,Nat.beq_refl,cond_true]
   rw[ih]
   by_cases e2:j=k
   ·subst e2;rw[upd_same,upd_same]
   ·rw[upd_other _ _ e2,upd_other _ _ e2]
    simp only[aget,beq_ne (Ne.symm e2),cond_false]
  ·simp only[adel,beq_ne e,cond_false,aget]
   rw[ih]
   by_cases e2:k=j
   ·subst e2
    rw[upd_other _ _ e,upd_other _ _ e]
   ·simp only[beq_ne e2,cond_false]
    by_cases e3:j=i
    ·subst e3;rw[upd_same,upd_same]
    ·rw[upd_other _ _ e3,upd_other _ _ e3]
     simp only[aget,beq_ne e2,cond_false]
theorem gcH_ok {i:Nat}:∀{h:List (Nat×HO)},gcH i h=true→∀{id o},aget h id=some o→i∉refsH (some o)
 |[],_,id,o,e=>by cases e
 |(k,x)::r,hg,id,o,e=>by
  simp only[gcH,cond_eq_ite]at hg
  split at hg
  ·cases hg
  ·rename_i hm
   simp only[aget,cond_eq_ite]at e
   split at e
   ·cases e;exact memN_no (by simpa using hm)
   ·exact gcH_ok hg e
theorem gcS_ok {G:GL}{F:Nat→Prop}{ρ:Nat→Option Nat}{a:Act}{w:World}{ks:List Nat}{S S':St}{i:Nat}(h:gcS ks S i=some S')(hr:RS G F ρ S a w):
  ∃ρ',RS G F ρ' S' a w∧Ext G F ρ w F ρ' w∧HKp ks w ρ (aget S.h) w ρ' (aget S'.h):=by
 unfold gcS at h
 rw[cond_eq_ite]at h
 split at h
 ·cases h
 ·rename_i hc
  cases h
  simp only[Bool.or_eq_true,not_or,Bool.not_eq_true,Bool.not_eq_true',Bool.not_eq_false]at hc
  obtain⟨hk,ht,hg⟩:=hc
  have hk:=memN_no hk
  have ht:=memN_no ht
  have hH:aget (adel S.h i)=upd (aget S.h) i none:=aget_adel2 i S.h
  have hE:Ext G F ρ w F (upd ρ i none) w:=⟨IoEq.refl _,Nat.le_refl _,fun _ _ _=>rfl,fun _ _=>rfl,fun _ h=>h,fun _ h=>.inl h,fun id b hb=>by
   by_cases e:id=i
   ·subst e;rw[upd_same]at hb;cases hb
   ·rw[upd_other _ _ e]at hb;exact .inl ⟨id,hb⟩⟩
  refine⟨upd ρ i none,⟨hr.size,fun t v e=>?_,?_,hr.defs.ext hE rfl⟩,hE,?_⟩
  ·simp only[hH]
   exact(hr.tmps t v e).dropG (refsT_gc ht e)
  ·simp only[hH]
   have hm:=hr.mem
   refine⟨fun id o e=>?_,fun id b hb=>?_,fun x y b hx hy=>?_,fun id b hb=>?_,hm.frz,hm.glob⟩
   ·have e':=e
    by_cases e2:id=i
    ·subst e2;rw[upd_same]at e;cases e
    ·rw[upd_other _ _ e2]at e
     exact(hm.heap id o e).dropG e2 (gcH_ok hg (by rw[hH];exact e'))
   ·by_cases e:id=i
    ·subst e;rw[upd_same]at hb;cases hb
    ·rw[upd_other _ _ e]at hb ⊢; exact hm.dom id b hb
   ·have ex:x≠i:=fun e=>by subst e;rw[upd_same]at hx;cases hx
    have ey:y≠i:=fun e=>by subst e;rw[upd_same]at hy;cases hy
    rw[upd_other _ _ ex]at hx
    rw[upd_other _ _ ey]at hy
    exact hm.inj x y b hx hy
   ·by_cases e:id=i
    ·subst e;rw[upd_same]at hb;cases hb
    ·rw[upd_other _ _ e]at hb;exact hm.lt id b hb
  ·simp only[hH]
   refine⟨fun id o hid h1 h2=>?_,fun id k hid h1=>?_,fun b cs ty fz hb=>⟨cs,ty,fz,hb,rfl⟩,fun id k l v hid h1=>?_⟩
   ·have e:id≠i:=fun e=>hk (e▸hid)
    exact⟨o,by rw[upd_other _ _ e];exact h1,h2,upd_other _ _ e⟩
   ·have e:id≠i:=fun e=>hk (e▸hid)
    exact⟨k,by rw[upd_other _ _ e];exact h1,rfl,Nat.le_refl _,fun _=>⟨rfl,rfl,.inl rfl,upd_other _ _ e⟩⟩
   ·have e:id≠i:=fun e=>hk (e▸hid)
    exact⟨k,l,v,by rw[upd_other _ _ e];exact h1,Nat.le_refl _,fun _=>⟨rfl,rfl,upd_other _ _ e,fun _ _=>rfl⟩⟩
end Go.Ab

/-
 A function's contract from its body: results, marks among the deferred calls.
-/
set_option linter.unusedVariables false
set_option linter.unusedSimpArgs false
namespace Go.Ab
open Go

section
variable {P:Program}{G:GL}{hs:Hints}{F:Nat→Prop}{ρ:Nat→Option Nat}{H:Nat→Option HO}{w w':World}

theorem MRel.off (hm:MRel G F ρ H w){r:Nat}(hn:∀id,ρ id≠some r)(hF:¬ F r)(hr:∀cs ty fz,w.heap[r]? ≠some (.cells cs ty fz))(ho:∀b,b≠r→w'.heap[b]? =w.heap[b]?)(hsz:w'.heap.size=w.heap.size):
  MRel G F ρ H w'∧HKeep w ρ H w' ρ H:=by
 have hk:HKeep w ρ H w' ρ H:=⟨fun id o h1 h2=>⟨o,h1,h2,rfl⟩,fun id k h1=>⟨k,h1,rfl,Nat.le_refl _,fun _=>⟨rfl,rfl,.inl rfl,rfl⟩⟩,fun b cs ty fz hb=>⟨cs,ty,fz,by
  rw[ho b (fun e=>hr cs ty fz (e▸hb))];exact hb,rfl⟩,fun id k l v h1=>⟨k,l,v,h1,Nat.le_refl _,fun _=>⟨rfl,rfl,rfl,fun b hb=>ho b (fun e=>hn id (e▸hb))⟩⟩⟩
 have hw:∀b,F b→w'.heap[b]? =w.heap[b]? :=fun b hb=>ho b (fun e=>hF (e▸hb))
 exact⟨⟨fun id o h=>(hm.heap id o h).mono hw (fun _ h=>h) hk rfl (fun b hb=>⟨ho b (fun e=>hn id (e▸hb)),fun h=>h⟩),hm.dom,hm.inj,fun id b hb=>by rw[hsz];exact hm.lt id b hb,fun b hb=>by rw[hsz];exact hm.frz b hb,hm.glob.mono hw (fun _ h=>h)⟩,hk⟩

theorem run_take {r:Nat}(h:w.heap[r]? =some (.deferred (some []))):∃w',(Instr.takeDeferred r).run P w=.ok [] w'∧(∀b,b≠r→w'.heap[b]? =w.heap[b]?)∧w'.heap.size=w.heap.size∧IoEq G w w':=by
 refine⟨{w with heap:=w.heap.setIfInBounds r (.deferred none)},?_,fun b hb=>?_,by simp,⟨rfl,rfl,fun _=>⟨rfl,Nat.le_refl _⟩⟩⟩
 ·simp[Instr.takeDeferred,getObj,setObj,Sem.run,h]
 ·simp[Array.getElem?_setIfInBounds_ne (Ne.symm hb)]

theorem unwind_marks {cs:List Frame}:∀(rs:List Nat) (fr:Frame) (w:World),fr.mode=.returning→fr.defers=rs.map markOf→rs.Nodup→(∀r,r∈rs→w.heap[r]? =some (.deferred (some []))∧(∀id,ρ id≠some r)∧¬ F r)→MRel G F ρ H w→
  ∃w',Steps P (lone fr cs w) (lone {fr with defers:=[]} cs w')∧MRel G F ρ H w'∧HKeep w ρ H w' ρ H∧(∀b,b∉rs→w'.heap[b]? =w.heap[b]?)∧w'.heap.size=w.heap.size∧IoEq G w w'
 |[],fr,w,hmode,hd,hnd,hr,hm=>by
  refine⟨w,?_,hm,HKeep.refl _ _ _,fun _ _=>rfl,rfl,IoEq.refl _⟩
  have:fr={fr with defers:=[]}:=by
   cases fr;simp at hd ⊢; exact hd
  rw[← this];exact Steps.refl _ _
 |r::rs,fr,w,hmode,hd,hnd,hr,hm=>by
  obtain⟨h1,h2,h3⟩:=hr r (by simp)
  obtain⟨w1,t1,t2,t3,t4⟩:=run_take (G:=G) (P:=P) h1
  have hstep:=step_collected (P:=P) (cs:=cs) (fr:=fr) (w:=w) (w':=w1) (d:=markOf r) (r:=r) (ds:=rs.map markOf) (calls:=[]) (by rw[hmode];simp) hd rfl t1
  obtain⟨m1,m2⟩:=hm.off h2 h3 (fun cs ty fz e=>by rw[h1]at e;cases e) t2 t3
  rw[List.nodup_cons]at hnd
  obtain⟨w2,s1,s2,s3,s4,s5,s6⟩:=unwind_marks rs {fr with defers:=[]++rs.map markOf} w1 hmode (by simp) hnd.2 (fun q hq=>by
   obtain⟨g1,g2,g3⟩:=hr q (by simp[hq])
   exact⟨(t2 q (fun e=>hnd.1 (e▸hq))).trans g1,g2,g3⟩) m1
  refine⟨w2,.head hstep s1,s2,m2.trans s3,fun b hb=>?_,s5.trans t3,t4.trans s6⟩
  simp only[List.mem_cons,not_or]at hb
  rw[s4 b hb.2,t2 b hb.1]

def entryT:Nat→List AV→List (Nat×AV)
 |_,[]=>[]
 |i,v::r=>(i,v)::entryT (i+1) r
def entryS (args:List AV)(n:Nat):St:={t:=entryT 0 args,h:=[],n:=n}
def entryH (args:List AV)(h:List (Nat×HO))(n:Nat):St:={t:=entryT 0 args,h:=h,n:=n}
def isNil {α:Type}:List α→Bool
 |[]=>true
 |_=>false
def hsL:List Blk→Nat→List (Nat×HO)
 |[],_=>[]
 |b::r,j=>(j,.blk b)::hsL r (j+1)
def retS (vals:List AV)(hs:List Blk):St:={t:=entryT 0 vals,h:=hsL hs 0,n:=vals.length}
def retV:List AV→AV
 |[v]=>v
 |vs=>.tup vs
abbrev RT:=Nat×Option (Option Nat)
def resT (P:Program):List ResultVar→Option (List RT)
 |[]=>some []
 |.tmp t::r=>match resT P r with
  |some l=>some ((t,none)::l)
  |none=>none
 |.cell a T::r=>match aggOf P T,resT P r with
  |some g,some l=>some ((a,some g)::l)
  |_,_=>none
def cdB:Cd→Bool
 |.b x=>x
 |.ge g want c=>cond (negIf (!want) g) (cdB c) true
 |.eqn x y=>Nat.beq x y
 |_=>false
def cdsB:List Cd→Bool
 |[]=>true
 |c::r=>cond (cdB c) (cdsB r) false

def res1 (S:St):RT→Option AV
 |(t,none)=>aget S.t t
 |(a,some g)=>match aget S.t a with
  |some v=>match opLoad (aget S.h) .plain g v with
   |some D=>cond (cdsB D.cs&&isNil D.ws) (some D.v) none
   |none=>none
  |none=>none
def resV (S:St):List RT→Option (List AV)
 |[]=>some []
 |r::l=>match res1 S r,resV S l with
  |some v,some vs=>some (v::vs)
  |_,_=>none
def resS (S:St)(vals:List AV):St:={t:=entryT 0 vals,h:=S.h,n:=vals.length}

theorem hsL_get:∀(hs:List Blk) (j i:Nat),aget (hsL hs j) i=if j≤i then hsH hs (i-j)else none
 |[],j,i=>by simp[hsL,aget,hsH]
 |b::r,j,i=>by
  simp only[hsL,aget]
  by_cases e:j=i
  ·subst e;rw[beq_self,cond_true];simp[hsH]
  ·rw[beq_ne e,cond_false,hsL_get r (j+1) i]
   by_cases h:j≤i
   ·obtain⟨d,hd⟩:∃d,i-j=d+1:=⟨i-j-1,by omega⟩
    rw[if_pos h,if_pos (by omega),hd,show i-(j+1)=d by omega]
    simp[hsH]
   ·rw[if_neg h,if_neg (by omega)]
theorem hsL_eq (hs:List Blk):aget (hsL hs 0)=hsH hs:=by
 funext i;rw[hsL_get];simp

theorem entryT_get:∀{args:List AV} {xs:List Value} {i t:Nat} {v:AV},RelVs w F ρ H args xs→aget (entryT i args) t=some v→∃x,i≤t∧xs[t-i]? =some x∧RelV w F ρ H v x
 |[],xs,i,t,v,h,hv=>by cases hv
 |u::r,xs,i,t,v,h,hv=>by
  cases h with
  |cons _ _ x xs hx hxs=>
   simp only[entryT,aget]at hv
   by_cases e:i=t
   ·subst e;rw[beq_self,cond_true]at hv;cases hv;exact⟨x,Nat.le_refl _,by simp,hx⟩
   ·rw[beq_ne e,cond_false]at hv
    obtain⟨y,h1,h2,h3⟩:=entryT_get hxs hv
    obtain⟨d,hd⟩:∃d,t-i=d+1:=⟨t-i-1,by omega⟩
    refine⟨y,by omega,?_,h3⟩
    have hd':t-(i+1)=d:=by omega
    rw[hd']at h2
    rw[hd]
    simpa using h2

theorem entry_rs {args:List AV}{h:List (Nat×HO)}{n:Nat}{vs:Array Value}(hm:MRel G F ρ (aget h) w)(hv:RelVs w F ρ (aget h) args vs.toList)(hle:args.length≤n):
  RS G F ρ (entryH args h n) {tmps:=vs++Array.replicate (n-vs.size) undef,defers:=[]} w:=by
 have hl:args.length=vs.size:=by have:=hv.len;simpa using this
 refine⟨by simp[entryH];omega,fun t v h=>?_,?_,⟨[],by simp,rfl,fun r hr=>by simp at hr⟩⟩
 ·obtain⟨x,h1,h2,h3⟩:=entryT_get hv h
  have h2:vs[t]? =some x:=by simpa using h2
  have hlt:=(Array.getElem?_eq_some_iff.1 h2).1
  have:(vs++Array.replicate (n-vs.size) undef).getD t undef=x:=by
   rw[Array.getD_eq_getD_getElem?,Array.getElem?_append_left hlt,h2];rfl
  rw[this];exact h3
 ·exact hm

def unT:List Value→Value
 |[v]=>v
 |vs=>.tuple vs.toArray

theorem cdB_ok {Sp:SpT}:∀{c:Cd},cdB c=true→c.holds Sp
 |.b x,h=>h
 |.ge g want c,h=>by
  simp only[cdB,cond_eq_ite]at h
  intro hg
  rw[if_pos hg]at h
  exact cdB_ok h
 |.eqn x y,h=>Nat.eq_of_beq_eq_true h
 |.get _ _ _,h=>by cases h
 |.call _ _ _ _,h=>by cases h
 |.callD _ _ _ _ _ _,h=>by cases h
theorem cdsB_ok {Sp:SpT}:∀{cs:List Cd},cdsB cs=true→AllC Sp cs
 |[],h=>trivial
 |c::r,h=>by
  simp only[cdsB,cond_eq_ite]at h
  split at h
  ·rename_i hc;exact⟨cdB_ok hc,cdsB_ok h⟩
  ·cases h

theorem isNil_ok {α:Type}{l:List α}(h:isNil l=true):l=[]:=by cases l<;>first|rfl|cases h
theorem loadAt_var {t:TypeId}{x:Value}{v:Value}{w':World}(h:(Instr.loadAt t x).run P w=.ok v w'):((do loadVar t (← asAddr x):Sem Value)).run P w=.ok v w':=by
 unfold Instr.loadAt Instr.sureAddr at h
 cases x with
 |pointer a=>
  cases a with
  |some a=>simpa[asAddr]using h
  |none=>simp at h
 |_=>simp at h

theorem run_results {fn:Func}{rts:List RT}(h:resT P fn.results.toList=some rts){S:St}{vals:List AV}(hv:resV S rts=some vals)(hm:MRel G F ρ (aget S.h) w){tmps:Array Value}(ht:∀t v,aget S.t t=some v→RelV w F ρ (aget S.h) v (tmps.getD t undef)):
  ∃xs,(results fn tmps).run P w=.ok (unT xs) w∧RelVs w F ρ (aget S.h) vals xs:=by
 have key:∀(g:ResultVar→Sem Value),(∀t,g (.tmp t)=pure (tmps.getD t undef))→(∀a t,g (.cell a t)=(do loadVar t (← asAddr (tmps.getD a undef))))→∀(l:List ResultVar) (rts:List RT) (vals:List AV),resT P l=some rts→resV S rts=some vals→
   ∃xs,(l.mapM g).run P w=.ok xs w∧RelVs w F ρ (aget S.h) vals xs:=by
  intro g hg hg2 l
  induction l with
  |nil=>intro rts vals h hv;cases h;cases hv;exact⟨[],by simp,.nil⟩
  |cons x r ih=>
   intro rts vals h hv
   cases x with
   |tmp t=>
    simp only[resT]at h
    split at h
    ·rename_i l' hl'
     cases h
     simp only[resV]at hv
     split at hv
     ·rename_i v vs h1 h2
      cases hv
      obtain⟨xs,g1,g2⟩:=ih _ _ hl' h2
      refine⟨tmps.getD t undef::xs,?_,.cons _ _ _ _ (ht t v h1) g2⟩
      simp only[List.mapM_cons,hg,Sem.run_bind,Sem.run_pure,Result.andThen_ok,g1]
     ·cases hv
    ·cases h
   |cell a t=>
    simp only[resT]at h
    split at h
    ·rename_i ag l' hag hl'
     cases h
     simp only[resV]at hv
     split at hv
     ·rename_i v vs h1 h2
      cases hv
      obtain⟨xs,g1,g2⟩:=ih _ _ hl' h2
      simp only[res1]at h1
      split at h1
      ·rename_i pv hpv
       split at h1
       ·rename_i D hD
        rw[cond_eq_ite]at h1
        split at h1
        ·rename_i hc
         rw[Bool.and_eq_true]at hc
         cases h1
         have hsame:=opLoad_same (P:=P) hm (fun _ _ h=>h) (ht a pv hpv) (aggOf_ok hag) hD (cdsB_ok (Sp:=SpecQ P G) hc.1)
         obtain⟨y,e1,e2,_⟩:=hsame
         refine⟨y::xs,?_,.cons _ _ _ _ e2 g2⟩
         simp only[List.mapM_cons,hg2,Sem.run_bind]
         have:=loadAt_var e1
         simp only[Sem.run_bind]at this
         rw[this]
         simp only[Result.andThen_ok,g1,Sem.run_pure]
        ·cases h1
       ·cases h1
      ·cases h1
     ·cases hv
    ·cases h
 have fin:∀(g:ResultVar→Sem Value),(∀t,g (.tmp t)=pure (tmps.getD t undef))→(∀a t,g (.cell a t)=(do loadVar t (← asAddr (tmps.getD a undef))))→
   ∃xs,((do let vs ← fn.results.mapM g;pure (if h:vs.size=1 then vs[0]else .tuple vs)):Sem Value).run P w=.ok (unT xs) w∧RelVs w F ρ (aget S.h) vals xs:=by
  intro g h1 h2
  obtain⟨xs,g1,g2⟩:=key g h1 h2 _ _ _ h hv
  refine⟨xs,?_,g2⟩
  rw[Array.mapM_eq_mapM_toList]
  simp only[Sem.run_bind,Sem.run_map]
  rw[g1]
  simp only[Result.andThen_ok,Sem.run_pure]
  match xs with
  |[]=>rfl
  |[v]=>rfl
  |v::u::r=>simp;rfl
 unfold results
 exact fin _ (fun t=>rfl) (fun a t=>rfl)

theorem callFunc_enter {f:FuncId}{fn:Func}{c:Code}(hf:P.funcs[f]? =some fn)(hname:(fn.name=="runtime.NumGoroutine")=false)(hb:fn.body=some c)(args:Array Value)(w:World):
  (callFunc f args).run P w=.ok (.enter f args) w:=by
 have h1:fn.name≠"runtime.NumGoroutine":=by simpa using hname
 simp[callFunc,hf,h1,hb]

theorem retV_rel {vals:List AV}{xs:List Value}(h:RelVs w F ρ H vals xs):RelV w F ρ H (retV vals) (unT xs):=by
 cases h with
 |nil=>exact .tup _ _ .nil
 |cons v l x xs hv hs=>
  cases hs with
  |nil=>exact hv
  |cons u l y ys hu hs=>exact .tup _ _ (by simpa using RelVs.cons _ _ _ _ hv (.cons _ _ _ _ hu hs))

theorem body_core (hcm:G.cm=cmOf P){md:Md}(hrid:md.rid=none){f:FuncId}{fn:Func}{c:Code}{xc:XC}{args:List AV}{h:List (Nat×HO)}{rts:List RT}{R:St→Prop}
  (hf:P.funcs[f]? =some fn) (hname:(fn.name=="runtime.NumGoroutine")=false) (hb:fn.body=some c)
  (hc:cmOf P c xc) (hres:resT P fn.results.toList=some rts) (hle:Nat.ble args.length fn.ntmps=true)
  (hW:WpX P G md xc (entryH args h fn.ntmps) (fun e S'=>(e=.ret∨e=.normal)∧R S')) (hR:∀S',R S'→∃vals,resV S' rts=some vals)
  {vs:Array Value} (hm:MRel G F ρ (aget h) w) (hv:RelVs w F ρ (aget h) args vs.toList) {K:Value→World→Prop}
  (hK:∀(S':St) (vals:List AV) (xs:List Value) (w2:World) (F':Nat→Prop) (ρ':Nat→Option Nat),R S'→resV S' rts=some vals→MRel G F' ρ' (aget S'.h) w2→RelVs w2 F' ρ' (aget S'.h) vals xs→Ext G F ρ w F' ρ' w2→HKp md.ks w ρ (aget h) w2 ρ' (aget S'.h)→
   K (unT xs) w2):CallOk P f vs w K:=by
 refine .inr (.inl ⟨f,vs,w,callFunc_enter hf hname hb vs w,fun cs=>?_⟩)
 let a0:Act:={tmps:=vs++Array.replicate (fn.ntmps-vs.size) undef,defers:=[]}
 have hr0:RS G F ρ (entryH args h fn.ntmps) a0 w:=entry_rs hm hv (Nat.le_of_ble_eq_true hle)
 let b:Frame:={(default:Frame)with fn:=f,kind:=.normal,roundOf:=none}
 have henter:Frame.enter P f vs .normal=b.atR a0 [.code c]:=by simp[Frame.enter,Frame.atR,hf,hb,b,a0]
 obtain⟨e,a',w',⟨S',⟨he,hRS⟩,F',ρ',hr',hx',hkp,hdx⟩,harr⟩:=hW c (by rw[hcm];exact hc) F ρ a0 w none hr0 (by unfold RoOk;rw[hrid]) b [] cs rfl
 rw[← henter]at harr
 -- the frame on its way out
 have hgo:∃fr:Frame,fr.mode=.returning∧fr.defers=a'.defers∧fr.tmps=a'.tmps∧fr.kind=.normal∧fr.fn=f∧Steps P (lone (Frame.enter P f vs .normal) cs w) (lone fr cs w'):=by
  rcases he with rfl|rfl
  ·obtain⟨todo,hs⟩:=harr
   exact⟨{b.atR a' (.code .ret::todo)with mode:=.returning},rfl,rfl,rfl,rfl,rfl,hs.trans (.one (stepR_ret rfl))⟩
  ·exact⟨{b.atR a' []with mode:=.returning},rfl,rfl,rfl,rfl,rfl,Steps.trans harr (.one (stepR_end rfl))⟩
 obtain⟨fr,g1,g2,g3,g4,g5,g6⟩:=hgo
 obtain⟨rs,d1,d2,d3⟩:=hr'.defs
 obtain⟨new,n1,n2⟩:=hdx
 have hnew:∀r,r∈rs→w.heap.size≤r:=fun r hr=>by
  have h1:markOf r∈a'.defers:=by rw[d2];exact List.mem_map.2 ⟨r,hr,rfl⟩
  rw[n1]at h1
  simp only[a0,List.append_nil]at h1
  obtain⟨r',hr',e⟩:=List.mem_map.1 h1
  have:r'=r:=by simp only[markOf]at e;injection e with e1 e2;injection e1
  exact this▸n2 r' hr'
 obtain⟨w2,s1,s2,s3,s4,s5,s6⟩:=unwind_marks (cs:=cs) rs fr w' g1 (g2.trans d2) d1 d3 hr'.mem
 have hx2:Ext G F ρ w F' ρ' w2:=by
  refine⟨hx'.io.trans s6,by rw[s5];exact hx'.size,fun b hb hn=>?_,fun b hb=>?_,hx'.keep,hx'.more,hx'.im⟩
  ·rw[s4 b (fun hm=>by have:=hnew b hm;omega)];exact hx'.same b hb hn
  ·rw[s4 b (fun hm=>(d3 b hm).2.2 (hx'.keep b hb))];exact hx'.frz b hb
 have ht2:∀t v,aget S'.t t=some v→RelV w2 F' ρ' (aget S'.h) v (a'.tmps.getD t undef):=fun t v ht=>(hr'.tmps t v ht).mono (fun b hb=>s4 b (fun hm=>(d3 b hm).2.2 hb)) (fun _ h=>h) s3
 obtain⟨vals,hvals⟩:=hR S' hRS
 obtain⟨xs,e1,e2⟩:=run_results (fn:=fn) hres hvals s2 ht2
 refine⟨.returned _,w2,{fr with defers:=[]},⟨_,rfl,hK S' vals xs w2 F' ρ' hRS hvals s2 e2 hx2 (hkp.trans s3.kp)⟩,g6.trans s1,g5,g1,rfl,g4,fn,?_,?_⟩
 ·rw[g5];exact hf
 ·show(results fn fr.tmps).run P w2=_
  rw[g3];exact e1

theorem entryT_tmps {vals:List AV}{xs:List Value}(h:RelVs w F ρ H vals xs):∀t v,aget (entryT 0 vals) t=some v→RelV w F ρ H v (xs.toArray.getD t undef):=fun t v hv=>by
 obtain⟨x,_,h2,h3⟩:=entryT_get h hv
 have h2:xs[t]? =some x:=by simpa using h2
 rw[Array.getD_eq_getD_getElem?]
 simp[h2];exact h3
theorem vals_of_entryT {tmps:Array Value}:∀{vals:List AV} {i:Nat},(∀t v,aget (entryT i vals) t=some v→RelV w F ρ H v (tmps.getD t undef))→RelVs w F ρ H vals ((List.range' i vals.length).map fun t=>tmps.getD t undef)
 |[],i,h=>.nil
 |v::r,i,h=>by
  simp only[List.length_cons,List.range'_succ,List.map_cons]
  refine .cons _ _ _ _ (h i v (by simp[entryT,aget,beq_self])) (vals_of_entryT fun t u hu=>h t u ?_)
  have hne:i≠t:=fun e=>by
   subst e
   have key:∀(l:List AV) (j:Nat),i<j→aget (entryT j l) i=none:=by
    intro l
    induction l with
    |nil=>intro j _;rfl
    |cons a l ih=>intro j hj;simp only[entryT,aget];rw[beq_ne (by omega),cond_false];exact ih _ (by omega)
   rw[key r (i+1) (by omega)]at hu;cases hu
  simp only[entryT,aget];rw[beq_ne hne,cond_false];exact hu
theorem range_getD {xs:List Value}{n:Nat}(h:xs.length=n):(List.range' 0 n).map (fun t=>xs.toArray.getD t undef)=xs:=by
 subst h
 apply List.ext_getElem
 ·simp
 ·intro i h1 h2
  have h3:i<xs.length:=by simpa using h2
  simp[Array.getD_eq_getD_getElem?,h3]

theorem spec_of_body (hcm:G.cm=cmOf P){f:FuncId}{fn:Func}{c:Code}{xc:XC}{args vals:List AV}{blks:List Blk}{rts:List RT}(hf:P.funcs[f]? =some fn)(hname:(fn.name=="runtime.NumGoroutine")=false)(hb:fn.body=some c)
  (hc:cmOf P c xc) (hres:resT P fn.results.toList=some rts) (hle:Nat.ble args.length fn.ntmps=true)
  (hW:WpX P G ⟨none,[]⟩ xc (entryS args fn.ntmps) (fun e S'=>(e=.ret∨e=.normal)∧∃vs σ ps,resV S' rts=some vs∧renS σ (resS S' vs) (retS vals blks)=some ps∧PAll ps)):
  SpecP P G f args (retV vals) blks:=by
 intro F w vs hm hv
 refine body_core hcm (md:=⟨none,[]⟩) (h:=[]) rfl hf hname hb hc hres hle hW (fun S' ⟨vs,σ,ps,h,_⟩=>⟨vs,h⟩) (hm:MRel G F noR (aget []) w) hv.toVs ?_
 rintro S' vals' xs w2 F' ρ' ⟨vs',σ,ps,hv',hren,hps⟩ hvals q1 q2 q3 q4
 rw[hvals]at hv';cases hv'
 obtain⟨hn,ρ2,r1,r2,r3,_⟩:=ren_soundM (S:=resS S' vals') hren hps q1
 refine⟨F',ρ2,?_,q3.trans r2,?_⟩
 ·simp only[retS,hsL_eq]at r1;exact r1
 ·have h1:=r3 xs.toArray (entryT_tmps q2)
  simp only[retS,hsL_eq]at h1
  have h2:=vals_of_entryT h1
  have hlen:xs.length=vals.length:=by
   have:=q2.len
   simp only[retS,resS]at hn
   omega
  rw[range_getD hlen]at h2
  exact retV_rel h2

theorem HKp.all {h:List (Nat×HO)}{w':World}{ρ':Nat→Option Nat}{h':Nat→Option HO}(hk:HKp (keys h) w ρ (aget h) w' ρ' h'):HKeep w ρ (aget h) w' ρ' h':=
 ⟨fun id o h1=>hk.box id o (key_aget.2 ⟨o,h1⟩) h1,fun id k h1=>hk.blk id k (key_aget.2 ⟨_,h1⟩) h1,hk.sz,fun id k l v h1=>hk.que id k l v (key_aget.2 ⟨_,h1⟩) h1⟩

def retH (vals:List AV)(h ws:List (Nat×HO)):St:={t:=entryT 0 vals,h:=asets h ws,n:=vals.length}

theorem specD_of_body (hcm:G.cm=cmOf P){f:FuncId}{fn:Func}{c:Code}{xc:XC}{args vals:List AV}{h ws:List (Nat×HO)}{al:List Nat}{rts:List RT}(hf:P.funcs[f]? =some fn)(hname:(fn.name=="runtime.NumGoroutine")=false)(hb:fn.body=some c)
  (hc:cmOf P c xc) (hres:resT P fn.results.toList=some rts) (hle:Nat.ble args.length fn.ntmps=true)
  (hW:WpX P G ⟨none,keys h⟩ xc (entryH args h fn.ntmps) (fun e S'=>(e=.ret∨e=.normal)∧∃vs σ ps,resV S' rts=some vs∧renS σ (resS S' vs) (retH vals h ws)=some ps∧PAll ps∧keepB σ (resS S' vs) (retH vals h ws) (keys h)=true)):
  SpecD P G (.fn f [] []) args h (retV vals) ws al:=by
 intro F ρ w vs hm hv
 refine body_core hcm (md:=⟨none,keys h⟩) (h:=h) rfl hf hname hb hc hres hle hW (fun S' ⟨vs,σ,ps,h,_⟩=>⟨vs,h⟩) hm hv ?_
 rintro S' vals' xs w2 F' ρ' ⟨vs',σ,ps,hv',hren,hps,hkeep⟩ hvals q1 q2 q3 q4
 rw[hvals]at hv';cases hv'
 obtain⟨hn,ρ2,r1,r2,r3,r4⟩:=ren_soundM (S:=resS S' vals') hren hps q1
 have hk2:=q4.trans (r4 _ hkeep)
 simp only[retH,aget_asets]at r1 r3 hk2
 refine⟨F',ρ2,r1,q3.trans r2,hk2.all,?_⟩
 have h2:=vals_of_entryT (r3 xs.toArray (entryT_tmps q2))
 have hlen:xs.length=vals.length:=by
  have:=q2.len
  simp only[retH,resS]at hn
  omega
 rw[range_getD hlen]at h2
 exact retV_rel h2

end
end Go.Ab

/-
 Code run on abstract values, by a function: no plan, every choice decided, loops unrolled, calls run too.
-/
set_option linter.unusedVariables false
set_option linter.unusedSimpArgs false
namespace Go.Ab
open Go

abbrev TB:=Nat→List (Nat×HO)→AV→List AV→Option Delta

def cdC:Cd→Bool
 |.callD _ _ _ _ _ _=>true
 |c=>cdB c
def cdsC:List Cd→Bool
 |[]=>true
 |c::r=>cond (cdC c) (cdsC r) false
def chkE (op:XOp)(cs:List Cd):Bool:=
 match op with
 |.call _ _=>cdsC cs
 |.callv _ _=>cdsC cs
 |.inv _ _ _=>cdsC cs
 |_=>cdsB cs

def nextC:Nat→List Nat→Nat
 |m,[]=>m
 |m,i::r=>nextC (cond (Nat.ble m i) (i+1) m) r
def addW (c0:Nat)(wr:List Nat):List (Nat×HO)→List Nat
 |[]=>wr
 |(i,_)::r=>addW c0 (cond (Nat.ble c0 i) wr (cond (memN i wr) wr (i::wr))) r

structure EvS where
 S:St
 c:Nat
 wr:List Nat

def exOpsE (G:GL)(tb:TB)(c0:Nat):List XO→EvS→Option EvS
 |[],s=>some s
 |x::r,s=>match runG G s.c (aget s.S.h) x .auto (.tab true tb) (gvOf s.S.t x.guard) (readT s.S.t x.op.opds)with
  |some D=>cond (okDst x.dst s.S.n&&(freshA s.S.h D.al&&chkE x.op D.cs)) (exOpsE G tb c0 r ⟨putS s.S x.dst D,nextC s.c D.al,addW c0 s.wr D.ws⟩) none
  |none=>none

def opdT:List Opd→List Nat
 |[]=>[]
 |.t n::r=>n::opdT r
 |_::r=>opdT r
def apartT (x y:XO):Bool:=
 noneIn (optL x.dst) (opdT y.op.opds++(gL y.guard++optL y.dst))&&noneIn (optL y.dst) (opdT x.op.opds++gL x.guard)
def apartH (e f:Ent):Bool:=
 noneIn (keys e.D.ws) (keys f.rh++(f.D.al++keys f.D.ws))&&noneIn (keys f.D.ws) (keys e.rh++e.D.al)
def apartJ (xs:List XO)(x:XO)(j:Nat):Bool:=
 match nth? xs j with
 |some y=>apartT x y
 |none=>false
def pairT (dep:List (List Nat))(tbl:List (Nat×List Nat))(xs:List XO)(i:Nat)(x:XO):List Nat→Bool
 |[]=>true
 |j::r=> !Nat.beq i j&&(!memN j (depN dep i)&&((memN i (tbN tbl j)||apartJ xs x j)&&pairT dep tbl xs i x r))
def pairTo (dep:List (List Nat))(tbl:List (Nat×List Nat))(xs:List XO)(i:Nat)(r:List Nat):Bool:=
 match nth? xs i with
 |some x=>pairT dep tbl xs i x r
 |none=>false
def pairsT (dep:List (List Nat))(tbl:List (Nat×List Nat))(xs:List XO):List Nat→Bool
 |[]=>true
 |i::r=> !memN i (depN dep i)&&(pairTo dep tbl xs i r&&pairsT dep tbl xs r)
def drawT (xs:List XO)(dep:List (List Nat))(ord:List Nat):Bool:=
 Nat.beq ord.length xs.length&&(allMem ord xs.length&&(depB xs.length dep&&(allLt xs.length ord&&pairsT dep (ancTab dep ord []) xs ord)))
def quietE (e:Ent):Bool:=isNil e.D.ws&&(isNil e.rh&&isNil e.D.al)
def pairHE (tbl:List (Nat×List Nat))(i:Nat)(e:Ent):List (Nat×Ent)→Bool
 |[]=>true
 |(j,f)::r=>((isNil e.D.ws&&isNil f.D.ws)||(memN i (tbN tbl j)||apartH e f))&&pairHE tbl i e r
def pairsHE (tbl:List (Nat×List Nat)):List (Nat×Ent)→Bool
 |[]=>true
 |(i,e)::r=>(quietE e||pairHE tbl i e r)&&pairsHE tbl r

def exEntsE (G:GL)(tb:TB)(c0:Nat)(xs:List XO):List Nat→EvS→Option (EvS×List (Nat×Ent))
 |[],s=>some (s,[])
 |i::r,s=>match nth? xs i with
  |some x=>match mkEnt G s.S x s.c (.auto,.tab true tb)with
   |some e=>cond (chkE x.op e.D.cs) (match exEntsE G tb c0 xs r ⟨putS s.S x.dst e.D,nextC s.c e.D.al,addW c0 s.wr e.D.ws⟩with
    |some (s',es)=>some (s',(i,e)::es)
    |none=>none) none
   |none=>none
  |none=>none

def Ex.isN:Ex→Bool
 |.normal=>true
 |_=>false
def pendX:Option Ex→Option Ex
 |none=>some .normal
 |some .normal=>none
 |some e=>some e

def ridB (h:List (Nat×HO)):Option Nat→Bool
 |none=>true
 |some l0=>match aget h l0 with
  |some (.loop _)=>true
  |_=>false
def evC (G:GL)(tb:TB)(rid:Option Nat)(c0:Nat):Nat→XC→EvS→Option (Ex×EvS)
 |0,_,_=>none
 |n+1,xc,s=>match xc with
  |.skip=>some (.normal,s)
  |.bad=>none
  |.scope a=>evC G tb rid c0 n a s
  |.exit id=>some (.exit id,s)
  |.ret=>some (.ret,s)
  |.reg _ xs dead=>match exOpsE G tb c0 xs s with
   |some s'=>some (.normal,⟨delS s'.S dead,s'.c,s'.wr⟩)
   |none=>none
  |.draw _ xs dep ord dead=>cond (drawT xs dep ord) (match exEntsE G tb c0 xs ord s with
   |some (s',es)=>cond (pairsHE (ancTab dep ord []) es) (some (.normal,⟨delS s'.S dead,s'.c,s'.wr⟩)) none
   |none=>none) none
  |.seq a b=>match evC G tb rid c0 n a s with
   |some (e,s')=>match e with
    |.normal=>evC G tb rid c0 n b s'
    |e=>some (e,s')
   |none=>none
  |.cond c a b=>match c.ev G s.S.t with
   |.bool v=>match v with
    |true=>evC G tb rid c0 n a s
    |false=>evC G tb rid c0 n b s
   |_=>none
  |.block id a=>match evC G tb rid c0 n a s with
   |some (e,s')=>match e with
    |.exit i=>some (cond (Nat.beq i id) .normal (.exit i),s')
    |e=>some (e,s')
   |none=>none
  |.loop a=>match evC G tb rid c0 n a s with
   |some (e,s')=>match e with
    |.normal=>evC G tb rid c0 n (.loop a) s'
    |e=>some (e,s')
   |none=>none
  |.rangeF g ps as bd=>match g.ev G s.S.t with
   |.fn f a cp=>cond (ridB s.S.h rid)
    (cond (freshA s.S.h [s.c]) (match opCallD (s.c+1) (aget (aset s.S.h s.c (.loop ⟨0,none,s.S.t,s.S.n,ps,as,bd⟩))) tb (.fn f [] []) (a++[.yld s.c]++cp)with
     |some D=>cond (freshA (aset s.S.h s.c (.loop ⟨0,none,s.S.t,s.S.n,ps,as,bd⟩)) D.al&&cdsC D.cs) (match aget (asets (aset s.S.h s.c (.loop ⟨0,none,s.S.t,s.S.n,ps,as,bd⟩)) D.ws) s.c with
      |some (.loop l2)=>match pendX l2.pend with
       |some e=>cond (Nat.beq l2.st 1) none (some (e,⟨{s.S with h:=aset (asets (aset s.S.h s.c (.loop ⟨0,none,s.S.t,s.S.n,ps,as,bd⟩)) D.ws) s.c (.loop {l2 with st:=3})},nextC (s.c+1) D.al,addW c0 s.wr ((s.c,.loop l2)::D.ws)⟩))
       |none=>none
      |_=>none) none
     |none=>none) none) none
   |_=>none

structure FnE where
 n:Nat
 rts:List RT
 xc:XC

def wsOf (h0:List Nat)(c0:Nat)(wr:List Nat):List (Nat×HO)→List (Nat×HO)
 |[]=>[]
 |(i,o)::r=>cond (cond (memN i h0) (cond (Nat.ble c0 i) true (memN i wr)) true) ((i,o)::wsOf h0 c0 wr r) (wsOf h0 c0 wr r)
def alOf (h0:List Nat):List (Nat×HO)→List Nat
 |[]=>[]
 |(i,_)::r=>cond (memN i h0) (alOf h0 r) (i::alOf h0 r)
def finE (h0:List Nat)(c0:Nat)(s:EvS)(vals:List AV):Option Delta:=
 let r:=refsL vals++h0
 let h:=readF (aget s.S.h) (reachW (aget s.S.h) 1000000 r [])
 cond (allIn r (keys h)&&closedH (keys h) h) (some {v:=retV vals,ws:=wsOf h0 c0 s.wr h,al:=alOf h0 h,cs:=[]}) none
def setPs:List (Nat×AV)→List Nat→List AV→List (Nat×AV)
 |t,p::ps,v::vs=>setPs (aset t p v) ps vs
 |t,_,_=>t
def allLtP (n:Nat):List Nat→Bool
 |[]=>true
 |p::r=>cond (Nat.ble (p+1) n) (allLtP n r) false

end Go.Ab

/-
 What the function finds is what the code does.
-/
set_option linter.unusedVariables false
set_option linter.unusedSimpArgs false
namespace Go.Ab
open Go

section
variable {P:Program}{G:GL}{md:Md}{F:Nat→Prop}{ρ:Nat→Option Nat}{a:Act}{w:World}{ops:Array Oper}{tb:TB}

def TBok (P:Program)(G:GL)(tb:TB):Prop:=∀c h cv args D,tb c h cv args=some D→D.cs=[]∧SpecD P G cv args h D.v D.ws D.al

theorem stripC_C {Sp:SpT}:∀{rt:List (Nat×AV)} {cs:List Cd},cdsC (stripC rt cs)=true→AllC Sp cs→AllC Sp (stripC rt cs)
 |[],cs,h,hc=>hc
 |(_,v)::r,cs,h,hc=>by
  have key:∀cs',cdsC (stripB v cs')=true→cdsC cs'=true∧(AllC Sp cs'→AllC Sp (stripB v cs')):=by
   intro cs' h'
   unfold stripB at h' ⊢
   split at h'
   ·rename_i b u
    simp only[cdsC,cdC,cdB,cond_eq_ite]at h'
    split at h'
    ·rename_i hb;exact⟨h',fun hh=>⟨hb,hh⟩⟩
    ·cases h'
   ·exact⟨h',fun hh=>hh⟩
  obtain⟨k1,k2⟩:=key _ h
  exact k2 (stripC_C k1 hc)

theorem stripC_c:∀{rt:List (Nat×AV)} {cs:List Cd},cdsC (stripC rt cs)=true→cdsC cs=true
 |[],cs,h=>h
 |(_,v)::r,cs,h=>by
  have key:∀cs',cdsC (stripB v cs')=true→cdsC cs'=true:=by
   intro cs' h'
   unfold stripB at h'
   split at h'
   ·simp only[cdsC,cond_eq_ite]at h'
    split at h'
    ·exact h'
    ·cases h'
   ·exact h'
  exact stripC_c (key _ h)
theorem cdsC_app:∀{a b:List Cd},cdsC (a++b)=true→cdsC a=true∧cdsC b=true
 |[],b,h=>⟨rfl,h⟩
 |c::r,b,h=>by
  simp only[List.cons_append,cdsC,cond_eq_ite]at h ⊢
  split at h
  ·rename_i hc
   rw[if_pos hc]
   exact cdsC_app h
  ·cases h
theorem AllC.app' {Sp:SpT}:∀{a b:List Cd},AllC Sp a→AllC Sp b→AllC Sp (a++b)
 |[],_,_,h=>h
 |_::_,_,h,k=>⟨h.1,AllC.app' h.2 k⟩
theorem cdC_B {Sp:SpT}{c:Cd}(hn:∀a b h v w x,c≠ .callD a b h v w x)(h:cdC c=true):c.holds Sp:=by
 cases c with
 |callD a b h v w x=>exact absurd rfl (hn _ _ _ _ _ _)
 |_=>exact cdB_ok h
theorem cdsC_B {Sp:SpT}:∀{cs:List Cd},(∀c∈cs,∀a b h v w x,c≠ .callD a b h v w x)→cdsC cs=true→AllC Sp cs
 |[],_,_=>trivial
 |c::r,hn,h=>by
  simp only[cdsC,cond_eq_ite]at h
  split at h
  ·rename_i hc;exact⟨cdC_B (hn c (by simp)) hc,cdsC_B (fun c hc=>hn c (by simp[hc])) h⟩
  ·cases h
theorem loadC_no {c:Cont}{off:Nat}{agg:Option Nat}{D:Delta}(h:loadC .plain c off agg=some D):∀c∈D.cs,∀a b h v w x,c≠ .callD a b h v w x:=by
 unfold loadC at h
 simp only[Dir.vals,Delta.val]at h
 cases agg<;>(simp only at h;cases h;intro c hc;simp at hc;subst hc;intro _ _ _ _ _ _ e;cases e)
theorem load_cs {Sp:SpT}{look:Nat→Option HO}{agg:Option Nat}{v:AV}{D:Delta}(h:opLoad look .plain agg v=some D)(hc:cdsC D.cs=true):AllC Sp D.cs:=by
 refine cdsC_B ?_ hc
 unfold opLoad at h
 split at h
 ·split at h
  ·exact loadC_no h
  ·cases h
 ·split at h
  ·split at h
   ·rename_i hr
    cases h
    intro c hc
    rcases List.mem_cons.1 hc with rfl|hc
    ·intro _ _ _ _ _ _ e;cases e
    ·exact loadC_no hr c hc
   ·cases h
  ·cases h
 ·exact loadC_no h
 ·split at h
  ·cases h
   intro c hc
   simp at hc
   rcases hc with rfl|rfl<;>(intro _ _ _ _ _ _ e;cases e)
  ·cases h
 ·cases h
theorem callD_cs {site:Nat}{look:Nat→Option HO}{cv:AV}{vs:List AV}{D:Delta}(htb:TBok P G tb)(hD:opCallD site look tb cv vs=some D):AllC (SpecQ P G) D.cs:=by
 unfold opCallD at hD
 simp only[cond_eq_ite]at hD
 split at hD
 ·split at hD
  ·rename_i D' hD'
   split at hD
   ·cases hD
    obtain⟨h1,h2⟩:=htb _ _ _ _ _ hD'
    rw[h1]
    exact⟨h2,trivial⟩
   ·cases hD
  ·cases hD
 ·cases hD

theorem chk_ok {site:Nat}{look:Nat→Option HO}{x:XO}{gv:Option AV}{rt:List (Nat×AV)}{D:Delta}(htb:TBok P G tb)(hD:runG G site look x .auto (.tab true tb) gv rt=some D)(h:chkE x.op D.cs=true):AllC (SpecQ P G) D.cs:=by
 have call:∀f as,x.op=.call f as∨(∃X,x.op=.callv X as)∨(∃t X,x.op=.inv t X as)→chkE x.op D.cs=cdsC D.cs:=fun f as e=>by
  rcases e with e|⟨X,e⟩|⟨t,X,e⟩<;>rw[e]<;>rfl
 by_cases hcall:(∃f as,x.op=.call f as)∨(∃X as,x.op=.callv X as)∨(∃t X as,x.op=.inv t X as)
 ·have hck:cdsC D.cs=true:=by
   rcases hcall with⟨f,as,e⟩|⟨X,as,e⟩|⟨t,X,as,e⟩
   ·rw[← call f as (.inl e)];exact h
   ·rw[← call 0 as (.inr (.inl ⟨X,e⟩))];exact h
   ·rw[← call 0 as (.inr (.inr ⟨t,X,e⟩))];exact h
  have run:∀{D':Delta},cdsC D'.cs=true→runU G site look x.op (.tab true tb) rt=some D'→AllC (SpecQ P G) D'.cs:=by
   intro D' hck' hD'
   unfold runU at hD'
   split at hD'
   ·rename_i hk
    rcases hcall with⟨f,as,e⟩|⟨X,as,e⟩|⟨t,X,as,e⟩<;>rw[e]at hk<;>cases hk
   ·split at hD'
    ·rename_i D0 h0
     cases hD'
     refine stripC_C hck' ?_
     rcases hcall with⟨f,as,e⟩|⟨X,as,e⟩|⟨t,X,as,e⟩
     ·rw[e]at h0
      simp only[execD,opCall]at h0
      exact callD_cs htb h0
     ·rw[e]at h0
      simp only[execD,opCallv]at h0
      split at h0
      ·simp only[opCall]at h0;exact callD_cs htb h0
      ·exact callD_cs htb h0
      ·cases h0
     ·rw[e]at h0
      simp only[execD,opInv]at h0
      split at h0
      ·split at h0
       ·simp only[opCall]at h0;exact callD_cs htb h0
       ·split at h0
        ·rename_i D1 h1
         split at h0
         ·rename_i D2 h2
          cases h0
          simp only[opCall]at h2
          exact AllC.app' (load_cs h1 (cdsC_app (stripC_c hck')).1) (callD_cs htb h2)
         ·cases h0
        ·cases h0
       ·cases h0
      ·cases h0
    ·cases hD'
  unfold runG at hD
  split at hD
  ·exact run hck hD
  ·split at hD
   ·simp only[cond_eq_ite]at hD
    split at hD
    ·exact run hck hD
    ·cases hD;exact trivial
   ·cases hD
 ·have:chkE x.op D.cs=cdsB D.cs:=by
   unfold chkE
   split
   ·rename_i e;exact absurd (.inl ⟨_,_,e⟩) hcall
   ·rename_i e;exact absurd (.inr (.inl ⟨_,_,e⟩)) hcall
   ·rename_i e;exact absurd (.inr (.inr ⟨_,_,_,e⟩)) hcall
   ·rfl
  rw[this]at h
  exact cdsB_ok h

def WrOk (c0:Nat)(wr wr':List Nat)(H H':Nat→Option HO):Prop:=∀i,i∉wr'→i<c0→i∉wr∧H' i=H i
theorem WrOk.refl (c0:Nat)(wr:List Nat)(H:Nat→Option HO):WrOk c0 wr wr H H:=fun i h _=>⟨h,rfl⟩
theorem WrOk.trans {c0:Nat}{wr wr' wr'':List Nat}{H H' H'':Nat→Option HO}(h:WrOk c0 wr wr' H H')(k:WrOk c0 wr' wr'' H' H''):WrOk c0 wr wr'' H H'':=fun i h1 h2=>by
 obtain⟨k1,k2⟩:=k i h1 h2
 obtain⟨g1,g2⟩:=h i k1 h2
 exact⟨g1,k2.trans g2⟩
theorem addW_ok {c0:Nat}:∀{ws:List (Nat×HO)} {wr:List Nat} {i:Nat},i∉addW c0 wr ws→i<c0→i∉wr∧i∉keys ws
 |[],wr,i,h,hi=>⟨h,by simp[keys]⟩
 |(j,o)::r,wr,i,h,hi=>by
  simp only[addW]at h
  obtain⟨h1,h2⟩:=addW_ok h hi
  have hj:i≠j∧i∉wr:=by
   simp only[cond_eq_ite]at h1
   split at h1
   ·rename_i hc
    have:=Nat.le_of_ble_eq_true hc
    exact⟨by omega,h1⟩
   ·split at h1
    ·rename_i hm
     exact⟨fun e=>h1 (e▸memN_iff.1 hm),h1⟩
    ·simp only[List.mem_cons,not_or]at h1;exact h1
  simp only[keys,List.mem_cons,not_or]
  exact⟨hj.2,hj.1,h2⟩
theorem WrOk.upd {c0:Nat}{wr:List Nat}{H:Nat→Option HO}{ws:List (Nat×HO)}:WrOk c0 wr (addW c0 wr ws) H (updL H ws):=fun i h hi=>by
 obtain⟨h1,h2⟩:=addW_ok h hi
 exact⟨h1,updL_nokey h2⟩

theorem exOpsE_wr {c0:Nat}:∀{xs:List XO} {s s':EvS},exOpsE G tb c0 xs s=some s'→WrOk c0 s.wr s'.wr (aget s.S.h) (aget s'.S.h)
 |[],s,s',he=>by simp only[exOpsE]at he;cases he;exact .refl _ _ _
 |x::r,s,s',he=>by
  simp only[exOpsE]at he
  split at he
  ·rename_i D hD
   rw[cond_eq_ite]at he
   split at he
   ·exact WrOk.trans (wr':=addW c0 s.wr D.ws) (H':=aget (putS s.S x.dst D).h) (by rw[putS_h];exact .upd) (exOpsE_wr he)
   ·cases he
  ·cases he
theorem exEntsE_wr {c0:Nat}{xs:List XO}:∀{ord:List Nat} {s s':EvS} {es:List (Nat×Ent)},exEntsE G tb c0 xs ord s=some (s',es)→WrOk c0 s.wr s'.wr (aget s.S.h) (aget s'.S.h)
 |[],s,s',es,h=>by simp only[exEntsE]at h;cases h;exact .refl _ _ _
 |i::r,s,s',es,h=>by
  simp only[exEntsE]at h
  split at h
  ·rename_i x hxi
   split at h
   ·rename_i e he
    rw[cond_eq_ite]at h
    split at h
    ·split at h
     ·rename_i s'' es' h'
      cases h
      exact WrOk.trans (wr':=addW c0 s.wr e.D.ws) (H':=aget (putS s.S x.dst e.D).h) (by rw[putS_h];exact .upd) (exEntsE_wr h')
     ·cases h
    ·cases h
   ·cases h
  ·cases h

theorem exOpsE_sound (htb:TBok P G tb){c0:Nat}{R:Act→World→Prop}:∀(l:List Oper) (k:Nat) (xs:List XO) (s s':EvS) (F:Nat→Prop) (ρ:Nat→Option Nat) (a:Act) (w:World),(∀j,l[j]? =ops[k+j]?)→compXOs P ops l=some xs→exOpsE G tb c0 xs s=some s'→
  WrOk c0 s.wr s'.wr (aget s.S.h) (aget s'.S.h)∧(RS G F ρ s.S a w→(∀a' w' F' ρ',RS G F' ρ' s'.S a' w'→Ext G F ρ w F' ρ' w'→HKeep w ρ (aget s.S.h) w' ρ' (aget s'.S.h)→a'.defers=a.defers→R a' w')→wpOpsR P ops R (List.range' k l.length) a w)
 |[],k,xs,s,s',F,ρ,a,w,hl,hx,he=>by
  cases hx
  simp only[exOpsE]at he
  cases he
  exact⟨.refl _ _ _,fun hr hQ=>hQ a w F ρ hr (Ext.refl _ _ _) (HKeep.refl _ _ _) rfl⟩
 |o::l,k,xs,s,s',F,ρ,a,w,hl,hx,he=>by
  simp only[compXOs]at hx
  split at hx
  ·rename_i x xl hxo hxl
   cases hx
   simp only[exOpsE]at he
   split at he
   ·rename_i D hD
    rw[cond_eq_ite]at he
    split at he
    ·rename_i hcond
     simp only[Bool.and_eq_true]at hcond
     have c1:=chk_ok htb hD hcond.2.2
     have h0:ops[k]? =some o:=by simpa using(hl 0).symm
     have hnext:∀j,l[j]? =ops[k+1+j]? :=fun j=>by have:=hl (j+1);simpa[Nat.add_assoc,Nat.add_comm 1 j]using this
     refine⟨WrOk.trans (wr':=addW c0 s.wr D.ws) (H':=aget (putS s.S x.dst D).h) (by rw[putS_h];exact .upd) (exOpsE_sound (R:=R) htb l (k+1) xl _ s' F ρ a w hnext hxl he).1,fun hr hQ=>?_⟩
     rw[List.length_cons,List.range'_succ]
     show wpOpR P ops k _ a w
     refine one_sound h0 hxo hr (fun t v h=>readT_get h) (fun t want v hg hv=>gvOf_ok hg hv) (fun _ _ h=>h) hD (okDst_ok hcond.1) (freshA_ok hcond.2.1) c1 ?_
     intro y w' F' ρ' hr' hx' hk'
     rw[← putS_h s.S x.dst D]at hk'
     refine(exOpsE_sound htb l (k+1) xl _ s' F' ρ' _ w' hnext hxl he).2 ?_ ?_
     ·unfold RS;simp only;rw[putS_t,putS_h];exact hr'
     ·intro a' w'' F'' ρ'' h1 h2 h3 h4
      exact hQ a' w'' F'' ρ'' h1 (hx'.trans h2) (hk'.trans h3) (h4.trans (put_defers' _ _ _))
    ·cases he
   ·cases he
  ·cases hx

theorem exEntsE_ok (htb:TBok P G tb){c0:Nat}{xs:List XO}(hx:compXOs P ops ops.toList=some xs):∀{ord:List Nat} {s s':EvS} {es:List (Nat×Ent)},exEntsE G tb c0 xs ord s=some (s',es)→
  keys es=ord∧s'.S.n=s.S.n∧(∀p,p∈es→EntOk P G ops s.S.n p)∧Chain (aget s'.S.t) (aget s'.S.h) es (aget s.S.t) (aget s.S.h)∧WrOk c0 s.wr s'.wr (aget s.S.h) (aget s'.S.h)∧
  (∀p,p∈es→nth? xs p.1=some p.2.x∧(∀t,t∈keys p.2.rt→t∈opdT p.2.x.op.opds))
 |[],s,s',es,h=>by
  simp only[exEntsE]at h
  cases h
  exact⟨rfl,rfl,fun p hp=>by simp at hp,⟨rfl,rfl⟩,.refl _ _ _,fun p hp=>by simp at hp⟩
 |i::r,s,s',es,h=>by
  simp only[exEntsE]at h
  split at h
  ·rename_i x hxi
   split at h
   ·rename_i e he
    rw[cond_eq_ite]at h
    split at h
    ·rename_i hck
     split at h
     ·rename_i s'' es' h'
      cases h
      obtain⟨g1,g2,g3,g4,g5,g6⟩:=exEntsE_ok htb hx h'
      obtain⟨o,ho,hxo⟩:=compXOs_get hx hxi
      simp only[mkEnt]at he
      split at he
      ·rename_i D hD
       rw[cond_eq_ite]at he
       split at he
       ·rename_i hcond
        cases he
        rw[Bool.and_eq_true]at hcond
        have c1:=chk_ok htb hD hck
        refine⟨by simp[keys,g1],g2,fun p hp=>?_,⟨⟨?_,?_,?_,?_⟩,?_⟩,WrOk.trans (by rw[putS_h];exact .upd) g5,fun p hp=>?_⟩
        ·rcases List.mem_cons.1 hp with rfl|hp
         ·exact⟨o,by simpa using ho,hxo,hD,okDst_ok hcond.1,c1⟩
         ·exact g3 p hp
        ·intro t v hv;exact readT_get hv
        ·intro t want v hg hv;exact gvOf_ok hg hv
        ·intro j o' hj;exact readF_get hj
        ·exact freshA_ok hcond.2
        ·simp only[putS_t,putS_h]at g4;exact g4
        ·rcases List.mem_cons.1 hp with rfl|hp
         ·refine⟨hxi,?_⟩
          simp only
          generalize x.op.opds=os
          induction os with
          |nil=>intro t ht;simp[readT,keys]at ht
          |cons q os ih=>
           cases q with
           |t n=>
            intro t ht
            simp only[readT]at ht
            split at ht
            ·simp only[keys,List.mem_cons]at ht
             simp only[opdT,List.mem_cons]
             exact ht.imp (fun h=>h) (ih t)
            ·simp only[opdT,List.mem_cons];exact .inr (ih t ht)
           |c v=>intro t ht;exact ih t ht
           |g n=>intro t ht;exact ih t ht
         ·exact g6 p hp
       ·cases he
      ·cases he
     ·cases h
    ·cases h
   ·cases h
  ·cases h

theorem noneIn_mono {a b a' b':List Nat}(h:noneIn a b=true)(ha:∀i,i∈a'→i∈a)(hb:∀i,i∈b'→i∈b):∀i,i∈a'→i∉b':=
 fun i h1 h2=>noneIn_ok' h i (ha i h1) (hb i h2)

theorem noneIn_mk:∀{a b:List Nat},(∀i,i∈a→i∉b)→noneIn a b=true
 |[],b,h=>rfl
 |x::r,b,h=>by
  simp only[noneIn,cond_eq_ite]
  have:¬ memN x b=true:=fun e=>h x (by simp) (memN_iff.1 e)
  rw[if_neg this]
  exact noneIn_mk fun i hi=>h i (by simp[hi])

theorem pairs_of {xs:List XO}{dep:List (List Nat)}{tbl:List (Nat×List Nat)}{dp:Nat→List Nat}(hd:∀i,dp i=depN dep i):
  ∀{es:List (Nat×Ent)},pairsT dep tbl xs (keys es)=true→pairsHE tbl es=true→(∀p,p∈es→nth? xs p.1=some p.2.x∧(∀t,t∈keys p.2.rt→t∈opdT p.2.x.op.opds))→Pairs dp (tbN tbl) es
 |[],_,_,_=>trivial
 |(i,e)::r,hT,hH,hx=>by
  simp only[keys,pairsT,Bool.and_eq_true,Bool.not_eq_true']at hT
  simp only[pairsHE,Bool.and_eq_true,Bool.or_eq_true]at hH
  obtain⟨hself,hpair,hT⟩:=hT
  obtain⟨hheap,hH⟩:=hH
  obtain⟨x1,x2⟩:=hx (i,e) (by simp)
  have x1:nth? xs i=some e.x:=x1
  have nmem:∀{x:Nat} {l:List Nat},memN x l=false→x∉l:=fun h hm=>by rw[memN_iff.2 hm]at h;cases h
  unfold pairTo at hpair
  rw[x1]at hpair
  simp only at hpair
  have key:∀{r':List (Nat×Ent)},(∀p,p∈r'→p∈r)→pairT dep tbl xs i e.x (keys r')=true→(quietE e=true∨pairHE tbl i e r'=true)→i∉keys r'∧∀p,p∈r'→p.1∉depN dep i∧(i∈tbN tbl p.1∨Apart e p.2):=by
   intro r'
   induction r' with
   |nil=>intro _ _ _;exact⟨by simp[keys],fun p hp=>by simp at hp⟩
   |cons q r' ih=>
    obtain⟨j,f⟩:=q
    intro hsub hp hh
    simp only[keys,pairT,Bool.and_eq_true,Bool.or_eq_true,Bool.not_eq_true']at hp
    obtain⟨hij,hjd,hap,hp⟩:=hp
    have hh2:(quietE e=true∨pairHE tbl i e r'=true)∧(i∈tbN tbl j∨(noneIn (keys e.D.ws) (keys f.rh++(f.D.al++keys f.D.ws))=true∧noneIn (keys f.D.ws) (keys e.rh++e.D.al)=true)):=by
     rcases hh with hq|hh
     ·refine⟨.inl hq,.inr ?_⟩
      simp only[quietE,Bool.and_eq_true]at hq
      obtain⟨q1,q2,q3⟩:=hq
      rw[isNil_ok q1,isNil_ok q2,isNil_ok q3]
      exact⟨rfl,noneIn_mk fun i _ h=>by simp[keys]at h⟩
     ·simp only[pairHE,Bool.and_eq_true,Bool.or_eq_true]at hh
      obtain⟨hc,hh⟩:=hh
      refine⟨.inr hh,?_⟩
      rcases hc with hnil|hm|hc
      ·rw[isNil_ok hnil.1,isNil_ok hnil.2]
       exact .inr ⟨rfl,rfl⟩
      ·exact .inl (memN_iff.1 hm)
      ·simp only[apartH,Bool.and_eq_true]at hc;exact .inr hc
    obtain⟨k1,k2⟩:=ih (fun p hp=>hsub p (by simp[hp])) hp hh2.1
    have hne:i≠j:=fun e=>by subst e;rw[beq_self]at hij;cases hij
    refine⟨by simp only[keys,List.mem_cons,not_or];exact⟨hne,k1⟩,fun p hp=>?_⟩
    rcases List.mem_cons.1 hp with rfl|hp
    ·refine⟨nmem hjd,?_⟩
     obtain⟨y1,y2⟩:=hx (j,f) (List.mem_cons_of_mem _ (hsub _ (by simp)))
     have y1:nth? xs j=some f.x:=y1
     rcases hap with hm|hap
     ·exact .inl (memN_iff.1 hm)
     ·unfold apartJ at hap
      rw[y1]at hap
      simp only[apartT,Bool.and_eq_true]at hap
      rcases hh2.2 with h|⟨h1,h2⟩
      ·exact .inl h
      ·right
       refine apartE_ok ?_
       simp only[apartE,Bool.and_eq_true]
       refine⟨noneIn_mk (noneIn_mono hap.1 (fun i h=>h) fun t ht=>?_),noneIn_mk (noneIn_mono hap.2 (fun i h=>h) fun t ht=>?_),h1,h2⟩
       ·simp only[List.mem_append]at ht ⊢; exact ht.imp (y2 t) (fun h=>h)
       ·simp only[List.mem_append]at ht ⊢; exact ht.imp (x2 t) (fun h=>h)
    ·exact k2 p hp
  obtain⟨k1,k2⟩:=key (r':=r) (fun p hp=>hp) hpair hheap
  refine⟨fun h=>?_,k1,fun p hp=>?_,pairs_of hd hT hH fun p hp=>hx p (by simp[hp])⟩
  ·rw[hd]at h;exact nmem hself h
  ·rw[hd];exact⟨(k2 p hp).1,(k2 p hp).2.imp id .inl⟩

end
end Go.Ab

/-
 Ranges over functions: the record, the call, the pending jump; rounds.
-/
set_option linter.unusedVariables false
set_option linter.unusedSimpArgs false
namespace Go.Ab
open Go

section
variable {P:Program}{G:GL}{md:Md}{F:Nat→Prop}{ρ:Nat→Option Nat}{H:Nat→Option HO}{a:Act}{w w':World}{ops:Array Oper}{tb:TB}

theorem MRel.allocOff (hm:MRel G F ρ H w){ob:Obj}(hw:w'.heap=w.heap.push ob)(hio:IoEq G w w'):MRel G F ρ H w'∧Ext G F ρ w F ρ w'∧HKeep w ρ H w' ρ H:=by
 have hsz:w'.heap.size=w.heap.size+1:=by rw[hw];simp
 have hold:∀b,b<w.heap.size→w'.heap[b]? =w.heap[b]? :=fun b hb=>push_old hw hb
 have hk:HKeep w ρ H w' ρ H:=⟨fun id o h1 h2=>⟨o,h1,h2,rfl⟩,fun id k h1=>⟨k,h1,rfl,Nat.le_refl _,fun _=>⟨rfl,rfl,.inl rfl,rfl⟩⟩,fun b cs ty fz hb=>⟨cs,ty,fz,(hold b (lt_of_some hb)).trans hb,rfl⟩,fun id k l v h1=>⟨k,l,v,h1,Nat.le_refl _,fun _=>⟨rfl,rfl,rfl,fun b hb=>hold b (hm.lt id b hb)⟩⟩⟩
 have hwF:∀b,F b→w'.heap[b]? =w.heap[b]? :=fun b hb=>hold b (hm.frz b hb)
 exact⟨⟨fun id o h1=>(hm.heap id o h1).mono hwF (fun _ h=>h) hk rfl (fun b hb=>⟨hold b (hm.lt id b hb),fun h=>h⟩),hm.dom,hm.inj,fun id b hb=>by have:=hm.lt id b hb;omega,fun b hb=>by have:=hm.frz b hb;omega,hm.glob.mono hwF (fun _ h=>h)⟩,
  ⟨hio,by omega,fun b hb _=>hold b hb,hwF,fun _ h=>h,fun _ h=>.inl h,fun id b hb=>.inl ⟨id,hb⟩⟩,hk⟩

theorem enter_loop (hm:MRel G F ρ H w)(ro:Option Nat)(hro:∀l0,ro=some l0→∃r0,w.heap[l0]? =some (.loop r0))(fn:FuncId)(tmps:Array Value)(qs:Array Tmp)(ca cb:Code):
  ∃l mark w0 w1 r0,(Instr.enterLoop fn tmps qs ca cb ro).run P w=.ok (l,mark) w1∧MRel G F ρ H w0∧Ext G F ρ w F ρ w0∧HKeep w ρ H w0 ρ H∧w1.heap=w0.heap.push (.loop {state:=.ready,pending:=none,fn,tmps,params:=qs,assign:=ca,body:=cb,defers:=r0})∧IoEq G w0 w1∧l=w0.heap.size∧
   (mark=[]∨(mark=[markOf r0]∧w0.heap[r0]? =some (.deferred (some []))∧w.heap.size≤r0)):=by
 cases ro with
 |none=>
  obtain⟨h1,h2,h3⟩:=hm.allocOff (w':=w.alloc (.deferred (some []))) (ob:=.deferred (some [])) rfl ⟨rfl,rfl,fun _=>⟨rfl,Nat.le_refl _⟩⟩
  refine⟨_,_,w.alloc (.deferred (some [])),_,_,run_enterLoop_outer fn tmps qs ca cb,h1,h2,h3,rfl,⟨rfl,rfl,fun _=>⟨rfl,Nat.le_refl _⟩⟩,?_,.inr ⟨rfl,?_,Nat.le_refl _⟩⟩
  ·show w.heap.size+1=(w.heap.push _).size
   rw[Array.size_push]
  ·show(w.heap.push _)[w.heap.size]? =_
   rw[Array.getElem?_push_size]
 |some l0=>
  obtain⟨r0,hr0⟩:=hro l0 rfl
  refine⟨w.heap.size,[],w,w.alloc (.loop {state:=.ready,pending:=none,fn,tmps,params:=qs,assign:=ca,body:=cb,defers:=r0.defers}),r0.defers,?_,hm,Ext.refl _ _ _,HKeep.refl _ _ _,rfl,⟨rfl,rfl,fun _=>⟨rfl,Nat.le_refl _⟩⟩,rfl,.inl rfl⟩
  unfold Instr.enterLoop
  simp only[Sem.run_bind,run_getLoop hr0,run_newObj_alloc,Result.andThen,Sem.run_pure]

theorem rangeF_steps {b:Frame}{k:List Item}{cs:List Frame}{g:Operand}{qs:Array Tmp}{ca cb:Code}{l:Nat}{mark:List Deferred}{w1:World}{f:FuncId}{x1 x2:Array Value}{K:Value→World→Prop}
  (he:(Instr.enterLoop b.fn a.tmps qs ca cb b.roundOf).run P w=.ok (l,mark) w1) (hg:a.eval g=.func (.func f) x1 x2)
  (hK:CallOk P f (x1++ #[.func (.yield l) #[] #[]]++x2) w1 K):
  ∃v w3,K v w3∧Steps P (lone (b.atR a (.code (.rangeFunc g qs ca cb)::k)) cs w) (lone (b.atR {a with defers:=mark++a.defers} (.endRangeFunc l::k)) cs w3):=by
 have hev:=Frame.eval_atR b {a with defers:=mark++a.defers} (.inRangeFunc l::k)
 simp only[Frame.atR]at hev
 have hg':({tmps:=a.tmps,defers:=mark++a.defers}:Act).eval g=.func (.func f) x1 x2:=by
  rw[← hg];cases g<;>rfl
 have hres:(do let d ← resolve ({tmps:=a.tmps,defers:=mark++a.defers}:Act).eval {callee:=.value g,args:= #[.const (.func (.yield l) #[] #[])],argTypes:= #[]} 0;invoke d.target d.args:Sem Next).run P w1=(callFunc f (x1++ #[.func (.yield l) #[] #[]]++x2)).run P w1:=by
  simp only[resolve,Deferred.ofValue,hg',Sem.run_bind,Sem.run_pure,Result.andThen_ok,invoke]
  have:Array.map ({tmps:=a.tmps,defers:=mark++a.defers}:Act).eval #[Operand.const (Value.func (Fn.yield l) #[] #[])]= #[Value.func (Fn.yield l) #[] #[]]:=by simp[Act.eval]
  rw[this]
 rcases hK with⟨nx,y,w',h1,h2,h3⟩|⟨f',args,w2,h1,h2⟩|⟨l',fn,tmps,as,bd,w2,h1,h2⟩
 ·refine⟨y,w',h3,.one (step_lone_go ?_)⟩
  rw[h1]at hres
  rw[← finish_atR_inRangeFunc l y]
  rcases h2 with rfl|⟨rfl,rfl⟩<;>simp[stepG,stepG.exec,Frame.atR,Sem.runT_eq,he,GStep.bare_after,stepG.apply,hev,hres]
 ·rw[h1]at hres
  obtain⟨e,w3,fr,⟨v,rfl,hv⟩,hsteps,_,hleave⟩:=h2 (b.atR {a with defers:=mark++a.defers} (.inRangeFunc l::k)::cs)
  refine⟨v,w3,hv,.head (step_lone_go (fr':=Frame.enter P f' args .normal) (cs':=b.atR {a with defers:=mark++a.defers} (.inRangeFunc l::k)::cs) (w':=w2) ?_) (hsteps.trans (.one ?_))⟩
  ·simp[stepG,stepG.exec,Frame.atR,Sem.runT_eq,he,GStep.bare_after,stepG.apply,hev,hres]
  ·rw[← finish_atR_inRangeFunc l v];exact step_leave_returned hleave
 ·rw[h1]at hres
  obtain⟨v,w3,hv,hsteps⟩:=h2 (b.atR {a with defers:=mark++a.defers} (.inRangeFunc l::k)) cs
  refine⟨v,w3,hv,.head (step_lone_go (fr':=Frame.round l' fn tmps as bd .normal) (cs':=b.atR {a with defers:=mark++a.defers} (.inRangeFunc l::k)::cs) (w':=w2) ?_) ?_⟩
  ·simp[stepG,stepG.exec,Frame.atR,Sem.runT_eq,he,GStep.bare_after,stepG.apply,hev,hres]
  ·rw[finish_atR_inRangeFunc]at hsteps;exact hsteps

theorem asets_aset {h:List (Nat×HO)}{id:Nat}{o:HO}{ws:List (Nat×HO)}:aget (asets (aset h id o) ws)=updL (upd (aget h) id (some o)) ws:=by rw[aget_asets,aget_aset]

theorem wpX_rangeF (hcm:G.cm=cmOf P){g:Opd}{ps:List Nat}{as bd:XC}{S:St}{f:Nat}{a0 cp:List AV}(hg:g.ev G S.t=.fn f a0 cp)(hrid:∀l0,md.rid=some l0→∃L,aget S.h l0=some (.loop L)){id:Nat}(hid:aget S.h id=none)
  {D:Delta} (hal:∀i,i∈D.al→aget (aset S.h id (.loop ⟨0,none,S.t,S.n,ps,as,bd⟩)) i=none)
  (hsp:∀F ρ w (xs:Array Value),MRel G F ρ (aget (aset S.h id (.loop ⟨0,none,S.t,S.n,ps,as,bd⟩))) w→RelVs w F ρ (aget (aset S.h id (.loop ⟨0,none,S.t,S.n,ps,as,bd⟩))) (a0++[.yld id]++cp) xs.toList→CallOk P f xs w (KD G F ρ (aget (aset S.h id (.loop ⟨0,none,S.t,S.n,ps,as,bd⟩))) w D))
  {l2:LoopS} (h2:aget (asets (aset S.h id (.loop ⟨0,none,S.t,S.n,ps,as,bd⟩)) D.ws) id=some (.loop l2)) {e:Ex} (hp:pendX l2.pend=some e) (hst:l2.st≠1) {Q:Ex→St→Prop}
  (hQ:Q e {S with h:=aset (asets (aset S.h id (.loop ⟨0,none,S.t,S.n,ps,as,bd⟩)) D.ws) id (.loop {l2 with st:=3})}):WpX P G md (.rangeF g ps as bd) S Q:=by
 intro c hc F ρ a w ro hr hro b k cs hb
 obtain⟨X,qs,ca,cb,rfl,hps,hX,hca,hcb⟩:=cm_rangeF hcm hc
 have hfv:=evOk_of (rt:=S.t) (a:=a) hr.mem hr.tmps X g hX
 rw[hg]at hfv
 obtain⟨x1,x2,hXv,r1,r2⟩:=hfv.fns
 have hro':∀l0,ro=some l0→∃r0,w.heap[l0]? =some (.loop r0):=fun l0 e=>by
  unfold RoOk at hro
  cases hmd:md.rid with
  |none=>rw[hmd]at hro;simp only at hro;rw[hro]at e;cases e
  |some q=>
   rw[hmd]at hro
   obtain⟨b',o,g1,g2,_,_⟩:=hro
   rw[g1]at e;cases e
   obtain⟨L,hL⟩:=hrid q hmd
   obtain⟨b2,p1,p2,r,p3,_⟩:=hr.mem.heap q _ hL
   rw[g2]at p1;cases p1
   exact⟨r,p3⟩
 obtain⟨l,mark,w0,w1,rd,hent,m0,x0,k0,hw1,hio1,hl,hmark⟩:=enter_loop (P:=P) hr.mem ro hro' b.fn a.tmps qs ca cb
 let L0:LoopS:=⟨0,none,S.t,S.n,ps,as,bd⟩
 have hte:∀t v,aget S.t t=some v→RelV w0 F ρ (aget S.h) v (a.tmps.getD t undef):=fun t v h=>(hr.tmps t v h).mono x0.frz x0.keep k0
 obtain⟨ρ1,m1,x1',k1,hρ1,hρo⟩:=m0.alloc (site:=id) (o:=.loop L0) hid hw1 hio1 (fun ρ' H' hk hs=>by
  refine⟨w0.heap.size,hs,fun hF=>by have:=m0.frz _ hF;omega,_,push_new hw1,⟨rfl,rfl,hr.size,fun t v h=>(hte t v h).mono (fun b hb=>push_old hw1 (m0.frz b hb)) (fun _ h=>h) hk,hps,hca,hcb⟩⟩)
 have hH1:upd (aget S.h) id (some (.loop L0))=aget (aset S.h id (.loop L0)):=(aget_aset _ _ _).symm
 rw[hH1]at m1 k1
 have hargs:RelVs w1 F ρ1 (aget (aset S.h id (.loop L0))) (a0++[.yld id]++cp) (x1++ #[Value.func (.yield l) #[] #[]]++x2).toList:=by
  have mv:∀{vs:List AV} {xs:List Value},RelVs w F ρ (aget S.h) vs xs→RelVs w1 F ρ1 (aget (aset S.h id (.loop L0))) vs xs:=fun h=>
   (h.mono x0.frz x0.keep k0).mono x1'.frz x1'.keep k1
  have hy:RelV w1 F ρ1 (aget (aset S.h id (.loop L0))) (.yld id) (Value.func (.yield l) #[] #[]):=.yld id l (.loop L0) (by rw[hρ1,hl]) (by rw[aget_aset,upd_same]) rfl
  simp only[Array.toList_append]
  refine RelVs.app (RelVs.app (mv r1) (.cons _ _ _ _ hy .nil)) (mv r2)
 have hent':(Instr.enterLoop b.fn a.tmps qs ca cb b.roundOf).run P w=.ok (l,mark) w1:=by rw[hb];exact hent
 obtain⟨v,w3,⟨F3,ρ3,m3,x3,k3,_⟩,hsteps⟩:=rangeF_steps (k:=k) (cs:=cs) hent' hXv (hsp F ρ1 w1 _ m1 hargs)
 rw[← aget_asets]at m3 k3
 -- the end of the statement
 obtain⟨bl,y1,y2,rr,y3,y4⟩:=m3.heap id _ h2
 have hbl:bl=l:=by
  obtain⟨o',z1,z2,z3⟩:=k3.box id (.loop L0) (by rw[aget_aset,upd_same]) rfl
  rw[y1,hρ1]at z3;cases z3;exact hl.symm
 subst hbl
 have hbusy:rr.state≠ .busy:=by
  rw[y4.st]
  intro e
  apply hst
  match hq:l2.st,e with
  |0,e=>simp[stOf]at e
  |1,_=>rfl
  |2,e=>simp[stOf]at e
  |n+3,e=>simp[stOf]at e
 have hend:=run_endLoop (P:=P) y3 hbusy
 have hlt3:bl<w3.heap.size:=lt_of_some y3
 obtain⟨m4,x4,k4⟩:=m3.write (w':=w3.putObj bl (.loop {rr with state:=.exhausted})) (o':=.loop {l2 with st:=3}) h2 y1 y2 (World.putObj_heap_same hlt3) (fun j hj=>World.putObj_heap_other hj) World.putObj_size ⟨rfl,rfl,fun _=>⟨rfl,Nat.le_refl _⟩⟩
  (fun cs ty fz h=>by rw[y3]at h;cases h) rfl (fun k h=>by cases h)
  (fun hk=>⟨bl,y1,y2,_,World.putObj_heap_same hlt3,⟨rfl,y4.pend,y4.size,fun t v h=>(y4.tmps t v h).mono (fun b hb=>World.putObj_heap_other (fun(e:b=bl)=>y2 (by rw[← e];exact hb))) (fun _ h=>h) hk,y4.ps,y4.as,y4.bd⟩⟩)
 rw[← aget_aset]at m4 k4
 have hx:Ext G F ρ w F3 ρ3 (w3.putObj bl (.loop {rr with state:=.exhausted})):=((x0.trans x1').trans x3).trans x4
 have hk:HKeep w ρ (aget S.h) (w3.putObj bl (.loop {rr with state:=.exhausted})) ρ3 (aget (aset (asets (aset S.h id (.loop L0)) D.ws) id (.loop {l2 with st:=3}))):=((k0.trans k1).trans k3).trans k4
 have hdefs:DefOk F3 ρ3 {a with defers:=mark++a.defers} (w3.putObj bl (.loop {rr with state:=.exhausted}))∧DX a.defers w (mark++a.defers):=by
  obtain⟨rs,d1,d2,d3⟩:=hr.defs.ext hx rfl
  rcases hmark with rfl|⟨rfl,hm2,hm3⟩
  ·exact⟨⟨rs,d1,by simpa using d2,d3⟩,⟨[],by simp,fun r hr=>by simp at hr⟩⟩
  ·refine⟨⟨rd::rs,?_,by simp[d2],fun r hr'=>?_⟩,⟨[rd],by simp,fun r hr=>by simp at hr;subst hr;exact hm3⟩⟩
   ·refine List.nodup_cons.2 ⟨fun hmem=>?_,d1⟩
    obtain⟨rs0,e1,e2,e3⟩:=hr.defs
    have:rs0.map markOf=rs.map markOf:=e2.symm.trans d2
    have hmem':markOf rd∈rs0.map markOf:=by rw[this];exact List.mem_map.2 ⟨rd,hmem,rfl⟩
    obtain⟨q,hq,e⟩:=List.mem_map.1 hmem'
    have:q=rd:=by simp only[markOf]at e;injection e with e1 e2;injection e1
    subst this
    have:=lt_of_some (e3 q hq).1
    omega
   ·rcases List.mem_cons.1 hr' with rfl|hr'
    ·have hrlt:=lt_of_some hm2
     have hne:∀id',ρ id'≠some r:=fun id' e=>by have:=hr.mem.lt id' r e;omega
     have hrl:r≠bl:=by omega
     have hne1:∀id',ρ1 id'≠some r:=fun id' e=>by
      by_cases e':id'=id
      ·subst e';rw[hρ1]at e;cases e;omega
      ·rw[hρo id' e']at e;exact hne id' e
     have hF1:¬ F r:=fun h=>by have:=hr.mem.frz r h;omega
     have h1r:w1.heap[r]? =some (.deferred (some [])):=by rw[push_old hw1 hrlt];exact hm2
     have h3r:w3.heap[r]? =some (.deferred (some [])):=(x3.same r (lt_of_some h1r) hne1).trans h1r
     refine⟨by rw[World.putObj_heap_other hrl];exact h3r,fun id' e=>?_,fun h=>?_⟩
     ·rcases x3.im id' r e with⟨i2,e2⟩|e2
      ·exact hne1 i2 e2
      ·have:=lt_of_some h1r;omega
     ·rcases x3.more r h with e|e|⟨i2,e2⟩
      ·exact hF1 e
      ·have:=lt_of_some h1r;omega
      ·exact hne1 i2 e2
    ·exact d3 r hr'
 have hRS:RS G F3 ρ3 {S with h:=aset (asets (aset S.h id (.loop L0)) D.ws) id (.loop {l2 with st:=3})} {a with defers:=mark++a.defers} (w3.putObj bl (.loop {rr with state:=.exhausted})):=
  ⟨hr.size,fun t v h=>(hr.tmps t v h).mono hx.frz hx.keep hk,m4,hdefs.1⟩
 have hsteps':Steps P (lone (b.atR a (.code (.rangeFunc X qs ca cb)::k)) cs w) (lone (b.atR {a with defers:=mark++a.defers} ((rr.pending.map Item.code).toList++k)) cs (w3.putObj bl (.loop {rr with state:=.exhausted}))):=
  hsteps.trans (.one (stepR_endRangeFunc hend))
 have hpend:=y4.pend
 generalize (w3.putObj bl (.loop {rr with state:=.exhausted}))=wz at hRS hx hk hdefs hsteps'
 refine⟨e,_,_,⟨_,hQ,F3,ρ3,hRS,hx,hk.kp,hdefs.2⟩,?_⟩
 rw[hpend]at hsteps'
 unfold pendX at hp
 split at hp
 ·rename_i hpn
  cases hp
  rw[hpn]at hsteps'
  exact hsteps'
 ·cases hp
 ·rename_i e' hne hpe
  cases hp
  rw[hpe]at hsteps'
  cases e with
  |normal=>exact absurd rfl hne
  |exit i=>exact⟨k,rfl,by simpa[Ex.code]using hsteps'⟩
  |ret=>exact⟨k,by simpa[Ex.code]using hsteps'⟩

end
end Go.Ab

/-
 Code run by the function: sound; calls too.
-/
set_option linter.unusedVariables false
set_option linter.unusedSimpArgs false
namespace Go.Ab
open Go

section
variable {P:Program}{G:GL}{md:Md}{F:Nat→Prop}{ρ:Nat→Option Nat}{H:Nat→Option HO}{a:Act}{w w':World}{ops:Array Oper}{tb:TB}

theorem drawE_sound (htb:TBok P G tb){c0:Nat}{xs:List XO}{dep:List (List Nat)}{ord:List Nat}{s s':EvS}{es:List (Nat×Ent)}{R:Act→World→Prop}
  (hx:compXOs P ops ops.toList=some xs) (hdep:ops.toList.map depOf=dep) (hT:drawT xs dep ord=true) (he:exEntsE G tb c0 xs ord s=some (s',es)) (hH:pairsHE (ancTab dep ord []) es=true) (hr:RS G F ρ s.S a w)
  (hQ:∀a' w' F' ρ',RS G F' ρ' s'.S a' w'→Ext G F ρ w F' ρ' w'→HKeep w ρ (aget s.S.h) w' ρ' (aget s'.S.h)→a'.defers=a.defers→R a' w'):wpAnyR P ops R ops.size (Array.replicate ops.size false) a {w with drawn:=w.drawn+1}:=by
 obtain⟨k1,k2,k3,k4,_,k6⟩:=exEntsE_ok htb hx he
 simp only[drawT,Bool.and_eq_true]at hT
 obtain⟨b1,b2,b3,b4,b5⟩:=hT
 have hlen:xs.length=ops.size:=by rw[compXOs_len hx];simp
 have hd:=dep_eq (ops:=ops) hdep
 have hsame:=hr.mem.same (w':={w with drawn:=w.drawn+1}) rfl ⟨rfl,rfl,fun _=>⟨rfl,Nat.le_succ _⟩⟩
 refine(any_sound (an:=tbN (ancTab dep ord [])) (ancTab_ok hd (fun j i hi=>by simp[tbN,aget]at hi)) (fun i k hk=>?_) (n:=s.S.n) (TF:=aget s'.S.t) (HF:=aget s'.S.h) ops.size _ es F ρ (aget s.S.t) (aget s.S.h) a _ ?_ (pairs_of hd (by rw[k1];exact b5) hH k6) (by simp) (fun i=>?_) k3 (fun j hj=>?_) k4 ?_ ?_)
 ·rw[hd]at hk
  simp only[depN]at hk
  cases e:nth? dep i with
  |none=>rw[e]at hk;simp at hk
  |some l=>
   rw[e]at hk
   rw[← hlen]
   exact depB_ok b3 l (nth?_mem e) k (by simpa using hk)
 ·have hk:∀(l:List (Nat×Ent)),(keys l).length=l.length:=fun l=>by
   induction l with
   |nil=>rfl
   |cons p r ih=>obtain⟨i,e⟩:=p;simp[keys,ih]
  rw[← hk es,k1,Nat.eq_of_beq_eq_true b1,hlen]
 ·rw[k1]
  have:(Array.replicate ops.size false).getD i true=false↔i<ops.size:=by
   by_cases h:i<ops.size<;>simp[Array.getD,h]
  rw[this,← hlen]
  exact⟨allMem_ok b2 i,allLt_ok b4 i⟩
 ·exfalso
  by_cases h:j<ops.size<;>simp[Array.getD,h]at hj
 ·exact⟨hr.size,fun t v h=>(hr.tmps t v h).mono hsame.2.1.frz hsame.2.1.keep hsame.2.2,hsame.1,hr.defs.ext hsame.2.1 rfl⟩
 ·intro a' w' F' ρ' h1 h2 h3 h4
  refine hQ a' w' F' ρ' ?_ (hsame.2.1.trans h2) (hsame.2.2.trans h3) h4
  unfold RS;rw[k2];exact h1

theorem evC_sound (hcm:G.cm=cmOf P)(hmx:P.follows .mixedOrders=true)(htb:TBok P G tb){rid:Option Nat}{c0:Nat}:∀(n:Nat) (xc:XC) (s:EvS) (e:Ex) (s':EvS),evC G tb rid c0 n xc s=some (e,s')→
  WrOk c0 s.wr s'.wr (aget s.S.h) (aget s'.S.h)∧∀md:Md,md.rid=rid→WpX P G md xc s.S (fun e' S'=>e'=e∧S'=s'.S):=by
 intro n
 induction n with
 |zero=>intro xc s e s' h;simp[evC]at h
 |succ n ih=>
  intro xc s e s' h
  cases xc with
  |skip=>simp only[evC]at h;cases h;exact⟨.refl _ _ _,fun md hmd=>wpX_skip hcm ⟨rfl,rfl⟩⟩
  |exit id=>simp only[evC]at h;cases h;exact⟨.refl _ _ _,fun md hmd=>wpX_exit hcm ⟨rfl,rfl⟩⟩
  |bad=>simp[evC]at h
  |scope x=>
   simp only[evC]at h
   obtain⟨w1,p1⟩:=ih _ _ _ _ h
   exact⟨w1,fun md hmd=>wpX_scope hcm (p1 md hmd)⟩
  |ret=>simp only[evC]at h;cases h;exact⟨.refl _ _ _,fun md hmd=>wpX_ret hcm ⟨rfl,rfl⟩⟩
  |reg st xs dead=>
   simp only[evC]at h
   split at h
   ·rename_i s1 he
    cases h
    refine⟨?_,fun md hmd=>?_⟩
    ·-- what is written does not hang on the code
     exact(exOpsE_wr he:WrOk c0 s.wr s1.wr (aget s.S.h) (aget s1.S.h))
    ·intro c hcc F ρ a w ro hr hro
     obtain⟨id,ops,rfl,hx⟩:=cm_reg hcm hcc
     refine(wpR_region (R:=fun a' w'=>Aft G md F ρ (aget s.S.h) w a.defers (delS s1.S dead) a' w') (compXOs_defer hx) ?_).mono ?_
     ·rw[List.range_eq_range']
      have:=(exOpsE_sound (R:=fun a' w'=>Aft G md F ρ (aget s.S.h) w a.defers (delS s1.S dead) a' w') htb ops.toList 0 xs s s1 F ρ a w (by simp) hx he).2 hr (fun a' w' F' ρ' q1 q2 q3 q4=>⟨F',ρ',delS_rs q1,q2,q3.kp,DX.of_eq q4⟩)
      simpa using this
     ·rintro e a' w' ⟨rfl,h⟩
      exact⟨_,⟨rfl,rfl⟩,h⟩
   ·cases h
  |draw st xs dep ord dead=>
   simp only[evC,cond_eq_ite]at h
   split at h
   ·rename_i hT
    split at h
    ·rename_i s1 es he
     split at h
     ·rename_i hH
      cases h
      refine⟨(exEntsE_wr he:WrOk c0 s.wr s1.wr (aget s.S.h) (aget s1.S.h)),fun md hmd=>?_⟩
      intro c hcc F ρ a w ro hr hro
      obtain⟨id,ops,rfl,hx,hd⟩:=cm_draw hcm hcc
      refine(wpR_draw (R:=fun a' w'=>Aft G md F ρ (aget s.S.h) w a.defers (delS s1.S dead) a' w') hmx (compXOs_defer hx) (drawE_sound htb hx hd hT he hH hr fun a' w' F' ρ' q1 q2 q3 q4=>⟨F',ρ',delS_rs q1,q2,q3.kp,DX.of_eq q4⟩)).mono ?_
      rintro e a' w' ⟨rfl,h⟩
      exact⟨_,⟨rfl,rfl⟩,h⟩
     ·cases h
    ·cases h
   ·cases h
  |seq x y=>
   simp only[evC]at h
   split at h
   ·rename_i e1 s1 h1
    obtain⟨w1,p1⟩:=ih _ _ _ _ h1
    split at h
    ·obtain⟨w2,p2⟩:=ih _ _ _ _ h
     refine⟨w1.trans w2,fun md hmd=>wpX_seq hcm ((p1 md hmd).mono ?_)⟩
     rintro e' S' ⟨rfl,rfl⟩
     exact .inl ⟨rfl,p2 md hmd⟩
    ·rename_i hne
     cases h
     refine⟨w1,fun md hmd=>wpX_seq hcm ((p1 md hmd).mono ?_)⟩
     rintro e' S' ⟨rfl,rfl⟩
     exact .inr ⟨fun e=>hne e,rfl,rfl⟩
   ·cases h
  |cond o x y=>
   simp only[evC]at h
   split at h
   ·rename_i v hv
    split at h
    ·obtain⟨w1,p1⟩:=ih _ _ _ _ h
     exact⟨w1,fun md hmd=>wpX_cond hcm hv (fun _=>p1 md hmd) (fun e=>by cases e)⟩
    ·obtain⟨w1,p1⟩:=ih _ _ _ _ h
     exact⟨w1,fun md hmd=>wpX_cond hcm hv (fun e=>by cases e) (fun _=>p1 md hmd)⟩
   ·cases h
  |block id x=>
   simp only[evC]at h
   split at h
   ·rename_i e1 s1 h1
    obtain⟨w1,p1⟩:=ih _ _ _ _ h1
    split at h
    ·rename_i i
     cases h
     refine⟨w1,fun md hmd=>wpX_block hcm ((p1 md hmd).mono ?_)⟩
     rintro e' S' ⟨rfl,rfl⟩
     by_cases hi:i=id
     ·subst hi;exact .inl ⟨rfl,by rw[beq_self,cond_true],rfl⟩
     ·exact .inr ⟨fun e=>hi (by cases e;rfl),by rw[beq_ne hi,cond_false],rfl⟩
    ·rename_i hne
     cases h
     refine⟨w1,fun md hmd=>wpX_block hcm ((p1 md hmd).mono ?_)⟩
     rintro e' S' ⟨rfl,rfl⟩
     exact .inr ⟨fun e=>hne _ e,rfl,rfl⟩
   ·cases h
  |loop x=>
   simp only[evC]at h
   split at h
   ·rename_i e1 s1 h1
    obtain⟨w1,p1⟩:=ih _ _ _ _ h1
    split at h
    ·obtain⟨w2,p2⟩:=ih _ _ _ _ h
     refine⟨w1.trans w2,fun md hmd=>wpX_loop1 hcm ((p1 md hmd).mono ?_)⟩
     rintro e' S' ⟨rfl,rfl⟩
     exact .inl ⟨rfl,p2 md hmd⟩
    ·rename_i hne
     cases h
     refine⟨w1,fun md hmd=>wpX_loop1 hcm ((p1 md hmd).mono ?_)⟩
     rintro e' S' ⟨rfl,rfl⟩
     exact .inr ⟨fun e=>hne e,rfl,rfl⟩
   ·cases h
  |rangeF g ps as bd=>
   simp only[evC]at h
   split at h
   ·rename_i f a0 cp hg
    simp only[cond_eq_ite]at h
    split at h
    ·rename_i hrid
     split at h
     ·rename_i hfr
      split at h
      ·rename_i D hD
       split at h
       ·rename_i hc2
        rw[Bool.and_eq_true]at hc2
        split at h
        ·rename_i l2 hl2
         split at h
         ·rename_i e2 hp
          split at h
          ·cases h
          ·rename_i hst
           cases h
           refine⟨fun i hi hlt=>?_,fun md hmd=>?_⟩
           ·obtain⟨q1,q2⟩:=addW_ok hi hlt
            simp only[keys,List.mem_cons,not_or]at q2
            refine⟨q1,?_⟩
            simp only[aget_aset]
            rw[upd_other _ _ q2.1,asets_aset,updL_nokey q2.2,upd_other _ _ q2.1]
           ·refine wpX_rangeF hcm hg (fun l0 e0=>?_) (freshA_ok hfr _ (by simp)) (freshA_ok hc2.1) ?_ hl2 hp (fun e1=>hst (by rw[e1];rfl)) ⟨rfl,rfl⟩
            ·rw[hmd]at e0
             rw[e0]at hrid
             simp only[ridB]at hrid
             split at hrid
             ·rename_i L hL;exact⟨L,hL⟩
             ·cases hrid
            ·intro F ρ w xs hm hv
             exact callD_sound hm (fun _ _ h=>h) hD (callD_cs htb hD) (freshA_ok hc2.1) hv
         ·cases h
        ·cases h
       ·cases h
      ·cases h
     ·cases h
    ·cases h
   ·cases h

theorem stOf_ready {n:Nat}(h:Nat.beq n 0=true):stOf n=.ready:=by rw[Nat.eq_of_beq_eq_true h];rfl

theorem updL_from {look A:Nat→Option HO}:∀{ws:List (Nat×HO)} {i:Nat},(∀p,p∈ws→look p.1=some p.2)→i∈keys ws→updL A ws i=look i
 |[],i,h,hi=>by simp[keys]at hi
 |(j,o)::r,i,h,hi=>by
  simp only[updL]
  by_cases hr:i∈keys r
  ·exact updL_from (fun p hp=>h p (by simp[hp])) hr
  ·simp only[keys,List.mem_cons]at hi
   have:i=j:=hi.resolve_right hr
   subst this
   rw[updL_nokey hr,upd_same]
   exact(h (i,o) (by simp)).symm

theorem wsOf_mem {h0:List Nat}{c0:Nat}{wr:List Nat}:∀{h:List (Nat×HO)},(∀p,p∈wsOf h0 c0 wr h→p∈h)∧(∀i,i∈keys h→i∉keys (wsOf h0 c0 wr h)→i∈h0∧i<c0∧i∉wr)
 |[]=>⟨fun p hp=>by simp[wsOf]at hp,fun i hi=>by simp[keys]at hi⟩
 |(j,o)::r=>by
  obtain⟨h1,h2⟩:=wsOf_mem (h0:=h0) (c0:=c0) (wr:=wr) (h:=r)
  simp only[wsOf]
  generalize hq:(cond (memN j h0) (cond (Nat.ble c0 j) true (memN j wr)) true)=q
  cases q with
  |true=>
   rw[cond_true]
   refine⟨fun p hp=>?_,fun i hi hn=>?_⟩
   ·rcases List.mem_cons.1 hp with rfl|hp
    ·simp
    ·exact List.mem_cons_of_mem _ (h1 p hp)
   ·simp only[keys,List.mem_cons,not_or]at hi hn
    exact h2 i (hi.resolve_left hn.1) hn.2
  |false=>
   rw[cond_false]
   refine⟨fun p hp=>List.mem_cons_of_mem _ (h1 p hp),fun i hi hn=>?_⟩
   simp only[keys,List.mem_cons]at hi
   rcases hi with rfl|hi
   ·cases hm:memN i h0 with
    |false=>rw[hm]at hq;cases hq
    |true=>
     rw[hm,cond_true]at hq
     cases hb:Nat.ble c0 i with
     |true=>rw[hb]at hq;cases hq
     |false=>
      rw[hb,cond_false]at hq
      refine⟨memN_iff.1 hm,?_,fun h=>by rw[memN_iff.2 h]at hq;cases hq⟩
      exact Nat.lt_of_not_le fun h=>by rw[Nat.ble_eq_true_of_le h]at hb;cases hb
   ·exact h2 i hi hn

theorem readF_mem {look:Nat→Option HO}:∀{l:List Nat} {p:Nat×HO},p∈readF look l→look p.1=some p.2
 |[],p,h=>by simp[readF]at h
 |i::r,p,h=>by
  simp only[readF]at h
  split at h
  ·rename_i o ho
   rcases List.mem_cons.1 h with rfl|h
   ·exact ho
   ·exact readF_mem h
  ·exact readF_mem h

theorem finE_ok {h:List (Nat×HO)}{c0:Nat}{s:EvS}{vals:List AV}{D:Delta}(hD:finE (keys h) c0 s vals=some D)(hwr:WrOk c0 [] s.wr (aget h) (aget s.S.h)){F':Nat→Prop}{ρ':Nat→Option Nat}{w2:World}
  (q1:MRel G F' ρ' (aget s.S.h) w2) {xs:List Value} (hv:RelVs w2 F' ρ' (aget s.S.h) vals xs) (q3:Ext G F ρ w F' ρ' w2) (q4:HKp (keys h) w ρ (aget h) w2 ρ' (aget s.S.h)):
  D.cs=[]∧KD G F ρ (aget h) w D (unT xs) w2:=by
 unfold finE at hD
 simp only[cond_eq_ite]at hD
 split at hD
 ·rename_i hc
  rw[Bool.and_eq_true]at hc
  obtain⟨c1,c2⟩:=hc
  cases hD
  refine⟨rfl,?_⟩
  generalize hh:readF (aget s.S.h) (reachW (aget s.S.h) 1000000 (refsL vals++keys h) [])=h2 at*
  have hsub:∀id o,aget h2 id=some o→aget s.S.h id=some o:=fun id o e=>readF_get (by rw[hh];exact e)
  have hmem:∀p,p∈h2→aget s.S.h p.1=some p.2:=fun p hp=>readF_mem (by rw[hh];exact hp)
  have hks:=allIn_ok c1
  have hin:∀i,i∈keys h2→aget h2 i=aget s.S.h i∧partR h2 ρ' i=ρ' i:=fun i hi=>by
   obtain⟨o,ho⟩:=key_aget.1 hi
   exact⟨by rw[ho,hsub i o ho],by simp[partR,hi]⟩
  have heq:updL (aget h) (wsOf (keys h) c0 s.wr h2)=aget h2:=by
   funext i
   obtain⟨m1,m2⟩:=wsOf_mem (h0:=keys h) (c0:=c0) (wr:=s.wr) (h:=h2)
   by_cases hi:i∈keys (wsOf (keys h) c0 s.wr h2)
   ·rw[updL_from (look:=aget s.S.h) (fun p hp=>hmem p (m1 p hp)) hi]
    refine((hin i ?_).1).symm
    obtain⟨o,ho⟩:=key_aget.1 hi
    have:=m1 _ (aget_mem ho)
    clear ho
    revert this
    generalize h2=l
    induction l with
    |nil=>intro h;simp at h
    |cons p l ih=>
     obtain⟨j,u⟩:=p
     intro h
     simp only[keys,List.mem_cons]
     rcases List.mem_cons.1 h with e|h
     ·cases e;exact .inl rfl
     ·exact .inr (ih h)
   ·rw[updL_nokey hi]
    by_cases hi2:i∈keys h2
    ·obtain⟨_,g2,g3⟩:=m2 i hi2 hi
     rw[(hin i hi2).1,(hwr i g3 g2).2]
    ·have h1:aget h2 i=none:=by
      cases e:aget h2 i with
      |none=>rfl
      |some o=>exact absurd (key_aget.2 ⟨o,e⟩) hi2
     rw[h1]
     cases e:aget h i with
     |none=>rfl
     |some o=>exact absurd (hks i (by simp[key_aget.2 ⟨o,e⟩])) hi2
  refine⟨F',partR h2 ρ',?_,?_,?_,?_⟩
  ·simp only[heq];exact q1.part hsub c2
  ·refine⟨q3.io,q3.size,q3.same,q3.frz,q3.keep,q3.more,fun id b hb=>q3.im id b ?_⟩
   simp only[partR]at hb
   split at hb
   ·exact hb
   ·cases hb
  ·simp only[heq]
   refine⟨fun id o h1 h2=>?_,fun id k h1=>?_,q4.sz,fun id k l v h1=>?_⟩
   ·have hk:id∈keys h:=key_aget.2 ⟨o,h1⟩
    obtain⟨o',g1,g2,g3⟩:=q4.box id o hk h1 h2
    obtain⟨e1,e2⟩:=hin id (hks id (by simp[hk]))
    exact⟨o',e1.trans g1,g2,e2.trans g3⟩
   ·have hk:id∈keys h:=key_aget.2 ⟨_,h1⟩
    obtain⟨k',g1,g2,g3,g4⟩:=q4.blk id k hk h1
    obtain⟨e1,e2⟩:=hin id (hks id (by simp[hk]))
    refine⟨k',e1.trans g1,g2,g3,fun e=>?_⟩
    obtain⟨p1,p2,p3,p4⟩:=g4 e
    exact⟨p1,p2,p3,e2.trans p4⟩
   ·have hk:id∈keys h:=key_aget.2 ⟨_,h1⟩
    obtain⟨k',l',v',g1,g2,g3⟩:=q4.que id k l v hk h1
    obtain⟨e1,e2⟩:=hin id (hks id (by simp[hk]))
    refine⟨k',l',v',e1.trans g1,g2,fun e=>?_⟩
    obtain⟨p1,p2,p3,p4⟩:=g3 e
    exact⟨p1,p2,e2.trans p3,p4⟩
  ·simp only[heq]
   have:=RelVs.move (D:=fun i=>i∈keys h2) hin hv (fun i hi=>hks i (by simp[hi]))
   exact retV_rel this
 ·cases hD

end
end Go.Ab

/-
 Calls and rounds run by the function: sound.
-/
set_option linter.unusedVariables false
set_option linter.unusedSimpArgs false
namespace Go.Ab
open Go

section
variable {P:Program}{G:GL}{md:Md}{F:Nat→Prop}{ρ:Nat→Option Nat}{H:Nat→Option HO}{a:Act}{w w':World}{ops:Array Oper}{tb:TB}

def XpOk (P:Program)(xp:Nat→Option FnE):Prop:=∀f fe,xp f=some fe→∃fn c,P.funcs[f]? =some fn∧(fn.name=="runtime.NumGoroutine")=false∧fn.body=some c∧cmOf P c fe.xc∧resT P fn.results.toList=some fe.rts∧fn.ntmps=fe.n
def NatOk (P:Program)(nat:Nat→List AV→Option AV):Prop:=∀f args v,nat f args=some v→∀F ρ H w (xs:Array Value),RelVs w F ρ H args xs.toList→∃y,(callFunc f xs).run P w=.ok (.value y) w∧RelV w F ρ H v y

theorem setPs_rel:∀{ps:List Nat} {qs:List Nat} {vs:List AV} {t:List (Nat×AV)} {tmps:Array Value} {xs:List Value},RelVs w F ρ H vs xs→(∀i v,aget t i=some v→RelV w F ρ H v (tmps.getD i undef))→allLtP tmps.size ps=true→
  ∀i v,aget (setPs t ps vs) i=some v→RelV w F ρ H v (((ps.zip xs).foldl (fun(tmps:Array Value) (p:Nat×Value)=>tmps.setIfInBounds p.1 p.2) tmps).getD i undef)
 |[],qs,vs,t,tmps,xs,hv,ht,hl,i,v,h=>by
  simp only[setPs]at h
  simpa using ht i v h
 |p::ps,qs,[],t,tmps,xs,hv,ht,hl,i,v,h=>by
  cases hv
  simp only[setPs]at h
  simpa using ht i v h
 |p::ps,qs,u::vs,t,tmps,xs,hv,ht,hl,i,v,h=>by
  cases hv with
  |cons _ _ x xs hx hxs=>
   simp only[setPs]at h
   simp only[allLtP,cond_eq_ite]at hl
   split at hl
   ·rename_i hlt
    simp only[List.zip_cons_cons,List.foldl_cons]
    refine setPs_rel (qs:=qs) hxs (fun j y hy=>?_) (by simpa using hl) i v h
    rw[aget_aset]at hy
    have hlt':p<tmps.size:=Nat.le_of_ble_eq_true hlt
    by_cases e:j=p
    ·subst e
     rw[upd_same]at hy;cases hy
     rw[Array.getD_eq_getD_getElem?,Array.getElem?_setIfInBounds_self,if_pos hlt']
     exact hx
    ·rw[upd_other _ _ e]at hy
     have:=ht j y hy
     rw[Array.getD_eq_getD_getElem?]at this ⊢
     rw[Array.getElem?_setIfInBounds_ne (Ne.symm e)]
     exact this
   ·cases hl

theorem setPs_size {ps:List Nat}:∀{xs:List Value} {tmps:Array Value},((ps.zip xs).foldl (fun(tmps:Array Value) (p:Nat×Value)=>tmps.setIfInBounds p.1 p.2) tmps).size=tmps.size:=by
 intro xs tmps
 generalize ps.zip xs=l
 induction l generalizing tmps with
 |nil=>rfl
 |cons p l ih=>rw[List.foldl_cons,ih];simp

theorem round_fold {ps:Array Nat}{xs:Array Value}{tmps:Array Value}:((ps.zip xs).foldl (fun tmps (t,a)=>tmps.setIfInBounds t a) tmps)=(ps.toList.zip xs.toList).foldl (fun(tmps:Array Value) (p:Nat×Value)=>tmps.setIfInBounds p.1 p.2) tmps:=by
 rw[← Array.foldl_toList,Array.toList_zip]

theorem yld_sound (hcm:G.cm=cmOf P){id:Nat}{l:LoopS}{h:List (Nat×HO)}(hl:aget h id=some (.loop l))(hst:Nat.beq l.st 0=true){args:List AV}(hlen:Nat.beq args.length l.ps.length=true)(hps:allLtP l.n l.ps=true)
  {S1 S2:St} (h1:WpX P G ⟨some id,keys h⟩ l.as ⟨setPs l.t l.ps args,h,l.n⟩ (fun e S'=>e=.normal∧S'=S1)) {l1:LoopS} (hl1:aget S1.h id=some (.loop l1)) (hst1:Nat.beq l1.st 0=true)
  {e:Ex} (h2:WpX P G ⟨some id,keys h⟩ l.bd {S1 with h:=aset S1.h id (.loop {l1 with st:=1})} (fun e' S'=>e'=e∧S'=S2)) {l2:LoopS} (hl2:aget S2.h id=some (.loop l2))
  {D:Delta} (hfin:∀F ρ w F' ρ' w2,MRel G F ρ (aget h) w→MRel G F' ρ' (aget (aset S2.h id (.loop {l2 with st:=cond e.isN 0 2,pend:=cond e.isN none (some e)}))) w2→Ext G F ρ w F' ρ' w2→
   HKp (keys h) w ρ (aget h) w2 ρ' (aget (aset S2.h id (.loop {l2 with st:=cond e.isN 0 2,pend:=cond e.isN none (some e)})))→KD G F ρ (aget h) w D (.bool e.isN) w2):SpecD P G (.yld id) args h D.v D.ws D.al:=by
 intro F ρ w xs hm hv b hb
 obtain⟨b',z1,z2,r,z3,z4⟩:=hm.heap id _ hl
 rw[hb]at z1;cases z1
 have hargs:xs.size=r.params.size:=by
  have e1:=hv.len
  have e2:=Nat.eq_of_beq_eq_true hlen
  have e3:r.params.toList.length=l.ps.length:=by rw[z4.ps]
  simp at e1 e3
  omega
 refine .inr (.inr ⟨b,r.fn,_,r.assign,r.body,w,run_yield z3 hargs,fun c cs=>?_⟩)
 rw[round_fold,z4.ps]
 let tm:Array Value:=(l.ps.zip xs.toList).foldl (fun(tmps:Array Value) (p:Nat×Value)=>tmps.setIfInBounds p.1 p.2) r.tmps
 have htm:∀i v,aget (setPs l.t l.ps args) i=some v→RelV w F ρ (aget h) v (tm.getD i undef):=setPs_rel (qs:=[]) hv z4.tmps (by rw[z4.size];exact hps)
 let b0:Frame:={(default:Frame)with fn:=r.fn,kind:=.normal,roundOf:=some b}
 have hb0:Frame.round b r.fn tm r.assign r.body .normal=b0.atR {tmps:=tm,defers:=[]} [.code r.assign,.beginRound,.code r.body]:=by simp[Frame.round,Frame.atR,b0]
 have hr0:RS G F ρ ⟨setPs l.t l.ps args,h,l.n⟩ {tmps:=tm,defers:=[]} w:=⟨by show tm.size=l.n;rw[← z4.size];exact setPs_size,htm,hm,⟨[],by simp,rfl,fun r hr=>by simp at hr⟩⟩
 have hro0:RoOk ⟨some id,keys h⟩ ρ (aget h) (some b):=⟨b,_,rfl,hb,hl,rfl⟩
 obtain⟨e1,a1,w1,⟨S',⟨rfl,rfl⟩,F1,ρ1,r1,x1,k1,_⟩,harr⟩:=h1 r.assign z4.as F ρ _ w (some b) hr0 hro0 b0 [.beginRound,.code r.body] (c::cs) rfl
 have hks:(⟨some id,keys h⟩:Md).ks=id::keys h:=rfl
 rw[hks]at k1
 have hid1:ρ1 id=some b:=by
  obtain⟨o',g1,g2,g3⟩:=k1.box id _ (by simp) hl rfl
  exact g3.trans hb
 -- the record is busy
 obtain⟨b1,y1,y2,rr,y3,y4⟩:=r1.mem.heap id _ hl1
 rw[hid1]at y1;cases y1
 have hbr:=run_beginRound (P:=P) y3 (by rw[y4.st];exact stOf_ready hst1)
 have hlt1:=lt_of_some y3
 obtain⟨m2,x2,k2⟩:=r1.mem.write (w':=w1.putObj b (.loop {rr with state:=.busy})) (o':=.loop {l1 with st:=1}) hl1 hid1 y2 (World.putObj_heap_same hlt1) (fun j hj=>World.putObj_heap_other hj) World.putObj_size ⟨rfl,rfl,fun _=>⟨rfl,Nat.le_refl _⟩⟩
  (fun cs ty fz h=>by rw[y3]at h;cases h) rfl (fun k h=>by cases h)
  (fun hk=>⟨b,hid1,y2,_,World.putObj_heap_same hlt1,⟨rfl,y4.pend,y4.size,fun t v h=>(y4.tmps t v h).mono (fun b' hb'=>World.putObj_heap_other (fun(e:b'=b)=>y2 (by rw[← e];exact hb'))) (fun _ h=>h) hk,y4.ps,y4.as,y4.bd⟩⟩)
 rw[← aget_aset]at m2 k2
 have r2:RS G F1 ρ1 {S' with h:=aset S'.h id (.loop {l1 with st:=1})} a1 (w1.putObj b (.loop {rr with state:=.busy})):=⟨r1.size,fun t v h=>(r1.tmps t v h).mono x2.frz x2.keep k2,m2,r1.defs.ext x2 rfl⟩
 have hro2:RoOk ⟨some id,keys h⟩ ρ1 (aget (aset S'.h id (.loop {l1 with st:=1}))) (some b):=⟨b,.loop {l1 with st:=1},rfl,hid1,by rw[aget_aset,upd_same],rfl⟩
 have s1:Steps P (lone (b0.atR a1 [.beginRound,.code r.body]) (c::cs) w1) (lone (b0.atR a1 [.code r.body]) (c::cs) (w1.putObj b (.loop {rr with state:=.busy}))):=.one (stepR_beginRound rfl hbr)
 obtain⟨e2,a2,w3,⟨S'',⟨rfl,rfl⟩,F3,ρ3,r3,x3,k3,_⟩,harr2⟩:=h2 r.body z4.bd F1 ρ1 _ _ (some b) r2 hro2 b0 [] (c::cs) rfl
 rw[hks]at k3
 have hid3:ρ3 id=some b:=by
  obtain⟨o',g1,g2,g3⟩:=k3.box id (.loop {l1 with st:=1}) (by simp) (by simp only;rw[aget_aset,upd_same]) rfl
  exact g3.trans hid1
 obtain⟨b3,u1,u2,rq,u3,u4⟩:=r3.mem.heap id _ hl2
 rw[hid3]at u1;cases u1
 have hlt3:=lt_of_some u3
 -- how the round is left
 let jump:Option Code:=cond e2.isN none (some e2.code)
 have hend:=run_endRound (P:=P) jump u3
 have hjn:jump.isNone=e2.isN:=by cases e2<;>rfl
 rw[hjn]at hend
 obtain⟨m4,x4,k4⟩:=r3.mem.write (w':=w3.putObj b (.loop {rq with state:=if e2.isN then .ready else .done,pending:=jump})) (o':=.loop {l2 with st:=cond e2.isN 0 2,pend:=cond e2.isN none (some e2)}) hl2 hid3 u2 (World.putObj_heap_same hlt3) (fun j hj=>World.putObj_heap_other hj) World.putObj_size ⟨rfl,rfl,fun _=>⟨rfl,Nat.le_refl _⟩⟩
  (fun cs ty fz h=>by rw[u3]at h;cases h) rfl (fun k h=>by cases h)
  (fun hk=>⟨b,hid3,u2,_,World.putObj_heap_same hlt3,⟨by cases e2<;>rfl,by cases e2<;>rfl,u4.size,fun t v h=>(u4.tmps t v h).mono (fun b' hb'=>World.putObj_heap_other (fun(e:b'=b)=>u2 (by rw[← e];exact hb'))) (fun _ h=>h) hk,u4.ps,u4.as,u4.bd⟩⟩)
 rw[← aget_aset]at m4 k4
 have hkp:HKp (keys h) w ρ (aget h) (w3.putObj b (.loop {rq with state:=if e2.isN then .ready else .done,pending:=jump})) ρ3 (aget (aset S''.h id (.loop {l2 with st:=cond e2.isN 0 2,pend:=cond e2.isN none (some e2)}))):=by
  have sub:∀{w w':World} {ρ ρ':Nat→Option Nat} {h1 h2:Nat→Option HO},HKp (id::keys h) w ρ h1 w' ρ' h2→HKp (keys h) w ρ h1 w' ρ' h2:=fun k=>⟨fun i o hi=>k.box i o (by simp[hi]),fun i o hi=>k.blk i o (by simp[hi]),k.sz,fun i q l v hi=>k.que i q l v (by simp[hi])⟩
  exact(((sub k1).trans k2.kp).trans (sub k3)).trans k4.kp
 have hK:=hfin F ρ w F3 ρ3 _ hm m4 (((x1.trans x2).trans x3).trans x4) hkp
 refine⟨.bool e2.isN,_,hK,?_⟩
 have hfirst:Steps P (lone (Frame.round b r.fn tm r.assign r.body .normal) (c::cs) w) (lone (b0.atR a1 [.code r.body]) (c::cs) (w1.putObj b (.loop {rr with state:=.busy}))):=by
  rw[hb0];exact Steps.trans harr s1
 cases e2 with
 |normal=>exact hfirst.trans (Steps.trans harr2 (.one (stepR_round_end rfl rfl hend)))
 |ret=>
  obtain⟨todo,hs⟩:=harr2
  exact hfirst.trans (hs.trans (.one (stepR_round_ret rfl rfl hend)))
 |exit i=>
  obtain⟨k0,hk0,hs⟩:=harr2
  exact hfirst.trans (hs.trans (.one (stepR_round_exit rfl rfl (by rw[hk0];rfl) hend)))

theorem finE_cs {h0:List Nat}{c0:Nat}{s:EvS}{vals:List AV}{D:Delta}(hD:finE h0 c0 s vals=some D):D.cs=[]:=by
 unfold finE at hD
 simp only[cond_eq_ite]at hD
 split at hD
 ·cases hD;rfl
 ·cases hD

end
end Go.Ab

/-
 Functions that are known: what a program's functions compile to.
-/
set_option linter.unusedVariables false
set_option linter.unusedSimpArgs false
namespace Go.Ab
open Go

def chkF (P:Program)(hs:Hints)(fn:Func):Option FnE:=
 match fn.body with
 |some c=>match compC P hs c,resT P fn.results.toList with
  |some xc,some rts=>cond (fn.name=="runtime.NumGoroutine") none (some ⟨fn.ntmps,rts,xc⟩)
  |_,_=>none
 |none=>none
def FnOk (P:Program)(f:Nat)(fe:FnE):Prop:=∃fn c,P.funcs[f]? =some fn∧(fn.name=="runtime.NumGoroutine")=false∧fn.body=some c∧cmOf P c fe.xc∧resT P fn.results.toList=some fe.rts∧fn.ntmps=fe.n
theorem fnOk_of {P:Program}{f:Nat}{fn:Func}{hs:Hints}{fe:FnE}(h1:P.funcs[f]? =some fn)(h2:chkF P hs fn=some fe):FnOk P f fe:=by
 unfold chkF at h2
 split at h2
 ·rename_i c hc
  split at h2
  ·rename_i xc rts hx hr
   rw[cond_eq_ite]at h2
   split at h2
   ·cases h2
   ·rename_i hn
    cases h2
    exact⟨fn,c,h1,by simpa using hn,hc,⟨hs,hx⟩,hr,rfl⟩
  ·cases h2
 ·cases h2
def AllF (P:Program):List (Nat×FnE)→Prop
 |[]=>True
 |(f,fe)::r=>FnOk P f fe∧AllF P r
theorem xpOk_of {P:Program}:∀{l:List (Nat×FnE)},AllF P l→XpOk P (aget l)
 |[],h,f,fe,hf=>by cases hf
 |(g,fe)::r,h,f,fe',hf=>by
  simp only[aget]at hf
  by_cases e:g=f
  ·subst e;rw[beq_self,cond_true]at hf;cases hf;exact h.1
  ·rw[beq_ne e,cond_false]at hf;exact xpOk_of h.2 f fe' hf

end Go.Ab
