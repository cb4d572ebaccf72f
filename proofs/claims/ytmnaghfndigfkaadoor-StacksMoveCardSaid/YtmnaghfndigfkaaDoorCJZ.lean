/-
 Neighbours, squares, outlines: the contracts; the map of a set.
-/
import Derived.Test.YtmnaghfndigfkaaDoorOBZ
import Derived.Test.YtmnaghfndigfkaaDoorCEZ
set_option maxRecDepth 1000000
set_option linter.unusedVariables false
set_option linter.unusedSimpArgs false
namespace Go.Proofs.YtmnaghfndigfkaaDoor.X
open Go Go.Ab

theorem inR_of {a x:Int}(h1: -10000≤a+x)(h2:a+x≤10000):inR .i64 (a+x)=true:=inR_i64.2 (by omega)
/-! ### The map -/
theorem kyC_inj {a b:Cl}(h:kyC a=kyC b):a=b:=by
 obtain⟨x,y,q⟩:=a
 obtain⟨x',y',q'⟩:=b
 simp only[kyC,List.cons.injEq,and_true]at h
 simp only[Prod.mk.injEq]
 exact h
theorem rep_cons {e:List Int×List Int×Nat}{es:ME}{L:List Cl}(h:repM (e::es) L):∃c r,L=c::r∧e.1=kyC c∧e.2.1=[1]∧c∉r∧repM es r:=by
 obtain⟨h1,h2⟩:=h
 cases L with
 |nil=>simp at h1
 |cons c r=>
  simp only[List.map_cons,List.cons.injEq,Prod.mk.injEq]at h1
  obtain⟨n1,n2⟩:=List.nodup_cons.1 h2
  exact⟨c,r,rfl,h1.1.1,h1.1.2,n1,h1.2,n2⟩
theorem mput_rep:∀{es:ME} {L:List Cl} (h:repM es L) {c:Cl} (hc:c∉L) (k:Nat),repM (mput es (kyC c) [1] k) (L++[c])
 |[],L,h,c,hc,k=>by
  have:L=[]:=by have:=h.1;simpa using this.symm
  subst this
  exact⟨rfl,by simp⟩
 |e::es,L,h,c,hc,k=>by
  obtain⟨d,r,rfl,h1,h2,h3,h4⟩:=rep_cons h
  simp only[List.mem_cons,not_or]at hc
  have ih:=mput_rep h4 hc.2 k
  simp only[mput]
  rw[h1,decide_eq_false (fun he=>hc.1 (kyC_inj he)),cond_false]
  refine⟨?_,?_⟩
  ·rw[List.cons_append,List.map_cons,List.map_cons,ih.1,h1,h2]
  ·rw[List.cons_append]
   refine List.nodup_cons.2 ⟨?_,ih.2⟩
   rw[List.mem_append,List.mem_singleton,not_or]
   exact⟨h3,fun e=>hc.1 e.symm⟩
theorem memS_rep:∀(l:List Cl) {es:ME} {k:Nat} {M:List Cl},repM es M→(M++l).Nodup→repM (memS l (es,k)).1 (M++l)
 |[],es,k,M,h,_=>by rw[List.append_nil];exact h
 |c::r,es,k,M,h,hn=>by
  have hc:c∉M:=by
   rw[List.nodup_append]at hn
   exact fun hm=>hn.2.2 c hm c (List.mem_cons_self ..) rfl
  have ih:=memS_rep r (k:=mck es (kyC c) k) (mput_rep h hc k) (by rw[List.append_assoc];exact hn)
  rw[List.append_assoc]at ih
  exact ih
theorem srt_nodup {l:List Cl}(h:Srt l):l.Nodup:=List.Pairwise.imp (fun{a b} hab e=>by rw[e,ltC_irr]at hab;cases hab) h
theorem badL_vld:∀{l:List Cl},badL l=false→∀x∈l,vldC x=true
 |[],_,x,hx=>by simp at hx
 |c::r,h,x,hx=>by
  simp only[badL]at h
  cases hv:vldC c with
  |false=>rw[hv]at h;cases h
  |true=>
   rw[hv,cond_true]at h
   rcases List.mem_cons.1 hx with rfl|hx
   ·exact hv
   ·exact badL_vld h x hx
theorem chk0 {l:List Cl}(h:chkI l=0):l.length≤1024∧(∀x∈l,vldC x=true)∧Srt l:=by
 unfold chkI at h
 by_cases hl:1024<l.length
 ·rw[decide_eq_true hl]at h;cases h
 ·rw[decide_eq_false hl,cond_false]at h
  cases hb:badL l with
  |true=>rw[hb]at h;cases h
  |false=>
   rw[hb]at h
   cases hs:srtB l with
   |false=>rw[hs]at h;cases h
   |true=>exact⟨Nat.le_of_not_lt hl,badL_vld hb,srtB_iff.1 hs⟩
theorem mem_map {l:List Cl}(h:chkI l=0):repM (memS l ([],0)).1 l:=by
 have:=memS_rep l (es:=[]) (k:=0) (M:=[]) ⟨rfl,List.nodup_nil⟩ (by simpa using srt_nodup (chk0 h).2.2)
 simpa using this
end Go.Proofs.YtmnaghfndigfkaaDoor.X
