/- An abstract reading of the program: what its operations do to what is known of memory. Part 2 of 6. -/
import Derived.Test.YtfpcbimohikhmaaDoorAb1
import Derived.Calls

/-
 Values by value: what freezes; sources of elements; contents put together.
-/
set_option linter.unusedVariables false
set_option linter.unusedSimpArgs false
namespace Go.Ab
open Go
section
variable {P:Program}{G:GL}{F F':Nat→Prop}{ρ:Nat→Option Nat}{H:Nat→Option HO}{w:World}{look:Nat→Option HO}
 {Sp:SpT} {D:Delta}

theorem updL_app (H:Nat→Option HO):∀(a b:List (Nat×HO)),updL H (a++b)=updL (updL H a) b
 |[],b=>rfl
 |(i,o)::a,b=>by simp only[List.cons_append,updL];exact updL_app _ a b

theorem frzAll (ids:List Nat):∀(F:Nat→Prop) (H:Nat→Option HO),MRel G F ρ H w→(∀id k,look id=some (.blk k)→H id=some (.blk k)∨H id=some (.blk {k with mu:=false}))→
  ∃F',MRel G F' ρ (updL H (frzW look ids)) w∧Ext G F ρ w F' ρ w∧HKeep w ρ H w ρ (updL H (frzW look ids))∧
   (∀id,id∈ids→(∃k,look id=some (.blk k))→∀b,ρ id=some b→F' b)∧
   (∀id k,look id=some (.blk k)→updL H (frzW look ids) id=H id∨(id∈ids∧updL H (frzW look ids) id=some (.blk {k with mu:=false})))∧
   (∀id,look id=none→updL H (frzW look ids) id=H id):=by
 induction ids with
 |nil=>intro F H hm _;exact⟨F,hm,Ext.refl _ _ _,HKeep.refl _ _ _,fun id h=>by simp at h,fun id k _=>.inl rfl,fun _ _=>rfl⟩
 |cons i r ih=>
  intro F H hm hcur
  cases hl:look i with
  |none=>
   have:frzW look (i::r)=frzW look r:=by simp[frzW,hl]
   rw[this]
   obtain⟨F',h1,h2,h3,h4,h5,h6⟩:=ih F H hm hcur
   refine⟨F',h1,h2,h3,fun id hid hk b hb=>?_,fun id k hk=>(h5 id k hk).imp (fun h=>h) (fun h=>⟨List.mem_cons_of_mem _ h.1,h.2⟩),h6⟩
   rcases List.mem_cons.1 hid with rfl|hid
   ·obtain⟨k,hk⟩:=hk;rw[hl]at hk;cases hk
   ·exact h4 id hid hk b hb
  |some o=>
   cases o with
   |iter s p|loop s|que _ _ _|mit _ _ _=>
    have:frzW look (i::r)=frzW look r:=by simp[frzW,hl]
    rw[this]
    obtain⟨F',h1,h2,h3,h4,h5,h6⟩:=ih F H hm hcur
    refine⟨F',h1,h2,h3,fun id hid hk b hb=>?_,fun id k hk=>(h5 id k hk).imp (fun h=>h) (fun h=>⟨List.mem_cons_of_mem _ h.1,h.2⟩),h6⟩
    rcases List.mem_cons.1 hid with rfl|hid
    ·obtain⟨k,hk⟩:=hk;rw[hl]at hk;cases hk
    ·exact h4 id hid hk b hb
   |blk k=>
    -- where the block is frozen already
    have old:(∃k',H i=some (.blk k')∧k'.mu=false)→∀b,ρ i=some b→F b:=by
     rintro⟨k',hk',hmu⟩ b hb
     obtain⟨_,h1|⟨b',h1,h2⟩⟩:=hm.heap i _ hk'
     ·rw[hb]at h1;cases h1.2
     ·rw[hb]at h1;cases h1;exact h2.fr hmu
    cases hmu:k.mu with
    |false=>
     have:frzW look (i::r)=frzW look r:=by simp[frzW,hl,hmu]
     rw[this]
     obtain⟨F',h1,h2,h3,h4,h5,h6⟩:=ih F H hm hcur
     refine⟨F',h1,h2,h3,fun id hid hk b hb=>?_,fun id k hk=>(h5 id k hk).imp (fun h=>h) (fun h=>⟨List.mem_cons_of_mem _ h.1,h.2⟩),h6⟩
     rcases List.mem_cons.1 hid with rfl|hid
     ·refine h2.keep b (old ?_ b hb)
      rcases hcur id k hl with h|h
      ·exact⟨k,h,hmu⟩
      ·exact⟨_,h,rfl⟩
     ·exact h4 id hid hk b hb
    |true=>
     have:frzW look (i::r)=(i,.blk {k with mu:=false})::frzW look r:=by simp[frzW,hl,hmu]
     rw[this]
     simp only[updL]
     have step:∃F1,MRel G F1 ρ (upd H i (some (.blk {k with mu:=false}))) w∧Ext G F ρ w F1 ρ w∧HKeep w ρ H w ρ (upd H i (some (.blk {k with mu:=false})))∧(∀b,ρ i=some b→F1 b):=by
      rcases hcur i k hl with h|h
      ·exact hm.freeze h hmu
      ·have he:upd H i (some (.blk {k with mu:=false}))=H:=by
        funext j
        by_cases e:j=i
        ·subst e;rw[upd_same,h]
        ·rw[upd_other _ _ e]
       rw[he]
       exact⟨F,hm,Ext.refl _ _ _,HKeep.refl _ _ _,old ⟨_,h,rfl⟩⟩
     obtain⟨F1,g1,g2,g3,g4⟩:=step
     obtain⟨F',h1,h2,h3,h4,h5,h6⟩:=ih F1 _ g1 (fun id k' hk'=>by
      by_cases e:id=i
      ·subst e;rw[hl]at hk';cases hk';rw[upd_same];exact .inr rfl
      ·rw[upd_other _ _ e];exact hcur id k' hk')
     refine⟨F',h1,g2.trans h2,g3.trans h3,fun id hid hk b hb=>?_,fun id k' hk'=>?_,fun id hid=>?_⟩
     ·rcases List.mem_cons.1 hid with rfl|hid
      ·exact h2.keep b (g4 b hb)
      ·exact h4 id hid hk b hb
     ·rcases h5 id k' hk' with h|h
      ·by_cases e:id=i
       ·subst e;rw[hl]at hk';cases hk';rw[upd_same]at h;exact .inr ⟨by simp,h⟩
       ·rw[upd_other _ _ e]at h;exact .inl h
      ·exact .inr ⟨List.mem_cons_of_mem _ h.1,h.2⟩
     ·have e:id≠i:=fun e=>by subst e;rw[hl]at hid;cases hid
      rw[h6 id hid,upd_other _ _ e]

def FrzV (F F':Nat→Prop)(ρ:Nat→Option Nat)(H:Nat→Option HO)(w:World)(v v':AV):Prop:=∀x,RelV w F ρ H v x→RelI w F' v' x

theorem holds_of_blk (hm:MRel G F ρ H w){id b:Nat}{k:Blk}(hH:H id=some (.blk k))(hb:ρ id=some b){c:Cont}(hs:c.size=k.c.size)
  (hr:∀i,i<k.c.size→∀x,RelE w F ρ H k.c i x→RelI w F' (c.getV i) x):∃xs:Nat→Value,(∀i,i<c.size→w.cell? ⟨b,0+i,none⟩=some (xs i))∧(∀i,i<c.size→RelI w F' (c.getV i) (xs i))∧(∀i,i<c.size→(xs i).oneCell'=true):=by
 obtain⟨h0,h1|⟨b',h1,h2⟩⟩:=hm.heap id _ hH
 ·rw[hb]at h1;cases h1.2
 rw[hb]at h1;cases h1
 by_cases hmap:k.c.isMap=true
 ·have h0:=Cont.map_size hmap
  exact⟨fun _=>undef,fun i hi=>by omega,fun i hi=>by omega,fun i hi=>by omega⟩
 obtain⟨cs,ty,fz,g1,g2,g3,g4⟩:=h2.ex (by simpa using hmap)
 refine⟨fun i=>(cs[i]?).getD default,fun i hi=>?_,fun i hi=>?_,fun i hi=>?_⟩
 ·obtain⟨x,p1,p2⟩:=g4 i (hs▸hi)
  simp[World.cell?,g1,p1]
 ·obtain⟨x,p1,p2⟩:=g4 i (hs▸hi)
  simp only[p1,Option.getD_some]
  exact hr i (hs▸hi) x p2
 ·obtain⟨x,p1,p2⟩:=g4 i (hs▸hi)
  simp only[p1,Option.getD_some]
  exact p2.2

theorem relI_of (hF:∀b,F b→F' b){v:AV}(hv:refsV v=[]∧(∀l,v≠ .agg l)∧(∀l,v≠ .tup l)∧(∀f a b,v≠ .fn f a b)∧(∀b u,v≠ .may b u)∧(∀t u,v≠ .iface t u)):FrzV F F' ρ H w v v:=by
 intro x hx
 obtain⟨h1,h2,h3,h4,h5,h6⟩:=hv
 cases hx with
 |imm _ _ hi=>exact hi.mono (fun _ _=>rfl) hF
 |ptr=>simp[refsV]at h1
 |ep=>simp[refsV]at h1
 |full=>simp[refsV]at h1
 |sl=>simp[refsV]at h1
 |yld=>simp[refsV]at h1
 |spare=>simp[refsV]at h1
 |mp=>simp[refsV]at h1
 |vw=>simp[refsV]at h1
 |qu=>simp[refsV]at h1
 |qe=>simp[refsV]at h1
 |fullc=>simp[refsV]at h1
 |fn=>exact absurd rfl (h4 _ _ _)
 |agg=>exact absurd rfl (h2 _)
 |tup=>exact absurd rfl (h3 _)
 |may=>exact absurd rfl (h5 _ _)
 |iface=>exact absurd rfl (h6 _ _)

theorem relVs_frz {l l':List AV}(hlen:l'.length=l.length)(h:∀(i:Nat) (v:AV),l[i]? =some v→∃v',l'[i]? =some v'∧FrzV F F' ρ H w v v'):∀{xs:List Value},RelVs w F ρ H l xs→RelIs w F' l' xs:=by
 induction l generalizing l' with
 |nil=>
  intro xs hr
  cases hr
  have:l'=[]:=by simpa using hlen
  subst this;exact .nil
 |cons v l ih=>
  intro xs hr
  cases hr with
  |cons _ _ x xs hv hs=>
   cases l' with
   |nil=>simp at hlen
   |cons v' l'=>
    obtain⟨u,h1,h2⟩:=h 0 v (by simp)
    simp at h1;subst h1
    exact .cons _ _ _ _ (h2 _ hv) (ih (by simpa using hlen) (fun i u hu=>by obtain⟨u',g1,g2⟩:=h (i+1) u (by simpa using hu);exact⟨u',by simpa using g1,g2⟩) hs)

theorem frz_sound (hm:MRel G F ρ H w)(hl:∀id o,look id=some o→H id=some o)(hF:∀b,F b→F' b):
  ∀n,(∀v v' ids cs,frzV look n v=some (v',ids,cs)→AllC Sp cs→(∀id,id∈ids→∀b,ρ id=some b→F' b)→FrzV F F' ρ H w v v')∧
   (∀l l' ids cs,frzL look n l=some (l',ids,cs)→AllC Sp cs→(∀id,id∈ids→∀b,ρ id=some b→F' b)→l'.length=l.length∧∀(i:Nat) (v:AV),l[i]? =some v→∃v',l'[i]? =some v'∧FrzV F F' ρ H w v v')∧
   (∀c c' ids cs,frzC look n c=some (c',ids,cs)→AllC Sp cs→(∀id,id∈ids→∀b,ρ id=some b→F' b)→c'.size=c.size∧∀i,i<c.size→∀x,RelE w F ρ H c i x→RelI w F' (c'.getV i) x):=by
 intro n
 induction n with
 |zero=>exact⟨fun v v' ids cs h=>by simp[frzV]at h,fun l l' ids cs h=>by simp[frzL]at h,fun c c' ids cs h=>by simp[frzC]at h⟩
 |succ n ih=>
  obtain⟨ihV,ihL,ihC⟩:=ih
  refine⟨fun v v' ids cs h hc hids=>?_,fun l l' ids cs h hc hids=>?_,fun c c' ids cs h hc hids=>?_⟩
  ·cases v<;>simp only[frzV]at h
   case ptr id off=>
    split at h
    ·rename_i k hk
     split at h
     ·rename_i c' ids' cs' hfc
      cases h
      intro x hx
      cases hx with
      |imm _ _ hi=>cases hi
      |ptr _ _ b o hb hh hbx=>
       obtain⟨g1,g2⟩:=ihC _ _ _ _ hfc hc (fun i hi=>hids i (List.mem_cons_of_mem _ hi))
       obtain⟨xs,p1,p2,p3⟩:=holds_of_blk hm (hl _ _ hk) hb g1 g2
       have:=iptr_drop off (RelI.iptr c' b 0 xs (hids id (by simp) b hb) p1 p2 p3)
       simpa using this
     ·cases h
    ·cases h
   case ep id m off=>
    split at h
    ·rename_i k hk
     split at h
     ·rename_i c' ids' cs' hfc
      cases h
      intro x hx
      cases hx with
      |imm _ _ hi=>cases hi
      |ep _ _ _ k' _ hh hle hp hxx=>
       rw[hl _ _ hk]at hh;cases hh
       obtain⟨b,hb,rfl⟩:=hxx hc.1
       obtain⟨g1,g2⟩:=ihC _ _ _ _ hfc hc.2 (fun i hi=>hids i (List.mem_cons_of_mem _ hi))
       obtain⟨xs,p1,p2,p3⟩:=holds_of_blk hm (hl _ _ hk) hb g1 g2
       have:=iptr_drop off (RelI.iptr c' b 0 xs (hids id (by simp) b hb) p1 p2 p3)
       simpa using this
     ·cases h
    ·cases h
   case full id len=>
    split at h
    ·rename_i k hk
     split at h
     ·rename_i c' ids' cs' hfc
      cases h
      intro x hx
      obtain⟨g1,g2⟩:=ihC _ _ _ _ hfc hc.2 (fun i hi=>hids i (List.mem_cons_of_mem _ hi))
      cases hx with
      |imm _ _ hi=>cases hi
      |full _ _ k' _ hh hle hp hxx=>
       have hH:=hl _ _ hk
       rw[hH]at hh;cases hh
       have hn:k.n=len:=hc.1
       have hsz:k.c.size=k.n*k.sz:=(hm.heap id _ hH).1
       rcases hxx hn with⟨rfl,_,h3,rfl⟩|⟨rfl,_,h3,a,rfl⟩|⟨_,b,cap,cs0,ty,fz,q1,q2,rfl,q3,q4,q5⟩
       ·exact .imm0 _ _ _ (by rw[g1,hsz,hn];simp) h3
       ·exact .imm0 _ _ _ (by rw[g1,hsz,hn];simp) h3
       ·obtain⟨xs,p1,p2,p3⟩:=holds_of_blk hm hH q1 g1 g2
        exact .imm c' len k.cap b 0 cap xs (hids id (by simp) b q1) p1 p2 p3 q3 q5.1
     ·cases h
    ·cases h
   case fullc id len cap=>
    split at h
    ·rename_i k hk
     split at h
     ·rename_i c' ids' cs' hfc
      cases h
      intro x hx
      obtain⟨g1,g2⟩:=ihC _ _ _ _ hfc hc.2 (fun i hi=>hids i (List.mem_cons_of_mem _ hi))
      cases hx with
      |imm _ _ hi=>cases hi
      |fullc _ _ _ ad hf=>
       cases hf with
       |imm _ _ hi=>cases hi
       |full _ _ k' _ hh hle hp hxx=>
        have hH:=hl _ _ hk
        rw[hH]at hh;cases hh
        have hn:k.n=len:=hc.1
        have hsz:k.c.size=k.n*k.sz:=(hm.heap id _ hH).1
        rcases hxx hn with⟨rfl,_,h3,hv⟩|⟨rfl,_,h3,a,hv⟩|⟨_,b,cap,cs0,ty,fz,q1,q2,hv,q3,q4,q5⟩
        ·cases hv;exact .imm0 _ _ _ (by rw[g1,hsz,hn];simp) (fun n e=>by cases e;rfl)
        ·cases hv;exact .imm0 _ _ _ (by rw[g1,hsz,hn];simp) (fun n e=>by cases e;rfl)
        ·cases hv
         obtain⟨xs,p1,p2,p3⟩:=holds_of_blk hm hH q1 g1 g2
         exact .imm c' len _ b 0 _ xs (hids id (by simp) b q1) p1 p2 p3 q3 (fun n e=>by cases e;rfl)
     ·cases h
    ·cases h
   case sl id off len cap=>
    split at h
    ·rename_i k hk
     split at h
     ·rename_i c' ids' cs' hfc
      cases h
      intro x hx
      obtain⟨g1,g2⟩:=ihC _ _ _ _ hfc hc.2 (fun i hi=>hids i (List.mem_cons_of_mem _ hi))
      have hle:off+mz len k.sz≤k.c.size:=by simpa[Cd.holds,len']using hc.1
      cases hx with
      |imm _ _ hi=>cases hi
      |sl _ _ _ _ b k' hb hh hbx hlc=>
       rw[hl _ _ hk]at hh;cases hh
       obtain⟨xs,p1,p2,p3⟩:=holds_of_blk hm (hl _ _ hk) hb g1 g2
       have hsz:((c'.drop off).take (mz len k.sz)).size≤mz len k.sz:=by rw[size_take];omega
       refine .imm _ len (some cap) b off cap (fun i=>xs (off+i)) (hids id (by simp) b hb) (fun i hi=>?_) (fun i hi=>?_) (fun i hi=>p3 (off+i) (by rw[g1];omega)) hlc (fun n e=>by cases e;rfl)
       ·have:=p1 (off+i) (by rw[g1];omega)
        rw[Nat.zero_add]at this;exact this
       ·rw[getV_take _ _ _ (by omega),getV_drop]
        exact p2 (off+i) (by rw[g1];omega)
     ·cases h
    ·cases h
   case vw id m sz off len=>
    split at h
    ·rename_i k hk
     split at h
     ·rename_i c' ids' cs' hfc
      rw[cond_eq_ite]at h
      split at h
      ·rename_i hsz
       have hsz:=Nat.eq_of_beq_eq_true hsz
       cases h
       intro x hx
       obtain⟨g1,g2⟩:=ihC _ _ _ _ hfc hc.2 (fun i hi=>hids i (List.mem_cons_of_mem _ hi))
       have hH:=hl _ _ hk
       have hn:k.n=m:=hc.1
       have hks:k.c.size=k.n*k.sz:=(hm.heap id _ hH).1
       obtain⟨hle,⟨e,a,rfl⟩|⟨b,cap,cs,ty,fz,p1,p2,rfl,p3,p4⟩⟩:=hx.vws hH hn
       ·have:len=0:=by omega
        subst this
        exact .imm0 _ _ _ (by rw[size_take];simp[mz_eq]) (fun n e=>by cases e)
       ·obtain⟨xs,q1,q2,q3⟩:=holds_of_blk hm hH p1 g1 g2
        have hm1:(off+len)*sz≤c'.size:=by rw[g1,hks,hn,hsz];exact Nat.mul_le_mul_right _ hle
        rw[Nat.add_mul]at hm1
        have hz:((c'.drop (mz off sz)).take (mz len sz)).size≤len*sz:=by rw[size_take,mz_eq,mz_eq];omega
        refine .imm _ len none b (off*sz) (cap-off) (fun i=>xs (off*sz+i)) (hids id (by simp) b p1) (fun i hi=>?_) (fun i hi=>?_) (fun i hi=>q3 _ (by omega)) (by omega) (fun n e=>by cases e)
        ·have:=q1 (off*sz+i) (by omega)
         rw[Nat.zero_add]at this;exact this
        ·rw[getV_take _ _ _ (by rw[mz_eq];omega),getV_drop,mz_eq]
         exact q2 (off*sz+i) (by omega)
      ·cases h
     ·cases h
    ·cases h
   case fn f a b=>
    split at h
    ·rename_i a' i1 c1 b' i2 c2 h1 h2
     cases h
     obtain⟨hc1,hc2⟩:=hc.app
     obtain⟨l1,r1⟩:=ihL _ _ _ _ h1 hc1 (fun i hi=>hids i (by simp[hi]))
     obtain⟨l2,r2⟩:=ihL _ _ _ _ h2 hc2 (fun i hi=>hids i (by simp[hi]))
     intro x hx
     obtain⟨xs,ys,rfl,q1,q2⟩:=hx.fns
     exact .fn f _ _ _ _ (relVs_frz l1 r1 q1) (relVs_frz l2 r2 q2)
    ·cases h
   case agg l=>
    split at h
    ·rename_i l' i1 c1 h1
     cases h
     obtain⟨l1,r1⟩:=ihL _ _ _ _ h1 hc hids
     intro x hx
     obtain⟨xs,rfl,q1⟩:=hx.aggs
     exact .agg _ _ (relVs_frz l1 r1 q1)
    ·cases h
   case tup l=>
    split at h
    ·rename_i l' i1 c1 h1
     cases h
     obtain⟨l1,r1⟩:=ihL _ _ _ _ h1 hc hids
     intro x hx
     obtain⟨xs,rfl,q1⟩:=hx.tups
     exact .tup _ _ (relVs_frz l1 r1 q1)
    ·cases h
   case iface t u=>
    split at h
    ·rename_i u' i1 c1 h1
     cases h
     have:=ihV _ _ _ _ h1 hc hids
     intro x hx
     cases hx with
     |imm _ _ hi=>cases hi with|iface _ _ y hy=>exact .iface _ _ _ (this _ hy.toV)
     |iface _ _ y hy=>exact .iface _ _ _ (this _ hy)
    ·cases h
   case may=>cases h
   case yld=>cases h
   case spare=>cases h
   case mp=>cases h
   case qu=>cases h
   case qe=>cases h
   case undef=>cases h
   all_goals
    cases h
    exact relI_of hF (by simp[refsV])
  ·cases l with
   |nil=>simp only[frzL]at h;cases h;exact⟨rfl,fun i v h=>by simp at h⟩
   |cons v r=>
    simp only[frzL]at h
    split at h
    ·rename_i v' i1 c1 r' i2 c2 h1 h2
     cases h
     obtain⟨hc1,hc2⟩:=hc.app
     have hv:=ihV _ _ _ _ h1 hc1 (fun i hi=>hids i (by simp[hi]))
     obtain⟨l2,r2⟩:=ihL _ _ _ _ h2 hc2 (fun i hi=>hids i (by simp[hi]))
     refine⟨by simp[l2],fun i u hu=>?_⟩
     cases i with
     |zero=>simp at hu;subst hu;exact⟨v',by simp,hv⟩
     |succ i=>obtain⟨u',g1,g2⟩:=r2 i u (by simpa using hu);exact⟨u',by simpa using g1,g2⟩
    ·cases h
  ·cases c<;>simp only[frzC]at h
   case cells l=>
    split at h
    ·rename_i l' i1 c1 h1
     cases h
     obtain⟨l1,r1⟩:=ihL _ _ _ _ h1 hc hids
     refine⟨l1,fun i hi x hx=>?_⟩
     simp only[Cont.size]at hi
     have hv:l[i]? =some l[i]:=List.getElem?_eq_getElem hi
     obtain⟨v',g1,g2⟩:=r1 i _ hv
     have hx:=hx.1
     simp only[List.getD,hv,Option.getD_some]at hx
     simp only[Cont.getV,List.getD,g1,Option.getD_some]
     exact g2 x hx
    ·cases h
   all_goals
    cases h
    exact⟨rfl,fun i hi x hx=>RelI.mono (fun _ _=>rfl) hF hx.1⟩

theorem frz_ids:∀n,(∀v v' ids cs,frzV look n v=some (v',ids,cs)→∀id,id∈ids→∃k,look id=some (.blk k))∧
   (∀l l' ids cs,frzL look n l=some (l',ids,cs)→∀id,id∈ids→∃k,look id=some (.blk k))∧
   (∀c c' ids cs,frzC look n c=some (c',ids,cs)→∀id,id∈ids→∃k,look id=some (.blk k)):=by
 intro n
 induction n with
 |zero=>exact⟨fun v v' ids cs h=>by simp[frzV]at h,fun l l' ids cs h=>by simp[frzL]at h,fun c c' ids cs h=>by simp[frzC]at h⟩
 |succ n ih=>
  obtain⟨ihV,ihL,ihC⟩:=ih
  refine⟨fun v v' ids cs h id hid=>?_,fun l l' ids cs h id hid=>?_,fun c c' ids cs h id hid=>?_⟩
  ·cases v<;>simp only[frzV]at h
   case ptr|ep|full|fullc|sl=>
    split at h
    ·rename_i k hk
     split at h
     ·rename_i c' ids' cs' hfc
      cases h
      rcases List.mem_cons.1 hid with rfl|hid
      ·exact⟨k,hk⟩
      ·exact ihC _ _ _ _ hfc id hid
     ·cases h
    ·cases h
   case vw=>
    split at h
    ·rename_i k hk
     split at h
     ·rename_i c' ids' cs' hfc
      rw[cond_eq_ite]at h
      split at h
      ·cases h
       rcases List.mem_cons.1 hid with rfl|hid
       ·exact⟨k,hk⟩
       ·exact ihC _ _ _ _ hfc id hid
      ·cases h
     ·cases h
    ·cases h
   case fn=>
    split at h
    ·rename_i a' i1 c1 b' i2 c2 h1 h2
     cases h
     rcases List.mem_append.1 hid with hid|hid
     ·exact ihL _ _ _ _ h1 id hid
     ·exact ihL _ _ _ _ h2 id hid
    ·cases h
   case agg|tup=>
    split at h
    ·rename_i l' i1 c1 h1
     cases h
     exact ihL _ _ _ _ h1 id hid
    ·cases h
   case iface=>
    split at h
    ·rename_i l' i1 c1 h1
     cases h
     exact ihV _ _ _ _ h1 id hid
    ·cases h
   case may=>cases h
   case yld=>cases h
   case spare=>cases h
   case mp=>cases h
   case qu=>cases h
   case qe=>cases h
   case undef=>cases h
   all_goals (cases h;simp at hid)
  ·cases l with
   |nil=>simp only[frzL]at h;cases h;simp at hid
   |cons v r=>
    simp only[frzL]at h
    split at h
    ·rename_i v' i1 c1 r' i2 c2 h1 h2
     cases h
     rcases List.mem_append.1 hid with hid|hid
     ·exact ihV _ _ _ _ h1 id hid
     ·exact ihL _ _ _ _ h2 id hid
    ·cases h
  ·cases c<;>simp only[frzC]at h
   case cells=>
    split at h
    ·rename_i l' i1 c1 h1
     cases h
     exact ihL _ _ _ _ h1 id hid
    ·cases h
   all_goals (cases h;simp at hid)

end
end Go.Ab

/-
 Slices that grow, are cut, are laid; results of calls.
-/
set_option linter.unusedVariables false
set_option linter.unusedSimpArgs false
namespace Go.Ab
open Go

theorem MRel.setH {G:GL}{F:Nat→Prop}{ρ:Nat→Option Nat}{H:Nat→Option HO}{w:World}(hm:MRel G F ρ H w)
  {id:Nat} {k k':Blk} (hi:H id=some (.blk k)) (hbx:k'.bx=k.bx) (hn:k'.n=k.n) (hnil:k'.nil=k.nil) (hsz:k'.sz=k.sz) (hcap:k'.cap=k.cap∨k'.cap=none)
  (hO:HKeep w ρ H w ρ (upd H id (some (.blk k')))→RelO G w F ρ (upd H id (some (.blk k'))) id (.blk k')):
  MRel G F ρ (upd H id (some (.blk k'))) w∧Ext G F ρ w F ρ w∧HKeep w ρ H w ρ (upd H id (some (.blk k'))):=by
 have hk:HKeep w ρ H w ρ (upd H id (some (.blk k'))):=
  ⟨fun i o h1 h2=>by
   by_cases e:i=id
   ·subst e;rw[hi]at h1;cases h1;exact⟨_,upd_same _ _ _,hbx.trans h2,rfl⟩
   ·exact⟨o,by rw[upd_other _ _ e];exact h1,h2,rfl⟩,
   fun i k1 h1=>by
   by_cases e:i=id
   ·subst e;rw[hi]at h1;cases h1
    exact⟨_,upd_same _ _ _,hbx,Nat.le_of_eq hn.symm,fun e=>⟨hnil,hsz,hcap,rfl⟩⟩
   ·exact⟨k1,by rw[upd_other _ _ e];exact h1,rfl,Nat.le_refl _,fun _=>⟨rfl,rfl,.inl rfl,rfl⟩⟩,
   fun b cs ty fz hb=>⟨cs,ty,fz,hb,rfl⟩,
   fun i q l v h1=>by
   by_cases e:i=id
   ·subst e;rw[hi]at h1;cases h1
   ·exact⟨q,l,v,by rw[upd_other _ _ e];exact h1,Nat.le_refl _,fun _=>⟨rfl,rfl,rfl,fun _ _=>rfl⟩⟩⟩
 refine⟨⟨fun i o h1=>?_,fun i b hb=>?_,hm.inj,hm.lt,hm.frz,hm.glob⟩,Ext.refl _ _ _,hk⟩
 ·by_cases e:i=id
  ·subst e;rw[upd_same]at h1;cases h1;exact hO hk
  ·rw[upd_other _ _ e]at h1
   exact(hm.heap i o h1).mono (fun _ _=>rfl) (fun _ h=>h) hk rfl (fun b hb=>⟨rfl,fun h=>h⟩)
 ·obtain⟨o',ho'⟩:=hm.dom i b hb
  by_cases e:i=id
  ·subst e;exact⟨_,upd_same _ _ _⟩
  ·exact⟨o',by rw[upd_other _ _ e];exact ho'⟩

theorem MRel.ghost {G:GL}{F:Nat→Prop}{ρ:Nat→Option Nat}{H:Nat→Option HO}{w:World}(hm:MRel G F ρ H w)
  {site:Nat} {k:Blk} (hs:H site=none) (hn:k.n=0) (hc:k.c.size=0):
  MRel G F ρ (upd H site (some (.blk k))) w∧Ext G F ρ w F ρ w∧HKeep w ρ H w ρ (upd H site (some (.blk k))):=by
 have hρ:ρ site=none:=by
  cases e:ρ site with
  |none=>rfl
  |some b=>obtain⟨o,h⟩:=hm.dom site b e;rw[hs]at h;cases h
 have hne:∀id o,H id=some o→id≠site:=fun id o h e=>by rw[e,hs]at h;cases h
 have hk:HKeep w ρ H w ρ (upd H site (some (.blk k))):=
  ⟨fun id o' h1 h2=>⟨o',by rw[upd_other _ _ (hne id o' h1)];exact h1,h2,rfl⟩,
   fun id k1 h1=>⟨k1,by rw[upd_other _ _ (hne id _ h1)];exact h1,rfl,Nat.le_refl _,fun _=>⟨rfl,rfl,.inl rfl,rfl⟩⟩,
   fun b cs ty fz hb=>⟨cs,ty,fz,hb,rfl⟩,
   fun id k l v h1=>⟨k,l,v,by rw[upd_other _ _ (hne id _ h1)];exact h1,Nat.le_refl _,fun _=>⟨rfl,rfl,rfl,fun _ _=>rfl⟩⟩⟩
 refine⟨⟨fun i o h1=>?_,fun i b hb=>?_,hm.inj,hm.lt,hm.frz,hm.glob⟩,Ext.refl _ _ _,hk⟩
 ·by_cases e:i=site
  ·subst e;rw[upd_same]at h1;cases h1;exact⟨by rw[hc,hn];simp,.inl ⟨hn,hρ⟩⟩
  ·rw[upd_other _ _ e]at h1
   exact(hm.heap i o h1).mono (fun _ _=>rfl) (fun _ h=>h) hk rfl (fun b hb=>⟨rfl,fun h=>h⟩)
 ·obtain⟨o',ho'⟩:=hm.dom i b hb
  by_cases e:i=site
  ·subst e;exact⟨_,upd_same _ _ _⟩
  ·exact⟨o',by rw[upd_other _ _ e];exact ho'⟩

section
variable {P:Program}{G:GL}{F F':Nat→Prop}{ρ:Nat→Option Nat}{H:Nat→Option HO}{w:World}{look:Nat→Option HO}
 {Sp:SpT} {D:Delta}

theorem app_nmap {a b c:Cont}(h:a.app b=some c):a.isMap=false∧c.isMap=false:=by
 cases a<;>cases b<;>simp only[Cont.app,reduceCtorEq]at h<;>first|(cases h;exact⟨rfl,rfl⟩)|(rw[cond_eq_ite]at h;split at h<;>cases h;exact⟨rfl,rfl⟩)
theorem app_spec {a b c:Cont}(h:a.app b=some c):c.size=a.size+b.size∧
  (∀i x,i<a.size→RelE w F ρ H a i x→RelE w F ρ H c i x)∧(∀i x,i<b.size→RelI w F (b.getV i) x→x.oneCell'=true→RelE w F ρ H c (a.size+i) x):=by
 cases a<;>cases b<;>simp only[Cont.app,reduceCtorEq]at h
 case ints.ints k l k' l'=>
  simp only[cond_eq_ite]at h
  split at h
  ·rename_i hk
   have hk:k=k':=by simpa[beqK]using hk
   subst hk
   cases h
   refine⟨by simp[Cont.size],fun i x hi hr=>?_,fun i x hi hr hone=>?_⟩
   ·simp only[Cont.size]at hi
    simp only[RelE,Cont.getV]at hr ⊢
    rw[show(l++l').getD i 0=l.getD i 0 by simp[List.getD,List.getElem?_append_left hi]];exact hr
   ·simp only[Cont.size]at hi ⊢
    simp only[RelE,Cont.getV]at hr ⊢
    rw[show(l++l').getD (l.length+i) 0=l'.getD i 0 by simp[List.getD,List.getElem?_append_right]];exact⟨hr,hone⟩
  ·cases h
 case bools.bools l l'=>
  cases h
  refine⟨by simp[Cont.size],fun i x hi hr=>?_,fun i x hi hr hone=>?_⟩
  ·simp only[Cont.size]at hi
   simp only[RelE,Cont.getV]at hr ⊢
   rw[show(l++l').getD i false=l.getD i false by simp[List.getD,List.getElem?_append_left hi]];exact hr
  ·simp only[Cont.size]at hi ⊢
   simp only[RelE,Cont.getV]at hr ⊢
   rw[show(l++l').getD (l.length+i) false=l'.getD i false by simp[List.getD,List.getElem?_append_right]];exact⟨hr,hone⟩
 case strs.strs l l'=>
  cases h
  refine⟨by simp[Cont.size],fun i x hi hr=>?_,fun i x hi hr hone=>?_⟩
  ·simp only[Cont.size]at hi
   simp only[RelE,Cont.getV]at hr ⊢
   rw[show(l++l').getD i []=l.getD i []by simp[List.getD,List.getElem?_append_left hi]];exact hr
  ·simp only[Cont.size]at hi ⊢
   simp only[RelE,Cont.getV]at hr ⊢
   rw[show(l++l').getD (l.length+i) []=l'.getD i []by simp[List.getD,List.getElem?_append_right]];exact⟨hr,hone⟩
 case vals.vals l l'=>
  cases h
  refine⟨by simp[Cont.size],fun i x hi hr=>?_,fun i x hi hr hone=>?_⟩
  ·simp only[Cont.size]at hi
   simp only[RelE,Cont.getV]at hr ⊢
   rw[show(l++l').getD i .undef=l.getD i .undef by simp[List.getD,List.getElem?_append_left hi]];exact hr
  ·simp only[Cont.size]at hi ⊢
   simp only[RelE,Cont.getV]at hr ⊢
   rw[show(l++l').getD (l.length+i) .undef=l'.getD i .undef by simp[List.getD,List.getElem?_append_right]];exact⟨hr,hone⟩

theorem src_sound (hm:MRel G F ρ H w)(hl:∀id o,look id=some o→H id=some o){sz:Nat}{v:AV}{c:Cont}{m:Nat}{cs:List Cd}{x:Value}(h:srcOf look sz v=some (c,m,cs))(hc:AllC Sp cs)(hx:RelV w F ρ H v x):
  ∃(a:Option Addr) (cap:Nat) (cells:List Value),x=.slice a m cap∧c.size=m*sz∧cells.length=m*sz∧(a=none→m=0)∧
   (∀b,a=some b→∀j y,cells[j]? =some y→w.cell? (b.add j)=some y)∧(∀j y,cells[j]? =some y→RelE w F ρ H c j y):=by
 have ofHolds:∀(b o cap:Nat) (c:Cont),x=.slice (some ⟨b,o,none⟩) m cap→c.size=m*sz→(∀i,i<c.size→∃y,w.cell? ⟨b,o+i,none⟩=some y∧RelE w F ρ H c i y)→
   ∃(a:Option Addr) (cap:Nat) (cells:List Value),x=.slice a m cap∧c.size=m*sz∧cells.length=m*sz∧(a=none→m=0)∧
   (∀b,a=some b→∀j y,cells[j]? =some y→w.cell? (b.add j)=some y)∧(∀j y,cells[j]? =some y→RelE w F ρ H c j y):=by
  intro b o cap c hx hs hh
  refine⟨some ⟨b,o,none⟩,cap,(List.range c.size).map (fun i=>(w.cell? ⟨b,o+i,none⟩).getD default),hx,hs,by simp[hs],(fun e=>by cases e),?_,?_⟩
  ·intro b' e j y hj
   cases e
   have hlt:j<c.size:=by
    have:=(List.getElem?_eq_some_iff.1 hj).1;simpa using this
   obtain⟨z,g1,g2⟩:=hh j hlt
   rw[addr_add]
   simp[hlt,g1]at hj
   rw[g1,hj]
  ·intro j y hj
   have hlt:j<c.size:=by
    have:=(List.getElem?_eq_some_iff.1 hj).1;simpa using this
   obtain⟨z,g1,g2⟩:=hh j hlt
   simp[hlt,g1]at hj
   rw[← hj];exact g2
 have ofZero:∀(a:Option Addr) (c:Cont),x=.slice a 0 0→m=0→c.size=0→
   ∃(a:Option Addr) (cap:Nat) (cells:List Value),x=.slice a m cap∧c.size=m*sz∧cells.length=m*sz∧(a=none→m=0)∧
   (∀b,a=some b→∀j y,cells[j]? =some y→w.cell? (b.add j)=some y)∧(∀j y,cells[j]? =some y→RelE w F ρ H c j y):=by
  intro a c hx hm0 hs
  subst hm0
  exact⟨a,0,[],hx,by simp[hs],by simp,fun _=>rfl,fun b _ j y h=>by simp at h,fun j y h=>by simp at h⟩
 unfold srcOf at h
 split at h
 ·rename_i c' len cap
  cases h
  have hs:c.size=m*sz:=by have:=hc.1;simp only[Cd.holds,mz_eq]at this;exact this
  cases hx with
  |imm _ _ hi=>
   cases hi with
   |imm _ _ _ b o cap' xs hF hcell hr ho hle hcap=>
    refine ofHolds b o cap' c rfl hs (fun i hi=>⟨xs i,hcell i hi,?_⟩)
    have:=hr i hi
    refine⟨?_,ho i hi⟩
    cases c<;>first|exact this|exact this.toV
   |imm0 _ _ a hc0 hcap=>exact ofZero a c rfl rfl hc0
 ·rename_i id len
  split at h
  ·rename_i k hk
   have hH:=hl _ _ hk
   simp only[cond_eq_ite]at h
   split at h
   ·rename_i hsz
    have hsz:k.sz=sz:=Nat.eq_of_beq_eq_true hsz
    cases h
    have hn:k.n=m:=hc.1
    have hs:k.c.size=m*sz:=by rw[(hm.heap id _ hH).1,hn,hsz]
    cases hx with
    |imm _ _ hi=>cases hi
    |full _ _ k' _ hh hle hp hxx=>
     rw[hH]at hh;cases hh
     rcases hxx hn with⟨rfl,_,_,rfl⟩|⟨rfl,_,_,a,rfl⟩|⟨_,b,cap,cs0,ty,fz,q1,q2,rfl,q3,q4,q5⟩
     ·exact ofZero none _ rfl rfl (by rw[hs];simp)
     ·exact ofZero _ _ rfl rfl (by rw[hs];simp)
     ·refine ofHolds b 0 cap k.c rfl hs (fun i hi=>?_)
      obtain⟨_,h1|⟨b',h1,h2⟩⟩:=hm.heap id _ hH
      ·rw[q1]at h1;cases h1.2
      ·rw[q1]at h1;cases h1
       obtain⟨cs1,ty1,fz1,g1,g2,g3,g4⟩:=h2.ex (Cont.nmap hi)
       obtain⟨y,p1,p2⟩:=g4 i hi
       exact⟨y,by simp[World.cell?,g1,p1],p2⟩
   ·cases h
  ·cases h
 ·rename_i id off len cap
  split at h
  ·rename_i k hk
   have hH:=hl _ _ hk
   simp only[cond_eq_ite]at h
   split at h
   ·rename_i hsz
    have hsz:k.sz=sz:=Nat.eq_of_beq_eq_true hsz
    cases h
    have hle:off+m*sz≤k.c.size:=by have:=hc.1;simp only[Cd.holds,len',mz_eq,decide_eq_true_eq]at this;exact this
    cases hx with
    |imm _ _ hi=>cases hi
    |sl _ _ _ _ b k' hb hh hbx hlc=>
     rw[hH]at hh;cases hh
     rw[mz_eq]
     refine ofHolds b off cap _ rfl (by rw[size_take,size_drop];omega) (fun i hi=>?_)
     rw[size_take,size_drop]at hi
     obtain⟨_,h1|⟨b',h1,h2⟩⟩:=hm.heap id _ hH
     ·rw[hb]at h1;cases h1.2
     ·rw[hb]at h1;cases h1
      obtain⟨cs1,ty1,fz1,g1,g2,g3,g4⟩:=h2.ex (Cont.nmap (i:=off+i) (by omega))
      obtain⟨y,p1,p2⟩:=g4 (off+i) (by omega)
      refine⟨y,by simp[World.cell?,g1,p1],?_,p2.2⟩
      have p2:=p2.1
      have hv:((k.c.drop off).take (m*sz)).getV i=k.c.getV (off+i):=by rw[getV_take _ _ _ (by omega),getV_drop]
      cases hkc:k.c with
      |cells l=>
       rw[hkc]at p2 hv
       simp only[Cont.drop,Cont.take]at hv p2 ⊢
       simp only[Cont.getV]at hv
       rw[hv];exact p2
      |_=>
       rw[hkc]at p2 hv
       simp only[Cont.drop,Cont.take]at hv p2 ⊢
       rw[hv];exact p2
   ·cases h
  ·cases h
 ·rename_i id n s off len
  split at h
  ·rename_i k hk
   have hH:=hl _ _ hk
   simp only[cond_eq_ite]at h
   split at h
   ·rename_i hsz
    rw[Bool.and_eq_true]at hsz
    have hs2:=Nat.eq_of_beq_eq_true hsz.2
    have hsz:k.sz=sz:=Nat.eq_of_beq_eq_true hsz.1
    subst hs2
    cases h
    have hn:k.n=n:=hc.1
    have hks:k.c.size=n*s:=by rw[(hm.heap id _ hH).1,hn,hsz]
    obtain⟨hle,⟨e,a,rfl⟩|⟨b,cap,cs,ty,fz,p1,p2,rfl,p3,p4⟩⟩:=hx.vws hH hn
    ·have e2:m=0:=by omega
     subst e2
     exact ofZero a _ rfl rfl (by rw[size_take];simp[mz_eq])
    ·have hm1:(off+m)*s≤k.c.size:=by rw[hks];exact Nat.mul_le_mul_right _ hle
     rw[Nat.add_mul]at hm1
     rw[mz_eq,mz_eq]
     refine ofHolds b (off*s) _ _ rfl (by rw[size_take,size_drop];omega) (fun i hi=>?_)
     rw[size_take,size_drop]at hi
     obtain⟨_,h1|⟨b',h1,h2⟩⟩:=hm.heap id _ hH
     ·rw[p1]at h1;cases h1.2
     ·rw[p1]at h1;cases h1
      obtain⟨cs1,ty1,fz1,g1,g2,g3,g4⟩:=h2.ex (Cont.nmap (i:=off*s+i) (by omega))
      obtain⟨y,r1,r2⟩:=g4 (off*s+i) (by omega)
      refine⟨y,by simp[World.cell?,g1,r1],?_,r2.2⟩
      have r2:=r2.1
      have hv:((k.c.drop (off*s)).take (m*s)).getV i=k.c.getV (off*s+i):=by rw[getV_take _ _ _ (by omega),getV_drop]
      cases hkc:k.c with
      |cells l=>
       rw[hkc]at r2 hv
       simp only[Cont.drop,Cont.take]at hv r2 ⊢
       simp only[Cont.getV]at hv
       rw[hv];exact r2
      |_=>
       rw[hkc]at r2 hv
       simp only[Cont.drop,Cont.take]at hv r2 ⊢
       rw[hv];exact r2
   ·cases h
  ·cases h
 ·cases h

theorem run_firstCells {a:Option Addr}{m cap sz:Nat}{cells:List Value}(hlen:cells.length=m*sz)(hz:a=none→m=0)
  (hcell:∀b,a=some b→∀j y,cells[j]? =some y→w.cell? (b.add j)=some y):(Builtin.firstCells sz m (.slice a m cap)).run P w=.ok cells.toArray w:=by
 cases a with
 |none=>
  have:=hz rfl;subst this
  have:cells=[]:=by simpa using hlen
  subst this
  simp[Builtin.firstCells]
 |some b=>
  simp only[Builtin.firstCells]
  have:=run_loadCells_list (P:=P) (w:=w) b cells (hcell b rfl)
  rw[hlen]at this
  exact this

end
end Go.Ab

/-
 append.
-/
set_option linter.unusedVariables false
set_option linter.unusedSimpArgs false
namespace Go.Ab
open Go

structure ElOk (P:Program)(e:TypeId)(sz by_:Nat):Prop where
 inf:∃i z,P.info? e=some i∧i.size=sz∧i.bytes=by_∧i.zero=some z∧z.cells.size=sz
 pos:by_≠0

section
variable {P:Program}{G:GL}{F F':Nat→Prop}{ρ:Nat→Option Nat}{H:Nat→Option HO}{w:World}{look:Nat→Option HO}
 {Sp:SpT} {D:Delta}

theorem run_append_room {sT xT e ty:TypeId}{sz by_:Nat}(hs:P.underlying sT=some (.slice e)){dx:TypeDesc}(hx:P.underlying xT=some dx)(hx':∀k,dx≠ .int k)(he:ElOk P e sz by_)
  {base a:Option Addr} {sLen sCap m cap:Nat} {cells:List Value} (hc:(Builtin.firstCells sz m (.slice a m cap)).run P w=.ok cells.toArray w) (hroom:sLen+m≤sCap):
  (Builtin.append_ #[sT,xT] ty #[.slice base sLen sCap,.slice a m cap]).run P w=
   (match base with
    |some b=>((storeCells (b.add (sLen*sz)) cells).run P w).andThen fun _ w'=>.ok (.slice (some b) (sLen+m) sCap) w'
    |none=>.ok (.slice none (sLen+m) sCap) w):=by
 obtain⟨i,z,h1,h2,h3,h4,h5⟩:=he.inf
 have hz:(match dx with|.int _=>true|_=>false)=false:=by cases dx<;>simp;exact hx' _ rfl
 unfold Builtin.append_
 simp only[List.getElem?_toArray,List.getElem?_cons_zero,List.getElem?_cons_succ]
 simp only[Sem.run_bind,run_underlying' hs,Result.andThen_ok,run_sizeOf' h1,run_underlying' hx,Sem.run_pure,Builtin.lenOf,h2]
 cases dx<;>simp[Builtin.lenOf,hroom,hc]<;>first|exact absurd rfl (hx' _)|(cases base<;>simp)

theorem run_append_grow {sT xT e ty:TypeId}{sz by_:Nat}(hs:P.underlying sT=some (.slice e)){dx:TypeDesc}(hx:P.underlying xT=some dx)(hx':∀k,dx≠ .int k)(he:ElOk P e sz by_)
  {base a:Option Addr} {sLen sCap m cap:Nat} {cells old:List Value} (hc:∀w':World,w'.heap=w.heap→(Builtin.firstCells sz m (.slice a m cap)).run P w'=.ok cells.toArray w')
  (ho:∀w':World,w'.heap=w.heap→(Builtin.firstCells sz sLen (.slice base sLen sCap)).run P w'=.ok old.toArray w') (hroom:¬ sLen+m≤sCap) (hb:(sLen+m)*by_≤roomMax):
  ∃(newCap:Nat) (rest:List Value) (w':World),(sLen+m≤newCap∧newCap≤capMax)∧w'.heap=w.heap.push (.cells (old++cells++rest).toArray e)∧(rest.length=(newCap-(sLen+m))*sz∧IoEq G w w')∧
   (Builtin.append_ #[sT,xT] ty #[.slice base sLen sCap,.slice a m cap]).run P w=.ok (.slice (some ⟨w.heap.size,0,none⟩) (sLen+m) newCap) w':=by
 have hb:(sLen+m)*by_≤140737488355328:=hb
 obtain⟨i,z,h1,h2,h3,h4,h5⟩:=he.inf
 have hpos:i.bytes≠0:=by rw[h3];exact he.pos
 have hfit:Builtin.nextslicecap (sLen+m) sCap*i.bytes≤281474976710656:=growslice_fits (by omega) (by rw[h3];exact hb)
 have hneed:sLen+m≤140737488355328:=by
  have:(sLen+m)*1≤(sLen+m)*by_:=Nat.mul_le_mul_left _ (Nat.pos_of_ne_zero he.pos)
  omega
 let q:Question:=.appendCap (sLen+m) sCap e
 let newCap:=q.cut (w.tape w.drawn q)
 have hnew:sLen+m≤newCap:=Nat.le_add_right _ _
 have hmaxc:newCap≤capMax:=by
  show sLen+m+_%(2 ^ 63-(sLen+m))≤9223372036854775807
  have:=Nat.mod_lt (w.tape w.drawn q) (show 2 ^ 63-(sLen+m)>0 by omega)
  omega
 let rest:=(Builtin.zeroCells z.cells (newCap-(sLen+m))).toList
 refine⟨newCap,rest,{w with heap:=w.heap.push (.cells (old++cells++rest).toArray e),drawn:=w.drawn+1},⟨hnew,hmaxc⟩,rfl,⟨by simp[rest,Builtin.zeroCells,h5],⟨rfl,rfl,fun _=>⟨rfl,Nat.le_succ _⟩⟩⟩,?_⟩
 unfold Builtin.append_
 simp only[List.getElem?_toArray,List.getElem?_cons_zero,List.getElem?_cons_succ]
 simp only[Sem.run_bind,run_underlying' hs,Result.andThen_ok,run_sizeOf' h1,run_underlying' hx,Sem.run_pure,Builtin.lenOf,h2]
 have hmax:¬ ((sLen+m:Nat):Int)>IntKind.i64.max:=by
  have:IntKind.i64.max=9223372036854775807:=by decide
  omega
 have hti:∀w:World,(typeInfo e).run P w=.ok i w:=fun w=>by simp[typeInfo,h1]
 have hzv:∀w:World,(zeroValue e).run P w=.ok z w:=fun w=>by simp[zeroValue,typeInfo,h1,h4]
 have hfit':¬ (Builtin.nextslicecap (sLen+m) sCap*i.bytes>2 ^ 48):=by omega
 have hch:(choose q).run P w=.ok newCap {w with drawn:=w.drawn+1}:=by
  simp only[choose,Sem.run,q,Question.forced];rfl
 have hc':=hc {w with drawn:=w.drawn+1} rfl
 have ho':=ho {w with drawn:=w.drawn+1} rfl
 have hfin:(match dx with|.int _=>true|_=>false)=false:=by cases dx<;>simp;exact hx' _ rfl
 cases dx
 case int k=>exact absurd rfl (hx' k)
 all_goals
  simp only[Bool.false_eq_true,if_false,Sem.run_bind,Builtin.lenOf,Sem.run_pure,Result.andThen_ok,hroom,hti,false_or,hpos,and_false,hfit',Bool.not_false,if_true]
  rw[show(choose (.appendCap (sLen+m) sCap e))=choose q from rfl,hch]
  simp only[Result.andThen_ok,run_askRoom,ho',hc',hzv,newRow,Sem.run_bind,run_newObj,Sem.run_pure]
  have harr:∀Z:Array Value,(old++cells).toArray++Z=(old++(cells++Z.toList)).toArray:=fun Z=>by
   apply Array.toList_inj.1;simp
  simp[rest,harr]

def Old (F:Nat→Prop)(ρ:Nat→Option Nat)(H:Nat→Option HO)(w:World)(c:Cont)(old:List Value):Prop:=
 old.length=c.size∧∀j y,old[j]? =some y→RelE w F ρ H c j y

theorem relE_app {c yc c':Cont}{old cells rest:List Value}(hc:c.app yc=some c')(ho:Old F ρ H w c old)(hl:cells.length=yc.size)(hr:∀j y,cells[j]? =some y→RelI w F (yc.getV j) y∧y.oneCell'=true):
  c'.size≤(old++cells++rest).length∧∀i,i<c'.size→∃x,(old++cells++rest)[i]? =some x∧RelE w F ρ H c' i x:=by
 obtain⟨s1,s2,s3⟩:=app_spec (w:=w) (F:=F) (ρ:=ρ) (H:=H) hc
 refine⟨by simp[ho.1,hl];omega,fun i hi=>?_⟩
 by_cases h:i<c.size
 ·have h':i<old.length:=by rw[ho.1];exact h
  refine⟨old[i],by simp[List.getElem?_append,h'],s2 i _ h (ho.2 i _ (List.getElem?_eq_getElem h'))⟩
 ·have h':i-c.size<cells.length:=by rw[hl];omega
  refine⟨cells[i-c.size],?_,?_⟩
  ·have h1:old.length≤i:=by rw[ho.1];omega
   rw[List.append_assoc,List.getElem?_append_right h1,List.getElem?_append_left (by rw[ho.1];exact h'),ho.1]
   exact List.getElem?_eq_getElem h'
  ·have:=s3 (i-c.size) _ (by rw[← hl];exact h') (hr _ _ (List.getElem?_eq_getElem h')).1 (hr _ _ (List.getElem?_eq_getElem h')).2
   rw[show c.size+(i-c.size)=i by omega]at this
   exact this

theorem relE_keep {w':World}{ρ':Nat→Option Nat}{H':Nat→Option HO}{F':Nat→Prop}{c:Cont}{xs:List Value}(hw:∀b,F b→w'.heap[b]? =w.heap[b]?)(hF:∀b,F b→F' b)(hk:HKeep w ρ H w' ρ' H')
  (h:∀i,i<c.size→∃x,xs[i]? =some x∧RelE w F ρ H c i x):∀i,i<c.size→∃x,xs[i]? =some x∧RelE w' F' ρ' H' c i x:=
 fun i hi=>by obtain⟨x,h1,h2⟩:=h i hi;exact⟨x,h1,h2.mono hw hF hk⟩

theorem memN_of_mem {id:Nat}:∀{ids:List Nat},id∈ids→memN id ids=true
 |[],h=>by simp at h
 |i::r,h=>by
  simp only[memN]
  by_cases e:i=id
  ·subst e;simp[beq_self]
  ·rcases List.mem_cons.1 h with h|h
   ·exact absurd h.symm e
   ·simp[beq_ne e,memN_of_mem h]

theorem of_len' {x y:Nat}(h:(Cd.b (len' x y)).holds Sp):x≤y:=of_decide_eq_true h

theorem emptyOf_nmap (ty:Nat):(emptyOf ty).isMap=false:=by
 unfold emptyOf;split<;>rfl
theorem emptyOf_size (ty:Nat):(emptyOf ty).size=0:=by
 unfold emptyOf;split<;>rfl

theorem relE_take {c:Cont}{p i:Nat}{x:Value}(hi:i<p)(h:RelE w F ρ H c i x):RelE w F ρ H (c.take p) i x:=by
 refine⟨?_,h.2⟩
 have h1:=h.1
 have hv:(c.take p).getV i=c.getV i:=getV_take _ _ _ hi
 cases c with
 |cells l=>
  simp only[Cont.take,Cont.getV]at hv h1 ⊢
  rw[hv];exact h1
 |maps=>exact h1
 |_=>
  simp only[Cont.take]at hv h1 ⊢
  rw[hv];exact h1
theorem relE_dropI {c d e:Cont}{q i:Nat}{x:Value}(ha:d.app (c.drop q)=some e)(h:RelE w F ρ H c (q+i) x):RelI w F ((c.drop q).getV i) x:=by
 have h1:=h.1
 have hv:(c.drop q).getV i=c.getV (q+i):=getV_drop ..
 cases c with
 |cells l=>cases d<;>simp only[Cont.drop,Cont.app,reduceCtorEq]at ha
 |maps=>cases d<;>simp only[Cont.drop,Cont.app,reduceCtorEq]at ha
 |ints=>exact hv.symm▸h1
 |bools=>exact hv.symm▸h1
 |strs=>exact hv.symm▸h1
 |vals=>exact hv.symm▸h1
theorem take_nmap (c:Cont)(p:Nat):(c.take p).isMap=c.isMap:=by cases c<;>rfl
set_option maxHeartbeats 1000000 in
theorem vw_append (hm:MRel G F ρ H w){site sz by_:Nat}{x:Value}{sT xT e ty:TypeId}(hs:P.underlying sT=some (.slice e)){dx:TypeDesc}(hx:P.underlying xT=some dx)(hx':∀k,dx≠ .int k)(he:ElOk P e sz by_)
  {ids:List Nat} {F1:Nat→Prop} (f1:MRel G F1 ρ (updL H (frzW look ids)) w) (f2:Ext G F ρ w F1 ρ w) (f3:HKeep w ρ H w ρ (updL H (frzW look ids))) {id n len m:Nat} {k:Blk} (hH:H id=some (.blk k)) (hH1:updL H (frzW look ids) id=some (.blk k))
  (hmu:k.mu=true) (hbx:k.bx=false) (hsz:k.sz=sz) (hn:k.n=n) (hbound:(len+m)*by_≤roomMax) {yc c1 c':Cont} (ha:(k.c.take (len*sz)).app yc=some c1) (hb:c1.app (k.c.drop ((len+m)*sz))=some c')
  (hu:RelV w F ρ H (.vw id n sz 0 len) x) {a:Option Addr} {cap:Nat} {cells:List Value} (q2:yc.size=m*sz) (q3:cells.length=m*sz) (q4:a=none→m=0) (q5:∀b,a=some b→∀j y,cells[j]? =some y→w.cell? (b.add j)=some y)
  (q6:∀j y,cells[j]? =some y→RelI w F1 (yc.getV j) y∧y.oneCell'=true) (cs0:List Cd):
  Eff G F ρ H w ((Builtin.append_ #[sT,xT] ty #[x,.slice a m cap]).run P w)
   {v:=.vw id (max n (len+m)) sz 0 (len+m),ws:=frzW look ids++[(id,.blk {k with c:=c',n:=max n (len+m),cap:=none})],al:=[],cs:=cs0}:=by
 have first:∀{a:Option Addr} {n cap:Nat} {cells:List Value},cells.length=n*sz→(a=none→n=0)→(∀b,a=some b→∀j y,cells[j]? =some y→w.cell? (b.add j)=some y)→
   ∀w':World,w'.heap=w.heap→(Builtin.firstCells sz n (.slice a n cap)).run P w'=.ok cells.toArray w':=by
  intro a n cap cells h1 h2 h3 w' hw
  refine run_firstCells h1 h2 (fun b hb j z hj=>?_)
  have:=h3 b hb j z hj
  simp only[World.cell?]at this ⊢
  rw[hw];exact this
 have hcs:cells.length=yc.size:=by rw[q2,q3]
 obtain⟨s1,s2,s3⟩:=app_spec (w:=w) (F:=F1) (ρ:=ρ) (H:=updL H (frzW look ids)) ha
 obtain⟨t1,t2,t3⟩:=app_spec (w:=w) (F:=F1) (ρ:=ρ) (H:=updL H (frzW look ids)) hb
 have hks:k.c.size=n*sz:=by rw[(hm.heap id _ hH).1,hn,hsz]
 have hnm:k.c.isMap=false:=by have:=(app_nmap ha).1;rwa [take_nmap]at this
 have hnm':c'.isMap=false:=(app_nmap hb).2
 obtain⟨hle,-⟩:=hu.vws hH hn
 rw[Nat.zero_add]at hle
 have hmul:len*sz≤n*sz:=Nat.mul_le_mul_right _ hle
 have hts:(k.c.take (len*sz)).size=len*sz:=by rw[size_take,hks];omega
 have hds:(k.c.drop ((len+m)*sz)).size=n*sz-(len+m)*sz:=by rw[size_drop,hks]
 have hadd:(len+m)*sz=len*sz+m*sz:=Nat.add_mul ..
 rw[hts,q2]at s1
 rw[hts]at s2 s3
 rw[s1]at t1 t3
 let k':Blk:={k with c:=c',n:=max n (len+m),cap:=none}
 have hcz:c'.size=max n (len+m)*sz:=by
  rw[t1,hds]
  rcases Nat.le_total n (len+m)with h|h
  ·rw[Nat.max_eq_right h]
   have:=Nat.mul_le_mul_right sz h
   omega
  ·rw[Nat.max_eq_left h]
   have:=Nat.mul_le_mul_right sz h
   omega
 have hk'sz:k'.c.size=k'.n*k'.sz:=by
  show c'.size=max n (len+m)*k.sz
  rw[hsz];exact hcz
 have grow:∀(base:Option Addr) (sCap:Nat) (old:List Value),x=.slice base len sCap→¬ len+m≤sCap→n≤sCap→(old.length=len*sz∧∀j y,old[j]? =some y→RelE w F1 ρ (updL H (frzW look ids)) k.c j y)→
   (base=none→len=0)→(∀b,base=some b→∀j y,old[j]? =some y→w.cell? (b.add j)=some y)→
   Eff G F ρ H w ((Builtin.append_ #[sT,xT] ty #[x,.slice a m cap]).run P w)
    {v:=.vw id (max n (len+m)) sz 0 (len+m),ws:=frzW look ids++[(id,.blk k')],al:=[],cs:=cs0}:=by
  intro base sCap old hxs hroom hnc hold hbn hbc
  subst hxs
  obtain⟨newCap,rest,w',⟨r1,rM⟩,r2,r3,r4⟩:=run_append_grow (G:=G) (ty:=ty) hs hx hx' he (first (cap:=cap) q3 q4 q5) (first (a:=base) (n:=len) (cap:=sCap) (cells:=old) hold.1 hbn hbc) hroom hbound
  have hmx:max n (len+m)=len+m:=Nat.max_eq_right (by omega)
  have hz0:n*sz≤(len+m)*sz:=Nat.mul_le_mul_right _ (by omega)
  have hsz':c'.size=len*sz+m*sz:=by rw[hcz,hmx,hadd]
  have g1:c'.size≤(old++cells++rest).length:=by simp[hold.1,q3];omega
  have g2:∀i,i<c'.size→∃x,(old++cells++rest)[i]? =some x∧RelE w F1 ρ (updL H (frzW look ids)) c' i x:=fun i hi=>by
   by_cases h:i<len*sz
   ·have h':i<old.length:=by rw[hold.1];exact h
    exact⟨old[i],by simp[List.getElem?_append,h'],t2 i _ (by rw[s1];omega) (s2 i _ h (relE_take h (hold.2 i _ (List.getElem?_eq_getElem h'))))⟩
   ·have h':i-len*sz<cells.length:=by rw[q3];omega
    refine⟨cells[i-len*sz],?_,?_⟩
    ·have h1:old.length≤i:=by rw[hold.1];omega
     rw[List.append_assoc,List.getElem?_append_right h1,List.getElem?_append_left (by rw[hold.1];exact h'),hold.1]
     exact List.getElem?_eq_getElem h'
    ·have:=s3 (i-len*sz) _ (by rw[← hcs];exact h') (q6 _ _ (List.getElem?_eq_getElem h')).1 (q6 _ _ (List.getElem?_eq_getElem h')).2
     rw[show len*sz+(i-len*sz)=i by omega]at this
     exact t2 i _ (by rw[s1];omega) this
  obtain⟨ρ',p1,p2,p3,p4⟩:=f1.move (w':=w') (k':=k') hH1 hbx hbx (show k.n<max n (len+m)by omega) r2 r3.2 (fun ρ' hk hρ=>by
   refine⟨hk'sz,.inr ⟨w.heap.size,hρ,RelB.ofCells hnm' ⟨(old++cells++rest).toArray,e,(0,0),push_new r2,by simp,by simpa using g1,fun i hi=>?_⟩ (fun _ h=>absurd (f1.frz _ h) (Nat.lt_irrefl _)) (fun e=>by rw[show k'.mu=k.mu from rfl,hmu]at e;cases e)⟩⟩
   obtain⟨z,z1,z2⟩:=relE_keep (fun b hb=>push_old r2 (f1.frz b hb)) (fun _ h=>h) hk g2 i hi
   exact⟨z,by simpa using z1,z2⟩)
  refine⟨_,w',F1,ρ',r4,?_⟩
  rw[updL_app]
  refine⟨p1,f2.trans p2,f3.trans p3,?_⟩
  have hfull:FullOk w' ρ' id (max n (len+m)) k' (.slice (some ⟨w.heap.size,0,none⟩) (max n (len+m)) newCap):=by
   refine .inr (.inr ⟨fun _=>by omega,w.heap.size,newCap,(old++cells++rest).toArray,e,(0,0),p4,push_new r2,rfl,by omega,?_,(fun n e=>by cases e),rM⟩)
   show newCap*k.sz≤_
   rw[hsz]
   simp only[List.size_toArray,List.length_append,r3,q3,hold.1]
   rw[← Nat.add_mul,← Nat.add_mul]
   exact Nat.mul_le_mul_right _ (by omega)
  exact .vw id _ sz 0 (len+m) k' _ (upd_same _ _ _) (Nat.le_refl _) ⟨_,_,_,rfl⟩ (fun _=>⟨by omega,_,_,hfull,by simp[Addr.add]⟩)
 obtain⟨ad,cd,hxe,hfo⟩:∃ad cd,x=.slice (ad.map fun p=>p.add (0*sz)) len (cd-0)∧FullOk w ρ id n k (.slice ad n cd):=by
  obtain⟨_,a,c,h1,h2⟩:=hu.vwf hH hn
  exact⟨a,c,h2,h1⟩
 clear hu
 have empty:n=0→cd=0→(∀k2:Blk,k2.nil=k.nil→k2.cap=none→FullOk w ρ id 0 k2 (.slice ad 0 0))→Eff G F ρ H w ((Builtin.append_ #[sT,xT] ty #[x,.slice a m cap]).run P w)
    {v:=.vw id (max n (len+m)) sz 0 (len+m),ws:=frzW look ids++[(id,.blk k')],al:=[],cs:=cs0}:=by
  intro hn0 hcd hfo
  have hl0:len=0:=by omega
  have eqx:x=.slice ad 0 0:=by
   rw[hxe,hcd,hl0]
   cases ad<;>simp[Addr.add]
  have hc0:k.c.size=0:=by rw[hks,hn0];simp
  by_cases hroom:0+m≤0
  ·have hm0:m=0:=by omega
   have hcl:cells=[]:=by
    have:=q3;rw[hm0,Nat.zero_mul]at this;exact List.length_eq_zero_iff.1 this
   have hrun0:=run_append_room (ty:=ty) (base:=ad) (sLen:=0) (sCap:=0) hs hx hx' he (first (cap:=cap) q3 q4 q5 w rfl) hroom
   have hrun:(Builtin.append_ #[sT,xT] ty #[x,.slice a m cap]).run P w=.ok (.slice ad 0 0) w:=by
    rw[eqx,hrun0,hcl,hm0]
    cases ad with
    |none=>rfl
    |some b=>simp only[storeCells,Sem.run_pure,Result.andThen_ok,Nat.add_zero]
   have hmx:max n (len+m)=0:=by omega
   have hrel:RelO G w F1 ρ (updL H (frzW look ids)) id (.blk k):=f1.heap id _ hH1
   obtain⟨p1,p2,p3⟩:=f1.setH (k':=k') hH1 rfl (show max n (len+m)=k.n by omega) rfl rfl (.inr rfl) (fun hk=>by
    refine⟨hk'sz,?_⟩
    have hz:k'.c.size=0:=by show c'.size=0;rw[hcz,hmx];simp
    rcases hrel.2 with h|⟨b,h1,h2⟩
    ·exact .inl ⟨hmx,h.2⟩
    ·obtain⟨cs1,ty1,fz1,z1,z2,z3,z4⟩:=h2.ex hnm
     exact .inr ⟨b,h1,RelB.ofCells hnm' ⟨cs1,ty1,fz1,z1,z2,by omega,fun i hi=>by omega⟩ h2.mu h2.fr⟩)
   refine⟨_,w,F1,ρ,hrun,?_⟩
   rw[updL_app]
   refine⟨p1,f2.trans p2,f3.trans p3,?_⟩
   show RelV _ _ _ _ (.vw id (max n (len+m)) sz 0 (len+m)) _
   have hl2:len+m=0:=by omega
   rw[hmx,hl2]
   have e2:(Value.slice (ad.map fun p=>p.add (0*sz)) 0 (0-0))=.slice ad 0 0:=by cases ad<;>simp[Addr.add]
   exact .vw id 0 sz 0 0 k' _ (upd_same _ _ _) (Nat.zero_le _) ⟨_,_,_,rfl⟩ (fun _=>⟨Nat.le_refl _,_,_,hfo k' rfl rfl,e2.symm⟩)
  ·exact grow ad 0 [] (by rw[eqx,hl0]) (by omega) (by omega) ⟨by simp[hl0],fun j y h=>by simp at h⟩ (fun _=>hl0) (fun b hb j y h=>by simp at h)
 rcases hfo with⟨e0,hnil,hcap0,hv⟩|⟨e0,hnil,hcap0,a0,hv⟩|⟨hnil,b,sCap,ocs,oty,ofz,e1,e2,hv,e3,e4,e5⟩
 ·cases hv
  exact empty e0 rfl (fun k2 h1 h2=>.inl ⟨rfl,h1▸hnil,(fun n e=>by rw[h2]at e;cases e),rfl⟩)
 ·cases hv
  exact empty e0 rfl (fun k2 h1 h2=>.inr (.inl ⟨rfl,h1▸hnil,(fun n e=>by rw[h2]at e;cases e),_,rfl⟩))
 ·cases hv
  have eqx:x=.slice (some ⟨b,0,none⟩) len cd:=by rw[hxe];simp[Addr.add]
  clear hxe empty
  obtain⟨_,h1|⟨b',h1,hB⟩⟩:=f1.heap id _ hH1
  ·rw[e1]at h1;cases h1.2
  rw[e1]at h1;cases h1
  obtain⟨ocs',oty',ofz',z1,z2,z3,z4⟩:=hB.ex hnm
  rw[e2]at z1;cases z1
  have hFb:¬ F1 b:=hB.mu hmu
  by_cases hroom:len+m≤cd
  ·-- there is room
   have hcd:=Nat.mul_le_mul_right sz hroom
   rw[hsz]at e4
   have hfit:len*sz+cells.length≤ocs.size:=by rw[q3,← Nat.add_mul];omega
   have hone:∀v∈cells,v.oneCell'=true:=by
    intro z hz
    obtain⟨j,hj,rfl⟩:=List.getElem_of_mem hz
    exact(q6 j _ (List.getElem?_eq_getElem hj)).2
   obtain⟨w',cs',p1,p2,p3,p4,p5,p6,p7,p8⟩:=run_storeCells (G:=G) (P:=P) b oty ofz cells (len*sz) 0 ocs w hone e2 (fun j _=>z2 j) (by omega)
   have hrun:=run_append_room (ty:=ty) (base:=some ⟨b,0,none⟩) (sLen:=len) (sCap:=cd) hs hx hx' he (first (cap:=cap) q3 q4 q5 w rfl) hroom
   simp only[addr_add,Nat.zero_add,p1,Result.andThen_ok]at hrun
   rw[← eqx]at hrun
   have hmx:max n (len+m)≤cd:=by omega
   have hmx2:=Nat.mul_le_mul_right sz hmx
   obtain⟨g1,g2,g3⟩:=f1.write (w':=w') (o':=.blk k') hH1 e1 hFb p2 p6 p7 p8 (fun cs0 ty0 fz0 h=>by rw[e2]at h;cases h;exact⟨cs',oty,ofz,rfl,p3⟩) rfl
    (fun k0 h=>by cases h;exact⟨k',rfl,show k.n≤max n (len+m)by omega,fun _=>⟨rfl,rfl,.inr rfl⟩⟩) (fun hk=>by
     refine⟨hk'sz,.inr ⟨b,e1,RelB.ofCells hnm' ⟨cs',oty,ofz,p2,z2,?_,fun i hi=>?_⟩ (fun _=>hFb) (fun e=>by rw[show k'.mu=k.mu from rfl,hmu]at e;cases e)⟩⟩
     ·rw[p3];show c'.size≤_;rw[hcz];omega
     ·have hwF:∀b,F1 b→w'.heap[b]? =w.heap[b]? :=fun j hj=>p6 j (fun e=>hFb (e▸hj))
      have hi:i<c'.size:=hi
      by_cases hin:i<len*sz
      ·obtain⟨z,y1,y2⟩:=z4 i (by omega)
       refine⟨z,?_,(t2 i z (by rw[s1];omega) (s2 i z hin (relE_take hin y2))).mono hwF (fun _ h=>h) hk⟩
       rw[p5 i (by omega)];exact y1
      ·by_cases hmid:i<len*sz+m*sz
       ·have hj:i-len*sz<cells.length:=by rw[q3];omega
        refine⟨cells[i-len*sz],?_,?_⟩
        ·have:=p4 (i-len*sz) hj
         rw[show len*sz+0+(i-len*sz)=i by omega]at this
         rw[this];exact List.getElem?_eq_getElem hj
        ·have:=s3 (i-len*sz) _ (by rw[← hcs];exact hj) (q6 _ _ (List.getElem?_eq_getElem hj)).1 (q6 _ _ (List.getElem?_eq_getElem hj)).2
         rw[show len*sz+(i-len*sz)=i by omega]at this
         exact(t2 i _ (by rw[s1];omega) this).mono hwF (fun _ h=>h) hk
       ·rw[t1,hds]at hi
        obtain⟨z,y1,y2⟩:=z4 i (by rw[hks];omega)
        refine⟨z,?_,?_⟩
        ·rw[p5 i (by rw[q3];omega)];exact y1
        ·rw[show i=(len+m)*sz+(i-(len+m)*sz)by omega]at y2
         have:=t3 (i-(len+m)*sz) z (by rw[hds];omega) (relE_dropI hb y2) y2.2
         rw[show len*sz+m*sz+(i-(len+m)*sz)=i by omega]at this
         exact this.mono hwF (fun _ h=>h) hk)
   refine⟨_,w',F1,ρ,hrun,?_⟩
   rw[updL_app]
   refine⟨g1,f2.trans g2,f3.trans g3,?_⟩
   have hfull:FullOk w' ρ id (max n (len+m)) k' (.slice (some ⟨b,0,none⟩) (max n (len+m)) cd):=
    .inr (.inr ⟨fun h=>by have:=hnil h;omega,b,cd,cs',oty,ofz,e1,p2,rfl,hmx,by show cd*k.sz≤_;rw[p3,hsz];exact e4,(fun n e=>by cases e),e5.2⟩)
   exact .vw id _ sz 0 (len+m) k' _ (upd_same _ _ _) (Nat.le_refl _) ⟨_,_,_,rfl⟩ (fun _=>⟨by omega,_,_,hfull,by simp[Addr.add]⟩)
  ·-- it grows elsewhere
   refine grow (some ⟨b,0,none⟩) cd (ocs.toList.take (len*sz)) eqx hroom e3 ⟨by simp;omega,fun j y hj=>?_⟩ (fun e=>by cases e) (fun b' hb j y hj=>?_)
   ·have hlt:j<len*sz:=by have:=(List.getElem?_eq_some_iff.1 hj).1;simp at this;omega
    obtain⟨z,y1,y2⟩:=z4 j (by omega)
    rw[List.getElem?_take,if_pos hlt]at hj
    simp at hj y1
    rw[hj]at y1;cases y1;exact y2
   ·cases hb
    have hlt:j<len*sz:=by have:=(List.getElem?_eq_some_iff.1 hj).1;simp at this;omega
    rw[List.getElem?_take,if_pos hlt]at hj
    rw[addr_add]
    simp only[World.cell?,e2,Nat.zero_add]
    simpa using hj

set_option maxHeartbeats 400000 in
theorem opAppend_sound (hm:MRel G F ρ H w)(hl:∀id o,look id=some o→H id=some o)(hfresh:∀i,i∈D.al→H i=none){site sz by_ tk:Nat}{u v:AV}{x y:Value}{sT xT e ty:TypeId}
  (hs:P.underlying sT=some (.slice e)) {dx:TypeDesc} (hx:P.underlying xT=some dx) (hx':∀k,dx≠ .int k) (he:ElOk P e sz by_)
  (hu:RelV w F ρ H u x) (hv:RelV w F ρ H v y) {d:Dir} (hD:opAppend site look d sz by_ tk u v=some D) (hc:AllC Sp D.cs):
  Eff G F ρ H w ((Builtin.append_ #[sT,xT] ty #[x,y]).run P w) D:=by
 unfold opAppend at hD
 split at hD
 ·rename_i yc m cs hsrc
  split at hD
  ·rename_i yc' ids cs' hfrz
   -- what is frozen
   obtain⟨F1,f1,f2,f3,f4,f5,f6⟩:=frzAll (look:=look) ids F H hm (fun id k hk=>.inl (hl _ _ hk))
   have key:AllC Sp cs→AllC Sp cs'→∃(a:Option Addr) (cap:Nat) (cells:List Value),y=.slice a m cap∧yc'.size=m*sz∧cells.length=m*sz∧(a=none→m=0)∧
     (∀b,a=some b→∀j y,cells[j]? =some y→w.cell? (b.add j)=some y)∧(∀j y,cells[j]? =some y→RelI w F1 (yc'.getV j) y∧y.oneCell'=true):=by
    intro h1 h2
    obtain⟨a,cap,cells,q1,q2,q3,q4,q5,q6⟩:=src_sound hm hl hsrc h1 hv
    obtain⟨g1,g2⟩:=(frz_sound hm hl f2.keep 60).2.2 _ _ _ _ hfrz h2 (fun id hid b hb=>f4 id hid ((frz_ids 60).2.2 _ _ _ _ hfrz id hid) b hb)
    refine⟨a,cap,cells,q1,g1.trans q2,q3,q4,q5,fun j z hj=>?_⟩
    have hlt:j<yc.size:=by rw[q2,← q3];exact(List.getElem?_eq_some_iff.1 hj).1
    exact⟨g2 j hlt z (q6 j z hj),(q6 j z hj).2⟩
   have first:∀{a:Option Addr} {n cap:Nat} {cells:List Value},cells.length=n*sz→(a=none→n=0)→(∀b,a=some b→∀j y,cells[j]? =some y→w.cell? (b.add j)=some y)→
     ∀w':World,w'.heap=w.heap→(Builtin.firstCells sz n (.slice a n cap)).run P w'=.ok cells.toArray w':=by
    intro a n cap cells h1 h2 h3 w' hw
    refine run_firstCells h1 h2 (fun b hb j z hj=>?_)
    have:=h3 b hb j z hj
    simp only[World.cell?]at this ⊢
    rw[hw];exact this
   split at hD
   ·-- an own slice
    rename_i id len
    split at hD
    ·rename_i k hk
     have hH:=hl _ _ hk
     simp only[cond_eq_ite]at hD
     split at hD
     ·rename_i hcond
      simp only[Bool.and_eq_true,Bool.not_eq_true']at hcond
      obtain⟨hmu,hbx,hmem,hsz⟩:=hcond
      have hsz:k.sz=sz:=Nat.eq_of_beq_eq_true hsz
      have hmem:id∉ids:=by
       intro h
       have:memN id ids=true:=memN_of_mem h
       rw[this]at hmem;cases hmem
      split at hD
      ·rename_i c' happ
       cases hD
       obtain⟨c1,c2,c3⟩:=hc
       obtain⟨c5,c3⟩:=c3.app
       obtain⟨c3,c4⟩:=c3.app
       have hcap1:∀n,apCap d k.cap=some n→k.cap=some n∧len+m≤n:=fun n e=>by
        unfold apCap at e
        split at e
        ·unfold apCs at c5
         simp only[e]at c5
         exact⟨e,of_len' c5.1⟩
        ·cases e
       have hcap2:apCap d k.cap=k.cap∨apCap d k.cap=none:=by
        unfold apCap
        split
        ·exact .inl rfl
        ·exact .inr rfl
       have hn:k.n=len:=c1
       have hbound:(len+m)*by_≤roomMax:=of_len' c2
       obtain⟨a,cap,cells,q1,q2,q3,q4,q5,q6⟩:=key c3 c4
       subst q1
       have hcs:cells.length=yc'.size:=by rw[q2,q3]
       -- the block after the freeze
       have hH1:updL H (frzW look ids) id=some (.blk k):=by
        rcases f5 id k hk with h|h
        ·rw[h,hH]
        ·exact absurd h.1 hmem
       obtain⟨s1,s2,s3⟩:=app_spec (w:=w) (F:=F1) (ρ:=ρ) (H:=updL H (frzW look ids)) happ
       have hksz:k.c.size=len*sz:=by rw[(hm.heap id _ hH).1,hn,hsz]
       let k':Blk:={k with c:=c',n:=len+m,cap:=apCap d k.cap}
       have hk'sz:k'.c.size=k'.n*k'.sz:=by
        show c'.size=(len+m)*k.sz
        rw[s1,q2,hksz,hsz,Nat.add_mul]
       -- the three ways in which the slice may lie
       have fullGo:FullOk w ρ id len k x→Eff G F ρ H w ((Builtin.append_ #[sT,xT] ty #[x,.slice a m cap]).run P w)
         {v:=.full id (len+m),ws:=frzW look ids++[(id,.blk k')],al:=[],cs:=.eqn k.n len:: .b (len' ((len+m)*by_) roomMax)::(apCs d k.cap (len+m)++(cs++cs'))}:=by
        intro hfull
        -- growing into a new row
        have grow:∀(base:Option Addr) (sCap:Nat) (old:List Value),x=.slice base len sCap→¬ len+m≤sCap→(∀n,k.cap=some n→sCap=n)→Old F1 ρ (updL H (frzW look ids)) w k.c old→
          (base=none→len=0)→(∀b,base=some b→∀j y,old[j]? =some y→w.cell? (b.add j)=some y)→
          Eff G F ρ H w ((Builtin.append_ #[sT,xT] ty #[x,.slice a m cap]).run P w)
           {v:=.full id (len+m),ws:=frzW look ids++[(id,.blk k')],al:=[],cs:=.eqn k.n len:: .b (len' ((len+m)*by_) roomMax)::(apCs d k.cap (len+m)++(cs++cs'))}:=by
         intro base sCap old hxs hroom hcr hold hbn hbc
         subst hxs
         obtain⟨newCap,rest,w',⟨r1,rM⟩,r2,r3,r4⟩:=run_append_grow (G:=G) (ty:=ty) hs hx hx' he (first (cap:=cap) q3 q4 q5) (first (a:=base) (n:=len) (cap:=sCap) (cells:=old) (by rw[hold.1,hksz]) hbn hbc) hroom hbound
         have hmpos:0<m:=by
          rcases hfull with⟨rfl,_,_,e⟩|⟨rfl,_,_,_,e⟩|⟨_,_,_,_,_,_,_,_,e,hle,_,_⟩
          ·cases e;omega
          ·cases e;omega
          ·cases e;omega
         obtain⟨g1,g2⟩:=relE_app (rest:=rest) happ hold hcs q6
         obtain⟨ρ',p1,p2,p3,p4⟩:=f1.move (w':=w') (k':=k') hH1 hbx hbx (show k.n<len+m by omega) r2 r3.2 (fun ρ' hk hρ=>by
          refine⟨hk'sz,.inr ⟨w.heap.size,hρ,RelB.ofCells (app_nmap happ).2 ⟨(old++cells++rest).toArray,e,(0,0),push_new r2,by simp,by simpa using g1,fun i hi=>?_⟩ (fun _ h=>absurd (f1.frz _ h) (Nat.lt_irrefl _)) (fun e=>by rw[show k'.mu=k.mu from rfl,hmu]at e;cases e)⟩⟩
          obtain⟨z,z1,z2⟩:=relE_keep (fun b hb=>push_old r2 (f1.frz b hb)) (fun _ h=>h) hk g2 i hi
          exact⟨z,by simpa using z1,z2⟩)
         refine⟨_,w',F1,ρ',r4,?_⟩
         rw[updL_app]
         refine⟨p1,f2.trans p2,f3.trans p3,.full id (len+m) k' _ (upd_same _ _ _) (Nat.le_refl _) ⟨_,_,_,rfl⟩ (fun _=>.inr (.inr ⟨fun _=>by omega,w.heap.size,newCap,(old++cells++rest).toArray,e,(0,0),p4,push_new r2,rfl,r1,?_,(fun n e=>by have h1:=hcap1 n e;have h2:=hcr n h1.1;omega),rM⟩))⟩
         show newCap*k.sz≤_
         rw[hsz]
         simp only[List.size_toArray,List.length_append,r3,q3,hold.1,hksz]
         rw[← Nat.add_mul,← Nat.add_mul]
         exact Nat.mul_le_mul_right _ (by omega)
        rcases hfull with⟨rfl,hnil,hcap0,rfl⟩|⟨rfl,hnil,hcap0,a0,rfl⟩|⟨hnil,b,sCap,ocs,oty,ofz,e1,e2,rfl,e3,e4,e5⟩
        ·-- the nil slice
         have hc0:k.c.size=0:=by rw[hksz];simp
         by_cases hroom:0+m≤0
         ·have hm0:m=0:=by omega
          subst hm0
          have hrun:=run_append_room (ty:=ty) (base:=none) (sLen:=0) (sCap:=0) hs hx hx' he (first (cap:=cap) q3 q4 q5 w rfl) hroom
          have hrel:RelO G w F1 ρ (updL H (frzW look ids)) id (.blk k):=f1.heap id _ hH1
          obtain⟨p1,p2,p3⟩:=f1.setH (k':=k') hH1 rfl (show(0+0:Nat)=k.n by omega) rfl rfl hcap2 (fun hk=>by
           refine⟨hk'sz,?_⟩
           have hz:k'.c.size=0:=by show c'.size=0;rw[s1,q2,hc0];simp
           rcases hrel.2 with h|⟨b,h1,h2⟩
           ·exact .inl ⟨rfl,h.2⟩
           ·obtain⟨cs1,ty1,fz1,z1,z2,z3,z4⟩:=h2.ex (app_nmap happ).1
            exact .inr ⟨b,h1,RelB.ofCells (app_nmap happ).2 ⟨cs1,ty1,fz1,z1,z2,by omega,fun i hi=>by omega⟩ h2.mu h2.fr⟩)
          refine⟨_,w,F1,ρ,hrun,?_⟩
          rw[updL_app]
          exact⟨p1,f2.trans p2,f3.trans p3,.full id _ k' _ (upd_same _ _ _) (Nat.le_refl _) ⟨_,_,_,rfl⟩ (fun _=>.inl ⟨rfl,hnil,(fun n e=>hcap0 n (hcap1 n e).1),rfl⟩)⟩
         ·exact grow none 0 [] rfl hroom (fun n e=>(hcap0 n e).symm) ⟨by rw[hc0];rfl,fun j y h=>by simp at h⟩ (fun _=>rfl) (fun b hb=>by cases hb)
        ·have hc0:k.c.size=0:=by rw[hksz];simp
         by_cases hroom:0+m≤0
         ·have hm0:m=0:=by omega
          subst hm0
          have hrun:=run_append_room (ty:=ty) (base:=some a0) (sLen:=0) (sCap:=0) hs hx hx' he (first (cap:=cap) q3 q4 q5 w rfl) hroom
          have hcl:cells=[]:=by simpa using q3
          subst hcl
          simp only[storeCells,Sem.run_pure,Result.andThen_ok]at hrun
          have hrel:RelO G w F1 ρ (updL H (frzW look ids)) id (.blk k):=f1.heap id _ hH1
          obtain⟨p1,p2,p3⟩:=f1.setH (k':=k') hH1 rfl (show(0+0:Nat)=k.n by omega) rfl rfl hcap2 (fun hk=>by
           refine⟨hk'sz,?_⟩
           have hz:k'.c.size=0:=by show c'.size=0;rw[s1,q2,hc0];simp
           rcases hrel.2 with h|⟨b,h1,h2⟩
           ·exact .inl ⟨rfl,h.2⟩
           ·obtain⟨cs1,ty1,fz1,z1,z2,z3,z4⟩:=h2.ex (app_nmap happ).1
            exact .inr ⟨b,h1,RelB.ofCells (app_nmap happ).2 ⟨cs1,ty1,fz1,z1,z2,by omega,fun i hi=>by omega⟩ h2.mu h2.fr⟩)
          refine⟨_,w,F1,ρ,hrun,?_⟩
          rw[updL_app]
          exact⟨p1,f2.trans p2,f3.trans p3,.full id _ k' _ (upd_same _ _ _) (Nat.le_refl _) ⟨_,_,_,rfl⟩ (fun _=>.inr (.inl ⟨rfl,hnil,(fun n e=>hcap0 n (hcap1 n e).1),_,rfl⟩))⟩
         ·exact grow (some a0) 0 [] rfl hroom (fun n e=>(hcap0 n e).symm) ⟨by rw[hc0];rfl,fun j y h=>by simp at h⟩ (fun e=>by cases e) (fun b hb j y h=>by simp at h)
        ·-- it lies in its block
         obtain⟨_,h1|⟨b',h1,hB⟩⟩:=f1.heap id _ hH1
         ·rw[e1]at h1;cases h1.2
         rw[e1]at h1;cases h1
         obtain⟨ocs',oty',ofz',z1,z2,z3,z4⟩:=hB.ex (app_nmap happ).1
         rw[e2]at z1;cases z1
         have hFb:¬ F1 b:=hB.mu hmu
         by_cases hroom:len+m≤sCap
         ·-- there is room
          have hfit:len*sz+cells.length≤ocs.size:=by
           rw[q3,← Nat.add_mul]
           refine Nat.le_trans (Nat.mul_le_mul_right sz hroom) ?_
           rw[← hsz];exact e4
          have hone:∀v∈cells,v.oneCell'=true:=by
           intro z hz
           obtain⟨j,hj,rfl⟩:=List.getElem_of_mem hz
           exact(q6 j _ (List.getElem?_eq_getElem hj)).2
          obtain⟨w',cs',p1,p2,p3,p4,p5,p6,p7,p8⟩:=run_storeCells (G:=G) (P:=P) b oty ofz cells (len*sz) 0 ocs w hone e2 (fun j _=>z2 j) (by omega)
          have hrun:=run_append_room (ty:=ty) (base:=some ⟨b,0,none⟩) (sLen:=len) (sCap:=sCap) hs hx hx' he (first (cap:=cap) q3 q4 q5 w rfl) hroom
          simp only[addr_add,Nat.zero_add,p1,Result.andThen_ok]at hrun
          obtain⟨g1,g2,g3⟩:=f1.write (w':=w') (o':=.blk k') hH1 e1 hFb p2 p6 p7 p8 (fun cs0 ty0 fz0 h=>by rw[e2]at h;cases h;exact⟨cs',oty,ofz,rfl,p3⟩) rfl
           (fun k0 h=>by cases h;exact⟨k',rfl,show k.n≤len+m by omega,fun _=>⟨rfl,rfl,hcap2⟩⟩) (fun hk=>by
            refine⟨hk'sz,.inr ⟨b,e1,RelB.ofCells (app_nmap happ).2 ⟨cs',oty,ofz,p2,z2,?_,fun i hi=>?_⟩ (fun _=>hFb) (fun e=>by rw[show k'.mu=k.mu from rfl,hmu]at e;cases e)⟩⟩
            ·rw[p3];show c'.size≤_;rw[s1,q2,hksz,← q3];exact hfit
            ·have hwF:∀b,F1 b→w'.heap[b]? =w.heap[b]? :=fun j hj=>p6 j (fun e=>hFb (e▸hj))
             have hi:i<c'.size:=hi
             by_cases hin:i<k.c.size
             ·obtain⟨z,y1,y2⟩:=z4 i hin
              refine⟨z,?_,(s2 i z hin y2).mono hwF (fun _ h=>h) hk⟩
              rw[p5 i (by rw[hksz]at hin;omega)];exact y1
             ·have hj:i-k.c.size<cells.length:=by rw[hcs];omega
              refine⟨cells[i-k.c.size],?_,?_⟩
              ·have:=p4 (i-k.c.size) hj
               rw[show len*sz+0+(i-k.c.size)=i by rw[← hksz];omega]at this
               rw[this];exact List.getElem?_eq_getElem hj
              ·have:=s3 (i-k.c.size) _ (by rw[← hcs];exact hj) (q6 _ _ (List.getElem?_eq_getElem hj)).1 (q6 _ _ (List.getElem?_eq_getElem hj)).2
               rw[show k.c.size+(i-k.c.size)=i by omega]at this
               exact this.mono hwF (fun _ h=>h) hk)
          refine⟨_,w',F1,ρ,hrun,?_⟩
          rw[updL_app]
          refine⟨g1,f2.trans g2,f3.trans g3,.full id (len+m) k' _ (upd_same _ _ _) (Nat.le_refl _) ⟨_,_,_,rfl⟩ (fun _=>.inr (.inr ⟨fun h=>by have:=hnil h;omega,b,sCap,cs',oty,ofz,e1,p2,rfl,hroom,by rw[p3];exact e4,(fun n e=>e5.1 n (hcap1 n e).1),e5.2⟩))⟩
         ·-- it grows elsewhere
          refine grow (some ⟨b,0,none⟩) sCap (ocs.toList.take k.c.size) rfl hroom e5.1 ⟨by simp;omega,fun j y hj=>?_⟩ (fun e=>by cases e) (fun b' hb j y hj=>?_)
          ·have hlt:j<k.c.size:=by have:=(List.getElem?_eq_some_iff.1 hj).1;simp at this;omega
           obtain⟨z,y1,y2⟩:=z4 j hlt
           rw[List.getElem?_take,if_pos hlt]at hj
           simp at hj y1
           rw[hj]at y1;cases y1;exact y2
          ·cases hb
           have hlt:j<k.c.size:=by have:=(List.getElem?_eq_some_iff.1 hj).1;simp at this;omega
           rw[List.getElem?_take,if_pos hlt]at hj
           rw[addr_add]
           simp only[World.cell?,e2,Nat.zero_add]
           simpa using hj
       cases hu with
       |imm _ _ hi=>cases hi
       |full _ _ k1 _ hh hle hp hxx=>
        rw[hH]at hh;cases hh
        exact fullGo (hxx hn)
      ·cases hD
     ·cases hD
    ·cases hD
   ·-- a view
    rename_i id n s len
    split at hD
    ·rename_i k hk
     have hH:=hl _ _ hk
     simp only[cond_eq_ite]at hD
     split at hD
     ·rename_i hcond
      simp only[Bool.and_eq_true,Bool.not_eq_true']at hcond
      obtain⟨hmu,hbx,hmem,hsz,hs2⟩:=hcond
      have hsz:k.sz=sz:=Nat.eq_of_beq_eq_true hsz
      have hs2:s=sz:=Nat.eq_of_beq_eq_true hs2
      subst hs2
      have hmem:id∉ids:=by
       intro h
       have:memN id ids=true:=memN_of_mem h
       rw[this]at hmem;cases hmem
      split at hD
      ·rename_i c1 ha
       split at hD
       ·rename_i c' hb
        cases hD
        obtain⟨g1,g2,c3⟩:=hc
        obtain⟨c3,c4⟩:=c3.app
        obtain⟨a,cap,cells,q1,q2,q3,q4,q5,q6⟩:=key c3 c4
        subst q1
        have hH1:updL H (frzW look ids) id=some (.blk k):=by
         rcases f5 id k hk with h|h
         ·rw[h,hH]
         ·exact absurd h.1 hmem
        rw[mz_eq]at ha hb
        exact vw_append hm (site:=site) hs hx hx' he f1 f2 f3 hH hH1 hmu hbx hsz g1 (of_len' g2) ha hb hu q2 q3 q4 q5 q6 _
       ·cases hD
      ·cases hD
     ·cases hD
    ·cases hD
   ·-- the nil slice
    split at hD
    ·rename_i c' happ
     cases hD
     obtain⟨c2,c3⟩:=hc
     obtain⟨c3,c4⟩:=c3.app
     have hbound:m*by_≤roomMax:=of_len' c2
     obtain⟨a,cap,cells,q1,q2,q3,q4,q5,q6⟩:=key c3 c4
     subst q1
     have hcs:cells.length=yc'.size:=by rw[q2,q3]
     cases hu with
     |imm _ _ hi=>
      cases hi
      have hsite:H site=none:=hfresh site (by simp)
      have hlk:look site=none:=by
       cases e:look site with
       |none=>rfl
       |some o=>have:=hl _ _ e;rw[hsite]at this;cases this
      have hH1:updL H (frzW look ids) site=none:=by rw[f6 site hlk];exact hsite
      obtain⟨s1,s2,s3⟩:=app_spec (w:=w) (F:=F1) (ρ:=ρ) (H:=updL H (frzW look ids)) happ
      have hsz':c'.size=m*sz:=by rw[s1,emptyOf_size,q2,Nat.zero_add]
      by_cases hroom:0+m≤0
      ·have hm0:m=0:=by omega
       subst hm0
       have hrun:=run_append_room (ty:=ty) (base:=none) (sLen:=0) (sCap:=0) hs hx hx' he (first (cap:=cap) q3 q4 q5 w rfl) hroom
       obtain⟨p1,p2,p3⟩:=f1.ghost (k:={c:=c',sz,n:=0,cap:=none,nil:=some true,mu:=true,bx:=false}) hH1 rfl (by rw[hsz'];simp)
       refine⟨_,w,F1,ρ,hrun,?_⟩
       rw[updL_app]
       exact⟨p1,f2.trans p2,f3.trans p3,.full site _ _ _ (upd_same _ _ _) (Nat.le_refl _) ⟨_,_,_,rfl⟩ (fun _=>.inl ⟨rfl,by simp,(fun n e=>by cases e),rfl⟩)⟩
      ·have hmpos:0<m:=by omega
       obtain⟨newCap,rest,w',⟨r1,rM⟩,r2,r3,r4⟩:=run_append_grow (G:=G) (ty:=ty) (base:=none) (sLen:=0) (sCap:=0) (old:=[]) hs hx hx' he (first (cap:=cap) q3 q4 q5) (fun w' _=>by simp[Builtin.firstCells]) hroom (by simpa using hbound)
       obtain⟨g1,g2⟩:=relE_app (w:=w) (F:=F1) (ρ:=ρ) (H:=updL H (frzW look ids)) (old:=[]) (rest:=rest) happ ⟨by rw[emptyOf_size];rfl,fun j y h=>by simp at h⟩ hcs q6
       obtain⟨ρ',p1,p2,p3,p4,_⟩:=f1.alloc (w':=w') (o:=.blk {c:=c',sz,n:=m,cap:=none,nil:=some true,mu:=true,bx:=false}) hH1 r2 r3.2 (fun ρ' H' hk hρ=>by
        refine⟨hsz',.inr ⟨w.heap.size,hρ,RelB.ofCells (app_nmap happ).2 ⟨([]++cells++rest).toArray,e,(0,0),push_new r2,by simp,by simpa using g1,fun i hi=>?_⟩ (fun _ h=>absurd (f1.frz _ h) (Nat.lt_irrefl _)) (fun e=>by cases e)⟩⟩
        obtain⟨z,z1,z2⟩:=relE_keep (fun b hb=>push_old r2 (f1.frz b hb)) (fun _ h=>h) hk g2 i hi
        exact⟨z,by simpa using z1,z2⟩)
       refine⟨_,w',F1,ρ',r4,?_⟩
       rw[updL_app]
       refine⟨p1,f2.trans p2,f3.trans p3,?_⟩
       rw[Nat.zero_add]
       refine .full site m _ _ (upd_same _ _ _) (Nat.le_refl _) ⟨_,_,_,rfl⟩ (fun _=>.inr (.inr ⟨fun _=>hmpos,w.heap.size,newCap,([]++cells++rest).toArray,e,(0,0),p4,push_new r2,rfl,by omega,?_,(fun n e=>by cases e),rM⟩))
       simp only[List.nil_append,List.size_toArray,List.length_append,r3,q3]
       rw[← Nat.add_mul]
       exact Nat.mul_le_mul_right _ (by omega)
    ·cases hD
   ·-- a slice without spare room
    rename_i c len cap0
    simp only[cond_eq_ite]at hD
    split at hD
    ·-- nothing is appended
     cases hD
     obtain⟨c0,c1⟩:=hc
     obtain⟨c3,c4⟩:=c1.app
     have hm0:m=0:=c0
     subst hm0
     obtain⟨a,cap,cells,q1,q2,q3,q4,q5,q6⟩:=key c3 c4
     subst q1
     have hcl:cells=[]:=by simpa using q3
     subst hcl
     have fin:∀(base:Option Addr) (sCap:Nat),len≤sCap→x=.slice base len sCap→RelI w F (.imm c len (some cap0)) x→
       Eff G F ρ H w ((Builtin.append_ #[sT,xT] ty #[x,.slice a 0 cap]).run P w)
        {v:=.imm c len (some cap0),ws:=frzW look ids,al:=[],cs:=.eqn 0 0::(cs++cs')}:=by
      intro base sCap hle hxb hri
      subst hxb
      have hrun:=run_append_room (ty:=ty) (base:=base) (sLen:=len) (sCap:=sCap) hs hx hx' he (first (cap:=cap) q3 q4 q5 w rfl) (by omega)
      have hrun':(Builtin.append_ #[sT,xT] ty #[.slice base len sCap,.slice a 0 cap]).run P w=.ok (.slice base len sCap) w:=by
       rw[hrun]
       cases base<;>simp[storeCells]
      exact⟨_,w,F1,ρ,hrun',f1,f2,f3,.imm _ _ (hri.mono (fun _ _=>rfl) f2.keep)⟩
     cases hu with
     |imm _ _ hi=>
      have hi0:=hi
      cases hi with
      |imm _ _ _ b o cap' xs hF hcell hr ho hle hcap=>exact fin _ _ hle rfl hi0
      |imm0 _ _ a0 hc0 hcap=>exact fin _ _ (Nat.le_refl _) rfl hi0
    split at hD
    ·rename_i c' happ
     -- a new row
     have grow:∀(nil:Option Bool) (cs0:List Cd),AllC Sp cs→AllC Sp cs'→c.size=len*sz→(len+m)*by_≤roomMax→0<m→H site=none→cap0=len→
       Eff G F ρ H w ((Builtin.append_ #[sT,xT] ty #[x,y]).run P w)
        {v:=.full site (len+m),ws:=frzW look ids++[(site,.blk {c:=c',sz,n:=len+m,cap:=none,nil:=nil,mu:=true,bx:=false})],al:=[site],cs:=cs0}:=by
      intro nil cs0 c3 c4 hcsz hbound hmpos hsite hcap
      subst hcap
      obtain⟨a,cap,cells,q1,q2,q3,q4,q5,q6⟩:=key c3 c4
      subst q1
      have hcs:cells.length=yc'.size:=by rw[q2,q3]
      have hlk:look site=none:=by
       cases e:look site with
       |none=>rfl
       |some o=>have:=hl _ _ e;rw[hsite]at this;cases this
      have hH1:updL H (frzW look ids) site=none:=by rw[f6 site hlk];exact hsite
      obtain⟨s1,s2,s3⟩:=app_spec (w:=w) (F:=F1) (ρ:=ρ) (H:=updL H (frzW look ids)) happ
      have hsz':c'.size=(cap0+m)*sz:=by rw[s1,hcsz,q2,Nat.add_mul]
      have go:∀(base:Option Addr) (old:List Value),x=.slice base cap0 cap0→Old F1 ρ (updL H (frzW look ids)) w c old→(base=none→cap0=0)→(∀b,base=some b→∀j y,old[j]? =some y→w.cell? (b.add j)=some y)→
        Eff G F ρ H w ((Builtin.append_ #[sT,xT] ty #[x,.slice a m cap]).run P w)
         {v:=.full site (cap0+m),ws:=frzW look ids++[(site,.blk {c:=c',sz,n:=cap0+m,cap:=none,nil:=nil,mu:=true,bx:=false})],al:=[site],cs:=cs0}:=by
       intro base old hxs hold hbn hbc
       subst hxs
       obtain⟨newCap,rest,w',⟨r1,rM⟩,r2,r3,r4⟩:=run_append_grow (G:=G) (ty:=ty) hs hx hx' he (first (cap:=cap) q3 q4 q5) (first (a:=base) (n:=cap0) (cap:=cap0) (cells:=old) (by rw[hold.1,hcsz]) hbn hbc) (by omega) hbound
       obtain⟨g1,g2⟩:=relE_app (rest:=rest) happ hold hcs q6
       obtain⟨ρ',p1,p2,p3,p4,_⟩:=f1.alloc (w':=w') (o:=.blk {c:=c',sz,n:=cap0+m,cap:=none,nil:=nil,mu:=true,bx:=false}) hH1 r2 r3.2 (fun ρ' H' hk hρ=>by
        refine⟨hsz',.inr ⟨w.heap.size,hρ,RelB.ofCells (app_nmap happ).2 ⟨(old++cells++rest).toArray,e,(0,0),push_new r2,by simp,by simpa using g1,fun i hi=>?_⟩ (fun _ h=>absurd (f1.frz _ h) (Nat.lt_irrefl _)) (fun e=>by cases e)⟩⟩
        obtain⟨z,z1,z2⟩:=relE_keep (fun b hb=>push_old r2 (f1.frz b hb)) (fun _ h=>h) hk g2 i hi
        exact⟨z,by simpa using z1,z2⟩)
       refine⟨_,w',F1,ρ',r4,?_⟩
       rw[updL_app]
       refine⟨p1,f2.trans p2,f3.trans p3,.full site (cap0+m) _ _ (upd_same _ _ _) (Nat.le_refl _) ⟨_,_,_,rfl⟩ (fun _=>.inr (.inr ⟨fun _=>by omega,w.heap.size,newCap,(old++cells++rest).toArray,e,(0,0),p4,push_new r2,rfl,r1,?_,(fun n e=>by cases e),rM⟩))⟩
       simp only[List.size_toArray,List.length_append,r3,q3,hold.1,hcsz]
       rw[← Nat.add_mul,← Nat.add_mul]
       exact Nat.mul_le_mul_right _ (by omega)
      cases hu with
      |imm _ _ hi=>
       cases hi with
       |imm _ _ _ b o cap' xs hF hcell hr ho hle hcap=>
        have:=hcap _ rfl;subst this
        refine go (some ⟨b,o,none⟩) ((List.range c.size).map xs) rfl ⟨by simp,fun j y hj=>?_⟩ (fun e=>by cases e) (fun b' hb j y hj=>?_)
        ·have hlt:j<c.size:=by have:=(List.getElem?_eq_some_iff.1 hj).1;simpa using this
         simp[hlt]at hj
         subst hj
         have h1:RelI w F1 (c.getV j) (xs j):=(hr j hlt).mono (fun _ _=>rfl) f2.keep
         refine⟨?_,ho j hlt⟩
         cases c<;>first|exact h1|exact h1.toV
        ·cases hb
         have hlt:j<c.size:=by have:=(List.getElem?_eq_some_iff.1 hj).1;simpa using this
         simp[hlt]at hj
         subst hj
         rw[addr_add];exact hcell j hlt
       |imm0 _ _ a0 hc0 hcap=>
        exact go a0 [] rfl ⟨by rw[hc0];rfl,fun j y h=>by simp at h⟩ (fun _=>rfl) (fun b hb j y h=>by simp at h)
     split at hD
     ·cases hD
      obtain⟨c0,c1,c2,c5,c3⟩:=hc
      obtain⟨c3,c4⟩:=c3.app
      have hcsz:c.size=len*sz:=by have:=c1;simp only[Cd.holds,mz_eq]at this;exact this
      exact grow _ _ c3 c4 hcsz (of_len' c2) (by simpa[Cd.holds,ltn]using c5) (hfresh site (by simp)) c0
     ·cases hD
      obtain⟨c0,c1,c2,c5,c3⟩:=hc
      obtain⟨c3,c4⟩:=c3.app
      have hlen0:len=0:=c0
      have hcap0:cap0=0:=c1
      have hcs0:c.size=0:=c2
      subst hlen0 hcap0
      have hbound:m*by_≤roomMax:=of_len' c5
      have hsite:H site=none:=hfresh site (by simp)
      by_cases hm0:0<m
      ·have:=grow none (.eqn 0 0:: .eqn 0 0:: .eqn c.size 0:: .b (len' (m*by_) roomMax)::(cs++cs')) c3 c4 (by rw[hcs0];simp) (by rw[Nat.zero_add];exact hbound) hm0 hsite rfl
       rw[Nat.zero_add]at this
       exact this
      ·have hm0:m=0:=by omega
       subst hm0
       obtain⟨a,cap,cells,q1,q2,q3,q4,q5,q6⟩:=key c3 c4
       subst q1
       have hlk:look site=none:=by
        cases e:look site with
        |none=>rfl
        |some o=>have:=hl _ _ e;rw[hsite]at this;cases this
       have hH1:updL H (frzW look ids) site=none:=by rw[f6 site hlk];exact hsite
       obtain⟨s1,s2,s3⟩:=app_spec (w:=w) (F:=F1) (ρ:=ρ) (H:=updL H (frzW look ids)) happ
       have hcl:cells=[]:=by simpa using q3
       subst hcl
       obtain⟨p1,p2,p3⟩:=f1.ghost (k:={c:=c',sz,n:=0,cap:=none,nil:=none,mu:=true,bx:=false}) hH1 rfl (by rw[s1,hcs0,q2];simp)
       have fin:∀base:Option Addr,x=.slice base 0 0→Eff G F ρ H w ((Builtin.append_ #[sT,xT] ty #[x,.slice a 0 cap]).run P w)
         {v:=.full site 0,ws:=frzW look ids++[(site,.blk {c:=c',sz,n:=0,cap:=none,nil:=none,mu:=true,bx:=false})],al:=[site],cs:=.eqn 0 0:: .eqn 0 0:: .eqn c.size 0:: .b (len' (0*by_) roomMax)::(cs++cs')}:=by
        intro base hxb
        subst hxb
        have hrun:=run_append_room (ty:=ty) (base:=base) (sLen:=0) (sCap:=0) hs hx hx' he (first (cap:=cap) q3 q4 q5 w rfl) (Nat.le_refl _)
        have hrun':(Builtin.append_ #[sT,xT] ty #[.slice base 0 0,.slice a 0 cap]).run P w=.ok (.slice base 0 0) w:=by
         rw[hrun]
         cases base<;>simp[storeCells]
        refine⟨_,w,F1,ρ,hrun',?_⟩
        rw[updL_app]
        refine⟨p1,f2.trans p2,f3.trans p3,.full site 0 _ _ (upd_same _ _ _) (Nat.le_refl _) ⟨_,_,_,rfl⟩ (fun _=>?_)⟩
        cases base with
        |none=>exact .inl ⟨rfl,by simp,(fun n e=>by cases e),rfl⟩
        |some b=>exact .inr (.inl ⟨rfl,by simp,(fun n e=>by cases e),b,rfl⟩)
       cases hu with
       |imm _ _ hi=>
        cases hi with
        |imm _ _ _ b o cap' xs hF hcell hr ho hle hcap=>
         have:=hcap _ rfl;subst this
         exact fin _ rfl
        |imm0 _ _ a0 hc0 hcap=>exact fin _ rfl
    ·cases hD
   ·cases hD
  ·cases hD
 ·cases hD

end
end Go.Ab

/-
 Queues of integers: a slice that is cut from below and appended to.
-/
set_option linter.unusedVariables false
set_option linter.unusedSimpArgs false
namespace Go.Ab
open Go

theorem MRel.moveQ {G:GL}{F:Nat→Prop}{ρ:Nat→Option Nat}{H:Nat→Option HO}{w w':World}(hm:MRel G F ρ H w)
  {id:Nat} {k k':IntKind} {l l':List Int} {v v':Nat} {cs:Array Value} {ty:TypeId} {fz:Nat×Nat} (hi:H id=some (.que k l v)) (hv:v<v') (hw:w'.heap=w.heap.push (.cells cs ty fz)) (hio:IoEq G w w'):
  ∃ρ',MRel G F ρ' (upd H id (some (.que k' l' v'))) w'∧Ext G F ρ w F ρ' w'∧HKeep w ρ H w' ρ' (upd H id (some (.que k' l' v')))∧ρ' id=some w.heap.size:=by
 have hsz:w'.heap.size=w.heap.size+1:=by rw[hw];simp
 have hold:∀b,b<w.heap.size→w'.heap[b]? =w.heap[b]? :=fun b hb=>push_old hw hb
 have hwF:∀b,F b→w'.heap[b]? =w.heap[b]? :=fun b hb=>hold b (hm.frz b hb)
 let ρ':=upd ρ id (some w.heap.size)
 have hk:HKeep w ρ H w' ρ' (upd H id (some (.que k' l' v'))):=
  ⟨fun i o h1 h2=>by
   by_cases e:i=id
   ·subst e;rw[hi]at h1;cases h1;cases h2
   ·exact⟨o,by rw[upd_other _ _ e];exact h1,h2,upd_other _ _ e⟩,
   fun i k1 h1=>by
   by_cases e:i=id
   ·subst e;rw[hi]at h1;cases h1
   ·exact⟨k1,by rw[upd_other _ _ e];exact h1,rfl,Nat.le_refl _,fun _=>⟨rfl,rfl,.inl rfl,upd_other _ _ e⟩⟩,
   fun b cs ty fz hb=>⟨cs,ty,fz,(hold b (lt_of_some hb)).trans hb,rfl⟩,
   fun i q l1 v1 h1=>by
   by_cases e:i=id
   ·subst e;rw[hi]at h1;cases h1;exact⟨_,_,_,upd_same _ _ _,Nat.le_of_lt hv,fun e=>by omega⟩
   ·exact⟨q,l1,v1,by rw[upd_other _ _ e];exact h1,Nat.le_refl _,fun _=>⟨rfl,rfl,upd_other _ _ e,fun b hb=>hold b (hm.lt i b hb)⟩⟩⟩
 refine⟨ρ',⟨fun i o h1=>?_,fun i b hb=>?_,fun i j b h1 h2=>?_,fun i b hb=>?_,fun b hb=>by have:=hm.frz b hb;omega,hm.glob.mono hwF (fun _ h=>h)⟩,
  ⟨hio,by omega,fun b hb _=>hold b hb,hwF,fun _ h=>h,fun _ h=>.inl h,fun i b hb=>?_⟩,hk,upd_same _ _ _⟩
 ·by_cases e:i=id
  ·subst e;rw[upd_same]at h1;cases h1
   exact⟨w.heap.size,upd_same _ _ _,fun hF=>absurd (hm.frz _ hF) (Nat.lt_irrefl _),cs,ty,fz,push_new hw⟩
  ·rw[upd_other _ _ e]at h1
   exact(hm.heap i o h1).mono hwF (fun _ h=>h) hk (upd_other _ _ e) (fun b hb=>⟨hold b (hm.lt i b hb),fun h=>h⟩)
 ·by_cases e:i=id
  ·subst e;exact⟨_,upd_same _ _ _⟩
  ·obtain⟨o',ho'⟩:=hm.dom i b ((upd_other _ _ e).symm.trans hb)
   exact⟨o',by rw[upd_other _ _ e];exact ho'⟩
 ·by_cases e:i=id<;>by_cases e':j=id
  ·rw[e,e']
  ·subst e
   have h3:some w.heap.size=some b:=(upd_same _ _ _).symm.trans h1
   have h4:=hm.lt j b ((upd_other _ _ e').symm.trans h2)
   cases h3;omega
  ·subst e'
   have h3:some w.heap.size=some b:=(upd_same _ _ _).symm.trans h2
   have h4:=hm.lt i b ((upd_other _ _ e).symm.trans h1)
   cases h3;omega
  ·exact hm.inj i j b ((upd_other _ _ e).symm.trans h1) ((upd_other _ _ e').symm.trans h2)
 ·by_cases e:i=id
  ·subst e
   have h1:some w.heap.size=some b:=(upd_same _ _ _).symm.trans hb
   cases h1;omega
  ·have:=hm.lt i b ((upd_other _ _ e).symm.trans hb);omega
 ·by_cases e:i=id
  ·subst e
   have h1:some w.heap.size=some b:=(upd_same _ _ _).symm.trans hb
   cases h1;exact .inr (Nat.le_refl _)
  ·exact .inl ⟨i,(upd_other _ _ e).symm.trans hb⟩

section
variable {P:Program}{G:GL}{F F':Nat→Prop}{ρ:Nat→Option Nat}{H:Nat→Option HO}{w:World}{look:Nat→Option HO}
 {Sp:SpT} {D:Delta}

theorem laidQ_sound (hm:MRel G F ρ H w){site len:Nat}{k:IntKind}{l:List Int}{cells:Array Value}{e:TypeId}{capc:Nat}{cs0:List Cd}(hs:H site=none)(hlen:l.length=len)
  (hz:∀i,i<len→cells[i]? =some (.int k (l.getD i 0))) (hcap:len≤capc) (hcells:capc≤cells.size) (hmx:capc≤capMax):
  Eff G F ρ H w (((newRow e cells).run P w).andThen fun a w'=>.ok (.slice (some a) len capc) w')
   {v:=.qu site 0 0,ws:=[(site,.que k l 0)],al:=[site],cs:=cs0}:=by
 have hrun:((newRow e cells).run P w).andThen (fun a w'=>Result.ok (Value.slice (some a) len capc) w')=.ok (.slice (some ⟨w.heap.size,0,none⟩) len capc) (w.alloc (.cells cells e)):=by
  simp[newRow]
 obtain⟨ρ',h1,h2,h3,h4,h5⟩:=hm.alloc (w':=w.alloc (.cells cells e)) (site:=site) (o:=.que k l 0) hs rfl ⟨rfl,rfl,fun _=>⟨rfl,Nat.le_refl _⟩⟩ (fun ρ' H' hk hρ=>
  ⟨w.heap.size,hρ,fun hF=>absurd (hm.frz _ hF) (Nat.lt_irrefl _),cells,e,(0,0),push_new rfl⟩)
 subst hlen
 exact⟨_,_,F,ρ',hrun,h1,h2,h3,.qu site 0 0 k l 0 _ (upd_same _ _ _) (Nat.le_refl _) ⟨_,_,_,rfl⟩ (fun _=>⟨w.heap.size,0,capc,cells,e,(0,0),h4,push_new rfl,by simp,Nat.zero_le _,by simp,by simpa using hcap,by omega,fun i hi=>by rw[Nat.zero_add];exact hz i (by omega),hmx⟩)⟩

theorem opSliceQ_sound (hm:MRel G F ρ H w)(hl:∀id o,look id=some o→H id=some o){sz:Nat}{lo hi mx:Bool}{id v d:Nat}{bs:List AV}{x:Value}{xs:List Value}{t e:TypeId}{i:TypeInfo}
  (ht:P.underlying t=some (.slice e)) (hi':P.info? e=some i) (hsz:i.size=sz) (hx:RelV w F ρ H (.qu id v d) x) (hb:RelVs w F ρ H bs xs)
  (hlen:bs.length=(if lo then 1 else 0)+((if hi then 1 else 0)+(if mx then 1 else 0)))
  (hD:opSliceQ look sz lo hi mx id v d bs=some D) (hc:AllC Sp D.cs):
  Eff G F ρ H w ((Instr.sliceAt t x (if lo then xs[0]? else none) (if hi then(if lo then xs[1]? else xs[0]?)else none) (if mx then(if lo then(if hi then xs[2]? else xs[1]?)else(if hi then xs[1]? else xs[0]?))else none)).run P w) D:=by
 have hrun:∀(a:Option Addr) (len cap:Nat) (l h m:Option Value),(Instr.sliceAt t (.slice a len cap) l h m).run P w=
   ((Instr.sliceBounds true len cap l h m).run P w).andThen fun q w'=>.ok (.slice (if q.2.2=q.1 then a else a.map (·.add (q.1*sz))) (q.2.1-q.1) (q.2.2-q.1)) w':=fun a len cap l h m=>by
  simp only[Instr.sliceAt,Instr.slice,Sem.run_bind,run_underlying' ht,Result.andThen_ok]
  cases hq:(Instr.sliceBounds true len cap l h m).run P w with
  |ok q w'=>simp[run_sizeOf' hi',hsz]
  |halt q w'=>rfl
 unfold opSliceQ at hD
 split at hD
 ·rename_i k l v1 hk
  have hH:=hl _ _ hk
  split at hD
  ·split at hD
   ·rename_i kn n hx1
    rw[cond_eq_ite]at hD
    split at hD
    ·rename_i hs1
     have hs1:=Nat.eq_of_beq_eq_true hs1
     subst hs1
     cases bs with
     |nil=>simp at hlen
     |cons b1 bs=>
      cases hb with
      |cons _ _ y1 _ hb1 hbs=>
       have hx1:b1=.int kn n:=by simpa[x1]using hx1
       subst hx1
       have:=hb1.ints;subst this
       have h3:=val_cs hD;rw[h3]at hc
       obtain⟨c0,c1,c2,_⟩:=hc
       have c0:v1=v:=c0
       have c1:0≤n:=by simpa[Cd.holds,leb]using c1
       have c2:d+n.toNat≤l.length:=by simpa[Cd.holds,len']using c2
       cases hx with
       |imm _ _ hi=>cases hi
       |qu _ _ _ k2 l2 v2 _ hh hle hp hxx=>
        rw[hH]at hh;cases hh
        obtain⟨b,o,c,cs,ty,fz,q1,q2,q3,q4,rfl,q5,q6,q7,q8⟩:=hxx c0
        have run0:(Instr.sliceAt t (.slice (some ⟨b,o,none⟩) (l.length-d) c) (some (.int kn n)) none none).run P w=.ok (.slice (some ⟨b,if c=n.toNat then o else o+n.toNat,none⟩) (l.length-(d+n.toNat)) (c-n.toNat)) w:=by
         rw[hrun]
         have hq:(Instr.sliceBounds true (l.length-d) c (some (.int kn n)) none none).run P w=.ok (n.toNat,l.length-d,c) w:=by
          simp[Instr.sliceBounds,run_sliceBound kn n (l.length-d) _ c1 (by omega)]
         rw[hq]
         simp only[Result.andThen_ok,Nat.mul_one,Nat.sub_sub]
         by_cases hcn:c=n.toNat
         ·rw[if_pos hcn,if_pos hcn]
         ·rw[if_neg hcn,if_neg hcn];simp[addr_add]
        refine Eff.val hm hD (x:=.slice (some ⟨b,if c=n.toNat then o else o+n.toNat,none⟩) (l.length-(d+n.toNat)) (c-n.toNat)) (by simpa using run0) ?_
        refine .qu id v _ k l v1 _ hH hle ⟨_,_,_,rfl⟩ (fun _=>⟨b,if c=n.toNat then o else o+n.toNat,c-n.toNat,cs,ty,fz,q1,q2,q3,c2,rfl,by omega,?_,fun j hj=>?_,by omega⟩)
        ·split<;>omega
        ·rw[if_neg (by omega)]
         have:=q7 (n.toNat+j) (by omega)
         rw[Nat.add_assoc,this,Nat.add_assoc]
    ·cases hD
   ·cases hD
  ·cases hD
 ·cases hD

set_option maxHeartbeats 400000 in
theorem opAppendQ_sound (hm:MRel G F ρ H w)(hl:∀id o,look id=some o→H id=some o){sz by_ id n d:Nat}{v:AV}{x y:Value}{sT xT e ty:TypeId}
  (hs:P.underlying sT=some (.slice e)) {dx:TypeDesc} (hx:P.underlying xT=some dx) (hx':∀k,dx≠ .int k) (he:ElOk P e sz by_)
  (hu:RelV w F ρ H (.qu id n d) x) (hv:RelV w F ρ H v y) (hD:opAppendQ look sz by_ id n d v=some D) (hc:AllC Sp D.cs):
  Eff G F ρ H w ((Builtin.append_ #[sT,xT] ty #[x,y]).run P w) D:=by
 unfold opAppendQ at hD
 split at hD
 ·rename_i k2 l2 m cs k l v1 hsrc hk
  have hH:=hl _ _ hk
  rw[cond_eq_ite]at hD
  split at hD
  ·rename_i hq
   rw[Bool.and_eq_true]at hq
   have hkk:k=k2:=by simpa[beqK]using hq.1
   have hs1:=Nat.eq_of_beq_eq_true hq.2
   subst hs1;subst hkk
   cases hD
   obtain⟨c0,c1,c2⟩:=hc
   have c0:v1=n:=c0
   have hbound:(l.length-d+m)*by_≤roomMax:=of_len' c1
   obtain⟨a,cap,cells,r1,r2,r3,r4,r5,r6⟩:=src_sound hm hl hsrc c2 hv
   subst r1
   have hl2:l2.length=m:=by simpa[Cont.size]using r2
   have hcl:cells.length=m:=by simpa using r3
   have hcell:∀j,j<m→cells[j]? =some (.int k (l2.getD j 0)):=fun j hj=>by
    have hj':j<cells.length:=by omega
    have h1:=(r6 j _ (List.getElem?_eq_getElem hj')).1
    simp only[Cont.getV]at h1
    generalize hz:cells[j]=z at h1
    cases h1
    rw[List.getElem?_eq_getElem hj',hz]
   have first:∀{a:Option Addr} {n cap:Nat} {cells:List Value},cells.length=n*1→(a=none→n=0)→(∀b,a=some b→∀j y,cells[j]? =some y→w.cell? (b.add j)=some y)→
     ∀w':World,w'.heap=w.heap→(Builtin.firstCells 1 n (.slice a n cap)).run P w'=.ok cells.toArray w':=by
    intro a n cap cells h1 h2 h3 w' hw
    refine run_firstCells h1 h2 (fun b hb j z hj=>?_)
    have:=h3 b hb j z hj
    simp only[World.cell?]at this ⊢
    rw[hw];exact this
   cases hu with
   |imm _ _ hi=>cases hi
   |qu _ _ _ k2 l2' v2 _ hh hle hp hxx=>
    rw[hH]at hh;cases hh
    obtain⟨b,o,c,ocs,oty,fz,q1,q2,q3,q4,rfl,q5,q6,q7,q8⟩:=hxx c0
    subst c0
    obtain⟨b',h1,hFb,_⟩:=hm.heap id _ hH
    rw[q1]at h1;cases h1
    have hdl:(l.drop d).length=l.length-d:=List.length_drop
    have hdg:∀i,d+i<l.length→(l.drop d).getD i 0=l.getD (d+i) 0:=fun i hi=>by simp[List.getD,List.getElem?_drop]
    have happ:∀i,i<l.length-d+m→(l.drop d++l2).getD (0+i) 0=if i<l.length-d then l.getD (d+i) 0 else l2.getD (i-(l.length-d)) 0:=fun i hi=>by
     rw[Nat.zero_add]
     by_cases h:i<l.length-d
     ·rw[if_pos h,← hdg i (by omega)]
      simp only[List.getD]
      rw[List.getElem?_append_left (by omega)]
     ·rw[if_neg h]
      simp only[List.getD]
      rw[List.getElem?_append_right (by omega),hdl]
    have hll:(l.drop d++l2).length=l.length-d+m:=by rw[List.length_append,hl2,hdl]
    by_cases hroom:l.length-d+m≤c
    ·have hone:∀u∈cells,u.oneCell'=true:=by
      intro z hz
      obtain⟨j,hj,rfl⟩:=List.getElem_of_mem hz
      exact(r6 j _ (List.getElem?_eq_getElem hj)).2
     obtain⟨w',cs',p1,p2,p3,p4,p5,p6,p7,p8⟩:=run_storeCells (G:=G) (P:=P) b oty fz cells (o+(l.length-d)) 0 ocs w hone q2 (fun j _=>q3 j) (by omega)
     have hrun:=run_append_room (ty:=ty) (base:=some ⟨b,o,none⟩) (sLen:=l.length-d) (sCap:=c) hs hx hx' he (first (cap:=cap) r3 r4 r5 w rfl) hroom
     simp only[addr_add,Nat.mul_one,p1,Result.andThen_ok]at hrun
     obtain⟨g1,g2,g3⟩:=hm.write (w':=w') (o':=.que k (l.drop d++l2) (v1+1)) hH q1 hFb p2 p6 p7 p8 (fun cs0 ty0 fz0 h=>by rw[q2]at h;cases h;exact⟨cs',oty,fz,rfl,p3⟩) rfl
      (fun k0 h=>by cases h) (fun hk=>⟨b,q1,hFb,cs',oty,fz,p2⟩) (fun k0 l0 v0 h=>by cases h;exact⟨_,_,_,rfl,Nat.lt_succ_self _⟩)
     refine⟨_,w',F,ρ,hrun,g1,g2,g3,.qu id _ 0 k _ (v1+1) _ (upd_same _ _ _) (Nat.le_refl _) ⟨_,_,_,rfl⟩ (fun _=>⟨b,o,c,cs',oty,fz,q1,p2,q3,Nat.zero_le _,by rw[hll];rfl,by rw[hll];exact hroom,by rw[p3];exact q6,fun i hi=>?_,q8⟩)⟩
     rw[hll]at hi
     rw[happ i (by omega)]
     by_cases h:i<l.length-d
     ·rw[if_pos h,p5 (o+i) (by omega)];exact q7 i (by omega)
     ·rw[if_neg h]
      have:=p4 (i-(l.length-d)) (by omega)
      rw[show o+(l.length-d)+0+(i-(l.length-d))=o+i by omega]at this
      rw[this];exact hcell _ (by omega)
    ·have hold:((l.drop d).map (Value.int k)).length=(l.length-d)*1:=by simp
     have holdc:∀b1,(some (⟨b,o,none⟩:Addr))=some b1→∀j y,((l.drop d).map (Value.int k))[j]? =some y→w.cell? (b1.add j)=some y:=fun b1 hb1 j y hj=>by
      cases hb1
      rw[List.getElem?_map,Option.map_eq_some_iff]at hj
      obtain⟨n,hn,rfl⟩:=hj
      have hj':=(List.getElem?_eq_some_iff.1 hn).1
      rw[hdl]at hj'
      have:=q7 j (by omega)
      rw[addr_add]
      simp only[World.cell?,q2]
      show(if _ then none else _)=_
      simp only[Option.isSome_none,Bool.false_eq_true,if_false]
      rw[this,← hdg j (by omega)]
      simp[List.getD,hn]
     obtain⟨newCap,rest,w',⟨s1,s2⟩,s3,s4,s5⟩:=run_append_grow (G:=G) (ty:=ty) hs hx hx' he (first (cap:=cap) r3 r4 r5) (first (a:=some ⟨b,o,none⟩) (n:=l.length-d) (cap:=c) hold (fun e=>by cases e) holdc) hroom hbound
     obtain⟨ρ',p1,p2,p3,p4⟩:=hm.moveQ (w':=w') (k':=k) (l':=l.drop d++l2) (v':=v1+1) hH (Nat.lt_succ_self _) s3 s4.2
     refine⟨_,w',F,ρ',s5,p1,p2,p3,.qu id _ 0 k _ (v1+1) _ (upd_same _ _ _) (Nat.le_refl _) ⟨_,_,_,rfl⟩ (fun _=>⟨w.heap.size,0,newCap,_,e,(0,0),p4,push_new s3,by simp,Nat.zero_le _,by rw[hll];rfl,by rw[hll];exact s1,?_,fun i hi=>?_,s2⟩)⟩
     ·have:=s4.1
      simp only[List.size_toArray,List.length_append,List.length_map,hcl,hdl]
      omega
     ·rw[hll]at hi
      rw[happ i (by omega),Nat.zero_add]
      by_cases h:i<l.length-d
      ·rw[if_pos h,← hdg i (by omega)]
       have h':i<(l.drop d).length:=by omega
       simp[List.getElem?_append,h',List.getD,h]
      ·rw[if_neg h]
       have:=hcell (i-(l.length-d)) (by omega)
       have h2:i-(l.length-d)<cells.length:=by omega
       rw[← this]
       simp[List.getElem?_append,h,h2]
  ·cases hD
 ·cases hD

end
end Go.Ab

/-
 Slices cut, slice literals, make.
-/
set_option linter.unusedVariables false
set_option linter.unusedSimpArgs false
namespace Go.Ab
open Go
section
variable {P:Program}{G:GL}{F F':Nat→Prop}{ρ:Nat→Option Nat}{H:Nat→Option HO}{w:World}{look:Nat→Option HO}
 {Sp:SpT} {D:Delta}

theorem Eff.frz (hm:MRel G F ρ H w)(hl:∀id o,look id=some o→H id=some o){ids:List Nat}{r:Result Value}{v:AV}{cs:List Cd}
  (h:∀F',(∀b,F b→F' b)→(∀id,id∈ids→(∃k,look id=some (.blk k))→∀b,ρ id=some b→F' b)→∃x,r=.ok x w∧RelI w F' v x):
  Eff G F ρ H w r {v:=v,ws:=frzW look ids,al:=[],cs:=cs}:=by
 obtain⟨F1,f1,f2,f3,f4,f5,f6⟩:=frzAll (look:=look) ids F H hm (fun id k hk=>.inl (hl _ _ hk))
 obtain⟨x,h1,h2⟩:=h F1 f2.keep f4
 exact⟨x,w,F1,ρ,h1,f1,f2,f3,h2.toV⟩

theorem imm_cut {c:Cont}{len:Nat}{cap:Option Nat}{b o cap':Nat}{xs:Nat→Value}(a n sz:Nat)(newcap:Nat)(hF:F b)
  (hc:∀i,i<c.size→w.cell? ⟨b,o+i,none⟩=some (xs i)) (hr:∀i,i<c.size→RelI w F (c.getV i) (xs i)) (ho:∀i,i<c.size→(xs i).oneCell'=true) (hn:n≤newcap):
  RelI w F (.imm ((c.drop a).take sz) n none) (.slice (some ⟨b,o+a,none⟩) n newcap):=by
 refine .imm _ n none b (o+a) newcap (fun i=>xs (a+i)) hF (fun i hi=>?_) (fun i hi=>?_) (fun i hi=>?_) hn (fun n e=>by cases e)<;>rw[size_take,size_drop]at hi
 ·have:=hc (a+i) (by omega)
  rw[Nat.add_assoc];exact this
 ·rw[getV_take _ _ _ (by omega),getV_drop];exact hr (a+i) (by omega)
 ·exact ho (a+i) (by omega)

theorem take_all (c:Cont)(n:Nat)(h:c.size≤n):c.take n=c:=by
 cases c<;>simp only[Cont.take,Cont.size]at* <;>rw[List.take_of_length_le h]
theorem drop_zero (c:Cont):c.drop 0=c:=by cases c<;>rfl

theorem opWin_run {id off len cap sz:Nat}{lo hi mx:Bool}{bs:List AV}{xs:List Value}(hb:RelVs w F ρ H bs xs)(hlen:bs.length=(if lo then 1 else 0)+((if hi then 1 else 0)+(if mx then 1 else 0)))(hlc:len≤cap)
  (hD:opWin id off len cap sz lo hi mx bs=some D) (hc:AllC Sp D.cs) (isS:Bool):
  ∃l h m,(Instr.sliceBounds isS len cap (if lo then xs[0]? else none) (if hi then(if lo then xs[1]? else xs[0]?)else none) (if mx then(if lo then(if hi then xs[2]? else xs[1]?)else(if hi then xs[1]? else xs[0]?))else none)).run P w=.ok (l,h,m) w∧
   l≤h∧h≤m∧D.v=.sl id (off+l*sz) (h-l) (m-l)∧(m=l→l=0)∧D.ws=[]∧D.al=[]:=by
 unfold opWin at hD
 split at hD
 ·cases hD
  refine⟨0,len,cap,by simp[Instr.sliceBounds],Nat.zero_le _,hlc,by simp,fun h=>rfl,rfl,rfl⟩
 ·split at hD
  ·rename_i k l hx1
   have hcs:=val_cs hD;rw[hcs]at hc
   obtain⟨c1,c2,c3,_⟩:=hc
   simp only[Cd.holds,leb,len',ltn,decide_eq_true_eq]at c1 c2 c3
   cases hb with
   |nil=>simp at hlen
   |cons v _ y ys hv hs=>
    simp only[x1,List.getD_cons_zero]at hx1
    subst hx1
    have:=hv.ints;subst this
    cases hD
    refine⟨l.toNat,len,cap,?_,by omega,hlc,by rw[az_eq,mz_eq],fun h=>by omega,rfl,rfl⟩
    simp[Instr.sliceBounds,run_sliceBound k l len _ c1 (by omega)]
  ·cases hD
 ·split at hD
  ·rename_i k h hx1
   have hcs:=val_cs hD;rw[hcs]at hc
   obtain⟨c1,c2,_⟩:=hc
   simp only[Cd.holds,leb,len',ltn,decide_eq_true_eq]at c1 c2
   cases hb with
   |nil=>simp at hlen
   |cons v _ y ys hv hs=>
    simp only[x1,List.getD_cons_zero]at hx1
    subst hx1
    have:=hv.ints;subst this
    cases hD
    refine⟨0,h.toNat,cap,?_,by omega,c2,by simp,fun h=>rfl,rfl,rfl⟩
    simp[Instr.sliceBounds,run_sliceBound k h cap _ c1 (by omega)]
  ·cases hD
 ·split at hD
  ·rename_i k l k' h hx1 hx2
   have hcs:=val_cs hD;rw[hcs]at hc
   obtain⟨c1,c2,c3,c4,_⟩:=hc
   simp only[Cd.holds,leb,len',ltn,decide_eq_true_eq]at c1 c2 c3 c4
   cases hb with
   |nil=>simp at hlen
   |cons v _ y ys hv hs=>
    cases hs with
    |nil=>simp at hlen
    |cons v2 _ y2 ys2 hv2 hs2=>
     simp only[x1,List.getD_cons_zero]at hx1
     simp only[x2,List.getD_cons_succ,List.getD_cons_zero]at hx2
     subst hx1;subst hx2
     have:=hv.ints;subst this
     have:=hv2.ints;subst this
     cases hD
     refine⟨l.toNat,h.toNat,cap,?_,by omega,c3,by rw[az_eq,mz_eq],fun h=>by omega,rfl,rfl⟩
     simp[Instr.sliceBounds,run_sliceBound k' h cap _ (by omega) (by omega),run_sliceBound k l h.toNat _ c1 (by omega)]
  ·cases hD
 ·split at hD
  ·rename_i k h k' m hx1 hx2
   have hcs:=val_cs hD;rw[hcs]at hc
   obtain⟨c1,c2,c3,_⟩:=hc
   simp only[Cd.holds,leb,len',ltn,decide_eq_true_eq]at c1 c2 c3
   cases hb with
   |nil=>simp at hlen
   |cons v _ y ys hv hs=>
    cases hs with
    |nil=>simp at hlen
    |cons v2 _ y2 ys2 hv2 hs2=>
     simp only[x1,List.getD_cons_zero]at hx1
     simp only[x2,List.getD_cons_succ,List.getD_cons_zero]at hx2
     subst hx1;subst hx2
     have:=hv.ints;subst this
     have:=hv2.ints;subst this
     cases hD
     refine⟨0,h.toNat,m.toNat,?_,by omega,by omega,by simp,fun h=>rfl,rfl,rfl⟩
     simp[Instr.sliceBounds,run_sliceBound k' m cap _ (by omega) (by omega),run_sliceBound k h m.toNat _ c1 (by omega)]
  ·cases hD
 ·cases hD

theorem win_addr {b off l m sz:Nat}(h:m=l→l=0):(if m=l then(⟨b,off,none⟩:Addr)else(⟨b,off,none⟩:Addr).add (l*sz))=⟨b,off+l*sz,none⟩:=by
 split
 ·rename_i e;have:=h e;subst this;simp
 ·exact addr_add _ _ _

theorem opSlice_sound (hm:MRel G F ρ H w)(hl:∀id o,look id=some o→H id=some o){sz:Nat}{lo hi mx:Bool}{v:AV}{bs:List AV}{x:Value}{xs:List Value}{t e:TypeId}{i:TypeInfo}
  (ht:P.underlying t=some (.slice e)) (hi':P.info? e=some i) (hsz:i.size=sz) (hx:RelV w F ρ H v x) (hb:RelVs w F ρ H bs xs)
  (hlen:bs.length=(if lo then 1 else 0)+((if hi then 1 else 0)+(if mx then 1 else 0)))
  {d:Dir} (hD:opSlice look d sz lo hi mx v bs=some D) (hc:AllC Sp D.cs):
  Eff G F ρ H w ((Instr.sliceAt t x (if lo then xs[0]? else none) (if hi then(if lo then xs[1]? else xs[0]?)else none) (if mx then(if lo then(if hi then xs[2]? else xs[1]?)else(if hi then xs[1]? else xs[0]?))else none)).run P w) D:=by
 have hrun:∀(a:Option Addr) (len cap:Nat) (l h m:Option Value),(Instr.sliceAt t (.slice a len cap) l h m).run P w=
   ((Instr.sliceBounds true len cap l h m).run P w).andThen fun q w'=>.ok (.slice (if q.2.2=q.1 then a else a.map (·.add (q.1*sz))) (q.2.1-q.1) (q.2.2-q.1)) w':=fun a len cap l h m=>by
  simp only[Instr.sliceAt,Instr.slice,Sem.run_bind,run_underlying' ht,Result.andThen_ok]
  cases hq:(Instr.sliceBounds true len cap l h m).run P w with
  |ok q w'=>simp[run_sizeOf' hi',hsz]
  |halt q w'=>rfl
 unfold opSlice at hD
 cases hwin:winV v with
 |some p=>
  obtain⟨id,off,len,cap⟩:=p
  rw[hwin]at hD
  simp only at hD
  have hv:v=.sl id off len cap:=by
   unfold winV at hwin
   split at hwin
   ·cases hwin;rfl
   ·cases hwin
  subst hv
  cases hx with
  |imm _ _ hi=>cases hi
  |sl _ _ _ _ b k hb0 hh hbx hlc=>
   obtain⟨l,h,m,e1,e2,e3,e4,e5,e6,e7⟩:=opWin_run (P:=P) hb hlen hlc hD hc true
   rw[hrun,e1]
   simp only[Result.andThen_ok]
   refine Eff.pure hm rfl e6 ?_
   rw[e4]
   have:=win_addr (b:=b) (off:=off) (sz:=sz) e5
   have hopt:(if m=l then(some ⟨b,off,none⟩:Option Addr)else(some (⟨b,off,none⟩:Addr)).map (·.add (l*sz)))=some ⟨b,off+l*sz,none⟩:=by
    rw[← this];split<;>rfl
   rw[hopt]
   exact .sl id _ _ _ b k hb0 hh hbx (by omega)
 |none=>
 rw[hwin]at hD
 simp only at hD
 split at hD
 ·rename_i c len capA ids cs hfrz
  have base:AllC Sp cs→∀F',(∀b,F b→F' b)→(∀id,id∈ids→(∃k,look id=some (.blk k))→∀b,ρ id=some b→F' b)→RelI w F' (.imm c len capA) x:=by
   intro hcs F' hF hids
   exact(frz_sound hm hl hF 60).1 _ _ _ _ hfrz hcs (fun id hid b hb=>hids id hid ((frz_ids 60).1 _ _ _ _ hfrz id hid) b hb) x hx
  split at hD
  ·-- high and max
   cases bs with
   |nil=>simp at hlen
   |cons b1 bs=>
    cases bs with
    |nil=>simp at hlen
    |cons b2 bs=>
     cases hb with
     |cons _ _ y1 _ hb1 hbs=>
      cases hbs with
      |cons _ _ y2 ys hb2 hbs=>
       split at hD
       ·rename_i k h k' m hx1 hx2
        have hx1:b1=.int k h:=by simpa[x1]using hx1
        have hx2:b2=.int k' m:=by simpa[x2]using hx2
        subst hx1 hx2
        have:=hb1.ints;subst this
        have:=hb2.ints;subst this
        split at hD
        ·cases hD
         obtain⟨h1,h2⟩:=hc.app
         have e1:h=0:=by simpa[Cd.holds]using h2.1
         have e2:m=0:=by simpa[Cd.holds]using h2.2.1
         subst e1 e2
         refine Eff.frz hm hl (fun F' hF hids=>?_)
         have hb:=base h1 F' hF hids
         have run0:∀(a:Option Addr) (cap:Nat),(Instr.sliceAt t (.slice a len cap) none (some (.int k 0)) (some (.int k' 0))).run P w=.ok (.slice a 0 0) w:=fun a cap=>by
          rw[hrun]
          simp[Instr.sliceBounds,run_sliceBound k' 0 cap _ (by omega) (by omega),run_sliceBound k 0 0 _ (by omega) (by omega)]
         cases hb with
         |imm _ _ _ b o cap' xs0 hF0 hcell hr ho hle hcap=>exact⟨_,by simpa using run0 _ _,.imm0 _ _ _ (by rw[size_take];simp) (fun n e=>by cases e;rfl)⟩
         |imm0 _ _ a hc0 hcap=>exact⟨_,by simpa using run0 _ _,.imm0 _ _ _ (by rw[size_take];simp) (fun n e=>by cases e;rfl)⟩
        ·split at hD
         ·cases hD
          obtain⟨h1,h2⟩:=hc.app
          obtain⟨g0,g1,g2,g3,_⟩:=h2
          have g0:0≤h:=by simpa[Cd.holds,leb]using g0
          have g1:h≤m:=by simpa[Cd.holds,leb]using g1
          have g2:m.toNat≤len:=of_len' g2
          have g3:c.size=len*sz:=by have:=g3;simp only[Cd.holds,mz_eq]at this;exact this
          refine Eff.frz hm hl (fun F' hF hids=>?_)
          have hb:=base h1 F' hF hids
          have run0:∀(a:Option Addr) (cap:Nat),len≤cap→(Instr.sliceAt t (.slice a len cap) none (some (.int k h)) (some (.int k' m))).run P w=.ok (.slice (if m.toNat=0 then a else a.map (·.add 0)) h.toNat m.toNat) w:=fun a cap hle=>by
           rw[hrun]
           simp[Instr.sliceBounds,run_sliceBound k' m cap _ (by omega) (by omega),run_sliceBound k h m.toNat _ g0 (by omega)]
          cases hb with
          |imm _ _ _ b o cap' xs0 hF0 hcell hr ho hle hcap=>
           refine⟨_,run0 _ _ hle,?_⟩
           have:(if m.toNat=0 then(some ⟨b,o,none⟩:Option Addr)else Option.map (fun x:Addr=>x.add 0) (some ⟨b,o,none⟩))=some ⟨b,o,none⟩:=by
            split<;>simp[Addr.add]
           rw[this]
           have hz:(c.take (mz h.toNat sz)).size≤c.size:=by rw[size_take];exact Nat.min_le_right _ _
           have hz2:(c.take (mz h.toNat sz)).size≤mz h.toNat sz:=by rw[size_take];exact Nat.min_le_left _ _
           exact .imm _ _ _ b o m.toNat xs0 hF0 (fun i hi=>hcell i (by omega)) (fun i hi=>by rw[getV_take _ _ _ (by omega)];exact hr i (by omega)) (fun i hi=>ho i (by omega)) (by omega) (fun n e=>by cases e;rfl)
          |imm0 _ _ a hc0 hcap=>
           have e1:m.toNat=0:=by omega
           have e2:h.toNat=0:=by omega
           refine⟨_,run0 _ _ (Nat.le_refl _),?_⟩
           rw[e1,e2]
           exact .imm0 _ _ _ (by rw[size_take];omega) (fun n e=>by cases e;rfl)
         ·cases hD
          obtain⟨h1,h2⟩:=hc.app
          obtain⟨g0,g1,g2,g3,g4,_⟩:=h2
          have g0:0≤h:=by simpa[Cd.holds,leb]using g0
          have g1:h.toNat=len:=g1
          have g2:0≤m:=by simpa[Cd.holds,leb]using g2
          have g3:m.toNat=len:=g3
          refine Eff.frz hm hl (fun F' hF hids=>?_)
          have hb:=base h1 F' hF hids
          have run0:∀(a:Option Addr) (cap:Nat),len≤cap→(Instr.sliceAt t (.slice a len cap) none (some (.int k h)) (some (.int k' m))).run P w=.ok (.slice (if len=0 then a else a.map (·.add 0)) len len) w:=fun a cap hle=>by
           rw[hrun]
           simp[Instr.sliceBounds,run_sliceBound k' m cap _ g2 (by omega),run_sliceBound k h len _ g0 (by omega),g1,g3]
          cases hb with
          |imm _ _ _ b o cap' xs0 hF0 hcell hr ho hle hcap=>
           refine⟨_,by simpa using run0 _ _ hle,?_⟩
           have:(if len=0 then(some ⟨b,o,none⟩:Option Addr)else Option.map (fun x:Addr=>x.add 0) (some ⟨b,o,none⟩))=some ⟨b,o,none⟩:=by
            split<;>simp[Addr.add]
           rw[this]
           exact .imm c len (some len) b o len xs0 hF0 hcell hr ho (Nat.le_refl _) (fun n e=>by cases e;rfl)
          |imm0 _ _ a hc0 hcap=>exact⟨_,by simpa using run0 _ _ (Nat.le_refl _),.imm0 _ _ _ hc0 (fun n e=>by cases e;rfl)⟩
       ·cases hD
  ·-- low
   cases bs with
   |nil=>simp at hlen
   |cons b1 bs=>
    cases hb with
    |cons _ _ y1 _ hb1 hbs=>
     split at hD
     ·rename_i k l hx1
      have hx1:b1=.int k l:=by simpa[x1]using hx1
      subst hx1
      have:=hb1.ints;subst this
      cases hD
      obtain⟨h1,h2⟩:=hc.app
      obtain⟨g0,g1,g2,_⟩:=h2
      have g0:0≤l:=by simpa[Cd.holds,leb]using g0
      have g1:l.toNat≤len:=of_len' g1
      have g2:c.size=len*sz:=by have:=g2;simp only[Cd.holds,mz_eq]at this;exact this
      refine Eff.frz hm hl (fun F' hF hids=>?_)
      have hb:=base h1 F' hF hids
      have run0:∀(a:Option Addr) (cap:Nat),len≤cap→(Instr.sliceAt t (.slice a len cap) (some (.int k l)) none none).run P w=.ok (.slice (if cap=l.toNat then a else a.map (·.add (l.toNat*sz))) (len-l.toNat) (cap-l.toNat)) w:=fun a cap hle=>by
       rw[hrun]
       simp[Instr.sliceBounds,run_sliceBound k l len _ g0 (by omega)]
      have hsize:(c.drop (mz l.toNat sz)).size=(len-l.toNat)*sz:=by rw[size_drop,mz_eq,g2,Nat.sub_mul]
      cases hb with
      |imm _ _ _ b o cap' xs0 hF0 hcell hr ho hle hcap=>
       refine⟨_,by simpa using run0 _ _ hle,?_⟩
       by_cases hcl:cap'=l.toNat
       ·have e1:len-l.toNat=0:=by omega
        have e2:cap'-l.toNat=0:=by omega
        rw[if_pos hcl,e1,e2]
        exact .imm0 _ _ _ (by rw[hsize,e1];simp) (fun n e=>by cases e)
       ·rw[if_neg hcl]
        have:=imm_cut (w:=w) (F:=F') (c:=c) (len:=len) (cap:=capA) (cap':=cap') (mz l.toNat sz) (len-l.toNat) ((len-l.toNat)*sz) (cap'-l.toNat) hF0 hcell hr ho (by omega)
        rw[take_all _ _ (Nat.le_of_eq hsize)]at this
        simp only[Option.map_some,addr_add]
        rw[← mz_eq]
        exact this
      |imm0 _ _ a hc0 hcap=>
       have e0:l.toNat=0:=by omega
       refine⟨_,by simpa using run0 _ _ (Nat.le_refl _),?_⟩
       rw[e0]
       exact .imm0 _ _ _ (by rw[size_drop];omega) (fun n e=>by cases e)
     ·cases hD
  ·-- high
   cases bs with
   |nil=>simp at hlen
   |cons b1 bs=>
    cases hb with
    |cons _ _ y1 _ hb1 hbs=>
     split at hD
     ·rename_i k h hx1
      have hx1:b1=.int k h:=by simpa[x1]using hx1
      subst hx1
      have:=hb1.ints;subst this
      cases hD
      obtain⟨h1,h2⟩:=hc.app
      obtain⟨g0,g1,g2,_⟩:=h2
      have g0:0≤h:=by simpa[Cd.holds,leb]using g0
      have g1:h.toNat≤len:=of_len' g1
      have g2:c.size=len*sz:=by have:=g2;simp only[Cd.holds,mz_eq]at this;exact this
      refine Eff.frz hm hl (fun F' hF hids=>?_)
      have hb:=base h1 F' hF hids
      have run0:∀(a:Option Addr) (cap:Nat),len≤cap→(Instr.sliceAt t (.slice a len cap) none (some (.int k h)) none).run P w=.ok (.slice (if cap=0 then a else a.map (·.add 0)) h.toNat cap) w:=fun a cap hle=>by
       rw[hrun]
       simp[Instr.sliceBounds,run_sliceBound k h cap _ g0 (by omega)]
      cases hb with
      |imm _ _ _ b o cap' xs0 hF0 hcell hr ho hle hcap=>
       refine⟨_,by simpa using run0 _ _ hle,?_⟩
       have:(if cap'=0 then(some ⟨b,o,none⟩:Option Addr)else Option.map (fun x:Addr=>x.add 0) (some ⟨b,o,none⟩))=some ⟨b,o,none⟩:=by
        split<;>simp[Addr.add]
       rw[this]
       have:=imm_cut (w:=w) (F:=F') (c:=c) (len:=len) (cap:=capA) (cap':=cap') 0 h.toNat (mz h.toNat sz) cap' hF0 hcell hr ho (by omega)
       rw[drop_zero]at this
       exact this
      |imm0 _ _ a hc0 hcap=>
       have e0:h.toNat=0:=by omega
       refine⟨_,by simpa using run0 _ _ (Nat.le_refl _),?_⟩
       rw[e0]
       exact .imm0 _ _ _ (by rw[size_take];omega) (fun n e=>by cases e)
     ·cases hD
  ·-- low and high
   cases bs with
   |nil=>simp at hlen
   |cons b1 bs=>
    cases bs with
    |nil=>simp at hlen
    |cons b2 bs=>
     cases hb with
     |cons _ _ y1 _ hb1 hbs=>
      cases hbs with
      |cons _ _ y2 ys hb2 hbs=>
       split at hD
       ·rename_i k l k' h hx1 hx2
        have hx1:b1=.int k l:=by simpa[x1]using hx1
        have hx2:b2=.int k' h:=by simpa[x2]using hx2
        subst hx1 hx2
        have:=hb1.ints;subst this
        have:=hb2.ints;subst this
        cases hD
        obtain⟨h1,h2⟩:=hc.app
        obtain⟨g0,g1,g2,g3,_⟩:=h2
        have g0:0≤l:=by simpa[Cd.holds,leb]using g0
        have g1:l≤h:=by simpa[Cd.holds,leb]using g1
        have g2:h.toNat≤len:=of_len' g2
        have g3:c.size=len*sz:=by have:=g3;simp only[Cd.holds,mz_eq]at this;exact this
        refine Eff.frz hm hl (fun F' hF hids=>?_)
        have hb:=base h1 F' hF hids
        have run0:∀(a:Option Addr) (cap:Nat),len≤cap→(Instr.sliceAt t (.slice a len cap) (some (.int k l)) (some (.int k' h)) none).run P w=.ok (.slice (if cap=l.toNat then a else a.map (·.add (l.toNat*sz))) (h.toNat-l.toNat) (cap-l.toNat)) w:=fun a cap hle=>by
         rw[hrun]
         simp[Instr.sliceBounds,run_sliceBound k' h cap _ (by omega) (by omega),run_sliceBound k l h.toNat _ g0 (by omega)]
        cases hb with
        |imm _ _ _ b o cap' xs0 hF0 hcell hr ho hle hcap=>
         refine⟨_,by simpa using run0 _ _ hle,?_⟩
         by_cases hcl:cap'=l.toNat
         ·have e1:h.toNat-l.toNat=0:=by omega
          have e2:cap'-l.toNat=0:=by omega
          rw[if_pos hcl,e1,e2]
          exact .imm0 _ _ _ (by rw[size_take,mz_eq];simp) (fun n e=>by cases e)
         ·rw[if_neg hcl]
          have:=imm_cut (w:=w) (F:=F') (c:=c) (len:=len) (cap:=capA) (cap':=cap') (mz l.toNat sz) (h.toNat-l.toNat) (mz (h.toNat-l.toNat) sz) (cap'-l.toNat) hF0 hcell hr ho (by omega)
          simp only[Option.map_some,addr_add]
          rw[← mz_eq]
          exact this
        |imm0 _ _ a hc0 hcap=>
         have e0:h.toNat=0:=by omega
         have e1:l.toNat=0:=by omega
         refine⟨_,by simpa using run0 _ _ (Nat.le_refl _),?_⟩
         rw[e0,e1]
         exact .imm0 _ _ _ (by rw[size_take,size_drop];omega) (fun n e=>by cases e)
       ·cases hD
  ·cases hD
 ·-- the nil slice
  rename_i ids cs hfrz
  have base:AllC Sp cs→∀F',(∀b,F b→F' b)→(∀id,id∈ids→(∃k,look id=some (.blk k))→∀b,ρ id=some b→F' b)→RelI w F' .nils x:=by
   intro hcs F' hF hids
   exact(frz_sound hm hl hF 60).1 _ _ _ _ hfrz hcs (fun id hid b hb=>hids id hid ((frz_ids 60).1 _ _ _ _ hfrz id hid) b hb) x hx
  split at hD
  ·cases bs with
   |nil=>simp at hlen
   |cons b1 bs=>
    cases bs with
    |nil=>simp at hlen
    |cons b2 bs=>
     cases hb with
     |cons _ _ y1 _ hb1 hbs=>
      cases hbs with
      |cons _ _ y2 ys hb2 hbs=>
       split at hD
       ·rename_i k h k' m hx1 hx2
        have hx1:b1=.int k h:=by simpa[x1]using hx1
        have hx2:b2=.int k' m:=by simpa[x2]using hx2
        subst hx1 hx2
        have:=hb1.ints;subst this
        have:=hb2.ints;subst this
        cases hD
        obtain⟨h1,h2⟩:=hc.app
        obtain⟨g0,g1,g2,g3,_⟩:=h2
        have g0:0≤h:=by simpa[Cd.holds,leb]using g0
        have g1:h.toNat=0:=g1
        have g2:0≤m:=by simpa[Cd.holds,leb]using g2
        have g3:m.toNat=0:=g3
        refine Eff.frz hm hl (fun F' hF hids=>?_)
        have hb:=base h1 F' hF hids
        cases hb
        have run0:(Instr.sliceAt t (.slice none 0 0) none (some (.int k h)) (some (.int k' m))).run P w=.ok (.slice none 0 0) w:=by
         rw[hrun]
         simp[Instr.sliceBounds,run_sliceBound k' m 0 _ g2 (by omega),run_sliceBound k h 0 _ g0 (by omega),g1,g3]
        exact⟨_,by simpa using run0,.nils⟩
       ·cases hD
  ·cases hD
 ·cases hD

/-! ### Slice literals, make -/

theorem opStoreS_sound (hm:MRel G F ρ H w)(hl:∀id o,look id=some o→H id=some o){a v:AV}{p x:Value}(hp:RelV w F ρ H a p)(hx:RelV w F ρ H v x){sz:Nat}{t:TypeId}{i:TypeInfo}
  (hi:P.info? t=some i) (hsz:i.size=sz) (hD:opStoreS look sz a v=some D) (hc:AllC Sp D.cs):
  Eff G F ρ H w (((Instr.storeAt t p x).run P w).andThen fun _ w'=>.ok undef w') D:=by
 have hrun:∀a,(Instr.storeAt t (.pointer (some a)) x).run P w=(storeVar t a x).run P w:=fun a=>by
  simp[Instr.storeAt,Instr.sureAddr]
 unfold opStoreS at hD
 split at hD
 ·rename_i D0 h0
  cases hD
  exact opStore_sound hm hl hp hx hi hsz h0 hc
 ·rename_i hno
  clear hno
  unfold opStoreF at hD
  split at hD
  ·rename_i id n off
   split at hD
   ·rename_i k hk
    have hH:=hl _ _ hk
    split at hD
    ·rename_i v' ids cs' hfrz
     rw[cond_eq_ite]at hD
     split at hD
     ·rename_i hcond
      simp only[Bool.and_eq_true,Bool.not_eq_true']at hcond
      obtain⟨hmu,hmem,hall,hlen⟩:=hcond
      have hlen:v'.cs.length=sz:=Nat.eq_of_beq_eq_true hlen
      have hmem:id∉ids:=by
       intro h
       have:memN id ids=true:=memN_of_mem h
       rw[this]at hmem;cases hmem
      split at hD
      ·rename_i c hset
       cases hD
       obtain⟨c0,c1,c2⟩:=hc
       obtain⟨F1,f1,f2,f3,f4,f5,f6⟩:=frzAll (look:=look) ids F H hm (fun id k hk=>.inl (hl _ _ hk))
       have hv':=(frz_sound hm hl f2.keep 60).1 _ _ _ _ hfrz c2 (fun id hid b hb=>f4 id hid ((frz_ids 60).1 _ _ _ _ hfrz id hid) b hb) x hx
       have hH1:updL H (frzW look ids) id=some (.blk k):=by
        rcases f5 id k hk with h|h
        ·rw[h,hH]
        ·exact absurd h.1 hmem
       cases hp with
       |imm _ _ hi=>cases hi
       |ep _ _ _ k' _ hh hle hpp hxx=>
        rw[hH]at hh;cases hh
        obtain⟨b,hb,rfl⟩:=hxx c0
        have hle:off+sz≤k.c.size:=by simpa[Cd.holds,len']using c1
        obtain⟨w',p1,p2,p3,p4⟩:=store_sound (P:=P) f1 hH1 hb hmu (hv'.toV (ρ:=ρ) (h:=updL H (frzW look ids))) hi hall (by omega) hset (by omega)
        rw[hrun,p1]
        refine⟨undef,w',F1,ρ,rfl,?_⟩
        rw[updL_app]
        exact⟨p2,f2.trans p3,f3.trans p4,.imm _ _ (.undef _)⟩
      ·cases hD
     ·cases hD
    ·cases hD
   ·cases hD
  ·cases hD
theorem addr_add2 (p:Addr)(x y:Nat):(p.add x).add y=p.add (x+y):=by
 obtain⟨b,o,f⟩:=p
 unfold Addr.add
 by_cases hx:x=0
 ·subst hx;simp
 ·by_cases hy:y=0
  ·subst hy;simp
  ·simp[hx,hy,Nat.add_assoc]
theorem opView_sound (hm:MRel G F ρ H w)(hl:∀id o,look id=some o→H id=some o){sz:Nat}{lo hi mx:Bool}{id n:Nat}{bs:List AV}{x:Value}{xs:List Value}{t e:TypeId}{i:TypeInfo}
  (ht:P.underlying t=some (.slice e)) (hi':P.info? e=some i) (hsz:i.size=sz) (hx:RelV w F ρ H (.full id n) x) (hb:RelVs w F ρ H bs xs)
  (hlen:bs.length=(if lo then 1 else 0)+((if hi then 1 else 0)+(if mx then 1 else 0)))
  (hD:opView look sz id n lo hi mx bs=some D) (hc:AllC Sp D.cs):
  Eff G F ρ H w ((Instr.sliceAt t x (if lo then xs[0]? else none) (if hi then(if lo then xs[1]? else xs[0]?)else none) (if mx then(if lo then(if hi then xs[2]? else xs[1]?)else(if hi then xs[1]? else xs[0]?))else none)).run P w) D:=by
 have hrun:∀(a:Option Addr) (len cap:Nat) (l h m:Option Value),(Instr.sliceAt t (.slice a len cap) l h m).run P w=
   ((Instr.sliceBounds true len cap l h m).run P w).andThen fun q w'=>.ok (.slice (if q.2.2=q.1 then a else a.map (·.add (q.1*sz))) (q.2.1-q.1) (q.2.2-q.1)) w':=fun a len cap l h m=>by
  simp only[Instr.sliceAt,Instr.slice,Sem.run_bind,run_underlying' ht,Result.andThen_ok]
  cases hq:(Instr.sliceBounds true len cap l h m).run P w with
  |ok q w'=>simp[run_sizeOf' hi',hsz]
  |halt q w'=>rfl
 have hopt:∀(a:Option Addr),a.map (·.add (0*sz))=a:=fun a=>by cases a<;>simp[Addr.add]
 unfold opView at hD
 split at hD
 ·rename_i bk hbk
  have hH:=hl _ _ hbk
  rw[cond_eq_ite]at hD
  split at hD
  ·split at hD
   ·split at hD
    ·rename_i k l hx1
     rw[cond_eq_ite]at hD
     split at hD
     ·cases bs with
      |nil=>simp at hlen
      |cons b1 bs=>
       cases hb with
       |cons _ _ y1 _ hb1 hbs=>
        have hx1:b1=.int k l:=by simpa[x1]using hx1
        subst hx1
        have:=hb1.ints;subst this
        have hcs:=val_cs hD
        rw[hcs]at hc
        obtain⟨c0,c1,c2,_⟩:=hc
        have c0:bk.n=n:=c0
        have c1:0≤l:=by simpa[Cd.holds,leb]using c1
        have c2:l.toNat<n:=by simpa[Cd.holds,ltn]using c2
        obtain⟨a,cap,hf,rfl,hle⟩:=hx.fullf hH c0
        have hpt:∃p,a=some p:=by
         rcases hf with⟨e,_⟩|⟨e,_⟩|⟨_,b,cap',cs,ty,fz,p1,p2,e,p3,p4,p5⟩
         ·omega
         ·omega
         ·cases e;exact⟨_,rfl⟩
        obtain⟨p,rfl⟩:=hpt
        have run0:(Instr.sliceAt t (.slice (some p) n cap) (some (.int k l)) none none).run P w=.ok (.slice ((some p).map fun p=>p.add (l.toNat*sz)) (n-l.toNat) (cap-l.toNat)) w:=by
         rw[hrun]
         simp[Instr.sliceBounds,run_sliceBound k l n _ c1 (by omega)]
         intro h;omega
        refine Eff.val hm hD (x:=.slice ((some p).map fun p=>p.add (l.toNat*sz)) (n-l.toNat) (cap-l.toNat)) ?_ (.vw id n sz l.toNat (n-l.toNat) bk _ hH (by omega) ⟨_,_,_,rfl⟩ (fun _=>⟨by omega,_,_,hf,rfl⟩))
        simpa using run0
     ·split at hD
      ·rename_i cc hcap
       cases bs with
       |nil=>simp at hlen
       |cons b1 bs=>
        cases hb with
        |cons _ _ y1 _ hb1 hbs=>
         have hx1:b1=.int k l:=by simpa[x1]using hx1
         subst hx1
         have:=hb1.ints;subst this
         have hcs:=val_cs hD
         rw[hcs]at hc
         obtain⟨c0,c1,c2,c3,_⟩:=hc
         have c0:bk.n=n:=c0
         have c1:0≤l:=by simpa[Cd.holds,leb]using c1
         have c2:l.toNat=n:=c2
         have c3:cc=n:=c3
         obtain⟨a,cap,hf,rfl,hle⟩:=hx.fullf hH c0
         have hce:cap=n:=by
          rcases hf with⟨e,_,_,e2⟩|⟨e,_,_,a',e2⟩|⟨_,b,cap',cs,ty,fz,p1,p2,e2,p3,p4,p5⟩
          ·cases e2;exact e.symm
          ·cases e2;exact e.symm
          ·cases e2;rw[← c3];exact p5.1 _ hcap
         have run0:(Instr.sliceAt t (.slice a n cap) (some (.int k l)) none none).run P w=.ok (.slice a 0 0) w:=by
          rw[hrun]
          simp[Instr.sliceBounds,run_sliceBound k l n _ c1 (by omega),c2,hce]
         refine Eff.val hm hD (x:=.slice a 0 0) ?_ (.imm _ _ (.imm0 _ _ _ (by cases bk.c<;>simp[Cont.take,Cont.size]) (fun n e=>by cases e;rfl)))
         simpa using run0
      ·cases hD
    ·cases hD
   ·split at hD
    ·rename_i k h hx1
     cases bs with
     |nil=>simp at hlen
     |cons b1 bs=>
      cases hb with
      |cons _ _ y1 _ hb1 hbs=>
       have hx1:b1=.int k h:=by simpa[x1]using hx1
       subst hx1
       have:=hb1.ints;subst this
       have hcs:=val_cs hD
       rw[hcs]at hc
       obtain⟨c0,c1,c2,_⟩:=hc
       have c0:bk.n=n:=c0
       have c1:0≤h:=by simpa[Cd.holds,leb]using c1
       have c2:h.toNat≤n:=by simpa[Cd.holds,len']using c2
       obtain⟨a,cap,hf,rfl,hle⟩:=hx.fullf hH c0
       have run0:(Instr.sliceAt t (.slice a n cap) none (some (.int k h)) none).run P w=.ok (.slice (a.map fun p=>p.add (0*sz)) h.toNat (cap-0)) w:=by
        rw[hrun]
        simp[Instr.sliceBounds,run_sliceBound k h cap _ c1 (by omega)]
        intro _
        have:=hopt a
        simp only[Nat.zero_mul]at this
        exact this.symm
       have:=Eff.val hm hD run0 (.vw id n sz 0 h.toNat bk _ hH (by omega) ⟨_,_,_,rfl⟩ (fun _=>⟨by omega,_,_,hf,rfl⟩))
       simpa using this
    ·cases hD
   ·cases hD
  ·cases hD
 ·cases hD
theorem opViewT_sound (hm:MRel G F ρ H w)(hl:∀id o,look id=some o→H id=some o){sz:Nat}{lo hi mx:Bool}{id n:Nat}{bs:List AV}{x:Value}{xs:List Value}{t e:TypeId}{i:TypeInfo}
  (ht:P.underlying t=some (.slice e)) (hi':P.info? e=some i) (hsz:i.size=sz) (hx:RelV w F ρ H (.full id n) x) (hb:RelVs w F ρ H bs xs)
  (hlen:bs.length=(if lo then 1 else 0)+((if hi then 1 else 0)+(if mx then 1 else 0)))
  (hD:opViewT look sz id n lo hi mx bs=some D) (hc:AllC Sp D.cs):
  Eff G F ρ H w ((Instr.sliceAt t x (if lo then xs[0]? else none) (if hi then(if lo then xs[1]? else xs[0]?)else none) (if mx then(if lo then(if hi then xs[2]? else xs[1]?)else(if hi then xs[1]? else xs[0]?))else none)).run P w) D:=by
 have hrun:∀(a:Option Addr) (len cap:Nat) (l h m:Option Value),(Instr.sliceAt t (.slice a len cap) l h m).run P w=
   ((Instr.sliceBounds true len cap l h m).run P w).andThen fun q w'=>.ok (.slice (if q.2.2=q.1 then a else a.map (·.add (q.1*sz))) (q.2.1-q.1) (q.2.2-q.1)) w':=fun a len cap l h m=>by
  simp only[Instr.sliceAt,Instr.slice,Sem.run_bind,run_underlying' ht,Result.andThen_ok]
  cases hq:(Instr.sliceBounds true len cap l h m).run P w with
  |ok q w'=>simp[run_sizeOf' hi',hsz]
  |halt q w'=>rfl
 unfold opViewT at hD
 split at hD
 ·rename_i bk hbk
  have hH:=hl _ _ hbk
  rw[cond_eq_ite]at hD
  split at hD
  ·split at hD
   ·split at hD
    ·rename_i k l hx1
     cases bs with
     |nil=>simp at hlen
     |cons b1 bs=>
      cases hb with
      |cons _ _ y1 _ hb1 hbs=>
       have hx1:b1=.int k l:=by simpa[x1]using hx1
       subst hx1
       have:=hb1.ints;subst this
       have hcs:=val_cs hD
       rw[hcs]at hc
       obtain⟨c0,c1,c2,_⟩:=hc
       have c0:bk.n=n:=c0
       have c1:0≤l:=by simpa[Cd.holds,leb]using c1
       have c2:l.toNat<n:=by simpa[Cd.holds,ltn]using c2
       obtain⟨a,cap,hf,rfl,hle⟩:=hx.fullf hH c0
       have hpt:∃p,a=some p:=by
        rcases hf with⟨e,_⟩|⟨e,_⟩|⟨_,b,cap',cs,ty,fz,p1,p2,e,p3,p4,p5⟩
        ·omega
        ·omega
        ·cases e;exact⟨_,rfl⟩
       obtain⟨p,rfl⟩:=hpt
       have run0:(Instr.sliceAt t (.slice (some p) n cap) (some (.int k l)) none none).run P w=.ok (.slice ((some p).map fun p=>p.add (l.toNat*sz)) (n-l.toNat) (cap-l.toNat)) w:=by
        rw[hrun]
        simp[Instr.sliceBounds,run_sliceBound k l n _ c1 (by omega)]
        intro h;omega
       refine Eff.val hm hD (x:=.slice ((some p).map fun p=>p.add (l.toNat*sz)) (n-l.toNat) (cap-l.toNat)) ?_ (.vw id n sz l.toNat (n-l.toNat) bk _ hH (by omega) ⟨_,_,_,rfl⟩ (fun _=>⟨by omega,_,_,hf,rfl⟩))
       simpa using run0
    ·cases hD
   ·cases hD
  ·cases hD
 ·cases hD
theorem opView2_sound (hm:MRel G F ρ H w)(hl:∀id o,look id=some o→H id=some o){sz:Nat}{lo hi mx:Bool}{id n s off len:Nat}{bs:List AV}{x:Value}{xs:List Value}{t e:TypeId}{i:TypeInfo}
  (ht:P.underlying t=some (.slice e)) (hi':P.info? e=some i) (hsz:i.size=sz) (hx:RelV w F ρ H (.vw id n s off len) x) (hb:RelVs w F ρ H bs xs)
  (hlen:bs.length=(if lo then 1 else 0)+((if hi then 1 else 0)+(if mx then 1 else 0)))
  (hD:opView2 look sz id n s off len lo hi mx bs=some D) (hc:AllC Sp D.cs):
  Eff G F ρ H w ((Instr.sliceAt t x (if lo then xs[0]? else none) (if hi then(if lo then xs[1]? else xs[0]?)else none) (if mx then(if lo then(if hi then xs[2]? else xs[1]?)else(if hi then xs[1]? else xs[0]?))else none)).run P w) D:=by
 have hrun:∀(a:Option Addr) (len cap:Nat) (l h m:Option Value),(Instr.sliceAt t (.slice a len cap) l h m).run P w=
   ((Instr.sliceBounds true len cap l h m).run P w).andThen fun q w'=>.ok (.slice (if q.2.2=q.1 then a else a.map (·.add (q.1*sz))) (q.2.1-q.1) (q.2.2-q.1)) w':=fun a len cap l h m=>by
  simp only[Instr.sliceAt,Instr.slice,Sem.run_bind,run_underlying' ht,Result.andThen_ok]
  cases hq:(Instr.sliceBounds true len cap l h m).run P w with
  |ok q w'=>simp[run_sizeOf' hi',hsz]
  |halt q w'=>rfl
 unfold opView2 at hD
 split at hD
 ·rename_i bk hbk
  have hH:=hl _ _ hbk
  split at hD
  ·split at hD
   ·rename_i k h hx1
    cases bs with
    |nil=>simp at hlen
    |cons b1 bs=>
     cases hb with
     |cons _ _ y1 _ hb1 hbs=>
      have hx1:b1=.int k h:=by simpa[x1]using hx1
      subst hx1
      have:=hb1.ints;subst this
      have hcs:=val_cs hD
      rw[hcs]at hc
      obtain⟨c0,c1,c2,_⟩:=hc
      have c0:bk.n=n:=c0
      have c1:0≤h:=by simpa[Cd.holds,leb]using c1
      have c2:h.toNat≤len:=by simpa[Cd.holds,len']using c2
      obtain⟨hle,a,c,hf,rfl⟩:=hx.vwf hH c0
      have hnc:n≤c:=by
       rcases hf with⟨e,_⟩|⟨e,_⟩|⟨_,b,cap,cs,ty,fz,p1,p2,e,p3,p4,p5⟩
       ·omega
       ·omega
       ·cases e;exact p3
      have run0:(Instr.sliceAt t (.slice (a.map fun p=>p.add (off*s)) len (c-off)) none (some (.int k h)) none).run P w=.ok (.slice (a.map fun p=>p.add (off*s)) h.toNat (c-off)) w:=by
       rw[hrun]
       simp[Instr.sliceBounds,run_sliceBound k h (c-off) _ c1 (by omega)]
       intro _
       cases a<;>simp[Addr.add]
      have:=Eff.val hm hD run0 (.vw id n s off h.toNat bk _ hH (by omega) ⟨_,_,_,rfl⟩ (fun _=>⟨by omega,_,_,hf,rfl⟩))
      simpa using this
   ·cases hD
  ·split at hD
   ·rename_i k l hx1
    rw[cond_eq_ite]at hD
    split at hD
    ·rename_i hq
     rw[Bool.and_eq_true]at hq
     have e1:=Nat.eq_of_beq_eq_true hq.1
     have e2:=Nat.eq_of_beq_eq_true hq.2
     subst e1
     cases bs with
     |nil=>simp at hlen
     |cons b1 bs=>
      cases hb with
      |cons _ _ y1 _ hb1 hbs=>
       have hx1:b1=.int k l:=by simpa[x1]using hx1
       subst hx1
       have:=hb1.ints;subst this
       rw[cond_eq_ite]at hD
       split at hD
       ·have hcs:=val_cs hD
        rw[hcs]at hc
        obtain⟨c0,c1,c2,_⟩:=hc
        have c0:bk.n=n:=c0
        have c1:0≤l:=by simpa[Cd.holds,leb]using c1
        have c2:l.toNat<len:=by simpa[Cd.holds,ltn]using c2
        obtain⟨hle,a,c,hf,rfl⟩:=hx.vwf hH c0
        have hnc:n≤c∧∃p,a=some p:=by
         rcases hf with⟨e,_⟩|⟨e,_⟩|⟨_,b,cap,cs,ty,fz,p1,p2,e,p3,p4,p5⟩
         ·omega
         ·omega
         ·cases e;exact⟨p3,_,rfl⟩
        obtain⟨hnc,p,rfl⟩:=hnc
        have run0:(Instr.sliceAt t (.slice ((some p).map fun p=>p.add (off*s)) len (c-off)) (some (.int k l)) none none).run P w=.ok (.slice ((some p).map fun p=>p.add ((off+l.toNat)*s)) (len-l.toNat) (c-(off+l.toNat))) w:=by
         rw[hrun]
         have hq:(Instr.sliceBounds true len (c-off) (some (.int k l)) none none).run P w=.ok (l.toNat,len,c-off) w:=by
          simp[Instr.sliceBounds,run_sliceBound k l len _ c1 (by omega)]
         rw[hq]
         simp only[Result.andThen_ok]
         have hne:¬ (c-off=l.toNat):=by omega
         have e3:bk.sz=bk.sz:=rfl
         rw[if_neg hne]
         have ea:((some p).map fun p=>p.add (off*s)).map (·.add (l.toNat*s))=(some p).map fun p=>p.add ((off+l.toNat)*s):=by
          simp only[Option.map_some]
          rw[addr_add2,Nat.add_mul]
         have eb:c-off-l.toNat=c-(off+l.toNat):=by omega
         rw[ea,eb]
        have:=Eff.val hm hD run0 (.vw id n s (off+l.toNat) (len-l.toNat) bk _ hH (by omega) ⟨_,_,_,rfl⟩ (fun _=>⟨by omega,_,_,hf,rfl⟩))
        simpa using this
       ·split at hD
        ·rename_i cc hcap
         have hcs:=val_cs hD
         rw[hcs]at hc
         obtain⟨c0,c1,c2,c3,c4,_⟩:=hc
         have c0:bk.n=n:=c0
         have c1:0≤l:=by simpa[Cd.holds,leb]using c1
         have c2:l.toNat=len:=c2
         have c3:cc=n:=c3
         have c4:off+len=n:=c4
         obtain⟨hle,a,c,hf,rfl⟩:=hx.vwf hH c0
         have hce:c=n:=by
          rcases hf with⟨e,_,_,e2⟩|⟨e,_,_,a',e2⟩|⟨_,b,cap',cs,ty,fz,p1,p2,e2,p3,p4,p5⟩
          ·cases e2;exact e.symm
          ·cases e2;exact e.symm
          ·cases e2;rw[← c3];exact p5.1 _ hcap
         have hcl:c-off=len:=by omega
         have run0:(Instr.sliceAt t (.slice (a.map fun p=>p.add (off*s)) len (c-off)) (some (.int k l)) none none).run P w=.ok (.slice (a.map fun p=>p.add (off*s)) 0 0) w:=by
          rw[hrun]
          simp[Instr.sliceBounds,run_sliceBound k l len _ c1 (by omega),c2,hcl]
         refine Eff.val hm hD (x:=.slice (a.map fun p=>p.add (off*s)) 0 0) ?_ (.imm _ _ (.imm0 _ _ _ (by cases bk.c<;>simp[Cont.take,Cont.size]) (fun n e=>by cases e;rfl)))
         simpa using run0
        ·cases hD
    ·cases hD
   ·cases hD
  ·cases hD
 ·cases hD
theorem opKeep_sound (hm:MRel G F ρ H w)(hl:∀id o,look id=some o→H id=some o){sz:Nat}{lo hi mx:Bool}{id len:Nat}{bs:List AV}{x:Value}{xs:List Value}{t e:TypeId}{i:TypeInfo}
  (ht:P.underlying t=some (.slice e)) (hi':P.info? e=some i) (hsz:i.size=sz) (hx:RelV w F ρ H (.full id len) x) (hb:RelVs w F ρ H bs xs)
  (hlen:bs.length=(if lo then 1 else 0)+((if hi then 1 else 0)+(if mx then 1 else 0)))
  (hD:opKeep look id len lo hi mx bs=some D) (hc:AllC Sp D.cs):
  Eff G F ρ H w ((Instr.sliceAt t x (if lo then xs[0]? else none) (if hi then(if lo then xs[1]? else xs[0]?)else none) (if mx then(if lo then(if hi then xs[2]? else xs[1]?)else(if hi then xs[1]? else xs[0]?))else none)).run P w) D:=by
 have hrun:∀(a:Option Addr) (len cap:Nat) (l h m:Option Value),(Instr.sliceAt t (.slice a len cap) l h m).run P w=
   ((Instr.sliceBounds true len cap l h m).run P w).andThen fun q w'=>.ok (.slice (if q.2.2=q.1 then a else a.map (·.add (q.1*sz))) (q.2.1-q.1) (q.2.2-q.1)) w':=fun a len cap l h m=>by
  simp only[Instr.sliceAt,Instr.slice,Sem.run_bind,run_underlying' ht,Result.andThen_ok]
  cases hq:(Instr.sliceBounds true len cap l h m).run P w with
  |ok q w'=>simp[run_sizeOf' hi',hsz]
  |halt q w'=>rfl
 have hopt:∀(a:Option Addr) (p:Prop) [Decidable p],(if p then a else a.map (·.add (0*sz)))=a:=fun a p _=>by
  split
  ·rfl
  ·cases a<;>simp[Addr.add]
 unfold opKeep at hD
 split at hD
 ·rename_i bk hbk
  split at hD
  ·rename_i hmu hcap
   split at hD
   ·cases bs with
    |nil=>simp at hlen
    |cons b1 bs=>
     cases bs with
     |nil=>simp at hlen
     |cons b2 bs=>
      cases hb with
      |cons _ _ y1 _ hb1 hbs=>
       cases hbs with
       |cons _ _ y2 ys hb2 hbs=>
        split at hD
        ·rename_i k h k' m hx1 hx2
         have hx1:b1=.int k h:=by simpa[x1]using hx1
         have hx2:b2=.int k' m:=by simpa[x2]using hx2
         subst hx1 hx2
         have:=hb1.ints;subst this
         have:=hb2.ints;subst this
         rw[cond_eq_ite]at hD
         split at hD
         ·have hcs:=val_cs hD
          rw[hcs]at hc
          obtain⟨c0,c1,c2,c3,c4,_⟩:=hc
          have c0:bk.n=len:=c0
          have c1:0≤h:=by simpa[Cd.holds,leb]using c1
          have c2:h.toNat=len:=c2
          have c3:0≤m:=by simpa[Cd.holds,leb]using c3
          have c4:m.toNat=len:=c4
          have hH:=hl _ _ hbk
          obtain⟨a,cap,hf,rfl,hle⟩:=hx.fullf hH c0
          have run0:(Instr.sliceAt t (.slice a len cap) none (some (.int k h)) (some (.int k' m))).run P w=.ok (.slice a len len) w:=by
           rw[hrun]
           simp[Instr.sliceBounds,run_sliceBound k' m cap _ c3 (by omega),run_sliceBound k h len _ c1 (by omega),c2,c4]
           simpa using hopt a (len=0)
          refine Eff.val hm hD (x:=.slice a len len) (by simpa using run0) (.fullc id len len a (.full id len bk _ hH (by omega) ⟨_,_,_,rfl⟩ (fun _=>?_)))
          rcases hf with⟨e,q1,q2,e2⟩|⟨e,q1,q2,a',e2⟩|⟨q1,b,cap',cs,ty,fz,q2,q3,e2,q4,q5,q6⟩
          ·cases e2;exact .inl ⟨e,q1,q2,by rw[e]⟩
          ·cases e2;exact .inr (.inl ⟨e,q1,q2,a',by rw[e]⟩)
          ·cases e2;exact .inr (.inr ⟨q1,b,len,cs,ty,fz,q2,q3,rfl,Nat.le_refl _,Nat.le_trans (Nat.mul_le_mul_right _ q4) q5,(fun n e=>by rw[hcap]at e;cases e),Nat.le_trans q4 q6.2⟩)
         ·cases hD
        ·cases hD
   ·cases hD
  ·cases hD
 ·cases hD
theorem opSliceS_sound (hm:MRel G F ρ H w)(hl:∀id o,look id=some o→H id=some o){sz:Nat}{lo hi mx:Bool}{v:AV}{bs:List AV}{x:Value}{xs:List Value}{t e:TypeId}{i:TypeInfo}
  (ht:P.underlying t=some (.slice e)) (hi':P.info? e=some i) (hsz:i.size=sz) (hx:RelV w F ρ H v x) (hb:RelVs w F ρ H bs xs)
  (hlen:bs.length=(if lo then 1 else 0)+((if hi then 1 else 0)+(if mx then 1 else 0)))
  {d:Dir} (hD:opSliceS look d sz lo hi mx v bs=some D) (hc:AllC Sp D.cs):
  Eff G F ρ H w ((Instr.sliceAt t x (if lo then xs[0]? else none) (if hi then(if lo then xs[1]? else xs[0]?)else none) (if mx then(if lo then(if hi then xs[2]? else xs[1]?)else(if hi then xs[1]? else xs[0]?))else none)).run P w) D:=by
 have hrun:∀(a:Option Addr) (len cap:Nat) (l h m:Option Value),(Instr.sliceAt t (.slice a len cap) l h m).run P w=
   ((Instr.sliceBounds true len cap l h m).run P w).andThen fun q w'=>.ok (.slice (if q.2.2=q.1 then a else a.map (·.add (q.1*sz))) (q.2.1-q.1) (q.2.2-q.1)) w':=fun a len cap l h m=>by
  simp only[Instr.sliceAt,Instr.slice,Sem.run_bind,run_underlying' ht,Result.andThen_ok]
  cases hq:(Instr.sliceBounds true len cap l h m).run P w with
  |ok q w'=>simp[run_sizeOf' hi',hsz]
  |halt q w'=>rfl
 have hopt:∀(a:Option Addr) (p:Prop) [Decidable p],(if p then a else a.map (·.add (0*sz)))=a:=fun a p _=>by
  split
  ·rfl
  ·cases a<;>simp[Addr.add]
 unfold opSliceS at hD
 split at hD
 ·rename_i id
  split at hD
  ·split at hD
   ·rename_i k h hx1
    cases bs with
    |nil=>simp at hlen
    |cons b1 bs=>
     cases hb with
     |cons _ _ y1 _ hb1 hbs=>
      have hx1:b1=.int k h:=by simpa[x1]using hx1
      subst hx1
      have:=hb1.ints;subst this
      have hcs:=val_cs hD
      rw[hcs]at hc
      have e0:h=0:=by simpa[Cd.holds]using hc.1
      subst e0
      cases hx with
      |imm _ _ hi=>cases hi
      |spare _ a l c hf=>
       refine Eff.val hm hD (x:=.slice a 0 c) ?_ hf
       have:(Instr.sliceAt t (.slice a l c) none (some (.int k 0)) none).run P w=.ok (.slice a 0 c) w:=by
        rw[hrun]
        simp[Instr.sliceBounds,run_sliceBound k 0 c _ (by omega) (by omega)]
        simpa using hopt a (c=0)
       simpa using this
   ·cases hD
  ·cases hD
 ·split at hD
  ·split at hD
   ·rename_i k h hx1
    cases bs with
    |nil=>simp at hlen
    |cons b1 bs=>
     cases hb with
     |cons _ _ y1 _ hb1 hbs=>
      have hx1:b1=.int k h:=by simpa[x1]using hx1
      subst hx1
      have:=hb1.ints;subst this
      have hcs:=val_cs hD
      rw[hcs]at hc
      have e0:h=0:=by simpa[Cd.holds]using hc.1
      subst e0
      cases hx with
      |imm _ _ hi=>
       cases hi
       refine Eff.val hm hD (x:=.slice none 0 0) ?_ (.imm _ _ .nils)
       have:(Instr.sliceAt t (.slice none 0 0) none (some (.int k 0)) none).run P w=.ok (.slice none 0 0) w:=by
        rw[hrun]
        simp[Instr.sliceBounds,run_sliceBound k 0 0 _ (by omega) (by omega)]
       simpa using this
   ·cases hD
  ·exact opSlice_sound hm hl ht hi' hsz hx hb hlen hD hc
 ·rename_i id len
  split at hD
  ·split at hD
   ·rename_i bk hbk
    split at hD
    ·rename_i hcap
     split at hD
     ·cases bs with
      |nil=>simp at hlen
      |cons b1 bs=>
       cases bs with
       |nil=>simp at hlen
       |cons b2 bs=>
        cases hb with
        |cons _ _ y1 _ hb1 hbs=>
         cases hbs with
         |cons _ _ y2 ys hb2 hbs=>
          split at hD
          ·rename_i k h k' m hx1 hx2
           have hx1:b1=.int k h:=by simpa[x1]using hx1
           have hx2:b2=.int k' m:=by simpa[x2]using hx2
           subst hx1 hx2
           have:=hb1.ints;subst this
           have:=hb2.ints;subst this
           have hcs:=val_cs hD
           rw[hcs]at hc
           obtain⟨c0,c1,c2,c3,c4,_⟩:=hc
           have c0:bk.n=len:=c0
           have c1:0≤h:=by simpa[Cd.holds,leb]using c1
           have c2:h.toNat=len:=c2
           have c3:0≤m:=by simpa[Cd.holds,leb]using c3
           have c4:m.toNat=len:=c4
           have run0:∀(a:Option Addr) (cap:Nat),len≤cap→(Instr.sliceAt t (.slice a len cap) none (some (.int k h)) (some (.int k' m))).run P w=.ok (.slice a len len) w:=fun a cap hle=>by
            rw[hrun]
            simp[Instr.sliceBounds,run_sliceBound k' m cap _ c3 (by omega),run_sliceBound k h len _ c1 (by omega),c2,c4]
            simpa using hopt a (len=0)
           have hH:=hl _ _ hbk
           cases hx with
           |imm _ _ hi=>cases hi
           |full _ _ kk x hh hle hp hx=>
            rw[hH]at hh;cases hh
            have hf:=hx c0
            rcases hf with⟨rfl,q1,q2,rfl⟩|⟨rfl,q1,q2,a,rfl⟩|⟨q1,b,cap,cs,ty,fz,q2,q3,rfl,q4,q5,q6⟩
            ·refine Eff.val hm hD (x:=.slice none 0 0) ?_ (.full id 0 bk _ hH (by omega) ⟨_,_,_,rfl⟩ (fun _=>.inl ⟨rfl,q1,q2,rfl⟩))
             simpa using run0 none 0 (Nat.le_refl _)
            ·refine Eff.val hm hD (x:=.slice (some a) 0 0) ?_ (.full id 0 bk _ hH (by omega) ⟨_,_,_,rfl⟩ (fun _=>.inr (.inl ⟨rfl,q1,q2,a,rfl⟩)))
             simpa using run0 (some a) 0 (Nat.le_refl _)
            ·refine Eff.val hm hD (x:=.slice (some ⟨b,0,none⟩) len len) ?_ (.full id len bk _ hH (by omega) ⟨_,_,_,rfl⟩ (fun _=>.inr (.inr ⟨q1,b,len,cs,ty,fz,q2,q3,rfl,Nat.le_refl _,Nat.le_trans (Nat.mul_le_mul_right _ q4) q5,(fun n e=>by rw[hcap]at e;cases e),Nat.le_trans q4 q6.2⟩)))
             simpa using run0 (some ⟨b,0,none⟩) cap q4
          ·cases hD
     ·exact opView_sound hm hl ht hi' hsz hx hb hlen hD hc
    ·exact opView_sound hm hl ht hi' hsz hx hb hlen hD hc
   ·cases hD
  ·split at hD
   ·rename_i D0 hv
    cases hD
    exact opView_sound hm hl ht hi' hsz hx hb hlen hv hc
   ·split at hD
    ·rename_i D0 hv
     cases hD
     exact opKeep_sound hm hl ht hi' hsz hx hb hlen hv hc
    ·exact opSlice_sound hm hl ht hi' hsz hx hb hlen hD hc
  ·split at hD
   ·rename_i bk hbk
    split at hD
    ·rename_i hcap
     split at hD
     ·cases bs with
      |nil=>simp at hlen
      |cons b1 bs=>
       cases bs with
       |nil=>simp at hlen
       |cons b2 bs=>
        cases hb with
        |cons _ _ y1 _ hb1 hbs=>
         cases hbs with
         |cons _ _ y2 ys hb2 hbs=>
          split at hD
          ·rename_i k h k' m hx1 hx2
           have hx1:b1=.int k h:=by simpa[x1]using hx1
           have hx2:b2=.int k' m:=by simpa[x2]using hx2
           subst hx1 hx2
           have:=hb1.ints;subst this
           have:=hb2.ints;subst this
           have hcs:=val_cs hD
           rw[hcs]at hc
           obtain⟨c0,c1,c2,c3,c4,_⟩:=hc
           have c0:bk.n=len:=c0
           have c1:0≤h:=by simpa[Cd.holds,leb]using c1
           have c2:h.toNat=len:=c2
           have c3:0≤m:=by simpa[Cd.holds,leb]using c3
           have c4:m.toNat=len:=c4
           have run0:∀(a:Option Addr) (cap:Nat),len≤cap→(Instr.sliceAt t (.slice a len cap) none (some (.int k h)) (some (.int k' m))).run P w=.ok (.slice a len len) w:=fun a cap hle=>by
            rw[hrun]
            simp[Instr.sliceBounds,run_sliceBound k' m cap _ c3 (by omega),run_sliceBound k h len _ c1 (by omega),c2,c4]
            simpa using hopt a (len=0)
           have hH:=hl _ _ hbk
           cases hx with
           |imm _ _ hi=>cases hi
           |full _ _ kk x hh hle hp hx=>
            rw[hH]at hh;cases hh
            have hf:=hx c0
            rcases hf with⟨rfl,q1,q2,rfl⟩|⟨rfl,q1,q2,a,rfl⟩|⟨q1,b,cap,cs,ty,fz,q2,q3,rfl,q4,q5,q6⟩
            ·refine Eff.val hm hD (x:=.slice none 0 0) ?_ (.fullc id 0 0 none (.full id 0 bk _ hH (by omega) ⟨_,_,_,rfl⟩ (fun _=>.inl ⟨rfl,q1,q2,rfl⟩)))
             simpa using run0 none 0 (Nat.le_refl _)
            ·refine Eff.val hm hD (x:=.slice (some a) 0 0) ?_ (.fullc id 0 0 (some a) (.full id 0 bk _ hH (by omega) ⟨_,_,_,rfl⟩ (fun _=>.inr (.inl ⟨rfl,q1,q2,a,rfl⟩))))
             simpa using run0 (some a) 0 (Nat.le_refl _)
            ·refine Eff.val hm hD (x:=.slice (some ⟨b,0,none⟩) len len) ?_ (.fullc id len len (some ⟨b,0,none⟩) (.full id len bk _ hH (by omega) ⟨_,_,_,rfl⟩ (fun _=>.inr (.inr ⟨q1,b,len,cs,ty,fz,q2,q3,rfl,Nat.le_refl _,Nat.le_trans (Nat.mul_le_mul_right _ q4) q5,(fun n e=>by rw[hcap]at e;cases e),Nat.le_trans q4 q6.2⟩))))
             simpa using run0 (some ⟨b,0,none⟩) cap q4
          ·cases hD
     ·cases hD
    ·cases hD
   ·cases hD
  ·split at hD
   ·rename_i D0 hv
    cases hD
    exact opViewT_sound hm hl ht hi' hsz hx hb hlen hv hc
   ·exact opSlice_sound hm hl ht hi' hsz hx hb hlen hD hc
  ·exact opSlice_sound hm hl ht hi' hsz hx hb hlen hD hc
 ·split at hD
  ·rename_i D0 hv
   cases hD
   exact opView2_sound hm hl ht hi' hsz hx hb hlen hv hc
  ·exact opSlice_sound hm hl ht hi' hsz hx hb hlen hD hc
 ·exact opSliceQ_sound hm hl ht hi' hsz hx hb hlen hD hc
 ·exact opSlice_sound hm hl ht hi' hsz hx hb hlen hD hc

theorem repL_rel {z:List AV}{zs:List Value}(h:RelVs w F ρ H z zs):∀n,RelVs w F ρ H (repL z n) (repL zs n)
 |0=>.nil
 |n+1=>h.app (repL_rel h n)
theorem repL_length {α:Type}(l:List α):∀n,(repL l n).length=n*l.length
 |0=>by simp[repL]
 |n+1=>by simp[repL,repL_length l n,Nat.add_mul,Nat.add_comm]
theorem repL_get {α:Type}[Inhabited α](zs:Array α)(hz:0<zs.size):∀n i,i<n*zs.size→(repL zs.toList n)[i]? =some zs[i%zs.size]!
 |0,i,h=>by simp at h
 |n+1,i,h=>by
  simp only[repL]
  by_cases hi:i<zs.size
  ·rw[List.getElem?_append_left (by simpa using hi),Nat.mod_eq_of_lt hi]
   simp[hi]
  ·rw[List.getElem?_append_right (by simp;omega)]
   rw[Array.length_toList]
   rw[repL_get zs hz n (i-zs.size) (by rw[Nat.add_mul]at h;omega)]
   rw[Nat.mod_eq_sub_mod (show i≥zs.size by omega)]
theorem rep_eq {α:Type}[Inhabited α](zs:Array α)(n:Nat)(hz:0<zs.size):((Array.range (n*zs.size)).map fun i=>zs[i%zs.size]!).toList=repL zs.toList n:=by
 apply List.ext_getElem?
 intro i
 by_cases h:i<n*zs.size
 ·rw[repL_get zs hz n i h]
  simp[h]
 ·rw[List.getElem?_eq_none (by simp;omega),List.getElem?_eq_none (by rw[repL_length];simp;omega)]

theorem intsOf_spec {k:IntKind}:∀{l:List AV} {l':List Int},intsOf k l=some l'→l=l'.map (.int k)
 |[],l',h=>by cases h;rfl
 |v::r,l',h=>by
  cases v<;>simp only[intsOf,reduceCtorEq]at h
  case int k' n=>
   simp only[cond_eq_ite]at h
   split at h
   ·rename_i hk
    have hk:k=k':=by simpa[beqK]using hk
    subst hk
    split at h
    ·rename_i l1 h1;cases h;simp[intsOf_spec h1]
    ·cases h
   ·cases h
theorem boolsOf_spec:∀{l:List AV} {l':List Bool},boolsOf l=some l'→l=l'.map .bool
 |[],l',h=>by cases h;rfl
 |v::r,l',h=>by
  cases v<;>simp only[boolsOf,reduceCtorEq]at h
  case bool b=>
   split at h
   ·rename_i l1 h1;cases h;simp[boolsOf_spec h1]
   ·cases h
theorem strsOf_spec:∀{l:List AV} {l':List (List UInt8)},strsOf l=some l'→l=l'.map .str
 |[],l',h=>by cases h;rfl
 |v::r,l',h=>by
  cases v<;>simp only[strsOf,reduceCtorEq]at h
  case str b=>
   split at h
   ·rename_i l1 h1;cases h;simp[strsOf_spec h1]
   ·cases h

theorem contOf_spec {ty:Nat}{l:List AV}{c:Cont}(h:contOf ty l=some c):c.size=l.length∧∀i x,i<l.length→RelV w F ρ H (l.getD i .undef) x→x.oneCell'=true→RelE w F ρ H c i x:=by
 have ints:∀k l',intsOf k l=some l'→(Cont.ints k l').size=l.length∧∀i x,i<l.length→RelV w F ρ H (l.getD i .undef) x→x.oneCell'=true→RelE w F ρ H (.ints k l') i x:=by
  intro k l' hl'
  have:=intsOf_spec hl';subst this
  refine⟨by simp[Cont.size],fun i x hi hr hone=>⟨?_,hone⟩⟩
  have hi':i<l'.length:=by simpa using hi
  have e:(l'.map (AV.int k)).getD i .undef=.int k (l'.getD i 0):=by simp[List.getD,hi']
  rw[e]at hr
  have:=hr.ints;subst this
  exact .int _ _
 unfold contOf at h
 split at h
 ·cases h
  exact⟨rfl,fun i x hi hr hone=>⟨hr,hone⟩⟩
 ·split at h
  ·rename_i l' hl'
   cases h
   have:=boolsOf_spec hl';subst this
   refine⟨by simp[Cont.size],fun i x hi hr hone=>⟨?_,hone⟩⟩
   have hi':i<l'.length:=by simpa using hi
   have e:(l'.map AV.bool).getD i .undef=.bool (l'.getD i false):=by simp[List.getD,hi']
   rw[e]at hr
   have:=hr.bools;subst this
   exact .bool _
  ·cases h
 ·split at h
  ·rename_i l' hl'
   cases h
   have:=strsOf_spec hl';subst this
   refine⟨by simp[Cont.size],fun i x hi hr hone=>⟨?_,hone⟩⟩
   have hi':i<l'.length:=by simpa using hi
   have e:(l'.map AV.str).getD i .undef=.str (l'.getD i []):=by simp[List.getD,hi']
   rw[e]at hr
   obtain⟨s,rfl,hs⟩:=hr.strs
   exact .str _ _ hs
  ·cases h
 ·split at h
  ·rename_i l' hl'
   cases h
   exact ints _ _ hl'
  ·cases h

theorem intsOf_nmap {ty:Nat}{l:List AV}{c:Cont}(h:contOf ty l=some c):c.isMap=false:=by
 unfold contOf at h
 split at h
 ·cases h;rfl
 ·split at h<;>cases h;rfl
 ·split at h<;>cases h;rfl
 ·split at h<;>cases h;rfl
theorem allLit_get:∀{l:List AV},allLit l=true→∀i,i<l.length→(∃k n,l.getD i .undef=.int k n)∨(∃b,l.getD i .undef=.bool b)∨∃s,l.getD i .undef=.str s
 |[],_,i,hi=>by simp at hi
 |v::r,h,0,_=>by
  cases v<;>simp only[allLit]at h<;>first|cases h|exact .inl ⟨_,_,rfl⟩|exact .inr (.inl ⟨_,rfl⟩)|exact .inr (.inr ⟨_,rfl⟩)
 |v::r,h,i+1,hi=>by
  have hr:allLit r=true:=by cases v<;>simp only[allLit]at h<;>first|cases h|exact h
  simpa using allLit_get hr i (by simpa using hi)
theorem allLit_app:∀{a b:List AV},allLit a=true→allLit b=true→allLit (a++b)=true
 |[],b,_,hb=>hb
 |v::r,b,ha,hb=>by
  cases v<;>simp only[allLit,List.cons_append]at ha ⊢<;>first|cases ha|exact allLit_app ha hb
theorem allLit_rep {z:List AV}(h:allLit z=true):∀n,allLit (repL z n)=true
 |0=>rfl
 |n+1=>allLit_app h (allLit_rep h n)
theorem lit_relI {l:List AV}(h:allLit l=true){i:Nat}(hi:i<l.length){x:Value}(hr:RelV w F ρ H (l.getD i .undef) x):RelI w F (l.getD i .undef) x:=by
 rcases allLit_get h i hi with⟨k,n,e⟩|⟨b,e⟩|⟨s,e⟩<;>rw[e]at hr ⊢<;>cases hr<;>assumption
theorem contOfS_spec {ty:Nat}{l:List AV}{c:Cont}(h:contOfS ty l=some c):(c.size=l.length∧∀i x,i<l.length→RelV w F ρ H (l.getD i .undef) x→x.oneCell'=true→RelE w F ρ H c i x)∧c.isMap=false:=by
 unfold contOfS at h
 split at h
 ·rw[cond_eq_ite]at h
  split at h
  ·rename_i hl
   cases h
   exact⟨⟨rfl,fun i x hi hr hone=>⟨lit_relI hl hi hr,hone⟩⟩,rfl⟩
  ·cases h
   exact⟨⟨rfl,fun i x hi hr hone=>⟨hr,hone⟩⟩,rfl⟩
 ·exact⟨contOf_spec h,intsOf_nmap h⟩
theorem laidS_sound (hm:MRel G F ρ H w){site sz len:Nat}{c:Cont}{cells:Array Value}{e:TypeId}{capc:Nat}{cs0:List Cd}(hs:H site=none)(hnm:c.isMap=false)(hcsz:c.size=len*sz)(hle:c.size≤cells.size)
  (hz:∀i,i<c.size→∃x,cells[i]? =some x∧RelE w F ρ H c i x) (hcap:len≤capc) (hcells:capc*sz≤cells.size) (hmx:capc≤capMax):
  Eff G F ρ H w (((newRow e cells).run P w).andThen fun a w'=>.ok (.slice (some a) len capc) w')
   {v:=.full site len,ws:=[(site,.blk {c,sz,n:=len,cap:=some capc,nil:=some false,mu:=true,bx:=false})],al:=[site],cs:=cs0}:=by
 have hrun:((newRow e cells).run P w).andThen (fun a w'=>Result.ok (Value.slice (some a) len capc) w')=.ok (.slice (some ⟨w.heap.size,0,none⟩) len capc) (w.alloc (.cells cells e)):=by
  simp[newRow]
 obtain⟨ρ',h1,h2,h3,h4,h5⟩:=hm.alloc (w':=w.alloc (.cells cells e)) (site:=site) (o:=.blk {c,sz,n:=len,cap:=some capc,nil:=some false,mu:=true,bx:=false}) hs rfl ⟨rfl,rfl,fun _=>⟨rfl,Nat.le_refl _⟩⟩ (fun ρ' H' hk hρ=>by
  refine⟨hcsz,.inr ⟨w.heap.size,hρ,RelB.ofCells hnm ⟨cells,e,(0,0),push_new rfl,by simp,hle,fun i hi=>?_⟩ (fun _ h=>absurd (hm.frz _ h) (Nat.lt_irrefl _)) (fun e=>by cases e)⟩⟩
  obtain⟨x,g1,g2⟩:=hz i hi
  exact⟨x,g1,g2.mono (fun b hb=>push_old rfl (hm.frz b hb)) (fun _ h=>h) hk⟩)
 exact⟨_,_,F,ρ',hrun,h1,h2,h3,.full site len _ _ (upd_same _ _ _) (Nat.le_refl _) ⟨_,_,_,rfl⟩ (fun _=>.inr (.inr ⟨(fun e=>by cases e),w.heap.size,capc,cells,e,(0,0),h4,push_new rfl,rfl,hcap,hcells,(fun n e=>by cases e;rfl),hmx⟩))⟩

theorem fillL_length:∀{ps:List (Nat×Nat)} {vs:List AV} {z l:List AV},fillL z ps vs=some l→l.length=z.length
 |[],vs,z,l,h=>by
  cases vs with
  |nil=>cases h;rfl
  |cons=>cases h
 |(off,size)::ps,vs,z,l,h=>by
  cases vs with
  |nil=>cases h
  |cons v vs=>
   simp only[fillL,cond_eq_ite]at h
   split at h
   ·rw[fillL_length h]

    suffices hs:∀(vs z:List AV) (i:Nat),(setAll z i vs).length=z.length from hs _ _ _
    intro vs
    induction vs with
    |nil=>intro z i;rfl
    |cons v r ih=>intro z i;simp[setAll,ih]
   ·cases h

end
end Go.Ab

/-
 Contracts of calls, and what a call's results become in the caller's abstract heap.
-/
set_option linter.unusedVariables false
set_option linter.unusedSimpArgs false
namespace Go.Ab
open Go

def RoundOk (P:Program)(l:Nat)(fn:FuncId)(tmps:Array Value)(as bd:Code)(w:World)(K:Value→World→Prop):Prop:=
 ∀(c:Frame) (cs:List Frame),∃v w',K v w'∧Steps P (lone (Frame.round l fn tmps as bd .normal) (c::cs) w) (lone (c.finish v) cs w')

def NextOk (P:Program)(r:Result Next)(K:Value→World→Prop):Prop:=
 (∃nx y w',r=.ok nx w'∧(nx=.value y∨(nx=.skip∧y=undef))∧K y w')∨
 (∃f args w1,r=.ok (.enter f args) w1∧Calls P f args w1 fun e w'=>∃v,e=.returned v∧K v w')∨
 (∃l fn tmps as bd w1,r=.ok (.round l fn tmps as bd) w1∧RoundOk P l fn tmps as bd w1 K)

theorem NextOk.mono {P:Program}{r:Result Next}{K K':Value→World→Prop}(h:NextOk P r K)(hk:∀v w,K v w→K' v w):NextOk P r K':=by
 rcases h with⟨nx,y,w',h1,h2,h3⟩|⟨f,args,w1,h1,h2⟩|⟨l,fn,tmps,as,bd,w1,h1,h2⟩
 ·exact .inl ⟨nx,y,w',h1,h2,hk _ _ h3⟩
 ·exact .inr (.inl ⟨f,args,w1,h1,h2.mono fun e w' ⟨v,e1,e2⟩=>⟨v,e1,hk _ _ e2⟩⟩)
 ·exact .inr (.inr ⟨l,fn,tmps,as,bd,w1,h1,fun c cs=>by obtain⟨v,w',k1,k2⟩:=h2 c cs;exact⟨v,w',hk _ _ k1,k2⟩⟩)

def CallOk (P:Program)(f:FuncId)(args:Array Value)(w:World)(R:Value→World→Prop):Prop:=NextOk P ((callFunc f args).run P w) R

def hsH (hs:List Blk):Nat→Option HO:=fun j=>(hs[j]?).map HO.blk
def noR:Nat→Option Nat:=fun _=>none
def noH:Nat→Option HO:=fun _=>none

def SpecP (P:Program)(G:GL)(f:Nat)(args:List AV)(ret:AV)(hs:List Blk):Prop:=
 ∀(F:Nat→Prop) (w:World) (vs:Array Value),MRel G F noR noH w→RelIs w F args vs.toList→
  CallOk P f vs w fun v w'=>∃F' ρ',MRel G F' ρ' (hsH hs) w'∧Ext G F noR w F' ρ' w'∧RelV w' F' ρ' (hsH hs) ret v

def KD (G:GL)(F:Nat→Prop)(ρ:Nat→Option Nat)(H:Nat→Option HO)(w:World)(D:Delta)(y:Value)(w':World):Prop:=
 ∃F' ρ',MRel G F' ρ' (updL H D.ws) w'∧Ext G F ρ w F' ρ' w'∧HKeep w ρ H w' ρ' (updL H D.ws)∧RelV w' F' ρ' (updL H D.ws) D.v y

def TgtOk (P:Program)(ρ:Nat→Option Nat)(cv:AV)(xs:Array Value)(w:World)(K:Value→World→Prop):Prop:=
 match cv with
 |.fn f _ _=>CallOk P f xs w K
 |.yld id=>∀b,ρ id=some b→NextOk P ((Instr.yield b xs).run P w) K
 |_=>False
def SpecD (P:Program)(G:GL)(cv:AV)(args:List AV)(h:List (Nat×HO))(v:AV)(ws:List (Nat×HO))(al:List Nat):Prop:=
 ∀(F:Nat→Prop) (ρ:Nat→Option Nat) (w:World) (xs:Array Value),MRel G F ρ (aget h) w→RelVs w F ρ (aget h) args xs.toList→
  TgtOk P ρ cv xs w (KD G F ρ (aget h) w {v,ws,al,cs:=[]})
def SpecQ (P:Program)(G:GL):SpT:=fun cv args o v hs=>
 match o with
 |none=>match cv with
  |.fn f _ _=>SpecP P G f args v hs
  |_=>False
 |some (h,ws,al)=>SpecD P G cv args h v ws al

theorem MRel.bare {G:GL}{F:Nat→Prop}{ρ:Nat→Option Nat}{H:Nat→Option HO}{w:World}(hm:MRel G F ρ H w):MRel G F noR noH w:=
 ⟨(fun id o h=>by cases h),(fun id b h=>by cases h),(fun i j b h=>by cases h),(fun id b h=>by cases h),hm.frz,hm.glob⟩

mutual
theorem RelI.shift {w:World}{F:Nat→Prop}(base:Nat):∀{v:AV} {x:Value},RelI w F v x→RelI w F (shiftV base v) x
 |_,_,.undef x=>.undef x
 |_,_,.bool b=>.bool b
 |_,_,.int k n=>.int k n
 |_,_,.str l s h=>.str l s h
 |_,_,.nilp=>.nilp
 |_,_,.nils=>.nils
 |_,_,.nilf=>.nilf
 |_,_,.nili=>.nili
 |_,_,.nn a l c=>.nn a l c
 |_,_,.iptr c b o xs hF hc hr ho=>.iptr c b o xs hF hc hr ho
 |_,_,.imm c len cap b o cap' xs hF hc hr ho hl hcap=>.imm c len cap b o cap' xs hF hc hr ho hl hcap
 |_,_,.imm0 c cap x hc hcap=>.imm0 c cap x hc hcap
 |_,_,.fn f l1 l2 x1 x2 h1 h2=>.fn f _ _ x1 x2 (h1.shift base) (h2.shift base)
 |_,_,.agg l x h=>.agg _ x (h.shift base)
 |_,_,.tup l x h=>.tup _ x (h.shift base)
 |_,_,.may b v x h hn=>.may b _ x (fun hb=>(h hb).shift base) hn
 |_,_,.iface t v x h=>.iface t _ x (h.shift base)
theorem RelIs.shift {w:World}{F:Nat→Prop}(base:Nat):∀{l:List AV} {xs:List Value},RelIs w F l xs→RelIs w F (shiftL base l) xs
 |_,_,.nil=>.nil
 |_,_,.cons v l x xs h hs=>.cons _ _ x xs (h.shift base) (hs.shift base)
end

def shB (base:Nat)(b:Blk):Blk:={b with c:=shiftC base b.c}

theorem updL_shift (base:Nat):∀(hs:List Blk) (j:Nat) (H:Nat→Option HO) (i:Nat),
  updL H (shiftH base j hs) i=if base+j≤i∧i<base+j+hs.length then(hs[i-(base+j)]?).map (fun b=>.blk (shB base b))else H i
 |[],j,H,i=>by
  simp only[shiftH,updL]
  rw[if_neg (by simp)]
 |b::r,j,H,i=>by
  simp only[shiftH,updL]
  rw[updL_shift base r (j+1) _ i]
  by_cases h1:i=base+j
  ·subst h1
   rw[if_neg (by omega),if_pos (by simp),upd_same]
   simp[shB]
  ·by_cases h2:base+j≤i∧i<base+j+(b::r).length
   ·rw[if_pos h2,if_pos (by simp at h2;omega)]
    obtain⟨d,hd⟩:∃d,i-(base+j)=d+1:=⟨i-(base+j)-1,by omega⟩
    rw[hd,show i-(base+(j+1))=d by omega]
    simp
   ·rw[if_neg h2,if_neg (by simp at h2 ⊢; omega),upd_other _ _ h1]

section
variable {G:GL}{F F1:Nat→Prop}{ρ ρ1:Nat→Option Nat}{H:Nat→Option HO}{w w':World}

def joinR (ρ ρ1:Nat→Option Nat)(base n:Nat):Nat→Option Nat:=fun i=>if base≤i∧i<base+n then ρ1 (i-base)else ρ i

theorem joinR_in (ρ ρ1:Nat→Option Nat)(base n:Nat){i:Nat}(h:i<n):joinR ρ ρ1 base n (base+i)=ρ1 i:=by
 simp only[joinR];rw[if_pos (by omega)];congr 1;omega
theorem joinR_out (ρ ρ1:Nat→Option Nat)(base n:Nat){i:Nat}(h:¬ (base≤i∧i<base+n)):joinR ρ ρ1 base n i=ρ i:=by
 simp only[joinR];rw[if_neg h]

mutual
theorem RelV.shift {base:Nat}{hs:List Blk}{H2:Nat→Option HO}{ρ2:Nat→Option Nat}(hρ:∀i,i<hs.length→ρ2 (base+i)=ρ1 i)(hH:∀i b,hs[i]? =some b→H2 (base+i)=some (.blk (shB base b))):
  ∀{v:AV} {x:Value},RelV w F ρ1 (hsH hs) v x→RelV w F ρ2 H2 (shiftV base v) x
 |_,_,.imm v x hi=>.imm _ _ (hi.shift base)
 |_,_,.ptr id off b o hb hh hx=>by
  simp only[hsH,Option.map_eq_some_iff]at hh
  obtain⟨k,hk,rfl⟩:=hh
  have hlt:=(List.getElem?_eq_some_iff.1 hk).1
  exact .ptr (base+id) off b _ ((hρ id hlt).trans hb) (hH id k hk) hx
 |_,_,.ep id n off k x hh hle hp hx=>by
  simp only[hsH,Option.map_eq_some_iff]at hh
  obtain⟨k',hk,e⟩:=hh
  cases e
  have hlt:=(List.getElem?_eq_some_iff.1 hk).1
  refine .ep (base+id) n off (shB base k) x (hH id k hk) hle hp (fun e=>?_)
  obtain⟨b,hb,hxx⟩:=hx e
  exact⟨b,(hρ id hlt).trans hb,hxx⟩
 |_,_,.full id len k x hh hle hp hx=>by
  simp only[hsH,Option.map_eq_some_iff]at hh
  obtain⟨k',hk,e⟩:=hh
  cases e
  have hlt:=(List.getElem?_eq_some_iff.1 hk).1
  refine .full (base+id) len (shB base k) x (hH id k hk) hle hp (fun e=>?_)
  rcases hx e with h|h|⟨h1,b,cap,cs,ty,fz,h2,h3⟩
  ·exact .inl h
  ·exact .inr (.inl h)
  ·exact .inr (.inr ⟨h1,b,cap,cs,ty,fz,(hρ id hlt).trans h2,h3⟩)
 |_,_,.sl id off len cap b k hb hh hx hlc=>by
  simp only[hsH,Option.map_eq_some_iff]at hh
  obtain⟨k',hk,e⟩:=hh
  cases e
  have hlt:=(List.getElem?_eq_some_iff.1 hk).1
  exact .sl (base+id) off len cap b (shB base k) ((hρ id hlt).trans hb) (hH id k hk) hx hlc
 |_,_,.fn f l1 l2 x1 x2 h1 h2=>.fn f _ _ x1 x2 (RelVs.shift hρ hH h1) (RelVs.shift hρ hH h2)
 |_,_,.agg l x hl=>.agg _ x (RelVs.shift hρ hH hl)
 |_,_,.tup l x hl=>.tup _ x (RelVs.shift hρ hH hl)
 |_,_,.may b v x hb hn=>.may b _ x (fun e=>RelV.shift hρ hH (hb e)) hn
 |_,_,.iface t v x hv=>.iface t _ x (RelV.shift hρ hH hv)
 |_,_,.yld id b o hb hh hx=>by
  obtain⟨hlt,k,hk⟩:id<hs.length∧∃k,hs[id]? =some k:=by
   simp only[hsH,Option.map_eq_some_iff]at hh
   obtain⟨k,hk,_⟩:=hh
   exact⟨(List.getElem?_eq_some_iff.1 hk).1,k,hk⟩
  have ho:o=.blk k:=by simp only[hsH,hk,Option.map_some]at hh;cases hh;rfl
  subst ho
  exact .yld (base+id) b _ ((hρ id hlt).trans hb) (hH id k hk) hx
 |_,_,.mp id b o hb hh hx=>by
  obtain⟨hlt,k,hk⟩:id<hs.length∧∃k,hs[id]? =some k:=by
   simp only[hsH,Option.map_eq_some_iff]at hh
   obtain⟨k,hk,_⟩:=hh
   exact⟨(List.getElem?_eq_some_iff.1 hk).1,k,hk⟩
  have ho:o=.blk k:=by simp only[hsH,hk,Option.map_some]at hh;cases hh;rfl
  subst ho
  exact .mp (base+id) b _ ((hρ id hlt).trans hb) (hH id k hk) hx
 |_,_,.spare id a l c hf=>.spare (base+id) a l c (RelV.shift hρ hH hf)
 |_,_,.vw id n sz off len k x hh hle hp hx=>by
  simp only[hsH,Option.map_eq_some_iff]at hh
  obtain⟨k',hk,e⟩:=hh
  cases e
  have hlt:=(List.getElem?_eq_some_iff.1 hk).1
  refine .vw (base+id) n sz off len (shB base k) x (hH id k hk) hle hp (fun e=>?_)
  obtain⟨g1,a,c,g2,g3⟩:=hx e
  refine⟨g1,a,c,?_,g3⟩
  rcases g2 with h|h|⟨h1,b,cap,cs,ty,fz,h2,h3⟩
  ·exact .inl h
  ·exact .inr (.inl h)
  ·exact .inr (.inr ⟨h1,b,cap,cs,ty,fz,(hρ id hlt).trans h2,h3⟩)
 |_,_,.qu id v d k l v' x hh hle hp hx=>by
  simp only[hsH,Option.map_eq_some_iff]at hh
  obtain⟨k',hk,e⟩:=hh
  cases e
 |_,_,.qe id v i k l v' x hh hle hp hx=>by
  simp only[hsH,Option.map_eq_some_iff]at hh
  obtain⟨k',hk,e⟩:=hh
  cases e
 |_,_,.fullc id len cap a hf=>.fullc (base+id) len cap a (RelV.shift hρ hH hf)
theorem RelVs.shift {base:Nat}{hs:List Blk}{H2:Nat→Option HO}{ρ2:Nat→Option Nat}(hρ:∀i,i<hs.length→ρ2 (base+i)=ρ1 i)(hH:∀i b,hs[i]? =some b→H2 (base+i)=some (.blk (shB base b))):
  ∀{l:List AV} {xs:List Value},RelVs w F ρ1 (hsH hs) l xs→RelVs w F ρ2 H2 (shiftL base l) xs
 |_,_,.nil=>.nil
 |_,_,.cons v l x xs hv hs'=>.cons _ _ x xs (RelV.shift hρ hH hv) (RelVs.shift hρ hH hs')
end

theorem shiftL_getD (base:Nat):∀(l:List AV) (i:Nat),(shiftL base l).getD i .undef=shiftV base (l.getD i .undef)
 |[],i=>by simp[shiftL,shiftV]
 |v::r,0=>by simp[shiftL]
 |v::r,i+1=>by simp only[shiftL,List.getD_cons_succ];exact shiftL_getD base r i
theorem shiftL_length (base:Nat):∀(l:List AV),(shiftL base l).length=l.length
 |[]=>rfl
 |v::r=>by simp[shiftL,shiftL_length base r]
theorem shiftC_size (base:Nat)(c:Cont):(shiftC base c).size=c.size:=by
 cases c<;>simp[shiftC,Cont.size,shiftL_length]

theorem shiftC_maps {base:Nat}{c:Cont}{kk vk:MV}{es:List (List Int×List Int×Nat)}{ck:Nat}(h:shiftC base c=.maps kk vk es ck):c=.maps kk vk es ck:=by
 cases c<;>first|exact h|cases h
theorem shiftC_nmap {base:Nat}{c:Cont}(h:(shiftC base c).isMap=false):c.isMap=false:=by
 cases c<;>first|rfl|cases h
theorem MRel.join {base:Nat}{hs:List Blk}(hm:MRel G F ρ H w)(hfresh:∀j,j<hs.length→H (base+j)=none)
  (hr:MRel G F1 ρ1 (hsH hs) w') (he:Ext G F noR w F1 ρ1 w'):
  ∃ρ2,MRel G F1 ρ2 (updL H (shiftH base 0 hs)) w'∧Ext G F ρ w F1 ρ2 w'∧HKeep w ρ H w' ρ2 (updL H (shiftH base 0 hs))∧
   ∀v x,RelV w' F1 ρ1 (hsH hs) v x→RelV w' F1 ρ2 (updL H (shiftH base 0 hs)) (shiftV base v) x:=by
 let ρ2:=joinR ρ ρ1 base hs.length
 have hold:∀b,b<w.heap.size→w'.heap[b]? =w.heap[b]? :=fun b hb=>he.same b hb (fun id h=>by cases h)
 have hwF:∀b,F b→w'.heap[b]? =w.heap[b]? :=he.frz
 have hnew:∀j b,ρ1 j=some b→w.heap.size≤b:=fun j b h=>(he.im j b h).resolve_left (fun⟨_,h⟩=>by cases h)
 have hF1:∀b,b<w.heap.size→F1 b→F b:=fun b hb h=>by
  rcases he.more b h with h|h|⟨id,h⟩
  ·exact h
  ·omega
  ·cases h
 have hin:∀i,i<hs.length→ρ2 (base+i)=ρ1 i:=fun i h=>joinR_in ρ ρ1 base hs.length h
 have hHin:∀i b,hs[i]? =some b→updL H (shiftH base 0 hs) (base+i)=some (.blk (shB base b)):=fun i b h=>by
  have hlt:=(List.getElem?_eq_some_iff.1 h).1
  rw[updL_shift,if_pos (by omega)]
  rw[show base+i-(base+0)=i by omega,h];rfl
 have hHout:∀i,¬ (base≤i∧i<base+hs.length)→updL H (shiftH base 0 hs) i=H i:=fun i h=>by
  rw[updL_shift,if_neg (by omega)]
 have hdomOut:∀id o,H id=some o→¬ (base≤id∧id<base+hs.length):=fun id o h hb=>by
  have:=hfresh (id-base) (by omega)
  rw[show base+(id-base)=id by omega,h]at this;cases this
 have hρout:∀id b,ρ id=some b→¬ (base≤id∧id<base+hs.length):=fun id b h=>by
  obtain⟨o,ho⟩:=hm.dom id b h;exact hdomOut id o ho
 have hdom1:∀j b,ρ1 j=some b→j<hs.length:=fun j b h=>by
  obtain⟨o,ho⟩:=hr.dom j b h
  simp only[hsH,Option.map_eq_some_iff]at ho
  obtain⟨k,hk,_⟩:=ho
  exact(List.getElem?_eq_some_iff.1 hk).1
 have hk:HKeep w ρ H w' ρ2 (updL H (shiftH base 0 hs)):=
  ⟨fun id o h1 h2=>⟨o,by rw[hHout id (hdomOut id o h1)];exact h1,h2,joinR_out _ _ _ _ (hdomOut id o h1)⟩,
   fun id k h1=>⟨k,by rw[hHout id (hdomOut id _ h1)];exact h1,rfl,Nat.le_refl _,fun _=>⟨rfl,rfl,.inl rfl,joinR_out _ _ _ _ (hdomOut id _ h1)⟩⟩,
   fun b cs ty fz hb=>⟨cs,ty,fz,(hold b (lt_of_some hb)).trans hb,rfl⟩,
   fun id k l v h1=>⟨k,l,v,by rw[hHout id (hdomOut id _ h1)];exact h1,Nat.le_refl _,fun _=>⟨rfl,rfl,joinR_out _ _ _ _ (hdomOut id _ h1),fun b hb=>hold b (hm.lt id b hb)⟩⟩⟩
 have shift:∀v x,RelV w' F1 ρ1 (hsH hs) v x→RelV w' F1 ρ2 (updL H (shiftH base 0 hs)) (shiftV base v) x:=fun v x h=>RelV.shift hin hHin h
 refine⟨ρ2,⟨fun id o h1=>?_,fun id b hb=>?_,fun i j b hi hj=>?_,fun id b hb=>?_,hr.frz,hr.glob⟩,⟨he.io,he.size,fun b hb hn=>hold b hb,hwF,he.keep,fun b hb=>?_,fun id b hb=>?_⟩,hk,shift⟩
 ·by_cases hc:base≤id∧id<base+hs.length
  ·obtain⟨j,rfl⟩:∃j,id=base+j:=⟨id-base,by omega⟩
   have hj:j<hs.length:=by omega
   have hjb:hs[j]? =some hs[j]:=List.getElem?_eq_getElem hj
   rw[hHin j _ hjb]at h1;cases h1
   have h2:=hr.heap j (.blk hs[j]) (by simp[hsH,hjb])
   obtain⟨g0,g1|⟨b,g1,g2⟩⟩:=h2
   ·exact⟨by simp only[shB,shiftC_size];exact g0,.inl ⟨g1.1,(hin j hj).trans g1.2⟩⟩
   ·refine⟨by simp only[shB,shiftC_size];exact g0,.inr ⟨b,(hin j hj).trans g1,⟨fun hnm=>?_,fun kk vk es ck e=>g2.mp kk vk es ck (shiftC_maps e),g2.mu,g2.fr⟩⟩⟩
    obtain⟨cs,ty,fz,q1,q2,q3,q4⟩:=g2.ex (shiftC_nmap hnm)
    refine⟨cs,ty,fz,q1,q2,by simp only[shB,shiftC_size];exact q3,fun i hi=>?_⟩
    simp only[shB,shiftC_size]at hi
    obtain⟨x,r1,r2⟩:=q4 i hi
    refine⟨x,r1,?_,r2.2⟩
    have r2:=r2.1
    cases hcc:hs[j].c with
    |cells l=>
     rw[hcc]at r2
     simp only[shB,hcc,shiftC]
     rw[shiftL_getD]
     exact shift _ _ r2
    |_=>rw[hcc]at r2;simp only[shB,hcc,shiftC];exact r2
  ·rw[hHout id hc]at h1
   exact(hm.heap id o h1).mono hwF he.keep hk (joinR_out _ _ _ _ hc) (fun b hb=>⟨hold b (hm.lt id b hb),hF1 b (hm.lt id b hb)⟩)
 ·by_cases hc:base≤id∧id<base+hs.length
  ·obtain⟨j,rfl⟩:∃j,id=base+j:=⟨id-base,by omega⟩
   have hj:j<hs.length:=by omega
   exact⟨_,hHin j _ (List.getElem?_eq_getElem hj)⟩
  ·have hb':ρ id=some b:=(joinR_out _ _ _ _ hc).symm.trans hb
   obtain⟨o,ho⟩:=hm.dom id b hb'
   exact⟨o,by rw[hHout id hc];exact ho⟩
 ·by_cases hci:base≤i∧i<base+hs.length<;>by_cases hcj:base≤j∧j<base+hs.length
  ·obtain⟨i',rfl⟩:∃i',i=base+i':=⟨i-base,by omega⟩
   obtain⟨j',rfl⟩:∃j',j=base+j':=⟨j-base,by omega⟩
   rw[hr.inj i' j' b ((hin i' (by omega)).symm.trans hi) ((hin j' (by omega)).symm.trans hj)]
  ·obtain⟨i',rfl⟩:∃i',i=base+i':=⟨i-base,by omega⟩
   have h1:=hnew i' b ((hin i' (by omega)).symm.trans hi)
   have h2:=hm.lt j b ((joinR_out _ _ _ _ hcj).symm.trans hj)
   omega
  ·obtain⟨j',rfl⟩:∃j',j=base+j':=⟨j-base,by omega⟩
   have h1:=hnew j' b ((hin j' (by omega)).symm.trans hj)
   have h2:=hm.lt i b ((joinR_out _ _ _ _ hci).symm.trans hi)
   omega
  ·exact hm.inj i j b ((joinR_out _ _ _ _ hci).symm.trans hi) ((joinR_out _ _ _ _ hcj).symm.trans hj)
 ·by_cases hc:base≤id∧id<base+hs.length
  ·obtain⟨j,rfl⟩:∃j,id=base+j:=⟨id-base,by omega⟩
   exact hr.lt j b ((hin j (by omega)).symm.trans hb)
  ·have:=hm.lt id b ((joinR_out _ _ _ _ hc).symm.trans hb)
   have:=he.size
   omega
 ·rcases he.more b hb with h|h|⟨id,h⟩
  ·exact .inl h
  ·exact .inr (.inl h)
  ·cases h
 ·by_cases hc:base≤id∧id<base+hs.length
  ·obtain⟨j,rfl⟩:∃j,id=base+j:=⟨id-base,by omega⟩
   exact .inr (hnew j b ((hin j (by omega)).symm.trans hb))
  ·exact .inl ⟨id,(joinR_out _ _ _ _ hc).symm.trans hb⟩

end
end Go.Ab

/-
 A part of the heap is known to a callee; what becomes of the whole.
-/
set_option linter.unusedVariables false
set_option linter.unusedSimpArgs false
namespace Go.Ab
open Go

theorem updL_nokey {H:Nat→Option HO}:∀{ws:List (Nat×HO)} {i:Nat},i∉keys ws→updL H ws i=H i
 |[],i,h=>rfl
 |(j,o)::r,i,h=>by
  simp only[keys,List.mem_cons,not_or]at h
  simp only[updL]
  rw[updL_nokey h.2,upd_other _ _ h.1]
theorem updL_key {A B:Nat→Option HO}:∀{ws:List (Nat×HO)} {i:Nat},i∈keys ws→updL A ws i=updL B ws i
 |[],i,h=>by simp[keys]at h
 |(j,o)::r,i,h=>by
  simp only[keys,List.mem_cons]at h
  simp only[updL]
  by_cases hr:i∈keys r
  ·exact updL_key hr
  ·rw[updL_nokey hr,updL_nokey hr]
   rcases h with rfl|h
   ·rw[upd_same,upd_same]
   ·exact absurd h hr
theorem updL_some {A:Nat→Option HO}:∀{ws:List (Nat×HO)} {i:Nat},i∈keys ws→∃o,updL A ws i=some o
 |[],i,h=>by simp[keys]at h
 |(j,o)::r,i,h=>by
  simp only[keys,List.mem_cons]at h
  simp only[updL]
  by_cases hr:i∈keys r
  ·exact updL_some hr
  ·rw[updL_nokey hr]
   rcases h with rfl|h
   ·exact⟨o,upd_same _ _ _⟩
   ·exact absurd h hr
theorem updL_dom {A:Nat→Option HO}{ws:List (Nat×HO)}{i:Nat}{o:HO}(h:A i=some o):∃o',updL A ws i=some o':=by
 by_cases hk:i∈keys ws
 ·exact updL_some hk
 ·exact⟨o,by rw[updL_nokey hk];exact h⟩

section
variable {P:Program}{G:GL}{F F1:Nat→Prop}{ρ ρ1:Nat→Option Nat}{H H1:Nat→Option HO}{w w':World}

mutual
theorem RelV.move {D:Nat→Prop}(hd:∀i,D i→H1 i=H i∧ρ1 i=ρ i):∀{v:AV} {x:Value},RelV w F ρ H v x→(∀i,i∈refsV v→D i)→RelV w F ρ1 H1 v x
 |_,_,.imm v x hi,_=>.imm v x hi
 |_,_,.ptr id off b o hb hh hx,hk=>by
  obtain⟨h1,h2⟩:=hd id (hk id (by simp[refsV]));exact .ptr id off b o (h2.trans hb) (h1.trans hh) hx
 |_,_,.ep id n off k x hh hle hp hx,hk=>by
  obtain⟨h1,h2⟩:=hd id (hk id (by simp[refsV]))
  exact .ep id n off k x (h1.trans hh) hle hp (fun e=>by obtain⟨b,q1,q2⟩:=hx e;exact⟨b,h2.trans q1,q2⟩)
 |_,_,.full id len k x hh hle hp hx,hk=>by
  obtain⟨h1,h2⟩:=hd id (hk id (by simp[refsV]))
  refine .full id len k x (h1.trans hh) hle hp (fun e=>?_)
  rcases hx e with h|h|⟨q1,b,cap,cs,ty,fz,q2,q3⟩
  ·exact .inl h
  ·exact .inr (.inl h)
  ·exact .inr (.inr ⟨q1,b,cap,cs,ty,fz,h2.trans q2,q3⟩)
 |_,_,.sl id off len cap b k hb hh hx hlc,hk=>by
  obtain⟨h1,h2⟩:=hd id (hk id (by simp[refsV]));exact .sl id off len cap b k (h2.trans hb) (h1.trans hh) hx hlc
 |_,_,.fn f l1 l2 x1 x2 h1 h2,hk=>.fn f l1 l2 x1 x2 (RelVs.move hd h1 (fun i hi=>hk i (by simp[refsV,hi]))) (RelVs.move hd h2 (fun i hi=>hk i (by simp[refsV,hi])))
 |_,_,.agg l x hl,hk=>.agg l x (RelVs.move hd hl (fun i hi=>hk i (by simpa[refsV]using hi)))
 |_,_,.tup l x hl,hk=>.tup l x (RelVs.move hd hl (fun i hi=>hk i (by simpa[refsV]using hi)))
 |_,_,.may b v x hb hn,hk=>.may b v x (fun e=>RelV.move hd (hb e) (fun i hi=>hk i (by simpa[refsV]using hi))) hn
 |_,_,.iface t v x hv,hk=>.iface t v x (RelV.move hd hv (fun i hi=>hk i (by simpa[refsV]using hi)))
 |_,_,.yld id b o hb hh hx,hk=>by
  obtain⟨h1,h2⟩:=hd id (hk id (by simp[refsV]));exact .yld id b o (h2.trans hb) (h1.trans hh) hx
 |_,_,.mp id b o hb hh hx,hk=>by
  obtain⟨h1,h2⟩:=hd id (hk id (by simp[refsV]));exact .mp id b o (h2.trans hb) (h1.trans hh) hx
 |_,_,.spare id a l c hf,hk=>.spare id a l c (RelV.move hd hf (fun i hi=>hk i (by simpa[refsV]using hi)))
 |_,_,.vw id n sz off len k x hh hle hp hx,hk=>by
  obtain⟨h1,h2⟩:=hd id (hk id (by simp[refsV]))
  refine .vw id n sz off len k x (h1.trans hh) hle hp (fun e=>?_)
  obtain⟨g1,a,c,g2,g3⟩:=hx e
  refine⟨g1,a,c,?_,g3⟩
  rcases g2 with h|h|⟨q1,b,cap,cs,ty,fz,q2,q3⟩
  ·exact .inl h
  ·exact .inr (.inl h)
  ·exact .inr (.inr ⟨q1,b,cap,cs,ty,fz,h2.trans q2,q3⟩)
 |_,_,.qu id v d k l v' x hh hle hp hx,hk=>by
  obtain⟨h1,h2⟩:=hd id (hk id (by simp[refsV]))
  exact .qu id v d k l v' x (h1.trans hh) hle hp (fun e=>(hx e).mono h2 (fun _ _=>rfl))
 |_,_,.qe id v i k l v' x hh hle hp hx,hk=>by
  obtain⟨h1,h2⟩:=hd id (hk id (by simp[refsV]))
  exact .qe id v i k l v' x (h1.trans hh) hle hp (fun e=>(hx e).mono h2 (fun _ _=>rfl))
 |_,_,.fullc id len cap a hf,hk=>.fullc id len cap a (RelV.move hd hf (fun i hi=>hk i (by simpa[refsV]using hi)))
theorem RelVs.move {D:Nat→Prop}(hd:∀i,D i→H1 i=H i∧ρ1 i=ρ i):∀{l:List AV} {xs:List Value},RelVs w F ρ H l xs→(∀i,i∈refsL l→D i)→RelVs w F ρ1 H1 l xs
 |_,_,.nil,_=>.nil
 |_,_,.cons v l x xs hv hs,hk=>.cons v l x xs (RelV.move hd hv (fun i hi=>hk i (by simp[refsL,hi]))) (RelVs.move hd hs (fun i hi=>hk i (by simp[refsL,hi])))
end
mutual
theorem RelV.more (hd:∀i o,H i=some o→H1 i=some o∧ρ1 i=ρ i):∀{v:AV} {x:Value},RelV w F ρ H v x→RelV w F ρ1 H1 v x
 |_,_,.imm v x hi=>.imm v x hi
 |_,_,.ptr id off b o hb hh hx=>by
  obtain⟨h1,h2⟩:=hd id o hh;exact .ptr id off b o (h2.trans hb) h1 hx
 |_,_,.ep id n off k x hh hle hp hx=>by
  obtain⟨h1,h2⟩:=hd id _ hh
  exact .ep id n off k x h1 hle hp (fun e=>by obtain⟨b,q1,q2⟩:=hx e;exact⟨b,h2.trans q1,q2⟩)
 |_,_,.full id len k x hh hle hp hx=>by
  obtain⟨h1,h2⟩:=hd id _ hh
  refine .full id len k x h1 hle hp (fun e=>?_)
  rcases hx e with h|h|⟨q1,b,cap,cs,ty,fz,q2,q3⟩
  ·exact .inl h
  ·exact .inr (.inl h)
  ·exact .inr (.inr ⟨q1,b,cap,cs,ty,fz,h2.trans q2,q3⟩)
 |_,_,.sl id off len cap b k hb hh hx hlc=>by
  obtain⟨h1,h2⟩:=hd id _ hh;exact .sl id off len cap b k (h2.trans hb) h1 hx hlc
 |_,_,.fn f l1 l2 x1 x2 h1 h2=>.fn f l1 l2 x1 x2 (RelVs.more hd h1) (RelVs.more hd h2)
 |_,_,.agg l x hl=>.agg l x (RelVs.more hd hl)
 |_,_,.tup l x hl=>.tup l x (RelVs.more hd hl)
 |_,_,.may b v x hb hn=>.may b v x (fun e=>RelV.more hd (hb e)) hn
 |_,_,.iface t v x hv=>.iface t v x (RelV.more hd hv)
 |_,_,.yld id b o hb hh hx=>by
  obtain⟨h1,h2⟩:=hd id o hh;exact .yld id b o (h2.trans hb) h1 hx
 |_,_,.mp id b o hb hh hx=>by
  obtain⟨h1,h2⟩:=hd id o hh;exact .mp id b o (h2.trans hb) h1 hx
 |_,_,.spare id a l c hf=>.spare id a l c (RelV.more hd hf)
 |_,_,.vw id n sz off len k x hh hle hp hx=>by
  obtain⟨h1,h2⟩:=hd id _ hh
  refine .vw id n sz off len k x h1 hle hp (fun e=>?_)
  obtain⟨g1,a,c,g2,g3⟩:=hx e
  refine⟨g1,a,c,?_,g3⟩
  rcases g2 with h|h|⟨q1,b,cap,cs,ty,fz,q2,q3⟩
  ·exact .inl h
  ·exact .inr (.inl h)
  ·exact .inr (.inr ⟨q1,b,cap,cs,ty,fz,h2.trans q2,q3⟩)
 |_,_,.qu id v d k l v' x hh hle hp hx=>by
  obtain⟨h1,h2⟩:=hd id _ hh
  exact .qu id v d k l v' x h1 hle hp (fun e=>(hx e).mono h2 (fun _ _=>rfl))
 |_,_,.qe id v i k l v' x hh hle hp hx=>by
  obtain⟨h1,h2⟩:=hd id _ hh
  exact .qe id v i k l v' x h1 hle hp (fun e=>(hx e).mono h2 (fun _ _=>rfl))
 |_,_,.fullc id len cap a hf=>.fullc id len cap a (RelV.more hd hf)
theorem RelVs.more (hd:∀i o,H i=some o→H1 i=some o∧ρ1 i=ρ i):∀{l:List AV} {xs:List Value},RelVs w F ρ H l xs→RelVs w F ρ1 H1 l xs
 |_,_,.nil=>.nil
 |_,_,.cons v l x xs hv hs=>.cons v l x xs (RelV.more hd hv) (RelVs.more hd hs)
end

theorem refsL_getD:∀{l:List AV} {i j:Nat},j∈refsV (l.getD i .undef)→j∈refsL l
 |[],i,j,h=>by simp[refsV]at h
 |v::r,0,j,h=>by simp[refsL];left;simpa using h
 |v::r,i+1,j,h=>by
  simp only[List.getD_cons_succ]at h
  simp only[refsL,List.mem_append]
  exact .inr (refsL_getD h)
theorem refsT_get:∀{l:List (Nat×AV)} {t:Nat} {v:AV} {j:Nat},aget l t=some v→j∈refsV v→j∈refsT l
 |[],t,v,j,h,hj=>by cases h
 |(k,u)::r,t,v,j,h,hj=>by
  simp only[aget]at h
  simp only[refsT,List.mem_append]
  by_cases e:k=t
  ·subst e;rw[beq_self,cond_true]at h;cases h;exact .inl hj
  ·rw[beq_ne e,cond_false]at h;exact .inr (refsT_get h hj)

theorem RelO.tr {id:Nat}{o:HO}(hv:∀(v:AV) (x:Value),(∀i,i∈refsV v→i∈refsH (some o))→RelV w F ρ H v x→RelV w F ρ1 H1 v x)(hρ:ρ1 id=ρ id)
  (hr:RelO G w F ρ H id o):RelO G w F ρ1 H1 id o:=by
 cases o with
 |blk k=>
  obtain⟨h0,h1|⟨b,h1,h2⟩⟩:=hr
  ·exact⟨h0,.inl ⟨h1.1,hρ.trans h1.2⟩⟩
  ·refine⟨h0,.inr ⟨b,hρ.trans h1,⟨fun hnm=>?_,h2.mp,h2.mu,h2.fr⟩⟩⟩
   obtain⟨cs,ty,fz,q1,q2,q3,q4⟩:=h2.ex hnm
   refine⟨cs,ty,fz,q1,q2,q3,fun i hi=>?_⟩
   obtain⟨x,g1,g2⟩:=q4 i hi
   refine⟨x,g1,?_,g2.2⟩
   have g2:=g2.1
   cases hc:k.c with
   |cells l=>
    rw[hc]at g2
    exact hv _ _ (fun j hj=>by simp only[refsH,hc,refsC];exact refsL_getD hj) g2
   |_=>rw[hc]at g2;exact g2
 |iter s p=>
  obtain⟨b,h1,h2⟩:=hr
  exact⟨b,hρ.trans h1,h2⟩
 |loop l=>
  obtain⟨b,h1,h2,r,h3,h4⟩:=hr
  exact⟨b,hρ.trans h1,h2,r,h3,⟨h4.st,h4.pend,h4.size,fun t v e=>hv _ _ (fun j hj=>by simp only[refsH];exact refsT_get e hj) (h4.tmps t v e),h4.ps,h4.as,h4.bd⟩⟩
 |que k l v=>
  obtain⟨b,h1,h2⟩:=hr
  exact⟨b,hρ.trans h1,h2⟩
 |mit m ck seen=>
  obtain⟨b,mb,h1,h2,h3,h4⟩:=hr
  exact⟨b,mb,hρ.trans h1,h2,h3,hv _ _ (fun j hj=>by simpa[refsH,refsV]using hj) h4⟩

theorem allIn_ok:∀{a l:List Nat},allIn a l=true→∀i,i∈a→i∈l
 |[],l,h,i,hi=>by simp at hi
 |x::r,l,h,i,hi=>by
  simp only[allIn,cond_eq_ite]at h
  split at h
  ·rename_i hm
   rcases List.mem_cons.1 hi with rfl|hi
   ·clear h
    induction l with
    |nil=>simp[memN]at hm
    |cons y l ih=>
     simp only[memN,cond_eq_ite]at hm
     split at hm
     ·rename_i e;rw[Nat.eq_of_beq_eq_true e];simp
     ·exact List.mem_cons_of_mem _ (ih hm)
   ·exact allIn_ok h i hi
  ·cases h
theorem noneIn_ok':∀{a l:List Nat},noneIn a l=true→∀i,i∈a→i∉l
 |[],l,h,i,hi=>by simp at hi
 |x::r,l,h,i,hi=>by
  simp only[noneIn,cond_eq_ite]at h
  split at h
  ·cases h
  ·rename_i hm
   rcases List.mem_cons.1 hi with rfl|hi
   ·intro hmem
    apply hm
    clear h hm
    induction l with
    |nil=>simp at hmem
    |cons y l ih=>
     simp only[memN,cond_eq_ite]
     split
     ·rfl
     ·rename_i e
      rcases List.mem_cons.1 hmem with rfl|hmem
      ·exact absurd (beq_self _) e
      ·exact ih hmem
   ·exact noneIn_ok' h i hi
theorem key_aget {α:Type}:∀{l:List (Nat×α)} {i:Nat},i∈keys l↔∃o,aget l i=some o
 |[],i=>by simp[keys,aget]
 |(k,v)::r,i=>by
  simp only[keys,List.mem_cons,aget]
  by_cases e:k=i
  ·subst e;rw[beq_self,cond_true];simp
  ·rw[beq_ne e,cond_false,← key_aget]
   exact⟨fun h=>h.resolve_left (fun h=>e h.symm),.inr⟩
theorem aget_mem {α:Type}:∀{l:List (Nat×α)} {i:Nat} {o:α},aget l i=some o→(i,o)∈l
 |[],i,o,h=>by cases h
 |(k,v)::r,i,o,h=>by
  simp only[aget]at h
  by_cases e:k=i
  ·subst e;rw[beq_self,cond_true]at h;cases h;simp
  ·rw[beq_ne e,cond_false]at h;exact List.mem_cons_of_mem _ (aget_mem h)
theorem closedH_ok {ks:List Nat}:∀{h:List (Nat×HO)},closedH ks h=true→∀i o,(i,o)∈h→∀j,j∈refsH (some o)→j∈ks
 |[],hc,i,o,hi=>by simp at hi
 |(k,u)::r,hc,i,o,hi=>by
  simp only[closedH,cond_eq_ite]at hc
  split at hc
  ·rename_i ha
   rcases List.mem_cons.1 hi with e|hi
   ·cases e;exact allIn_ok ha
   ·exact closedH_ok hc i o hi
  ·cases hc

def partR (h:List (Nat×HO))(ρ:Nat→Option Nat):Nat→Option Nat:=fun i=>if i∈keys h then ρ i else none

theorem MRel.part {h:List (Nat×HO)}(hm:MRel G F ρ H w)(hsub:∀id o,aget h id=some o→H id=some o)(hcl:closedH (keys h) h=true):
  MRel G F (partR h ρ) (aget h) w:=by
 have hin:∀i,i∈keys h→partR h ρ i=ρ i:=fun i hi=>by simp[partR,hi]
 have hpr:∀i b,partR h ρ i=some b→i∈keys h∧ρ i=some b:=fun i b e=>by
  simp only[partR]at e
  split at e
  ·exact⟨by assumption,e⟩
  ·cases e
 refine⟨fun id o ho=>?_,fun id b hb=>key_aget.1 (hpr id b hb).1,fun i j b hi hj=>hm.inj i j b (hpr i b hi).2 (hpr j b hj).2,fun id b hb=>hm.lt id b (hpr id b hb).2,hm.frz,hm.glob⟩
 have hk:id∈keys h:=key_aget.2 ⟨o,ho⟩
 refine(hm.heap id o (hsub id o ho)).tr (fun v x hv hr=>RelV.move (D:=fun i=>i∈keys h) (fun i hi=>⟨?_,hin i hi⟩) hr (fun i hi=>closedH_ok hcl id o (aget_mem ho) i (hv i hi))) (hin id hk)
 obtain⟨o',ho'⟩:=key_aget.1 hi
 rw[ho',hsub i o' ho']

theorem KD.frame {h:List (Nat×HO)}{D:Delta}{y:Value}(hm:MRel G F ρ H w)(hsub:∀id o,aget h id=some o→H id=some o)
  (hws:∀i,i∈keys D.ws→i∈keys h∨i∈D.al) (hal:∀i,i∈D.al→H i=none) (hk:KD G F (partR h ρ) (aget h) w D y w'):KD G F ρ H w D y w':=by
 obtain⟨F',ρ',q1,q2,q3,q4⟩:=hk
 have hin:∀i,i∈keys h→partR h ρ i=ρ i:=fun i hi=>by simp[partR,hi]
 have hpr:∀i b,partR h ρ i=some b→i∈keys h∧ρ i=some b:=fun i b e=>by
  simp only[partR]at e
  split at e
  ·exact⟨by assumption,e⟩
  ·cases e
 generalize hHs:updL (aget h) D.ws=Hs at q1 q3 q4
 unfold KD
 generalize hH2:updL H D.ws=H2
 have hdom:∀i,i∈keys h→∃o,Hs i=some o:=fun i hi=>by
  obtain⟨o,ho⟩:=key_aget.1 hi
  rw[← hHs];exact updL_dom ho
 have hsame:∀i o,Hs i=some o→H2 i=some o:=fun i o ho=>by
  rw[← hHs]at ho;rw[← hH2]
  by_cases hi:i∈keys D.ws
  ·rw[updL_key (B:=aget h) hi];exact ho
  ·rw[updL_nokey hi]at ho ⊢; exact hsub i o ho
 have hout:∀i,Hs i=none→H2 i=H i∧i∉keys h:=fun i ho=>by
  refine⟨?_,fun hi=>by obtain⟨o,h'⟩:=hdom i hi;rw[h']at ho;cases ho⟩
  rw[← hH2]
  refine updL_nokey (fun hi=>?_)
  obtain⟨o,h'⟩:=updL_some (A:=aget h) hi
  rw[hHs,ho]at h';cases h'
 have hnew:∀i o,H i=some o→i∉keys h→Hs i=none:=fun i o ho hi=>by
  rw[← hHs]
  have hnk:i∉keys D.ws:=fun hk=>by
   rcases hws i hk with h'|h'
   ·exact hi h'
   ·rw[hal i h']at ho;cases ho
  rw[updL_nokey hnk]
  cases e:aget h i with
  |none=>rfl
  |some o'=>exact absurd (key_aget.2 ⟨o',e⟩) hi
 let ρ2:Nat→Option Nat:=fun i=>match Hs i with|some _=>ρ' i|none=>ρ i
 have r2in:∀i o,Hs i=some o→ρ2 i=ρ' i:=fun i o e=>by simp only[ρ2,e]
 have r2out:∀i,Hs i=none→ρ2 i=ρ i:=fun i e=>by simp only[ρ2,e]
 have hρ':∀i b,ρ' i=some b→∃o,Hs i=some o:=fun i b e=>q1.dom i b e
 have hlift:∀{v:AV} {x:Value},RelV w' F' ρ' Hs v x→RelV w' F' ρ2 H2 v x:=fun hv=>RelV.more (fun i o e=>⟨hsame i o e,r2in i o e⟩) hv
 have hkeep:HKeep w ρ H w' ρ2 H2:=by
  refine⟨fun id o h1 h2=>?_,fun id k h1=>?_,q3.sz,fun id k l v h1=>?_⟩
  ·by_cases hi:id∈keys h
   ·obtain⟨o',ho'⟩:=key_aget.1 hi
    have e:=hsub id o' ho'
    rw[h1]at e;cases e
    obtain⟨o2,g1,g2,g3⟩:=q3.box id o ho' h2
    exact⟨o2,hsame _ _ g1,g2,(r2in _ _ g1).trans (g3.trans (hin id hi))⟩
   ·have hn:=hnew id o h1 hi
    exact⟨o,by rw[(hout id hn).1];exact h1,h2,r2out id hn⟩
  ·by_cases hi:id∈keys h
   ·obtain⟨o',ho'⟩:=key_aget.1 hi
    have e:=hsub id o' ho'
    rw[h1]at e;cases e
    obtain⟨k2,g1,g2,g3,g4⟩:=q3.blk id k ho'
    refine⟨k2,hsame _ _ g1,g2,g3,fun e=>?_⟩
    obtain⟨p1,p2,p3,p4⟩:=g4 e
    exact⟨p1,p2,p3,(r2in _ _ g1).trans (p4.trans (hin id hi))⟩
   ·have hn:=hnew id _ h1 hi
    exact⟨k,by rw[(hout id hn).1];exact h1,rfl,Nat.le_refl _,fun _=>⟨rfl,rfl,.inl rfl,r2out id hn⟩⟩
  ·by_cases hi:id∈keys h
   ·obtain⟨o',ho'⟩:=key_aget.1 hi
    have e:=hsub id o' ho'
    rw[h1]at e;cases e
    obtain⟨k2,l2,v2,g1,g2,g3⟩:=q3.que id k l v ho'
    refine⟨k2,l2,v2,hsame _ _ g1,g2,fun e=>?_⟩
    obtain⟨p1,p2,p3,p4⟩:=g3 e
    exact⟨p1,p2,(r2in _ _ g1).trans (p3.trans (hin id hi)),fun b hb=>p4 b ((hin id hi).trans hb)⟩
   ·have hn:=hnew id _ h1 hi
    refine⟨k,l,v,by rw[(hout id hn).1];exact h1,Nat.le_refl _,fun _=>⟨rfl,rfl,r2out id hn,fun b hb=>?_⟩⟩
    exact q2.same b (hm.lt id b hb) (fun id' e'=>by
     obtain⟨g1,g2⟩:=hpr id' b e'
     exact hi (hm.inj id id' b hb g2▸g1))
 have hext:Ext G F ρ w F' ρ2 w':=by
  refine⟨q2.io,q2.size,fun b hb hn=>q2.same b hb (fun id e=>hn id (hpr id b e).2),q2.frz,q2.keep,fun b hb=>?_,fun id b hb=>?_⟩
  ·rcases q2.more b hb with h'|h'|⟨id,h'⟩
   ·exact .inl h'
   ·exact .inr (.inl h')
   ·exact .inr (.inr ⟨id,(hpr id b h').2⟩)
  ·cases e:Hs id with
   |none=>exact .inl ⟨id,(r2out id e).symm.trans hb⟩
   |some o=>
    rcases q2.im id b ((r2in id o e).symm.trans hb)with⟨id',h'⟩|h'
    ·exact .inl ⟨id',(hpr id' b h').2⟩
    ·exact .inr h'
 refine⟨F',ρ2,⟨fun id o ho=>?_,fun id b hb=>?_,fun i j b hi hj=>?_,fun id b hb=>?_,q1.frz,q1.glob⟩,hext,hkeep,hlift q4⟩
 ·cases e:Hs id with
  |some o'=>
   have:=hsame id o' e
   rw[ho]at this;cases this
   exact(q1.heap id o e).tr (fun v x _ hr=>hlift hr) (r2in id o e)
  |none=>
   obtain⟨h1,h2⟩:=hout id e
   rw[h1]at ho
   refine(hm.heap id o ho).mono q2.frz q2.keep hkeep (r2out id e) (fun b hb=>?_)
   have hnp:∀id',partR h ρ id'≠some b:=fun id' e'=>by
    obtain⟨g1,g2⟩:=hpr id' b e'
    exact h2 (hm.inj id id' b hb g2▸g1)
   refine⟨q2.same b (hm.lt id b hb) hnp,fun hf=>?_⟩
   rcases q2.more b hf with h'|h'|⟨id',h'⟩
   ·exact h'
   ·have:=hm.lt id b hb;omega
   ·exact absurd h' (hnp id')
 ·cases e:Hs id with
  |some o=>exact⟨o,hsame id o e⟩
  |none=>
   obtain⟨o,ho⟩:=hm.dom id b ((r2out id e).symm.trans hb)
   exact⟨o,by rw[(hout id e).1];exact ho⟩
 ·have mixed:∀i j o,Hs i=some o→Hs j=none→ρ' i=some b→ρ j=some b→i=j:=fun i j o ei ej hi hj=>by
   exfalso
   rcases q2.im i b hi with⟨id',h'⟩|h'
   ·obtain⟨g1,g2⟩:=hpr id' b h'
    have:=hm.inj j id' b hj g2
    subst this
    exact(hout j ej).2 g1
   ·have:=hm.lt j b hj;omega
  cases ei:Hs i with
  |some o=>
   rw[r2in i o ei]at hi
   cases ej:Hs j with
   |some o'=>rw[r2in j o' ej]at hj;exact q1.inj i j b hi hj
   |none=>rw[r2out j ej]at hj;exact mixed i j o ei ej hi hj
  |none=>
   rw[r2out i ei]at hi
   cases ej:Hs j with
   |some o'=>rw[r2in j o' ej]at hj;exact(mixed j i o' ej ei hj hi).symm
   |none=>rw[r2out j ej]at hj;exact hm.inj i j b hi hj
 ·cases e:Hs id with
  |some o=>rw[r2in id o e]at hb;exact q1.lt id b hb
  |none=>rw[r2out id e]at hb;exact Nat.lt_of_lt_of_le (hm.lt id b hb) q2.size

theorem readF_get {look:Nat→Option HO}:∀{l:List Nat} {i:Nat} {o:HO},aget (readF look l) i=some o→look i=some o
 |[],i,o,e=>by cases e
 |j::r,i,o,e=>by
  simp only[readF]at e
  split at e
  ·rename_i u hu
   simp only[aget]at e
   by_cases hj:j=i
   ·subst hj;rw[beq_self,cond_true]at e;cases e;exact hu
   ·rw[beq_ne hj,cond_false]at e;exact readF_get e
  ·exact readF_get e

theorem refsV_yld {id:Nat}:refsV (.yld id)=[id]:=rfl

theorem callD_sound (hm:MRel G F ρ H w){look:Nat→Option HO}(hl:∀id o,look id=some o→H id=some o){site:Nat}{tb:Nat→List (Nat×HO)→AV→List AV→Option Delta}{cv:AV}{vs:List AV}{D:Delta}
  (hD:opCallD site look tb cv vs=some D) (hc:AllC (SpecQ P G) D.cs) (hfresh:∀i,i∈D.al→H i=none) {xs:Array Value} (hv:RelVs w F ρ H vs xs.toList):TgtOk P ρ cv xs w (KD G F ρ H w D):=by
 unfold opCallD at hD
 simp only[cond_eq_ite]at hD
 split at hD
 ·rename_i hcl
  rw[Bool.and_eq_true]at hcl
  obtain⟨c1,c2⟩:=hcl
  generalize hh:readF look (reachW look 1000000 (refsV cv++refsL vs) [])=h at*
  have hsub:∀id o,aget h id=some o→H id=some o:=fun id o e=>hl id o (readF_get (by rw[hh];exact e))
  have hks:=allIn_ok c1
  split at hD
  ·rename_i D' hD'
   split at hD
   ·rename_i hw
    rw[Bool.and_eq_true]at hw
    have hws:∀i,i∈keys D'.ws→i∈keys h∨i∈D'.al:=fun i hi=>by simpa using allIn_ok hw.1 i hi
    cases hD
    have hsp:SpecD P G cv vs h D'.v D'.ws D'.al:=hc.1
    have hin:∀i,i∈keys h→aget h i=H i∧partR h ρ i=ρ i:=fun i hi=>by
     obtain⟨o,ho⟩:=key_aget.1 hi
     exact⟨by rw[ho,hsub i o ho],by simp[partR,hi]⟩
    have h1:=hsp F (partR h ρ) w xs (hm.part hsub c2) (RelVs.move (D:=fun i=>i∈keys h) hin hv (fun i hi=>hks i (by simp[hi])))
    have fin:∀(y:Value) (w':World),KD G F (partR h ρ) (aget h) w {v:=D'.v,ws:=D'.ws,al:=D'.al,cs:=[]} y w'→KD G F ρ H w {D' with cs:=.callD cv vs h D'.v D'.ws D'.al::D'.cs} y w':=fun y w' hk=>
     KD.frame (D:={D' with cs:=.callD cv vs h D'.v D'.ws D'.al::D'.cs}) hm hsub hws hfresh hk
    unfold TgtOk at h1 ⊢
    cases cv with
    |fn f a c=>exact h1.mono fin
    |yld id=>
     intro b hb
     refine(h1 b ?_).mono fin
     rw[(hin id (hks id (by simp[refsV_yld]))).2];exact hb
    |_=>exact h1
   ·cases hD
  ·cases hD
 ·cases hD

end
end Go.Ab

/-
 The model's operations, with the types' facts resolved; each does what its abstract effect says.
-/
set_option linter.unusedVariables false
set_option linter.unusedSimpArgs false
namespace Go.Ab
open Go

/-! ### Compilation -/

mutual
def compV:Nat→Value→Option AV
 |0,_=>none
 |n+1,v=>
  match v with
  |.bool b=>some (.bool b)
  |.int k x=>some (.int k x)
  |.string s=>some (.str s.data.toList)
  |.pointer none=>some .nilp
  |.slice none 0 0=>some .nils
  |.nilFunc=>some .nilf
  |.nilIface=>some .nili
  |.map none=>some .undef
  |.func (.func f) a c=>match compVs n a.toList,compVs n c.toList with
   |some a',some c'=>some (.fn f a' c')
   |_,_=>none
  |.agg xs=>match compVs n xs.toList with
   |some l=>some (.agg l)
   |none=>none
  |.tuple xs=>match compVs n xs.toList with
   |some l=>some (.tup l)
   |none=>none
  |_=>none
def compVs:Nat→List Value→Option (List AV)
 |0,_=>none
 |n+1,l=>
  match l with
  |[]=>some []
  |v::r=>match compV n v,compVs n r with
   |some v',some r'=>some (v'::r')
   |_,_=>none
end

theorem compV_sound (w:World)(F:Nat→Prop):∀n,(∀v a,compV n v=some a→RelI w F a v)∧(∀l a,compVs n l=some a→RelIs w F a l):=by
 intro n
 induction n with
 |zero=>exact⟨fun v a h=>by simp[compV]at h,fun l a h=>by simp[compVs]at h⟩
 |succ n ih=>
  obtain⟨ihV,ihL⟩:=ih
  refine⟨fun v a h=>?_,fun l a h=>?_⟩
  ·simp only[compV]at h
   split at h
   ·cases h;exact .bool _
   ·cases h;exact .int _ _
   ·cases h;exact .str _ _ rfl
   ·cases h;exact .nilp
   ·cases h;exact .nils
   ·cases h;exact .nilf
   ·cases h;exact .nili
   ·cases h;exact .undef _
   ·split at h
    ·rename_i h1 h2;cases h;exact .fn _ _ _ _ _ (ihL _ _ h1) (ihL _ _ h2)
    ·cases h
   ·split at h
    ·rename_i h1;cases h;exact .agg _ _ (ihL _ _ h1)
    ·cases h
   ·split at h
    ·rename_i h1;cases h;exact .tup _ _ (ihL _ _ h1)
    ·cases h
   ·cases h
  ·cases l with
   |nil=>simp only[compVs]at h;cases h;exact .nil
   |cons v r=>
    simp only[compVs]at h
    split at h
    ·rename_i h1 h2;cases h;exact .cons _ _ _ _ (ihV _ _ h1) (ihL _ _ h2)
    ·cases h

def compX:Operand→Option Opd
 |.tmp t=>some (.t t)
 |.const v=>match compV 12 v with|some a=>some (.c a)|none=>none
 |.global g=>some (.g g)
 |.func f=>some (.c (.fn f [] []))
def compXs:List Operand→Option (List Opd)
 |[]=>some []
 |x::r=>match compX x,compXs r with
  |some a,some b=>some (a::b)
  |_,_=>none
def compXo:Option Operand→Option (Option Opd)
 |none=>some none
 |some x=>match compX x with|some a=>some (some a)|none=>none

def aggOf (P:Program)(t:TypeId):Option (Option Nat):=
 match P.underlying t,P.info? t with
 |some d,some i=>some (cond (aggD d) (some i.size) none)
 |_,_=>none
def szOf (P:Program)(t:TypeId):Option Nat:=match P.info? t with|some i=>some i.size|none=>none
def kcode:IntKind→Nat
 |.i8=>1|.i16=>2|.i32=>3|.i64=>4|.u8=>5|.u16=>6|.u32=>7|.u64=>8
def tyCode (P:Program)(e:TypeId):Nat:=
 match P.underlying e with
 |some (.int k)=>kcode k
 |some .bool=>9
 |some .string=>10
 |_=>0
def allOne:List Value→Bool
 |[]=>true
 |v::r=>v.oneCell'&&allOne r
def zeroOf (P:Program)(t:TypeId):Option (List AV):=
 match P.info? t with
 |some i=>match i.zero with
  |some z=>cond (allOne z.cells.toList&&Nat.beq z.cells.size i.size) (compVs 12000 z.cells.toList) none
  |none=>none
 |none=>none
def elOf (P:Program)(e:TypeId):Option (Nat×Nat×List AV):=
 match P.info? e,zeroOf P e with
 |some i,some z=>cond (Nat.beq i.bytes 0) none (some (i.size,i.bytes,z))
 |_,_=>none

def compAlloc (P:Program)(t:TypeId):Option XOp:=
 match zeroOf P t with
 |some z=>match P.underlying t with
  |some (.array n e)=>match contOf (tyCode P e) z,szOf P e with
   |some c,some sz=>some (.new c n sz)
   |_,_=>none
  |_=>some (.new (.cells z) 1 z.length)
 |none=>none
def compLoad (P:Program)(t:TypeId)(a:Operand):Option XOp:=
 match aggOf P t,compX a with
 |some agg,some a=>some (.load agg a)
 |_,_=>none
def compStore (P:Program)(t:TypeId)(a x:Operand):Option XOp:=
 match szOf P t,compX a,compX x with
 |some sz,some a,some x=>some (.store sz a x)
 |_,_,_=>none
def isNilConst (kd:Nat):Operand→Bool
 |.const (.slice none 0 0)=>Nat.beq kd 0
 |.const .nilFunc=>Nat.beq kd 1
 |.const (.pointer none)=>Nat.beq kd 2
 |_=>false
def compEqa (P:Program)(neq:Bool)(t:TypeId)(x y:Operand):Option XOp:=
 match szOf P t,leavesT P 16 t 0,compX x,compX y with
 |some n,some ls,some a,some b=>cond (P.eqGuardType P.depth t) none (some (.eqa neq n ls a b))
 |_,_,_,_=>none
def compEq (P:Program)(neq:Bool)(t:TypeId)(x y:Operand):Option XOp:=
 match P.underlying t with
 |some (.int _)=>match compX x,compX y with
  |some a,some b=>some (.bin (cond neq .neq .eql) a b)
  |_,_=>none
 |some .string=>match compX x,compX y with
  |some a,some b=>some (.bin (cond neq .neq .eql) a b)
  |_,_=>none
 |some .bool=>match compX x,compX y with
  |some a,some b=>some (.eqb neq a b)
  |_,_=>none
 |some (.struct _)=>compEqa P neq t x y
 |some (.array _ _)=>compEqa P neq t x y
 |some (.slice _)=>cond (isNilConst 0 y) (match compX x with|some a=>some (.isnil neq 0 a)|none=>none) none
 |some (.func _ _ _)=>cond (isNilConst 1 y) (match compX x with|some a=>some (.isnil neq 1 a)|none=>none) none
 |some (.pointer _)=>cond (isNilConst 2 y) (match compX x with|some a=>some (.isnil neq 2 a)|none=>none) none
 |_=>none
def compBin (P:Program)(op:BinOp)(t:TypeId)(x y:Operand):Option XOp:=
 match op with
 |.eql=>compEq P false t x y
 |.neq=>compEq P true t x y
 |op=>match compX x,compX y with
  |some a,some b=>some (.bin op a b)
  |_,_=>none
def compConv (P:Program)(src dst:TypeId)(x:Operand):Option XOp:=
 match P.underlying src,P.underlying dst,compX x with
 |some (.int _),some (.int k),some a=>some (.conv k a)
 |_,_,_=>none
def compFieldA (P:Program)(t:TypeId)(x:Operand)(ix:Nat):Option XOp:=
 match P.underlying t with
 |some (.struct fs)=>match fs[ix]? with
  |some f=>match szOf P f.type,compX x with
   |some n,some a=>cond (Nat.beq n 0) none (some (.fieldA f.offset a))
   |_,_=>none
  |none=>none
 |_=>none
def compField (P:Program)(t:TypeId)(x:Operand)(ix:Nat):Option XOp:=
 match P.underlying t with
 |some (.struct fs)=>match fs[ix]? with
  |some f=>match aggOf P f.type,compX x with
   |some agg,some a=>some (.field f.offset agg a)
   |_,_=>none
  |none=>none
 |_=>none
def compIdxA (P:Program)(t:TypeId)(x i:Operand):Option XOp:=
 match P.underlying t with
 |some (.slice e)=>match szOf P e,compX x,compX i with
  |some sz,some a,some b=>some (.idxA none sz a b)
  |_,_,_=>none
 |some (.array n e)=>match szOf P e,compX x,compX i with
  |some sz,some a,some b=>some (.idxA (some n) sz a b)
  |_,_,_=>none
 |_=>none
def compIdx (P:Program)(t:TypeId)(x i:Operand):Option XOp:=
 match P.underlying t with
 |some (.array n e)=>match szOf P e,aggOf P e,compX x,compX i with
  |some sz,some agg,some a,some b=>some (.idx n sz agg.isSome a b)
  |_,_,_,_=>none
 |some .string=>match compX x,compX i with
  |some a,some b=>some (.idxs a b)
  |_,_=>none
 |_=>none
def compSlice (P:Program)(t:TypeId)(x:Operand)(lo hi mx:Option Operand):Option XOp:=
 match compX x,compXo lo,compXo hi,compXo mx with
 |some a,some l,some h,some m=>match P.underlying t with
  |some (.slice e)=>match szOf P e with
   |some sz=>some (.slice sz a l h m)
   |none=>none
  |some .string=>match m with
   |none=>some (.slices a l h)
   |some _=>none
  |some (.array n e)=>match szOf P e with
   |some sz=>some (.slicea n sz a l h m)
   |none=>none
  |_=>none
 |_,_,_,_=>none
def compBuildPs (P:Program)(place:Nat→Option (Nat×Nat)):List (Nat×Operand)→Option (List (Nat×Nat×Opd))
 |[]=>some []
 |(i,x)::r=>match place i,compX x,compBuildPs P place r with
  |some (off,sz),some a,some l=>some ((off,sz,a)::l)
  |_,_,_=>none
def fieldPl (P:Program)(fs:Array Field)(i:Nat):Option (Nat×Nat):=
 match fs[i]? with
 |some f=>match szOf P f.type with
  |some n=>some (f.offset,n)
  |none=>none
 |none=>none
def allSz (P:Program):List Field→Bool
 |[]=>true
 |f::r=>(szOf P f.type).isSome&&allSz P r
def compBuild (P:Program)(t:TypeId)(ps:List (Nat×Operand)):Option XOp:=
 match zeroOf P t,P.underlying t with
 |some z,some (.struct fs)=>cond (allSz P fs.toList) (match compBuildPs P (fieldPl P fs) ps with
  |some l=>some (.build z l)
  |none=>none) none
 |some z,some (.array _ e)=>match szOf P e with
  |some sz=>match compBuildPs P (fun i=>some (i*sz,sz)) ps with
   |some l=>some (.build z l)
   |none=>none
  |none=>none
 |_,_=>none
def compBuildS (P:Program)(t:TypeId)(len:Nat)(ps:List (Nat×Operand)):Option XOp:=
 match P.underlying t with
 |some (.slice e)=>match elOf P e with
  |some (sz,_,z)=>cond (len' (len*sz) 16777216&& !Nat.beq sz 0) (match compBuildPs P (fun i=>some (i*sz,sz)) ps with
   |some l=>some (.buildS sz len (tyCode P e) z l)
   |none=>none) none
  |none=>none
 |_=>none
/-! ### Types of keys and values -/
def intK (P:Program)(t:TypeId):Option (Option IntKind):=
 match P.underlying t,P.info? t with
 |some (.int k),some i=>cond (Nat.beq i.size 1) (some (some k)) none
 |some .bool,some i=>cond (Nat.beq i.size 1) (some none) none
 |_,_=>none
def fieldsK (P:Program):Nat→List Field→Option (List (Option IntKind))
 |_,[]=>some []
 |i,f::r=>match intK P f.type,fieldsK P (i+1) r with
  |some k,some l=>cond (Nat.beq f.offset i) (some (k::l)) none
  |_,_=>none
def flatT (P:Program)(t:TypeId):Option MV:=
 match P.underlying t with
 |some (.int _)=>match intK P t with
  |some k=>some ⟨false,[k]⟩
  |none=>none
 |some .bool=>match intK P t with
  |some k=>some ⟨false,[k]⟩
  |none=>none
 |some (.struct fs)=>match fieldsK P 0 fs.toList with
  |some l=>some ⟨true,l⟩
  |none=>none
 |some (.array n e)=>match intK P e with
  |some k=>some ⟨true,List.replicate n k⟩
  |none=>none
 |_=>none
def allInt:List (Option IntKind)→Bool
 |[]=>true
 |some _::r=>allInt r
 |none::_=>false
def idLs (n:Nat):List (Nat×Nat):=(List.range n).map fun i=>(i,0)
def keyT (P:Program)(t:TypeId):Option MV:=
 match flatT P t,leavesT P 16 t 0,P.info? t with
 |some m,some ls,some i=>cond (allInt m.ks&&(decide (ls=idLs m.ks.length)&&Nat.beq i.size m.ks.length)) (some m) none
 |_,_,_=>none
def isCell:Option IntKind→Value→Bool
 |some k,.int k' n=>beqK k k'&&decide (n=0)
 |none,.bool b=> !b
 |_,_=>false
def isCells:List (Option IntKind)→List Value→Bool
 |[],[]=>true
 |k::r,x::xs=>isCell k x&&isCells r xs
 |_,_=>false
def isZero (m:MV)(x:Value):Bool:=
 match m.agg with
 |true=>match x with
  |.agg xs=>isCells m.ks xs.toList
  |_=>false
 |false=>match m.ks with
  |[k]=>isCell k x
  |_=>false
def valT (P:Program)(t:TypeId):Option MV:=
 match flatT P t,P.info? t with
 |some m,some i=>match i.zero with
  |some z=>cond (isZero m z) (some m) none
  |none=>none
 |_,_=>none
def compMkmap (P:Program)(t:TypeId)(r:Option Operand):Option XOp:=
 match P.underlying t with
 |some (.map k e)=>match keyT P k,valT P e with
  |some kk,some vk=>match r with
   |none=>some (.mkmap kk vk [])
   |some x=>match compX x with
    |some a=>some (.mkmap kk vk [a])
    |none=>none
  |_,_=>none
 |_=>none
def compLook (P:Program)(t:TypeId)(x y:Operand)(ok:Bool):Option XOp:=
 match P.underlying t,compX x,compX y with
 |some (.map k e),some a,some b=>match keyT P k,valT P e with
  |some kk,some vk=>some (.mlook kk vk ok a b)
  |_,_=>none
 |_,_,_=>none
def compMput (P:Program)(t:TypeId)(x y z:Operand):Option XOp:=
 match P.underlying t,compX x,compX y,compX z with
 |some (.map k e),some a,some b,some c=>match keyT P k,valT P e with
  |some kk,some vk=>some (.mput kk vk a b c)
  |_,_=>none
 |_,_,_,_=>none
def compMent (P:Program)(t:TypeId)(x y:Operand):Option XOp:=
 match P.underlying t,compX x,compX y with
 |some (.map k e),some a,some b=>match keyT P k,valT P e with
  |some kk,some vk=>some (.ment kk vk a b)
  |_,_=>none
 |_,_,_=>none
def compMst (P:Program)(t:TypeId)(x y z:Operand):Option XOp:=
 match P.underlying t,compX x,compX y,compX z with
 |some (.map k e),some a,some b,some c=>match keyT P k,valT P e with
  |some kk,some vk=>some (.mst kk vk a b c)
  |_,_=>none
 |_,_,_,_=>none
def compMks (P:Program)(t:TypeId)(l c:Operand):Option XOp:=
 match P.underlying t,compX l,compX c with
 |some (.slice e),some a,some b=>match elOf P e with
  |some (sz,by_,z)=>some (.mks sz by_ (tyCode P e) z a b)
  |none=>none
 |_,_,_=>none
def invOf (P:Program)(name:String)(t:TypeId):Option (Nat×Option (Option Nat)):=
 match P.info? t with
 |some i=>match i.methods.find? (·.name==name)with
  |some m=>match m.path.isEmpty,m.func with
   |true,some (f,ptr)=>match P.underlying t,ptr with
    |some (.pointer _),true=>some (f,none)
    |some (.pointer e),false=>match aggOf P e with
     |some agg=>some (f,some agg)
     |none=>none
    |some _,false=>some (f,none)
    |_,_=>none
   |_,_=>none
  |none=>none
 |none=>none
def invTab (P:Program)(name:String):List TypeId→List (Nat×(Nat×Option (Option Nat)))
 |[]=>[]
 |t::r=>match invOf P name t with
  |some q=>(t,q)::invTab P name r
  |none=>invTab P name r
def compCall (P:Program)(c:Call):Option XOp:=
 match compXs c.args.toList with
 |some as=>match c.callee with
  |.value (.func f)=>some (.call f as)
  |.value x=>match compX x with
   |some a=>some (.callv a as)
   |none=>none
  |.invoke x name=>match compX x with
   |some a=>some (.inv (invTab P name (List.range P.types.size)) a as)
   |none=>none
  |.builtin .len=>match c.argTypes.toList,as with
   |[t],[a]=>match P.underlying t with
    |some .string=>some (.lens a)
    |some (.slice _)=>some (.len a)
    |some (.array n _)=>some (.lena n a)
    |some (.map _ _)=>some (.mlen a)
    |_=>none
   |_,_=>none
  |.builtin .copy=>match c.argTypes.toList,as with
   |[t,u],[a,b]=>match P.underlying t,P.underlying u with
    |some (.slice e),some (.slice _)=>match elOf P e with
     |some (sz,_,_)=>some (.copy sz a b)
     |none=>none
    |_,_=>none
   |_,_=>none
  |.builtin .delete=>match c.argTypes.toList,as with
   |[t,_],[a,b]=>match P.underlying t with
    |some (.map k e)=>match keyT P k,valT P e with
     |some kk,some vk=>some (.mdel kk vk a b)
     |_,_=>none
    |_=>none
   |_,_=>none
  |.builtin .cap=>match c.argTypes.toList,as with
   |[t],[a]=>match P.underlying t with
    |some (.slice _)=>some (.cap a)
    |_=>none
   |_,_=>none
  |.builtin .append=>match c.argTypes.toList,as with
   |[t,u],[a,b]=>match P.underlying t,P.underlying u with
    |some (.slice e),some (.slice _)=>match elOf P e with
     |some (sz,by_,_)=>some (.append sz by_ (tyCode P e) a b)
     |none=>none
    |some (.slice e),some (.int _)=>match elOf P e with
     |some (sz,by_,_)=>some (.growz sz by_ (tyCode P e) a b)
     |none=>none
    |_,_=>none
   |_,_=>none
  |.builtin .clear=>match c.argTypes.toList,as with
   |[t],[a]=>match P.underlying t with
    |some (.slice e)=>match elOf P e with
     |some (sz,_,z)=>match sz with
      |0=>none
      |sz=>some (.clear sz z a)
     |none=>none
    |_=>none
   |_,_=>none
  |.builtin .max=>some (.mm true as)
  |.builtin .min=>some (.mm false as)
  |_=>none
 |none=>none

def compBstr (P:Program)(src dst:TypeId)(x:Operand):Option XOp:=
 match P.underlying src,P.underlying dst,compX x with
 |some (.slice e),some .string,some a=>match P.underlying e with
  |some (.int .u8)=>some (.bstr a)
  |_=>none
 |some (.int _),some .string,some a=>some (.rstr a)
 |_,_,_=>none
def compSbyt (P:Program)(src dst:TypeId)(x:Operand):Option XOp:=
 match P.underlying src,P.underlying dst,compX x with
 |some .string,some (.slice e),some a=>match P.underlying e with
  |some (.int .u8)=>some (.sbyt a)
  |_=>none
 |_,_,_=>none
def compOp (P:Program)(op:Op):Option XOp:=
 match op with
 |.move x=>match compX x with|some a=>some (.mv a)|none=>none
 |.assign x=>match compX x with|some a=>some (.mv a)|none=>none
 |.pick c a b=>match compX c,compX a,compX b with
  |some c,some a,some b=>some (.pick c a b)
  |_,_,_=>none
 |.alloc e=>compAlloc P e
 |.box _ x=>match compX x with|some a=>some (.box a)|none=>none
 |.build t ps=>compBuild P t ps.toList
 |.buildSlice t len ps=>compBuildS P t len ps.toList
 |.load t a=>compLoad P t a
 |.store t a x=>compStore P t a x
 |.nilCheck x=>match compX x with|some a=>some (.nilck a)|none=>none
 |.binOp op t x y _=>compBin P op t x y
 |.unOp op _ x=>match compX x with|some a=>some (.un op a)|none=>none
 |.convert src dst x=>match compConv P src dst x with
  |some r=>some r
  |none=>match compBstr P src dst x with
   |some r=>some r
   |none=>compSbyt P src dst x
 |.range t x=>match P.underlying t,compX x with
  |some .string,some a=>some (.rng a)
  |some (.map _ _),some a=>some (.rngm a)
  |_,_=>none
 |.next x true=>match compX x with|some a=>some (.nxt a)|none=>none
 |.next x false=>match compX x with|some a=>some (.nxtm a)|none=>none
 |.makeFunc (.func f) a c=>match compXs a.toList,compXs c.toList with
  |some a,some c=>some (.mkf f a c)
  |_,_=>none
 |.makeSlice t l c=>compMks P t l c
 |.makeMap t r=>compMkmap P t r
 |.lookup t x y ok=>compLook P t x y ok
 |.mapUpdate t x y z=>compMput P t x y z
 |.insert t x y z=>compMput P t x y z
 |.mapEntry t x y=>compMent P t x y
 |.entryStore t x y z=>compMst P t x y z
 |.entry x=>match compX x with|some a=>some (.ent a)|none=>none
 |.slice t x lo hi mx=>compSlice P t x lo hi mx
 |.fieldAddr t x f=>compFieldA P t x f
 |.field t x f=>compField P t x f
 |.indexAddr t x i=>compIdxA P t x i
 |.index t x i=>compIdx P t x i
 |.extract x i=>match compX x with|some a=>some (.ext a i)|none=>none
 |.typeAssert x _ t false=>match P.underlying t,compX x with
  |some (.interface _),_=>none
  |some _,some a=>some (.tas t a)
  |_,_=>none
 |.call c=>compCall P c
 |_=>none

def compOpB (P:Program)(op:Op):Option XOp:=
 match op with
 |.defer _=>none
 |op=>match compOp P op with
  |some x=>some x
  |none=>some .bad

end Go.Ab
