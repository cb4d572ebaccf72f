/- An abstract reading of the program: what its operations do to what is known of memory. Part 2 of 7. -/
import Derived.Test.YtfafinkgmhkdmaaGreatDoorAb1
import Derived.Calls
set_option linter.unusedVariables false
set_option linter.unusedSimpArgs false
namespace Go.Ab
open Go
theorem MRel.setH {G:GL}{F:Nat->Prop}{ρ:Nat->Option Nat}{H:Nat->Option HO}{w:World}(hm:MRel G F ρ H w)
  {id:Nat} {k k':Blk} (hi:H id=some (.blk k)) (hbx:k'.bx=k.bx) (hn:k'.n=k.n) (hnil:k'.nil=k.nil) (hsz:k'.sz=k.sz) (hcap:k'.cap=k.cap\/k'.cap=none)
  (hO:HKeep w ρ H w ρ (upd H id (some (.blk k')))->RelO G w F ρ (upd H id (some (.blk k'))) id (.blk k')):
  MRel G F ρ (upd H id (some (.blk k'))) w/\Ext G F ρ w F ρ w/\HKeep w ρ H w ρ (upd H id (some (.blk k'))):=by
 have hk:HKeep w ρ H w ρ (upd H id (some (.blk k'))):=
  ⟨fun i o h1 h2=>by
   by_cases e:i=id
   ·subst e;rw[hi]at h1;cases h1;exact⟨_,A0e _ _ _,hbx.trans h2,rfl⟩
   ·exact⟨o,by rw[A0a _ _ e];exact h1,h2,rfl⟩,
   fun i k1 h1=>by
   by_cases e:i=id
   ·subst e;rw[hi]at h1;cases h1;exact⟨_,A0e _ _ _,hbx,Nat.le_of_eq hn.symm,fun e=>⟨hnil,hsz,hcap,rfl⟩⟩
   ·exact⟨k1,by rw[A0a _ _ e];exact h1,rfl,Nat.le_refl _,fun _=>⟨rfl,rfl,.inl rfl,rfl⟩⟩,
   fun b cs ty fz hb=>⟨cs,ty,fz,hb,rfl⟩⟩
 refine⟨⟨fun i o h1=>?_,fun i b hb=>?_,hm.inj,hm.lt,hm.frz,hm.glob⟩,Ext.refl _ _ _,hk⟩
 ·by_cases e:i=id
  ·subst e;rw[A0e]at h1;cases h1;exact hO hk
  ·rw[A0a _ _ e]at h1;exact(hm.heap i o h1).mono (fun _ _=>rfl) (fun _ h=>h) hk rfl (fun b hb=>⟨rfl,fun h=>h⟩)
 ·obtain⟨o',ho'⟩:=hm.dom i b hb
  by_cases e:i=id
  ·subst e;exact⟨_,A0e _ _ _⟩
  ·exact⟨o',by rw[A0a _ _ e];exact ho'⟩
theorem MRel.ghost {G:GL}{F:Nat->Prop}{ρ:Nat->Option Nat}{H:Nat->Option HO}{w:World}(hm:MRel G F ρ H w)
  {site:Nat} {k:Blk} (hs:H site=none) (hn:k.n=0) (hc:k.c.size=0):
  MRel G F ρ (upd H site (some (.blk k))) w/\Ext G F ρ w F ρ w/\HKeep w ρ H w ρ (upd H site (some (.blk k))):=by
 have hρ:ρ site=none:=by
  cases e:ρ site with
  |none=>rfl
  |some b=>obtain⟨o,h⟩:=hm.dom site b e;rw[hs]at h;cases h
 have hne:∀id o,H id=some o->id≠site:=fun id o h e=>by rw[e,hs]at h;cases h
 have hk:HKeep w ρ H w ρ (upd H site (some (.blk k))):=
  ⟨fun id o' h1 h2=>⟨o',by rw[A0a _ _ (hne id o' h1)];exact h1,h2,rfl⟩,
   fun id k1 h1=>⟨k1,by rw[A0a _ _ (hne id _ h1)];exact h1,rfl,Nat.le_refl _,fun _=>⟨rfl,rfl,.inl rfl,rfl⟩⟩,
   fun b cs ty fz hb=>⟨cs,ty,fz,hb,rfl⟩⟩
 refine⟨⟨fun i o h1=>?_,fun i b hb=>?_,hm.inj,hm.lt,hm.frz,hm.glob⟩,Ext.refl _ _ _,hk⟩
 ·by_cases e:i=site
  ·subst e;rw[A0e]at h1;cases h1;exact⟨by rw[hc,hn];simp,.inl ⟨hn,hρ⟩⟩
  ·rw[A0a _ _ e]at h1;exact(hm.heap i o h1).mono (fun _ _=>rfl) (fun _ h=>h) hk rfl (fun b hb=>⟨rfl,fun h=>h⟩)
 ·obtain⟨o',ho'⟩:=hm.dom i b hb
  by_cases e:i=site
  ·subst e;exact⟨_,A0e _ _ _⟩
  ·exact⟨o',by rw[A0a _ _ e];exact ho'⟩
section
variable {P:Program}{G:GL}{F F':Nat->Prop}{ρ:Nat->Option Nat}{H:Nat->Option HO}{w:World}{look:Nat->Option HO}
 {Sp:SpT} {D:Delta}
theorem A1v {a b c:Cont}(h:a.app b=some c):a.isMap=false/\c.isMap=false:=by
 cases a<;>cases b<;>simp only[Cont.app,reduceCtorEq]at h<;>first|(cases h;exact⟨rfl,rfl⟩)|(rw[cond_eq_ite]at h;split at h<;>cases h;exact⟨rfl,rfl⟩)
theorem A2w {a b c:Cont}(h:a.app b=some c):c.size=a.size+b.size/\
  (∀i x,i<a.size->RelE w F ρ H a i x->RelE w F ρ H c i x)/\(∀i x,i<b.size->RelI w F (b.getV i) x->x.oneCell'=true->RelE w F ρ H c (a.size+i) x):=by
 cases a<;>cases b<;>simp only[Cont.app,reduceCtorEq]at h
 case ints.ints k l k' l'=>
  simp only[cond_eq_ite]at h;split at h
  ·rename_i hk;have hk:k=k':=by simpa[A2R]using hk
   subst hk;cases h;refine⟨by simp[Cont.size],fun i x hi hr=>?_,fun i x hi hr hone=>?_⟩
   ·simp only[Cont.size]at hi;simp only[RelE,Cont.getV]at hr ⊢;rw[show(l++l').getD i 0=l.getD i 0 by simp[List.getD,List.getElem?_append_left hi]];exact hr
   ·simp only[Cont.size]at hi ⊢;simp only[RelE,Cont.getV]at hr ⊢;rw[show(l++l').getD (l.length+i) 0=l'.getD i 0 by simp[List.getD,List.getElem?_append_right]];exact⟨hr,hone⟩
  ·cases h
 case bools.bools l l'=>
  cases h;refine⟨by simp[Cont.size],fun i x hi hr=>?_,fun i x hi hr hone=>?_⟩
  ·simp only[Cont.size]at hi;simp only[RelE,Cont.getV]at hr ⊢;rw[show(l++l').getD i false=l.getD i false by simp[List.getD,List.getElem?_append_left hi]];exact hr
  ·simp only[Cont.size]at hi ⊢;simp only[RelE,Cont.getV]at hr ⊢;rw[show(l++l').getD (l.length+i) false=l'.getD i false by simp[List.getD,List.getElem?_append_right]];exact⟨hr,hone⟩
 case strs.strs l l'=>
  cases h;refine⟨by simp[Cont.size],fun i x hi hr=>?_,fun i x hi hr hone=>?_⟩
  ·simp only[Cont.size]at hi;simp only[RelE,Cont.getV]at hr ⊢;rw[show(l++l').getD i []=l.getD i []by simp[List.getD,List.getElem?_append_left hi]];exact hr
  ·simp only[Cont.size]at hi ⊢;simp only[RelE,Cont.getV]at hr ⊢;rw[show(l++l').getD (l.length+i) []=l'.getD i []by simp[List.getD,List.getElem?_append_right]];exact⟨hr,hone⟩
 case vals.vals l l'=>
  cases h;refine⟨by simp[Cont.size],fun i x hi hr=>?_,fun i x hi hr hone=>?_⟩
  ·simp only[Cont.size]at hi;simp only[RelE,Cont.getV]at hr ⊢;rw[show(l++l').getD i .undef=l.getD i .undef by simp[List.getD,List.getElem?_append_left hi]];exact hr
  ·simp only[Cont.size]at hi ⊢;simp only[RelE,Cont.getV]at hr ⊢;rw[show(l++l').getD (l.length+i) .undef=l'.getD i .undef by simp[List.getD,List.getElem?_append_right]];exact⟨hr,hone⟩
theorem A3f (hm:MRel G F ρ H w)(hl:∀id o,look id=some o->H id=some o){sz:Nat}{v:AV}{c:Cont}{m:Nat}{cs:List Cd}{x:Value}(h:A9d look sz v=some (c,m,cs))(hc:A0M Sp cs)(hx:RelV w F ρ H v x):
  ∃(a:Option Addr) (cap:Nat) (cells:List Value),x=.slice a m cap/\c.size=m*sz/\cells.length=m*sz/\(a=none->m=0)/\
   (∀b,a=some b->∀j y,cells[j]? =some y->w.cell? (b.add j)=some y)/\(∀j y,cells[j]? =some y->RelE w F ρ H c j y):=by
 have ofHolds:∀(b o cap:Nat) (c:Cont),x=.slice (some ⟨b,o,none⟩) m cap->c.size=m*sz->(∀i,i<c.size->∃y,w.cell? ⟨b,o+i,none⟩=some y/\RelE w F ρ H c i y)->
   ∃(a:Option Addr) (cap:Nat) (cells:List Value),x=.slice a m cap/\c.size=m*sz/\cells.length=m*sz/\(a=none->m=0)/\
   (∀b,a=some b->∀j y,cells[j]? =some y->w.cell? (b.add j)=some y)/\(∀j y,cells[j]? =some y->RelE w F ρ H c j y):=by
  intro b o cap c hx hs hh;refine⟨some ⟨b,o,none⟩,cap,(List.range c.size).map (fun i=>(w.cell? ⟨b,o+i,none⟩).getD default),hx,hs,by simp[hs],(fun e=>by cases e),?_,?_⟩
  ·intro b' e j y hj;cases e;have hlt:j<c.size:=by
    have:=(List.getElem?_eq_some_iff.1 hj).1;simpa using this
   obtain⟨z,g1,g2⟩:=hh j hlt;rw[A1u];simp[hlt,g1]at hj;rw[g1,hj]
  ·intro j y hj;have hlt:j<c.size:=by
    have:=(List.getElem?_eq_some_iff.1 hj).1;simpa using this
   obtain⟨z,g1,g2⟩:=hh j hlt;simp[hlt,g1]at hj;rw[<- hj];exact g2
 have ofZero:∀(a:Option Addr) (c:Cont),x=.slice a 0 0->m=0->c.size=0->
   ∃(a:Option Addr) (cap:Nat) (cells:List Value),x=.slice a m cap/\c.size=m*sz/\cells.length=m*sz/\(a=none->m=0)/\
   (∀b,a=some b->∀j y,cells[j]? =some y->w.cell? (b.add j)=some y)/\(∀j y,cells[j]? =some y->RelE w F ρ H c j y):=by
  intro a c hx hm0 hs;subst hm0;exact⟨a,0,[],hx,by simp[hs],by simp,fun _=>rfl,fun b _ j y h=>by simp at h,fun j y h=>by simp at h⟩
 unfold A9d at h;split at h
 ·rename_i c' len cap;cases h;have hs:c.size=m*sz:=by have:=hc.1;simp only[Cd.holds,A1F]at this;exact this
  cases hx with
  |imm _ _ hi=>
   cases hi with
   |imm _ _ _ b o cap' xs hF hcell hr ho hle hcap=>
    refine ofHolds b o cap' c rfl hs (fun i hi=>⟨xs i,hcell i hi,?_⟩);have:=hr i hi;refine⟨?_,ho i hi⟩;cases c<;>first|exact this|exact this.toV
   |imm0 _ _ a hc0 hcap=>exact ofZero a c rfl rfl hc0
 ·rename_i id len;split at h
  ·rename_i k hk;have hH:=hl _ _ hk;simp only[cond_eq_ite]at h;split at h
   ·rename_i hsz;have hsz:k.sz=sz:=Nat.eq_of_beq_eq_true hsz;cases h;have hn:k.n=m:=hc.1;have hs:k.c.size=m*sz:=by rw[(hm.heap id _ hH).1,hn,hsz]
    cases hx with
    |imm _ _ hi=>cases hi
    |full _ _ k' _ hh hle hp hxx=>
     rw[hH]at hh;cases hh;rcases hxx hn with⟨rfl,_,_,rfl⟩|⟨rfl,_,_,a,rfl⟩|⟨_,b,cap,cs0,ty,fz,q1,q2,rfl,q3,q4,q5⟩
     ·exact ofZero none _ rfl rfl (by rw[hs];simp)
     ·exact ofZero _ _ rfl rfl (by rw[hs];simp)
     ·refine ofHolds b 0 cap k.c rfl hs (fun i hi=>?_);obtain⟨_,h1|⟨b',h1,h2⟩⟩:=hm.heap id _ hH
      ·rw[q1]at h1;cases h1.2
      ·rw[q1]at h1;cases h1;obtain⟨cs1,ty1,fz1,g1,g2,g3,g4⟩:=h2.ex (Cont.nmap hi);obtain⟨y,p1,p2⟩:=g4 i hi;exact⟨y,by simp[World.cell?,g1,p1],p2⟩
   ·cases h
  ·cases h
 ·rename_i id off len cap;split at h
  ·rename_i k hk;have hH:=hl _ _ hk;simp only[cond_eq_ite]at h;split at h
   ·rename_i hsz;have hsz:k.sz=sz:=Nat.eq_of_beq_eq_true hsz;cases h;have hle:off+m*sz<=k.c.size:=by have:=hc.1;simp only[Cd.holds,A0X,A1F,decide_eq_true_eq]at this;exact this
    cases hx with
    |imm _ _ hi=>cases hi
    |sl _ _ _ _ b k' hb hh hbx hlc=>
     rw[hH]at hh;cases hh;rw[A1F];refine ofHolds b off cap _ rfl (by rw[A0S,A1r];omega) (fun i hi=>?_);rw[A0S,A1r]at hi;obtain⟨_,h1|⟨b',h1,h2⟩⟩:=hm.heap id _ hH
     ·rw[hb]at h1;cases h1.2
     ·rw[hb]at h1;cases h1;obtain⟨cs1,ty1,fz1,g1,g2,g3,g4⟩:=h2.ex (Cont.nmap (i:=off+i) (by omega));obtain⟨y,p1,p2⟩:=g4 (off+i) (by omega);refine⟨y,by simp[World.cell?,g1,p1],?_,p2.2⟩;have p2:=p2.1;have hv:((k.c.drop off).take (m*sz)).getV i=k.c.getV (off+i):=by rw[A2j _ _ _ (by omega),A2i]
      cases hkc:k.c with
      |cells l=>
       rw[hkc]at p2 hv;simp only[Cont.drop,Cont.take]at hv p2 ⊢;simp only[Cont.getV]at hv;rw[hv];exact p2
      |_=>
       rw[hkc]at p2 hv;simp only[Cont.drop,Cont.take]at hv p2 ⊢;rw[hv];exact p2
   ·cases h
  ·cases h
 ·rename_i id n s off len;split at h
  ·rename_i k hk;have hH:=hl _ _ hk;simp only[cond_eq_ite]at h;split at h
   ·rename_i hsz;rw[Bool.and_eq_true]at hsz;have hs2:=Nat.eq_of_beq_eq_true hsz.2;have hsz:k.sz=sz:=Nat.eq_of_beq_eq_true hsz.1;subst hs2;cases h;have hn:k.n=n:=hc.1;have hks:k.c.size=n*s:=by rw[(hm.heap id _ hH).1,hn,hsz]
    obtain⟨hle,⟨e,a,rfl⟩|⟨b,cap,cs,ty,fz,p1,p2,rfl,p3,p4⟩⟩:=hx.vws hH hn
    ·have e2:m=0:=by omega
     subst e2;exact ofZero a _ rfl rfl (by rw[A0S];simp[A1F])
    ·have hm1:(off+m)*s<=k.c.size:=by rw[hks];exact Nat.mul_le_mul_right _ hle
     rw[Nat.add_mul]at hm1;rw[A1F,A1F];refine ofHolds b (off*s) _ _ rfl (by rw[A0S,A1r];omega) (fun i hi=>?_);rw[A0S,A1r]at hi;obtain⟨_,h1|⟨b',h1,h2⟩⟩:=hm.heap id _ hH
     ·rw[p1]at h1;cases h1.2
     ·rw[p1]at h1;cases h1;obtain⟨cs1,ty1,fz1,g1,g2,g3,g4⟩:=h2.ex (Cont.nmap (i:=off*s+i) (by omega));obtain⟨y,r1,r2⟩:=g4 (off*s+i) (by omega);refine⟨y,by simp[World.cell?,g1,r1],?_,r2.2⟩;have r2:=r2.1;have hv:((k.c.drop (off*s)).take (m*s)).getV i=k.c.getV (off*s+i):=by rw[A2j _ _ _ (by omega),A2i]
      cases hkc:k.c with
      |cells l=>
       rw[hkc]at r2 hv;simp only[Cont.drop,Cont.take]at hv r2 ⊢;simp only[Cont.getV]at hv;rw[hv];exact r2
      |_=>
       rw[hkc]at r2 hv;simp only[Cont.drop,Cont.take]at hv r2 ⊢;rw[hv];exact r2
   ·cases h
  ·cases h
 ·cases h
theorem A11 {a:Option Addr}{m cap sz:Nat}{cells:List Value}(hlen:cells.length=m*sz)(hz:a=none->m=0)
  (hcell:∀b,a=some b->∀j y,cells[j]? =some y->w.cell? (b.add j)=some y):(Builtin.firstCells sz m (.slice a m cap)).run P w=.ok cells.toArray w:=by
 cases a with
 |none=>
  have:=hz rfl;subst this;have:cells=[]:=by simpa using hlen
  subst this;simp[Builtin.firstCells]
 |some b=>
  simp only[Builtin.firstCells];have:=run_loadCells_list (P:=P) (w:=w) b cells (hcell b rfl);rw[hlen]at this;exact this
end
structure ElOk (P:Program)(e:TypeId)(sz by_:Nat):Prop where
 inf:∃i z,P.info? e=some i/\i.size=sz/\i.bytes=by_/\i.zero=some z/\z.cells.size=sz
 pos:by_≠0
section
variable {P:Program}{G:GL}{F F':Nat->Prop}{ρ:Nat->Option Nat}{H:Nat->Option HO}{w:World}{look:Nat->Option HO}
 {Sp:SpT} {D:Delta}
theorem A0V {sT xT e ty:TypeId}{sz by_:Nat}(hs:P.underlying sT=some (.slice e)){dx:TypeDesc}(hx:P.underlying xT=some dx)(hx':∀k,dx≠ .int k)(he:ElOk P e sz by_)
  {base a:Option Addr} {sLen sCap m cap:Nat} {cells:List Value} (hc:(Builtin.firstCells sz m (.slice a m cap)).run P w=.ok cells.toArray w) (hroom:sLen+m<=sCap):
  (Builtin.append_ #[sT,xT] ty #[.slice base sLen sCap,.slice a m cap]).run P w=
   (match base with
    |some b=>((storeCells (b.add (sLen*sz)) cells).run P w).andThen fun _ w'=>.ok (.slice (some b) (sLen+m) sCap) w'
    |none=>.ok (.slice none (sLen+m) sCap) w):=by
 obtain⟨i,z,h1,h2,h3,h4,h5⟩:=he.inf;have hz:(match dx with|.int _=>true|_=>false)=false:=by cases dx<;>simp;exact hx' _ rfl
 unfold Builtin.append_;simp only[List.getElem?_toArray,List.getElem?_cons_zero,List.getElem?_cons_succ];simp only[Sem.run_bind,A0b hs,Result.andThen_ok,A0l h1,A0b hx,Sem.run_pure,Builtin.lenOf,h2];cases dx<;>simp[Builtin.lenOf,hroom,hc]<;>first|exact absurd rfl (hx' _)|(cases base<;>simp)
theorem A1R {sT xT e ty:TypeId}{sz by_:Nat}(hs:P.underlying sT=some (.slice e)){dx:TypeDesc}(hx:P.underlying xT=some dx)(hx':∀k,dx≠ .int k)(he:ElOk P e sz by_)
  {base a:Option Addr} {sLen sCap m cap:Nat} {cells old:List Value} (hc:∀w':World,w'.heap=w.heap->(Builtin.firstCells sz m (.slice a m cap)).run P w'=.ok cells.toArray w')
  (ho:∀w':World,w'.heap=w.heap->(Builtin.firstCells sz sLen (.slice base sLen sCap)).run P w'=.ok old.toArray w') (hroom:¬ sLen+m<=sCap) (hb:(sLen+m)*by_<=A0Y):
  ∃(newCap:Nat) (rest:List Value) (w':World),(sLen+m<=newCap/\newCap<=A4K)/\w'.heap=w.heap.push (.cells (old++cells++rest).toArray e)/\(rest.length=(newCap-(sLen+m))*sz/\IoEq G w w')/\
   (Builtin.append_ #[sT,xT] ty #[.slice base sLen sCap,.slice a m cap]).run P w=.ok (.slice (some ⟨w.heap.size,0,none⟩) (sLen+m) newCap) w':=by
 have hb:(sLen+m)*by_<=140737488355328:=hb;obtain⟨i,z,h1,h2,h3,h4,h5⟩:=he.inf;have hpos:i.bytes≠0:=by rw[h3];exact he.pos
 have hfit:Builtin.nextslicecap (sLen+m) sCap*i.bytes<=281474976710656:=growslice_fits (by omega) (by rw[h3];exact hb);have hneed:sLen+m<=140737488355328:=by
  have:(sLen+m)*1<=(sLen+m)*by_:=Nat.mul_le_mul_left _ (Nat.pos_of_ne_zero he.pos);omega
 let q:Question:=.appendCap (sLen+m) sCap e
 let newCap:=q.cut (w.tape w.drawn q)
 have hnew:sLen+m<=newCap:=Nat.le_add_right _ _;have hmaxc:newCap<=A4K:=by
  show sLen+m+_%(2 ^ 63-(sLen+m))<=9223372036854775807;have:=Nat.mod_lt (w.tape w.drawn q) (show 2 ^ 63-(sLen+m)>0 by omega);omega
 let rest:=(Builtin.zeroCells z.cells (newCap-(sLen+m))).toList
 refine⟨newCap,rest,{w with heap:=w.heap.push (.cells (old++cells++rest).toArray e),drawn:=w.drawn+1},⟨hnew,hmaxc⟩,rfl,⟨by simp[rest,Builtin.zeroCells,h5],⟨rfl,rfl,fun _=>⟨rfl,Nat.le_succ _⟩⟩⟩,?_⟩;unfold Builtin.append_;simp only[List.getElem?_toArray,List.getElem?_cons_zero,List.getElem?_cons_succ];simp only[Sem.run_bind,A0b hs,Result.andThen_ok,A0l h1,A0b hx,Sem.run_pure,Builtin.lenOf,h2];have hmax:¬ ((sLen+m:Nat):Int)>IntKind.i64.max:=by
  have:IntKind.i64.max=9223372036854775807:=by decide
  omega
 have hti:∀w:World,(typeInfo e).run P w=.ok i w:=fun w=>by simp[typeInfo,h1]
 have hzv:∀w:World,(zeroValue e).run P w=.ok z w:=fun w=>by simp[zeroValue,typeInfo,h1,h4]
 have hfit':¬ (Builtin.nextslicecap (sLen+m) sCap*i.bytes>2 ^ 48):=by omega
 have hch:(choose q).run P w=.ok newCap {w with drawn:=w.drawn+1}:=by
  simp only[choose,Sem.run,q,Question.forced];rfl
 have hc':=hc {w with drawn:=w.drawn+1} rfl;have ho':=ho {w with drawn:=w.drawn+1} rfl;have hfin:(match dx with|.int _=>true|_=>false)=false:=by cases dx<;>simp;exact hx' _ rfl
 cases dx
 case int k=>exact absurd rfl (hx' k)
 all_goals
  simp only[Bool.false_eq_true,if_false,Sem.run_bind,Builtin.lenOf,Sem.run_pure,Result.andThen_ok,hroom,hti,false_or,hpos,and_false,hfit',Bool.not_false,if_true];rw[show(choose (.appendCap (sLen+m) sCap e))=choose q from rfl,hch];simp only[Result.andThen_ok,run_askRoom,ho',hc',hzv,newRow,Sem.run_bind,run_newObj,Sem.run_pure];have harr:∀Z:Array Value,(old++cells).toArray++Z=(old++(cells++Z.toList)).toArray:=fun Z=>by
   apply Array.toList_inj.1;simp
  simp[rest,harr]
def Old (F:Nat->Prop)(ρ:Nat->Option Nat)(H:Nat->Option HO)(w:World)(c:Cont)(old:List Value):Prop:=
 old.length=c.size/\∀j y,old[j]? =some y->RelE w F ρ H c j y
theorem A79 {c yc c':Cont}{old cells rest:List Value}(hc:c.app yc=some c')(ho:Old F ρ H w c old)(hl:cells.length=yc.size)(hr:∀j y,cells[j]? =some y->RelI w F (yc.getV j) y/\y.oneCell'=true):
  c'.size<=(old++cells++rest).length/\∀i,i<c'.size->∃x,(old++cells++rest)[i]? =some x/\RelE w F ρ H c' i x:=by
 obtain⟨s1,s2,s3⟩:=A2w (w:=w) (F:=F) (ρ:=ρ) (H:=H) hc;refine⟨by simp[ho.1,hl];omega,fun i hi=>?_⟩
 by_cases h:i<c.size
 ·have h':i<old.length:=by rw[ho.1];exact h
  refine⟨old[i],by simp[List.getElem?_append,h'],s2 i _ h (ho.2 i _ (List.getElem?_eq_getElem h'))⟩
 ·have h':i-c.size<cells.length:=by rw[hl];omega
  refine⟨cells[i-c.size],?_,?_⟩
  ·have h1:old.length<=i:=by rw[ho.1];omega
   rw[List.append_assoc,List.getElem?_append_right h1,List.getElem?_append_left (by rw[ho.1];exact h'),ho.1];exact List.getElem?_eq_getElem h'
  ·have:=s3 (i-c.size) _ (by rw[<- hl];exact h') (hr _ _ (List.getElem?_eq_getElem h')).1 (hr _ _ (List.getElem?_eq_getElem h')).2;rw[show c.size+(i-c.size)=i by omega]at this;exact this
theorem A31 {w':World}{ρ':Nat->Option Nat}{H':Nat->Option HO}{F':Nat->Prop}{c:Cont}{xs:List Value}(hw:∀b,F b->w'.heap[b]? =w.heap[b]?)(hF:∀b,F b->F' b)(hk:HKeep w ρ H w' ρ' H')
  (h:∀i,i<c.size->∃x,xs[i]? =some x/\RelE w F ρ H c i x):∀i,i<c.size->∃x,xs[i]? =some x/\RelE w' F' ρ' H' c i x:=
 fun i hi=>by obtain⟨x,h1,h2⟩:=h i hi;exact⟨x,h1,h2.mono hw hF hk⟩
theorem A2m {id:Nat}:∀{ids:List Nat},id∈ids->A1K id ids=true
 |[],h=>by simp at h
 |i::r,h=>by
  simp only[A1K]
  by_cases e:i=id
  ·subst e;simp[A0t]
  ·rcases List.mem_cons.1 h with h|h
   ·exact absurd h.symm e
   ·simp[A0O e,A2m h]
theorem A2E {x y:Nat}(h:(Cd.b (A0X x y)).holds Sp):x<=y:=of_decide_eq_true h
theorem A9x (ty:Nat):(A2S ty).isMap=false:=by
 unfold A2S;split<;>rfl
theorem A12 (ty:Nat):(A2S ty).size=0:=by
 unfold A2S;split<;>rfl
theorem A9y {c:Cont}{p i:Nat}{x:Value}(hi:i<p)(h:RelE w F ρ H c i x):RelE w F ρ H (c.take p) i x:=by
 refine⟨?_,h.2⟩;have h1:=h.1;have hv:(c.take p).getV i=c.getV i:=A2j _ _ _ hi;cases c with
 |cells l=>
  simp only[Cont.take,Cont.getV]at hv h1 ⊢;rw[hv];exact h1
 |maps=>exact h1
 |_=>
  simp only[Cont.take]at hv h1 ⊢;rw[hv];exact h1
theorem B3f {c d e:Cont}{q i:Nat}{x:Value}(ha:d.app (c.drop q)=some e)(h:RelE w F ρ H c (q+i) x):RelI w F ((c.drop q).getV i) x:=by
 have h1:=h.1;have hv:(c.drop q).getV i=c.getV (q+i):=A2i ..
 cases c with
 |cells l=>cases d<;>simp only[Cont.drop,Cont.app,reduceCtorEq]at ha
 |maps=>cases d<;>simp only[Cont.drop,Cont.app,reduceCtorEq]at ha
 |ints=>exact hv.symm▸h1
 |bools=>exact hv.symm▸h1
 |strs=>exact hv.symm▸h1
 |vals=>exact hv.symm▸h1
theorem B4f (c:Cont)(p:Nat):(c.take p).isMap=c.isMap:=by cases c<;>rfl
set_option maxHeartbeats 1000000 in
theorem B4g (hm:MRel G F ρ H w){site sz by_:Nat}{x:Value}{sT xT e ty:TypeId}(hs:P.underlying sT=some (.slice e)){dx:TypeDesc}(hx:P.underlying xT=some dx)(hx':∀k,dx≠ .int k)(he:ElOk P e sz by_)
  {ids:List Nat} {F1:Nat->Prop} (f1:MRel G F1 ρ (A00 H (A1l look ids)) w) (f2:Ext G F ρ w F1 ρ w) (f3:HKeep w ρ H w ρ (A00 H (A1l look ids))) {id n len m:Nat} {k:Blk} (hH:H id=some (.blk k)) (hH1:A00 H (A1l look ids) id=some (.blk k))
  (hmu:k.mu=true) (hbx:k.bx=false) (hsz:k.sz=sz) (hn:k.n=n) (hbound:(len+m)*by_<=A0Y) {yc c1 c':Cont} (ha:(k.c.take (len*sz)).app yc=some c1) (hb:c1.app (k.c.drop ((len+m)*sz))=some c')
  (hu:RelV w F ρ H (.vw id n sz 0 len) x) {a:Option Addr} {cap:Nat} {cells:List Value} (q2:yc.size=m*sz) (q3:cells.length=m*sz) (q4:a=none->m=0) (q5:∀b,a=some b->∀j y,cells[j]? =some y->w.cell? (b.add j)=some y)
  (q6:∀j y,cells[j]? =some y->RelI w F1 (yc.getV j) y/\y.oneCell'=true) (cs0:List Cd):
  Eff G F ρ H w ((Builtin.append_ #[sT,xT] ty #[x,.slice a m cap]).run P w)
   {v:=.vw id (max n (len+m)) sz 0 (len+m),ws:=A1l look ids++[(id,.blk {k with c:=c',n:=max n (len+m),cap:=none})],al:=[],cs:=cs0}:=by
 have first:∀{a:Option Addr} {n cap:Nat} {cells:List Value},cells.length=n*sz->(a=none->n=0)->(∀b,a=some b->∀j y,cells[j]? =some y->w.cell? (b.add j)=some y)->
   ∀w':World,w'.heap=w.heap->(Builtin.firstCells sz n (.slice a n cap)).run P w'=.ok cells.toArray w':=by
  intro a n cap cells h1 h2 h3 w' hw;refine A11 h1 h2 (fun b hb j z hj=>?_);have:=h3 b hb j z hj;simp only[World.cell?]at this ⊢;rw[hw];exact this
 have hcs:cells.length=yc.size:=by rw[q2,q3]
 obtain⟨s1,s2,s3⟩:=A2w (w:=w) (F:=F1) (ρ:=ρ) (H:=A00 H (A1l look ids)) ha;obtain⟨t1,t2,t3⟩:=A2w (w:=w) (F:=F1) (ρ:=ρ) (H:=A00 H (A1l look ids)) hb;have hks:k.c.size=n*sz:=by rw[(hm.heap id _ hH).1,hn,hsz]
 have hnm:k.c.isMap=false:=by have:=(A1v ha).1;rwa [B4f]at this
 have hnm':c'.isMap=false:=(A1v hb).2;obtain⟨hle,-⟩:=hu.vws hH hn;rw[Nat.zero_add]at hle;have hmul:len*sz<=n*sz:=Nat.mul_le_mul_right _ hle;have hts:(k.c.take (len*sz)).size=len*sz:=by rw[A0S,hks];omega
 have hds:(k.c.drop ((len+m)*sz)).size=n*sz-(len+m)*sz:=by rw[A1r,hks]
 have hadd:(len+m)*sz=len*sz+m*sz:=Nat.add_mul ..
 rw[hts,q2]at s1;rw[hts]at s2 s3;rw[s1]at t1 t3
 let k':Blk:={k with c:=c',n:=max n (len+m),cap:=none}
 have hcz:c'.size=max n (len+m)*sz:=by
  rw[t1,hds];rcases Nat.le_total n (len+m)with h|h
  ·rw[Nat.max_eq_right h];have:=Nat.mul_le_mul_right sz h;omega
  ·rw[Nat.max_eq_left h];have:=Nat.mul_le_mul_right sz h;omega
 have hk'sz:k'.c.size=k'.n*k'.sz:=by
  show c'.size=max n (len+m)*k.sz;rw[hsz];exact hcz
 have grow:∀(base:Option Addr) (sCap:Nat) (old:List Value),x=.slice base len sCap->¬ len+m<=sCap->n<=sCap->(old.length=len*sz/\∀j y,old[j]? =some y->RelE w F1 ρ (A00 H (A1l look ids)) k.c j y)->
   (base=none->len=0)->(∀b,base=some b->∀j y,old[j]? =some y->w.cell? (b.add j)=some y)->
   Eff G F ρ H w ((Builtin.append_ #[sT,xT] ty #[x,.slice a m cap]).run P w)
    {v:=.vw id (max n (len+m)) sz 0 (len+m),ws:=A1l look ids++[(id,.blk k')],al:=[],cs:=cs0}:=by
  intro base sCap old hxs hroom hnc hold hbn hbc;subst hxs;obtain⟨newCap,rest,w',⟨r1,rM⟩,r2,r3,r4⟩:=A1R (G:=G) (ty:=ty) hs hx hx' he (first (cap:=cap) q3 q4 q5) (first (a:=base) (n:=len) (cap:=sCap) (cells:=old) hold.1 hbn hbc) hroom hbound;have hmx:max n (len+m)=len+m:=Nat.max_eq_right (by omega);have hz0:n*sz<=(len+m)*sz:=Nat.mul_le_mul_right _ (by omega);have hsz':c'.size=len*sz+m*sz:=by rw[hcz,hmx,hadd]
  have g1:c'.size<=(old++cells++rest).length:=by simp[hold.1,q3];omega
  have g2:∀i,i<c'.size->∃x,(old++cells++rest)[i]? =some x/\RelE w F1 ρ (A00 H (A1l look ids)) c' i x:=fun i hi=>by
   by_cases h:i<len*sz
   ·have h':i<old.length:=by rw[hold.1];exact h
    exact⟨old[i],by simp[List.getElem?_append,h'],t2 i _ (by rw[s1];omega) (s2 i _ h (A9y h (hold.2 i _ (List.getElem?_eq_getElem h'))))⟩
   ·have h':i-len*sz<cells.length:=by rw[q3];omega
    refine⟨cells[i-len*sz],?_,?_⟩
    ·have h1:old.length<=i:=by rw[hold.1];omega
     rw[List.append_assoc,List.getElem?_append_right h1,List.getElem?_append_left (by rw[hold.1];exact h'),hold.1];exact List.getElem?_eq_getElem h'
    ·have:=s3 (i-len*sz) _ (by rw[<- hcs];exact h') (q6 _ _ (List.getElem?_eq_getElem h')).1 (q6 _ _ (List.getElem?_eq_getElem h')).2;rw[show len*sz+(i-len*sz)=i by omega]at this;exact t2 i _ (by rw[s1];omega) this
  obtain⟨ρ',p1,p2,p3,p4⟩:=f1.move (w':=w') (k':=k') hH1 hbx hbx (show k.n<max n (len+m)by omega) r2 r3.2 (fun ρ' hk hρ=>by
   refine⟨hk'sz,.inr ⟨w.heap.size,hρ,RelB.ofCells hnm' ⟨(old++cells++rest).toArray,e,(0,0),A1m r2,by simp,by simpa using g1,fun i hi=>?_⟩ (fun _ h=>absurd (f1.frz _ h) (Nat.lt_irrefl _)) (fun e=>by rw[show k'.mu=k.mu from rfl,hmu]at e;cases e)⟩⟩;obtain⟨z,z1,z2⟩:=A31 (fun b hb=>A1Q r2 (f1.frz b hb)) (fun _ h=>h) hk g2 i hi;exact⟨z,by simpa using z1,z2⟩)
  refine⟨_,w',F1,ρ',r4,?_⟩;rw[A1c];refine⟨p1,f2.trans p2,f3.trans p3,?_⟩;have hfull:FullOk w' ρ' id (max n (len+m)) k' (.slice (some ⟨w.heap.size,0,none⟩) (max n (len+m)) newCap):=by
   refine .inr (.inr ⟨fun _=>by omega,w.heap.size,newCap,(old++cells++rest).toArray,e,(0,0),p4,A1m r2,rfl,by omega,?_,(fun n e=>by cases e),rM⟩);show newCap*k.sz<=_;rw[hsz];simp only[List.size_toArray,List.length_append,r3,q3,hold.1];rw[<- Nat.add_mul,<- Nat.add_mul];exact Nat.mul_le_mul_right _ (by omega)
  exact .vw id _ sz 0 (len+m) k' _ (A0e _ _ _) (Nat.le_refl _) ⟨_,_,_,rfl⟩ (fun _=>⟨by omega,_,_,hfull,by simp[Addr.add]⟩)
 obtain⟨ad,cd,hxe,hfo⟩:∃ad cd,x=.slice (ad.map fun p=>p.add (0*sz)) len (cd-0)/\FullOk w ρ id n k (.slice ad n cd):=by
  obtain⟨_,a,c,h1,h2⟩:=hu.vwf hH hn;exact⟨a,c,h2,h1⟩
 clear hu;have empty:n=0->cd=0->(∀k2:Blk,k2.nil=k.nil->k2.cap=none->FullOk w ρ id 0 k2 (.slice ad 0 0))->Eff G F ρ H w ((Builtin.append_ #[sT,xT] ty #[x,.slice a m cap]).run P w)
    {v:=.vw id (max n (len+m)) sz 0 (len+m),ws:=A1l look ids++[(id,.blk k')],al:=[],cs:=cs0}:=by
  intro hn0 hcd hfo;have hl0:len=0:=by omega
  have eqx:x=.slice ad 0 0:=by
   rw[hxe,hcd,hl0];cases ad<;>simp[Addr.add]
  have hc0:k.c.size=0:=by rw[hks,hn0];simp
  by_cases hroom:0+m<=0
  ·have hm0:m=0:=by omega
   have hcl:cells=[]:=by
    have:=q3;rw[hm0,Nat.zero_mul]at this;exact List.length_eq_zero_iff.1 this
   have hrun0:=A0V (ty:=ty) (base:=ad) (sLen:=0) (sCap:=0) hs hx hx' he (first (cap:=cap) q3 q4 q5 w rfl) hroom;have hrun:(Builtin.append_ #[sT,xT] ty #[x,.slice a m cap]).run P w=.ok (.slice ad 0 0) w:=by
    rw[eqx,hrun0,hcl,hm0];cases ad with
    |none=>rfl
    |some b=>simp only[storeCells,Sem.run_pure,Result.andThen_ok,Nat.add_zero]
   have hmx:max n (len+m)=0:=by omega
   have hrel:RelO G w F1 ρ (A00 H (A1l look ids)) id (.blk k):=f1.heap id _ hH1;obtain⟨p1,p2,p3⟩:=f1.setH (k':=k') hH1 rfl (show max n (len+m)=k.n by omega) rfl rfl (.inr rfl) (fun hk=>by
    refine⟨hk'sz,?_⟩;have hz:k'.c.size=0:=by show c'.size=0;rw[hcz,hmx];simp
    rcases hrel.2 with h|⟨b,h1,h2⟩
    ·exact .inl ⟨hmx,h.2⟩
    ·obtain⟨cs1,ty1,fz1,z1,z2,z3,z4⟩:=h2.ex hnm;exact .inr ⟨b,h1,RelB.ofCells hnm' ⟨cs1,ty1,fz1,z1,z2,by omega,fun i hi=>by omega⟩ h2.mu h2.fr⟩)
   refine⟨_,w,F1,ρ,hrun,?_⟩;rw[A1c];refine⟨p1,f2.trans p2,f3.trans p3,?_⟩;show RelV _ _ _ _ (.vw id (max n (len+m)) sz 0 (len+m)) _;have hl2:len+m=0:=by omega
   rw[hmx,hl2];have e2:(Value.slice (ad.map fun p=>p.add (0*sz)) 0 (0-0))=.slice ad 0 0:=by cases ad<;>simp[Addr.add]
   exact .vw id 0 sz 0 0 k' _ (A0e _ _ _) (Nat.zero_le _) ⟨_,_,_,rfl⟩ (fun _=>⟨Nat.le_refl _,_,_,hfo k' rfl rfl,e2.symm⟩)
  ·exact grow ad 0 [] (by rw[eqx,hl0]) (by omega) (by omega) ⟨by simp[hl0],fun j y h=>by simp at h⟩ (fun _=>hl0) (fun b hb j y h=>by simp at h)
 rcases hfo with⟨e0,hnil,hcap0,hv⟩|⟨e0,hnil,hcap0,a0,hv⟩|⟨hnil,b,sCap,ocs,oty,ofz,e1,e2,hv,e3,e4,e5⟩
 ·cases hv;exact empty e0 rfl (fun k2 h1 h2=>.inl ⟨rfl,h1▸hnil,(fun n e=>by rw[h2]at e;cases e),rfl⟩)
 ·cases hv;exact empty e0 rfl (fun k2 h1 h2=>.inr (.inl ⟨rfl,h1▸hnil,(fun n e=>by rw[h2]at e;cases e),_,rfl⟩))
 ·cases hv;have eqx:x=.slice (some ⟨b,0,none⟩) len cd:=by rw[hxe];simp[Addr.add]
  clear hxe empty;obtain⟨_,h1|⟨b',h1,hB⟩⟩:=f1.heap id _ hH1
  ·rw[e1]at h1;cases h1.2
  rw[e1]at h1;cases h1;obtain⟨ocs',oty',ofz',z1,z2,z3,z4⟩:=hB.ex hnm;rw[e2]at z1;cases z1;have hFb:¬ F1 b:=hB.mu hmu
  by_cases hroom:len+m<=cd
  ·
   have hcd:=Nat.mul_le_mul_right sz hroom;rw[hsz]at e4;have hfit:len*sz+cells.length<=ocs.size:=by rw[q3,<- Nat.add_mul];omega
   have hone:∀v∈cells,v.oneCell'=true:=by
    intro z hz;obtain⟨j,hj,rfl⟩:=List.getElem_of_mem hz;exact(q6 j _ (List.getElem?_eq_getElem hj)).2
   obtain⟨w',cs',p1,p2,p3,p4,p5,p6,p7,p8⟩:=A1g (G:=G) (P:=P) b oty ofz cells (len*sz) 0 ocs w hone e2 (fun j _=>z2 j) (by omega);have hrun:=A0V (ty:=ty) (base:=some ⟨b,0,none⟩) (sLen:=len) (sCap:=cd) hs hx hx' he (first (cap:=cap) q3 q4 q5 w rfl) hroom;simp only[A1u,Nat.zero_add,p1,Result.andThen_ok]at hrun;rw[<- eqx]at hrun;have hmx:max n (len+m)<=cd:=by omega
   have hmx2:=Nat.mul_le_mul_right sz hmx;obtain⟨g1,g2,g3⟩:=f1.write (w':=w') (o':=.blk k') hH1 e1 hFb p2 p6 p7 p8 (fun cs0 ty0 fz0 h=>by rw[e2]at h;cases h;exact⟨cs',oty,ofz,rfl,p3⟩) rfl
    (fun k0 h=>by cases h;exact⟨k',rfl,show k.n<=max n (len+m)by omega,fun _=>⟨rfl,rfl,.inr rfl⟩⟩) (fun hk=>by
     refine⟨hk'sz,.inr ⟨b,e1,RelB.ofCells hnm' ⟨cs',oty,ofz,p2,z2,?_,fun i hi=>?_⟩ (fun _=>hFb) (fun e=>by rw[show k'.mu=k.mu from rfl,hmu]at e;cases e)⟩⟩
     ·rw[p3];show c'.size<=_;rw[hcz];omega
     ·have hwF:∀b,F1 b->w'.heap[b]? =w.heap[b]? :=fun j hj=>p6 j (fun e=>hFb (e▸hj));have hi:i<c'.size:=hi
      by_cases hin:i<len*sz
      ·obtain⟨z,y1,y2⟩:=z4 i (by omega);refine⟨z,?_,(t2 i z (by rw[s1];omega) (s2 i z hin (A9y hin y2))).mono hwF (fun _ h=>h) hk⟩;rw[p5 i (by omega)];exact y1
      ·by_cases hmid:i<len*sz+m*sz
       ·have hj:i-len*sz<cells.length:=by rw[q3];omega
        refine⟨cells[i-len*sz],?_,?_⟩
        ·have:=p4 (i-len*sz) hj;rw[show len*sz+0+(i-len*sz)=i by omega]at this;rw[this];exact List.getElem?_eq_getElem hj
        ·have:=s3 (i-len*sz) _ (by rw[<- hcs];exact hj) (q6 _ _ (List.getElem?_eq_getElem hj)).1 (q6 _ _ (List.getElem?_eq_getElem hj)).2;rw[show len*sz+(i-len*sz)=i by omega]at this;exact(t2 i _ (by rw[s1];omega) this).mono hwF (fun _ h=>h) hk
       ·rw[t1,hds]at hi;obtain⟨z,y1,y2⟩:=z4 i (by rw[hks];omega);refine⟨z,?_,?_⟩
        ·rw[p5 i (by rw[q3];omega)];exact y1
        ·rw[show i=(len+m)*sz+(i-(len+m)*sz)by omega]at y2;have:=t3 (i-(len+m)*sz) z (by rw[hds];omega) (B3f hb y2) y2.2;rw[show len*sz+m*sz+(i-(len+m)*sz)=i by omega]at this;exact this.mono hwF (fun _ h=>h) hk)
   refine⟨_,w',F1,ρ,hrun,?_⟩;rw[A1c];refine⟨g1,f2.trans g2,f3.trans g3,?_⟩;have hfull:FullOk w' ρ id (max n (len+m)) k' (.slice (some ⟨b,0,none⟩) (max n (len+m)) cd):=
    .inr (.inr ⟨fun h=>by have:=hnil h;omega,b,cd,cs',oty,ofz,e1,p2,rfl,hmx,by show cd*k.sz<=_;rw[p3,hsz];exact e4,(fun n e=>by cases e),e5.2⟩)
   exact .vw id _ sz 0 (len+m) k' _ (A0e _ _ _) (Nat.le_refl _) ⟨_,_,_,rfl⟩ (fun _=>⟨by omega,_,_,hfull,by simp[Addr.add]⟩)
  ·
   refine grow (some ⟨b,0,none⟩) cd (ocs.toList.take (len*sz)) eqx hroom e3 ⟨by simp;omega,fun j y hj=>?_⟩ (fun e=>by cases e) (fun b' hb j y hj=>?_)
   ·have hlt:j<len*sz:=by have:=(List.getElem?_eq_some_iff.1 hj).1;simp at this;omega
    obtain⟨z,y1,y2⟩:=z4 j (by omega);rw[List.getElem?_take,if_pos hlt]at hj;simp at hj y1;rw[hj]at y1;cases y1;exact y2
   ·cases hb;have hlt:j<len*sz:=by have:=(List.getElem?_eq_some_iff.1 hj).1;simp at this;omega
    rw[List.getElem?_take,if_pos hlt]at hj;rw[A1u];simp only[World.cell?,e2,Nat.zero_add];simpa using hj
set_option maxHeartbeats 400000 in
theorem A6O (hm:MRel G F ρ H w)(hl:∀id o,look id=some o->H id=some o)(hfresh:∀i,i∈D.al->H i=none){site sz by_ tk:Nat}{u v:AV}{x y:Value}{sT xT e ty:TypeId}
  (hs:P.underlying sT=some (.slice e)) {dx:TypeDesc} (hx:P.underlying xT=some dx) (hx':∀k,dx≠ .int k) (he:ElOk P e sz by_)
  (hu:RelV w F ρ H u x) (hv:RelV w F ρ H v y) {d:Dir} (hD:A3X site look d sz by_ tk u v=some D) (hc:A0M Sp D.cs):
  Eff G F ρ H w ((Builtin.append_ #[sT,xT] ty #[x,y]).run P w) D:=by
 unfold A3X at hD;split at hD
 ·rename_i yc m cs hsrc;split at hD
  ·rename_i yc' ids cs' hfrz;obtain⟨F1,f1,f2,f3,f4,f5,f6⟩:=A68 (look:=look) ids F H hm (fun id k hk=>.inl (hl _ _ hk));have key:A0M Sp cs->A0M Sp cs'->∃(a:Option Addr) (cap:Nat) (cells:List Value),y=.slice a m cap/\yc'.size=m*sz/\cells.length=m*sz/\(a=none->m=0)/\
     (∀b,a=some b->∀j y,cells[j]? =some y->w.cell? (b.add j)=some y)/\(∀j y,cells[j]? =some y->RelI w F1 (yc'.getV j) y/\y.oneCell'=true):=by
    intro h1 h2;obtain⟨a,cap,cells,q1,q2,q3,q4,q5,q6⟩:=A3f hm hl hsrc h1 hv;obtain⟨g1,g2⟩:=(A2l hm hl f2.keep 60).2.2 _ _ _ _ hfrz h2 (fun id hid b hb=>f4 id hid ((A3I 60).2.2 _ _ _ _ hfrz id hid) b hb);refine⟨a,cap,cells,q1,g1.trans q2,q3,q4,q5,fun j z hj=>?_⟩;have hlt:j<yc.size:=by rw[q2,<- q3];exact(List.getElem?_eq_some_iff.1 hj).1
    exact⟨g2 j hlt z (q6 j z hj),(q6 j z hj).2⟩
   have first:∀{a:Option Addr} {n cap:Nat} {cells:List Value},cells.length=n*sz->(a=none->n=0)->(∀b,a=some b->∀j y,cells[j]? =some y->w.cell? (b.add j)=some y)->
     ∀w':World,w'.heap=w.heap->(Builtin.firstCells sz n (.slice a n cap)).run P w'=.ok cells.toArray w':=by
    intro a n cap cells h1 h2 h3 w' hw;refine A11 h1 h2 (fun b hb j z hj=>?_);have:=h3 b hb j z hj;simp only[World.cell?]at this ⊢;rw[hw];exact this
   split at hD
   ·
    rename_i id len;split at hD
    ·rename_i k hk;have hH:=hl _ _ hk;simp only[cond_eq_ite]at hD;split at hD
     ·rename_i hcond;simp only[Bool.and_eq_true,Bool.not_eq_true']at hcond;obtain⟨hmu,hbx,hmem,hsz⟩:=hcond;have hsz:k.sz=sz:=Nat.eq_of_beq_eq_true hsz;have hmem:id∉ids:=by
       intro h;have:A1K id ids=true:=A2m h;rw[this]at hmem;cases hmem
      split at hD
      ·rename_i c' happ;cases hD;obtain⟨c1,c2,c3⟩:=hc;obtain⟨c5,c3⟩:=c3.app;obtain⟨c3,c4⟩:=c3.app;have hcap1:∀n,B0V d k.cap=some n->k.cap=some n/\len+m<=n:=fun n e=>by
        unfold B0V at e;split at e
        ·unfold C1x at c5;simp only[e]at c5;exact⟨e,A2E c5.1⟩
        ·cases e
       have hcap2:B0V d k.cap=k.cap\/B0V d k.cap=none:=by
        unfold B0V;split
        ·exact .inl rfl
        ·exact .inr rfl
       have hn:k.n=len:=c1;have hbound:(len+m)*by_<=A0Y:=A2E c2;obtain⟨a,cap,cells,q1,q2,q3,q4,q5,q6⟩:=key c3 c4;subst q1;have hcs:cells.length=yc'.size:=by rw[q2,q3]
       have hH1:A00 H (A1l look ids) id=some (.blk k):=by
        rcases f5 id k hk with h|h
        ·rw[h,hH]
        ·exact absurd h.1 hmem
       obtain⟨s1,s2,s3⟩:=A2w (w:=w) (F:=F1) (ρ:=ρ) (H:=A00 H (A1l look ids)) happ;have hksz:k.c.size=len*sz:=by rw[(hm.heap id _ hH).1,hn,hsz]
       let k':Blk:={k with c:=c',n:=len+m,cap:=B0V d k.cap}
       have hk'sz:k'.c.size=k'.n*k'.sz:=by
        show c'.size=(len+m)*k.sz;rw[s1,q2,hksz,hsz,Nat.add_mul]
       have fullGo:FullOk w ρ id len k x->Eff G F ρ H w ((Builtin.append_ #[sT,xT] ty #[x,.slice a m cap]).run P w)
         {v:=.full id (len+m),ws:=A1l look ids++[(id,.blk k')],al:=[],cs:=.eqn k.n len:: .b (A0X ((len+m)*by_) A0Y)::(C1x d k.cap (len+m)++(cs++cs'))}:=by
        intro hfull;have grow:∀(base:Option Addr) (sCap:Nat) (old:List Value),x=.slice base len sCap->¬ len+m<=sCap->(∀n,k.cap=some n->sCap=n)->Old F1 ρ (A00 H (A1l look ids)) w k.c old->
          (base=none->len=0)->(∀b,base=some b->∀j y,old[j]? =some y->w.cell? (b.add j)=some y)->
          Eff G F ρ H w ((Builtin.append_ #[sT,xT] ty #[x,.slice a m cap]).run P w)
           {v:=.full id (len+m),ws:=A1l look ids++[(id,.blk k')],al:=[],cs:=.eqn k.n len:: .b (A0X ((len+m)*by_) A0Y)::(C1x d k.cap (len+m)++(cs++cs'))}:=by
         intro base sCap old hxs hroom hcr hold hbn hbc;subst hxs;obtain⟨newCap,rest,w',⟨r1,rM⟩,r2,r3,r4⟩:=A1R (G:=G) (ty:=ty) hs hx hx' he (first (cap:=cap) q3 q4 q5) (first (a:=base) (n:=len) (cap:=sCap) (cells:=old) (by rw[hold.1,hksz]) hbn hbc) hroom hbound;have hmpos:0<m:=by
          rcases hfull with⟨rfl,_,_,e⟩|⟨rfl,_,_,_,e⟩|⟨_,_,_,_,_,_,_,_,e,hle,_,_⟩
          ·cases e;omega
          ·cases e;omega
          ·cases e;omega
         obtain⟨g1,g2⟩:=A79 (rest:=rest) happ hold hcs q6;obtain⟨ρ',p1,p2,p3,p4⟩:=f1.move (w':=w') (k':=k') hH1 hbx hbx (show k.n<len+m by omega) r2 r3.2 (fun ρ' hk hρ=>by
          refine⟨hk'sz,.inr ⟨w.heap.size,hρ,RelB.ofCells (A1v happ).2 ⟨(old++cells++rest).toArray,e,(0,0),A1m r2,by simp,by simpa using g1,fun i hi=>?_⟩ (fun _ h=>absurd (f1.frz _ h) (Nat.lt_irrefl _)) (fun e=>by rw[show k'.mu=k.mu from rfl,hmu]at e;cases e)⟩⟩;obtain⟨z,z1,z2⟩:=A31 (fun b hb=>A1Q r2 (f1.frz b hb)) (fun _ h=>h) hk g2 i hi;exact⟨z,by simpa using z1,z2⟩)
         refine⟨_,w',F1,ρ',r4,?_⟩;rw[A1c];refine⟨p1,f2.trans p2,f3.trans p3,.full id (len+m) k' _ (A0e _ _ _) (Nat.le_refl _) ⟨_,_,_,rfl⟩ (fun _=>.inr (.inr ⟨fun _=>by omega,w.heap.size,newCap,(old++cells++rest).toArray,e,(0,0),p4,A1m r2,rfl,r1,?_,(fun n e=>by have h1:=hcap1 n e;have h2:=hcr n h1.1;omega),rM⟩))⟩;show newCap*k.sz<=_;rw[hsz];simp only[List.size_toArray,List.length_append,r3,q3,hold.1,hksz];rw[<- Nat.add_mul,<- Nat.add_mul];exact Nat.mul_le_mul_right _ (by omega)
        rcases hfull with⟨rfl,hnil,hcap0,rfl⟩|⟨rfl,hnil,hcap0,a0,rfl⟩|⟨hnil,b,sCap,ocs,oty,ofz,e1,e2,rfl,e3,e4,e5⟩
        ·
         have hc0:k.c.size=0:=by rw[hksz];simp
         by_cases hroom:0+m<=0
         ·have hm0:m=0:=by omega
          subst hm0;have hrun:=A0V (ty:=ty) (base:=none) (sLen:=0) (sCap:=0) hs hx hx' he (first (cap:=cap) q3 q4 q5 w rfl) hroom;have hrel:RelO G w F1 ρ (A00 H (A1l look ids)) id (.blk k):=f1.heap id _ hH1;obtain⟨p1,p2,p3⟩:=f1.setH (k':=k') hH1 rfl (show(0+0:Nat)=k.n by omega) rfl rfl hcap2 (fun hk=>by
           refine⟨hk'sz,?_⟩;have hz:k'.c.size=0:=by show c'.size=0;rw[s1,q2,hc0];simp
           rcases hrel.2 with h|⟨b,h1,h2⟩
           ·exact .inl ⟨rfl,h.2⟩
           ·obtain⟨cs1,ty1,fz1,z1,z2,z3,z4⟩:=h2.ex (A1v happ).1;exact .inr ⟨b,h1,RelB.ofCells (A1v happ).2 ⟨cs1,ty1,fz1,z1,z2,by omega,fun i hi=>by omega⟩ h2.mu h2.fr⟩)
          refine⟨_,w,F1,ρ,hrun,?_⟩;rw[A1c];exact⟨p1,f2.trans p2,f3.trans p3,.full id _ k' _ (A0e _ _ _) (Nat.le_refl _) ⟨_,_,_,rfl⟩ (fun _=>.inl ⟨rfl,hnil,(fun n e=>hcap0 n (hcap1 n e).1),rfl⟩)⟩
         ·exact grow none 0 [] rfl hroom (fun n e=>(hcap0 n e).symm) ⟨by rw[hc0];rfl,fun j y h=>by simp at h⟩ (fun _=>rfl) (fun b hb=>by cases hb)
        ·have hc0:k.c.size=0:=by rw[hksz];simp
         by_cases hroom:0+m<=0
         ·have hm0:m=0:=by omega
          subst hm0;have hrun:=A0V (ty:=ty) (base:=some a0) (sLen:=0) (sCap:=0) hs hx hx' he (first (cap:=cap) q3 q4 q5 w rfl) hroom;have hcl:cells=[]:=by simpa using q3
          subst hcl;simp only[storeCells,Sem.run_pure,Result.andThen_ok]at hrun;have hrel:RelO G w F1 ρ (A00 H (A1l look ids)) id (.blk k):=f1.heap id _ hH1;obtain⟨p1,p2,p3⟩:=f1.setH (k':=k') hH1 rfl (show(0+0:Nat)=k.n by omega) rfl rfl hcap2 (fun hk=>by
           refine⟨hk'sz,?_⟩;have hz:k'.c.size=0:=by show c'.size=0;rw[s1,q2,hc0];simp
           rcases hrel.2 with h|⟨b,h1,h2⟩
           ·exact .inl ⟨rfl,h.2⟩
           ·obtain⟨cs1,ty1,fz1,z1,z2,z3,z4⟩:=h2.ex (A1v happ).1;exact .inr ⟨b,h1,RelB.ofCells (A1v happ).2 ⟨cs1,ty1,fz1,z1,z2,by omega,fun i hi=>by omega⟩ h2.mu h2.fr⟩)
          refine⟨_,w,F1,ρ,hrun,?_⟩;rw[A1c];exact⟨p1,f2.trans p2,f3.trans p3,.full id _ k' _ (A0e _ _ _) (Nat.le_refl _) ⟨_,_,_,rfl⟩ (fun _=>.inr (.inl ⟨rfl,hnil,(fun n e=>hcap0 n (hcap1 n e).1),_,rfl⟩))⟩
         ·exact grow (some a0) 0 [] rfl hroom (fun n e=>(hcap0 n e).symm) ⟨by rw[hc0];rfl,fun j y h=>by simp at h⟩ (fun e=>by cases e) (fun b hb j y h=>by simp at h)
        ·
         obtain⟨_,h1|⟨b',h1,hB⟩⟩:=f1.heap id _ hH1
         ·rw[e1]at h1;cases h1.2
         rw[e1]at h1;cases h1;obtain⟨ocs',oty',ofz',z1,z2,z3,z4⟩:=hB.ex (A1v happ).1;rw[e2]at z1;cases z1;have hFb:¬ F1 b:=hB.mu hmu
         by_cases hroom:len+m<=sCap
         ·
          have hfit:len*sz+cells.length<=ocs.size:=by
           rw[q3,<- Nat.add_mul];refine Nat.le_trans (Nat.mul_le_mul_right sz hroom) ?_;rw[<- hsz];exact e4
          have hone:∀v∈cells,v.oneCell'=true:=by
           intro z hz;obtain⟨j,hj,rfl⟩:=List.getElem_of_mem hz;exact(q6 j _ (List.getElem?_eq_getElem hj)).2
          obtain⟨w',cs',p1,p2,p3,p4,p5,p6,p7,p8⟩:=A1g (G:=G) (P:=P) b oty ofz cells (len*sz) 0 ocs w hone e2 (fun j _=>z2 j) (by omega);have hrun:=A0V (ty:=ty) (base:=some ⟨b,0,none⟩) (sLen:=len) (sCap:=sCap) hs hx hx' he (first (cap:=cap) q3 q4 q5 w rfl) hroom;simp only[A1u,Nat.zero_add,p1,Result.andThen_ok]at hrun;obtain⟨g1,g2,g3⟩:=f1.write (w':=w') (o':=.blk k') hH1 e1 hFb p2 p6 p7 p8 (fun cs0 ty0 fz0 h=>by rw[e2]at h;cases h;exact⟨cs',oty,ofz,rfl,p3⟩) rfl
           (fun k0 h=>by cases h;exact⟨k',rfl,show k.n<=len+m by omega,fun _=>⟨rfl,rfl,hcap2⟩⟩) (fun hk=>by
            refine⟨hk'sz,.inr ⟨b,e1,RelB.ofCells (A1v happ).2 ⟨cs',oty,ofz,p2,z2,?_,fun i hi=>?_⟩ (fun _=>hFb) (fun e=>by rw[show k'.mu=k.mu from rfl,hmu]at e;cases e)⟩⟩
            ·rw[p3];show c'.size<=_;rw[s1,q2,hksz,<- q3];exact hfit
            ·have hwF:∀b,F1 b->w'.heap[b]? =w.heap[b]? :=fun j hj=>p6 j (fun e=>hFb (e▸hj));have hi:i<c'.size:=hi
             by_cases hin:i<k.c.size
             ·obtain⟨z,y1,y2⟩:=z4 i hin;refine⟨z,?_,(s2 i z hin y2).mono hwF (fun _ h=>h) hk⟩;rw[p5 i (by rw[hksz]at hin;omega)];exact y1
             ·have hj:i-k.c.size<cells.length:=by rw[hcs];omega
              refine⟨cells[i-k.c.size],?_,?_⟩
              ·have:=p4 (i-k.c.size) hj;rw[show len*sz+0+(i-k.c.size)=i by rw[<- hksz];omega]at this;rw[this];exact List.getElem?_eq_getElem hj
              ·have:=s3 (i-k.c.size) _ (by rw[<- hcs];exact hj) (q6 _ _ (List.getElem?_eq_getElem hj)).1 (q6 _ _ (List.getElem?_eq_getElem hj)).2;rw[show k.c.size+(i-k.c.size)=i by omega]at this;exact this.mono hwF (fun _ h=>h) hk)
          refine⟨_,w',F1,ρ,hrun,?_⟩;rw[A1c];refine⟨g1,f2.trans g2,f3.trans g3,.full id (len+m) k' _ (A0e _ _ _) (Nat.le_refl _) ⟨_,_,_,rfl⟩ (fun _=>.inr (.inr ⟨fun h=>by have:=hnil h;omega,b,sCap,cs',oty,ofz,e1,p2,rfl,hroom,by rw[p3];exact e4,(fun n e=>e5.1 n (hcap1 n e).1),e5.2⟩))⟩
         ·
          refine grow (some ⟨b,0,none⟩) sCap (ocs.toList.take k.c.size) rfl hroom e5.1 ⟨by simp;omega,fun j y hj=>?_⟩ (fun e=>by cases e) (fun b' hb j y hj=>?_)
          ·have hlt:j<k.c.size:=by have:=(List.getElem?_eq_some_iff.1 hj).1;simp at this;omega
           obtain⟨z,y1,y2⟩:=z4 j hlt;rw[List.getElem?_take,if_pos hlt]at hj;simp at hj y1;rw[hj]at y1;cases y1;exact y2
          ·cases hb;have hlt:j<k.c.size:=by have:=(List.getElem?_eq_some_iff.1 hj).1;simp at this;omega
           rw[List.getElem?_take,if_pos hlt]at hj;rw[A1u];simp only[World.cell?,e2,Nat.zero_add];simpa using hj
       cases hu with
       |imm _ _ hi=>cases hi
       |full _ _ k1 _ hh hle hp hxx=>
        rw[hH]at hh;cases hh;exact fullGo (hxx hn)
      ·cases hD
     ·cases hD
    ·cases hD
   ·
    rename_i id n s len;split at hD
    ·rename_i k hk;have hH:=hl _ _ hk;simp only[cond_eq_ite]at hD;split at hD
     ·rename_i hcond;simp only[Bool.and_eq_true,Bool.not_eq_true']at hcond;obtain⟨hmu,hbx,hmem,hsz,hs2⟩:=hcond;have hsz:k.sz=sz:=Nat.eq_of_beq_eq_true hsz;have hs2:s=sz:=Nat.eq_of_beq_eq_true hs2;subst hs2;have hmem:id∉ids:=by
       intro h;have:A1K id ids=true:=A2m h;rw[this]at hmem;cases hmem
      split at hD
      ·rename_i c1 ha;split at hD
       ·rename_i c' hb;cases hD;obtain⟨g1,g2,c3⟩:=hc;obtain⟨c3,c4⟩:=c3.app;obtain⟨a,cap,cells,q1,q2,q3,q4,q5,q6⟩:=key c3 c4;subst q1;have hH1:A00 H (A1l look ids) id=some (.blk k):=by
         rcases f5 id k hk with h|h
         ·rw[h,hH]
         ·exact absurd h.1 hmem
        rw[A1F]at ha hb;exact B4g hm (site:=site) hs hx hx' he f1 f2 f3 hH hH1 hmu hbx hsz g1 (A2E g2) ha hb hu q2 q3 q4 q5 q6 _
       ·cases hD
      ·cases hD
     ·cases hD
    ·cases hD
   ·
    split at hD
    ·rename_i c' happ;cases hD;obtain⟨c2,c3⟩:=hc;obtain⟨c3,c4⟩:=c3.app;have hbound:m*by_<=A0Y:=A2E c2;obtain⟨a,cap,cells,q1,q2,q3,q4,q5,q6⟩:=key c3 c4;subst q1;have hcs:cells.length=yc'.size:=by rw[q2,q3]
     cases hu with
     |imm _ _ hi=>
      cases hi;have hsite:H site=none:=hfresh site (by simp);have hlk:look site=none:=by
       cases e:look site with
       |none=>rfl
       |some o=>have:=hl _ _ e;rw[hsite]at this;cases this
      have hH1:A00 H (A1l look ids) site=none:=by rw[f6 site hlk];exact hsite
      obtain⟨s1,s2,s3⟩:=A2w (w:=w) (F:=F1) (ρ:=ρ) (H:=A00 H (A1l look ids)) happ;have hsz':c'.size=m*sz:=by rw[s1,A12,q2,Nat.zero_add]
      by_cases hroom:0+m<=0
      ·have hm0:m=0:=by omega
       subst hm0;have hrun:=A0V (ty:=ty) (base:=none) (sLen:=0) (sCap:=0) hs hx hx' he (first (cap:=cap) q3 q4 q5 w rfl) hroom;obtain⟨p1,p2,p3⟩:=f1.ghost (k:={c:=c',sz,n:=0,cap:=none,nil:=some true,mu:=true,bx:=false}) hH1 rfl (by rw[hsz'];simp);refine⟨_,w,F1,ρ,hrun,?_⟩;rw[A1c];exact⟨p1,f2.trans p2,f3.trans p3,.full site _ _ _ (A0e _ _ _) (Nat.le_refl _) ⟨_,_,_,rfl⟩ (fun _=>.inl ⟨rfl,by simp,(fun n e=>by cases e),rfl⟩)⟩
      ·have hmpos:0<m:=by omega
       obtain⟨newCap,rest,w',⟨r1,rM⟩,r2,r3,r4⟩:=A1R (G:=G) (ty:=ty) (base:=none) (sLen:=0) (sCap:=0) (old:=[]) hs hx hx' he (first (cap:=cap) q3 q4 q5) (fun w' _=>by simp[Builtin.firstCells]) hroom (by simpa using hbound);obtain⟨g1,g2⟩:=A79 (w:=w) (F:=F1) (ρ:=ρ) (H:=A00 H (A1l look ids)) (old:=[]) (rest:=rest) happ ⟨by rw[A12];rfl,fun j y h=>by simp at h⟩ hcs q6;obtain⟨ρ',p1,p2,p3,p4,_⟩:=f1.alloc (w':=w') (o:=.blk {c:=c',sz,n:=m,cap:=none,nil:=some true,mu:=true,bx:=false}) hH1 r2 r3.2 (fun ρ' H' hk hρ=>by
        refine⟨hsz',.inr ⟨w.heap.size,hρ,RelB.ofCells (A1v happ).2 ⟨([]++cells++rest).toArray,e,(0,0),A1m r2,by simp,by simpa using g1,fun i hi=>?_⟩ (fun _ h=>absurd (f1.frz _ h) (Nat.lt_irrefl _)) (fun e=>by cases e)⟩⟩;obtain⟨z,z1,z2⟩:=A31 (fun b hb=>A1Q r2 (f1.frz b hb)) (fun _ h=>h) hk g2 i hi;exact⟨z,by simpa using z1,z2⟩)
       refine⟨_,w',F1,ρ',r4,?_⟩;rw[A1c];refine⟨p1,f2.trans p2,f3.trans p3,?_⟩;rw[Nat.zero_add];refine .full site m _ _ (A0e _ _ _) (Nat.le_refl _) ⟨_,_,_,rfl⟩ (fun _=>.inr (.inr ⟨fun _=>hmpos,w.heap.size,newCap,([]++cells++rest).toArray,e,(0,0),p4,A1m r2,rfl,by omega,?_,(fun n e=>by cases e),rM⟩));simp only[List.nil_append,List.size_toArray,List.length_append,r3,q3];rw[<- Nat.add_mul];exact Nat.mul_le_mul_right _ (by omega)
    ·cases hD
   ·
    rename_i c len B0M;simp only[cond_eq_ite]at hD;split at hD
    ·
     cases hD;obtain⟨c0,c1⟩:=hc;obtain⟨c3,c4⟩:=c1.app;have hm0:m=0:=c0;subst hm0;obtain⟨a,cap,cells,q1,q2,q3,q4,q5,q6⟩:=key c3 c4;subst q1;have hcl:cells=[]:=by simpa using q3
     subst hcl;have fin:∀(base:Option Addr) (sCap:Nat),len<=sCap->x=.slice base len sCap->RelI w F (.imm c len (some B0M)) x->
       Eff G F ρ H w ((Builtin.append_ #[sT,xT] ty #[x,.slice a 0 cap]).run P w)
        {v:=.imm c len (some B0M),ws:=A1l look ids,al:=[],cs:=.eqn 0 0::(cs++cs')}:=by
      intro base sCap hle hxb hri;subst hxb;have hrun:=A0V (ty:=ty) (base:=base) (sLen:=len) (sCap:=sCap) hs hx hx' he (first (cap:=cap) q3 q4 q5 w rfl) (by omega);have hrun':(Builtin.append_ #[sT,xT] ty #[.slice base len sCap,.slice a 0 cap]).run P w=.ok (.slice base len sCap) w:=by
       rw[hrun];cases base<;>simp[storeCells]
      exact⟨_,w,F1,ρ,hrun',f1,f2,f3,.imm _ _ (hri.mono (fun _ _=>rfl) f2.keep)⟩
     cases hu with
     |imm _ _ hi=>
      have hi0:=hi;cases hi with
      |imm _ _ _ b o cap' xs hF hcell hr ho hle hcap=>exact fin _ _ hle rfl hi0
      |imm0 _ _ a0 hc0 hcap=>exact fin _ _ (Nat.le_refl _) rfl hi0
    split at hD
    ·rename_i c' happ;have grow:∀(nil:Option Bool) (cs0:List Cd),A0M Sp cs->A0M Sp cs'->c.size=len*sz->(len+m)*by_<=A0Y->0<m->H site=none->B0M=len->
       Eff G F ρ H w ((Builtin.append_ #[sT,xT] ty #[x,y]).run P w)
        {v:=.full site (len+m),ws:=A1l look ids++[(site,.blk {c:=c',sz,n:=len+m,cap:=none,nil:=nil,mu:=true,bx:=false})],al:=[site],cs:=cs0}:=by
      intro nil cs0 c3 c4 hcsz hbound hmpos hsite hcap;subst hcap;obtain⟨a,cap,cells,q1,q2,q3,q4,q5,q6⟩:=key c3 c4;subst q1;have hcs:cells.length=yc'.size:=by rw[q2,q3]
      have hlk:look site=none:=by
       cases e:look site with
       |none=>rfl
       |some o=>have:=hl _ _ e;rw[hsite]at this;cases this
      have hH1:A00 H (A1l look ids) site=none:=by rw[f6 site hlk];exact hsite
      obtain⟨s1,s2,s3⟩:=A2w (w:=w) (F:=F1) (ρ:=ρ) (H:=A00 H (A1l look ids)) happ;have hsz':c'.size=(B0M+m)*sz:=by rw[s1,hcsz,q2,Nat.add_mul]
      have go:∀(base:Option Addr) (old:List Value),x=.slice base B0M B0M->Old F1 ρ (A00 H (A1l look ids)) w c old->(base=none->B0M=0)->(∀b,base=some b->∀j y,old[j]? =some y->w.cell? (b.add j)=some y)->
        Eff G F ρ H w ((Builtin.append_ #[sT,xT] ty #[x,.slice a m cap]).run P w)
         {v:=.full site (B0M+m),ws:=A1l look ids++[(site,.blk {c:=c',sz,n:=B0M+m,cap:=none,nil:=nil,mu:=true,bx:=false})],al:=[site],cs:=cs0}:=by
       intro base old hxs hold hbn hbc;subst hxs;obtain⟨newCap,rest,w',⟨r1,rM⟩,r2,r3,r4⟩:=A1R (G:=G) (ty:=ty) hs hx hx' he (first (cap:=cap) q3 q4 q5) (first (a:=base) (n:=B0M) (cap:=B0M) (cells:=old) (by rw[hold.1,hcsz]) hbn hbc) (by omega) hbound;obtain⟨g1,g2⟩:=A79 (rest:=rest) happ hold hcs q6;obtain⟨ρ',p1,p2,p3,p4,_⟩:=f1.alloc (w':=w') (o:=.blk {c:=c',sz,n:=B0M+m,cap:=none,nil:=nil,mu:=true,bx:=false}) hH1 r2 r3.2 (fun ρ' H' hk hρ=>by
        refine⟨hsz',.inr ⟨w.heap.size,hρ,RelB.ofCells (A1v happ).2 ⟨(old++cells++rest).toArray,e,(0,0),A1m r2,by simp,by simpa using g1,fun i hi=>?_⟩ (fun _ h=>absurd (f1.frz _ h) (Nat.lt_irrefl _)) (fun e=>by cases e)⟩⟩;obtain⟨z,z1,z2⟩:=A31 (fun b hb=>A1Q r2 (f1.frz b hb)) (fun _ h=>h) hk g2 i hi;exact⟨z,by simpa using z1,z2⟩)
       refine⟨_,w',F1,ρ',r4,?_⟩;rw[A1c];refine⟨p1,f2.trans p2,f3.trans p3,.full site (B0M+m) _ _ (A0e _ _ _) (Nat.le_refl _) ⟨_,_,_,rfl⟩ (fun _=>.inr (.inr ⟨fun _=>by omega,w.heap.size,newCap,(old++cells++rest).toArray,e,(0,0),p4,A1m r2,rfl,r1,?_,(fun n e=>by cases e),rM⟩))⟩;simp only[List.size_toArray,List.length_append,r3,q3,hold.1,hcsz];rw[<- Nat.add_mul,<- Nat.add_mul];exact Nat.mul_le_mul_right _ (by omega)
      cases hu with
      |imm _ _ hi=>
       cases hi with
       |imm _ _ _ b o cap' xs hF hcell hr ho hle hcap=>
        have:=hcap _ rfl;subst this;refine go (some ⟨b,o,none⟩) ((List.range c.size).map xs) rfl ⟨by simp,fun j y hj=>?_⟩ (fun e=>by cases e) (fun b' hb j y hj=>?_)
        ·have hlt:j<c.size:=by have:=(List.getElem?_eq_some_iff.1 hj).1;simpa using this
         simp[hlt]at hj;subst hj;have h1:RelI w F1 (c.getV j) (xs j):=(hr j hlt).mono (fun _ _=>rfl) f2.keep;refine⟨?_,ho j hlt⟩;cases c<;>first|exact h1|exact h1.toV
        ·cases hb;have hlt:j<c.size:=by have:=(List.getElem?_eq_some_iff.1 hj).1;simpa using this
         simp[hlt]at hj;subst hj;rw[A1u];exact hcell j hlt
       |imm0 _ _ a0 hc0 hcap=>
        exact go a0 [] rfl ⟨by rw[hc0];rfl,fun j y h=>by simp at h⟩ (fun _=>rfl) (fun b hb j y h=>by simp at h)
     split at hD
     ·cases hD;obtain⟨c0,c1,c2,c5,c3⟩:=hc;obtain⟨c3,c4⟩:=c3.app;have hcsz:c.size=len*sz:=by have:=c1;simp only[Cd.holds,A1F]at this;exact this
      exact grow _ _ c3 c4 hcsz (A2E c2) (by simpa[Cd.holds,ltn]using c5) (hfresh site (by simp)) c0
     ·cases hD;obtain⟨c0,c1,c2,c5,c3⟩:=hc;obtain⟨c3,c4⟩:=c3.app;have hlen0:len=0:=c0;have hcap0:B0M=0:=c1;have hcs0:c.size=0:=c2;subst hlen0 hcap0;have hbound:m*by_<=A0Y:=A2E c5;have hsite:H site=none:=hfresh site (by simp)
      by_cases hm0:0<m
      ·have:=grow none (.eqn 0 0:: .eqn 0 0:: .eqn c.size 0:: .b (A0X (m*by_) A0Y)::(cs++cs')) c3 c4 (by rw[hcs0];simp) (by rw[Nat.zero_add];exact hbound) hm0 hsite rfl;rw[Nat.zero_add]at this;exact this
      ·have hm0:m=0:=by omega
       subst hm0;obtain⟨a,cap,cells,q1,q2,q3,q4,q5,q6⟩:=key c3 c4;subst q1;have hlk:look site=none:=by
        cases e:look site with
        |none=>rfl
        |some o=>have:=hl _ _ e;rw[hsite]at this;cases this
       have hH1:A00 H (A1l look ids) site=none:=by rw[f6 site hlk];exact hsite
       obtain⟨s1,s2,s3⟩:=A2w (w:=w) (F:=F1) (ρ:=ρ) (H:=A00 H (A1l look ids)) happ;have hcl:cells=[]:=by simpa using q3
       subst hcl;obtain⟨p1,p2,p3⟩:=f1.ghost (k:={c:=c',sz,n:=0,cap:=none,nil:=none,mu:=true,bx:=false}) hH1 rfl (by rw[s1,hcs0,q2];simp);have fin:∀base:Option Addr,x=.slice base 0 0->Eff G F ρ H w ((Builtin.append_ #[sT,xT] ty #[x,.slice a 0 cap]).run P w)
         {v:=.full site 0,ws:=A1l look ids++[(site,.blk {c:=c',sz,n:=0,cap:=none,nil:=none,mu:=true,bx:=false})],al:=[site],cs:=.eqn 0 0:: .eqn 0 0:: .eqn c.size 0:: .b (A0X (0*by_) A0Y)::(cs++cs')}:=by
        intro base hxb;subst hxb;have hrun:=A0V (ty:=ty) (base:=base) (sLen:=0) (sCap:=0) hs hx hx' he (first (cap:=cap) q3 q4 q5 w rfl) (Nat.le_refl _);have hrun':(Builtin.append_ #[sT,xT] ty #[.slice base 0 0,.slice a 0 cap]).run P w=.ok (.slice base 0 0) w:=by
         rw[hrun];cases base<;>simp[storeCells]
        refine⟨_,w,F1,ρ,hrun',?_⟩;rw[A1c];refine⟨p1,f2.trans p2,f3.trans p3,.full site 0 _ _ (A0e _ _ _) (Nat.le_refl _) ⟨_,_,_,rfl⟩ (fun _=>?_)⟩;cases base with
        |none=>exact .inl ⟨rfl,by simp,(fun n e=>by cases e),rfl⟩
        |some b=>exact .inr (.inl ⟨rfl,by simp,(fun n e=>by cases e),b,rfl⟩)
       cases hu with
       |imm _ _ hi=>
        cases hi with
        |imm _ _ _ b o cap' xs hF hcell hr ho hle hcap=>
         have:=hcap _ rfl;subst this;exact fin _ rfl
        |imm0 _ _ a0 hc0 hcap=>exact fin _ rfl
    ·cases hD
   ·cases hD
  ·cases hD
 ·cases hD
end
section
variable {P:Program}{G:GL}{F F':Nat->Prop}{ρ:Nat->Option Nat}{H:Nat->Option HO}{w:World}{look:Nat->Option HO}
 {Sp:SpT} {D:Delta}
theorem Eff.frz (hm:MRel G F ρ H w)(hl:∀id o,look id=some o->H id=some o){ids:List Nat}{r:Result Value}{v:AV}{cs:List Cd}
  (h:∀F',(∀b,F b->F' b)->(∀id,id∈ids->(∃k,look id=some (.blk k))->∀b,ρ id=some b->F' b)->∃x,r=.ok x w/\RelI w F' v x):
  Eff G F ρ H w r {v:=v,ws:=A1l look ids,al:=[],cs:=cs}:=by
 obtain⟨F1,f1,f2,f3,f4,f5,f6⟩:=A68 (look:=look) ids F H hm (fun id k hk=>.inl (hl _ _ hk));obtain⟨x,h1,h2⟩:=h F1 f2.keep f4;exact⟨x,w,F1,ρ,h1,f1,f2,f3,h2.toV⟩
theorem B04 {c:Cont}{len:Nat}{cap:Option Nat}{b o cap':Nat}{xs:Nat->Value}(a n sz:Nat)(newcap:Nat)(hF:F b)
  (hc:∀i,i<c.size->w.cell? ⟨b,o+i,none⟩=some (xs i)) (hr:∀i,i<c.size->RelI w F (c.getV i) (xs i)) (ho:∀i,i<c.size->(xs i).oneCell'=true) (hn:n<=newcap):
  RelI w F (.imm ((c.drop a).take sz) n none) (.slice (some ⟨b,o+a,none⟩) n newcap):=by
 refine .imm _ n none b (o+a) newcap (fun i=>xs (a+i)) hF (fun i hi=>?_) (fun i hi=>?_) (fun i hi=>?_) hn (fun n e=>by cases e)<;>rw[A0S,A1r]at hi
 ·have:=hc (a+i) (by omega);rw[Nat.add_assoc];exact this
 ·rw[A2j _ _ _ (by omega),A2i];exact hr (a+i) (by omega)
 ·exact ho (a+i) (by omega)
theorem B6I (c:Cont)(n:Nat)(h:c.size<=n):c.take n=c:=by
 cases c<;>simp only[Cont.take,Cont.size]at* <;>rw[List.take_of_length_le h]
theorem drop_zero (c:Cont):c.drop 0=c:=by cases c<;>rfl
theorem A9z {id off len cap sz:Nat}{lo hi mx:Bool}{bs:List AV}{xs:List Value}(hb:RelVs w F ρ H bs xs)(hlen:bs.length=(if lo then 1 else 0)+((if hi then 1 else 0)+(if mx then 1 else 0)))(hlc:len<=cap)
  (hD:B0U id off len cap sz lo hi mx bs=some D) (hc:A0M Sp D.cs) (isS:Bool):
  ∃l h m,(Instr.sliceBounds isS len cap (if lo then xs[0]? else none) (if hi then(if lo then xs[1]? else xs[0]?)else none) (if mx then(if lo then(if hi then xs[2]? else xs[1]?)else(if hi then xs[1]? else xs[0]?))else none)).run P w=.ok (l,h,m) w/\
   l<=h/\h<=m/\D.v=.sl id (off+l*sz) (h-l) (m-l)/\(m=l->l=0)/\D.ws=[]/\D.al=[]:=by
 unfold B0U at hD;split at hD
 ·cases hD;refine⟨0,len,cap,by simp[Instr.sliceBounds],Nat.zero_le _,hlc,by simp,fun h=>rfl,rfl,rfl⟩
 ·split at hD
  ·rename_i k l hx1;have hcs:=A0v hD;rw[hcs]at hc;obtain⟨c1,c2,c3,_⟩:=hc;simp only[Cd.holds,leb,A0X,ltn,decide_eq_true_eq]at c1 c2 c3;cases hb with
   |nil=>simp at hlen
   |cons v _ y ys hv hs=>
    simp only[x1,List.getD_cons_zero]at hx1;subst hx1;have:=hv.ints;subst this;cases hD;refine⟨l.toNat,len,cap,?_,by omega,hlc,by rw[B4c,A1F],fun h=>by omega,rfl,rfl⟩;simp[Instr.sliceBounds,A0g k l len _ c1 (by omega)]
  ·cases hD
 ·split at hD
  ·rename_i k h hx1;have hcs:=A0v hD;rw[hcs]at hc;obtain⟨c1,c2,_⟩:=hc;simp only[Cd.holds,leb,A0X,ltn,decide_eq_true_eq]at c1 c2;cases hb with
   |nil=>simp at hlen
   |cons v _ y ys hv hs=>
    simp only[x1,List.getD_cons_zero]at hx1;subst hx1;have:=hv.ints;subst this;cases hD;refine⟨0,h.toNat,cap,?_,by omega,c2,by simp,fun h=>rfl,rfl,rfl⟩;simp[Instr.sliceBounds,A0g k h cap _ c1 (by omega)]
  ·cases hD
 ·split at hD
  ·rename_i k l k' h hx1 hx2;have hcs:=A0v hD;rw[hcs]at hc;obtain⟨c1,c2,c3,c4,_⟩:=hc;simp only[Cd.holds,leb,A0X,ltn,decide_eq_true_eq]at c1 c2 c3 c4;cases hb with
   |nil=>simp at hlen
   |cons v _ y ys hv hs=>
    cases hs with
    |nil=>simp at hlen
    |cons v2 _ y2 ys2 hv2 hs2=>
     simp only[x1,List.getD_cons_zero]at hx1;simp only[x2,List.getD_cons_succ,List.getD_cons_zero]at hx2;subst hx1;subst hx2;have:=hv.ints;subst this;have:=hv2.ints;subst this;cases hD;refine⟨l.toNat,h.toNat,cap,?_,by omega,c3,by rw[B4c,A1F],fun h=>by omega,rfl,rfl⟩;simp[Instr.sliceBounds,A0g k' h cap _ (by omega) (by omega),A0g k l h.toNat _ c1 (by omega)]
  ·cases hD
 ·split at hD
  ·rename_i k h k' m hx1 hx2;have hcs:=A0v hD;rw[hcs]at hc;obtain⟨c1,c2,c3,_⟩:=hc;simp only[Cd.holds,leb,A0X,ltn,decide_eq_true_eq]at c1 c2 c3;cases hb with
   |nil=>simp at hlen
   |cons v _ y ys hv hs=>
    cases hs with
    |nil=>simp at hlen
    |cons v2 _ y2 ys2 hv2 hs2=>
     simp only[x1,List.getD_cons_zero]at hx1;simp only[x2,List.getD_cons_succ,List.getD_cons_zero]at hx2;subst hx1;subst hx2;have:=hv.ints;subst this;have:=hv2.ints;subst this;cases hD;refine⟨0,h.toNat,m.toNat,?_,by omega,by omega,by simp,fun h=>rfl,rfl,rfl⟩;simp[Instr.sliceBounds,A0g k' m cap _ (by omega) (by omega),A0g k h m.toNat _ c1 (by omega)]
  ·cases hD
 ·cases hD
theorem B14 {b off l m sz:Nat}(h:m=l->l=0):(if m=l then(⟨b,off,none⟩:Addr)else(⟨b,off,none⟩:Addr).add (l*sz))=⟨b,off+l*sz,none⟩:=by
 split
 ·rename_i e;have:=h e;subst this;simp
 ·exact A1u _ _ _
theorem A1D (hm:MRel G F ρ H w)(hl:∀id o,look id=some o->H id=some o){sz:Nat}{lo hi mx:Bool}{v:AV}{bs:List AV}{x:Value}{xs:List Value}{t e:TypeId}{i:TypeInfo}
  (ht:P.underlying t=some (.slice e)) (hi':P.info? e=some i) (hsz:i.size=sz) (hx:RelV w F ρ H v x) (hb:RelVs w F ρ H bs xs)
  (hlen:bs.length=(if lo then 1 else 0)+((if hi then 1 else 0)+(if mx then 1 else 0)))
  {d:Dir} (hD:A2B look d sz lo hi mx v bs=some D) (hc:A0M Sp D.cs):
  Eff G F ρ H w ((Instr.sliceAt t x (if lo then xs[0]? else none) (if hi then(if lo then xs[1]? else xs[0]?)else none) (if mx then(if lo then(if hi then xs[2]? else xs[1]?)else(if hi then xs[1]? else xs[0]?))else none)).run P w) D:=by
 have hrun:∀(a:Option Addr) (len cap:Nat) (l h m:Option Value),(Instr.sliceAt t (.slice a len cap) l h m).run P w=
   ((Instr.sliceBounds true len cap l h m).run P w).andThen fun q w'=>.ok (.slice (if q.2.2=q.1 then a else a.map (·.add (q.1*sz))) (q.2.1-q.1) (q.2.2-q.1)) w':=fun a len cap l h m=>by
  simp only[Instr.sliceAt,Instr.slice,Sem.run_bind,A0b ht,Result.andThen_ok];cases hq:(Instr.sliceBounds true len cap l h m).run P w with
  |ok q w'=>simp[A0l hi',hsz]
  |halt q w'=>rfl
 unfold A2B at hD;cases hwin:C6B v with
 |some p=>
  obtain⟨id,off,len,cap⟩:=p;rw[hwin]at hD;simp only at hD;have hv:v=.sl id off len cap:=by
   unfold C6B at hwin;split at hwin
   ·cases hwin;rfl
   ·cases hwin
  subst hv;cases hx with
  |imm _ _ hi=>cases hi
  |sl _ _ _ _ b k hb0 hh hbx hlc=>
   obtain⟨l,h,m,e1,e2,e3,e4,e5,e6,e7⟩:=A9z (P:=P) hb hlen hlc hD hc true;rw[hrun,e1];simp only[Result.andThen_ok];refine Eff.pure hm rfl e6 ?_;rw[e4];have:=B14 (b:=b) (off:=off) (sz:=sz) e5;have hopt:(if m=l then(some ⟨b,off,none⟩:Option Addr)else(some (⟨b,off,none⟩:Addr)).map (·.add (l*sz)))=some ⟨b,off+l*sz,none⟩:=by
    rw[<- this];split<;>rfl
   rw[hopt];exact .sl id _ _ _ b k hb0 hh hbx (by omega)
 |none=>
 rw[hwin]at hD;simp only at hD;split at hD
 ·rename_i c len capA ids cs hfrz;have base:A0M Sp cs->∀F',(∀b,F b->F' b)->(∀id,id∈ids->(∃k,look id=some (.blk k))->∀b,ρ id=some b->F' b)->RelI w F' (.imm c len capA) x:=by
   intro hcs F' hF hids;exact(A2l hm hl hF 60).1 _ _ _ _ hfrz hcs (fun id hid b hb=>hids id hid ((A3I 60).1 _ _ _ _ hfrz id hid) b hb) x hx
  split at hD
  ·
   cases bs with
   |nil=>simp at hlen
   |cons b1 bs=>
    cases bs with
    |nil=>simp at hlen
    |cons b2 bs=>
     cases hb with
     |cons _ _ y1 _ hb1 hbs=>
      cases hbs with
      |cons _ _ y2 ys hb2 hbs=>
       split at hD
       ·rename_i k h k' m hx1 hx2;have hx1:b1=.int k h:=by simpa[x1]using hx1
        have hx2:b2=.int k' m:=by simpa[x2]using hx2
        subst hx1 hx2;have:=hb1.ints;subst this;have:=hb2.ints;subst this;split at hD
        ·cases hD;obtain⟨h1,h2⟩:=hc.app;have e1:h=0:=by simpa[Cd.holds]using h2.1
         have e2:m=0:=by simpa[Cd.holds]using h2.2.1
         subst e1 e2;refine Eff.frz hm hl (fun F' hF hids=>?_);have hb:=base h1 F' hF hids;have run0:∀(a:Option Addr) (cap:Nat),(Instr.sliceAt t (.slice a len cap) none (some (.int k 0)) (some (.int k' 0))).run P w=.ok (.slice a 0 0) w:=fun a cap=>by
          rw[hrun];simp[Instr.sliceBounds,A0g k' 0 cap _ (by omega) (by omega),A0g k 0 0 _ (by omega) (by omega)]
         cases hb with
         |imm _ _ _ b o cap' xs0 hF0 hcell hr ho hle hcap=>exact⟨_,by simpa using run0 _ _,.imm0 _ _ _ (by rw[A0S];simp) (fun n e=>by cases e;rfl)⟩
         |imm0 _ _ a hc0 hcap=>exact⟨_,by simpa using run0 _ _,.imm0 _ _ _ (by rw[A0S];simp) (fun n e=>by cases e;rfl)⟩
        ·split at hD
         ·cases hD;obtain⟨h1,h2⟩:=hc.app;obtain⟨g0,g1,g2,g3,_⟩:=h2;have g0:0<=h:=by simpa[Cd.holds,leb]using g0
          have g1:h<=m:=by simpa[Cd.holds,leb]using g1
          have g2:m.toNat<=len:=A2E g2;have g3:c.size=len*sz:=by have:=g3;simp only[Cd.holds,A1F]at this;exact this
          refine Eff.frz hm hl (fun F' hF hids=>?_);have hb:=base h1 F' hF hids;have run0:∀(a:Option Addr) (cap:Nat),len<=cap->(Instr.sliceAt t (.slice a len cap) none (some (.int k h)) (some (.int k' m))).run P w=.ok (.slice (if m.toNat=0 then a else a.map (·.add 0)) h.toNat m.toNat) w:=fun a cap hle=>by
           rw[hrun];simp[Instr.sliceBounds,A0g k' m cap _ (by omega) (by omega),A0g k h m.toNat _ g0 (by omega)]
          cases hb with
          |imm _ _ _ b o cap' xs0 hF0 hcell hr ho hle hcap=>
           refine⟨_,run0 _ _ hle,?_⟩;have:(if m.toNat=0 then(some ⟨b,o,none⟩:Option Addr)else Option.map (fun x:Addr=>x.add 0) (some ⟨b,o,none⟩))=some ⟨b,o,none⟩:=by
            split<;>simp[Addr.add]
           rw[this];have hz:(c.take (mz h.toNat sz)).size<=c.size:=by rw[A0S];exact Nat.min_le_right _ _
           have hz2:(c.take (mz h.toNat sz)).size<=mz h.toNat sz:=by rw[A0S];exact Nat.min_le_left _ _
           exact .imm _ _ _ b o m.toNat xs0 hF0 (fun i hi=>hcell i (by omega)) (fun i hi=>by rw[A2j _ _ _ (by omega)];exact hr i (by omega)) (fun i hi=>ho i (by omega)) (by omega) (fun n e=>by cases e;rfl)
          |imm0 _ _ a hc0 hcap=>
           have e1:m.toNat=0:=by omega
           have e2:h.toNat=0:=by omega
           refine⟨_,run0 _ _ (Nat.le_refl _),?_⟩;rw[e1,e2];exact .imm0 _ _ _ (by rw[A0S];omega) (fun n e=>by cases e;rfl)
         ·cases hD;obtain⟨h1,h2⟩:=hc.app;obtain⟨g0,g1,g2,g3,g4,_⟩:=h2;have g0:0<=h:=by simpa[Cd.holds,leb]using g0
          have g1:h.toNat=len:=g1;have g2:0<=m:=by simpa[Cd.holds,leb]using g2
          have g3:m.toNat=len:=g3;refine Eff.frz hm hl (fun F' hF hids=>?_);have hb:=base h1 F' hF hids;have run0:∀(a:Option Addr) (cap:Nat),len<=cap->(Instr.sliceAt t (.slice a len cap) none (some (.int k h)) (some (.int k' m))).run P w=.ok (.slice (if len=0 then a else a.map (·.add 0)) len len) w:=fun a cap hle=>by
           rw[hrun];simp[Instr.sliceBounds,A0g k' m cap _ g2 (by omega),A0g k h len _ g0 (by omega),g1,g3]
          cases hb with
          |imm _ _ _ b o cap' xs0 hF0 hcell hr ho hle hcap=>
           refine⟨_,by simpa using run0 _ _ hle,?_⟩;have:(if len=0 then(some ⟨b,o,none⟩:Option Addr)else Option.map (fun x:Addr=>x.add 0) (some ⟨b,o,none⟩))=some ⟨b,o,none⟩:=by
            split<;>simp[Addr.add]
           rw[this];exact .imm c len (some len) b o len xs0 hF0 hcell hr ho (Nat.le_refl _) (fun n e=>by cases e;rfl)
          |imm0 _ _ a hc0 hcap=>exact⟨_,by simpa using run0 _ _ (Nat.le_refl _),.imm0 _ _ _ hc0 (fun n e=>by cases e;rfl)⟩
       ·cases hD
  ·
   cases bs with
   |nil=>simp at hlen
   |cons b1 bs=>
    cases hb with
    |cons _ _ y1 _ hb1 hbs=>
     split at hD
     ·rename_i k l hx1;have hx1:b1=.int k l:=by simpa[x1]using hx1
      subst hx1;have:=hb1.ints;subst this;cases hD;obtain⟨h1,h2⟩:=hc.app;obtain⟨g0,g1,g2,_⟩:=h2;have g0:0<=l:=by simpa[Cd.holds,leb]using g0
      have g1:l.toNat<=len:=A2E g1;have g2:c.size=len*sz:=by have:=g2;simp only[Cd.holds,A1F]at this;exact this
      refine Eff.frz hm hl (fun F' hF hids=>?_);have hb:=base h1 F' hF hids;have run0:∀(a:Option Addr) (cap:Nat),len<=cap->(Instr.sliceAt t (.slice a len cap) (some (.int k l)) none none).run P w=.ok (.slice (if cap=l.toNat then a else a.map (·.add (l.toNat*sz))) (len-l.toNat) (cap-l.toNat)) w:=fun a cap hle=>by
       rw[hrun];simp[Instr.sliceBounds,A0g k l len _ g0 (by omega)]
      have hsize:(c.drop (mz l.toNat sz)).size=(len-l.toNat)*sz:=by rw[A1r,A1F,g2,Nat.sub_mul]
      cases hb with
      |imm _ _ _ b o cap' xs0 hF0 hcell hr ho hle hcap=>
       refine⟨_,by simpa using run0 _ _ hle,?_⟩
       by_cases hcl:cap'=l.toNat
       ·have e1:len-l.toNat=0:=by omega
        have e2:cap'-l.toNat=0:=by omega
        rw[if_pos hcl,e1,e2];exact .imm0 _ _ _ (by rw[hsize,e1];simp) (fun n e=>by cases e)
       ·rw[if_neg hcl];have:=B04 (w:=w) (F:=F') (c:=c) (len:=len) (cap:=capA) (cap':=cap') (mz l.toNat sz) (len-l.toNat) ((len-l.toNat)*sz) (cap'-l.toNat) hF0 hcell hr ho (by omega);rw[B6I _ _ (Nat.le_of_eq hsize)]at this;simp only[Option.map_some,A1u];rw[<- A1F];exact this
      |imm0 _ _ a hc0 hcap=>
       have e0:l.toNat=0:=by omega
       refine⟨_,by simpa using run0 _ _ (Nat.le_refl _),?_⟩;rw[e0];exact .imm0 _ _ _ (by rw[A1r];omega) (fun n e=>by cases e)
     ·cases hD
  ·
   cases bs with
   |nil=>simp at hlen
   |cons b1 bs=>
    cases hb with
    |cons _ _ y1 _ hb1 hbs=>
     split at hD
     ·rename_i k h hx1;have hx1:b1=.int k h:=by simpa[x1]using hx1
      subst hx1;have:=hb1.ints;subst this;cases hD;obtain⟨h1,h2⟩:=hc.app;obtain⟨g0,g1,g2,_⟩:=h2;have g0:0<=h:=by simpa[Cd.holds,leb]using g0
      have g1:h.toNat<=len:=A2E g1;have g2:c.size=len*sz:=by have:=g2;simp only[Cd.holds,A1F]at this;exact this
      refine Eff.frz hm hl (fun F' hF hids=>?_);have hb:=base h1 F' hF hids;have run0:∀(a:Option Addr) (cap:Nat),len<=cap->(Instr.sliceAt t (.slice a len cap) none (some (.int k h)) none).run P w=.ok (.slice (if cap=0 then a else a.map (·.add 0)) h.toNat cap) w:=fun a cap hle=>by
       rw[hrun];simp[Instr.sliceBounds,A0g k h cap _ g0 (by omega)]
      cases hb with
      |imm _ _ _ b o cap' xs0 hF0 hcell hr ho hle hcap=>
       refine⟨_,by simpa using run0 _ _ hle,?_⟩;have:(if cap'=0 then(some ⟨b,o,none⟩:Option Addr)else Option.map (fun x:Addr=>x.add 0) (some ⟨b,o,none⟩))=some ⟨b,o,none⟩:=by
        split<;>simp[Addr.add]
       rw[this];have:=B04 (w:=w) (F:=F') (c:=c) (len:=len) (cap:=capA) (cap':=cap') 0 h.toNat (mz h.toNat sz) cap' hF0 hcell hr ho (by omega);rw[drop_zero]at this;exact this
      |imm0 _ _ a hc0 hcap=>
       have e0:h.toNat=0:=by omega
       refine⟨_,by simpa using run0 _ _ (Nat.le_refl _),?_⟩;rw[e0];exact .imm0 _ _ _ (by rw[A0S];omega) (fun n e=>by cases e)
     ·cases hD
  ·
   cases bs with
   |nil=>simp at hlen
   |cons b1 bs=>
    cases bs with
    |nil=>simp at hlen
    |cons b2 bs=>
     cases hb with
     |cons _ _ y1 _ hb1 hbs=>
      cases hbs with
      |cons _ _ y2 ys hb2 hbs=>
       split at hD
       ·rename_i k l k' h hx1 hx2;have hx1:b1=.int k l:=by simpa[x1]using hx1
        have hx2:b2=.int k' h:=by simpa[x2]using hx2
        subst hx1 hx2;have:=hb1.ints;subst this;have:=hb2.ints;subst this;cases hD;obtain⟨h1,h2⟩:=hc.app;obtain⟨g0,g1,g2,g3,_⟩:=h2;have g0:0<=l:=by simpa[Cd.holds,leb]using g0
        have g1:l<=h:=by simpa[Cd.holds,leb]using g1
        have g2:h.toNat<=len:=A2E g2;have g3:c.size=len*sz:=by have:=g3;simp only[Cd.holds,A1F]at this;exact this
        refine Eff.frz hm hl (fun F' hF hids=>?_);have hb:=base h1 F' hF hids;have run0:∀(a:Option Addr) (cap:Nat),len<=cap->(Instr.sliceAt t (.slice a len cap) (some (.int k l)) (some (.int k' h)) none).run P w=.ok (.slice (if cap=l.toNat then a else a.map (·.add (l.toNat*sz))) (h.toNat-l.toNat) (cap-l.toNat)) w:=fun a cap hle=>by
         rw[hrun];simp[Instr.sliceBounds,A0g k' h cap _ (by omega) (by omega),A0g k l h.toNat _ g0 (by omega)]
        cases hb with
        |imm _ _ _ b o cap' xs0 hF0 hcell hr ho hle hcap=>
         refine⟨_,by simpa using run0 _ _ hle,?_⟩
         by_cases hcl:cap'=l.toNat
         ·have e1:h.toNat-l.toNat=0:=by omega
          have e2:cap'-l.toNat=0:=by omega
          rw[if_pos hcl,e1,e2];exact .imm0 _ _ _ (by rw[A0S,A1F];simp) (fun n e=>by cases e)
         ·rw[if_neg hcl];have:=B04 (w:=w) (F:=F') (c:=c) (len:=len) (cap:=capA) (cap':=cap') (mz l.toNat sz) (h.toNat-l.toNat) (mz (h.toNat-l.toNat) sz) (cap'-l.toNat) hF0 hcell hr ho (by omega);simp only[Option.map_some,A1u];rw[<- A1F];exact this
        |imm0 _ _ a hc0 hcap=>
         have e0:h.toNat=0:=by omega
         have e1:l.toNat=0:=by omega
         refine⟨_,by simpa using run0 _ _ (Nat.le_refl _),?_⟩;rw[e0,e1];exact .imm0 _ _ _ (by rw[A0S,A1r];omega) (fun n e=>by cases e)
       ·cases hD
  ·cases hD
 ·
  rename_i ids cs hfrz;have base:A0M Sp cs->∀F',(∀b,F b->F' b)->(∀id,id∈ids->(∃k,look id=some (.blk k))->∀b,ρ id=some b->F' b)->RelI w F' .nils x:=by
   intro hcs F' hF hids;exact(A2l hm hl hF 60).1 _ _ _ _ hfrz hcs (fun id hid b hb=>hids id hid ((A3I 60).1 _ _ _ _ hfrz id hid) b hb) x hx
  split at hD
  ·cases bs with
   |nil=>simp at hlen
   |cons b1 bs=>
    cases bs with
    |nil=>simp at hlen
    |cons b2 bs=>
     cases hb with
     |cons _ _ y1 _ hb1 hbs=>
      cases hbs with
      |cons _ _ y2 ys hb2 hbs=>
       split at hD
       ·rename_i k h k' m hx1 hx2;have hx1:b1=.int k h:=by simpa[x1]using hx1
        have hx2:b2=.int k' m:=by simpa[x2]using hx2
        subst hx1 hx2;have:=hb1.ints;subst this;have:=hb2.ints;subst this;cases hD;obtain⟨h1,h2⟩:=hc.app;obtain⟨g0,g1,g2,g3,_⟩:=h2;have g0:0<=h:=by simpa[Cd.holds,leb]using g0
        have g1:h.toNat=0:=g1;have g2:0<=m:=by simpa[Cd.holds,leb]using g2
        have g3:m.toNat=0:=g3;refine Eff.frz hm hl (fun F' hF hids=>?_);have hb:=base h1 F' hF hids;cases hb;have run0:(Instr.sliceAt t (.slice none 0 0) none (some (.int k h)) (some (.int k' m))).run P w=.ok (.slice none 0 0) w:=by
         rw[hrun];simp[Instr.sliceBounds,A0g k' m 0 _ g2 (by omega),A0g k h 0 _ g0 (by omega),g1,g3]
        exact⟨_,by simpa using run0,.nils⟩
       ·cases hD
  ·cases hD
 ·cases hD
theorem A6P (hm:MRel G F ρ H w)(hl:∀id o,look id=some o->H id=some o){a v:AV}{p x:Value}(hp:RelV w F ρ H a p)(hx:RelV w F ρ H v x){sz:Nat}{t:TypeId}{i:TypeInfo}
  (hi:P.info? t=some i) (hsz:i.size=sz) (hD:A48 look sz a v=some D) (hc:A0M Sp D.cs):
  Eff G F ρ H w (((Instr.storeAt t p x).run P w).andThen fun _ w'=>.ok undef w') D:=by
 have hrun:∀a,(Instr.storeAt t (.pointer (some a)) x).run P w=(storeVar t a x).run P w:=fun a=>by
  simp[Instr.storeAt,Instr.sureAddr]
 unfold A48 at hD;split at hD
 ·rename_i D0 h0;cases hD;exact A71 hm hl hp hx hi hsz h0 hc
 ·rename_i hno;clear hno;unfold A7O at hD;split at hD
  ·rename_i id n off;split at hD
   ·rename_i k hk;have hH:=hl _ _ hk;split at hD
    ·rename_i v' ids cs' hfrz;rw[cond_eq_ite]at hD;split at hD
     ·rename_i hcond;simp only[Bool.and_eq_true,Bool.not_eq_true']at hcond;obtain⟨hmu,hmem,hall,hlen⟩:=hcond;have hlen:v'.cs.length=sz:=Nat.eq_of_beq_eq_true hlen;have hmem:id∉ids:=by
       intro h;have:A1K id ids=true:=A2m h;rw[this]at hmem;cases hmem
      split at hD
      ·rename_i c hset;cases hD;obtain⟨c0,c1,c2⟩:=hc;obtain⟨F1,f1,f2,f3,f4,f5,f6⟩:=A68 (look:=look) ids F H hm (fun id k hk=>.inl (hl _ _ hk));have hv':=(A2l hm hl f2.keep 60).1 _ _ _ _ hfrz c2 (fun id hid b hb=>f4 id hid ((A3I 60).1 _ _ _ _ hfrz id hid) b hb) x hx;have hH1:A00 H (A1l look ids) id=some (.blk k):=by
        rcases f5 id k hk with h|h
        ·rw[h,hH]
        ·exact absurd h.1 hmem
       cases hp with
       |imm _ _ hi=>cases hi
       |ep _ _ _ k' _ hh hle hpp hxx=>
        rw[hH]at hh;cases hh;obtain⟨b,hb,rfl⟩:=hxx c0;have hle:off+sz<=k.c.size:=by simpa[Cd.holds,A0X]using c1
        obtain⟨w',p1,p2,p3,p4⟩:=A3G (P:=P) f1 hH1 hb hmu (hv'.toV (ρ:=ρ) (h:=A00 H (A1l look ids))) hi hall (by omega) hset (by omega);rw[hrun,p1];refine⟨undef,w',F1,ρ,rfl,?_⟩;rw[A1c];exact⟨p2,f2.trans p3,f3.trans p4,.imm _ _ (.undef _)⟩
      ·cases hD
     ·cases hD
    ·cases hD
   ·cases hD
  ·cases hD
theorem B4h (p:Addr)(x y:Nat):(p.add x).add y=p.add (x+y):=by
 obtain⟨b,o,f⟩:=p;unfold Addr.add
 by_cases hx:x=0
 ·subst hx;simp
 ·by_cases hy:y=0
  ·subst hy;simp
  ·simp[hx,hy,Nat.add_assoc]
theorem A3g (hm:MRel G F ρ H w)(hl:∀id o,look id=some o->H id=some o){sz:Nat}{lo hi mx:Bool}{id n:Nat}{bs:List AV}{x:Value}{xs:List Value}{t e:TypeId}{i:TypeInfo}
  (ht:P.underlying t=some (.slice e)) (hi':P.info? e=some i) (hsz:i.size=sz) (hx:RelV w F ρ H (.full id n) x) (hb:RelVs w F ρ H bs xs)
  (hlen:bs.length=(if lo then 1 else 0)+((if hi then 1 else 0)+(if mx then 1 else 0)))
  (hD:A5A look sz id n lo hi mx bs=some D) (hc:A0M Sp D.cs):
  Eff G F ρ H w ((Instr.sliceAt t x (if lo then xs[0]? else none) (if hi then(if lo then xs[1]? else xs[0]?)else none) (if mx then(if lo then(if hi then xs[2]? else xs[1]?)else(if hi then xs[1]? else xs[0]?))else none)).run P w) D:=by
 have hrun:∀(a:Option Addr) (len cap:Nat) (l h m:Option Value),(Instr.sliceAt t (.slice a len cap) l h m).run P w=
   ((Instr.sliceBounds true len cap l h m).run P w).andThen fun q w'=>.ok (.slice (if q.2.2=q.1 then a else a.map (·.add (q.1*sz))) (q.2.1-q.1) (q.2.2-q.1)) w':=fun a len cap l h m=>by
  simp only[Instr.sliceAt,Instr.slice,Sem.run_bind,A0b ht,Result.andThen_ok];cases hq:(Instr.sliceBounds true len cap l h m).run P w with
  |ok q w'=>simp[A0l hi',hsz]
  |halt q w'=>rfl
 have hopt:∀(a:Option Addr),a.map (·.add (0*sz))=a:=fun a=>by cases a<;>simp[Addr.add]
 unfold A5A at hD;split at hD
 ·rename_i bk hbk;have hH:=hl _ _ hbk;rw[cond_eq_ite]at hD;split at hD
  ·split at hD
   ·split at hD
    ·rename_i k l hx1;rw[cond_eq_ite]at hD;split at hD
     ·cases bs with
      |nil=>simp at hlen
      |cons b1 bs=>
       cases hb with
       |cons _ _ y1 _ hb1 hbs=>
        have hx1:b1=.int k l:=by simpa[x1]using hx1
        subst hx1;have:=hb1.ints;subst this;have hcs:=A0v hD;rw[hcs]at hc;obtain⟨c0,c1,c2,_⟩:=hc;have c0:bk.n=n:=c0;have c1:0<=l:=by simpa[Cd.holds,leb]using c1
        have c2:l.toNat<n:=by simpa[Cd.holds,ltn]using c2
        obtain⟨a,cap,hf,rfl,hle⟩:=hx.fullf hH c0;have hpt:∃p,a=some p:=by
         rcases hf with⟨e,_⟩|⟨e,_⟩|⟨_,b,cap',cs,ty,fz,p1,p2,e,p3,p4,p5⟩
         ·omega
         ·omega
         ·cases e;exact⟨_,rfl⟩
        obtain⟨p,rfl⟩:=hpt;have run0:(Instr.sliceAt t (.slice (some p) n cap) (some (.int k l)) none none).run P w=.ok (.slice ((some p).map fun p=>p.add (l.toNat*sz)) (n-l.toNat) (cap-l.toNat)) w:=by
         rw[hrun];simp[Instr.sliceBounds,A0g k l n _ c1 (by omega)];intro h;omega
        refine Eff.val hm hD (x:=.slice ((some p).map fun p=>p.add (l.toNat*sz)) (n-l.toNat) (cap-l.toNat)) ?_ (.vw id n sz l.toNat (n-l.toNat) bk _ hH (by omega) ⟨_,_,_,rfl⟩ (fun _=>⟨by omega,_,_,hf,rfl⟩));simpa using run0
     ·split at hD
      ·rename_i cc hcap;cases bs with
       |nil=>simp at hlen
       |cons b1 bs=>
        cases hb with
        |cons _ _ y1 _ hb1 hbs=>
         have hx1:b1=.int k l:=by simpa[x1]using hx1
         subst hx1;have:=hb1.ints;subst this;have hcs:=A0v hD;rw[hcs]at hc;obtain⟨c0,c1,c2,c3,_⟩:=hc;have c0:bk.n=n:=c0;have c1:0<=l:=by simpa[Cd.holds,leb]using c1
         have c2:l.toNat=n:=c2;have c3:cc=n:=c3;obtain⟨a,cap,hf,rfl,hle⟩:=hx.fullf hH c0;have hce:cap=n:=by
          rcases hf with⟨e,_,_,e2⟩|⟨e,_,_,a',e2⟩|⟨_,b,cap',cs,ty,fz,p1,p2,e2,p3,p4,p5⟩
          ·cases e2;exact e.symm
          ·cases e2;exact e.symm
          ·cases e2;rw[<- c3];exact p5.1 _ hcap
         have run0:(Instr.sliceAt t (.slice a n cap) (some (.int k l)) none none).run P w=.ok (.slice a 0 0) w:=by
          rw[hrun];simp[Instr.sliceBounds,A0g k l n _ c1 (by omega),c2,hce]
         refine Eff.val hm hD (x:=.slice a 0 0) ?_ (.imm _ _ (.imm0 _ _ _ (by cases bk.c<;>simp[Cont.take,Cont.size]) (fun n e=>by cases e;rfl)));simpa using run0
      ·cases hD
    ·cases hD
   ·split at hD
    ·rename_i k h hx1;cases bs with
     |nil=>simp at hlen
     |cons b1 bs=>
      cases hb with
      |cons _ _ y1 _ hb1 hbs=>
       have hx1:b1=.int k h:=by simpa[x1]using hx1
       subst hx1;have:=hb1.ints;subst this;have hcs:=A0v hD;rw[hcs]at hc;obtain⟨c0,c1,c2,_⟩:=hc;have c0:bk.n=n:=c0;have c1:0<=h:=by simpa[Cd.holds,leb]using c1
       have c2:h.toNat<=n:=by simpa[Cd.holds,A0X]using c2
       obtain⟨a,cap,hf,rfl,hle⟩:=hx.fullf hH c0;have run0:(Instr.sliceAt t (.slice a n cap) none (some (.int k h)) none).run P w=.ok (.slice (a.map fun p=>p.add (0*sz)) h.toNat (cap-0)) w:=by
        rw[hrun];simp[Instr.sliceBounds,A0g k h cap _ c1 (by omega)];intro _;have:=hopt a;simp only[Nat.zero_mul]at this;exact this.symm
       have:=Eff.val hm hD run0 (.vw id n sz 0 h.toNat bk _ hH (by omega) ⟨_,_,_,rfl⟩ (fun _=>⟨by omega,_,_,hf,rfl⟩));simpa using this
    ·cases hD
   ·cases hD
  ·cases hD
 ·cases hD
theorem A8a (hm:MRel G F ρ H w)(hl:∀id o,look id=some o->H id=some o){sz:Nat}{lo hi mx:Bool}{id n:Nat}{bs:List AV}{x:Value}{xs:List Value}{t e:TypeId}{i:TypeInfo}
  (ht:P.underlying t=some (.slice e)) (hi':P.info? e=some i) (hsz:i.size=sz) (hx:RelV w F ρ H (.full id n) x) (hb:RelVs w F ρ H bs xs)
  (hlen:bs.length=(if lo then 1 else 0)+((if hi then 1 else 0)+(if mx then 1 else 0)))
  (hD:A5B look sz id n lo hi mx bs=some D) (hc:A0M Sp D.cs):
  Eff G F ρ H w ((Instr.sliceAt t x (if lo then xs[0]? else none) (if hi then(if lo then xs[1]? else xs[0]?)else none) (if mx then(if lo then(if hi then xs[2]? else xs[1]?)else(if hi then xs[1]? else xs[0]?))else none)).run P w) D:=by
 have hrun:∀(a:Option Addr) (len cap:Nat) (l h m:Option Value),(Instr.sliceAt t (.slice a len cap) l h m).run P w=
   ((Instr.sliceBounds true len cap l h m).run P w).andThen fun q w'=>.ok (.slice (if q.2.2=q.1 then a else a.map (·.add (q.1*sz))) (q.2.1-q.1) (q.2.2-q.1)) w':=fun a len cap l h m=>by
  simp only[Instr.sliceAt,Instr.slice,Sem.run_bind,A0b ht,Result.andThen_ok];cases hq:(Instr.sliceBounds true len cap l h m).run P w with
  |ok q w'=>simp[A0l hi',hsz]
  |halt q w'=>rfl
 unfold A5B at hD;split at hD
 ·rename_i bk hbk;have hH:=hl _ _ hbk;rw[cond_eq_ite]at hD;split at hD
  ·split at hD
   ·split at hD
    ·rename_i k l hx1;cases bs with
     |nil=>simp at hlen
     |cons b1 bs=>
      cases hb with
      |cons _ _ y1 _ hb1 hbs=>
       have hx1:b1=.int k l:=by simpa[x1]using hx1
       subst hx1;have:=hb1.ints;subst this;have hcs:=A0v hD;rw[hcs]at hc;obtain⟨c0,c1,c2,_⟩:=hc;have c0:bk.n=n:=c0;have c1:0<=l:=by simpa[Cd.holds,leb]using c1
       have c2:l.toNat<n:=by simpa[Cd.holds,ltn]using c2
       obtain⟨a,cap,hf,rfl,hle⟩:=hx.fullf hH c0;have hpt:∃p,a=some p:=by
        rcases hf with⟨e,_⟩|⟨e,_⟩|⟨_,b,cap',cs,ty,fz,p1,p2,e,p3,p4,p5⟩
        ·omega
        ·omega
        ·cases e;exact⟨_,rfl⟩
       obtain⟨p,rfl⟩:=hpt;have run0:(Instr.sliceAt t (.slice (some p) n cap) (some (.int k l)) none none).run P w=.ok (.slice ((some p).map fun p=>p.add (l.toNat*sz)) (n-l.toNat) (cap-l.toNat)) w:=by
        rw[hrun];simp[Instr.sliceBounds,A0g k l n _ c1 (by omega)];intro h;omega
       refine Eff.val hm hD (x:=.slice ((some p).map fun p=>p.add (l.toNat*sz)) (n-l.toNat) (cap-l.toNat)) ?_ (.vw id n sz l.toNat (n-l.toNat) bk _ hH (by omega) ⟨_,_,_,rfl⟩ (fun _=>⟨by omega,_,_,hf,rfl⟩));simpa using run0
    ·cases hD
   ·cases hD
  ·cases hD
 ·cases hD
theorem A8b (hm:MRel G F ρ H w)(hl:∀id o,look id=some o->H id=some o){sz:Nat}{lo hi mx:Bool}{id n s off len:Nat}{bs:List AV}{x:Value}{xs:List Value}{t e:TypeId}{i:TypeInfo}
  (ht:P.underlying t=some (.slice e)) (hi':P.info? e=some i) (hsz:i.size=sz) (hx:RelV w F ρ H (.vw id n s off len) x) (hb:RelVs w F ρ H bs xs)
  (hlen:bs.length=(if lo then 1 else 0)+((if hi then 1 else 0)+(if mx then 1 else 0)))
  (hD:A5C look sz id n s off len lo hi mx bs=some D) (hc:A0M Sp D.cs):
  Eff G F ρ H w ((Instr.sliceAt t x (if lo then xs[0]? else none) (if hi then(if lo then xs[1]? else xs[0]?)else none) (if mx then(if lo then(if hi then xs[2]? else xs[1]?)else(if hi then xs[1]? else xs[0]?))else none)).run P w) D:=by
 have hrun:∀(a:Option Addr) (len cap:Nat) (l h m:Option Value),(Instr.sliceAt t (.slice a len cap) l h m).run P w=
   ((Instr.sliceBounds true len cap l h m).run P w).andThen fun q w'=>.ok (.slice (if q.2.2=q.1 then a else a.map (·.add (q.1*sz))) (q.2.1-q.1) (q.2.2-q.1)) w':=fun a len cap l h m=>by
  simp only[Instr.sliceAt,Instr.slice,Sem.run_bind,A0b ht,Result.andThen_ok];cases hq:(Instr.sliceBounds true len cap l h m).run P w with
  |ok q w'=>simp[A0l hi',hsz]
  |halt q w'=>rfl
 unfold A5C at hD;split at hD
 ·rename_i bk hbk;have hH:=hl _ _ hbk;split at hD
  ·split at hD
   ·rename_i k h hx1;cases bs with
    |nil=>simp at hlen
    |cons b1 bs=>
     cases hb with
     |cons _ _ y1 _ hb1 hbs=>
      have hx1:b1=.int k h:=by simpa[x1]using hx1
      subst hx1;have:=hb1.ints;subst this;have hcs:=A0v hD;rw[hcs]at hc;obtain⟨c0,c1,c2,_⟩:=hc;have c0:bk.n=n:=c0;have c1:0<=h:=by simpa[Cd.holds,leb]using c1
      have c2:h.toNat<=len:=by simpa[Cd.holds,A0X]using c2
      obtain⟨hle,a,c,hf,rfl⟩:=hx.vwf hH c0;have hnc:n<=c:=by
       rcases hf with⟨e,_⟩|⟨e,_⟩|⟨_,b,cap,cs,ty,fz,p1,p2,e,p3,p4,p5⟩
       ·omega
       ·omega
       ·cases e;exact p3
      have run0:(Instr.sliceAt t (.slice (a.map fun p=>p.add (off*s)) len (c-off)) none (some (.int k h)) none).run P w=.ok (.slice (a.map fun p=>p.add (off*s)) h.toNat (c-off)) w:=by
       rw[hrun];simp[Instr.sliceBounds,A0g k h (c-off) _ c1 (by omega)];intro _;cases a<;>simp[Addr.add]
      have:=Eff.val hm hD run0 (.vw id n s off h.toNat bk _ hH (by omega) ⟨_,_,_,rfl⟩ (fun _=>⟨by omega,_,_,hf,rfl⟩));simpa using this
   ·cases hD
  ·split at hD
   ·rename_i k l hx1;rw[cond_eq_ite]at hD;split at hD
    ·rename_i hq;rw[Bool.and_eq_true]at hq;have e1:=Nat.eq_of_beq_eq_true hq.1;have e2:=Nat.eq_of_beq_eq_true hq.2;subst e1;cases bs with
     |nil=>simp at hlen
     |cons b1 bs=>
      cases hb with
      |cons _ _ y1 _ hb1 hbs=>
       have hx1:b1=.int k l:=by simpa[x1]using hx1
       subst hx1;have:=hb1.ints;subst this;rw[cond_eq_ite]at hD;split at hD
       ·have hcs:=A0v hD;rw[hcs]at hc;obtain⟨c0,c1,c2,_⟩:=hc;have c0:bk.n=n:=c0;have c1:0<=l:=by simpa[Cd.holds,leb]using c1
        have c2:l.toNat<len:=by simpa[Cd.holds,ltn]using c2
        obtain⟨hle,a,c,hf,rfl⟩:=hx.vwf hH c0;have hnc:n<=c/\∃p,a=some p:=by
         rcases hf with⟨e,_⟩|⟨e,_⟩|⟨_,b,cap,cs,ty,fz,p1,p2,e,p3,p4,p5⟩
         ·omega
         ·omega
         ·cases e;exact⟨p3,_,rfl⟩
        obtain⟨hnc,p,rfl⟩:=hnc;have run0:(Instr.sliceAt t (.slice ((some p).map fun p=>p.add (off*s)) len (c-off)) (some (.int k l)) none none).run P w=.ok (.slice ((some p).map fun p=>p.add ((off+l.toNat)*s)) (len-l.toNat) (c-(off+l.toNat))) w:=by
         rw[hrun];have hq:(Instr.sliceBounds true len (c-off) (some (.int k l)) none none).run P w=.ok (l.toNat,len,c-off) w:=by
          simp[Instr.sliceBounds,A0g k l len _ c1 (by omega)]
         rw[hq];simp only[Result.andThen_ok];have hne:¬ (c-off=l.toNat):=by omega
         have e3:bk.sz=bk.sz:=rfl;rw[if_neg hne];have ea:((some p).map fun p=>p.add (off*s)).map (·.add (l.toNat*s))=(some p).map fun p=>p.add ((off+l.toNat)*s):=by
          simp only[Option.map_some];rw[B4h,Nat.add_mul]
         have eb:c-off-l.toNat=c-(off+l.toNat):=by omega
         rw[ea,eb]
        have:=Eff.val hm hD run0 (.vw id n s (off+l.toNat) (len-l.toNat) bk _ hH (by omega) ⟨_,_,_,rfl⟩ (fun _=>⟨by omega,_,_,hf,rfl⟩));simpa using this
       ·split at hD
        ·rename_i cc hcap;have hcs:=A0v hD;rw[hcs]at hc;obtain⟨c0,c1,c2,c3,c4,_⟩:=hc;have c0:bk.n=n:=c0;have c1:0<=l:=by simpa[Cd.holds,leb]using c1
         have c2:l.toNat=len:=c2;have c3:cc=n:=c3;have c4:off+len=n:=c4;obtain⟨hle,a,c,hf,rfl⟩:=hx.vwf hH c0;have hce:c=n:=by
          rcases hf with⟨e,_,_,e2⟩|⟨e,_,_,a',e2⟩|⟨_,b,cap',cs,ty,fz,p1,p2,e2,p3,p4,p5⟩
          ·cases e2;exact e.symm
          ·cases e2;exact e.symm
          ·cases e2;rw[<- c3];exact p5.1 _ hcap
         have hcl:c-off=len:=by omega
         have run0:(Instr.sliceAt t (.slice (a.map fun p=>p.add (off*s)) len (c-off)) (some (.int k l)) none none).run P w=.ok (.slice (a.map fun p=>p.add (off*s)) 0 0) w:=by
          rw[hrun];simp[Instr.sliceBounds,A0g k l len _ c1 (by omega),c2,hcl]
         refine Eff.val hm hD (x:=.slice (a.map fun p=>p.add (off*s)) 0 0) ?_ (.imm _ _ (.imm0 _ _ _ (by cases bk.c<;>simp[Cont.take,Cont.size]) (fun n e=>by cases e;rfl)));simpa using run0
        ·cases hD
    ·cases hD
   ·cases hD
  ·cases hD
 ·cases hD
theorem A9A (hm:MRel G F ρ H w)(hl:∀id o,look id=some o->H id=some o){sz:Nat}{lo hi mx:Bool}{id len:Nat}{bs:List AV}{x:Value}{xs:List Value}{t e:TypeId}{i:TypeInfo}
  (ht:P.underlying t=some (.slice e)) (hi':P.info? e=some i) (hsz:i.size=sz) (hx:RelV w F ρ H (.full id len) x) (hb:RelVs w F ρ H bs xs)
  (hlen:bs.length=(if lo then 1 else 0)+((if hi then 1 else 0)+(if mx then 1 else 0)))
  (hD:A9f look id len lo hi mx bs=some D) (hc:A0M Sp D.cs):
  Eff G F ρ H w ((Instr.sliceAt t x (if lo then xs[0]? else none) (if hi then(if lo then xs[1]? else xs[0]?)else none) (if mx then(if lo then(if hi then xs[2]? else xs[1]?)else(if hi then xs[1]? else xs[0]?))else none)).run P w) D:=by
 have hrun:∀(a:Option Addr) (len cap:Nat) (l h m:Option Value),(Instr.sliceAt t (.slice a len cap) l h m).run P w=
   ((Instr.sliceBounds true len cap l h m).run P w).andThen fun q w'=>.ok (.slice (if q.2.2=q.1 then a else a.map (·.add (q.1*sz))) (q.2.1-q.1) (q.2.2-q.1)) w':=fun a len cap l h m=>by
  simp only[Instr.sliceAt,Instr.slice,Sem.run_bind,A0b ht,Result.andThen_ok];cases hq:(Instr.sliceBounds true len cap l h m).run P w with
  |ok q w'=>simp[A0l hi',hsz]
  |halt q w'=>rfl
 have hopt:∀(a:Option Addr) (p:Prop) [Decidable p],(if p then a else a.map (·.add (0*sz)))=a:=fun a p _=>by
  split
  ·rfl
  ·cases a<;>simp[Addr.add]
 unfold A9f at hD;split at hD
 ·rename_i bk hbk;split at hD
  ·rename_i hmu hcap;split at hD
   ·cases bs with
    |nil=>simp at hlen
    |cons b1 bs=>
     cases bs with
     |nil=>simp at hlen
     |cons b2 bs=>
      cases hb with
      |cons _ _ y1 _ hb1 hbs=>
       cases hbs with
       |cons _ _ y2 ys hb2 hbs=>
        split at hD
        ·rename_i k h k' m hx1 hx2;have hx1:b1=.int k h:=by simpa[x1]using hx1
         have hx2:b2=.int k' m:=by simpa[x2]using hx2
         subst hx1 hx2;have:=hb1.ints;subst this;have:=hb2.ints;subst this;rw[cond_eq_ite]at hD;split at hD
         ·have hcs:=A0v hD;rw[hcs]at hc;obtain⟨c0,c1,c2,c3,c4,_⟩:=hc;have c0:bk.n=len:=c0;have c1:0<=h:=by simpa[Cd.holds,leb]using c1
          have c2:h.toNat=len:=c2;have c3:0<=m:=by simpa[Cd.holds,leb]using c3
          have c4:m.toNat=len:=c4;have hH:=hl _ _ hbk;obtain⟨a,cap,hf,rfl,hle⟩:=hx.fullf hH c0;have run0:(Instr.sliceAt t (.slice a len cap) none (some (.int k h)) (some (.int k' m))).run P w=.ok (.slice a len len) w:=by
           rw[hrun];simp[Instr.sliceBounds,A0g k' m cap _ c3 (by omega),A0g k h len _ c1 (by omega),c2,c4];simpa using hopt a (len=0)
          refine Eff.val hm hD (x:=.slice a len len) (by simpa using run0) (.fullc id len len a (.full id len bk _ hH (by omega) ⟨_,_,_,rfl⟩ (fun _=>?_)));rcases hf with⟨e,q1,q2,e2⟩|⟨e,q1,q2,a',e2⟩|⟨q1,b,cap',cs,ty,fz,q2,q3,e2,q4,q5,q6⟩
          ·cases e2;exact .inl ⟨e,q1,q2,by rw[e]⟩
          ·cases e2;exact .inr (.inl ⟨e,q1,q2,a',by rw[e]⟩)
          ·cases e2;exact .inr (.inr ⟨q1,b,len,cs,ty,fz,q2,q3,rfl,Nat.le_refl _,Nat.le_trans (Nat.mul_le_mul_right _ q4) q5,(fun n e=>by rw[hcap]at e;cases e),Nat.le_trans q4 q6.2⟩)
         ·cases hD
        ·cases hD
   ·cases hD
  ·cases hD
 ·cases hD
theorem A6Q (hm:MRel G F ρ H w)(hl:∀id o,look id=some o->H id=some o){sz:Nat}{lo hi mx:Bool}{v:AV}{bs:List AV}{x:Value}{xs:List Value}{t e:TypeId}{i:TypeInfo}
  (ht:P.underlying t=some (.slice e)) (hi':P.info? e=some i) (hsz:i.size=sz) (hx:RelV w F ρ H v x) (hb:RelVs w F ρ H bs xs)
  (hlen:bs.length=(if lo then 1 else 0)+((if hi then 1 else 0)+(if mx then 1 else 0)))
  {d:Dir} (hD:A3u look d sz lo hi mx v bs=some D) (hc:A0M Sp D.cs):
  Eff G F ρ H w ((Instr.sliceAt t x (if lo then xs[0]? else none) (if hi then(if lo then xs[1]? else xs[0]?)else none) (if mx then(if lo then(if hi then xs[2]? else xs[1]?)else(if hi then xs[1]? else xs[0]?))else none)).run P w) D:=by
 have hrun:∀(a:Option Addr) (len cap:Nat) (l h m:Option Value),(Instr.sliceAt t (.slice a len cap) l h m).run P w=
   ((Instr.sliceBounds true len cap l h m).run P w).andThen fun q w'=>.ok (.slice (if q.2.2=q.1 then a else a.map (·.add (q.1*sz))) (q.2.1-q.1) (q.2.2-q.1)) w':=fun a len cap l h m=>by
  simp only[Instr.sliceAt,Instr.slice,Sem.run_bind,A0b ht,Result.andThen_ok];cases hq:(Instr.sliceBounds true len cap l h m).run P w with
  |ok q w'=>simp[A0l hi',hsz]
  |halt q w'=>rfl
 have hopt:∀(a:Option Addr) (p:Prop) [Decidable p],(if p then a else a.map (·.add (0*sz)))=a:=fun a p _=>by
  split
  ·rfl
  ·cases a<;>simp[Addr.add]
 unfold A3u at hD;split at hD
 ·rename_i id;split at hD
  ·split at hD
   ·rename_i k h hx1;cases bs with
    |nil=>simp at hlen
    |cons b1 bs=>
     cases hb with
     |cons _ _ y1 _ hb1 hbs=>
      have hx1:b1=.int k h:=by simpa[x1]using hx1
      subst hx1;have:=hb1.ints;subst this;have hcs:=A0v hD;rw[hcs]at hc;have e0:h=0:=by simpa[Cd.holds]using hc.1
      subst e0;cases hx with
      |imm _ _ hi=>cases hi
      |spare _ a l c hf=>
       refine Eff.val hm hD (x:=.slice a 0 c) ?_ hf;have:(Instr.sliceAt t (.slice a l c) none (some (.int k 0)) none).run P w=.ok (.slice a 0 c) w:=by
        rw[hrun];simp[Instr.sliceBounds,A0g k 0 c _ (by omega) (by omega)];simpa using hopt a (c=0)
       simpa using this
   ·cases hD
  ·cases hD
 ·split at hD
  ·split at hD
   ·rename_i k h hx1;cases bs with
    |nil=>simp at hlen
    |cons b1 bs=>
     cases hb with
     |cons _ _ y1 _ hb1 hbs=>
      have hx1:b1=.int k h:=by simpa[x1]using hx1
      subst hx1;have:=hb1.ints;subst this;have hcs:=A0v hD;rw[hcs]at hc;have e0:h=0:=by simpa[Cd.holds]using hc.1
      subst e0;cases hx with
      |imm _ _ hi=>
       cases hi;refine Eff.val hm hD (x:=.slice none 0 0) ?_ (.imm _ _ .nils);have:(Instr.sliceAt t (.slice none 0 0) none (some (.int k 0)) none).run P w=.ok (.slice none 0 0) w:=by
        rw[hrun];simp[Instr.sliceBounds,A0g k 0 0 _ (by omega) (by omega)]
       simpa using this
   ·cases hD
  ·exact A1D hm hl ht hi' hsz hx hb hlen hD hc
 ·rename_i id len;split at hD
  ·split at hD
   ·rename_i bk hbk;split at hD
    ·rename_i hcap;split at hD
     ·cases bs with
      |nil=>simp at hlen
      |cons b1 bs=>
       cases bs with
       |nil=>simp at hlen
       |cons b2 bs=>
        cases hb with
        |cons _ _ y1 _ hb1 hbs=>
         cases hbs with
         |cons _ _ y2 ys hb2 hbs=>
          split at hD
          ·rename_i k h k' m hx1 hx2;have hx1:b1=.int k h:=by simpa[x1]using hx1
           have hx2:b2=.int k' m:=by simpa[x2]using hx2
           subst hx1 hx2;have:=hb1.ints;subst this;have:=hb2.ints;subst this;have hcs:=A0v hD;rw[hcs]at hc;obtain⟨c0,c1,c2,c3,c4,_⟩:=hc;have c0:bk.n=len:=c0;have c1:0<=h:=by simpa[Cd.holds,leb]using c1
           have c2:h.toNat=len:=c2;have c3:0<=m:=by simpa[Cd.holds,leb]using c3
           have c4:m.toNat=len:=c4;have run0:∀(a:Option Addr) (cap:Nat),len<=cap->(Instr.sliceAt t (.slice a len cap) none (some (.int k h)) (some (.int k' m))).run P w=.ok (.slice a len len) w:=fun a cap hle=>by
            rw[hrun];simp[Instr.sliceBounds,A0g k' m cap _ c3 (by omega),A0g k h len _ c1 (by omega),c2,c4];simpa using hopt a (len=0)
           have hH:=hl _ _ hbk;cases hx with
           |imm _ _ hi=>cases hi
           |full _ _ kk x hh hle hp hx=>
            rw[hH]at hh;cases hh;have hf:=hx c0;rcases hf with⟨rfl,q1,q2,rfl⟩|⟨rfl,q1,q2,a,rfl⟩|⟨q1,b,cap,cs,ty,fz,q2,q3,rfl,q4,q5,q6⟩
            ·refine Eff.val hm hD (x:=.slice none 0 0) ?_ (.full id 0 bk _ hH (by omega) ⟨_,_,_,rfl⟩ (fun _=>.inl ⟨rfl,q1,q2,rfl⟩));simpa using run0 none 0 (Nat.le_refl _)
            ·refine Eff.val hm hD (x:=.slice (some a) 0 0) ?_ (.full id 0 bk _ hH (by omega) ⟨_,_,_,rfl⟩ (fun _=>.inr (.inl ⟨rfl,q1,q2,a,rfl⟩)));simpa using run0 (some a) 0 (Nat.le_refl _)
            ·refine Eff.val hm hD (x:=.slice (some ⟨b,0,none⟩) len len) ?_ (.full id len bk _ hH (by omega) ⟨_,_,_,rfl⟩ (fun _=>.inr (.inr ⟨q1,b,len,cs,ty,fz,q2,q3,rfl,Nat.le_refl _,Nat.le_trans (Nat.mul_le_mul_right _ q4) q5,(fun n e=>by rw[hcap]at e;cases e),Nat.le_trans q4 q6.2⟩)));simpa using run0 (some ⟨b,0,none⟩) cap q4
          ·cases hD
     ·exact A3g hm hl ht hi' hsz hx hb hlen hD hc
    ·exact A3g hm hl ht hi' hsz hx hb hlen hD hc
   ·cases hD
  ·split at hD
   ·rename_i D0 hv;cases hD;exact A3g hm hl ht hi' hsz hx hb hlen hv hc
   ·split at hD
    ·rename_i D0 hv;cases hD;exact A9A hm hl ht hi' hsz hx hb hlen hv hc
    ·exact A1D hm hl ht hi' hsz hx hb hlen hD hc
  ·split at hD
   ·rename_i bk hbk;split at hD
    ·rename_i hcap;split at hD
     ·cases bs with
      |nil=>simp at hlen
      |cons b1 bs=>
       cases bs with
       |nil=>simp at hlen
       |cons b2 bs=>
        cases hb with
        |cons _ _ y1 _ hb1 hbs=>
         cases hbs with
         |cons _ _ y2 ys hb2 hbs=>
          split at hD
          ·rename_i k h k' m hx1 hx2;have hx1:b1=.int k h:=by simpa[x1]using hx1
           have hx2:b2=.int k' m:=by simpa[x2]using hx2
           subst hx1 hx2;have:=hb1.ints;subst this;have:=hb2.ints;subst this;have hcs:=A0v hD;rw[hcs]at hc;obtain⟨c0,c1,c2,c3,c4,_⟩:=hc;have c0:bk.n=len:=c0;have c1:0<=h:=by simpa[Cd.holds,leb]using c1
           have c2:h.toNat=len:=c2;have c3:0<=m:=by simpa[Cd.holds,leb]using c3
           have c4:m.toNat=len:=c4;have run0:∀(a:Option Addr) (cap:Nat),len<=cap->(Instr.sliceAt t (.slice a len cap) none (some (.int k h)) (some (.int k' m))).run P w=.ok (.slice a len len) w:=fun a cap hle=>by
            rw[hrun];simp[Instr.sliceBounds,A0g k' m cap _ c3 (by omega),A0g k h len _ c1 (by omega),c2,c4];simpa using hopt a (len=0)
           have hH:=hl _ _ hbk;cases hx with
           |imm _ _ hi=>cases hi
           |full _ _ kk x hh hle hp hx=>
            rw[hH]at hh;cases hh;have hf:=hx c0;rcases hf with⟨rfl,q1,q2,rfl⟩|⟨rfl,q1,q2,a,rfl⟩|⟨q1,b,cap,cs,ty,fz,q2,q3,rfl,q4,q5,q6⟩
            ·refine Eff.val hm hD (x:=.slice none 0 0) ?_ (.fullc id 0 0 none (.full id 0 bk _ hH (by omega) ⟨_,_,_,rfl⟩ (fun _=>.inl ⟨rfl,q1,q2,rfl⟩)));simpa using run0 none 0 (Nat.le_refl _)
            ·refine Eff.val hm hD (x:=.slice (some a) 0 0) ?_ (.fullc id 0 0 (some a) (.full id 0 bk _ hH (by omega) ⟨_,_,_,rfl⟩ (fun _=>.inr (.inl ⟨rfl,q1,q2,a,rfl⟩))));simpa using run0 (some a) 0 (Nat.le_refl _)
            ·refine Eff.val hm hD (x:=.slice (some ⟨b,0,none⟩) len len) ?_ (.fullc id len len (some ⟨b,0,none⟩) (.full id len bk _ hH (by omega) ⟨_,_,_,rfl⟩ (fun _=>.inr (.inr ⟨q1,b,len,cs,ty,fz,q2,q3,rfl,Nat.le_refl _,Nat.le_trans (Nat.mul_le_mul_right _ q4) q5,(fun n e=>by rw[hcap]at e;cases e),Nat.le_trans q4 q6.2⟩))));simpa using run0 (some ⟨b,0,none⟩) cap q4
          ·cases hD
     ·cases hD
    ·cases hD
   ·cases hD
  ·split at hD
   ·rename_i D0 hv;cases hD;exact A8a hm hl ht hi' hsz hx hb hlen hv hc
   ·exact A1D hm hl ht hi' hsz hx hb hlen hD hc
  ·exact A1D hm hl ht hi' hsz hx hb hlen hD hc
 ·split at hD
  ·rename_i D0 hv;cases hD;exact A8b hm hl ht hi' hsz hx hb hlen hv hc
  ·exact A1D hm hl ht hi' hsz hx hb hlen hD hc
 ·exact A1D hm hl ht hi' hsz hx hb hlen hD hc
theorem A8c {z:List AV}{zs:List Value}(h:RelVs w F ρ H z zs):∀n,RelVs w F ρ H (A3a z n) (A3a zs n)
 |0=>.nil
 |n+1=>h.app (A8c h n)
theorem A1z {α:Type}(l:List α):∀n,(A3a l n).length=n*l.length
 |0=>by simp[A3a]
 |n+1=>by simp[A3a,A1z l n,Nat.add_mul,Nat.add_comm]
theorem A8d {α:Type}[Inhabited α](zs:Array α)(hz:0<zs.size):∀n i,i<n*zs.size->(A3a zs.toList n)[i]? =some zs[i%zs.size]!
 |0,i,h=>by simp at h
 |n+1,i,h=>by
  simp only[A3a]
  by_cases hi:i<zs.size
  ·rw[List.getElem?_append_left (by simpa using hi),Nat.mod_eq_of_lt hi];simp[hi]
  ·rw[List.getElem?_append_right (by simp;omega)];rw[Array.length_toList];rw[A8d zs hz n (i-zs.size) (by rw[Nat.add_mul]at h;omega)];rw[Nat.mod_eq_sub_mod (show i>=zs.size by omega)]
theorem B8t {α:Type}[Inhabited α](zs:Array α)(n:Nat)(hz:0<zs.size):((Array.range (n*zs.size)).map fun i=>zs[i%zs.size]!).toList=A3a zs.toList n:=by
 apply List.ext_getElem?;intro i
 by_cases h:i<n*zs.size
 ·rw[A8d zs hz n i h];simp[h]
 ·rw[List.getElem?_eq_none (by simp;omega),List.getElem?_eq_none (by rw[A1z];simp;omega)]
theorem A5M {k:IntKind}:∀{l:List AV} {l':List Int},A9c k l=some l'->l=l'.map (.int k)
 |[],l',h=>by cases h;rfl
 |v::r,l',h=>by
  cases v<;>simp only[A9c,reduceCtorEq]at h
  case int k' n=>
   simp only[cond_eq_ite]at h;split at h
   ·rename_i hk;have hk:k=k':=by simpa[A2R]using hk
    subst hk;split at h
    ·rename_i l1 h1;cases h;simp[A5M h1]
    ·cases h
   ·cases h
theorem A4P:∀{l:List AV} {l':List Bool},A7M l=some l'->l=l'.map .bool
 |[],l',h=>by cases h;rfl
 |v::r,l',h=>by
  cases v<;>simp only[A7M,reduceCtorEq]at h
  case bool b=>
   split at h
   ·rename_i l1 h1;cases h;simp[A4P h1]
   ·cases h
theorem A5N:∀{l:List AV} {l':List (List UInt8)},B1K l=some l'->l=l'.map .str
 |[],l',h=>by cases h;rfl
 |v::r,l',h=>by
  cases v<;>simp only[B1K,reduceCtorEq]at h
  case str b=>
   split at h
   ·rename_i l1 h1;cases h;simp[A5N h1]
   ·cases h
theorem A3J {ty:Nat}{l:List AV}{c:Cont}(h:A5x ty l=some c):c.size=l.length/\∀i x,i<l.length->RelV w F ρ H (l.getD i .undef) x->x.oneCell'=true->RelE w F ρ H c i x:=by
 have ints:∀k l',A9c k l=some l'->(Cont.ints k l').size=l.length/\∀i x,i<l.length->RelV w F ρ H (l.getD i .undef) x->x.oneCell'=true->RelE w F ρ H (.ints k l') i x:=by
  intro k l' hl';have:=A5M hl';subst this;refine⟨by simp[Cont.size],fun i x hi hr hone=>⟨?_,hone⟩⟩;have hi':i<l'.length:=by simpa using hi
  have e:(l'.map (AV.int k)).getD i .undef=.int k (l'.getD i 0):=by simp[List.getD,hi']
  rw[e]at hr;have:=hr.ints;subst this;exact .int _ _
 unfold A5x at h;split at h
 ·cases h;exact⟨rfl,fun i x hi hr hone=>⟨hr,hone⟩⟩
 ·split at h
  ·rename_i l' hl';cases h;have:=A4P hl';subst this;refine⟨by simp[Cont.size],fun i x hi hr hone=>⟨?_,hone⟩⟩;have hi':i<l'.length:=by simpa using hi
   have e:(l'.map AV.bool).getD i .undef=.bool (l'.getD i false):=by simp[List.getD,hi']
   rw[e]at hr;have:=hr.bools;subst this;exact .bool _
  ·cases h
 ·split at h
  ·rename_i l' hl';cases h;have:=A5N hl';subst this;refine⟨by simp[Cont.size],fun i x hi hr hone=>⟨?_,hone⟩⟩;have hi':i<l'.length:=by simpa using hi
   have e:(l'.map AV.str).getD i .undef=.str (l'.getD i []):=by simp[List.getD,hi']
   rw[e]at hr;obtain⟨s,rfl,hs⟩:=hr.strs;exact .str _ _ hs
  ·cases h
 ·split at h
  ·rename_i l' hl';cases h;exact ints _ _ hl'
  ·cases h
theorem B05 {ty:Nat}{l:List AV}{c:Cont}(h:A5x ty l=some c):c.isMap=false:=by
 unfold A5x at h;split at h
 ·cases h;rfl
 ·split at h<;>cases h;rfl
 ·split at h<;>cases h;rfl
 ·split at h<;>cases h;rfl
theorem A69:∀{l:List AV},A1T l=true->∀i,i<l.length->(∃k n,l.getD i .undef=.int k n)\/(∃b,l.getD i .undef=.bool b)\/∃s,l.getD i .undef=.str s
 |[],_,i,hi=>by simp at hi
 |v::r,h,0,_=>by
  cases v<;>simp only[A1T]at h<;>first|cases h|exact .inl ⟨_,_,rfl⟩|exact .inr (.inl ⟨_,rfl⟩)|exact .inr (.inr ⟨_,rfl⟩)
 |v::r,h,i+1,hi=>by
  have hr:A1T r=true:=by cases v<;>simp only[A1T]at h<;>first|cases h|exact h
  simpa using A69 hr i (by simpa using hi)
theorem A4o:∀{a b:List AV},A1T a=true->A1T b=true->A1T (a++b)=true
 |[],b,_,hb=>hb
 |v::r,b,ha,hb=>by
  cases v<;>simp only[A1T,List.cons_append]at ha ⊢<;>first|cases ha|exact A4o ha hb
theorem A7a {z:List AV}(h:A1T z=true):∀n,A1T (A3a z n)=true
 |0=>rfl
 |n+1=>A4o h (A7a h n)
theorem B15 {l:List AV}(h:A1T l=true){i:Nat}(hi:i<l.length){x:Value}(hr:RelV w F ρ H (l.getD i .undef) x):RelI w F (l.getD i .undef) x:=by
 rcases A69 h i hi with⟨k,n,e⟩|⟨b,e⟩|⟨s,e⟩<;>rw[e]at hr ⊢<;>cases hr<;>assumption
theorem A9B {ty:Nat}{l:List AV}{c:Cont}(h:B0X ty l=some c):(c.size=l.length/\∀i x,i<l.length->RelV w F ρ H (l.getD i .undef) x->x.oneCell'=true->RelE w F ρ H c i x)/\c.isMap=false:=by
 unfold B0X at h;split at h
 ·rw[cond_eq_ite]at h;split at h
  ·rename_i hl;cases h;exact⟨⟨rfl,fun i x hi hr hone=>⟨B15 hl hi hr,hone⟩⟩,rfl⟩
  ·cases h;exact⟨⟨rfl,fun i x hi hr hone=>⟨hr,hone⟩⟩,rfl⟩
 ·exact⟨A3J h,B05 h⟩
theorem A5O (hm:MRel G F ρ H w){site sz len:Nat}{c:Cont}{cells:Array Value}{e:TypeId}{capc:Nat}{cs0:List Cd}(hs:H site=none)(hnm:c.isMap=false)(hcsz:c.size=len*sz)(hle:c.size<=cells.size)
  (hz:∀i,i<c.size->∃x,cells[i]? =some x/\RelE w F ρ H c i x) (hcap:len<=capc) (hcells:capc*sz<=cells.size) (hmx:capc<=A4K):
  Eff G F ρ H w (((newRow e cells).run P w).andThen fun a w'=>.ok (.slice (some a) len capc) w')
   {v:=.full site len,ws:=[(site,.blk {c,sz,n:=len,cap:=some capc,nil:=some false,mu:=true,bx:=false})],al:=[site],cs:=cs0}:=by
 have hrun:((newRow e cells).run P w).andThen (fun a w'=>Result.ok (Value.slice (some a) len capc) w')=.ok (.slice (some ⟨w.heap.size,0,none⟩) len capc) (w.alloc (.cells cells e)):=by
  simp[newRow]
 obtain⟨ρ',h1,h2,h3,h4,h5⟩:=hm.alloc (w':=w.alloc (.cells cells e)) (site:=site) (o:=.blk {c,sz,n:=len,cap:=some capc,nil:=some false,mu:=true,bx:=false}) hs rfl ⟨rfl,rfl,fun _=>⟨rfl,Nat.le_refl _⟩⟩ (fun ρ' H' hk hρ=>by
  refine⟨hcsz,.inr ⟨w.heap.size,hρ,RelB.ofCells hnm ⟨cells,e,(0,0),A1m rfl,by simp,hle,fun i hi=>?_⟩ (fun _ h=>absurd (hm.frz _ h) (Nat.lt_irrefl _)) (fun e=>by cases e)⟩⟩;obtain⟨x,g1,g2⟩:=hz i hi;exact⟨x,g1,g2.mono (fun b hb=>A1Q rfl (hm.frz b hb)) (fun _ h=>h) hk⟩)
 exact⟨_,_,F,ρ',hrun,h1,h2,h3,.full site len _ _ (A0e _ _ _) (Nat.le_refl _) ⟨_,_,_,rfl⟩ (fun _=>.inr (.inr ⟨(fun e=>by cases e),w.heap.size,capc,cells,e,(0,0),h4,A1m rfl,rfl,hcap,hcells,(fun n e=>by cases e;rfl),hmx⟩))⟩
theorem A4Q:∀{ps:List (Nat×Nat)} {vs:List AV} {z l:List AV},B0S z ps vs=some l->l.length=z.length
 |[],vs,z,l,h=>by
  cases vs with
  |nil=>cases h;rfl
  |cons=>cases h
 |(off,size)::ps,vs,z,l,h=>by
  cases vs with
  |nil=>cases h
  |cons v vs=>
   simp only[B0S,cond_eq_ite]at h;split at h
   ·rw[A4Q h]
    suffices hs:∀(vs z:List AV) (i:Nat),(A5y z i vs).length=z.length from hs _ _ _
    intro vs
    induction vs with
    |nil=>intro z i;rfl
    |cons v r ih=>intro z i;simp[A5y,ih]
   ·cases h
end
def B9c (P:Program)(l:Nat)(fn:FuncId)(tmps:Array Value)(as bd:Code)(w:World)(K:Value->World->Prop):Prop:=
 ∀(c:Frame) (cs:List Frame),∃v w',K v w'/\Steps P (lone (Frame.round l fn tmps as bd .normal) (c::cs) w) (lone (c.finish v) cs w')
def A4R (P:Program)(r:Result Next)(K:Value->World->Prop):Prop:=
 (∃nx y w',r=.ok nx w'/\(nx=.value y\/(nx=.skip/\y=undef))/\K y w')\/
 (∃f args w1,r=.ok (.enter f args) w1/\Calls P f args w1 fun e w'=>∃v,e=.returned v/\K v w')\/
 (∃l fn tmps as bd w1,r=.ok (.round l fn tmps as bd) w1/\B9c P l fn tmps as bd w1 K)
theorem A4R.mono {P:Program}{r:Result Next}{K K':Value->World->Prop}(h:A4R P r K)(hk:∀v w,K v w->K' v w):A4R P r K':=by
 rcases h with⟨nx,y,w',h1,h2,h3⟩|⟨f,args,w1,h1,h2⟩|⟨l,fn,tmps,as,bd,w1,h1,h2⟩
 ·exact .inl ⟨nx,y,w',h1,h2,hk _ _ h3⟩
 ·exact .inr (.inl ⟨f,args,w1,h1,h2.mono fun e w' ⟨v,e1,e2⟩=>⟨v,e1,hk _ _ e2⟩⟩)
 ·exact .inr (.inr ⟨l,fn,tmps,as,bd,w1,h1,fun c cs=>by obtain⟨v,w',k1,k2⟩:=h2 c cs;exact⟨v,w',hk _ _ k1,k2⟩⟩)
def A19 (P:Program)(f:FuncId)(args:Array Value)(w:World)(R:Value->World->Prop):Prop:=A4R P ((callFunc f args).run P w) R
def hsH (hs:List Blk):Nat->Option HO:=fun j=>(hs[j]?).map HO.blk
def noR:Nat->Option Nat:=fun _=>none
def noH:Nat->Option HO:=fun _=>none
def SpecP (P:Program)(G:GL)(f:Nat)(args:List AV)(ret:AV)(hs:List Blk):Prop:=
 ∀(F:Nat->Prop) (w:World) (vs:Array Value),MRel G F noR noH w->RelIs w F args vs.toList->
  A19 P f vs w fun v w'=>∃F' ρ',MRel G F' ρ' (hsH hs) w'/\Ext G F noR w F' ρ' w'/\RelV w' F' ρ' (hsH hs) ret v
def KD (G:GL)(F:Nat->Prop)(ρ:Nat->Option Nat)(H:Nat->Option HO)(w:World)(D:Delta)(y:Value)(w':World):Prop:=
 ∃F' ρ',MRel G F' ρ' (A00 H D.ws) w'/\Ext G F ρ w F' ρ' w'/\HKeep w ρ H w' ρ' (A00 H D.ws)/\RelV w' F' ρ' (A00 H D.ws) D.v y
def B9d (P:Program)(ρ:Nat->Option Nat)(cv:AV)(xs:Array Value)(w:World)(K:Value->World->Prop):Prop:=
 match cv with
 |.fn f _ _=>A19 P f xs w K
 |.yld id=>∀b,ρ id=some b->A4R P ((Instr.yield b xs).run P w) K
 |_=>False
def SpecD (P:Program)(G:GL)(cv:AV)(args:List AV)(h:List (Nat×HO))(v:AV)(ws:List (Nat×HO))(al:List Nat):Prop:=
 ∀(F:Nat->Prop) (ρ:Nat->Option Nat) (w:World) (xs:Array Value),MRel G F ρ (aget h) w->RelVs w F ρ (aget h) args xs.toList->
  B9d P ρ cv xs w (KD G F ρ (aget h) w {v,ws,al,cs:=[]})
def A1n (P:Program)(G:GL):SpT:=fun cv args o v hs=>
 match o with
 |none=>match cv with
  |.fn f _ _=>SpecP P G f args v hs
  |_=>False
 |some (h,ws,al)=>SpecD P G cv args h v ws al
theorem MRel.bare {G:GL}{F:Nat->Prop}{ρ:Nat->Option Nat}{H:Nat->Option HO}{w:World}(hm:MRel G F ρ H w):MRel G F noR noH w:=
 ⟨(fun id o h=>by cases h),(fun id b h=>by cases h),(fun i j b h=>by cases h),(fun id b h=>by cases h),hm.frz,hm.glob⟩
mutual
theorem RelI.shift {w:World}{F:Nat->Prop}(base:Nat):∀{v:AV} {x:Value},RelI w F v x->RelI w F (A2s base v) x
 |_,_,.undef x=>.undef x
 |_,_,.bool b=>.bool b
 |_,_,.int k n=>.int k n
 |_,_,.str l s h=>.str l s h
 |_,_,.nilp=>.nilp
 |_,_,.nils=>.nils
 |_,_,.nilf=>.nilf
 |_,_,.nili=>.nili
 |_,_,.nn a l c=>.nn a l c
 |_,_,.iptr c b o xs hF hc hr ho=>.iptr c b o xs hF hc hr ho
 |_,_,.imm c len cap b o cap' xs hF hc hr ho hl hcap=>.imm c len cap b o cap' xs hF hc hr ho hl hcap
 |_,_,.imm0 c cap x hc hcap=>.imm0 c cap x hc hcap
 |_,_,.fn f l1 l2 x1 x2 h1 h2=>.fn f _ _ x1 x2 (h1.shift base) (h2.shift base)
 |_,_,.agg l x h=>.agg _ x (h.shift base)
 |_,_,.tup l x h=>.tup _ x (h.shift base)
 |_,_,.may b v x h hn=>.may b _ x (fun hb=>(h hb).shift base) hn
 |_,_,.iface t v x h=>.iface t _ x (h.shift base)
theorem RelIs.shift {w:World}{F:Nat->Prop}(base:Nat):∀{l:List AV} {xs:List Value},RelIs w F l xs->RelIs w F (A2t base l) xs
 |_,_,.nil=>.nil
 |_,_,.cons v l x xs h hs=>.cons _ _ x xs (h.shift base) (hs.shift base)
end
def shB (base:Nat)(b:Blk):Blk:={b with c:=A4M base b.c}
theorem A4p (base:Nat):∀(hs:List Blk) (j:Nat) (H:Nat->Option HO) (i:Nat),
  A00 H (A18 base j hs) i=if base+j<=i/\i<base+j+hs.length then(hs[i-(base+j)]?).map (fun b=>.blk (shB base b))else H i
 |[],j,H,i=>by
  simp only[A18,A00];rw[if_neg (by simp)]
 |b::r,j,H,i=>by
  simp only[A18,A00];rw[A4p base r (j+1) _ i]
  by_cases h1:i=base+j
  ·subst h1;rw[if_neg (by omega),if_pos (by simp),A0e];simp[shB]
  ·by_cases h2:base+j<=i/\i<base+j+(b::r).length
   ·rw[if_pos h2,if_pos (by simp at h2;omega)];obtain⟨d,hd⟩:∃d,i-(base+j)=d+1:=⟨i-(base+j)-1,by omega⟩;rw[hd,show i-(base+(j+1))=d by omega];simp
   ·rw[if_neg h2,if_neg (by simp at h2 ⊢; omega),A0a _ _ h1]
section
variable {G:GL}{F F1:Nat->Prop}{ρ ρ1:Nat->Option Nat}{H:Nat->Option HO}{w w':World}
def B4i (ρ ρ1:Nat->Option Nat)(base n:Nat):Nat->Option Nat:=fun i=>if base<=i/\i<base+n then ρ1 (i-base)else ρ i
theorem B6J (ρ ρ1:Nat->Option Nat)(base n:Nat){i:Nat}(h:i<n):B4i ρ ρ1 base n (base+i)=ρ1 i:=by
 simp only[B4i];rw[if_pos (by omega)];congr 1;omega
theorem A1G (ρ ρ1:Nat->Option Nat)(base n:Nat){i:Nat}(h:¬ (base<=i/\i<base+n)):B4i ρ ρ1 base n i=ρ i:=by
 simp only[B4i];rw[if_neg h]
mutual
theorem RelV.shift {base:Nat}{hs:List Blk}{H2:Nat->Option HO}{ρ2:Nat->Option Nat}(hρ:∀i,i<hs.length->ρ2 (base+i)=ρ1 i)(hH:∀i b,hs[i]? =some b->H2 (base+i)=some (.blk (shB base b))):
  ∀{v:AV} {x:Value},RelV w F ρ1 (hsH hs) v x->RelV w F ρ2 H2 (A2s base v) x
 |_,_,.imm v x hi=>.imm _ _ (hi.shift base)
 |_,_,.ptr id off b o hb hh hx=>by
  simp only[hsH,Option.map_eq_some_iff]at hh;obtain⟨k,hk,rfl⟩:=hh;have hlt:=(List.getElem?_eq_some_iff.1 hk).1;exact .ptr (base+id) off b _ ((hρ id hlt).trans hb) (hH id k hk) hx
 |_,_,.ep id n off k x hh hle hp hx=>by
  simp only[hsH,Option.map_eq_some_iff]at hh;obtain⟨k',hk,e⟩:=hh;cases e;have hlt:=(List.getElem?_eq_some_iff.1 hk).1;refine .ep (base+id) n off (shB base k) x (hH id k hk) hle hp (fun e=>?_);obtain⟨b,hb,hxx⟩:=hx e;exact⟨b,(hρ id hlt).trans hb,hxx⟩
 |_,_,.full id len k x hh hle hp hx=>by
  simp only[hsH,Option.map_eq_some_iff]at hh;obtain⟨k',hk,e⟩:=hh;cases e;have hlt:=(List.getElem?_eq_some_iff.1 hk).1;refine .full (base+id) len (shB base k) x (hH id k hk) hle hp (fun e=>?_);rcases hx e with h|h|⟨h1,b,cap,cs,ty,fz,h2,h3⟩
  ·exact .inl h
  ·exact .inr (.inl h)
  ·exact .inr (.inr ⟨h1,b,cap,cs,ty,fz,(hρ id hlt).trans h2,h3⟩)
 |_,_,.sl id off len cap b k hb hh hx hlc=>by
  simp only[hsH,Option.map_eq_some_iff]at hh;obtain⟨k',hk,e⟩:=hh;cases e;have hlt:=(List.getElem?_eq_some_iff.1 hk).1;exact .sl (base+id) off len cap b (shB base k) ((hρ id hlt).trans hb) (hH id k hk) hx hlc
 |_,_,.fn f l1 l2 x1 x2 h1 h2=>.fn f _ _ x1 x2 (RelVs.shift hρ hH h1) (RelVs.shift hρ hH h2)
 |_,_,.agg l x hl=>.agg _ x (RelVs.shift hρ hH hl)
 |_,_,.tup l x hl=>.tup _ x (RelVs.shift hρ hH hl)
 |_,_,.may b v x hb hn=>.may b _ x (fun e=>RelV.shift hρ hH (hb e)) hn
 |_,_,.iface t v x hv=>.iface t _ x (RelV.shift hρ hH hv)
 |_,_,.yld id b o hb hh hx=>by
  obtain⟨hlt,k,hk⟩:id<hs.length/\∃k,hs[id]? =some k:=by
   simp only[hsH,Option.map_eq_some_iff]at hh;obtain⟨k,hk,_⟩:=hh;exact⟨(List.getElem?_eq_some_iff.1 hk).1,k,hk⟩
  have ho:o=.blk k:=by simp only[hsH,hk,Option.map_some]at hh;cases hh;rfl
  subst ho;exact .yld (base+id) b _ ((hρ id hlt).trans hb) (hH id k hk) hx
 |_,_,.mp id b o hb hh hx=>by
  obtain⟨hlt,k,hk⟩:id<hs.length/\∃k,hs[id]? =some k:=by
   simp only[hsH,Option.map_eq_some_iff]at hh;obtain⟨k,hk,_⟩:=hh;exact⟨(List.getElem?_eq_some_iff.1 hk).1,k,hk⟩
  have ho:o=.blk k:=by simp only[hsH,hk,Option.map_some]at hh;cases hh;rfl
  subst ho;exact .mp (base+id) b _ ((hρ id hlt).trans hb) (hH id k hk) hx
 |_,_,.spare id a l c hf=>.spare (base+id) a l c (RelV.shift hρ hH hf)
 |_,_,.vw id n sz off len k x hh hle hp hx=>by
  simp only[hsH,Option.map_eq_some_iff]at hh;obtain⟨k',hk,e⟩:=hh;cases e;have hlt:=(List.getElem?_eq_some_iff.1 hk).1;refine .vw (base+id) n sz off len (shB base k) x (hH id k hk) hle hp (fun e=>?_);obtain⟨g1,a,c,g2,g3⟩:=hx e;refine⟨g1,a,c,?_,g3⟩;rcases g2 with h|h|⟨h1,b,cap,cs,ty,fz,h2,h3⟩
  ·exact .inl h
  ·exact .inr (.inl h)
  ·exact .inr (.inr ⟨h1,b,cap,cs,ty,fz,(hρ id hlt).trans h2,h3⟩)
 |_,_,.fullc id len cap a hf=>.fullc (base+id) len cap a (RelV.shift hρ hH hf)
theorem RelVs.shift {base:Nat}{hs:List Blk}{H2:Nat->Option HO}{ρ2:Nat->Option Nat}(hρ:∀i,i<hs.length->ρ2 (base+i)=ρ1 i)(hH:∀i b,hs[i]? =some b->H2 (base+i)=some (.blk (shB base b))):
  ∀{l:List AV} {xs:List Value},RelVs w F ρ1 (hsH hs) l xs->RelVs w F ρ2 H2 (A2t base l) xs
 |_,_,.nil=>.nil
 |_,_,.cons v l x xs hv hs'=>.cons _ _ x xs (RelV.shift hρ hH hv) (RelVs.shift hρ hH hs')
end
theorem A5P (base:Nat):∀(l:List AV) (i:Nat),(A2t base l).getD i .undef=A2s base (l.getD i .undef)
 |[],i=>by simp[A2t,A2s]
 |v::r,0=>by simp[A2t]
 |v::r,i+1=>by simp only[A2t,List.getD_cons_succ];exact A5P base r i
theorem A32 (base:Nat):∀(l:List AV),(A2t base l).length=l.length
 |[]=>rfl
 |v::r=>by simp[A2t,A32 base r]
theorem A2U (base:Nat)(c:Cont):(A4M base c).size=c.size:=by
 cases c<;>simp[A4M,Cont.size,A32]
theorem B06 {base:Nat}{c:Cont}{kk vk:MV}{es:List (List Int×List Int×Nat)}{ck:Nat}(h:A4M base c=.maps kk vk es ck):c=.maps kk vk es ck:=by
 cases c<;>first|exact h|cases h
theorem B07 {base:Nat}{c:Cont}(h:(A4M base c).isMap=false):c.isMap=false:=by
 cases c<;>first|rfl|cases h
theorem MRel.join {base:Nat}{hs:List Blk}(hm:MRel G F ρ H w)(hfresh:∀j,j<hs.length->H (base+j)=none)
  (hr:MRel G F1 ρ1 (hsH hs) w') (he:Ext G F noR w F1 ρ1 w'):
  ∃ρ2,MRel G F1 ρ2 (A00 H (A18 base 0 hs)) w'/\Ext G F ρ w F1 ρ2 w'/\HKeep w ρ H w' ρ2 (A00 H (A18 base 0 hs))/\
   ∀v x,RelV w' F1 ρ1 (hsH hs) v x->RelV w' F1 ρ2 (A00 H (A18 base 0 hs)) (A2s base v) x:=by
 let ρ2:=B4i ρ ρ1 base hs.length
 have hold:∀b,b<w.heap.size->w'.heap[b]? =w.heap[b]? :=fun b hb=>he.same b hb (fun id h=>by cases h);have hwF:∀b,F b->w'.heap[b]? =w.heap[b]? :=he.frz;have hnew:∀j b,ρ1 j=some b->w.heap.size<=b:=fun j b h=>(he.im j b h).resolve_left (fun⟨_,h⟩=>by cases h);have hF1:∀b,b<w.heap.size->F1 b->F b:=fun b hb h=>by
  rcases he.more b h with h|h|⟨id,h⟩
  ·exact h
  ·omega
  ·cases h
 have hin:∀i,i<hs.length->ρ2 (base+i)=ρ1 i:=fun i h=>B6J ρ ρ1 base hs.length h;have hHin:∀i b,hs[i]? =some b->A00 H (A18 base 0 hs) (base+i)=some (.blk (shB base b)):=fun i b h=>by
  have hlt:=(List.getElem?_eq_some_iff.1 h).1;rw[A4p,if_pos (by omega)];rw[show base+i-(base+0)=i by omega,h];rfl
 have hHout:∀i,¬ (base<=i/\i<base+hs.length)->A00 H (A18 base 0 hs) i=H i:=fun i h=>by
  rw[A4p,if_neg (by omega)]
 have hdomOut:∀id o,H id=some o->¬ (base<=id/\id<base+hs.length):=fun id o h hb=>by
  have:=hfresh (id-base) (by omega);rw[show base+(id-base)=id by omega,h]at this;cases this
 have hρout:∀id b,ρ id=some b->¬ (base<=id/\id<base+hs.length):=fun id b h=>by
  obtain⟨o,ho⟩:=hm.dom id b h;exact hdomOut id o ho
 have hdom1:∀j b,ρ1 j=some b->j<hs.length:=fun j b h=>by
  obtain⟨o,ho⟩:=hr.dom j b h;simp only[hsH,Option.map_eq_some_iff]at ho;obtain⟨k,hk,_⟩:=ho;exact(List.getElem?_eq_some_iff.1 hk).1
 have hk:HKeep w ρ H w' ρ2 (A00 H (A18 base 0 hs)):=
  ⟨fun id o h1 h2=>⟨o,by rw[hHout id (hdomOut id o h1)];exact h1,h2,A1G _ _ _ _ (hdomOut id o h1)⟩,
   fun id k h1=>⟨k,by rw[hHout id (hdomOut id _ h1)];exact h1,rfl,Nat.le_refl _,fun _=>⟨rfl,rfl,.inl rfl,A1G _ _ _ _ (hdomOut id _ h1)⟩⟩,
   fun b cs ty fz hb=>⟨cs,ty,fz,(hold b (A0D hb)).trans hb,rfl⟩⟩
 have shift:∀v x,RelV w' F1 ρ1 (hsH hs) v x->RelV w' F1 ρ2 (A00 H (A18 base 0 hs)) (A2s base v) x:=fun v x h=>RelV.shift hin hHin h;refine⟨ρ2,⟨fun id o h1=>?_,fun id b hb=>?_,fun i j b hi hj=>?_,fun id b hb=>?_,hr.frz,hr.glob⟩,⟨he.io,he.size,fun b hb hn=>hold b hb,hwF,he.keep,fun b hb=>?_,fun id b hb=>?_⟩,hk,shift⟩
 ·by_cases hc:base<=id/\id<base+hs.length
  ·obtain⟨j,rfl⟩:∃j,id=base+j:=⟨id-base,by omega⟩;have hj:j<hs.length:=by omega
   have hjb:hs[j]? =some hs[j]:=List.getElem?_eq_getElem hj;rw[hHin j _ hjb]at h1;cases h1;have h2:=hr.heap j (.blk hs[j]) (by simp[hsH,hjb]);obtain⟨g0,g1|⟨b,g1,g2⟩⟩:=h2
   ·exact⟨by simp only[shB,A2U];exact g0,.inl ⟨g1.1,(hin j hj).trans g1.2⟩⟩
   ·refine⟨by simp only[shB,A2U];exact g0,.inr ⟨b,(hin j hj).trans g1,⟨fun hnm=>?_,fun kk vk es ck e=>g2.mp kk vk es ck (B06 e),g2.mu,g2.fr⟩⟩⟩;obtain⟨cs,ty,fz,q1,q2,q3,q4⟩:=g2.ex (B07 hnm);refine⟨cs,ty,fz,q1,q2,by simp only[shB,A2U];exact q3,fun i hi=>?_⟩;simp only[shB,A2U]at hi;obtain⟨x,r1,r2⟩:=q4 i hi;refine⟨x,r1,?_,r2.2⟩;have r2:=r2.1;cases hcc:hs[j].c with
    |cells l=>
     rw[hcc]at r2;simp only[shB,hcc,A4M];rw[A5P];exact shift _ _ r2
    |_=>rw[hcc]at r2;simp only[shB,hcc,A4M];exact r2
  ·rw[hHout id hc]at h1;exact(hm.heap id o h1).mono hwF he.keep hk (A1G _ _ _ _ hc) (fun b hb=>⟨hold b (hm.lt id b hb),hF1 b (hm.lt id b hb)⟩)
 ·by_cases hc:base<=id/\id<base+hs.length
  ·obtain⟨j,rfl⟩:∃j,id=base+j:=⟨id-base,by omega⟩;have hj:j<hs.length:=by omega
   exact⟨_,hHin j _ (List.getElem?_eq_getElem hj)⟩
  ·have hb':ρ id=some b:=(A1G _ _ _ _ hc).symm.trans hb;obtain⟨o,ho⟩:=hm.dom id b hb';exact⟨o,by rw[hHout id hc];exact ho⟩
 ·by_cases hci:base<=i/\i<base+hs.length<;>by_cases hcj:base<=j/\j<base+hs.length
  ·obtain⟨i',rfl⟩:∃i',i=base+i':=⟨i-base,by omega⟩;obtain⟨j',rfl⟩:∃j',j=base+j':=⟨j-base,by omega⟩;rw[hr.inj i' j' b ((hin i' (by omega)).symm.trans hi) ((hin j' (by omega)).symm.trans hj)]
  ·obtain⟨i',rfl⟩:∃i',i=base+i':=⟨i-base,by omega⟩;have h1:=hnew i' b ((hin i' (by omega)).symm.trans hi);have h2:=hm.lt j b ((A1G _ _ _ _ hcj).symm.trans hj);omega
  ·obtain⟨j',rfl⟩:∃j',j=base+j':=⟨j-base,by omega⟩;have h1:=hnew j' b ((hin j' (by omega)).symm.trans hj);have h2:=hm.lt i b ((A1G _ _ _ _ hci).symm.trans hi);omega
  ·exact hm.inj i j b ((A1G _ _ _ _ hci).symm.trans hi) ((A1G _ _ _ _ hcj).symm.trans hj)
 ·by_cases hc:base<=id/\id<base+hs.length
  ·obtain⟨j,rfl⟩:∃j,id=base+j:=⟨id-base,by omega⟩;exact hr.lt j b ((hin j (by omega)).symm.trans hb)
  ·have:=hm.lt id b ((A1G _ _ _ _ hc).symm.trans hb);have:=he.size;omega
 ·rcases he.more b hb with h|h|⟨id,h⟩
  ·exact .inl h
  ·exact .inr (.inl h)
  ·cases h
 ·by_cases hc:base<=id/\id<base+hs.length
  ·obtain⟨j,rfl⟩:∃j,id=base+j:=⟨id-base,by omega⟩;exact .inr (hnew j b ((hin j (by omega)).symm.trans hb))
  ·exact .inl ⟨id,(A1G _ _ _ _ hc).symm.trans hb⟩
end
theorem A05 {H:Nat->Option HO}:∀{ws:List (Nat×HO)} {i:Nat},i∉keys ws->A00 H ws i=H i
 |[],i,h=>rfl
 |(j,o)::r,i,h=>by
  simp only[keys,List.mem_cons,not_or]at h;simp only[A00];rw[A05 h.2,A0a _ _ h.1]
theorem B16 {A B:Nat->Option HO}:∀{ws:List (Nat×HO)} {i:Nat},i∈keys ws->A00 A ws i=A00 B ws i
 |[],i,h=>by simp[keys]at h
 |(j,o)::r,i,h=>by
  simp only[keys,List.mem_cons]at h;simp only[A00]
  by_cases hr:i∈keys r
  ·exact B16 hr
  ·rw[A05 hr,A05 hr];rcases h with rfl|h
   ·rw[A0e,A0e]
   ·exact absurd h hr
theorem A5Q {A:Nat->Option HO}:∀{ws:List (Nat×HO)} {i:Nat},i∈keys ws->∃o,A00 A ws i=some o
 |[],i,h=>by simp[keys]at h
 |(j,o)::r,i,h=>by
  simp only[keys,List.mem_cons]at h;simp only[A00]
  by_cases hr:i∈keys r
  ·exact A5Q hr
  ·rw[A05 hr];rcases h with rfl|h
   ·exact⟨o,A0e _ _ _⟩
   ·exact absurd h hr
theorem B6K {A:Nat->Option HO}{ws:List (Nat×HO)}{i:Nat}{o:HO}(h:A i=some o):∃o',A00 A ws i=some o':=by
 by_cases hk:i∈keys ws
 ·exact A5Q hk
 ·exact⟨o,by rw[A05 hk];exact h⟩
section
variable {P:Program}{G:GL}{F F1:Nat->Prop}{ρ ρ1:Nat->Option Nat}{H H1:Nat->Option HO}{w w':World}
mutual
theorem RelV.move {D:Nat->Prop}(hd:∀i,D i->H1 i=H i/\ρ1 i=ρ i):∀{v:AV} {x:Value},RelV w F ρ H v x->(∀i,i∈A0R v->D i)->RelV w F ρ1 H1 v x
 |_,_,.imm v x hi,_=>.imm v x hi
 |_,_,.ptr id off b o hb hh hx,hk=>by
  obtain⟨h1,h2⟩:=hd id (hk id (by simp[A0R]));exact .ptr id off b o (h2.trans hb) (h1.trans hh) hx
 |_,_,.ep id n off k x hh hle hp hx,hk=>by
  obtain⟨h1,h2⟩:=hd id (hk id (by simp[A0R]));exact .ep id n off k x (h1.trans hh) hle hp (fun e=>by obtain⟨b,q1,q2⟩:=hx e;exact⟨b,h2.trans q1,q2⟩)
 |_,_,.full id len k x hh hle hp hx,hk=>by
  obtain⟨h1,h2⟩:=hd id (hk id (by simp[A0R]));refine .full id len k x (h1.trans hh) hle hp (fun e=>?_);rcases hx e with h|h|⟨q1,b,cap,cs,ty,fz,q2,q3⟩
  ·exact .inl h
  ·exact .inr (.inl h)
  ·exact .inr (.inr ⟨q1,b,cap,cs,ty,fz,h2.trans q2,q3⟩)
 |_,_,.sl id off len cap b k hb hh hx hlc,hk=>by
  obtain⟨h1,h2⟩:=hd id (hk id (by simp[A0R]));exact .sl id off len cap b k (h2.trans hb) (h1.trans hh) hx hlc
 |_,_,.fn f l1 l2 x1 x2 h1 h2,hk=>.fn f l1 l2 x1 x2 (RelVs.move hd h1 (fun i hi=>hk i (by simp[A0R,hi]))) (RelVs.move hd h2 (fun i hi=>hk i (by simp[A0R,hi])))
 |_,_,.agg l x hl,hk=>.agg l x (RelVs.move hd hl (fun i hi=>hk i (by simpa[A0R]using hi)))
 |_,_,.tup l x hl,hk=>.tup l x (RelVs.move hd hl (fun i hi=>hk i (by simpa[A0R]using hi)))
 |_,_,.may b v x hb hn,hk=>.may b v x (fun e=>RelV.move hd (hb e) (fun i hi=>hk i (by simpa[A0R]using hi))) hn
 |_,_,.iface t v x hv,hk=>.iface t v x (RelV.move hd hv (fun i hi=>hk i (by simpa[A0R]using hi)))
 |_,_,.yld id b o hb hh hx,hk=>by
  obtain⟨h1,h2⟩:=hd id (hk id (by simp[A0R]));exact .yld id b o (h2.trans hb) (h1.trans hh) hx
 |_,_,.mp id b o hb hh hx,hk=>by
  obtain⟨h1,h2⟩:=hd id (hk id (by simp[A0R]));exact .mp id b o (h2.trans hb) (h1.trans hh) hx
 |_,_,.spare id a l c hf,hk=>.spare id a l c (RelV.move hd hf (fun i hi=>hk i (by simpa[A0R]using hi)))
 |_,_,.vw id n sz off len k x hh hle hp hx,hk=>by
  obtain⟨h1,h2⟩:=hd id (hk id (by simp[A0R]));refine .vw id n sz off len k x (h1.trans hh) hle hp (fun e=>?_);obtain⟨g1,a,c,g2,g3⟩:=hx e;refine⟨g1,a,c,?_,g3⟩;rcases g2 with h|h|⟨q1,b,cap,cs,ty,fz,q2,q3⟩
  ·exact .inl h
  ·exact .inr (.inl h)
  ·exact .inr (.inr ⟨q1,b,cap,cs,ty,fz,h2.trans q2,q3⟩)
 |_,_,.fullc id len cap a hf,hk=>.fullc id len cap a (RelV.move hd hf (fun i hi=>hk i (by simpa[A0R]using hi)))
theorem RelVs.move {D:Nat->Prop}(hd:∀i,D i->H1 i=H i/\ρ1 i=ρ i):∀{l:List AV} {xs:List Value},RelVs w F ρ H l xs->(∀i,i∈A2r l->D i)->RelVs w F ρ1 H1 l xs
 |_,_,.nil,_=>.nil
 |_,_,.cons v l x xs hv hs,hk=>.cons v l x xs (RelV.move hd hv (fun i hi=>hk i (by simp[A2r,hi]))) (RelVs.move hd hs (fun i hi=>hk i (by simp[A2r,hi])))
end
mutual
theorem RelV.more (hd:∀i o,H i=some o->H1 i=some o/\ρ1 i=ρ i):∀{v:AV} {x:Value},RelV w F ρ H v x->RelV w F ρ1 H1 v x
 |_,_,.imm v x hi=>.imm v x hi
 |_,_,.ptr id off b o hb hh hx=>by
  obtain⟨h1,h2⟩:=hd id o hh;exact .ptr id off b o (h2.trans hb) h1 hx
 |_,_,.ep id n off k x hh hle hp hx=>by
  obtain⟨h1,h2⟩:=hd id _ hh;exact .ep id n off k x h1 hle hp (fun e=>by obtain⟨b,q1,q2⟩:=hx e;exact⟨b,h2.trans q1,q2⟩)
 |_,_,.full id len k x hh hle hp hx=>by
  obtain⟨h1,h2⟩:=hd id _ hh;refine .full id len k x h1 hle hp (fun e=>?_);rcases hx e with h|h|⟨q1,b,cap,cs,ty,fz,q2,q3⟩
  ·exact .inl h
  ·exact .inr (.inl h)
  ·exact .inr (.inr ⟨q1,b,cap,cs,ty,fz,h2.trans q2,q3⟩)
 |_,_,.sl id off len cap b k hb hh hx hlc=>by
  obtain⟨h1,h2⟩:=hd id _ hh;exact .sl id off len cap b k (h2.trans hb) h1 hx hlc
 |_,_,.fn f l1 l2 x1 x2 h1 h2=>.fn f l1 l2 x1 x2 (RelVs.more hd h1) (RelVs.more hd h2)
 |_,_,.agg l x hl=>.agg l x (RelVs.more hd hl)
 |_,_,.tup l x hl=>.tup l x (RelVs.more hd hl)
 |_,_,.may b v x hb hn=>.may b v x (fun e=>RelV.more hd (hb e)) hn
 |_,_,.iface t v x hv=>.iface t v x (RelV.more hd hv)
 |_,_,.yld id b o hb hh hx=>by
  obtain⟨h1,h2⟩:=hd id o hh;exact .yld id b o (h2.trans hb) h1 hx
 |_,_,.mp id b o hb hh hx=>by
  obtain⟨h1,h2⟩:=hd id o hh;exact .mp id b o (h2.trans hb) h1 hx
 |_,_,.spare id a l c hf=>.spare id a l c (RelV.more hd hf)
 |_,_,.vw id n sz off len k x hh hle hp hx=>by
  obtain⟨h1,h2⟩:=hd id _ hh;refine .vw id n sz off len k x h1 hle hp (fun e=>?_);obtain⟨g1,a,c,g2,g3⟩:=hx e;refine⟨g1,a,c,?_,g3⟩;rcases g2 with h|h|⟨q1,b,cap,cs,ty,fz,q2,q3⟩
  ·exact .inl h
  ·exact .inr (.inl h)
  ·exact .inr (.inr ⟨q1,b,cap,cs,ty,fz,h2.trans q2,q3⟩)
 |_,_,.fullc id len cap a hf=>.fullc id len cap a (RelV.more hd hf)
theorem RelVs.more (hd:∀i o,H i=some o->H1 i=some o/\ρ1 i=ρ i):∀{l:List AV} {xs:List Value},RelVs w F ρ H l xs->RelVs w F ρ1 H1 l xs
 |_,_,.nil=>.nil
 |_,_,.cons v l x xs hv hs=>.cons v l x xs (RelV.more hd hv) (RelVs.more hd hs)
end
theorem A7b:∀{l:List AV} {i j:Nat},j∈A0R (l.getD i .undef)->j∈A2r l
 |[],i,j,h=>by simp[A0R]at h
 |v::r,0,j,h=>by simp[A2r];left;simpa using h
 |v::r,i+1,j,h=>by
  simp only[List.getD_cons_succ]at h;simp only[A2r,List.mem_append];exact .inr (A7b h)
theorem A9C:∀{l:List (Nat×AV)} {t:Nat} {v:AV} {j:Nat},aget l t=some v->j∈A0R v->j∈A5u l
 |[],t,v,j,h,hj=>by cases h
 |(k,u)::r,t,v,j,h,hj=>by
  simp only[aget]at h;simp only[A5u,List.mem_append]
  by_cases e:k=t
  ·subst e;rw[A0t,cond_true]at h;cases h;exact .inl hj
  ·rw[A0O e,cond_false]at h;exact .inr (A9C h hj)
theorem RelO.tr {id:Nat}{o:HO}(hv:∀(v:AV) (x:Value),(∀i,i∈A0R v->i∈A5v (some o))->RelV w F ρ H v x->RelV w F ρ1 H1 v x)(hρ:ρ1 id=ρ id)
  (hr:RelO G w F ρ H id o):RelO G w F ρ1 H1 id o:=by
 cases o with
 |blk k=>
  obtain⟨h0,h1|⟨b,h1,h2⟩⟩:=hr
  ·exact⟨h0,.inl ⟨h1.1,hρ.trans h1.2⟩⟩
  ·refine⟨h0,.inr ⟨b,hρ.trans h1,⟨fun hnm=>?_,h2.mp,h2.mu,h2.fr⟩⟩⟩;obtain⟨cs,ty,fz,q1,q2,q3,q4⟩:=h2.ex hnm;refine⟨cs,ty,fz,q1,q2,q3,fun i hi=>?_⟩;obtain⟨x,g1,g2⟩:=q4 i hi;refine⟨x,g1,?_,g2.2⟩;have g2:=g2.1;cases hc:k.c with
   |cells l=>
    rw[hc]at g2;exact hv _ _ (fun j hj=>by simp only[A5v,hc,B86];exact A7b hj) g2
   |_=>rw[hc]at g2;exact g2
 |iter s p=>
  obtain⟨b,h1,h2⟩:=hr;exact⟨b,hρ.trans h1,h2⟩
 |loop l=>
  obtain⟨b,h1,h2,r,h3,h4⟩:=hr;exact⟨b,hρ.trans h1,h2,r,h3,⟨h4.st,h4.pend,h4.size,fun t v e=>hv _ _ (fun j hj=>by simp only[A5v];exact A9C e hj) (h4.tmps t v e),h4.ps,h4.as,h4.bd⟩⟩
theorem A33:∀{a l:List Nat},B0R a l=true->∀i,i∈a->i∈l
 |[],l,h,i,hi=>by simp at hi
 |x::r,l,h,i,hi=>by
  simp only[B0R,cond_eq_ite]at h;split at h
  ·rename_i hm;rcases List.mem_cons.1 hi with rfl|hi
   ·clear h
    induction l with
    |nil=>simp[A1K]at hm
    |cons y l ih=>
     simp only[A1K,cond_eq_ite]at hm;split at hm
     ·rename_i e;rw[Nat.eq_of_beq_eq_true e];simp
     ·exact List.mem_cons_of_mem _ (ih hm)
   ·exact A33 h i hi
  ·cases h
theorem A7c:∀{a l:List Nat},A1O a l=true->∀i,i∈a->i∉l
 |[],l,h,i,hi=>by simp at hi
 |x::r,l,h,i,hi=>by
  simp only[A1O,cond_eq_ite]at h;split at h
  ·cases h
  ·rename_i hm;rcases List.mem_cons.1 hi with rfl|hi
   ·intro hmem;apply hm;clear h hm
    induction l with
    |nil=>simp at hmem
    |cons y l ih=>
     simp only[A1K,cond_eq_ite];split
     ·rfl
     ·rename_i e;rcases List.mem_cons.1 hmem with rfl|hmem
      ·exact absurd (A0t _) e
      ·exact ih hmem
   ·exact A7c h i hi
theorem A08 {α:Type}:∀{l:List (Nat×α)} {i:Nat},i∈keys l↔∃o,aget l i=some o
 |[],i=>by simp[keys,aget]
 |(k,v)::r,i=>by
  simp only[keys,List.mem_cons,aget]
  by_cases e:k=i
  ·subst e;rw[A0t,cond_true];simp
  ·rw[A0O e,cond_false,<- A08];exact⟨fun h=>h.resolve_left (fun h=>e h.symm),.inr⟩
theorem A8e {α:Type}:∀{l:List (Nat×α)} {i:Nat} {o:α},aget l i=some o->(i,o)∈l
 |[],i,o,h=>by cases h
 |(k,v)::r,i,o,h=>by
  simp only[aget]at h
  by_cases e:k=i
  ·subst e;rw[A0t,cond_true]at h;cases h;simp
  ·rw[A0O e,cond_false]at h;exact List.mem_cons_of_mem _ (A8e h)
theorem A7d {ks:List Nat}:∀{h:List (Nat×HO)},A4k ks h=true->∀i o,(i,o)∈h->∀j,j∈A5v (some o)->j∈ks
 |[],hc,i,o,hi=>by simp at hi
 |(k,u)::r,hc,i,o,hi=>by
  simp only[A4k,cond_eq_ite]at hc;split at hc
  ·rename_i ha;rcases List.mem_cons.1 hi with e|hi
   ·cases e;exact A33 ha
   ·exact A7d hc i o hi
  ·cases hc
def A2V (h:List (Nat×HO))(ρ:Nat->Option Nat):Nat->Option Nat:=fun i=>if i∈keys h then ρ i else none
theorem MRel.part {h:List (Nat×HO)}(hm:MRel G F ρ H w)(hsub:∀id o,aget h id=some o->H id=some o)(hcl:A4k (keys h) h=true):
  MRel G F (A2V h ρ) (aget h) w:=by
 have hin:∀i,i∈keys h->A2V h ρ i=ρ i:=fun i hi=>by simp[A2V,hi]
 have hpr:∀i b,A2V h ρ i=some b->i∈keys h/\ρ i=some b:=fun i b e=>by
  simp only[A2V]at e;split at e
  ·exact⟨by assumption,e⟩
  ·cases e
 refine⟨fun id o ho=>?_,fun id b hb=>A08.1 (hpr id b hb).1,fun i j b hi hj=>hm.inj i j b (hpr i b hi).2 (hpr j b hj).2,fun id b hb=>hm.lt id b (hpr id b hb).2,hm.frz,hm.glob⟩;have hk:id∈keys h:=A08.2 ⟨o,ho⟩;refine(hm.heap id o (hsub id o ho)).tr (fun v x hv hr=>RelV.move (D:=fun i=>i∈keys h) (fun i hi=>⟨?_,hin i hi⟩) hr (fun i hi=>A7d hcl id o (A8e ho) i (hv i hi))) (hin id hk);obtain⟨o',ho'⟩:=A08.1 hi;rw[ho',hsub i o' ho']
theorem KD.frame {h:List (Nat×HO)}{D:Delta}{y:Value}(hm:MRel G F ρ H w)(hsub:∀id o,aget h id=some o->H id=some o)
  (hws:∀i,i∈keys D.ws->i∈keys h\/i∈D.al) (hal:∀i,i∈D.al->H i=none) (hk:KD G F (A2V h ρ) (aget h) w D y w'):KD G F ρ H w D y w':=by
 obtain⟨F',ρ',q1,q2,q3,q4⟩:=hk;have hin:∀i,i∈keys h->A2V h ρ i=ρ i:=fun i hi=>by simp[A2V,hi]
 have hpr:∀i b,A2V h ρ i=some b->i∈keys h/\ρ i=some b:=fun i b e=>by
  simp only[A2V]at e;split at e
  ·exact⟨by assumption,e⟩
  ·cases e
 generalize hHs:A00 (aget h) D.ws=Hs at q1 q3 q4;unfold KD;generalize hH2:A00 H D.ws=H2;have hdom:∀i,i∈keys h->∃o,Hs i=some o:=fun i hi=>by
  obtain⟨o,ho⟩:=A08.1 hi;rw[<- hHs];exact B6K ho
 have hsame:∀i o,Hs i=some o->H2 i=some o:=fun i o ho=>by
  rw[<- hHs]at ho;rw[<- hH2]
  by_cases hi:i∈keys D.ws
  ·rw[B16 (B:=aget h) hi];exact ho
  ·rw[A05 hi]at ho ⊢; exact hsub i o ho
 have hout:∀i,Hs i=none->H2 i=H i/\i∉keys h:=fun i ho=>by
  refine⟨?_,fun hi=>by obtain⟨o,h'⟩:=hdom i hi;rw[h']at ho;cases ho⟩;rw[<- hH2];refine A05 (fun hi=>?_);obtain⟨o,h'⟩:=A5Q (A:=aget h) hi;rw[hHs,ho]at h';cases h'
 have hnew:∀i o,H i=some o->i∉keys h->Hs i=none:=fun i o ho hi=>by
  rw[<- hHs];have hnk:i∉keys D.ws:=fun hk=>by
   rcases hws i hk with h'|h'
   ·exact hi h'
   ·rw[hal i h']at ho;cases ho
  rw[A05 hnk];cases e:aget h i with
  |none=>rfl
  |some o'=>exact absurd (A08.2 ⟨o',e⟩) hi
 let ρ2:Nat->Option Nat:=fun i=>match Hs i with|some _=>ρ' i|none=>ρ i
 have r2in:∀i o,Hs i=some o->ρ2 i=ρ' i:=fun i o e=>by simp only[ρ2,e]
 have r2out:∀i,Hs i=none->ρ2 i=ρ i:=fun i e=>by simp only[ρ2,e]
 have hρ':∀i b,ρ' i=some b->∃o,Hs i=some o:=fun i b e=>q1.dom i b e;have hlift:∀{v:AV} {x:Value},RelV w' F' ρ' Hs v x->RelV w' F' ρ2 H2 v x:=fun hv=>RelV.more (fun i o e=>⟨hsame i o e,r2in i o e⟩) hv;have hkeep:HKeep w ρ H w' ρ2 H2:=by
  refine⟨fun id o h1 h2=>?_,fun id k h1=>?_,q3.sz⟩
  ·by_cases hi:id∈keys h
   ·obtain⟨o',ho'⟩:=A08.1 hi;have e:=hsub id o' ho';rw[h1]at e;cases e;obtain⟨o2,g1,g2,g3⟩:=q3.box id o ho' h2;exact⟨o2,hsame _ _ g1,g2,(r2in _ _ g1).trans (g3.trans (hin id hi))⟩
   ·have hn:=hnew id o h1 hi;exact⟨o,by rw[(hout id hn).1];exact h1,h2,r2out id hn⟩
  ·by_cases hi:id∈keys h
   ·obtain⟨o',ho'⟩:=A08.1 hi;have e:=hsub id o' ho';rw[h1]at e;cases e;obtain⟨k2,g1,g2,g3,g4⟩:=q3.blk id k ho';refine⟨k2,hsame _ _ g1,g2,g3,fun e=>?_⟩;obtain⟨p1,p2,p3,p4⟩:=g4 e;exact⟨p1,p2,p3,(r2in _ _ g1).trans (p4.trans (hin id hi))⟩
   ·have hn:=hnew id _ h1 hi;exact⟨k,by rw[(hout id hn).1];exact h1,rfl,Nat.le_refl _,fun _=>⟨rfl,rfl,.inl rfl,r2out id hn⟩⟩
 have hext:Ext G F ρ w F' ρ2 w':=by
  refine⟨q2.io,q2.size,fun b hb hn=>q2.same b hb (fun id e=>hn id (hpr id b e).2),q2.frz,q2.keep,fun b hb=>?_,fun id b hb=>?_⟩
  ·rcases q2.more b hb with h'|h'|⟨id,h'⟩
   ·exact .inl h'
   ·exact .inr (.inl h')
   ·exact .inr (.inr ⟨id,(hpr id b h').2⟩)
  ·cases e:Hs id with
   |none=>exact .inl ⟨id,(r2out id e).symm.trans hb⟩
   |some o=>
    rcases q2.im id b ((r2in id o e).symm.trans hb)with⟨id',h'⟩|h'
    ·exact .inl ⟨id',(hpr id' b h').2⟩
    ·exact .inr h'
 refine⟨F',ρ2,⟨fun id o ho=>?_,fun id b hb=>?_,fun i j b hi hj=>?_,fun id b hb=>?_,q1.frz,q1.glob⟩,hext,hkeep,hlift q4⟩
 ·cases e:Hs id with
  |some o'=>
   have:=hsame id o' e;rw[ho]at this;cases this;exact(q1.heap id o e).tr (fun v x _ hr=>hlift hr) (r2in id o e)
  |none=>
   obtain⟨h1,h2⟩:=hout id e;rw[h1]at ho;refine(hm.heap id o ho).mono q2.frz q2.keep hkeep (r2out id e) (fun b hb=>?_);have hnp:∀id',A2V h ρ id'≠some b:=fun id' e'=>by
    obtain⟨g1,g2⟩:=hpr id' b e';exact h2 (hm.inj id id' b hb g2▸g1)
   refine⟨q2.same b (hm.lt id b hb) hnp,fun hf=>?_⟩;rcases q2.more b hf with h'|h'|⟨id',h'⟩
   ·exact h'
   ·have:=hm.lt id b hb;omega
   ·exact absurd h' (hnp id')
 ·cases e:Hs id with
  |some o=>exact⟨o,hsame id o e⟩
  |none=>
   obtain⟨o,ho⟩:=hm.dom id b ((r2out id e).symm.trans hb);exact⟨o,by rw[(hout id e).1];exact ho⟩
 ·have mixed:∀i j o,Hs i=some o->Hs j=none->ρ' i=some b->ρ j=some b->i=j:=fun i j o ei ej hi hj=>by
   exfalso;rcases q2.im i b hi with⟨id',h'⟩|h'
   ·obtain⟨g1,g2⟩:=hpr id' b h';have:=hm.inj j id' b hj g2;subst this;exact(hout j ej).2 g1
   ·have:=hm.lt j b hj;omega
  cases ei:Hs i with
  |some o=>
   rw[r2in i o ei]at hi;cases ej:Hs j with
   |some o'=>rw[r2in j o' ej]at hj;exact q1.inj i j b hi hj
   |none=>rw[r2out j ej]at hj;exact mixed i j o ei ej hi hj
  |none=>
   rw[r2out i ei]at hi;cases ej:Hs j with
   |some o'=>rw[r2in j o' ej]at hj;exact(mixed j i o' ej ei hj hi).symm
   |none=>rw[r2out j ej]at hj;exact hm.inj i j b hi hj
 ·cases e:Hs id with
  |some o=>rw[r2in id o e]at hb;exact q1.lt id b hb
  |none=>rw[r2out id e]at hb;exact Nat.lt_of_lt_of_le (hm.lt id b hb) q2.size
theorem A2K {look:Nat->Option HO}:∀{l:List Nat} {i:Nat} {o:HO},aget (A4X look l) i=some o->look i=some o
 |[],i,o,e=>by cases e
 |j::r,i,o,e=>by
  simp only[A4X]at e;split at e
  ·rename_i u hu;simp only[aget]at e
   by_cases hj:j=i
   ·subst hj;rw[A0t,cond_true]at e;cases e;exact hu
   ·rw[A0O hj,cond_false]at e;exact A2K e
  ·exact A2K e
theorem B4j {id:Nat}:A0R (.yld id)=[id]:=rfl
theorem A2W (hm:MRel G F ρ H w){look:Nat->Option HO}(hl:∀id o,look id=some o->H id=some o){site:Nat}{tb:Nat->List (Nat×HO)->AV->List AV->Option Delta}{cv:AV}{vs:List AV}{D:Delta}
  (hD:A2g site look tb cv vs=some D) (hc:A0M (A1n P G) D.cs) (hfresh:∀i,i∈D.al->H i=none) {xs:Array Value} (hv:RelVs w F ρ H vs xs.toList):B9d P ρ cv xs w (KD G F ρ H w D):=by
 unfold A2g at hD;simp only[cond_eq_ite]at hD;split at hD
 ·rename_i hcl;rw[Bool.and_eq_true]at hcl;obtain⟨c1,c2⟩:=hcl;generalize hh:A4X look (A4L look 1000000 (A0R cv++A2r vs) [])=h at*;have hsub:∀id o,aget h id=some o->H id=some o:=fun id o e=>hl id o (A2K (by rw[hh];exact e));have hks:=A33 c1;split at hD
  ·rename_i D' hD';split at hD
   ·rename_i hw;rw[Bool.and_eq_true]at hw;have hws:∀i,i∈keys D'.ws->i∈keys h\/i∈D'.al:=fun i hi=>by simpa using A33 hw.1 i hi
    cases hD;have hsp:SpecD P G cv vs h D'.v D'.ws D'.al:=hc.1;have hin:∀i,i∈keys h->aget h i=H i/\A2V h ρ i=ρ i:=fun i hi=>by
     obtain⟨o,ho⟩:=A08.1 hi;exact⟨by rw[ho,hsub i o ho],by simp[A2V,hi]⟩
    have h1:=hsp F (A2V h ρ) w xs (hm.part hsub c2) (RelVs.move (D:=fun i=>i∈keys h) hin hv (fun i hi=>hks i (by simp[hi])));have fin:∀(y:Value) (w':World),KD G F (A2V h ρ) (aget h) w {v:=D'.v,ws:=D'.ws,al:=D'.al,cs:=[]} y w'->KD G F ρ H w {D' with cs:=.callD cv vs h D'.v D'.ws D'.al::D'.cs} y w':=fun y w' hk=>
     KD.frame (D:={D' with cs:=.callD cv vs h D'.v D'.ws D'.al::D'.cs}) hm hsub hws hfresh hk
    unfold B9d at h1 ⊢;cases cv with
    |fn f a c=>exact h1.mono fin
    |yld id=>
     intro b hb;refine(h1 b ?_).mono fin;rw[(hin id (hks id (by simp[B4j]))).2];exact hb
    |_=>exact h1
   ·cases hD
  ·cases hD
 ·cases hD
end
mutual
def B4k:Nat->Value->Option AV
 |0,_=>none
 |n+1,v=>
  match v with
  |.bool b=>some (.bool b)
  |.int k x=>some (.int k x)
  |.string s=>some (.str s.data.toList)
  |.pointer none=>some .nilp
  |.slice none 0 0=>some .nils
  |.nilFunc=>some .nilf
  |.nilIface=>some .nili
  |.map none=>some .undef
  |.func (.func f) a c=>match A3C n a.toList,A3C n c.toList with
   |some a',some c'=>some (.fn f a' c')
   |_,_=>none
  |.agg xs=>match A3C n xs.toList with
   |some l=>some (.agg l)
   |none=>none
  |.tuple xs=>match A3C n xs.toList with
   |some l=>some (.tup l)
   |none=>none
  |_=>none
def A3C:Nat->List Value->Option (List AV)
 |0,_=>none
 |n+1,l=>
  match l with
  |[]=>some []
  |v::r=>match B4k n v,A3C n r with
   |some v',some r'=>some (v'::r')
   |_,_=>none
end
theorem A5R (w:World)(F:Nat->Prop):∀n,(∀v a,B4k n v=some a->RelI w F a v)/\(∀l a,A3C n l=some a->RelIs w F a l):=by
 intro n
 induction n with
 |zero=>exact⟨fun v a h=>by simp[B4k]at h,fun l a h=>by simp[A3C]at h⟩
 |succ n ih=>
  obtain⟨ihV,ihL⟩:=ih;refine⟨fun v a h=>?_,fun l a h=>?_⟩
  ·simp only[B4k]at h;split at h
   ·cases h;exact .bool _
   ·cases h;exact .int _ _
   ·cases h;exact .str _ _ rfl
   ·cases h;exact .nilp
   ·cases h;exact .nils
   ·cases h;exact .nilf
   ·cases h;exact .nili
   ·cases h;exact .undef _
   ·split at h
    ·rename_i h1 h2;cases h;exact .fn _ _ _ _ _ (ihL _ _ h1) (ihL _ _ h2)
    ·cases h
   ·split at h
    ·rename_i h1;cases h;exact .agg _ _ (ihL _ _ h1)
    ·cases h
   ·split at h
    ·rename_i h1;cases h;exact .tup _ _ (ihL _ _ h1)
    ·cases h
   ·cases h
  ·cases l with
   |nil=>simp only[A3C]at h;cases h;exact .nil
   |cons v r=>
    simp only[A3C]at h;split at h
    ·rename_i h1 h2;cases h;exact .cons _ _ _ _ (ihV _ _ h1) (ihL _ _ h2)
    ·cases h
def A0x:Operand->Option Opd
 |.tmp t=>some (.t t)
 |.const v=>match B4k 12 v with|some a=>some (.c a)|none=>none
 |.global g=>some (.g g)
 |.func f=>some (.c (.fn f [] []))
def A1U:List Operand->Option (List Opd)
 |[]=>some []
 |x::r=>match A0x x,A1U r with
  |some a,some b=>some (a::b)
  |_,_=>none
def A9D:Option Operand->Option (Option Opd)
 |none=>some none
 |some x=>match A0x x with|some a=>some (some a)|none=>none
def B3g (P:Program)(t:TypeId):Option (Option Nat):=
 match P.underlying t,P.info? t with
 |some d,some i=>some (cond (B3Y d) (some i.size) none)
 |_,_=>none
def A8f (P:Program)(t:TypeId):Option Nat:=match P.info? t with|some i=>some i.size|none=>none
def C6D:IntKind->Nat
 |.i8=>1|.i16=>2|.i32=>3|.i64=>4|.u8=>5|.u16=>6|.u32=>7|.u64=>8
def A9E (P:Program)(e:TypeId):Nat:=
 match P.underlying e with
 |some (.int k)=>C6D k
 |some .bool=>9
 |some .string=>10
 |_=>0
def B17:List Value->Bool
 |[]=>true
 |v::r=>v.oneCell'&&B17 r
def A7e (P:Program)(t:TypeId):Option (List AV):=
 match P.info? t with
 |some i=>match i.zero with
  |some z=>cond (B17 z.cells.toList&&Nat.beq z.cells.size i.size) (A3C 12000 z.cells.toList) none
  |none=>none
 |none=>none
def B8u (P:Program)(e:TypeId):Option (Nat×Nat×List AV):=
 match P.info? e,A7e P e with
 |some i,some z=>cond (Nat.beq i.bytes 0) none (some (i.size,i.bytes,z))
 |_,_=>none
def A5S (P:Program)(t:TypeId):Option XOp:=
 match A7e P t with
 |some z=>match P.underlying t with
  |some (.array n e)=>match A5x (A9E P e) z,A8f P e with
   |some c,some sz=>some (.new c n sz)
   |_,_=>none
  |_=>some (.new (.cells z) 1 z.length)
 |none=>none
def A8g (P:Program)(t:TypeId)(a:Operand):Option XOp:=
 match B3g P t,A0x a with
 |some agg,some a=>some (.load agg a)
 |_,_=>none
def A5T (P:Program)(t:TypeId)(a x:Operand):Option XOp:=
 match A8f P t,A0x a,A0x x with
 |some sz,some a,some x=>some (.store sz a x)
 |_,_,_=>none
def A1X (kd:Nat):Operand->Bool
 |.const (.slice none 0 0)=>Nat.beq kd 0
 |.const .nilFunc=>Nat.beq kd 1
 |.const (.pointer none)=>Nat.beq kd 2
 |_=>false
def A8h (P:Program)(neq:Bool)(t:TypeId)(x y:Operand):Option XOp:=
 match A8f P t,A2D P 16 t 0,A0x x,A0x y with
 |some n,some ls,some a,some b=>cond (P.eqGuardType P.depth t) none (some (.eqa neq n ls a b))
 |_,_,_,_=>none
def B18 (P:Program)(neq:Bool)(t:TypeId)(x y:Operand):Option XOp:=
 match P.underlying t with
 |some (.int _)=>match A0x x,A0x y with
  |some a,some b=>some (.bin (cond neq .neq .eql) a b)
  |_,_=>none
 |some .string=>match A0x x,A0x y with
  |some a,some b=>some (.bin (cond neq .neq .eql) a b)
  |_,_=>none
 |some .bool=>match A0x x,A0x y with
  |some a,some b=>some (.eqb neq a b)
  |_,_=>none
 |some (.struct _)=>A8h P neq t x y
 |some (.array _ _)=>A8h P neq t x y
 |some (.slice _)=>cond (A1X 0 y) (match A0x x with|some a=>some (.isnil neq 0 a)|none=>none) none
 |some (.func _ _ _)=>cond (A1X 1 y) (match A0x x with|some a=>some (.isnil neq 1 a)|none=>none) none
 |some (.pointer _)=>cond (A1X 2 y) (match A0x x with|some a=>some (.isnil neq 2 a)|none=>none) none
 |_=>none
def B08 (P:Program)(op:BinOp)(t:TypeId)(x y:Operand):Option XOp:=
 match op with
 |.eql=>B18 P false t x y
 |.neq=>B18 P true t x y
 |op=>match A0x x,A0x y with
  |some a,some b=>some (.bin op a b)
  |_,_=>none
def A8i (P:Program)(src dst:TypeId)(x:Operand):Option XOp:=
 match P.underlying src,P.underlying dst,A0x x with
 |some (.int _),some (.int k),some a=>some (.conv k a)
 |_,_,_=>none
def A4q (P:Program)(t:TypeId)(x:Operand)(ix:Nat):Option XOp:=
 match P.underlying t with
 |some (.struct fs)=>match fs[ix]? with
  |some f=>match A8f P f.type,A0x x with
   |some n,some a=>cond (Nat.beq n 0) none (some (.fieldA f.offset a))
   |_,_=>none
  |none=>none
 |_=>none
def A5U (P:Program)(t:TypeId)(x:Operand)(ix:Nat):Option XOp:=
 match P.underlying t with
 |some (.struct fs)=>match fs[ix]? with
  |some f=>match B3g P f.type,A0x x with
   |some agg,some a=>some (.field f.offset agg a)
   |_,_=>none
  |none=>none
 |_=>none
def A8j (P:Program)(t:TypeId)(x i:Operand):Option XOp:=
 match P.underlying t with
 |some (.slice e)=>match A8f P e,A0x x,A0x i with
  |some sz,some a,some b=>some (.idxA none sz a b)
  |_,_,_=>none
 |some (.array n e)=>match A8f P e,A0x x,A0x i with
  |some sz,some a,some b=>some (.idxA (some n) sz a b)
  |_,_,_=>none
 |_=>none
def B09 (P:Program)(t:TypeId)(x i:Operand):Option XOp:=
 match P.underlying t with
 |some (.array n e)=>match A8f P e,B3g P e,A0x x,A0x i with
  |some sz,some agg,some a,some b=>some (.idx n sz agg.isSome a b)
  |_,_,_,_=>none
 |some .string=>match A0x x,A0x i with
  |some a,some b=>some (.idxs a b)
  |_,_=>none
 |_=>none
def A5V (P:Program)(t:TypeId)(x:Operand)(lo hi mx:Option Operand):Option XOp:=
 match A0x x,A9D lo,A9D hi,A9D mx with
 |some a,some l,some h,some m=>match P.underlying t with
  |some (.slice e)=>match A8f P e with
   |some sz=>some (.slice sz a l h m)
   |none=>none
  |some .string=>match m with
   |none=>some (.slices a l h)
   |some _=>none
  |some (.array n e)=>match A8f P e with
   |some sz=>some (.slicea n sz a l h m)
   |none=>none
  |_=>none
 |_,_,_,_=>none
def A1L (P:Program)(place:Nat->Option (Nat×Nat)):List (Nat×Operand)->Option (List (Nat×Nat×Opd))
 |[]=>some []
 |(i,x)::r=>match place i,A0x x,A1L P place r with
  |some (off,sz),some a,some l=>some ((off,sz,a)::l)
  |_,_,_=>none
def A8k (P:Program)(fs:Array Field)(i:Nat):Option (Nat×Nat):=
 match fs[i]? with
 |some f=>match A8f P f.type with
  |some n=>some (f.offset,n)
  |none=>none
 |none=>none
def B6L (P:Program):List Field->Bool
 |[]=>true
 |f::r=>(A8f P f.type).isSome&&B6L P r
def A5W (P:Program)(t:TypeId)(ps:List (Nat×Operand)):Option XOp:=
 match A7e P t,P.underlying t with
 |some z,some (.struct fs)=>cond (B6L P fs.toList) (match A1L P (A8k P fs) ps with
  |some l=>some (.build z l)
  |none=>none) none
 |some z,some (.array _ e)=>match A8f P e with
  |some sz=>match A1L P (fun i=>some (i*sz,sz)) ps with
   |some l=>some (.build z l)
   |none=>none
  |none=>none
 |_,_=>none
def A4r (P:Program)(t:TypeId)(len:Nat)(ps:List (Nat×Operand)):Option XOp:=
 match P.underlying t with
 |some (.slice e)=>match B8u P e with
  |some (sz,_,z)=>cond (A0X (len*sz) 16777216&& !Nat.beq sz 0) (match A1L P (fun i=>some (i*sz,sz)) ps with
   |some l=>some (.buildS sz len (A9E P e) z l)
   |none=>none) none
  |none=>none
 |_=>none
def intK (P:Program)(t:TypeId):Option (Option IntKind):=
 match P.underlying t,P.info? t with
 |some (.int k),some i=>cond (Nat.beq i.size 1) (some (some k)) none
 |some .bool,some i=>cond (Nat.beq i.size 1) (some none) none
 |_,_=>none
def A8l (P:Program):Nat->List Field->Option (List (Option IntKind))
 |_,[]=>some []
 |i,f::r=>match intK P f.type,A8l P (i+1) r with
  |some k,some l=>cond (Nat.beq f.offset i) (some (k::l)) none
  |_,_=>none
def A8m (P:Program)(t:TypeId):Option MV:=
 match P.underlying t with
 |some (.int _)=>match intK P t with
  |some k=>some ⟨false,[k]⟩
  |none=>none
 |some .bool=>match intK P t with
  |some k=>some ⟨false,[k]⟩
  |none=>none
 |some (.struct fs)=>match A8l P 0 fs.toList with
  |some l=>some ⟨true,l⟩
  |none=>none
 |some (.array n e)=>match intK P e with
  |some k=>some ⟨true,List.replicate n k⟩
  |none=>none
 |_=>none
def A9F:List (Option IntKind)->Bool
 |[]=>true
 |some _::r=>A9F r
 |none::_=>false
def C5z (n:Nat):List (Nat×Nat):=(List.range n).map fun i=>(i,0)
def B3Z (P:Program)(t:TypeId):Option MV:=
 match A8m P t,A2D P 16 t 0,P.info? t with
 |some m,some ls,some i=>cond (A9F m.ks&&(decide (ls=C5z m.ks.length)&&Nat.beq i.size m.ks.length)) (some m) none
 |_,_,_=>none
def B19:Option IntKind->Value->Bool
 |some k,.int k' n=>A2R k k'&&decide (n=0)
 |none,.bool b=> !b
 |_,_=>false
def A8n:List (Option IntKind)->List Value->Bool
 |[],[]=>true
 |k::r,x::xs=>B19 k x&&A8n r xs
 |_,_=>false
def B4l (m:MV)(x:Value):Bool:=
 match m.agg with
 |true=>match x with
  |.agg xs=>A8n m.ks xs.toList
  |_=>false
 |false=>match m.ks with
  |[k]=>B19 k x
  |_=>false
def C1y (P:Program)(t:TypeId):Option MV:=
 match A8m P t,P.info? t with
 |some m,some i=>match i.zero with
  |some z=>cond (B4l m z) (some m) none
  |none=>none
 |_,_=>none
def A5X (P:Program)(t:TypeId)(r:Option Operand):Option XOp:=
 match P.underlying t with
 |some (.map k e)=>match B3Z P k,C1y P e with
  |some kk,some vk=>match r with
   |none=>some (.mkmap kk vk [])
   |some x=>match A0x x with
    |some a=>some (.mkmap kk vk [a])
    |none=>none
  |_,_=>none
 |_=>none
def A8o (P:Program)(t:TypeId)(x y:Operand)(ok:Bool):Option XOp:=
 match P.underlying t,A0x x,A0x y with
 |some (.map k e),some a,some b=>match B3Z P k,C1y P e with
  |some kk,some vk=>some (.mlook kk vk ok a b)
  |_,_=>none
 |_,_,_=>none
def A5c (P:Program)(t:TypeId)(x y z:Operand):Option XOp:=
 match P.underlying t,A0x x,A0x y,A0x z with
 |some (.map k e),some a,some b,some c=>match B3Z P k,C1y P e with
  |some kk,some vk=>some (.mput kk vk a b c)
  |_,_=>none
 |_,_,_,_=>none
def B1a (P:Program)(t:TypeId)(l c:Operand):Option XOp:=
 match P.underlying t,A0x l,A0x c with
 |some (.slice e),some a,some b=>match B8u P e with
  |some (sz,by_,z)=>some (.mks sz by_ (A9E P e) z a b)
  |none=>none
 |_,_,_=>none
def A8p (P:Program)(c:Call):Option XOp:=
 match A1U c.args.toList with
 |some as=>match c.callee with
  |.value (.func f)=>some (.call f as)
  |.value x=>match A0x x with
   |some a=>some (.callv a as)
   |none=>none
  |.builtin .len=>match c.argTypes.toList,as with
   |[t],[a]=>match P.underlying t with
    |some .string=>some (.lens a)
    |some (.slice _)=>some (.len a)
    |some (.array n _)=>some (.lena n a)
    |some (.map _ _)=>some (.mlen a)
    |_=>none
   |_,_=>none
  |.builtin .copy=>match c.argTypes.toList,as with
   |[t,u],[a,b]=>match P.underlying t,P.underlying u with
    |some (.slice e),some (.slice _)=>match B8u P e with
     |some (sz,_,_)=>some (.copy sz a b)
     |none=>none
    |_,_=>none
   |_,_=>none
  |.builtin .delete=>match c.argTypes.toList,as with
   |[t,_],[a,b]=>match P.underlying t with
    |some (.map k e)=>match B3Z P k,C1y P e with
     |some kk,some vk=>some (.mdel kk vk a b)
     |_,_=>none
    |_=>none
   |_,_=>none
  |.builtin .cap=>match c.argTypes.toList,as with
   |[t],[a]=>match P.underlying t with
    |some (.slice _)=>some (.cap a)
    |_=>none
   |_,_=>none
  |.builtin .append=>match c.argTypes.toList,as with
   |[t,u],[a,b]=>match P.underlying t,P.underlying u with
    |some (.slice e),some (.slice _)=>match B8u P e with
     |some (sz,by_,_)=>some (.append sz by_ (A9E P e) a b)
     |none=>none
    |some (.slice e),some (.int _)=>match B8u P e with
     |some (sz,by_,_)=>some (.growz sz by_ (A9E P e) a b)
     |none=>none
    |_,_=>none
   |_,_=>none
  |.builtin .clear=>match c.argTypes.toList,as with
   |[t],[a]=>match P.underlying t with
    |some (.slice e)=>match B8u P e with
     |some (sz,_,z)=>match sz with
      |0=>none
      |sz=>some (.clear sz z a)
     |none=>none
    |_=>none
   |_,_=>none
  |.builtin .max=>some (.mm true as)
  |.builtin .min=>some (.mm false as)
  |_=>none
 |none=>none
def A8q (P:Program)(src dst:TypeId)(x:Operand):Option XOp:=
 match P.underlying src,P.underlying dst,A0x x with
 |some (.slice e),some .string,some a=>match P.underlying e with
  |some (.int .u8)=>some (.bstr a)
  |_=>none
 |some (.int _),some .string,some a=>some (.rstr a)
 |_,_,_=>none
def A8r (P:Program)(src dst:TypeId)(x:Operand):Option XOp:=
 match P.underlying src,P.underlying dst,A0x x with
 |some .string,some (.slice e),some a=>match P.underlying e with
  |some (.int .u8)=>some (.sbyt a)
  |_=>none
 |_,_,_=>none
def A9G (P:Program)(op:Op):Option XOp:=
 match op with
 |.move x=>match A0x x with|some a=>some (.mv a)|none=>none
 |.assign x=>match A0x x with|some a=>some (.mv a)|none=>none
 |.pick c a b=>match A0x c,A0x a,A0x b with
  |some c,some a,some b=>some (.pick c a b)
  |_,_,_=>none
 |.alloc e=>A5S P e
 |.box _ x=>match A0x x with|some a=>some (.box a)|none=>none
 |.build t ps=>A5W P t ps.toList
 |.buildSlice t len ps=>A4r P t len ps.toList
 |.load t a=>A8g P t a
 |.store t a x=>A5T P t a x
 |.nilCheck x=>match A0x x with|some a=>some (.nilck a)|none=>none
 |.binOp op t x y _=>B08 P op t x y
 |.unOp op _ x=>match A0x x with|some a=>some (.un op a)|none=>none
 |.convert src dst x=>match A8i P src dst x with
  |some r=>some r
  |none=>match A8q P src dst x with
   |some r=>some r
   |none=>A8r P src dst x
 |.range t x=>match P.underlying t,A0x x with
  |some .string,some a=>some (.rng a)
  |_,_=>none
 |.next x true=>match A0x x with|some a=>some (.nxt a)|none=>none
 |.makeFunc (.func f) a c=>match A1U a.toList,A1U c.toList with
  |some a,some c=>some (.mkf f a c)
  |_,_=>none
 |.makeSlice t l c=>B1a P t l c
 |.makeMap t r=>A5X P t r
 |.lookup t x y ok=>A8o P t x y ok
 |.mapUpdate t x y z=>A5c P t x y z
 |.insert t x y z=>A5c P t x y z
 |.slice t x lo hi mx=>A5V P t x lo hi mx
 |.fieldAddr t x f=>A4q P t x f
 |.field t x f=>A5U P t x f
 |.indexAddr t x i=>A8j P t x i
 |.index t x i=>B09 P t x i
 |.extract x i=>match A0x x with|some a=>some (.ext a i)|none=>none
 |.call c=>A8p P c
 |_=>none
def A8s (P:Program)(op:Op):Option XOp:=
 match op with
 |.defer _=>none
 |op=>match A9G P op with
  |some x=>some x
  |none=>some .bad
def A1k (P:Program)(o:Oper)(ev:Operand->Value)(w:World)(K:Value->World->Prop):Prop:=A4R P ((execOp ev o).run P w) K
section
variable {P:Program}{G:GL}{F:Nat->Prop}{ρ:Nat->Option Nat}{H:Nat->Option HO}{w:World}{look:Nat->Option HO}{D:Delta}{o:Oper}{ev:Operand->Value}{T:List (Nat×AV)}
theorem A1k.eff {r:Result Value}(hrun:(execOp ev o).run P w=r.andThen fun v w'=>.ok (.value v) w')(he:Eff G F ρ H w r D):A1k P o ev w (KD G F ρ H w D):=by
 obtain⟨x,w',F',ρ',h1,h2⟩:=he;subst h1;exact .inl ⟨_,x,w',hrun,.inl rfl,F',ρ',h2⟩
theorem A0q.eff {r:Result Value}(hm:MRel G F ρ H w)(h:A0q F ρ H w r D):Eff G F ρ H w r D:=by
 obtain⟨x,h1,h2,h3,h4⟩:=h;exact Eff.pure hm h1 h3 h2
def A3h (G:GL)(F:Nat->Prop)(ρ:Nat->Option Nat)(H:Nat->Option HO)(w:World)(T:List (Nat×AV))(ev:Operand->Value):Prop:=
 ∀X o,A0x X=some o->RelV w F ρ H (o.ev G T) (ev X)
theorem A3h.list (hev:A3h G F ρ H w T ev):∀{l:List Operand} {os:List Opd},A1U l=some os->RelVs w F ρ H (os.map (Opd.ev G T)) (l.map ev)
 |[],os,h=>by cases h;exact .nil
 |x::r,os,h=>by
  simp only[A1U]at h;split at h
  ·rename_i h1 h2;cases h;exact .cons _ _ _ _ (hev _ _ h1) (hev.list h2)
  ·cases h
theorem A5d {t:TypeId}{agg:Option Nat}(h:B3g P t=some agg):TyOk P t agg:=by
 unfold B3g at h;split at h
 ·rename_i d i h1 h2;cases h;refine⟨⟨d,h1,?_⟩,i,h2,fun n e=>?_⟩
  ·cases d<;>rfl
  ·cases d<;>simp[B3Y]at e<;>exact e
 ·cases h
theorem A2F {t:TypeId}{n:Nat}(h:A8f P t=some n):∃i,P.info? t=some i/\i.size=n:=by
 unfold A8f at h;split at h
 ·rename_i i hi;cases h;exact⟨i,hi,rfl⟩
 ·cases h
theorem A7f:∀{l:List Value},B17 l=true->∀v∈l,v.oneCell'=true
 |[],_,v,h=>by simp at h
 |u::r,ha,v,h=>by
  simp only[B17,Bool.and_eq_true]at ha;rcases List.mem_cons.1 h with rfl|h
  ·exact ha.1
  ·exact A7f ha.2 v h
theorem A2n {t:TypeId}{z:List AV}(h:A7e P t=some z):∃i v,P.info? t=some i/\i.zero=some v/\v.cells.size=i.size/\(∀u∈v.cells.toList,u.oneCell'=true)/\(∀(w:World) F,RelIs w F z v.cells.toList)/\
  (zeroValue t).run P w=.ok v w:=by
 unfold A7e at h;split at h
 ·rename_i i hi;split at h
  ·rename_i v hv;simp only[cond_eq_ite]at h;split at h
   ·rename_i hc;simp only[Bool.and_eq_true]at hc;exact⟨i,v,hi,hv,Nat.eq_of_beq_eq_true hc.2,A7f hc.1,fun w F=>(A5R w F 12000).2 _ _ h,by simp[zeroValue,typeInfo,hi,hv]⟩
   ·cases h
  ·cases h
 ·cases h
theorem A4s {e:TypeId}{sz by_:Nat}{z:List AV}(h:B8u P e=some (sz,by_,z)):ElOk P e sz by_/\A7e P e=some z:=by
 unfold B8u at h;split at h
 ·rename_i i z' hi hz;simp only[cond_eq_ite]at h;split at h
  ·cases h
  ·rename_i hb;cases h;obtain⟨i',v,h1,h2,h3,h4,h5,h6⟩:=A2n (w:=default) hz;rw[hi]at h1;cases h1;exact⟨⟨⟨i,v,hi,rfl,rfl,h2,h3⟩,fun e=>hb (by simp[e])⟩,hz⟩
 ·cases h
theorem A0B {s:Sem Value}:(do pure (Next.value (<- s)):Sem Next).run P w=(s.run P w).andThen fun v w'=>.ok (.value v) w':=by
 simp
theorem B3h {t:TypeId}(ho:o.op=.alloc t){x:XOp}(hx:A5S P t=some x)(hm:MRel G F ρ H w){site:Nat}{d:Dir}{vs:List AV}(hD:A0L site look x d vs=some D)(hfresh:∀i,i∈D.al->H i=none):
  A1k P o ev w (KD G F ρ H w D):=by
 unfold A5S at hx;split at hx
 ·rename_i z hz;obtain⟨i,v,h1,h2,h3,h4,h5,h6⟩:=A2n (w:=w) hz;have hrun:(execOp ev o).run P w=(((newRow t v.cells).run P w).andThen fun a w'=>.ok (.pointer (some a)) w').andThen fun v w'=>.ok (.value v) w':=by
   unfold execOp;rw[ho];simp only[A0B];simp only[Instr.alloc,Sem.run_bind,h6,Result.andThen_ok,newVar,newRow,run_newObj,Sem.run_pure]
  have hrel:RelVs w F ρ H z v.cells.toList:=(h5 w F).toVs;have go:∀c,c.size=z.length->(∀i y,i<z.length->RelV w F ρ H (z.getD i .undef) y->y.oneCell'=true->RelE w F ρ H c i y)->∀n sz,A9e site c n sz=some D->A1k P o ev w (KD G F ρ H w D):=by
   intro c hs hc n sz hD;have hlen:z.length=v.cells.size:=by have:=hrel.len;simpa using this
   refine A1k.eff hrun (A5H hm (hfresh site (B11 hD)) (by omega) (fun j hj=>?_) hD);obtain⟨y,p1,p2⟩:=hrel.getD (by omega:j<z.length);exact⟨y,p1,hc j y (by omega) p2 (h4 y (List.mem_of_getElem? (l:=v.cells.toList) (i:=j) (by simpa using p1)))⟩
  split at hx
  ·split at hx
   ·rename_i c sz hc _;cases hx;obtain⟨g1,g2⟩:=A3J (w:=w) (F:=F) (ρ:=ρ) (H:=H) hc;exact go c g1 g2 _ _ hD
   ·cases hx
  ·cases hx;exact go (.cells z) rfl (fun i y hi hr hone=>⟨hr,hone⟩) _ _ hD
 ·cases hx
theorem B6M {t:TypeId}{X:Operand}(ho:o.op=.box t X){a:Opd}(hX:A0x X=some a)(hm:MRel G F ρ H w)(hev:A3h G F ρ H w T ev){site:Nat}{d:Dir}
  (hD:A0L site look (.box a) d [a.ev G T]=some D) (hfresh:∀i,i∈D.al->H i=none):A1k P o ev w (KD G F ρ H w D):=by
 simp only[A0L,x1,cond_eq_ite,List.getD_cons_zero]at hD;split at hD
 ·rename_i hp;have hv:RelV w F ρ H (a.ev G T) (ev X):=hev _ _ hX;have hp:A1P (a.ev G T).cs=true:=hp;obtain⟨hmay,hund⟩:=A4m hp;have hcs:=hv.csOf hmay hund;have hrun:(execOp ev o).run P w=(((newRow t (ev X).cells).run P w).andThen fun a w'=>.ok (.pointer (some a)) w').andThen fun v w'=>.ok (.value v) w':=by
   unfold execOp;rw[ho];simp only[A0B];simp only[Instr.box,Sem.run_bind,Result.andThen_ok,newVar,newRow,run_newObj,Sem.run_pure]
  have hlen:(a.ev G T).cs.length=(ev X).cells.size:=by have:=hcs.len;simpa using this
  refine A1k.eff hrun (A5H hm (hfresh site (B11 hD)) (by simp only[Cont.size];omega) (fun j hj=>?_) hD);simp only[Cont.size]at hj;obtain⟨y,p1,p2⟩:=hcs.getD hj;exact⟨y,p1,p2,hcs.ones hp y (List.mem_of_getElem? (l:=(ev X).cells.toList) (i:=j) (by simpa using p1))⟩
 ·cases hD
theorem B4m {X:Operand}(ho:o.op=.move X\/o.op=.assign X){a:Opd}(hX:A0x X=some a)(hm:MRel G F ρ H w)(hev:A3h G F ρ H w T ev){site:Nat}{d:Dir}
  (hD:A0L site look (.mv a) d [a.ev G T]=some D):A1k P o ev w (KD G F ρ H w D):=by
 have hrun:(execOp ev o).run P w=(Result.ok (ev X) w).andThen fun v w'=>.ok (.value v) w':=by
  unfold execOp;rcases ho with ho|ho<;>rw[ho]<;>rfl
 exact A1k.eff hrun (Eff.val hm hD rfl (hev _ _ hX))
theorem B4n {X Y Z:Operand}(ho:o.op=.pick X Y Z){a b c:Opd}(hX:A0x X=some a)(hY:A0x Y=some b)(hZ:A0x Z=some c)(hm:MRel G F ρ H w)(hev:A3h G F ρ H w T ev){site:Nat}{d:Dir}
  (hD:A0L site look (.pick a b c) d [a.ev G T,b.ev G T,c.ev G T]=some D) (hc:A0M (A1n P G) D.cs):A1k P o ev w (KD G F ρ H w D):=by
 have hg:=A73 (P:=P) (hev _ _ hX) (hev _ _ hY) (hev _ _ hZ) hD hc;refine A1k.eff (r:=(do pure (if <- asBool (ev X)then ev Y else ev Z):Sem Value).run P w) ?_ (hg.eff hm);unfold execOp;rw[ho];simp only[Sem.run_bind,Sem.run_pure];cases(asBool (ev X)).run P w<;>rfl
theorem B4o {t:TypeId}{X:Operand}(ho:o.op=.load t X){x:XOp}(hx:A8g P t X=some x)(hm:MRel G F ρ H w)(hl:∀id o,look id=some o->H id=some o)(hev:A3h G F ρ H w T ev){site:Nat}{d:Dir}
  (hD:A0L site look x d (x.opds.map (Opd.ev G T))=some D) (hc:A0M (A1n P G) D.cs):A1k P o ev w (KD G F ρ H w D):=by
 unfold A8g at hx;split at hx
 ·rename_i agg a hagg hX;cases hx;refine A1k.eff (r:=(Instr.loadAt t (ev X)).run P w) ?_ (A9k hm hl (hev _ _ hX) (A5d hagg) hD hc);unfold execOp;rw[ho];simp only[A0B]
 ·cases hx
theorem B3i {t:TypeId}{X Y:Operand}(ho:o.op=.store t X Y){x:XOp}(hx:A5T P t X Y=some x)(hm:MRel G F ρ H w)(hl:∀id o,look id=some o->H id=some o)(hev:A3h G F ρ H w T ev){site:Nat}{d:Dir}
  (hD:A0L site look x d (x.opds.map (Opd.ev G T))=some D) (hc:A0M (A1n P G) D.cs):A1k P o ev w (KD G F ρ H w D):=by
 unfold A5T at hx;split at hx
 ·rename_i sz a b hsz hX hY;cases hx;obtain⟨i,h1,h2⟩:=A2F hsz;obtain⟨y,w',F',ρ',g1,g2⟩:=A6P (P:=P) hm hl (hev _ _ hX) (hev _ _ hY) h1 h2 hD hc;cases hr:(Instr.storeAt t (ev X) (ev Y)).run P w with
  |halt q w'=>rw[hr]at g1;cases g1
  |ok u w1=>
   rw[hr]at g1;simp only[Result.andThen_ok]at g1;cases g1;refine .inl ⟨.skip,undef,w',?_,.inr ⟨rfl,rfl⟩,F',ρ',g2⟩;unfold execOp;rw[ho];simp[hr]
 ·cases hx
theorem A4t {op:BinOp}{t yt:TypeId}{X Y:Operand}(ho:o.op=.binOp op t X Y yt):
  (execOp ev o).run P w=((do eqGuard op t X Y (ev X) (ev Y);binOp op t (ev X) (ev Y):Sem Value).run P w).andThen fun v w'=>.ok (.value v) w':=by
 unfold execOp;rw[ho];simp only[A0B]
theorem B4p (neq:Bool):(cond neq BinOp.neq BinOp.eql)=(if neq then .neq else .eql):=by cases neq<;>rfl
theorem A8t (d:Nat){t e:TypeId}(he:P.underlying t=some (.slice e))(a:Option Addr)(l c l' c':Nat):(Op.equalIn (d+1) t (.slice a l c) (.slice none l' c')).run P w=.ok a.isNone w:=by
 simp only[Op.equalIn,Sem.run_bind,A0b he,Result.andThen_ok];cases a<;>rfl
theorem A9H (d:Nat){t:TypeId}{p r:Array TypeId}{v:Bool}(he:P.underlying t=some (.func p r v))(x:Value)(b:Bool)(hx:(x=.nilFunc/\b=true)\/∃f a c,x=.func f a c/\b=false):(Op.equalIn (d+1) t x .nilFunc).run P w=.ok b w:=by
 simp only[Op.equalIn,Sem.run_bind,A0b he,Result.andThen_ok];rcases hx with⟨rfl,rfl⟩|⟨f,a,c,rfl,rfl⟩<;>rfl
theorem B1b (d:Nat){t e:TypeId}(he:P.underlying t=some (.pointer e))(a:Option Addr):(Op.equalIn (d+1) t (.pointer a) (.pointer none)).run P w=.ok a.isNone w:=by
 simp only[Op.equalIn,Sem.run_bind,A0b he,Result.andThen_ok];cases a<;>rfl
theorem B1c {t e:TypeId}(he:P.underlying t=some (.slice e))(a:Option Addr)(l c l' c':Nat):(Op.equal t (.slice a l c) (.slice none l' c')).run P w=.ok a.isNone w:=A8t 9999 he a l c l' c'
theorem B3j {t:TypeId}{p r:Array TypeId}{v:Bool}(he:P.underlying t=some (.func p r v))(x:Value)(b:Bool)(hx:(x=.nilFunc/\b=true)\/∃f a c,x=.func f a c/\b=false):(Op.equal t x .nilFunc).run P w=.ok b w:=A9H 9999 he x b hx
theorem B4q {t e:TypeId}(he:P.underlying t=some (.pointer e))(a:Option Addr):(Op.equal t (.pointer a) (.pointer none)).run P w=.ok a.isNone w:=B1b 9999 he a
theorem A8u {neq:Bool}{t:TypeId}{X Y:Operand}{x y:Value}{q:Bool}(hg:(eqGuard (if neq then BinOp.neq else .eql) t X Y x y).run P w=.ok () w)(he:(Op.equal t x y).run P w=.ok q w)
  (h1:binOp .eql t x y=(do pure (.bool (<- Op.equal t x y)))) (h2:binOp .neq t x y=(do pure (.bool (!(<- Op.equal t x y))))):
  (do eqGuard (if neq then BinOp.neq else .eql) t X Y x y;binOp (if neq then BinOp.neq else .eql) t x y:Sem Value).run P w=.ok (.bool (A1o neq q)) w:=by
 rw[Sem.run_bind,hg,Result.andThen_ok];cases neq
 ·simp only[Bool.false_eq_true,if_false,h1,Sem.run_bind,he,Result.andThen_ok,Sem.run_pure,A1o]
 ·simp only[if_true,h2,Sem.run_bind,he,Result.andThen_ok,Sem.run_pure,A1o]
def A5Y (ev:Operand->Value):Prop:=(∀v,ev (.const v)=v)/\(∀f,ev (.func f)=.func (.func f) #[] #[])
theorem A4u {neq:Bool}{kd:Nat}{t yt:TypeId}{X Y:Operand}(ho:o.op=.binOp (if neq then .neq else .eql) t X Y yt)(hY:A1X kd Y=true)(hcon:A5Y ev){a:Opd}(hX:A0x X=some a)
  (ht:(kd=0/\∃e,P.underlying t=some (.slice e))\/(kd=1/\∃p r v,P.underlying t=some (.func p r v))\/(kd=2/\∃e,P.underlying t=some (.pointer e)))
  (hm:MRel G F ρ H w) (hl:∀id o,look id=some o->H id=some o) (hev:A3h G F ρ H w T ev) {site:Nat} {d:Dir}
  (hD:A0L site look (.isnil neq kd a) d [a.ev G T]=some D) (hc:A0M (A1n P G) D.cs):A1k P o ev w (KD G F ρ H w D):=by
 obtain⟨b,h1,h2,h3,h4⟩:=A77 hl (hev _ _ hX).unc hD hc;refine A1k.eff (A4t ho) (Eff.pure hm (x:=.bool (A1o neq b)) ?_ h2 (by rw[h1];exact A01 _));rcases ht with⟨rfl,e,he⟩|⟨rfl,p,r,v,he⟩|⟨rfl,e,he⟩
 ·have hYc:Y=.const (.slice none 0 0):=by
   unfold A1X at hY;split at hY<;>first|rfl|cases hY
  subst hYc;rcases h4 with⟨_,q,l,c,hx,rfl⟩|⟨h,_⟩|⟨h,_⟩
  ·rw[hcon.1,hx];exact A8u (by unfold eqGuard;cases neq<;>rfl) (B1c he q l c 0 0) rfl rfl
  ·cases h
  ·exact absurd rfl h
 ·have hYc:Y=.const .nilFunc:=by
   unfold A1X at hY;split at hY<;>first|rfl|cases hY
  subst hYc;rcases h4 with⟨h,_⟩|⟨_,hx⟩|⟨_,h,_⟩
  ·cases h
  ·rw[hcon.1];have he':=B3j (w:=w) he (ev X) b hx;rcases hx with⟨hx,_⟩|⟨f,a,c,hx,_⟩
   ·rw[hx]at he' ⊢;exact A8u (by unfold eqGuard;cases neq<;>rfl) he' rfl rfl
   ·rw[hx]at he' ⊢;exact A8u (by unfold eqGuard;cases neq<;>rfl) he' rfl rfl
  ·exact absurd rfl h
 ·have hYc:Y=.const (.pointer none):=by
   unfold A1X at hY;split at hY<;>first|rfl|cases hY
  subst hYc;rcases h4 with⟨h,_⟩|⟨h,_⟩|⟨_,_,q,hx,rfl⟩
  ·cases h
  ·cases h
  ·rw[hcon.1,hx];exact A8u (by unfold eqGuard;cases neq<;>rfl) (B4q he q) rfl rfl
end
section
variable {P:Program}{G:GL}{F:Nat->Prop}{ρ:Nat->Option Nat}{H:Nat->Option HO}{w:World}{look:Nat->Option HO}{D:Delta}{o:Oper}{ev:Operand->Value}{T:List (Nat×AV)}
theorem B2a {neq:Bool}{t yt:TypeId}{X Y:Operand}(ho:o.op=.binOp (if neq then .neq else .eql) t X Y yt){x:XOp}(hx:A8h P neq t X Y=some x)(hd:∃d,P.underlying t=some d/\B3Y d=true)
  (hm:MRel G F ρ H w) (hev:A3h G F ρ H w T ev) {site:Nat} {d:Dir}
  (hD:A0L site look x d (x.opds.map (Opd.ev G T))=some D) (hc:A0M (A1n P G) D.cs):A1k P o ev w (KD G F ρ H w D):=by
 unfold A8h at hx;split at hx
 ·rename_i n ls a b hn hls hX hY;simp only[cond_eq_ite]at hx;split at hx
  ·cases hx
  ·rename_i hg;cases hx;obtain⟨i,h1,h2⟩:=A2F hn;subst h2;exact A1k.eff (A4t ho) ((B03 hls (by simpa using hg) h1 hd (hev _ _ hX) (hev _ _ hY) hD).eff hm)
 ·cases hx
theorem B6N {op:BinOp}{t yt:TypeId}{X Y:Operand}(ho:o.op=.binOp op t X Y yt){x:XOp}(hx:B08 P op t X Y=some x)(hcon:A5Y ev)(hm:MRel G F ρ H w)(hl:∀id o,look id=some o->H id=some o)(hev:A3h G F ρ H w T ev){site:Nat}{d:Dir}
  (hD:A0L site look x d (x.opds.map (Opd.ev G T))=some D) (hc:A0M (A1n P G) D.cs):A1k P o ev w (KD G F ρ H w D):=by
 have plain:∀a b,A0x X=some a->A0x Y=some b->x=.bin op a b->A1k P o ev w (KD G F ρ H w D):=by
  intro a b hX hY e;subst e;exact A1k.eff (A4t ho) ((A3H (hev _ _ hX) (hev _ _ hY) hD hc).eff hm)
 have eq:∀neq:Bool,op=(if neq then .neq else .eql)->B18 P neq t X Y=some x->A1k P o ev w (KD G F ρ H w D):=by
  intro neq hop hx;rw[hop]at ho;unfold B18 at hx;split at hx
  ·split at hx
   ·rename_i a b hX hY;cases hx;rw[B4p]at hD;exact A1k.eff (A4t ho) ((A3H (hev _ _ hX) (hev _ _ hY) hD hc).eff hm)
   ·cases hx
  ·split at hx
   ·rename_i a b hX hY;cases hx;rw[B4p]at hD;exact A1k.eff (A4t ho) ((A3H (hev _ _ hX) (hev _ _ hY) hD hc).eff hm)
   ·cases hx
  ·rename_i ht;split at hx
   ·rename_i a b hX hY;cases hx;exact A1k.eff (A4t ho) ((B0Z ht (hev _ _ hX) (hev _ _ hY) hD).eff hm)
   ·cases hx
  ·rename_i fs ht;exact B2a ho hx ⟨_,ht,rfl⟩ hm hev hD hc
  ·rename_i n e ht;exact B2a ho hx ⟨_,ht,rfl⟩ hm hev hD hc
  ·rename_i e ht;simp only[cond_eq_ite]at hx;split at hx
   ·rename_i hY;split at hx
    ·rename_i a hX;cases hx;exact A4u ho hY hcon hX (.inl ⟨rfl,e,ht⟩) hm hl hev hD hc
    ·cases hx
   ·cases hx
  ·rename_i p r v ht;simp only[cond_eq_ite]at hx;split at hx
   ·rename_i hY;split at hx
    ·rename_i a hX;cases hx;exact A4u ho hY hcon hX (.inr (.inl ⟨rfl,_,_,_,ht⟩)) hm hl hev hD hc
    ·cases hx
   ·cases hx
  ·rename_i e ht;simp only[cond_eq_ite]at hx;split at hx
   ·rename_i hY;split at hx
    ·rename_i a hX;cases hx;exact A4u ho hY hcon hX (.inr (.inr ⟨rfl,_,ht⟩)) hm hl hev hD hc
    ·cases hx
   ·cases hx
  ·cases hx
 unfold B08 at hx;split at hx
 ·exact eq false rfl hx
 ·exact eq true rfl hx
 ·split at hx
  ·rename_i a b hX hY;cases hx;exact plain a b hX hY rfl
  ·cases hx
theorem B9e {op:UnOp}{t:TypeId}{X:Operand}(ho:o.op=.unOp op t X){a:Opd}(hX:A0x X=some a)(hm:MRel G F ρ H w)(hev:A3h G F ρ H w T ev){site:Nat}{d:Dir}
  (hD:A0L site look (.un op a) d [a.ev G T]=some D) (hc:A0M (A1n P G) D.cs):A1k P o ev w (KD G F ρ H w D):=by
 refine A1k.eff (r:=(Op.unary op (ev X)).run P w) ?_ ((B3e (P:=P) (hev _ _ hX) hD hc).eff hm);unfold execOp;rw[ho];simp only[A0B]
theorem B4r {src dst:TypeId}{X:Operand}(ho:o.op=.convert src dst X){x:XOp}(hx:A8i P src dst X=some x)(hm:MRel G F ρ H w)(hev:A3h G F ρ H w T ev){site:Nat}{d:Dir}
  (hD:A0L site look x d (x.opds.map (Opd.ev G T))=some D) (hc:A0M (A1n P G) D.cs):A1k P o ev w (KD G F ρ H w D):=by
 unfold A8i at hx;split at hx
 ·rename_i k0 k a h1 h2 hX;cases hx;refine A1k.eff (r:=(convert src dst (ev X)).run P w) ?_ ((A9q h1 h2 (hev _ _ hX) hD hc).eff hm);unfold execOp;rw[ho];simp only[A0B]
 ·cases hx
theorem B1d {t:TypeId}{X:Operand}{ix:Nat}(ho:o.op=.fieldAddr t X ix){x:XOp}(hx:A4q P t X ix=some x)(hm:MRel G F ρ H w)(hl:∀id o,look id=some o->H id=some o)(hev:A3h G F ρ H w T ev){site:Nat}{d:Dir}
  (hD:A0L site look x d (x.opds.map (Opd.ev G T))=some D) (hc:A0M (A1n P G) D.cs):A1k P o ev w (KD G F ρ H w D):=by
 unfold A4q at hx;split at hx
 ·rename_i fs ht;split at hx
  ·rename_i f hf;split at hx
   ·rename_i n a hn hX;simp only[cond_eq_ite]at hx;split at hx
    ·cases hx
    ·rename_i hn0;cases hx;obtain⟨i,h1,h2⟩:=A2F hn;refine A1k.eff (r:=(Instr.fieldAt t (ev X) ix).run P w) ?_ ((A6M hl ht hf rfl h1 (fun e=>hn0 (by simp[<- h2,e])) (hev _ _ hX) hD hc).eff hm);unfold execOp;rw[ho];simp only[A0B]
   ·cases hx
  ·cases hx
 ·cases hx
theorem B3k {t:TypeId}{X:Operand}{ix:Nat}(ho:o.op=.field t X ix){x:XOp}(hx:A5U P t X ix=some x)(hm:MRel G F ρ H w)(hev:A3h G F ρ H w T ev){site:Nat}{d:Dir}
  (hD:A0L site look x d (x.opds.map (Opd.ev G T))=some D) (hc:A0M (A1n P G) D.cs):A1k P o ev w (KD G F ρ H w D):=by
 unfold A5U at hx;split at hx
 ·rename_i fs ht;split at hx
  ·rename_i f hf;split at hx
   ·rename_i agg a hagg hX;cases hx;refine A1k.eff (r:=(Instr.field t (ev X) ix).run P w) ?_ ((A74 ht hf rfl (A5d hagg) (hev _ _ hX) hD hc).eff hm);unfold execOp;rw[ho];simp only[A0B]
   ·cases hx
  ·cases hx
 ·cases hx
theorem B4s {t:TypeId}{X I:Operand}(ho:o.op=.indexAddr t X I){x:XOp}(hx:A8j P t X I=some x)(hm:MRel G F ρ H w)(hl:∀id o,look id=some o->H id=some o)(hev:A3h G F ρ H w T ev){site:Nat}{d:Dir}
  (hD:A0L site look x d (x.opds.map (Opd.ev G T))=some D) (hc:A0M (A1n P G) D.cs):A1k P o ev w (KD G F ρ H w D):=by
 have hrun:(execOp ev o).run P w=((Instr.indexAt t (ev X) (ev I)).run P w).andThen fun v w'=>.ok (.value v) w':=by
  unfold execOp;rw[ho];simp only[A0B]
 unfold A8j at hx;split at hx
 ·rename_i e ht;split at hx
  ·rename_i sz a b hsz hX hI;cases hx;obtain⟨i,h1,h2⟩:=A2F hsz;exact A1k.eff hrun ((A4O (arr:=none) hl ht h1 h2 (hev _ _ hX).unc (hev _ _ hI) hD hc).eff hm)
  ·cases hx
 ·rename_i n e ht;split at hx
  ·rename_i sz a b hsz hX hI;cases hx;obtain⟨i,h1,h2⟩:=A2F hsz;exact A1k.eff hrun ((A4O (arr:=some n) hl ht h1 h2 (hev _ _ hX).unc (hev _ _ hI) hD hc).eff hm)
  ·cases hx
 ·cases hx
theorem B6O {t:TypeId}{X I:Operand}(ho:o.op=.index t X I){x:XOp}(hx:B09 P t X I=some x)(hm:MRel G F ρ H w)(hev:A3h G F ρ H w T ev){site:Nat}{d:Dir}
  (hD:A0L site look x d (x.opds.map (Opd.ev G T))=some D) (hc:A0M (A1n P G) D.cs):A1k P o ev w (KD G F ρ H w D):=by
 have hrun:(execOp ev o).run P w=((Instr.index t (ev X) (ev I)).run P w).andThen fun v w'=>.ok (.value v) w':=by
  unfold execOp;rw[ho];simp only[A0B]
 unfold B09 at hx;split at hx
 ·rename_i n e ht;split at hx
  ·rename_i sz agg a b hsz hagg hX hI;cases hx;obtain⟨i,h1,h2⟩:=A2F hsz;refine A1k.eff hrun ((A9r ht ?_ h1 h2 (hev _ _ hX) (hev _ _ hI) hD hc).eff hm);have hT:=A5d hagg;cases agg with
   |none=>exact hT
   |some m=>
    obtain⟨i',h1',h2'⟩:=hT.sz;rw[h1]at h1';cases h1';have:=h2' m rfl;simp only[Option.isSome_some,if_true];rw[<- h2,this];exact hT
  ·cases hx
 ·rename_i ht;split at hx
  ·rename_i a b hX hI;cases hx;exact A1k.eff hrun ((A9s ht (hev _ _ hX) (hev _ _ hI) hD hc).eff hm)
  ·cases hx
 ·cases hx
theorem A5Z (hev:A3h G F ρ H w T ev){x:Option Operand}{a:Option Opd}(h:A9D x=some a):(x.isSome=a.isSome)/\RelVs w F ρ H (a.toList.map (Opd.ev G T)) (x.toList.map ev):=by
 unfold A9D at h;split at h
 ·cases h;exact⟨rfl,.nil⟩
 ·split at h
  ·rename_i h1;cases h;exact⟨rfl,.cons _ _ _ _ (hev _ _ h1) .nil⟩
  ·cases h
theorem B3l {t:TypeId}{X:Operand}{lo hi mx:Option Operand}(ho:o.op=.slice t X lo hi mx){x:XOp}(hx:A5V P t X lo hi mx=some x)(hm:MRel G F ρ H w)(hl:∀id o,look id=some o->H id=some o)(hev:A3h G F ρ H w T ev){site:Nat}{d:Dir}
  (hD:A0L site look x d (x.opds.map (Opd.ev G T))=some D) (hc:A0M (A1n P G) D.cs):A1k P o ev w (KD G F ρ H w D):=by
 have hrun:(execOp ev o).run P w=((Instr.sliceAt t (ev X) (lo.map ev) (hi.map ev) (mx.map ev)).run P w).andThen fun v w'=>.ok (.value v) w':=by
  unfold execOp;rw[ho];simp only[A0B]
 unfold A5V at hx;split at hx
 ·rename_i a l h m hX hlo hhi hmx;obtain⟨b1,r1⟩:=A5Z hev hlo;obtain⟨b2,r2⟩:=A5Z hev hhi;obtain⟨b3,r3⟩:=A5Z hev hmx;have hrs:=r1.app (r2.app r3);split at hx
  ·rename_i e ht;split at hx
   ·rename_i sz hsz;cases hx;obtain⟨i,h1,h2⟩:=A2F hsz;have hD':A3u look d sz l.isSome h.isSome m.isSome (unc (a.ev G T)) (l.toList.map (Opd.ev G T)++(h.toList.map (Opd.ev G T)++m.toList.map (Opd.ev G T)))=some D:=by
     have:A0L site look (.slice sz a l h m) d ((XOp.slice sz a l h m).opds.map (Opd.ev G T))=some D:=hD;simp only[A0L,XOp.opds,List.map_cons,List.map_append,x1,List.getD_cons_zero,List.drop_succ_cons,List.drop_zero,List.append_assoc]at this;exact this
    have:=A6Q (P:=P) (t:=t) hm hl ht h1 h2 (hev _ _ hX).unc hrs (by cases l<;>cases h<;>cases m<;>rfl) hD' hc;refine A1k.eff hrun ?_;cases lo<;>cases hi<;>cases mx<;>cases l<;>cases h<;>cases m<;>simp at b1 b2 b3<;>simpa using this
   ·cases hx
  ·rename_i ht;split at hx
   ·cases hx;have hmx0:mx=none:=by cases mx<;>simp at b3 ⊢
    subst hmx0;have hD':A3W l.isSome h.isSome (a.ev G T) (l.toList.map (Opd.ev G T)++h.toList.map (Opd.ev G T))=some D:=by
     have:A0L site look (.slices a l h) d ((XOp.slices a l h).opds.map (Opd.ev G T))=some D:=hD;simp only[A0L,XOp.opds,List.map_cons,List.map_append,x1,List.getD_cons_zero,List.drop_succ_cons,List.drop_zero]at this;exact this
    have:=A6N (P:=P) (t:=t) ht (hev _ _ hX) (r1.app r2) (by cases l<;>cases h<;>rfl) hD' hc;refine A1k.eff (r:=(Instr.slice t (ev X) (lo.map ev) (hi.map ev) none).run P w) ?_ ?_
    ·rw[hrun];have:∀q s r,(Instr.sliceAt t q s r none).run P w=(Instr.slice t q s r none).run P w:=fun q s r=>by
      simp only[Instr.sliceAt,Sem.run_bind,A0b ht,Result.andThen_ok]
     rw[show Option.map ev none=none from rfl,this]
    ·refine A0q.eff hm ?_;cases lo<;>cases hi<;>cases l<;>cases h<;>simp at b1 b2<;>simpa using this
   ·cases hx
  ·rename_i n e ht;split at hx
   ·rename_i sz hsz;cases hx;obtain⟨i,h1,h2⟩:=A2F hsz;have hD':A5a look n sz l.isSome h.isSome m.isSome (a.ev G T) (l.toList.map (Opd.ev G T)++(h.toList.map (Opd.ev G T)++m.toList.map (Opd.ev G T)))=some D:=by
     have:A0L site look (.slicea n sz a l h m) d ((XOp.slicea n sz a l h m).opds.map (Opd.ev G T))=some D:=hD;simp only[A0L,XOp.opds,List.map_cons,List.map_append,x1,List.getD_cons_zero,List.drop_succ_cons,List.drop_zero,List.append_assoc]at this;exact this
    have hX':=hev _ _ hX;unfold A5a at hD';split at hD'
    ·rename_i id off hav;rw[hav]at hX';split at hD'
     ·rename_i k hk;simp only[cond_eq_ite]at hD';split at hD'
      ·rename_i hbx0;generalize hEv:ev X=xv at hX' hrun;cases hX' with
       |imm _ _ hi=>cases hi
       |ptr _ _ b ob hb hh hbx=>
        obtain⟨l',h',m',e1,e2,e3,e4,e5,e6,e7⟩:=A9z (P:=P) hrs (by cases l<;>cases h<;>cases m<;>rfl) (Nat.le_refl n) hD' hc false;have hbounds:(Instr.sliceBounds false n n (lo.map ev) (hi.map ev) (mx.map ev)).run P w=.ok (l',h',m') w:=by
         cases lo<;>cases hi<;>cases mx<;>cases l<;>cases h<;>cases m<;>simp at b1 b2 b3<;>simpa using e1
        refine A1k.eff hrun (Eff.pure hm (x:=.slice (some ⟨b,off+l'*sz,none⟩) (h'-l') (m'-l')) ?_ e6 ?_)
        ·simp only[Instr.sliceAt,Sem.run_bind,A0b ht,Result.andThen_ok,Instr.sureAddr,Sem.run_pure,hbounds,A0l h1,h2];rw[B14 e5]
        ·rw[e4];exact .sl id _ _ _ b k hb (hl _ _ hk) hbx0 (by omega)
      ·cases hD'
     ·cases hD'
    ·rename_i c hav;rw[hav]at hX';split at hD'
     ·rename_i z1 z2 z3;have hmx0:mx=none:=by cases mx<;>simp_all
      have hhi0:hi=none:=by cases hi<;>simp_all
      have hlo0:lo=none:=by cases lo<;>simp_all
      subst hmx0 hhi0 hlo0;generalize hEv:ev X=xv at hX' hrun;cases hX' with
      |imm _ _ hi'=>cases hi' with
       |iptr _ b o xs hF hc' hr ho'=>
        refine A1k.eff hrun (Eff.val hm hD' (x:=.slice (some ⟨b,o,none⟩) n n) ?_ (.imm _ _ (.imm c n (some n) b o n xs hF hc' hr ho' (Nat.le_refl _) (fun _ e=>Option.some.inj e))));simp only[Instr.sliceAt,Sem.run_bind,A0b ht,Result.andThen_ok,Instr.sureAddr,Sem.run_pure,Instr.sliceBounds,Option.map_none,A0l h1,h2];simp[Addr.add]
     ·cases hD'
    ·cases hD'
   ·cases hx
  ·cases hx
 ·cases hx
theorem A8v:∀{l:List Field},B6L P l=true->∀f∈l,∃n,A8f P f.type=some n
 |[],_,f,h=>by simp at h
 |g::r,ha,f,h=>by
  simp only[B6L,Bool.and_eq_true]at ha;rcases List.mem_cons.1 h with rfl|h
  ·exact Option.isSome_iff_exists.1 ha.1
  ·exact A8v ha.2 f h
theorem A4v (hev:A3h G F ρ H w T ev){place:Nat->Option (Nat×Nat)}:∀{ps:List (Nat×Operand)} {l:List (Nat×Nat×Opd)},A1L P place ps=some l->
  (ps.map (·.1)).map place=(l.map fun p=>(p.1,p.2.1)).map some/\RelVs w F ρ H ((l.map (·.2.2)).map (Opd.ev G T)) (ps.map fun p=>ev p.2)
 |[],l,h=>by cases h;exact⟨rfl,.nil⟩
 |(i,X)::r,l,h=>by
  simp only[A1L]at h;split at h
  ·rename_i off sz a l' h1 h2 h3;cases h;obtain⟨g1,g2⟩:=A4v hev h3;exact⟨by simp[h1,g1],.cons _ _ _ _ (hev _ _ h2) g2⟩
  ·cases h
theorem A3v {α β γ:Type}(f:α->β)(g:α->γ):∀(l:List α),(l.map f).zip (l.map g)=l.map fun a=>(f a,g a)
 |[]=>rfl
 |a::r=>by simp[A3v f g r]
theorem B3m {t:TypeId}{ps:Array (Nat×Operand)}(ho:o.op=.build t ps){x:XOp}(hx:A5W P t ps.toList=some x)(hm:MRel G F ρ H w)(hev:A3h G F ρ H w T ev){site:Nat}{d:Dir}
  (hD:A0L site look x d (x.opds.map (Opd.ev G T))=some D):A1k P o ev w (KD G F ρ H w D):=by
 have hrun:(execOp ev o).run P w=((Instr.build t (ps.map fun(i,x)=>(i,ev x))).run P w).andThen fun v w'=>.ok (.value v) w':=by
  unfold execOp;rw[ho];simp only[A0B]
 have hparts:(ps.map fun(i,x)=>(i,ev x)).toList=(ps.toList.map (·.1)).zip (ps.toList.map fun p=>ev p.2):=by
  rw[A3v];simp
 have go:∀(z:List AV) (l:List (Nat×Nat×Opd)) (place:Nat->Option (Nat×Nat)) (v:Value),RelVs w F ρ H z v.cells.toList->A1L P place ps.toList=some l->
   A0L site look (.build z l) d ((XOp.build z l).opds.map (Opd.ev G T))=some D->(∀cs,Instr.fill place v.cells (ps.map fun(i,x)=>(i,ev x)).toList=some cs->(Instr.build t (ps.map fun(i,x)=>(i,ev x))).run P w=.ok (.agg cs) w)->
   A1k P o ev w (KD G F ρ H w D):=by
  intro z l place v hz hl hD hfin;obtain⟨g1,g2⟩:=A4v hev hl;simp only[A0L,XOp.opds,B0W]at hD;split at hD
  ·rename_i l' hfill;obtain⟨cs,q1,q2⟩:=A76 g1 g2 hz hfill;rw[<- hparts]at q1;exact A1k.eff hrun (Eff.val hm hD (hfin cs q1) (.agg _ _ q2))
  ·cases hD
 unfold A5W at hx;split at hx
 ·rename_i z fs hz ht;simp only[cond_eq_ite]at hx;split at hx
  ·rename_i hall;split at hx
   ·rename_i l hl;cases hx;obtain⟨i,v,h1,h2,h3,h4,h5,h6⟩:=A2n (w:=w) hz;refine go z l (A8k P fs) v (h5 w F).toVs hl hD (fun cs hfill=>?_);have hplaces:(fs.mapM fun f=>do pure (f.offset,<- sizeOf f.type):Sem (Array (Nat×Nat))).run P w=.ok (fs.map fun f=>(f.offset,(A8f P f.type).getD 0)) w:=by
     rw[Array.mapM_eq_mapM_toList];have key:∀(l:List Field),(∀f∈l,∃n,A8f P f.type=some n)->(l.mapM fun f=>do pure (f.offset,<- sizeOf f.type):Sem (List (Nat×Nat))).run P w=.ok (l.map fun f=>(f.offset,(A8f P f.type).getD 0)) w:=by
      intro l
      induction l with
      |nil=>intro _;simp
      |cons f r ih=>
       intro hf;obtain⟨n,hn⟩:=hf f (by simp);obtain⟨i,p1,p2⟩:=A2F hn;simp only[List.mapM_cons,Sem.run_bind,A0l p1,Result.andThen_ok,Sem.run_pure,ih (fun g hg=>hf g (by simp[hg])),List.map_cons,hn,Option.getD_some,p2]
     simp only[Sem.run_map,key fs.toList (fun f hf=>A8v hall f hf),Result.andThen_ok]
     congr 1
     apply Array.toList_inj.1;simp
    have hpl:(fun i=>(fs.map fun f=>(f.offset,(A8f P f.type).getD 0))[i]?)=A8k P fs:=by
     funext i
     unfold A8k;cases hfi:fs[i]? with
     |none=>simp[hfi]
     |some f=>
      have hmem:f∈fs.toList:=by
       have:=Array.mem_of_getElem? hfi;simpa using this
      obtain⟨n,hn⟩:=A8v hall f hmem;simp[hfi,hn]
    simp only[Instr.build,Sem.run_bind,h6,Result.andThen_ok,A0b ht,hplaces];rw[hpl,hfill];rfl
   ·cases hx
  ·cases hx
 ·rename_i z n e hz ht;split at hx
  ·rename_i sz hsz;split at hx
   ·rename_i l hl;cases hx;obtain⟨i,v,h1,h2,h3,h4,h5,h6⟩:=A2n (w:=w) hz;obtain⟨ie,p1,p2⟩:=A2F hsz;refine go z l _ v (h5 w F).toVs hl hD (fun cs hfill=>?_);simp only[Instr.build,Sem.run_bind,h6,Result.andThen_ok,A0b ht,A0l p1,p2];rw[hfill];rfl
   ·cases hx
  ·cases hx
 ·cases hx
theorem B2b:∀{place:Nat->Option (Nat×Nat)} {l:List (Nat×Value)} {zs cs:Array Value},Instr.fill place zs l=some cs->(∀u∈zs.toList,u.oneCell'=true)->(∀p∈l,∀u∈p.2.cells.toList,u.oneCell'=true)->∀u∈cs.toList,u.oneCell'=true
 |place,[],zs,cs,h,hz,hl,u,hu=>by cases h;exact hz u hu
 |place,(i,v)::r,zs,cs,h,hz,hl,u,hu=>by
  simp only[Instr.fill]at h;split at h
  ·cases h
  ·rename_i off size hp;split at h
   ·cases h
   ·refine B2b h ?_ (fun p hp=>hl p (by simp[hp])) u hu;have hv:=hl (i,v) (by simp);have key:∀(ys:List Value) (j:Nat) (zs:Array Value),(∀u∈ys,u.oneCell'=true)->(∀u∈zs.toList,u.oneCell'=true)->∀u∈((ys.zipIdx j).foldl (fun cs (c,j)=>cs.setIfInBounds (off+j) c) zs).toList,u.oneCell'=true:=by
     intro ys
     induction ys with
     |nil=>intro j zs _ h2 u hu;exact h2 u hu
     |cons y ys ih=>
      intro j zs h1 h2 u hu;simp only[List.zipIdx_cons,List.foldl_cons]at hu;refine ih (j+1) _ (fun q hq=>h1 q (by simp[hq])) ?_ u hu;intro q hq;rw[Array.toList_setIfInBounds]at hq;rcases List.mem_or_eq_of_mem_set hq with hq|rfl
      ·exact h2 q hq
      ·exact h1 _ (by simp)
    have:=key v.cells.toList 0 zs hv hz;rw[<- Array.foldl_toList,Array.toList_zipIdx];exact this
theorem A34:∀{vs:List AV},A7S vs=true->∀v∈vs,A1P v.cs=true
 |[],_,v,hv=>by simp at hv
 |u::r,h,v,hv=>by
  simp only[A7S,Bool.and_eq_true]at h;rcases List.mem_cons.1 hv with rfl|hv
  ·exact h.1
  ·exact A34 h.2 v hv
theorem RelVs.getVal:∀{l:List AV} {xs:List Value},RelVs w F ρ H l xs->∀{j:Nat} {x:Value},xs[j]? =some x->∃v,l[j]? =some v/\RelV w F ρ H v x
 |_,_,.nil,j,x,h=>by simp at h
 |_,_,.cons u l y ys hv hs,j,x,h=>by
  cases j with
  |zero=>simp at h;subst h;exact⟨u,by simp,hv⟩
  |succ j=>obtain⟨v,h1,h2⟩:=hs.getVal (by simpa using h);exact⟨v,by simpa using h1,h2⟩
theorem A5e {α:Type}{l:List α}{u:α}:∀{n:Nat},u∈A3a l n->u∈l
 |0,h=>by simp[A3a]at h
 |n+1,h=>by
  simp only[A3a,List.mem_append]at h;rcases h with h|h
  ·exact h
  ·exact A5e h
theorem A6R {t e:TypeId}{len:Nat}{parts:Array (Nat×Value)}{i:TypeInfo}{v:Value}{zs cs:Array Value}(ht:P.underlying t=some (.slice e))(h1:P.info? e=some i)(hz:i.zero=some v)
  (hnot:¬ (len*i.size>2 ^ 24)) (hzs:zs=(Array.range (len*i.size)).map (fun j=>v.cells[j%v.cells.size]!)) (hfill:Instr.fill (fun j=>some (j*i.size,i.size)) zs parts.toList=some cs):
  (Instr.buildSlice t len parts).run P w=((newRow e cs).run P w).andThen fun a w'=>.ok (.slice (some a) len len) w':=by
 have hzv:(zeroValue e).run P w=.ok v w:=by simp[zeroValue,typeInfo,h1,hz]
 unfold Instr.buildSlice;rw[Sem.run_bind,A0b ht,Result.andThen_ok];simp only;rw[Sem.run_bind,A0l h1,Result.andThen_ok,if_neg hnot]
 by_cases h0:len*i.size=0
 ·have hz0:zs= #[]:=by rw[hzs,h0];simp
  rw[if_pos h0,Sem.run_bind,Sem.run_pure,Result.andThen_ok];have e1:(Array.range (len*i.size)).map (fun x=>(#[]:Array Value)[x%(#[]:Array Value).size]!)=zs:=by rw[hz0,h0];simp
  rw[e1,hfill];simp only[Sem.run_bind,newRow,run_newObj,Sem.run_pure,Result.andThen_ok]
 ·rw[if_neg h0];simp only[Sem.run_bind,hzv,Result.andThen_ok,Sem.run_pure];rw[<- hzs,hfill];simp only[Sem.run_bind,newRow,run_newObj,Sem.run_pure,Result.andThen_ok]
set_option maxHeartbeats 1600000 in
theorem B1e {t:TypeId}{len:Nat}{ps:Array (Nat×Operand)}(ho:o.op=.buildSlice t len ps){x:XOp}(hx:A4r P t len ps.toList=some x)(hm:MRel G F ρ H w)(hev:A3h G F ρ H w T ev){site:Nat}{d:Dir}
  (hD:A0L site look x d (x.opds.map (Opd.ev G T))=some D) (hfresh:∀i,i∈D.al->H i=none):A1k P o ev w (KD G F ρ H w D):=by
 have hrun:(execOp ev o).run P w=((Instr.buildSlice t len (ps.map fun(i,x)=>(i,ev x))).run P w).andThen fun v w'=>.ok (.value v) w':=by
  unfold execOp;rw[ho];simp only[A0B]
 have hparts:(ps.map fun(i,x)=>(i,ev x)).toList=(ps.toList.map (·.1)).zip (ps.toList.map fun p=>ev p.2):=by
  rw[A3v];simp
 unfold A4r at hx;split at hx
 ·rename_i e ht;split at hx
  ·rename_i sz by_ z hel;obtain⟨hEl,hz⟩:=A4s hel;obtain⟨i,v,h1,h2,h3,h4,h5,h6⟩:=A2n (w:=w) hz;obtain⟨i',v',q1,q2,q3,q4,q5⟩:=hEl.inf;rw[h1]at q1;cases q1;rw[h2]at q4;cases q4;subst q2;simp only[cond_eq_ite]at hx;split at hx
   ·rename_i hcond;simp only[Bool.and_eq_true,Bool.not_eq_true']at hcond;have hle:len*i.size<=16777216:=by simpa[A0X]using hcond.1
    have hsz0:i.size≠0:=fun e=>by rw[e]at hcond;simp at hcond
    split at hx
    ·rename_i l hl;cases hx;obtain⟨g1,g2⟩:=A4v hev hl;simp only[A0L,XOp.opds,A7T,cond_eq_ite]at hD;split at hD
     ·rename_i hallc;split at hD
      ·rename_i l' hfill;split at hD
       ·rename_i c hcont;cases hD;have hvsz:v.cells.size=i.size:=h3
        let zs:Array Value:=(Array.range (len*i.size)).map fun i=>v.cells[i%v.cells.size]!
        have hzs:zs.toList=A3a v.cells.toList len:=by
         have:=B8t v.cells len (by omega);rw[hvsz]at this;simp only[zs,hvsz];exact this
        have hrel:RelVs w F ρ H (A3a z len) zs.toList:=by rw[hzs];exact A8c (h5 w F).toVs len
        obtain⟨cs,r1,r2⟩:=A76 g1 g2 hrel hfill;have hlen':l'.length=len*i.size:=by
         rw[A4Q hfill,A1z];have:=(h5 w F).len;rw[this];simp[hvsz]
        have hcs:cs.size=len*i.size:=by have:=r2.len;rw[hlen']at this;simpa using this.symm
        have hone:∀u∈cs.toList,u.oneCell'=true:=by
         refine B2b r1 ?_ ?_
         ·intro u hu;rw[hzs]at hu;exact h4 u (A5e hu)
         ·intro p hp u hu;rw[A3v]at hp;obtain⟨q,hq,rfl⟩:=List.mem_map.1 hp;obtain⟨j,hj,rfl⟩:=List.getElem_of_mem hq;have hj':(ps.toList.map fun p=>ev p.2)[j]? =some (ev ps.toList[j].2):=by rw[List.getElem?_map,List.getElem?_eq_getElem hj];rfl
          obtain⟨vv,s1,s2⟩:=g2.getVal hj';have hc:=A34 hallc vv (List.mem_of_getElem? s1);obtain⟨hmay,hund⟩:=A4m hc;exact(s2.csOf hmay hund).ones hc u hu
        obtain⟨⟨k1,k2⟩,k3⟩:=A9B (w:=w) (F:=F) (ρ:=ρ) (H:=H) hcont;rw[<- hparts]at r1;have hinstr:=A6R (w:=w) (zs:=zs) (cs:=cs) (parts:=ps.map fun(i,x)=>(i,ev x)) ht h1 h2 (by omega) rfl r1;refine A1k.eff (r:=(Instr.buildSlice t len (ps.map fun(i,x)=>(i,ev x))).run P w) hrun ?_;rw[hinstr];refine A5O hm (hfresh site (by simp)) k3 (by rw[k1,hlen']) (by rw[k1,hlen',hcs];exact Nat.le_refl _) (fun j hj=>?_) (Nat.le_refl _) (by rw[hcs];exact Nat.le_refl _) (by
         have h1:len*1<=len*i.size:=Nat.mul_le_mul_left _ (Nat.pos_of_ne_zero hsz0);have h2:16777216<=A4K:=by decide
         omega)
        have hj':j<l'.length:=by rw[<- k1];exact hj
        obtain⟨y,p1,p2⟩:=r2.getD hj';exact⟨y,p1,k2 j y hj' p2 (hone y (List.mem_of_getElem? (l:=cs.toList) (i:=j) (by simpa using p1)))⟩
       ·cases hD
      ·cases hD
     ·cases hD
    ·cases hx
   ·cases hx
  ·cases hx
 ·cases hx
end
end Go.Ab
