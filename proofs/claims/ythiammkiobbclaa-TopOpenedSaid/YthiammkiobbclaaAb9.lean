/- An abstract reading of the program: what its operations do to what is known of memory. Part 9 of 9. -/
import Derived.Test.YthiammkiobbclaaAb8
import Derived.Test.YthiammkiobbclaaAb6
import Derived.Shelf.Spec.SlicesInsertGrow

/-
 slices.Insert of one number into an own row, by the contract of the library's shelf, as a contract here.
-/
set_option linter.unusedVariables false
namespace Go.Ab
open Go Go.RowKit

def insA (o:List Int)(i:Nat)(x:Int):List Int:=o.take i++x::o.drop i
theorem insA_len {o:List Int}{i:Nat}{x:Int}(h:i≤o.length):(insA o i x).length=o.length+1:=by
 unfold insA;rw[List.length_append,List.length_cons,List.length_take,List.length_drop];omega
theorem insA_get {o:List Int}{i:Nat}{x:Int}(h:i≤o.length)(j:Nat):(insA o i x)[j]? =if j<i then o[j]? else if j=i then some x else o[j-1]? :=by
 unfold insA
 have hl:(o.take i).length=i:=by rw[List.length_take];omega
 split
 ·rw[List.getElem?_append_left (by omega),List.getElem?_take_of_lt (by omega)]
 ·rw[List.getElem?_append_right (by omega),hl]
  split
  ·rename_i e;subst e;simp
  ·rw[show j-i=(j-i-1)+1 by omega,List.getElem?_cons_succ,List.getElem?_drop]
   congr 1;omega
def putV (cs:Array Value):Nat→List Value→Array Value
 |_,[]=>cs
 |o,v::r=>putV (cs.setIfInBounds o v) (o+1) r
theorem putV_size:∀(vs:List Value) (cs:Array Value) (o:Nat),(putV cs o vs).size=cs.size
 |[],cs,o=>rfl
 |v::r,cs,o=>by simp only[putV];rw[putV_size r];simp
theorem putV_get:∀(vs:List Value) (cs:Array Value) (o i:Nat),i<cs.size→(putV cs o vs)[i]? =if o≤i∧i<o+vs.length then vs[i-o]? else cs[i]?
 |[],cs,o,i,h=>by
  rw[if_neg (by simp only[List.length_nil];omega)];rfl
 |v::r,cs,o,i,h=>by
  simp only[putV]
  rw[putV_get r _ (o+1) i (by simpa using h)]
  simp only[List.length_cons]
  by_cases h1:o+1≤i∧i<o+1+r.length
  ·rw[if_pos h1,if_pos (by omega),show i-o=(i-(o+1))+1 by omega,List.getElem?_cons_succ]
  ·rw[if_neg h1]
   by_cases h2:i=o
   ·subst h2
    rw[if_pos (by omega)]
    simp[h]
   ·rw[if_neg (by omega)]
    rw[Array.getElem?_setIfInBounds_ne (by omega)]
theorem setCells_heap {G:GL}{b:Nat}{ty:TypeId}{fz:Nat×Nat}:∀(vs:List Value) (w:World) (cs:Array Value) (o:Nat),w.heap[b]? =some (.cells cs ty fz)→
  (w.setCells b o vs).heap[b]? =some (.cells (putV cs o vs) ty fz)∧(∀j,j≠b→(w.setCells b o vs).heap[j]? =w.heap[j]?)∧(w.setCells b o vs).heap.size=w.heap.size∧IoEq G w (w.setCells b o vs)
 |[],w,cs,o,h=>⟨h,fun j _=>rfl,rfl,rfl,rfl,fun _=>⟨rfl,Nat.le_refl _⟩⟩
 |v::r,w,cs,o,h=>by
  have h1:(w.setCell ⟨b,o,none⟩ v).heap[b]? =some (.cells (cs.setIfInBounds o v) ty fz):=by
   unfold World.setCell
   rw[Array.getElem?_modify,if_pos rfl,h];rfl
  obtain⟨g1,g2,g3,g4,g5,g6⟩:=setCells_heap (G:=G) r (w.setCell ⟨b,o,none⟩ v) _ (o+1) h1
  refine⟨g1,fun j hj=>?_,?_,g4,g5,g6⟩
  ·show((w.setCell ⟨b,o,none⟩ v).setCells b (o+1) r).heap[j]? =_
   rw[g2 j hj]
   unfold World.setCell
   rw[Array.getElem?_modify,if_neg (Ne.symm hj)]
  ·show((w.setCell ⟨b,o,none⟩ v).setCells b (o+1) r).heap.size=_
   rw[g3];simp[World.setCell]
theorem IoEq.drew {G:GL}(w:World):IoEq G w w.drew:=⟨rfl,rfl,fun _=>⟨rfl,Nat.le_succ _⟩⟩
theorem upd2 {α:Type}(H:Nat→Option α)(id:Nat)(a b:Option α):upd (upd H id a) id b=upd H id b:=by
 funext i
 by_cases e:i=id
 ·subst e;rw[upd_same,upd_same]
 ·rw[upd_other _ _ e,upd_other _ _ e,upd_other _ _ e]
section
variable {P:Program}{G:GL}{F:Nat→Prop}{ρ:Nat→Option Nat}{H:Nat→Option HO}{w:World}
theorem rowI_of (hm:MRel G F ρ H w){id:Nat}{l:List Int}{cap:Option Nat}(hpos:0<l.length){x:Value}(hh:H id=some (.blk ⟨.ints .i64 l,1,l.length,cap,some false,true,false⟩))(hx:RelV w F ρ H (.full id l.length) x):
  ∃b c cs ty fz,ρ id=some b∧w.heap[b]? =some (.cells cs ty fz)∧x=.slice (some ⟨b,0,none⟩) l.length c∧l.length≤c∧c≤cs.size∧c≤capMax∧¬ F b∧(∀j,¬ (fz.1≤j∧j<fz.2))∧∀(j:Nat) (v:Int),l[j]? =some v→cs[j]? =some (Value.int .i64 v):=by
 cases hx with
 |imm _ _ hi=>cases hi
 |full _ _ k1 _ hh1 hle hp hx=>
  rw[hh]at hh1
  cases hh1
  rcases hx rfl with⟨e,_⟩|⟨e,_⟩|⟨_,b,c,cs,ty,fz,q1,q2,q3,q4,q5,_,q6⟩
  ·omega
  ·omega
  ·obtain⟨hsize,h3|⟨b',hb',hB⟩⟩:=hm.heap id _ hh
   ·have:=h3.1;simp only at this;omega
   ·obtain rfl:b=b':=Option.some.inj (q1.symm.trans hb')
    obtain⟨cs',ty',fz',g1,g2,g3,g4⟩:=hB.ex rfl
    rw[q2]at g1
    cases g1
    refine⟨b,c,cs,ty,fz,q1,q2,q3,q4,by simpa using q5,q6,hB.mu rfl,g2,fun j v hj=>?_⟩
    have hj':j<l.length:=(List.getElem?_eq_some_iff.1 hj).1
    obtain⟨y,p1,p2⟩:=g4 j hj'
    have p2:RelI w F (.int .i64 (l.getD j 0)) y:=p2.1
    rw[List.getD_eq_getElem?_getD,hj]at p2
    cases p2
    exact p1
theorem ins_in (hm:MRel G F ρ H w){id b c:Nat}{o n:List Int}{cs cs':Array Value}{ty:TypeId}{fz:Nat×Nat}{w':World}(hid:H id=some (.blk ⟨.ints .i64 o,1,o.length,none,some false,true,false⟩))(hln:o.length<n.length)
  (hρ:ρ id=some b) (hF:¬ F b) (hh:w.heap[b]? =some (.cells cs ty fz)) (hfz:∀j,¬ (fz.1≤j∧j<fz.2))
  (h1:w'.heap[b]? =some (.cells cs' ty fz)) (h2:∀j,j≠b→w'.heap[j]? =w.heap[j]?) (h3:w'.heap.size=w.heap.size) (hio:IoEq G w w') (hsz:cs'.size=cs.size) (hc:n.length≤c) (hcs:c≤cs.size)
  (hv:∀(j:Nat) (v:Int),n[j]? =some v→cs'[j]? =some (Value.int .i64 v)):
  KD G F ρ H w {v:=.imm (.ints .i64 n) n.length none,ws:=[(id,.blk ⟨.ints .i64 n,1,n.length,none,some false,false,false⟩)],al:=[],cs:=[]} (.slice (some ⟨b,0,none⟩) n.length c) w':=by
 have hget:∀i,i<n.length→∃v,n[i]? =some v∧cs'[i]? =some (.int .i64 v):=fun i hi=>⟨n[i],List.getElem?_eq_getElem hi,hv i _ (List.getElem?_eq_getElem hi)⟩
 obtain⟨m1,x1,k1⟩:=hm.write (w':=w') (o':=.blk ⟨.ints .i64 n,1,n.length,none,some false,true,false⟩) hid hρ hF h1 h2 h3 hio
  (fun cs2 ty2 fz2 h=>by rw[hh]at h;cases h;exact⟨_,_,_,rfl,hsz⟩) rfl
  (fun k hk=>by cases hk;exact⟨_,rfl,Nat.le_of_lt hln,fun e=>absurd e (Nat.ne_of_gt hln)⟩)
  (fun hkp=>⟨by simp[Cont.size],.inr ⟨b,hρ,RelB.ofCells rfl ⟨cs',ty,fz,h1,hfz,by simp only[size_ints];omega,fun i hi=>by
   obtain⟨v,e1,e2⟩:=hget i hi
   refine⟨_,e2,?_,rfl⟩
   show RelI _ _ (.int .i64 (n.getD i 0)) _
   rw[List.getD_eq_getElem?_getD,e1]
   exact .int _ _⟩ (fun _=>hF) (fun h=>by cases h)⟩⟩)
 obtain⟨F',m2,x2,k2,hF'⟩:=m1.freeze (upd_same _ _ _) rfl
 rw[upd2]at m2 k2
 refine⟨F',ρ,m2,x1.trans x2,k1.trans k2,.imm _ _ (.imm (.ints .i64 n) n.length none b 0 c (fun j=>(cs'[j]?).getD undef) (hF' b hρ) (fun i hi=>?_) (fun i hi=>?_) (fun i hi=>?_) hc (fun m e=>by cases e))⟩
 ·obtain⟨v,e1,e2⟩:=hget i hi
  simp only[World.cell?,h1,Nat.zero_add,Option.isSome_none,Bool.false_eq_true,if_false]
  rw[e2];rfl
 ·obtain⟨v,e1,e2⟩:=hget i hi
  show RelI _ _ (.int .i64 (n.getD i 0)) _
  rw[List.getD_eq_getElem?_getD,e1,e2]
  exact .int _ _
 ·obtain⟨v,e1,e2⟩:=hget i hi
  rw[e2];rfl
theorem ins_new (hm:MRel G F ρ H w){id c:Nat}{o n:List Int}{cs':Array Value}{ty:TypeId}{w':World}(hid:H id=some (.blk ⟨.ints .i64 o,1,o.length,none,some false,true,false⟩))(hln:o.length<n.length)
  (hw:w'.heap=w.heap.push (.cells cs' ty)) (hio:IoEq G w w') (hc:n.length≤c) (hcs:n.length≤cs'.size) (hv:∀(j:Nat) (v:Int),n[j]? =some v→cs'[j]? =some (Value.int .i64 v)):
  KD G F ρ H w {v:=.imm (.ints .i64 n) n.length none,ws:=[(id,.blk ⟨.ints .i64 n,1,n.length,none,some false,false,false⟩)],al:=[],cs:=[]} (.slice (some ⟨w.heap.size,0,none⟩) n.length c) w':=by
 have hget:∀i,i<n.length→∃v,n[i]? =some v∧cs'[i]? =some (.int .i64 v):=fun i hi=>⟨n[i],List.getElem?_eq_getElem hi,hv i _ (List.getElem?_eq_getElem hi)⟩
 have hnew:w'.heap[w.heap.size]? =some (.cells cs' ty):=by rw[hw];simp
 obtain⟨ρ',m1,x1,k1,hρ'⟩:=hm.move (w':=w') (k':=⟨.ints .i64 n,1,n.length,none,some false,true,false⟩) hid rfl rfl hln hw hio
  (fun ρ' hkp hρ'=>⟨by simp[Cont.size],.inr ⟨_,hρ',RelB.ofCells rfl ⟨cs',ty,(0,0),hnew,fun j=>by simp,by simp only[size_ints];exact hcs,fun i hi=>by
   obtain⟨v,e1,e2⟩:=hget i hi
   refine⟨_,e2,?_,rfl⟩
   show RelI _ _ (.int .i64 (n.getD i 0)) _
   rw[List.getD_eq_getElem?_getD,e1]
   exact .int _ _⟩ (fun _ h=>absurd (hm.frz _ h) (Nat.lt_irrefl _)) (fun h=>by cases h)⟩⟩)
 obtain⟨F',m2,x2,k2,hF'⟩:=m1.freeze (upd_same _ _ _) rfl
 rw[upd2]at m2 k2
 refine⟨F',ρ',m2,x1.trans x2,k1.trans k2,.imm _ _ (.imm (.ints .i64 n) n.length none _ 0 c (fun j=>(cs'[j]?).getD undef) (hF' _ hρ') (fun i hi=>?_) (fun i hi=>?_) (fun i hi=>?_) hc (fun m e=>by cases e))⟩
 ·obtain⟨v,e1,e2⟩:=hget i hi
  simp only[World.cell?,hnew,Nat.zero_add,Option.isSome_none,Bool.false_eq_true,if_false]
  rw[e2];rfl
 ·obtain⟨v,e1,e2⟩:=hget i hi
  show RelI _ _ (.int .i64 (n.getD i 0)) _
  rw[List.getD_eq_getElem?_getD,e1,e2]
  exact .int _ _
 ·obtain⟨v,e1,e2⟩:=hget i hi
  rw[e2];rfl
theorem heap_push {w':World}{ob:Obj}{hp:Array Obj}{ob0:Obj}(h1:w'.heap[hp.size]? =some ob)(h2:∀j,j≠hp.size→w'.heap[j]? =(hp.push ob0)[j]?):w'.heap=hp.push ob:=by
 apply Array.ext_getElem?
 intro j
 by_cases e:j=hp.size
 ·subst e;rw[h1];simp
 ·rw[h2 j e,Array.getElem?_push,Array.getElem?_push,if_neg e,if_neg e]
theorem ins_vals {o:List Int}{i:Nat}{x:Int}(hi:i≤o.length){cs:Array Value}(hsz:o.length+1≤cs.size)(hcs:∀j v,j<i→o[j]? =some v→cs[j]? =some (Value.int .i64 v))(j:Nat)(v:Int)(hv:(insA o i x)[j]? =some v):
  (putV (putV cs (i+1) ((o.map (Value.int .i64)).drop i)) i [Value.int .i64 x])[j]? =some (Value.int .i64 v):=by
 have hj:j<o.length+1:=by rw[← insA_len (x:=x) hi];exact(List.getElem?_eq_some_iff.1 hv).1
 rw[insA_get hi]at hv
 rw[putV_get _ _ _ _ (by rw[putV_size];omega),putV_get _ _ _ _ (by omega)]
 simp only[List.length_cons,List.length_nil,List.length_drop,List.length_map]
 split at hv
 ·rename_i h
  rw[if_neg (by omega),if_neg (by omega)]
  exact hcs j v h hv
 ·split at hv
  ·rename_i h;subst h;cases hv
   rw[if_pos (by omega),Nat.sub_self];rfl
  ·rename_i h1 h2
   rw[if_neg (by omega),if_pos (by omega),List.getElem?_drop,List.getElem?_map,show i+(j-(i+1))=j-1 by omega,hv];rfl
theorem ins_spec {P:Program}{G:GL}{ρr:Go.Shelf.Ren}(L:Go.Proofs.Lays2.n21 P ρr){f:Nat}{fn:Func}{c:Code}(hfr:ρr.f 21=f)(hf:P.funcs[f]? =some fn)(hname:(fn.name=="runtime.NumGoroutine")=false)(hb:fn.body=some c)
  {id iv:Nat} (hne:iv≠id) {o:List Int} {i:Nat} {x:Int} (hi:i≤o.length) (h0:0<o.length) (hz:o.length<1000000) {cv:Option Nat}:
  SpecD P G (.fn f [] []) [.full id o.length,.int .i64 (i:Int),.full iv 1] [(iv,.blk ⟨.ints .i64 [x],1,1,cv,some false,true,false⟩),(id,.blk ⟨.ints .i64 o,1,o.length,none,some false,true,false⟩)]
   (.imm (.ints .i64 (insA o i x)) (insA o i x).length none) [(id,.blk ⟨.ints .i64 (insA o i x),1,(insA o i x).length,none,some false,false,false⟩)] []:=by
 subst hfr
 intro F ρ w xs hm hv
 obtain⟨vl⟩:=xs
 have Hid:aget [(iv,HO.blk ⟨.ints .i64 [x],1,1,cv,some false,true,false⟩),(id,HO.blk ⟨.ints .i64 o,1,o.length,none,some false,true,false⟩)] id=some (.blk ⟨.ints .i64 o,1,o.length,none,some false,true,false⟩):=by
  simp only[aget]
  rw[beq_ne hne,beq_self];rfl
 have Hiv:aget [(iv,HO.blk ⟨.ints .i64 [x],1,1,cv,some false,true,false⟩),(id,HO.blk ⟨.ints .i64 o,1,o.length,none,some false,true,false⟩)] iv=some (.blk ⟨.ints .i64 [x],1,1,cv,some false,true,false⟩):=by simp[aget]
 generalize aget [(iv,HO.blk ⟨.ints .i64 [x],1,1,cv,some false,true,false⟩),(id,HO.blk ⟨.ints .i64 o,1,o.length,none,some false,true,false⟩)]=H at*
 have hlen:=insA_len (x:=x) hi
 cases hv with
 |cons _ _ x1 r1 hx1 hv=>
 cases hv with
 |cons _ _ x2 r2 hx2 hv=>
 cases hv with
 |cons _ _ x3 r3 hx3 hv=>
 cases hv
 obtain rfl:=hx2.ints
 obtain⟨b,cp,cs,ty,fz,q1,q2,rfl,q4,q5,q6,q7,q8,q9⟩:=rowI_of hm h0 Hid hx1
 obtain⟨b2,cp2,cs2,ty2,fz2,p1,p2,rfl,p4,p5,p6,p7,p8,p9⟩:=rowI_of hm (l:=[x]) (Nat.zero_lt_succ _) Hiv hx3
 have hbb:b2≠b:=fun e=>hne (hm.inj _ _ _ (e▸p1) q1)
 show CallOk P _ _ w _
 unfold CallOk
 rw[callFunc_enter hf hname hb]
 refine .inr (.inl ⟨_,_,_,rfl,?_⟩)
 have hcl:(o.map (Value.int .i64)).length=o.length:=List.length_map ..
 have hcs:∀j v,(o.map (Value.int .i64))[j]? =some v→w.cell? ⟨b,0+j,none⟩=some v:=fun j v hj=>by
  rw[List.getElem?_map]at hj
  obtain⟨u,hu,rfl⟩:=Option.map_eq_some_iff.1 hj
  simp only[World.cell?,q2,Nat.zero_add,Option.isSome_none,Bool.false_eq_true,if_false]
  exact q9 j u hu
 have hvs:∀j v,[Value.int .i64 x][j]? =some v→w.cell? ⟨b2,0+j,none⟩=some v:=fun j v hj=>by
  match j,hj with
  |0,hj=>
   cases hj
   simp only[World.cell?,p2,Nat.zero_add,Option.isSome_none,Bool.false_eq_true,if_false]
   exact p9 0 x rfl
  |j+1,hj=>simp at hj
 have h1c:∀v∈o.map (Value.int .i64),v.oneCell'=true:=fun v hv=>by
  obtain⟨u,_,rfl⟩:=List.mem_map.1 hv;rfl
 have h1v:∀v∈[Value.int .i64 x],v.oneCell'=true:=fun v hv=>by
  rw[List.mem_singleton]at hv;subst hv;rfl
 have nf:∀j,w.frozen? ⟨b,j,none⟩=false:=fun j=>by
  have:=q8 j
  obtain⟨lo,hi⟩:=fz
  simp only[World.frozen?,q2]
  simp only[not_and,Nat.not_lt]at this
  by_cases hlo:lo≤j
  ·simp[hlo];exact this hlo
  ·simp[hlo]
 have nf2:∀j,w.frozen? ⟨b2,j,none⟩=false:=fun j=>by
  have:=p8 j
  obtain⟨lo,hi⟩:=fz2
  simp only[World.frozen?,p2]
  simp only[not_and,Nat.not_lt]at this
  by_cases hlo:lo≤j
  ·simp[hlo];exact this hlo
  ·simp[hlo]
 have hsp:∀j,j<cp→(w.cell? ⟨b,j,none⟩).isSome=true:=fun j hj=>by
  simp only[World.cell?,q2,Option.isSome_none,Bool.false_eq_true,if_false]
  rw[Array.getElem?_eq_getElem (by omega)];rfl
 have hbk:b<w.heap.size:=lt_of_some q2
 by_cases e1:i<o.length
 ·by_cases e2:o.length+1≤cp
  ·have h:=Go.Proofs.Any2.slices_Insert_int_shift L b 0 o.length cp i b2 0 1 cp2 _ [.int .i64 x] w e1 (by decide) e2 q6 hbb hcl rfl hcs (fun j hj=>hsp _ (by omega)) (fun j _=>nf _) hvs h1c h1v ty2 ty cs2.size cs.size (by simp[World.shape?,p2]) (by simp[World.shape?,q2]) (by omega) (nf2 _) (nf2 _)
   refine h.mono fun e w' ⟨he,hw⟩=>⟨_,he,?_⟩
   subst hw
   simp only[Nat.zero_add]
   obtain⟨a1,a2,a3,a4⟩:=setCells_heap (G:=G) ((o.map (Value.int .i64)).drop i) w.drew cs (i+1) q2
   obtain⟨b1,b3,b4,b5⟩:=setCells_heap (G:=G) [Value.int .i64 x] _ _ i a1
   have k:=ins_in (w':=((w.drew.setCells b (i+1) ((o.map (Value.int .i64)).drop i)).setCells b i [Value.int .i64 x])) (c:=cp) hm Hid (by omega:o.length<(insA o i x).length) q1 q7 q2 q8 b1 (fun j hj=>(b3 j hj).trans (a2 j hj)) (b4.trans a3)
    ((IoEq.drew w).trans (a4.trans b5)) (by rw[putV_size,putV_size]) (by omega) q5 (fun j v hv=>ins_vals hi (by omega) (fun j v _ hv=>q9 j v hv) j v hv)
   rw[hlen]at k ⊢
   exact k
  ·have h:=Go.Proofs.Any2.slices_Insert_int_grow L b 0 o.length cp i b2 0 1 cp2 _ [.int .i64 x] w e1 (by decide) q4 (by omega) (by omega) hcl rfl hcs hvs h1c h1v
   refine h.mono fun e w' ⟨he,hw⟩=>⟨_,he,?_⟩
   have hg:o.length+1≤grownCap w (o.length+1) cp (ρr.t 3):=Nat.le_add_right _ _
   generalize grownCap w (o.length+1) cp (ρr.t 3)=gc at*
   let X:Array Value:=((o.map (Value.int .i64)).take i).toArray++Builtin.zeroCells (Value.int .i64 0).cells (o.length+1-i)++Builtin.zeroCells (Value.int .i64 0).cells (gc-(o.length+1))
   have hX:X.size=gc:=by
    simp only[X,Array.size_append,List.size_toArray,List.length_take,hcl,Builtin.zeroCells,Array.size_map,Array.size_range]
    show min i o.length+(o.length+1-i)*1+(gc-(o.length+1))*1=gc
    omega
   have hX2:∀j v,j<i→o[j]? =some v→X[j]? =some (Value.int .i64 v):=fun j v hj hv=>by
    have hl:j<((o.map (Value.int .i64)).take i).toArray.size:=by simp;omega
    simp only[X,Array.append_assoc]
    rw[Array.getElem?_append_left hl,List.getElem?_toArray,List.getElem?_take_of_lt hj,List.getElem?_map,hv];rfl
   have hn:(w.alloc (.cells X (ρr.t 3))).drew.heap[w.heap.size]? =some (.cells X (ρr.t 3) (0,0)):=by
    show(w.heap.push _)[w.heap.size]? =_
    simp
   obtain⟨a1,a2,a3,a4⟩:=setCells_heap (G:=G) [Value.int .i64 x] _ _ i hn
   obtain⟨b1,b3,b4,b5⟩:=setCells_heap (G:=G) ((o.map (Value.int .i64)).drop i) (((w.alloc (.cells X (ρr.t 3))).drew.setCells w.heap.size i [Value.int .i64 x]).drew) _ (i+1) a1
   have hw2:w'=(((w.alloc (.cells X (ρr.t 3))).drew.setCells w.heap.size i [Value.int .i64 x]).drew).setCells w.heap.size (i+1) ((o.map (Value.int .i64)).drop i):=hw
   rw[← hw2]at b1 b3 b4 b5
   have hhp:w'.heap=w.heap.push (.cells (putV (putV X i [Value.int .i64 x]) (i+1) ((o.map (Value.int .i64)).drop i)) (ρr.t 3) (0,0)):=heap_push (ob0:=.cells X (ρr.t 3)) b1 fun j hj=>by
    rw[b3 j hj]
    show((w.alloc (.cells X (ρr.t 3))).drew.setCells w.heap.size i [Value.int .i64 x]).heap[j]? =_
    rw[a2 j hj];rfl
   have hio:IoEq G w w':=(IoEq.drew (w.alloc (.cells X (ρr.t 3)))).trans (a4.trans ((IoEq.drew _).trans b5))
   have k:=ins_new (c:=gc) hm Hid (by omega:o.length<(insA o i x).length) hhp hio (by omega) (by rw[putV_size,putV_size];omega) (fun j v hv=>by
    have:=ins_vals hi (cs:=X) (by omega) hX2 j v hv
    have hj:j<o.length+1:=by rw[← hlen];exact(List.getElem?_eq_some_iff.1 hv).1
    rw[putV_get _ _ _ _ (by rw[putV_size];omega),putV_get _ _ _ _ (by omega)]at this ⊢
    simp only[List.length_cons,List.length_nil,List.length_drop,hcl]at this ⊢
    by_cases c1:j=i
    ·rw[if_pos (by omega)]at this
     rw[if_neg (by omega),if_pos (by omega)];exact this
    ·rw[if_neg (by omega)]at this
     by_cases c2:i+1≤j
     ·rw[if_pos (by omega)]at this ⊢; exact this
     ·rw[if_neg (by omega)]at this
      rw[if_neg (by omega),if_neg (by omega)];exact this)
   rw[hlen]at k ⊢
   exact k
 ·have e3:i=o.length:=by omega
  subst e3
  by_cases e2:o.length+1≤cp
  ·have h:=Go.Proofs.Any2.slices_Insert_int_end_room L b 0 o.length cp b2 0 1 cp2 [.int .i64 x] w (by decide) e2 q6 rfl (fun j hj=>hsp _ (by omega)) (fun j _=>nf _) hvs h1v
   refine h.mono fun e w' ⟨he,hw⟩=>⟨_,he,?_⟩
   subst hw
   simp only[Nat.zero_add]
   obtain⟨b1,b3,b4,b5⟩:=setCells_heap (G:=G) [Value.int .i64 x] w cs o.length q2
   have k:=ins_in (w':=w.setCells b o.length [Value.int .i64 x]) (c:=cp) hm Hid (by omega:o.length<(insA o o.length x).length) q1 q7 q2 q8 b1 b3 b4 b5 (by rw[putV_size]) (by omega) q5 (fun j v hv=>by
    have hj:j<o.length+1:=by rw[← hlen];exact(List.getElem?_eq_some_iff.1 hv).1
    rw[insA_get (Nat.le_refl _)]at hv
    rw[putV_get _ _ _ _ (by omega)]
    simp only[List.length_cons,List.length_nil]
    split at hv
    ·rw[if_neg (by omega)];exact q9 j v hv
    ·rw[if_pos (by omega)]at hv
     cases hv
     rw[if_pos (by omega),show j-o.length=0 by omega];rfl)
   rw[hlen]at k ⊢
   exact k
  ·have h:=Go.Proofs.Any2.slices_Insert_int_end_grow L (some ⟨b,0,none⟩) o.length cp b2 0 1 cp2 _ [.int .i64 x] w (by decide) q4 (by omega) (by omega) hcl rfl (fun e=>by cases e) (fun a ha j v hj=>by
    cases ha
    have:=hcs j v hj
    cases j<;>simpa[Addr.add]using this) hvs h1v
   refine h.mono fun e w' ⟨he,hw⟩=>⟨_,he,?_⟩
   have hg:o.length+1≤grownCap w (o.length+1) cp (ρr.t 3):=Nat.le_add_right _ _
   generalize grownCap w (o.length+1) cp (ρr.t 3)=gc at*
   have k:=ins_new (c:=gc) (w':=w') hm Hid (by omega:o.length<(insA o o.length x).length) (by rw[hw];rfl) (by rw[hw];exact IoEq.drew w) (by omega) (by simp;omega) (fun j v hv=>by
    have hj:j<o.length+1:=by rw[← hlen];exact(List.getElem?_eq_some_iff.1 hv).1
    have e:(o.map (Value.int .i64)++[Value.int .i64 x])=(insA o o.length x).map (Value.int .i64):=by unfold insA;simp
    rw[Array.getElem?_append_left (by simp;omega),List.getElem?_toArray,e,List.getElem?_map,hv];rfl)
   rw[hlen]at k ⊢
   exact k
theorem ins_nil {P:Program}{G:GL}{ρr:Go.Shelf.Ren}(L:Go.Proofs.Lays2.n21 P ρr){f:Nat}{fn:Func}{c:Code}(hfr:ρr.f 21=f)(hf:P.funcs[f]? =some fn)(hname:(fn.name=="runtime.NumGoroutine")=false)(hb:fn.body=some c)
  {iv:Nat} {x:Int} {cv:Option Nat}:
  SpecD P G (.fn f [] []) [.nils,.int .i64 0,.full iv 1] [(iv,.blk ⟨.ints .i64 [x],1,1,cv,some false,true,false⟩)] (.imm (.ints .i64 [x]) 1 none) [] []:=by
 subst hfr
 intro F ρ w xs hm hv
 obtain⟨vl⟩:=xs
 have Hiv:aget [(iv,HO.blk ⟨.ints .i64 [x],1,1,cv,some false,true,false⟩)] iv=some (.blk ⟨.ints .i64 [x],1,1,cv,some false,true,false⟩):=by simp[aget]
 generalize aget [(iv,HO.blk ⟨.ints .i64 [x],1,1,cv,some false,true,false⟩)]=H at*
 cases hv with
 |cons _ _ x1 r1 hx1 hv=>
 cases hv with
 |cons _ _ x2 r2 hx2 hv=>
 cases hv with
 |cons _ _ x3 r3 hx3 hv=>
 cases hv
 obtain rfl:=hx2.ints
 obtain rfl:x1=.slice none 0 0:=by
  cases hx1 with
  |imm _ _ hi=>cases hi;rfl
 obtain⟨b2,cp2,cs2,ty2,fz2,p1,p2,rfl,p4,p5,p6,p7,p8,p9⟩:=rowI_of hm (l:=[x]) (Nat.zero_lt_succ _) Hiv hx3
 show CallOk P _ _ w _
 unfold CallOk
 rw[callFunc_enter hf hname hb]
 refine .inr (.inl ⟨_,_,_,rfl,?_⟩)
 have hvs:∀j v,[Value.int .i64 x][j]? =some v→w.cell? ⟨b2,0+j,none⟩=some v:=fun j v hj=>by
  match j,hj with
  |0,hj=>
   cases hj
   simp only[World.cell?,p2,Nat.zero_add,Option.isSome_none,Bool.false_eq_true,if_false]
   exact p9 0 x rfl
  |j+1,hj=>simp at hj
 have h1v:∀v∈[Value.int .i64 x],v.oneCell'=true:=fun v hv=>by
  rw[List.mem_singleton]at hv;subst hv;rfl
 have h:=Go.Proofs.Any2.slices_Insert_int_end_grow L none 0 0 b2 0 1 cp2 [] [.int .i64 x] w (by decide) (Nat.le_refl _) (by decide) (by decide) rfl rfl (fun _=>rfl) (fun a ha=>by cases ha) hvs h1v
 refine h.mono fun e w' ⟨he,hw⟩=>⟨_,he,?_⟩
 have hg:0+1≤grownCap w (0+1) 0 (ρr.t 3):=Nat.le_add_right _ _
 generalize grownCap w (0+1) 0 (ρr.t 3)=gc at*
 let F':Nat→Prop:=fun b=>F b∨b=w.heap.size
 have hnew:w'.heap=w.heap.push (.cells (([]++[Value.int .i64 x]).toArray++Builtin.zeroCells (Value.int .i64 0).cells (gc-(0+1))) (ρr.t 3)):=by rw[hw];rfl
 obtain⟨m1,x1,k1⟩:=hm.allocOff (w':=w') hnew (by rw[hw];exact IoEq.drew w)
 have hsz:w'.heap.size=w.heap.size+1:=by rw[hnew];simp
 have hlt:∀id b,ρ id=some b→b<w.heap.size:=fun id b h=>hm.lt id b h
 have m2:MRel G F' ρ H w':=⟨fun id o ho=>(m1.heap id o ho).mono (fun _ _=>rfl) (fun _ h=>.inl h) (HKeep.refl _ _ _) rfl (fun b hb=>⟨rfl,fun h=>h.resolve_right (Nat.ne_of_lt (hlt id b hb))⟩),m1.dom,m1.inj,m1.lt,
  fun b hb=>hb.elim (m1.frz b) (fun e=>by rw[e,hsz];omega),m1.glob.mono (fun _ _=>rfl) (fun _ h=>.inl h)⟩
 have x2:Ext G F ρ w F' ρ w':=⟨x1.io,x1.size,x1.same,x1.frz,fun _ h=>.inl h,fun b h=>h.elim .inl (fun e=>.inr (.inl (by omega))),x1.im⟩
 have hc0:w'.heap[w.heap.size]? =some (.cells (([]++[Value.int .i64 x]).toArray++Builtin.zeroCells (Value.int .i64 0).cells (gc-(0+1))) (ρr.t 3)):=by rw[hnew];simp
 refine⟨F',ρ,m2,x2,k1,.imm _ _ (.imm (.ints .i64 [x]) 1 none _ 0 gc (fun _=>Value.int .i64 x) (.inr rfl) (fun i hi=>?_) (fun i hi=>?_) (fun i hi=>rfl) hg (fun m e=>by cases e))⟩
 ·simp only[size_ints,List.length_cons,List.length_nil]at hi
  obtain rfl:i=0:=by omega
  simp only[World.cell?,hc0,Nat.zero_add,Option.isSome_none,Bool.false_eq_true,if_false]
  rw[Array.getElem?_append_left (by simp)];rfl
 ·simp only[size_ints,List.length_cons,List.length_nil]at hi
  obtain rfl:i=0:=by omega
  exact .int _ _
end
end Go.Ab
