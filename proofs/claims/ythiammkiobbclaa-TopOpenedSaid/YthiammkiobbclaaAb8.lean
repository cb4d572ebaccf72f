/- An abstract reading of the program: what its operations do to what is known of memory. Part 8 of 9. -/
import Derived.Test.YthiammkiobbclaaAb7
import Derived.Test.YthiammkiobbclaaAb6
import Derived.Shelf.SlSortCmp.NoneTotal

/-
 slices.SortFunc over structs of numbers, by the contract of the library's shelf, as a contract here.
-/
set_option linter.unusedVariables false
namespace Go.Ab
open Go Go.RowKit

structure RowS (α:Type) where
 k:Nat
 row:α→List (IntKind×Int)
 len:∀x,(row x).length=k
def RowS.av {α:Type}(R:RowS α)(x:α):List AV:=(R.row x).map fun p=>AV.int p.1 p.2
def RowS.vl {α:Type}(R:RowS α)(x:α):List Value:=(R.row x).map fun p=>Value.int p.1 p.2
section
variable {α:Type}(R:RowS α)
end
theorem MRel.grown {G:GL}{F:Nat→Prop}{ρ:Nat→Option Nat}{H:Nat→Option HO}{w w':World}(hm:MRel G F ρ H w){os:Array Obj}(hw:w'.heap=w.heap++os)(hio:IoEq G w w'):
  MRel G F ρ H w'∧Ext G F ρ w F ρ w'∧HKeep w ρ H w' ρ H:=by
 have hold:∀b,b<w.heap.size→w'.heap[b]? =w.heap[b]? :=fun b hb=>by rw[hw,Array.getElem?_append,if_pos hb]
 have hsz:w.heap.size≤w'.heap.size:=by rw[hw];simp
 have hk:HKeep w ρ H w' ρ H:=⟨fun id o h1 h2=>⟨o,h1,h2,rfl⟩,fun id k h1=>⟨k,h1,rfl,Nat.le_refl _,fun _=>⟨rfl,rfl,.inl rfl,rfl⟩⟩,fun b cs ty fz hb=>⟨cs,ty,fz,(hold b (lt_of_some hb)).trans hb,rfl⟩⟩
 have hwF:∀b,F b→w'.heap[b]? =w.heap[b]? :=fun b hb=>hold b (hm.frz b hb)
 refine⟨⟨fun id o ho=>(hm.heap id o ho).mono hwF (fun _ h=>h) hk rfl (fun b hb=>⟨hold b (hm.lt id b hb),fun h=>h⟩),hm.dom,hm.inj,fun id b hb=>Nat.lt_of_lt_of_le (hm.lt id b hb) hsz,fun b hb=>Nat.lt_of_lt_of_le (hm.frz b hb) hsz,hm.glob.mono hwF (fun _ h=>h)⟩,?_,hk⟩
 exact⟨hio,hsz,fun b hb _=>hold b hb,hwF,fun _ h=>h,fun _ h=>.inl h,fun id b hb=>.inl ⟨id,hb⟩⟩
end Go.Ab

/-
 slices.SortFunc over slices of one cell each (slices of numbers among them), by the contract of the library's shelf, as a contract here.
-/
set_option linter.unusedVariables false
namespace Go.Ab
open Go Go.RowKit

theorem sorted_unique {α:Type}{lt:α→α→Prop}(hi:∀x,¬ lt x x)(ha:∀x y,lt x y→¬ lt y x):∀(l2 l1:List α),l1.Perm l2→l1.Pairwise (fun x y=>¬ lt y x)→l2.Pairwise lt→l1=l2
 |[],l1,hp,_,_=>List.Perm.eq_nil hp
 |a::r2,l1,hp,h1,h2=>by
  cases l1 with
  |nil=>exact absurd hp.symm.eq_nil (by simp)
  |cons b r1=>
   obtain⟨g1,g2⟩:=List.pairwise_cons.1 h1
   obtain⟨k1,k2⟩:=List.pairwise_cons.1 h2
   have e:b=a:=by
    rcases List.mem_cons.1 (hp.mem_iff.1 (List.mem_cons_self ..):b∈a::r2)with e|hb
    ·exact e
    ·rcases List.mem_cons.1 (hp.mem_iff.2 (List.mem_cons_self ..):a∈b::r1)with e|ha'
     ·exact e.symm
     ·exact absurd (k1 b hb) (g1 a ha')
   subst e
   rw[sorted_unique hi ha r2 r1 (List.Perm.cons_inv hp) g2 k2]
theorem calls_of_strongF {P:Program}{G:GL}(hst:G.strong)(hg:∀g,G.g g=none){f:Nat}{fn:Func}{c:Code}{args:List AV}{vs:Array Value}{n:Int}(hs:SpecP P G f args (.int .i64 n) [])
  (hf:P.funcs[f]? =some fn) (hname:(fn.name=="runtime.NumGoroutine")=false) (hb:fn.body=some c) (F:Nat→Prop) (W:World) (hF:∀b,F b→b<W.heap.size) (hr:RelIs W F args vs.toList):
  Calls P f vs W fun e w'=>e=.returned (.int .i64 n)∧∃q os',w'=Go.Sort.grow (W.drewN q) os':=by
 have hm:MRel G F noR noH W:=⟨fun id o h=>(by cases h),fun id b h=>(by cases h),fun i j b h=>(by cases h),fun id b h=>(by cases h),hF,fun g c hc=>by rw[hg]at hc;cases hc⟩
 have key:∀v w',(∃F' ρ',MRel G F' ρ' (hsH []) w'∧Ext G F noR W F' ρ' w'∧RelV w' F' ρ' (hsH []) (.int .i64 n) v)→v=.int .i64 n∧∃q os',w'=Go.Sort.grow (W.drewN q) os':=by
  rintro v w' ⟨F',ρ',h1,h2,h3⟩
  refine⟨h3.ints,w'.drawn-W.drawn,w'.heap.extract W.heap.size w'.heap.size,?_⟩
  obtain⟨i1,i2,i3⟩:=h2.io
  obtain⟨i3,i4⟩:=i3 hst
  have hh:w'.heap=W.heap++w'.heap.extract W.heap.size w'.heap.size:=by
   have hz:=h2.size
   apply Array.ext_getElem?
   intro i
   rw[Array.getElem?_append]
   by_cases hi:i<W.heap.size
   ·rw[if_pos hi];exact h2.same i hi (fun id e=>by cases e)
   ·rw[if_neg hi,Array.getElem?_extract]
    by_cases hi2:i<w'.heap.size
    ·rw[if_pos (by omega)];congr 1;omega
    ·rw[if_neg (by omega)];exact Array.getElem?_eq_none (by omega)
  obtain⟨wh,wt,wd,wo,wp⟩:=w'
  obtain⟨Wh,Wt,Wd,Wo,Wp⟩:=W
  simp only at i1 i2 i3 i4 hh
  show _=World.mk _ _ _ _ _
  simp only[World.drewN,World.mk.injEq]
  exact⟨hh,i3,by omega,i1,i2⟩
 have h:=hs F W vs hm hr
 unfold CallOk at h
 rw[callFunc_enter hf hname hb]at h
 rcases h with⟨nx,y,w',h1,h2,_⟩|⟨f',args',w1,h1,h2⟩|⟨l,fn',tmps,as',bd,w1,h1,_⟩
 ·cases h1;rcases h2 with h2|⟨h2,_⟩<;>cases h2
 ·cases h1
  refine h2.mono ?_
  rintro e w' ⟨v,rfl,hk⟩
  obtain⟨rfl,h⟩:=key v w' hk
  exact⟨rfl,h⟩
 ·cases h1
theorem sort1_spec {P:Program}{G Gs:GL}{ρr:Go.Shelf.Ren}{α:Type}(L:Go.Proofs.SlLaysF.n6 P ρr)(L0:Go.Proofs.SlLaysF0.n6 P ρr)(av:α→AV)(cmp:α→α→Int)(hO:Go.Sort.SWO (Go.Proofs.ltOf cmp))
  {f g:Nat} {fn gn:Func} {c gc:Code} (hfr:ρr.f 6=f) (hf:P.funcs[f]? =some fn) (hname:(fn.name=="runtime.NumGoroutine")=false) (hb:fn.body=some c)
  (hg:P.funcs[g]? =some gn) (hgname:(gn.name=="runtime.NumGoroutine")=false) (hgb:gn.body=some gc) (hst:Gs.strong) (hgs:∀g,Gs.g g=none)
  {id:Nat} {d res:List α} {cap:Option Nat} {nl:Option Bool} {bx:Bool} (hC:∀x∈d,∀y∈d,SpecP P Gs g [av x,av y] (.int .i64 (cmp x y)) []) (hsz:d.length<1000000000) (hp:res.Perm d) (hs:res.Pairwise fun x y=>cmp x y<0):
  SpecD P G (.fn f [] []) [.full id d.length,.fn g [] []] [(id,.blk ⟨.vals (d.map av),1,d.length,cap,nl,true,bx⟩)] (.tup [])
   [(id,.blk ⟨.vals (res.map av),1,d.length,cap,nl,true,bx⟩)] []:=by
 subst hfr
 intro F ρ w xs hm hv
 obtain⟨vl⟩:=xs
 have Hid:aget [(id,HO.blk ⟨.vals (d.map av),1,d.length,cap,nl,true,bx⟩)] id=some (.blk ⟨.vals (d.map av),1,d.length,cap,nl,true,bx⟩):=by simp[aget]
 generalize hH:aget [(id,HO.blk ⟨.vals (d.map av),1,d.length,cap,nl,true,bx⟩)]=H at*
 have hl:res.length=d.length:=hp.length_eq
 cases hv with
 |cons _ _ x1 r1 hx1 hv=>
  cases hv with
  |cons _ _ x2 r2 hx2 hv2=>
   cases hv2
   obtain⟨a',b',rfl,h1,h2⟩:=hx2.fns
   have ea:a'= #[]:=by
    have:=h1.len
    exact Array.eq_empty_of_size_eq_zero (by simpa using this.symm)
   have eb:b'= #[]:=by
    have:=h2.len
    exact Array.eq_empty_of_size_eq_zero (by simpa using this.symm)
   subst ea;subst eb
   show CallOk P _ _ w _
   unfold CallOk
   rw[callFunc_enter hf hname hb]
   refine .inr (.inl ⟨_,_,_,rfl,?_⟩)
   obtain⟨hle,hF⟩:d.length≤d.length∧FullOk w ρ id d.length ⟨.vals (d.map av),1,d.length,cap,nl,true,bx⟩ x1:=by
    cases hx1 with
    |imm _ _ hi=>cases hi
    |full _ _ k1 x hh hle hp hx=>
     rw[Hid]at hh
     cases hh
     exact⟨Nat.le_refl _,hx rfl⟩
   have hnone:∀(p:Option Addr) (cp:Nat),d=[]→Calls P (ρr.f 6) ⟨[.slice p d.length cp,.func (.func g) #[] #[]]⟩ w fun e w'=>∃v,e=.returned v∧KD G F ρ H w {v:=.tup [],ws:=[(id,.blk ⟨.vals (res.map av),1,d.length,cap,nl,true,bx⟩)],al:=[],cs:=[]} v w':=by
    intro p cp hd
    have hc:=Go.Proofs.AnyF.slices_SortFunc_none L0 p cp (.func (.func g) #[] #[]) w
    rw[show(0:Nat)=d.length by rw[hd];rfl]at hc
    refine hc.mono fun e w' ⟨he,hw⟩=>⟨_,he,?_⟩
    subst hw
    have es:res=d:=by
     rw[hd]at hl ⊢
     exact List.length_eq_zero_iff.1 hl
    have eu:updL H [(id,.blk ⟨.vals (res.map av),1,d.length,cap,nl,true,bx⟩)]=H:=by
     rw[es]
     funext i
     by_cases e:i=id
     ·subst e;simp only[updL];rw[upd_same,Hid]
     ·simp only[updL];rw[upd_other _ _ e]
    refine⟨F,ρ,?_,Ext.refl _ _ _,?_,?_⟩
    ·rw[eu];exact hm
    ·rw[eu];exact HKeep.refl _ _ _
    ·exact .imm _ _ (.tup [] #[] .nil)
   by_cases hd:d=[]
   ·rcases hF with⟨e1,_,_,rfl⟩|⟨e1,_,_,a,rfl⟩|⟨_,b,cp,cs,ty,fz,_,_,rfl,_,_,_⟩
    ·have:=hnone none 0 hd
     rw[e1]at this ⊢
     exact this
    ·have:=hnone (some a) 0 hd
     rw[e1]at this ⊢
     exact this
    ·exact hnone _ _ hd
   ·have hpos:0<d.length:=List.length_pos_iff.2 hd
    rcases hF with⟨e1,_,_,rfl⟩|⟨e1,_,_,a,rfl⟩|⟨_,b,cp,cs,ty,fz,hρ,hheap,rfl,hlc,hcs,_⟩
    ·omega
    ·omega
    ·obtain⟨hsize,h3|⟨b',hb',hB⟩⟩:=hm.heap id _ Hid
     ·have:=h3.1;simp only at this;omega
     ·obtain rfl:b=b':=Option.some.inj (hρ.symm.trans hb')
      obtain⟨cs',ty',fz',g1,g2,g3,g4⟩:=hB.ex rfl
      rw[hheap]at g1
      cases g1
      simp only[size_vals,List.length_map]at g3 g4
      haveI:Inhabited (Fin d.length):=⟨⟨0,hpos⟩⟩
      let enc:Fin d.length→Value:=fun i=>(cs[i.1]?).getD undef
      let cf:Fin d.length→Fin d.length→Int:=fun i j=>cmp d[i] d[j]
      have hrel:∀i:Fin d.length,cs[i.1]? =some (enc i)∧RelI w F (av d[i]) (enc i)∧(enc i).oneCell'=true:=fun i=>by
       obtain⟨x,q1,q2,q3⟩:=g4 i.1 i.2
       have q2:RelI w F ((d.map av).getD i.1 .undef) x:=q2
       rw[List.getD_eq_getElem?_getD,List.getElem?_map,List.getElem?_eq_getElem i.2]at q2
       have e:enc i=x:=by simp only[enc];rw[q1];rfl
       rw[e]
       exact⟨q1,q2,q3⟩
      have hOf:Go.Sort.SWO (Go.Proofs.ltOf cf):=⟨fun x=>hO.irrefl d[x],fun x y z=>hO.trans d[x] d[y] d[z],fun x y z=>hO.ntrans d[x] d[y] d[z]⟩
      let idx:Array (Fin d.length):=Array.ofFn (fun i=>i)
      have hidx:idx.size=d.length:=by simp[idx]
      have hgi:∀(D:Array (Fin d.length)) (j:Nat),j<D.size→∃h:j<D.size,D[j]! =D[j]:=fun D j h=>⟨h,by simp[h]⟩
      have hH:Go.Sort.Holds enc w b 0 idx:=fun j hj=>by
       have hj':j<d.length:=by rw[← hidx];exact hj
       constructor
       ·simp only[World.cell?,hheap,Nat.zero_add,Option.isSome_none,Bool.false_eq_true,if_false]
        have e:idx[j]! =⟨j,hj'⟩:=by
         rw[getElem!_pos idx j hj];simp[idx]
        rw[e]
        exact(hrel ⟨j,hj'⟩).1
       ·have:=g2 j
        obtain⟨lo,hi⟩:=fz
        simp only[World.frozen?,hheap,Nat.zero_add]
        simp only[not_and,Nat.not_lt]at this
        by_cases hlo:lo≤j
        ·simp[hlo];exact this hlo
        ·simp[hlo]
      have hblk:b<w.heap.size:=lt_of_some hheap
      have hbF:¬ F b:=hB.mu rfl
      have hcmp:Go.Proofs.CmpLays1 P g #[] enc cf b 0 idx.size w:=fun m os dk hs x y=>by
       have hwF:∀b',F b'→(Go.Proofs.sortWorld enc w b 0 m dk os).heap[b']? =w.heap[b']? :=fun b' hb'=>by
        have hlt:=hm.frz b' hb'
        show((w.heap.modify b _)++os)[b']? =_
        rw[Array.getElem?_append,if_pos (by simpa using hlt),Array.getElem?_modify,if_neg (fun(e:b=b')=>hbF (by rw[e];exact hb'))]
       have hx:=(hrel x).2.1.mono hwF (fun _ h=>h)
       have hy:=(hrel y).2.1.mono hwF (fun _ h=>h)
       have:=calls_of_strongF hst hgs (hC d[x] (List.getElem_mem _) d[y] (List.getElem_mem _)) hg hgname hgb F (Go.Proofs.sortWorld enc w b 0 m dk os) (fun b' hb'=>by
        have:=hm.frz b' hb'
        show b'<((w.heap.modify b _)++os).size
        simp;omega) (vs:= #[enc x,enc y]) (.cons _ _ _ _ hx (.cons _ _ _ _ hy .nil))
       have e: #[enc x,enc y]++(#[]:Array Value)= #[enc x,enc y]:=by simp
       rw[e]
       exact this
      have hcall:=Go.Proofs.Any.slices_SortFunc_eq L enc (fun x=>(hrel x).2.2) cf hOf g #[] b 0 cp idx w (callFunc_enter hg hgname hgb) hcmp hH hblk (by rw[hidx];omega)
      rw[hidx]at hcall
      refine hcall.mono fun e w' ⟨he,m,os,hw⟩=>⟨_,he,?_⟩
      have hsort:=Go.Sort.pdq_sorts (Go.Proofs.ltOf cf) hOf idx 0 d.length (Lib.bitLen d.length) true true (Nat.zero_le _) (by omega) (Or.inl rfl)
      generalize Go.Sort.pdq (Go.Proofs.ltOf cf) idx 0 d.length (Lib.bitLen d.length) true true=D at hw hsort
      obtain⟨⟨hDs,_,hDp⟩,hDo⟩:=hsort
      have hDl:D.size=d.length:=by rw[hDs,hidx]
      have hres:D.toList.map (fun i=>d[i])=res:=by
       refine sorted_unique (lt:=fun x y=>cmp x y<0) (fun x h=>?_) (fun x y h k=>?_) res _ ?_ ?_ hs
       ·have:=hO.irrefl x;unfold Go.Proofs.ltOf at this;simp at this;omega
       ·have h1:Go.Proofs.ltOf cmp x y=true:=by unfold Go.Proofs.ltOf;simpa using h
        have h2:Go.Proofs.ltOf cmp y x=true:=by unfold Go.Proofs.ltOf;simpa using k
        have:=hO.trans x y x h1 h2
        rw[hO.irrefl x]at this;cases this
       ·have e1:(D.extract 0 d.length).toList=D.toList:=by
         have:D.extract 0 d.length=D:=Array.extract_eq_self_of_le (by omega)
         rw[this]
        have e2:(idx.extract 0 d.length).toList=idx.toList:=by
         have:idx.extract 0 d.length=idx:=Array.extract_eq_self_of_le (by omega)
         rw[this]
        rw[e1,e2]at hDp
        have e3:idx.toList.map (fun i=>d[i])=d:=by
         apply List.ext_getElem
         ·simp[idx]
         ·intro i h1 h2
          simp[idx]
        exact(((hDp.map _).trans (by rw[e3])).trans hp.symm)
       ·rw[List.pairwise_map,List.pairwise_iff_getElem]
        intro i j hi hj hij hlt
        have hi':i<D.size:=by simpa using hi
        have hj':j<D.size:=by simpa using hj
        have:=hDo i j (Nat.zero_le _) hij (by omega)
        rw[getElem!_pos D i hi',getElem!_pos D j hj']at this
        unfold Go.Proofs.ltOf at this
        simp only[decide_eq_false_iff_not,cf]at this
        simp only[Array.getElem_toList]at hlt
        exact this hlt
      let w1:World:=Go.Sort.putRow enc w b 0 D
      have hw1:w1.heap=w.heap.modify b (Go.Sort.onCells (Go.Sort.putCells enc 0 D)):=rfl
      let cs1:Array Value:=Go.Sort.putCells enc 0 D cs
      have hnew:w1.heap[b]? =some (.cells cs1 ty fz):=by
       rw[hw1,Array.getElem?_modify,if_pos rfl,hheap];rfl
      have hoth:∀j,j≠b→w1.heap[j]? =w.heap[j]? :=fun j hj=>by
       rw[hw1,Array.getElem?_modify,if_neg (Ne.symm hj)]
      have hsz1:w1.heap.size=w.heap.size:=by rw[hw1];simp
      have hcs1:cs1.size=cs.size:=by simp[cs1,Go.Sort.putCells]
      obtain⟨m1,x1,k1⟩:=hm.write (w':=w1) (o':=.blk ⟨.vals (res.map av),1,d.length,cap,nl,true,bx⟩) Hid hρ hbF hnew hoth hsz1 ⟨rfl,rfl,fun _=>⟨rfl,Nat.le_refl _⟩⟩
       (fun cs2 ty2 fz2 h=>by rw[hheap]at h;cases h;exact⟨_,_,_,rfl,hcs1⟩) rfl
       (fun k hk=>by cases hk;exact⟨_,rfl,Nat.le_refl _,fun _=>⟨rfl,rfl,.inl rfl⟩⟩)
       (fun hkp=>⟨by simp only[size_vals,List.length_map,hl,Nat.mul_one],.inr ⟨b,hρ,RelB.ofCells rfl ⟨cs1,ty,fz,hnew,g2,by simp only[size_vals,List.length_map,hl];rw[hcs1];exact g3,fun i hi=>by
        simp only[size_vals,List.length_map,hl]at hi
        have hiD:i<D.size:=by omega
        have hi2:i<cs.size:=by omega
        refine⟨enc D[i],?_,?_,(hrel D[i]).2.2⟩
        ·show(Go.Sort.putCells enc 0 D cs)[i]? =_
         unfold Go.Sort.putCells
         rw[Array.getElem?_mapIdx,Array.getElem?_eq_getElem hi2]
         simp only[Option.map_some,Nat.zero_le,true_and,Nat.zero_add,Nat.sub_zero]
         rw[if_pos hiD,getElem!_pos D i hiD]
        ·show RelI _ _ ((res.map av).getD i .undef) _
         have e:(res.map av).getD i .undef=av d[D[i]]:=by
          have e0:res[i]? =some d[D[i]]:=by
           have e1:(D.toList.map (fun i=>d[i]))[i]? =some d[D[i]]:=by rw[List.getElem?_map,Array.getElem?_toList,Array.getElem?_eq_getElem hiD];rfl
           exact(congrArg (fun l:List α=>l[i]?) hres).symm.trans e1
          rw[List.getD_eq_getElem?_getD,List.getElem?_map,e0];rfl
         rw[e]
         exact(hrel D[i]).2.1.mono (fun b' hb'=>hoth b' (fun e=>hbF (e▸hb'))) (fun _ h=>h)⟩ (fun _=>hbF) (fun h=>by cases h)⟩⟩)
      obtain⟨m2,x2,k2⟩:=m1.grown (w':=w') (os:=os) (by rw[hw];rfl) (by rw[hw];exact⟨rfl,rfl,fun _=>⟨rfl,Nat.le_add_right _ _⟩⟩)
      exact⟨F,ρ,m2,x1.trans x2,k1.trans k2,.imm _ _ (.tup [] #[] .nil)⟩
end Go.Ab
