/- An abstract reading of the program: what its operations do to what is known of memory. Part 6 of 6. -/
import Derived.Test.YtfpcbimohikhmaaDoorAb5
import Derived.Shelf.SlSortCmp.NoneTotal

/-
 slices.SortFunc over structs of numbers, by the contract of the library's shelf, as a contract here.
-/
set_option linter.unusedVariables false
namespace Go.Ab
open Go Go.RowKit

structure RowS (α:Type) where
 k:Nat
 row:α→List (IntKind×Int)
 len:∀x,(row x).length=k
def RowS.av {α:Type}(R:RowS α)(x:α):List AV:=(R.row x).map fun p=>AV.int p.1 p.2
def RowS.vl {α:Type}(R:RowS α)(x:α):List Value:=(R.row x).map fun p=>Value.int p.1 p.2
def sortL {α:Type}[Inhabited α](cf:α→α→Int)(d:List α):List α:=(Go.Sort.pdq (Go.Proofs.ltOf cf) d.toArray 0 d.length (Lib.bitLen d.length) true true).toList
theorem sortL_perm {α:Type}[Inhabited α]{cf:α→α→Int}(hO:Go.Sort.SWO (Go.Proofs.ltOf cf))(d:List α):(sortL cf d).Perm d∧(sortL cf d).Pairwise (fun x y=>¬ cf y x<0):=by
 have h:=Go.Sort.pdq_sorts (Go.Proofs.ltOf cf) hO d.toArray 0 d.toArray.size (Lib.bitLen d.toArray.size) true true (Nat.zero_le _) (Nat.le_refl _) (Or.inl rfl)
 obtain⟨⟨hs,_,hp⟩,ho⟩:=h
 have e:sortL cf d=(Go.Sort.pdq (Go.Proofs.ltOf cf) d.toArray 0 d.toArray.size (Lib.bitLen d.toArray.size) true true).toList:=by simp[sortL]
 rw[e]
 generalize Go.Sort.pdq (Go.Proofs.ltOf cf) d.toArray 0 d.toArray.size (Lib.bitLen d.toArray.size) true true=D at*
 constructor
 ·have e1:(D.extract 0 d.toArray.size).toList=D.toList:=by rw[← hs];simp
  have e2:(d.toArray.extract 0 d.toArray.size).toList=d:=by simp
  rw[e1,e2]at hp
  exact hp
 ·rw[List.pairwise_iff_getElem]
  intro i j hi hj hij hlt
  have hj':j<d.toArray.size:=by rw[← hs];simpa using hj
  have:=ho i j (Nat.zero_le _) hij hj'
  have g1:D[i]! =D.toList[i]:=by
   have:i<D.size:=by simpa using hi
   simp[this]
  have g2:D[j]! =D.toList[j]:=by
   have:j<D.size:=by simpa using hj
   simp[this]
  rw[g1,g2]at this
  unfold Go.Proofs.ltOf at this
  simp only[decide_eq_false_iff_not]at this
  exact this hlt
theorem flatMap_row {α β:Type}{f:α→List β}{k:Nat}(hk:0<k)(hf:∀x,(f x).length=k):∀(l:List α) (j:Nat),(l.flatMap f)[j]? =(l[j/k]?).bind fun x=>(f x)[j%k]?
 |[],j=>by simp
 |x::l,j=>by
  rw[List.flatMap_cons]
  by_cases h:j<k
  ·rw[List.getElem?_append_left (by rw[hf];exact h),Nat.div_eq_of_lt h,Nat.mod_eq_of_lt h];rfl
  ·have h':k≤j:=Nat.le_of_not_lt h
   rw[List.getElem?_append_right (by rw[hf];exact h'),hf,flatMap_row hk hf l (j-k),Nat.div_eq_sub_div hk h',Nat.mod_eq_sub_mod h']
   rfl
section
variable {α:Type}(R:RowS α)
theorem RowS.av_len (x:α):(R.av x).length=R.k:=by unfold RowS.av;rw[List.length_map,R.len]
theorem RowS.vl_len (x:α):(R.vl x).length=R.k:=by unfold RowS.vl;rw[List.length_map,R.len]
theorem RowS.flat_len (d:List α):(d.flatMap R.av).length=d.length*R.k:=by
 induction d with
 |nil=>simp
 |cons x d ih=>rw[List.flatMap_cons,List.length_append,R.av_len,ih,List.length_cons,Nat.add_mul,Nat.one_mul,Nat.add_comm]
theorem RowS.flat_rel [Inhabited α](hk:0<R.k)(d:List α)(i:Nat)(hi:i<d.length*R.k):∃kd n,(d.flatMap R.av)[i]? =some (.int kd n)∧(Go.Sort.flatK R.vl R.k d.toArray)[i]! =.int kd n:=by
 have h1:i/R.k<d.length:=Nat.div_lt_of_lt_mul (by rw[Nat.mul_comm];exact hi)
 have h2:i%R.k<(R.row d[i/R.k]).length:=by rw[R.len];exact Nat.mod_lt _ hk
 refine⟨((R.row d[i/R.k])[i%R.k]).1,((R.row d[i/R.k])[i%R.k]).2,?_,?_⟩
 ·rw[flatMap_row hk R.av_len,List.getElem?_eq_getElem h1]
  simp only[Option.bind_some,RowS.av,List.getElem?_map,List.getElem?_eq_getElem h2,Option.map_some]
 ·rw[Go.Sort.get_flatK _ _ _ _ (by simpa using hi)]
  have e:d.toArray[i/R.k]! =d[i/R.k]:=by simp[h1]
  rw[e]
  unfold RowS.vl
  rw[getElem!_pos _ _ (by simpa using h2)]
  simp
end
theorem MRel.grown {G:GL}{F:Nat→Prop}{ρ:Nat→Option Nat}{H:Nat→Option HO}{w w':World}(hm:MRel G F ρ H w){os:Array Obj}(hw:w'.heap=w.heap++os)(hio:IoEq G w w'):
  MRel G F ρ H w'∧Ext G F ρ w F ρ w'∧HKeep w ρ H w' ρ H:=by
 have hold:∀b,b<w.heap.size→w'.heap[b]? =w.heap[b]? :=fun b hb=>by rw[hw,Array.getElem?_append,if_pos hb]
 have hsz:w.heap.size≤w'.heap.size:=by rw[hw];simp
 have hk:HKeep w ρ H w' ρ H:=⟨fun id o h1 h2=>⟨o,h1,h2,rfl⟩,fun id k h1=>⟨k,h1,rfl,Nat.le_refl _,fun _=>⟨rfl,rfl,.inl rfl,rfl⟩⟩,fun b cs ty fz hb=>⟨cs,ty,fz,(hold b (lt_of_some hb)).trans hb,rfl⟩,fun id k l v h1=>⟨k,l,v,h1,Nat.le_refl _,fun _=>⟨rfl,rfl,rfl,fun b hb=>hold b (hm.lt id b hb)⟩⟩⟩
 have hwF:∀b,F b→w'.heap[b]? =w.heap[b]? :=fun b hb=>hold b (hm.frz b hb)
 refine⟨⟨fun id o ho=>(hm.heap id o ho).mono hwF (fun _ h=>h) hk rfl (fun b hb=>⟨hold b (hm.lt id b hb),fun h=>h⟩),hm.dom,hm.inj,fun id b hb=>Nat.lt_of_lt_of_le (hm.lt id b hb) hsz,fun b hb=>Nat.lt_of_lt_of_le (hm.frz b hb) hsz,hm.glob.mono hwF (fun _ h=>h)⟩,?_,hk⟩
 exact⟨hio,hsz,fun b hb _=>hold b hb,hwF,fun _ h=>h,fun _ h=>.inl h,fun id b hb=>.inl ⟨id,hb⟩⟩
theorem calls_of_strong {P:Program}{G:GL}(hst:G.strong)(hg:∀g,G.g g=none){f:Nat}{fn:Func}{c:Code}{args:List AV}{vs:Array Value}{n:Int}(hs:SpecP P G f args (.int .i64 n) [])
  (hf:P.funcs[f]? =some fn) (hname:(fn.name=="runtime.NumGoroutine")=false) (hb:fn.body=some c) (W:World) (hr:RelIs W (fun _=>False) args vs.toList):
  Calls P f vs W fun e w'=>e=.returned (.int .i64 n)∧∃q os',w'=Go.Sort.grow (W.drewN q) os':=by
 have hm:MRel G (fun _=>False) noR noH W:=⟨fun id o h=>(by cases h),fun id b h=>(by cases h),fun i j b h=>(by cases h),fun id b h=>(by cases h),fun b h=>h.elim,fun g c hc=>by rw[hg]at hc;cases hc⟩
 have key:∀v w',(∃F' ρ',MRel G F' ρ' (hsH []) w'∧Ext G (fun _=>False) noR W F' ρ' w'∧RelV w' F' ρ' (hsH []) (.int .i64 n) v)→v=.int .i64 n∧∃q os',w'=Go.Sort.grow (W.drewN q) os':=by
  rintro v w' ⟨F',ρ',h1,h2,h3⟩
  refine⟨h3.ints,w'.drawn-W.drawn,w'.heap.extract W.heap.size w'.heap.size,?_⟩
  obtain⟨i1,i2,i3⟩:=h2.io
  obtain⟨i3,i4⟩:=i3 hst
  have hh:w'.heap=W.heap++w'.heap.extract W.heap.size w'.heap.size:=by
   have hz:=h2.size
   apply Array.ext_getElem?
   intro i
   rw[Array.getElem?_append]
   by_cases hi:i<W.heap.size
   ·rw[if_pos hi];exact h2.same i hi (fun id e=>by cases e)
   ·rw[if_neg hi,Array.getElem?_extract]
    by_cases hi2:i<w'.heap.size
    ·rw[if_pos (by omega)];congr 1;omega
    ·rw[if_neg (by omega)];exact Array.getElem?_eq_none (by omega)
  obtain⟨wh,wt,wd,wo,wp⟩:=w'
  obtain⟨Wh,Wt,Wd,Wo,Wp⟩:=W
  simp only at i1 i2 i3 i4 hh
  show _=World.mk _ _ _ _ _
  simp only[World.drewN,World.mk.injEq]
  exact⟨hh,i3,by omega,i1,i2⟩
 have h:=hs _ W vs hm hr
 unfold CallOk at h
 rw[callFunc_enter hf hname hb]at h
 rcases h with⟨nx,y,w',h1,h2,_⟩|⟨f',args',w1,h1,h2⟩|⟨l,fn',tmps,as',bd,w1,h1,_⟩
 ·cases h1;rcases h2 with h2|⟨h2,_⟩<;>cases h2
 ·cases h1
  refine h2.mono ?_
  rintro e w' ⟨v,rfl,hk⟩
  obtain⟨rfl,h⟩:=key v w' hk
  exact⟨rfl,h⟩
 ·cases h1
theorem sortF_spec {P:Program}{G:GL}{ρr:Go.Shelf.Ren}{α:Type}[Inhabited α](L:Go.Proofs.SlLaysF0.n6 P ρr)(R:RowS α)(hk0:0<R.k)(aE:∀w,(isAgg (ρr.t 24)).run P w=.ok true w)(zE:∀w,(Go.sizeOf (ρr.t 24)).run P w=.ok R.k w)
  (cf:α→α→Int) (hO:Go.Sort.SWO (Go.Proofs.ltOf cf)) {f g:Nat} {fn:Func} {c:Code} (hfr:ρr.f 6=f) (hf:P.funcs[f]? =some fn) (hname:(fn.name=="runtime.NumGoroutine")=false) (hb:fn.body=some c)
  (eg:∀args w,(callFunc g args).run P w=.ok (.enter g args) w)
  (hC:∀(W:World) (x y:α),Calls P g #[.agg (R.vl x).toArray,.agg (R.vl y).toArray] W fun e w'=>e=.returned (.int .i64 (cf x y))∧∃q os',w'=Go.Sort.grow (W.drewN q) os')
  {id:Nat} {d:List α} {cap:Option Nat} {nl:Option Bool} {bx:Bool} (hsz:d.length<1000000000):
  SpecD P G (.fn f [] []) [.full id d.length,.fn g [] []] [(id,.blk ⟨.vals (d.flatMap R.av),R.k,d.length,cap,nl,true,bx⟩)] (.tup [])
   [(id,.blk ⟨.vals ((sortL cf d).flatMap R.av),R.k,d.length,cap,nl,true,bx⟩)] []:=by
 subst hfr
 intro F ρ w xs hm hv
 obtain⟨vl⟩:=xs
 have Hid:aget [(id,HO.blk ⟨.vals (d.flatMap R.av),R.k,d.length,cap,nl,true,bx⟩)] id=some (.blk ⟨.vals (d.flatMap R.av),R.k,d.length,cap,nl,true,bx⟩):=by simp[aget]
 generalize hH:aget [(id,HO.blk ⟨.vals (d.flatMap R.av),R.k,d.length,cap,nl,true,bx⟩)]=H at*
 have hl:(sortL cf d).length=d.length:=(sortL_perm hO d).1.length_eq
 cases hv with
 |cons _ _ x1 r1 hx1 hv=>
  cases hv with
  |cons _ _ x2 r2 hx2 hv2=>
   cases hv2
   obtain⟨a',b',rfl,h1,h2⟩:=hx2.fns
   have ea:a'= #[]:=by
    have:=h1.len
    exact Array.eq_empty_of_size_eq_zero (by simpa using this.symm)
   have eb:b'= #[]:=by
    have:=h2.len
    exact Array.eq_empty_of_size_eq_zero (by simpa using this.symm)
   subst ea;subst eb
   show CallOk P _ _ w _
   unfold CallOk
   rw[callFunc_enter hf hname hb]
   refine .inr (.inl ⟨_,_,_,rfl,?_⟩)
   obtain⟨hle,hF⟩:d.length≤d.length∧FullOk w ρ id d.length ⟨.vals (d.flatMap R.av),R.k,d.length,cap,nl,true,bx⟩ x1:=by
    cases hx1 with
    |imm _ _ hi=>cases hi
    |full _ _ k1 x hh hle hp hx=>
     rw[Hid]at hh
     cases hh
     exact⟨Nat.le_refl _,hx rfl⟩
   have hnone:∀(p:Option Addr) (cp:Nat),d=[]→Calls P (ρr.f 6) ⟨[.slice p d.length cp,.func (.func g) #[] #[]]⟩ w fun e w'=>∃v,e=.returned v∧KD G F ρ H w {v:=.tup [],ws:=[(id,.blk ⟨.vals ((sortL cf d).flatMap R.av),R.k,d.length,cap,nl,true,bx⟩)],al:=[],cs:=[]} v w':=by
    intro p cp hd
    have hc:=Go.Proofs.AnyF.slices_SortFunc_none L p cp (.func (.func g) #[] #[]) w
    rw[show(0:Nat)=d.length by rw[hd];rfl]at hc
    refine hc.mono fun e w' ⟨he,hw⟩=>⟨_,he,?_⟩
    subst hw
    have es:sortL cf d=d:=by
     rw[hd]at hl ⊢
     exact List.length_eq_zero_iff.1 hl
    have eu:updL H [(id,.blk ⟨.vals ((sortL cf d).flatMap R.av),R.k,d.length,cap,nl,true,bx⟩)]=H:=by
     rw[es]
     funext i
     by_cases e:i=id
     ·subst e;simp only[updL];rw[upd_same,Hid]
     ·simp only[updL];rw[upd_other _ _ e]
    refine⟨F,ρ,?_,Ext.refl _ _ _,?_,?_⟩
    ·rw[eu];exact hm
    ·rw[eu];exact HKeep.refl _ _ _
    ·exact .imm _ _ (.tup [] #[] .nil)
   by_cases hd:d=[]
   ·rcases hF with⟨e1,_,_,rfl⟩|⟨e1,_,_,a,rfl⟩|⟨_,b,cp,cs,ty,fz,_,_,rfl,_,_,_⟩
    ·have:=hnone none 0 hd
     rw[e1]at this ⊢
     exact this
    ·have:=hnone (some a) 0 hd
     rw[e1]at this ⊢
     exact this
    ·exact hnone _ _ hd
   ·have hpos:0<d.length:=List.length_pos_iff.2 hd
    rcases hF with⟨e1,_,_,rfl⟩|⟨e1,_,_,a,rfl⟩|⟨_,b,cp,cs,ty,fz,hρ,hheap,rfl,hlc,hcs,_⟩
    ·omega
    ·omega
    ·obtain⟨hsize,h3|⟨b',hb',hB⟩⟩:=hm.heap id _ Hid
     ·have:=h3.1;simp only at this;omega
     ·obtain rfl:b=b':=Option.some.inj (hρ.symm.trans hb')
      obtain⟨cs',ty',fz',g1,g2,g3,g4⟩:=hB.ex rfl
      rw[hheap]at g1
      cases g1
      simp only[size_vals,R.flat_len]at g3 g4
      have hcell:∀j,j<d.length*R.k→cs[j]? =some (Go.Sort.flatK R.vl R.k d.toArray)[j]! :=fun j hj=>by
       obtain⟨x,q1,q2,q3⟩:=g4 j hj
       obtain⟨kd,n,p1,p2⟩:=R.flat_rel hk0 d j hj
       have q2:RelI w F ((d.flatMap R.av).getD j .undef) x:=q2
       rw[List.getD_eq_getElem?_getD,p1]at q2
       cases q2
       rw[q1,p2]
      have hH:Go.Sort.HoldsK R.vl R.k w b 0 d.toArray:=fun j hj=>by
       have hj':j<d.length*R.k:=by simpa using hj
       constructor
       ·simp only[World.cell?,hheap,Nat.zero_add,Option.isSome_none,Bool.false_eq_true,if_false]
        rw[hcell j hj'];rfl
       ·have:=g2 j
        obtain⟨lo,hi⟩:=fz
        simp only[World.frozen?,hheap,Nat.zero_add]
        simp only[not_and,Nat.not_lt]at this
        by_cases hlo:lo≤j
        ·simp[hlo];exact this hlo
        ·simp[hlo]
      have hblk:b<w.heap.size:=lt_of_some hheap
      have hcmp:Go.Proofs.CmpLays P g #[] R.vl R.k cf b 0 d.toArray.size w:=fun m os dk hs x y=>by
       have:=hC (Go.Proofs.sortWorldK R.vl R.k w b 0 m dk os) x y
       simpa using this
      have hcall:=Go.Proofs.AnyQ.slices_SortFunc_eq L R.k aE zE R.vl R.vl_len (fun x v hv=>by
       unfold RowS.vl at hv
       obtain⟨p,_,rfl⟩:=List.mem_map.1 hv
       rfl) cf hO g #[] b 0 cp d.toArray w eg hcmp hH hblk (by simp;omega)
      have esz:d.toArray.size=d.length:=by simp
      rw[esz]at hcall
      refine hcall.mono fun e w' ⟨he,m,os,hw⟩=>⟨_,he,?_⟩
      have eD:(Go.Sort.pdq (Go.Proofs.ltOf cf) d.toArray 0 d.length (Lib.bitLen d.length) true true)=(sortL cf d).toArray:=by simp[sortL]
      rw[eD]at hw
      let w1:World:=Go.Sort.putRowK R.vl R.k w b 0 (sortL cf d).toArray
      have hw1:w1.heap=w.heap.modify b (Go.Sort.onCells (Go.Sort.putCells _root_.id 0 (Go.Sort.flatK R.vl R.k (sortL cf d).toArray))):=rfl
      let cs1:Array Value:=Go.Sort.putCells _root_.id 0 (Go.Sort.flatK R.vl R.k (sortL cf d).toArray) cs
      have hnew:w1.heap[b]? =some (.cells cs1 ty fz):=by
       rw[hw1,Array.getElem?_modify,if_pos rfl,hheap];rfl
      have hoth:∀j,j≠b→w1.heap[j]? =w.heap[j]? :=fun j hj=>by
       rw[hw1,Array.getElem?_modify,if_neg (Ne.symm hj)]
      have hsz1:w1.heap.size=w.heap.size:=by rw[hw1];simp
      have hcs1:cs1.size=cs.size:=by simp[cs1,Go.Sort.putCells]
      have hmu:=hB.mu rfl
      obtain⟨m1,x1,k1⟩:=hm.write (w':=w1) (o':=.blk ⟨.vals ((sortL cf d).flatMap R.av),R.k,d.length,cap,nl,true,bx⟩) Hid hρ hmu hnew hoth hsz1 ⟨rfl,rfl,fun _=>⟨rfl,Nat.le_refl _⟩⟩
       (fun cs2 ty2 fz2 h=>by rw[hheap]at h;cases h;exact⟨_,_,_,rfl,hcs1⟩) rfl
       (fun k hk=>by cases hk;exact⟨_,rfl,Nat.le_refl _,fun _=>⟨rfl,rfl,.inl rfl⟩⟩)
       (fun hkp=>⟨by simp only[size_vals,R.flat_len,hl],.inr ⟨b,hρ,RelB.ofCells rfl ⟨cs1,ty,fz,hnew,g2,by simp only[size_vals,R.flat_len,hl];rw[hcs1];exact g3,fun i hi=>by
        simp only[size_vals,R.flat_len]at hi
        obtain⟨kd,n,p1,p2⟩:=R.flat_rel hk0 (sortL cf d) i hi
        have hi2:i<cs.size:=by rw[hl]at hi;omega
        refine⟨.int kd n,?_,⟨?_,rfl⟩⟩
        ·show(Go.Sort.putCells _root_.id 0 (Go.Sort.flatK R.vl R.k (sortL cf d).toArray) cs)[i]? =_
         unfold Go.Sort.putCells
         rw[Array.getElem?_mapIdx,Array.getElem?_eq_getElem hi2]
         simp only[Option.map_some,Nat.zero_le,true_and,Nat.zero_add,Nat.sub_zero]
         rw[if_pos (by simpa using hi),p2];rfl
        ·show RelI _ _ (((sortL cf d).flatMap R.av).getD i .undef) _
         rw[List.getD_eq_getElem?_getD,p1]
         exact .int _ _⟩ (fun _=>hmu) (fun h=>by cases h)⟩⟩)
      obtain⟨m2,x2,k2⟩:=m1.grown (w':=w') (os:=os) (by rw[hw];rfl) (by rw[hw];exact⟨rfl,rfl,fun _=>⟨rfl,Nat.le_add_right _ _⟩⟩)
      exact⟨F,ρ,m2,x1.trans x2,k1.trans k2,.imm _ _ (.tup [] #[] .nil)⟩
end Go.Ab
