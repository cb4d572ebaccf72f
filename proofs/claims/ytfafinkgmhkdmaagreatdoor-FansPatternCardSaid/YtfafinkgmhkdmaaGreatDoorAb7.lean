/- An abstract reading of the program: what its operations do to what is known of memory. Part 7 of 9. -/
import Derived.Test.YtfafinkgmhkdmaaGreatDoorAb6
import Derived.Test.YtfafinkgmhkdmaaGreatDoorAb5
import Derived.Below
import Derived.ChangeSame
import Derived.Carry
import Derived.WideKeyArgs
import Derived.Lib.LaidTab
import Derived.ChangeSlices
import Derived.LaidHandle

/-
 Functions run on closed arguments, with what is proved of other functions at hand.
-/
set_option linter.unusedVariables false
set_option linter.unusedSimpArgs false
namespace Go.Ab
open Go

def evM (G:GL)(xp:Nat→Option FnE)(nat:Nat→List AV→Option AV)(me:TB)(fuel:Nat):Nat→TB
 |0,_,_,_,_=>none
 |n+1,c,h,cv,args=>match cv with
  |.fn f _ _=>match nat f args with
   |some v=>some {v:=v,ws:=[],al:=[],cs:=[]}
   |none=>match me c h cv args with
   |some D=>some D
   |none=>match xp f with
    |some fe=>cond (Nat.ble args.length fe.n) (match evC G (evM G xp nat me fuel n) none c fuel fe.xc ⟨entryH args h fe.n,c,[]⟩with
     |some (e,s)=>match e with
      |.exit _=>none
      |_=>match resV s.S fe.rts with
       |some vals=>finE (keys h) c s vals
       |none=>none
     |none=>none) none
    |none=>none
  |.yld id=>match aget h id with
   |some (.loop l)=>cond (Nat.beq l.st 0&&(Nat.beq args.length l.ps.length&&allLtP l.n l.ps)) (match evC G (evM G xp nat me fuel n) (some id) c fuel l.as ⟨⟨setPs l.t l.ps args,h,l.n⟩,c,[]⟩with
    |some (e1,s1)=>match e1 with
     |.normal=>match aget s1.S.h id with
      |some (.loop l1)=>cond (Nat.beq l1.st 0) (match evC G (evM G xp nat me fuel n) (some id) c fuel l.bd ⟨{s1.S with h:=aset s1.S.h id (.loop {l1 with st:=1})},s1.c,addW c s1.wr [(id,.loop l1)]⟩with
       |some (e,s2)=>match aget s2.S.h id with
        |some (.loop l2)=>finE (keys h) c ⟨{s2.S with h:=aset s2.S.h id (.loop {l2 with st:=cond e.isN 0 2,pend:=cond e.isN none (some e)})},s2.c,s2.wr⟩ [.bool e.isN]
        |_=>none
       |none=>none) none
      |_=>none
     |_=>none
    |none=>none) none
   |_=>none
  |_=>none

section
variable {P:Program}{G:GL}{md:Md}{F:Nat→Prop}{ρ:Nat→Option Nat}{H:Nat→Option HO}{w:World}{a:Act}{tb:TB}
theorem allC_app {Sp:SpT}:∀{a b:List Cd},AllC Sp a→AllC Sp b→AllC Sp (a++b)
 |[],_,_,h=>h
 |_::_,_,h,k=>⟨h.1,allC_app h.2 k⟩
theorem evM_sound (hcm:G.cm=cmOf P)(hmx:P.follows .mixedOrders=true){xp:Nat→Option FnE}(hxp:XpOk P xp){nat:Nat→List AV→Option AV}(hnat:NatOk P nat){me:TB}(hme:TBok P G me)(fuel:Nat):∀n,TBok P G (evM G xp nat me fuel n):=by
 intro n
 induction n with
 |zero=>intro c h cv args D hD;simp[evM]at hD
 |succ n ih=>
  intro c h cv args D hD
  simp only[evM]at hD
  split at hD
  ·rename_i f x1 x2
   split at hD
   ·rename_i v hv
    cases hD
    refine⟨rfl,fun F ρ w xs hm hvs=>?_⟩
    obtain⟨y,h1,h2⟩:=hnat f args v hv F ρ (aget h) w xs hvs
    exact .inl ⟨_,y,w,h1,.inl rfl,F,ρ,hm,Ext.refl _ _ _,HKeep.refl _ _ _,h2⟩
   ·split at hD
    ·rename_i D0 hD0
     cases hD
     exact hme _ _ _ _ _ hD0
    split at hD
    ·rename_i fe hfe
     obtain⟨fn,cd,g1,g2,g3,g4,g5,g6⟩:=hxp f fe hfe
     rw[cond_eq_ite]at hD
     split at hD
     ·rename_i hc
      split at hD
      ·rename_i e s he
       obtain⟨hw,hW⟩:=evC_sound hcm hmx ih _ _ _ _ _ he
       have hW':=hW ⟨none,keys h⟩ rfl
       simp only at hw hW'
       rw[← g6]at hW' hc
       have fin:(e=.ret∨e=.normal)→∀vals,resV s.S fe.rts=some vals→finE (keys h) c s vals=some D→D.cs=[]∧SpecD P G (.fn f x1 x2) args h D.v D.ws D.al:=by
        intro hex vals hvals hfin
        have hcs:D.cs=[]:=finE_cs hfin
        refine⟨hcs,fun F ρ w xs hm hv=>?_⟩
        refine body_core hcm (md:=⟨none,keys h⟩) (h:=h) (R:=fun S'=>S'=s.S) rfl g1 g2 g3 g4 g5 hc (hW'.mono ?_) (fun S' e=>⟨vals,by rw[e];exact hvals⟩) hm hv ?_
        ·rintro e' S' ⟨rfl,rfl⟩;exact⟨hex,rfl⟩
        ·rintro S' vals' xs w2 F' ρ' rfl hv' q1 q2 q3 q4
         rw[hvals]at hv';cases hv'
         exact(finE_ok (D:=D) hfin hw q1 q2 q3 q4).2
       split at hD
       ·cases hD
       ·rename_i hne
        have hex:e=.ret∨e=.normal:=by
         cases e with
         |normal=>exact .inr rfl
         |ret=>exact .inl rfl
         |exit i=>exact absurd rfl (hne i)
        split at hD
        ·rename_i vals hvals
         exact fin hex vals hvals hD
        ·cases hD
      ·cases hD
     ·cases hD
    ·cases hD
  ·rename_i id
   split at hD
   ·rename_i l hl
    rw[cond_eq_ite]at hD
    split at hD
    ·rename_i hc
     simp only[Bool.and_eq_true]at hc
     split at hD
     ·rename_i e1 s1 he1
      split at hD
      ·split at hD
       ·rename_i l1 hl1
        rw[cond_eq_ite]at hD
        split at hD
        ·rename_i hst1
         split at hD
         ·rename_i e s2 he2
          split at hD
          ·rename_i l2 hl2
           obtain⟨hw1,hW1⟩:=evC_sound hcm hmx ih _ _ _ _ _ he1
           obtain⟨hw2,hW2⟩:=evC_sound hcm hmx ih _ _ _ _ _ he2
           have hcs:D.cs=[]:=finE_cs hD
           refine⟨hcs,yld_sound hcm hl hc.1 hc.2.1 hc.2.2 (hW1 ⟨some id,keys h⟩ rfl) hl1 hst1 (hW2 ⟨some id,keys h⟩ rfl) hl2 ?_⟩
           intro F ρ w F' ρ' w2 hm q1 q3 q4
           refine(finE_ok (D:=D) hD ?_ q1 (xs:=[.bool e.isN]) (.cons _ _ _ _ (.imm _ _ (.bool _)) .nil) q3 q4).2
           have hmid:WrOk c s1.wr (addW c s1.wr [(id,.loop l1)]) (aget s1.S.h) (aget (aset s1.S.h id (.loop {l1 with st:=1}))):=fun i hi hlt=>by
            obtain⟨k1,k2⟩:=addW_ok hi hlt
            simp only[keys,List.mem_cons,List.not_mem_nil,or_false]at k2
            exact⟨k1,by rw[aget_aset,upd_other _ _ k2]⟩
           have hall:=(hw1.trans hmid).trans hw2
           intro i hi hlt
           obtain⟨k1,k2⟩:=hall i hi hlt
           have hne:i≠id:=fun e=>by
            obtain⟨k3,_⟩:=hw2 i hi hlt
            obtain⟨_,k5⟩:=addW_ok k3 hlt
            exact k5 (by simp[keys,e])
           refine⟨k1,?_⟩
           simp only
           rw[aget_aset,upd_other _ _ hne];exact k2
          ·cases hD
         ·cases hD
        ·cases hD
       ·cases hD
      ·cases hD
     ·cases hD
    ·cases hD
   ·cases hD
  ·cases hD

theorem specP_of_evM (hcm:G.cm=cmOf P)(hmx:P.follows .mixedOrders=true){xp:Nat→Option FnE}(hxp:XpOk P xp){nat:Nat→List AV→Option AV}(hnat:NatOk P nat){me:TB}(hme:TBok P G me){fuel n c f:Nat}{args:List AV}{D:Delta}
  (h:evM G xp nat me fuel n c [] (.fn f [] []) args=some D) {blks:List Blk} (hb:D.ws=hsL blks 0):SpecP P G f args D.v blks:=by
 intro F w vs hm hv
 obtain⟨_,hs⟩:=evM_sound hcm hmx hxp hnat hme fuel n c [] _ _ _ h
 refine NextOk.mono (hs F noR w vs (hm:MRel G F noR (aget []) w) hv.toVs) ?_
 rintro y w' ⟨F',ρ',q1,q2,_,q4⟩
 have e:updL (aget ([]:List (Nat×HO))) D.ws=hsH blks:=by
  rw[hb]
  funext i
  have:updL (aget ([]:List (Nat×HO))) (hsL blks 0) i=aget (hsL blks 0) i:=by
   by_cases hi:i∈keys (hsL blks 0)
   ·refine updL_from (look:=aget (hsL blks 0)) ?_ hi
    have key:∀(l:List Blk) (j:Nat) (p:Nat×HO),p∈hsL l j→aget (hsL l j) p.1=some p.2∧j≤p.1:=by
     intro l
     induction l with
     |nil=>intro j p hp;simp[hsL]at hp
     |cons b l ih=>
      intro j p hp
      simp only[hsL]at hp ⊢
      simp only[aget]
      rcases List.mem_cons.1 hp with rfl|hp
      ·exact⟨by rw[beq_self,cond_true],Nat.le_refl _⟩
      ·obtain⟨k1,k2⟩:=ih (j+1) p hp
       exact⟨by rw[beq_ne (by omega),cond_false];exact k1,by omega⟩
    exact fun p hp=>(key blks 0 p hp).1
   ·rw[updL_nokey hi]
    cases e:aget (hsL blks 0) i with
    |none=>rfl
    |some o=>exact absurd (key_aget.2 ⟨o,e⟩) hi
  rw[this,hsL_eq]
 simp only at q1 q4
 rw[e]at q1 q4
 exact⟨F',ρ',q1,q2,q4⟩

def memoT (ct:Nat→List AV→Option (AV×List Blk)):TB:=fun c h cv args=>
 match cv with
 |.fn f _ _=>match frzL (aget h) 60 args with
  |some (args',ids,cs)=>cond (cdsB cs) (match ct f args' with
   |some (v,hs)=>cond (freshA h (idsH (64*c) 0 hs)) (some {v:=shiftV (64*c) v,ws:=frzW (aget h) ids++shiftH (64*c) 0 hs,al:=idsH (64*c) 0 hs,cs:=[]}) none
   |none=>none) none
  |none=>none
 |_=>none
theorem memoT_ok {P:Program}{G:GL}{ct:Nat→List AV→Option (AV×List Blk)}(hct:∀f args v hs,ct f args=some (v,hs)→SpecP P G f args v hs):TBok P G (memoT ct):=by
 intro c h cv args D hD
 unfold memoT at hD
 split at hD
 ·rename_i f x1 x2
  split at hD
  ·rename_i args' ids cs hz
   rw[cond_eq_ite]at hD
   split at hD
   ·rename_i hcs
    split at hD
    ·rename_i v hs hv
     rw[cond_eq_ite]at hD
     split at hD
     ·rename_i hfr
      cases hD
      refine⟨rfl,fun F ρ w xs hm hvs=>?_⟩
      exact call_sound0 (site:=c) hm (fun _ _ h=>h) hz (allC_app (cdsB_ok hcs) ⟨hct _ _ _ _ hv,trivial⟩) (freshA_ok hfr) hvs
     ·cases hD
    ·cases hD
   ·cases hD
  ·cases hD
 ·cases hD
end

/-! ### A table of closed calls -/
def eqIs:List Int→List Int→Bool
 |[],[]=>true
 |a::r,b::s=>cond (a==b) (eqIs r s) false
 |_,_=>false
def eqBs:List Bool→List Bool→Bool
 |[],[]=>true
 |a::r,b::s=>cond (a==b) (eqBs r s) false
 |_,_=>false
def eqSs:List UInt8→List UInt8→Bool
 |[],[]=>true
 |a::r,b::s=>cond (Nat.beq a.toNat b.toNat) (eqSs r s) false
 |_,_=>false
def eqO:Option Nat→Option Nat→Bool
 |none,none=>true
 |some a,some b=>Nat.beq a b
 |_,_=>false
mutual
def eqC:Cont→Cont→Bool
 |.ints k l,.ints k' l'=>beqK k k'&&eqIs l l'
 |.bools l,.bools l'=>eqBs l l'
 |.vals l,.vals l'=>eqL l l'
 |_,_=>false
def eqV:AV→AV→Bool
 |.bool a,.bool b=>a==b
 |.int k a,.int k' b=>beqK k k'&&a==b
 |.str a,.str b=>eqSs a b
 |.nils,.nils=>true
 |.imm c l o,.imm c' l' o'=>eqC c c'&&(Nat.beq l l'&&eqO o o')
 |.agg l,.agg l'=>eqL l l'
 |_,_=>false
def eqL:List AV→List AV→Bool
 |[],[]=>true
 |a::r,b::s=>cond (eqV a b) (eqL r s) false
 |_,_=>false
end
theorem eqIs_ok:∀{a b:List Int},eqIs a b=true→a=b
 |[],[],_=>rfl
 |a::r,b::s,h=>by
  simp only[eqIs,cond_eq_ite]at h
  split at h
  ·rename_i e;rw[eq_of_beq e,eqIs_ok h]
  ·cases h
 |[],_::_,h=>by cases h
 |_::_,[],h=>by cases h
theorem eqBs_ok:∀{a b:List Bool},eqBs a b=true→a=b
 |[],[],_=>rfl
 |a::r,b::s,h=>by
  simp only[eqBs,cond_eq_ite]at h
  split at h
  ·rename_i e;rw[eq_of_beq e,eqBs_ok h]
  ·cases h
 |[],_::_,h=>by cases h
 |_::_,[],h=>by cases h
theorem eqSs_ok:∀{a b:List UInt8},eqSs a b=true→a=b
 |[],[],_=>rfl
 |a::r,b::s,h=>by
  simp only[eqSs,cond_eq_ite]at h
  split at h
  ·rename_i e;rw[UInt8.toNat_inj.1 (Nat.eq_of_beq_eq_true e),eqSs_ok h]
  ·cases h
 |[],_::_,h=>by cases h
 |_::_,[],h=>by cases h
theorem eqO_ok:∀{a b:Option Nat},eqO a b=true→a=b
 |none,none,_=>rfl
 |some a,some b,h=>by rw[Nat.eq_of_beq_eq_true (n:=a) (m:=b) h]
 |none,some _,h=>by cases h
 |some _,none,h=>by cases h
mutual
theorem eqC_ok:∀(a b:Cont),eqC a b=true→a=b:=fun a b h=>by
 cases a<;>cases b<;>simp only[eqC,Bool.and_eq_true,reduceCtorEq]at h
 ·rw[beqK_ok h.1,eqIs_ok h.2]
 ·rw[eqBs_ok h]
 ·rename_i l l';rw[eqL_ok l l' h]
theorem eqV_ok:∀(a b:AV),eqV a b=true→a=b:=fun a b h=>by
 cases a<;>cases b<;>simp only[eqV,Bool.and_eq_true,reduceCtorEq]at h
 ·rw[eq_of_beq h]
 ·rw[beqK_ok h.1,eq_of_beq h.2]
 ·rw[eqSs_ok h]
 ·rfl
 ·rw[eqC_ok _ _ h.1,Nat.eq_of_beq_eq_true h.2.1,eqO_ok h.2.2]
 ·rename_i l l';rw[eqL_ok l l' h]
theorem eqL_ok:∀(a b:List AV),eqL a b=true→a=b:=fun a b h=>by
 cases a with
 |nil=>cases b with
  |nil=>rfl
  |cons _ _=>cases h
 |cons v r=>cases b with
  |nil=>cases h
  |cons u s=>
   simp only[eqL,cond_eq_ite]at h
   split at h
   ·rename_i e;rw[eqV_ok v u e,eqL_ok r s h]
   ·cases h
end
structure Mem where
 f:Nat
 args:List AV
 v:AV
 bs:List Blk
def memF:List Mem→Nat→List AV→Option (AV×List Blk)
 |[],_,_=>none
 |m::r,f,args=>cond (Nat.beq m.f f&&eqL m.args args) (some (m.v,m.bs)) (memF r f args)
def MemOk (P:Program)(G:GL):List Mem→Prop
 |[]=>True
 |m::r=>SpecP P G m.f m.args m.v m.bs∧MemOk P G r
theorem memF_ok {P:Program}{G:GL}:∀{l:List Mem},MemOk P G l→∀f args v hs,memF l f args=some (v,hs)→SpecP P G f args v hs
 |[],_,f,args,v,hs,h=>by cases h
 |m::r,hl,f,args,v,hs,h=>by
  simp only[memF,cond_eq_ite]at h
  split at h
  ·rename_i e
   rw[Bool.and_eq_true]at e
   cases h
   have e1:=Nat.eq_of_beq_eq_true e.1
   have e2:=eqL_ok _ _ e.2
   subst e1 e2
   exact hl.1
  ·exact memF_ok hl.2 f args v hs h

end Go.Ab

/-
 From a law's contract to what its row asks.
-/
set_option linter.unusedVariables false
namespace Go.Ab
open Go Go.RowKit Go.WideShapes Go.ChangeShapes

structure Kept (w w':World):Prop where
 io:w'.os=w.os∧w'.output=w.output
 size:w.heap.size≤w'.heap.size
 block:∀k,k<w.heap.size→w'.heap[k]? =w.heap[k]?

theorem Kept.frame {W W':World}(h:Kept W W')(may:MemPlace→Prop):W.keptBut W' may:=by
 refine⟨h.io.1,h.io.2,fun i hi=>?_⟩
 rw[h.block i hi]
 split<;>simp_all
theorem Kept.same {W W':World}(h:Kept W W'){p:MemPlace}(hp:p.block<W.heap.size):W.sameAt W' p:=by
 cases p with
 |cell b o=>exact World.cell?_of_block (w:=W) (h.block b hp)
 |map b=>exact h.block b hp
theorem Kept.frozen {w w':World}(h:Kept w w'){p:Addr}(hp:p.block<w.heap.size):w'.frozen? p=w.frozen? p:=World.frozen?_of_block (w:=w) (h.block p.block hp)

section
variable {H:Type}{enc:TypeId×Value→H}{P:Program}
theorem Kept.trod {t:TypeId}(hl:laidOutB P=true)(hr:P.readableRec t=true)(hrow:t<P.types.size){W W':World}{sp:Nat→Bool}{v:Value}{d:DataW H}{ps:List MemPlace}
  (h:DataW.Trod enc P W 0 (fun _=>true) true t v d ps) (hb:Kept W W') (hlt:∀x∈ps,x.block<W.heap.size) (hsp:∀x∈ps,sp x.block=true):
  DataW.Trod enc P W' 0 sp true t v d ps:=
 WideElems.Trod_stays hl hr hrow h (fun x hx=>hb.same (hlt x hx)) hsp
theorem Kept.trodAll (hl:laidOutB P=true){W W':World}{sp:Nat→Bool}(hb:Kept W W'):∀{ts:List TypeId} {vs:List Value} {ds:List (DataW H)} {ps:List MemPlace},(ts.all fun t=>P.readableRec t&&decide (t<P.types.size))=true→
  DataW.TrodAll enc P W 0 (fun _=>true) true ts vs ds ps→(∀x∈ps,x.block<W.heap.size)→(∀x∈ps,sp x.block=true)→DataW.TrodAll enc P W' 0 sp true ts vs ds ps
 |[],vs,ds,ps,ht,h,h1,h2=>by
  obtain⟨rfl,rfl,rfl⟩:=trodAll_nil h
  exact trodAll_mk0
 |t::ts,vs,ds,ps,ht,h,h1,h2=>by
  obtain⟨v,vs',d,ds',p,q,rfl,rfl,rfl,g1,g2⟩:=trodAll_cons h
  simp only[List.all_cons,Bool.and_eq_true,decide_eq_true_eq]at ht
  exact⟨p,q,Kept.trod hl ht.1.1 ht.1.2 g1 hb (fun x hx=>h1 x (List.mem_append_left _ hx)) (fun x hx=>h2 x (List.mem_append_left _ hx)),
   Kept.trodAll hl hb (by simpa using ht.2) g2 (fun x hx=>h1 x (List.mem_append_right _ hx)) (fun x hx=>h2 x (List.mem_append_right _ hx)),rfl⟩
theorem post_of_kept {f:Func}{s:ChangeSpec}{apart fresh handsOn again:Bool}{W W':World}{args:Array Value}{v:Value}{ds gs:List (DataW H)}{before pa pv:List MemPlace}
  (hW:DataW.Whole enc P f.params.toList s.vars apart W args.toList ds gs before)
  (hres:∀(b:Nat) (sp:Nat→Bool) (hd:Bool),DataW.TrodAll enc P W' b sp hd f.resultTypes.toList (v.resultList f.resultTypes.size) (s.fn H (ds++gs)).results [])
  (hargs:∀sp:Nat→Bool,(∀p∈before,sp p.block=true)→DataW.TrodAll enc P W' 0 sp true f.params.toList args.toList (s.fn H (ds++gs)).args pa)
  (hvars:∀sp:Nat→Bool,(∀p∈before,sp p.block=true)→DataW.TrodVars enc P W' sp s.vars (s.fn H (ds++gs)).vars pv)
  (hps:before=pa++pv) (hb:Kept W W')
  (hok:∀(j:Nat) (t:TypeId) (r:Value),f.resultTypes[j]? =some t→(v.resultList f.resultTypes.size)[j]? =some r→Value.okWide P W' .any 0 t r):
  s.post enc P f apart fresh handsOn again W args v W':=by
 have hlt:∀p∈before,p.block<W.heap.size:=fun p hp=>hW.lt p hp
 have hold:∀p∈before,(fun b=>decide (b<W.heap.size)) p.block=true:=fun p hp=>by simpa using hlt p hp
 refine⟨ds,gs,before,[],pa,pv,hW,hres _ _ _,hargs _ hold,hvars _ hold,World.keptBut_mono (fun p hp=>⟨hp,?_⟩) (hb.frame (·∈before)),fun _=>?_⟩
 ·rw[hps,List.mem_append]at hp
  exact Or.inr hp
 ·obtain⟨_,_,_,_,_,hz,hn⟩:=hW
  refine⟨hok,_,_,([]++pa)++pv,⟨[]++pa,pv,trodAll_append (hargs _ (fun _ _=>rfl)) (hres _ _ _),hvars _ (fun _ _=>rfl),rfl,?_,?_⟩,?_⟩
  ·intro b off hp
   have hin:MemPlace.cell b off∈before:=by rw[hps];simpa using hp
   rw[hb.frozen (hlt _ hin)]
   exact hz b off hin
  ·intro ha
   have:=hn ha
   rw[hps]at this
   simpa using this
  ·intro p hp _
   rw[hps]
   simpa using hp
end

theorem calls_of_spec {P:Program}{G:GL}{f:Nat}{fn:Func}{c:Code}{args:List AV}{vs:Array Value}{W:World}(hs:SpecP P G f args (.bool true) [])
  (hf:P.funcs[f]? =some fn) (hname:(fn.name=="runtime.NumGoroutine")=false) (hb:fn.body=some c)
  (hg:GlobOk G (fun b=>b<W.heap.size) W) (hr:RelIs W (fun b=>b<W.heap.size) args vs.toList):Calls P f vs W fun e w'=>e=.returned (.bool true)∧Kept W w':=by
 have hm:MRel G (fun b=>b<W.heap.size) noR noH W:=⟨fun id o h=>(by cases h),fun id b h=>(by cases h),fun i j b h=>(by cases h),fun id b h=>(by cases h),fun b h=>h,hg⟩
 have key:∀v w',(∃F' ρ',MRel G F' ρ' (hsH []) w'∧Ext G (fun b=>b<W.heap.size) noR W F' ρ' w'∧RelV w' F' ρ' (hsH []) (.bool true) v)→v=.bool true∧Kept W w':=by
  rintro v w' ⟨F',ρ',h1,h2,h3⟩
  exact⟨h3.bools,⟨h2.io.1,h2.io.2.1⟩,h2.size,fun k hk=>h2.frz k hk⟩
 have h:=hs _ W vs hm hr
 unfold CallOk at h
 rw[callFunc_enter hf hname hb]at h
 rcases h with⟨nx,y,w',h1,h2,_⟩|⟨f',args',w1,h1,h2⟩|⟨l,fn',tmps,as,bd,w1,h1,_⟩
 ·cases h1;rcases h2 with h2|⟨h2,_⟩<;>cases h2
 ·cases h1
  refine h2.mono ?_
  rintro e w' ⟨v,rfl,hk⟩
  obtain⟨h3,h4⟩:=key v w' hk
  exact⟨by rw[h3],h4⟩
 ·cases h1

theorem wf_u8 {n:Int}(h:(Lit.int .u8 n).wf=true):0≤n∧n≤255:=by
 simp[Lit.wf,IntKind.min,IntKind.max,IntKind.signed,IntKind.bits]at h;omega
end Go.Ab

/-
 What is read as data, as abstract values: arguments, package-level variables.
-/
set_option linter.unusedVariables false
set_option linter.unusedSimpArgs false
set_option linter.unnecessarySimpa false
namespace Go.Ab
open Go Go.RowKit Go.WideShapes Go.ChangeShapes

inductive Sh where
 |int (k:IntKind)
 |bool
 |str
 |fn
 |sl (s:Sh)
 |st (l:List Sh)
mutual
def Sh.size:Sh→Nat
 |.st l=>sizes l
 |_=>1
def sizes:List Sh→Nat
 |[]=>0
 |s::r=>s.size+sizes r
end
def fieldsSh (P:Program)(rec:TypeId→Option Sh):List Field→Nat→Option (List Sh)
 |[],_=>some []
 |f::r,off=>match rec f.type with
  |some s=>cond (Nat.beq f.offset off&&Nat.beq (P.cellsOf f.type) s.size) (match fieldsSh P rec r (off+s.size)with
   |some l=>some (s::l)
   |none=>none) none
  |none=>none
def shp (P:Program):Nat→TypeId→Option Sh
 |0,_=>none
 |n+1,t=>match P.underlying t with
  |some .bool=>some .bool
  |some (.int k)=>some (.int k)
  |some .string=>some .str
  |some (.func _ _ _)=>some .fn
  |some (.slice e)=>match shp P n e with
   |some s=>cond (Nat.beq (P.cellsOf e) s.size&&Nat.ble 1 s.size) (some (.sl s)) none
   |none=>none
  |some (.struct fs)=>match fieldsSh P (shp P n) fs.toList 0 with
   |some l=>cond (Nat.beq (P.cellsOf t) (sizes l)) (some (.st l)) none
   |none=>none
  |some (.array m e)=>match shp P n e with
   |some s=>cond (Nat.beq (P.cellsOf e) s.size&&Nat.beq (P.cellsOf t) (m*s.size)) (some (.st (List.replicate m s))) none
   |none=>none
  |_=>none
variable {H:Type}
def numD:DataW H→Int
 |.lit (.int _ n)=>n
 |_=>0
def Sh.intK:Sh→Option IntKind
 |.int k=>some k
 |_=>none
def contOf' (k:Option IntKind)(vs:List AV)(ns:List Int):Cont:=match k with
 |some k=>.ints k ns
 |none=>.vals vs
mutual
def flat (hd:H→AV):Sh→DataW H→List AV
 |.int k,d=>match d with
  |.lit (.int _ n)=>[.int k n]
  |_=>[.undef]
 |.bool,d=>match d with
  |.lit (.bool b)=>[.bool b]
  |_=>[.undef]
 |.str,d=>match d with
  |.lit (.string s)=>[.str s]
  |_=>[.undef]
 |.fn,d=>match d with
  |.held h=>[hd h]
  |.nil=>[.nilf]
  |_=>[.undef]
 |.sl s,d=>match d with
  |.slice es _=>[.imm (contOf' s.intK (es.flatMap (flat hd s)) (es.map numD)) es.length none]
  |.nil=>[.imm (contOf' s.intK [] []) 0 none]
  |_=>[.undef]
 |.st l,d=>match d with
  |.agg ds=>flatL hd l ds
  |_=>[.undef]
def flatL (hd:H→AV):List Sh→List (DataW H)→List AV
 |[],_=>[]
 |s::l,ds=>match ds with
  |d::ds=>flat hd s d++flatL hd l ds
  |[]=>[]
end
theorem flatMap_len {α β:Type}{f:α→List β}{z:Nat}:∀{l:List α},(∀x∈l,(f x).length=z)→(l.flatMap f).length=l.length*z
 |[],_=>by simp
 |a::r,h=>by
  rw[List.flatMap_cons,List.length_append,h a (by simp),flatMap_len fun x hx=>h x (by simp[hx]),List.length_cons,Nat.succ_mul,Nat.add_comm]
theorem flatMap_get {α β:Type}{f:α→List β}{z:Nat}:∀{l:List α},(∀x∈l,(f x).length=z)→∀{i j:Nat} {a:α},l[i]? =some a→j<z→(l.flatMap f)[i*z+j]? =(f a)[j]?
 |[],_,i,j,a,h,hj=>by simp at h
 |b::r,h,0,j,a,hi,hj=>by
  simp at hi;subst hi
  rw[List.flatMap_cons,Nat.zero_mul,Nat.zero_add,List.getElem?_append_left (by rw[h b (by simp)];exact hj)]
 |b::r,h,i+1,j,a,hi,hj=>by
  have hb:=h b (by simp)
  rw[List.flatMap_cons,List.getElem?_append_right (by rw[hb,Nat.succ_mul];omega),hb,show(i+1)*z+j-z=i*z+j by rw[Nat.succ_mul];omega]
  exact flatMap_get (fun x hx=>h x (by simp[hx])) (by simpa using hi) hj

section
variable {P:Program}{W:World}{F:Nat→Prop}{enc:TypeId×Value→H}{base:Nat}{held:Bool}{hd:H→AV}
theorem RelIs.app:∀{a b:List AV} {xs ys:List Value},RelIs W F a xs→RelIs W F b ys→RelIs W F (a++b) (xs++ys)
 |[],b,[],ys,.nil,h2=>h2
 |_::_,b,_::_,ys,.cons _ _ _ _ h hs,h2=>.cons _ _ _ _ h (hs.app h2)
theorem RelIs.length:∀{a:List AV} {xs:List Value},RelIs W F a xs→a.length=xs.length
 |_,_,.nil=>rfl
 |_,_,.cons _ _ _ _ _ hs=>by simp[hs.length]
theorem RelIs.get:∀{a:List AV} {xs:List Value},RelIs W F a xs→∀{i:Nat} {v:AV} {x:Value},a[i]? =some v→xs[i]? =some x→RelI W F v x
 |_,_,.nil,i,v,x,h,_=>by simp at h
 |_,_,.cons _ _ _ _ h hs,0,v,x,h1,h2=>by simp at h1 h2;subst h1 h2;exact h
 |_,_,.cons _ _ _ _ h hs,i+1,v,x,h1,h2=>hs.get (by simpa using h1) (by simpa using h2)
def OneCells (cs:List Value):Prop:=∀x∈cs,x.oneCell'=true
theorem rel_pieces:∀(l:List Sh) (ds:List (DataW H)) (cs:List Value) (off:Nat),l.length=ds.length→
  (∀i s d,l[i]? =some s→ds[i]? =some d→RelIs W F (flat hd s d) ((cs.drop (off+sizes (l.take i))).take s.size)∧OneCells ((cs.drop (off+sizes (l.take i))).take s.size))→
  RelIs W F (flatL hd l ds) ((cs.drop off).take (sizes l))∧OneCells ((cs.drop off).take (sizes l))
 |[],[],cs,off,_,h=>by simp[sizes,flatL,OneCells];exact .nil
 |[],_::_,cs,off,hl,h=>by simp at hl
 |_::_,[],cs,off,hl,h=>by simp at hl
 |s::l,d::ds,cs,off,hl,h=>by
  have h0:=h 0 s d rfl rfl
  simp only[List.take_zero,sizes,Nat.add_zero]at h0
  have ih:=rel_pieces l ds cs (off+s.size) (by simpa using hl) (fun i s' d' h1 h2=>by
   have:=h (i+1) s' d' (by simpa using h1) (by simpa using h2)
   simpa[sizes,Nat.add_assoc]using this)
  have e:(cs.drop off).take (sizes (s::l))=(cs.drop off).take s.size++(cs.drop (off+s.size)).take (sizes l):=by
   simp only[sizes]
   rw[List.take_add,List.drop_drop]
  rw[e]
  refine⟨h0.1.app ih.1,fun x hx=>?_⟩
  rcases List.mem_append.1 hx with hx|hx
  ·exact h0.2 x hx
  ·exact ih.2 x hx

theorem fieldsSh_ok {rec:TypeId→Option Sh}:∀{fs:List Field} {off:Nat} {l:List Sh},fieldsSh P rec fs off=some l→l.length=fs.length∧∀i (f:Field),fs[i]? =some f→∃s,l[i]? =some s∧rec f.type=some s∧f.offset=off+sizes (l.take i)∧P.cellsOf f.type=s.size
 |[],off,l,h=>by cases h;simp
 |f::r,off,l,h=>by
  simp only[fieldsSh]at h
  split at h
  ·rename_i s hs
   rw[cond_eq_ite]at h
   split at h
   ·rename_i hc
    rw[Bool.and_eq_true]at hc
    split at h
    ·rename_i l' hl'
     cases h
     obtain⟨i1,i2⟩:=fieldsSh_ok hl'
     refine⟨by simp[i1],fun i g hg=>?_⟩
     cases i with
     |zero=>simp at hg;subst hg;exact⟨s,rfl,hs,by simpa[sizes]using Nat.eq_of_beq_eq_true hc.1,Nat.eq_of_beq_eq_true hc.2⟩
     |succ i=>
      obtain⟨s',g1,g2,g3,g4⟩:=i2 i g (by simpa using hg)
      exact⟨s',by simpa using g1,g2,by simp[sizes];omega,g4⟩
    ·cases h
   ·cases h
  ·cases h
theorem sizes_rep (s:Sh):∀m,sizes (List.replicate m s)=m*s.size
 |0=>by simp[sizes]
 |m+1=>by rw[List.replicate_succ];simp only[sizes];rw[sizes_rep s m,Nat.succ_mul,Nat.add_comm]

theorem mapM_get {α β:Type}{f:α→Option β}{l:List α}{r:List β}(h:l.mapM f=some r):r.length=l.length∧∀(i:Nat) (a:α),l[i]? =some a→∃b,r[i]? =some b∧f a=some b:=
 ⟨Lib.mapM_length h,fun i a hi=>Lib.mapM_at h i a hi⟩
example:flat (H:=Unit) (fun _=>.undef) (.st [.int .u8,.sl (.int .u8)]) (.agg [.lit (.int .u8 1),.nil])=[.int .u8 1,.imm (.ints .u8 []) 0 none]:=rfl

theorem shp_int:∀{n:Nat} {t:TypeId} {k:IntKind},shp P n t=some (.int k)→P.underlying t=some (.int k)
 |0,t,k,h=>by cases h
 |n+1,t,k,h=>by
  simp only[shp]at h
  split at h
  ·cases h
  ·rename_i k' hu;cases h;exact hu
  ·cases h
  ·cases h
  ·split at h
   ·rw[cond_eq_ite]at h;split at h<;>cases h
   ·cases h
  ·split at h
   ·rw[cond_eq_ite]at h;split at h<;>cases h
   ·cases h
  ·split at h
   ·rw[cond_eq_ite]at h;split at h<;>cases h
   ·cases h
  ·cases h
theorem trod_rel (hhd:held=true→∀t f x y,RelI W F (hd (enc (t,.func f x y))) (.func f x y))(hF:∀b,b<W.heap.size→F b):∀(n:Nat) (t:TypeId) (s:Sh),shp P n t=some s→∀(fuel:Nat) (cs:List Value) (x:DataW H×List MemPlace),
  DataW.trod enc P W base (fun _=>true) held fuel t cs=some x→RelIs W F (flat hd s x.1) cs∧OneCells cs∧cs.length=s.size:=by
 intro n
 induction n with
 |zero=>intro t s h;simp[shp]at h
 |succ n ih=>
  intro t s hs fuel cs x hx
  simp only[shp]at hs
  split at hs
  ·rename_i hu
   cases hs
   obtain⟨b,rfl,rfl⟩:=DataW.trod_bool hu hx
   exact⟨.cons _ _ _ _ (.bool b) .nil,by simp[OneCells,Value.oneCell'],rfl⟩
  ·rename_i k hu
   cases hs
   obtain⟨m,rfl,rfl,_⟩:=DataW.trod_int hu hx
   exact⟨.cons _ _ _ _ (.int k m) .nil,by simp[OneCells,Value.oneCell'],rfl⟩
  ·rename_i hu
   cases hs
   obtain⟨b,rfl,rfl,_⟩:=DataW.trod_string hu hx
   exact⟨.cons _ _ _ _ (.str _ _ rfl) .nil,by simp[OneCells,Value.oneCell'],rfl⟩
  ·rename_i hu
   cases hs
   cases fuel with
   |zero=>simp[DataW.trod]at hx
   |succ fuel=>
    unfold DataW.trod at hx
    rw[hu]at hx
    split at hx<;>simp_all
    ·rename_i hcs
     subst hx
     exact⟨.cons _ _ _ _ .nilf .nil,by simp[OneCells,Value.oneCell'],rfl⟩
    ·obtain⟨h1,rfl⟩:=hx
     exact⟨.cons _ _ _ _ (hhd _ _ _ _) .nil,by simp[OneCells,Value.oneCell'],rfl⟩
  ·rename_i e hu
   split at hs
   ·rename_i s' hs'
    rw[cond_eq_ite]at hs
    split at hs
    ·rename_i hc
     cases hs
     rw[Bool.and_eq_true]at hc
     have hz:=Nat.eq_of_beq_eq_true hc.1
     have hz1:=Nat.le_of_ble_eq_true hc.2
     rcases DataW.trod_slice hu hx with⟨rfl,rfl⟩|⟨a,len,cap,elems,rest,m,rfl,rfl,rfl,hb,hl,hm,hlen,hel,hsp,_⟩
     ·refine⟨.cons _ _ _ _ (.imm0 _ _ _ ?_ (fun n e=>by cases e)) .nil,by simp[OneCells,Value.oneCell'],rfl⟩
      cases s'<;>rfl
     ·refine⟨.cons _ _ _ _ ?_ .nil,by simp[OneCells,Value.oneCell'],rfl⟩
      have hrest:=(hsp rfl).1
      have hrest2:=(hsp rfl).2
      -- each element's cells
      have each:∀j,j<cap→∃y cs,(W.cells? base (a.add (j*P.cellsOf e)) (P.cellsOf e))=some cs∧DataW.trod enc P W base (fun _=>true) held m e cs=some y:=by
       intro j hj
       have:∃y,(W.cells? base (a.add (j*P.cellsOf e)) (P.cellsOf e)).bind (DataW.trod enc P W base (fun _=>true) held m e)=some y:=by
        by_cases h:j<len
        ·rw[hel j h,List.getElem?_eq_getElem (by omega)];exact⟨_,rfl⟩
        ·have:=hrest2 (j-len) (by omega)
         rw[show len+(j-len)=j by omega]at this
         rw[this,List.getElem?_eq_getElem (by omega)];exact⟨_,rfl⟩
       obtain⟨y,hy⟩:=this
       rw[Option.bind_eq_some_iff]at hy
       obtain⟨cs,h1,h2⟩:=hy
       exact⟨y,cs,h1,h2⟩
      have cellsOk:∀(p:Addr) (cs:List Value),W.cells? base p (P.cellsOf e)=some cs→cs.length=s'.size∧∀r x,cs[r]? =some x→W.cell? (p.add r)=some x:=by
       intro p cs h
       unfold World.cells? at h
       split at h
       ·obtain⟨g1,g2⟩:=mapM_get h
        refine⟨by rw[g1,List.length_range,hz],fun r x hr=>?_⟩
        have hlt:r<P.cellsOf e:=by
         have:=(List.getElem?_eq_some_iff.1 hr).1
         rw[g1,List.length_range]at this;exact this
        obtain⟨b,b1,b2⟩:=g2 r r (by simp[hlt])
        rw[hr]at b1;cases b1
        exact b2
       ·cases h
      by_cases h0:cap=0
      ·have hl0:len=0:=by omega
       subst h0 hl0
       have hnil:elems=[]:=List.eq_nil_of_length_eq_zero hlen
       subst hnil
       exact .imm0 _ _ _ (by cases s'<;>rfl) (fun n e=>by cases e)
      ·obtain⟨y0,cs0,k1,k2⟩:=each 0 (by omega)
       obtain⟨k3,k4⟩:=cellsOk _ _ k1
       have hcell:∃x,W.cell? a=some x:=by
        have hlt:0<cs0.length:=by omega
        have:=k4 0 _ (List.getElem?_eq_getElem hlt)
        simp[Addr.add]at this
        exact⟨_,this⟩
       obtain⟨x0,hx0⟩:=hcell
       have hs:a.spot=none∧a.block<W.heap.size:=by
        simp only[World.cell?]at hx0
        split at hx0
        ·rename_i hb
         split at hx0
         ·cases hx0
         ·rename_i hsp
          exact⟨by cases e:a.spot with
           |none=>rfl
           |some _=>simp[e]at hsp,lt_of_some hb⟩
        ·cases hx0
       have ha:a=⟨a.block,a.off,none⟩:=by cases a;simp_all
       have hadd:∀i r,(a.add (i*P.cellsOf e)).add r=⟨a.block,a.off+(i*s'.size+r),none⟩:=by
        intro i r
        rw[ha,hz]
        by_cases h1:i*s'.size=0<;>by_cases h2:r=0<;>simp[Addr.add,h1,h2,Nat.add_assoc]
       have elem:∀i,i<len→∃y cs,elems[i]? =some y∧DataW.trod enc P W base (fun _=>true) held m e cs=some y∧RelIs W F (flat hd s' y.1) cs∧OneCells cs∧cs.length=s'.size∧∀r x,cs[r]? =some x→W.cell? ⟨a.block,a.off+(i*s'.size+r),none⟩=some x:=by
        intro i hi
        obtain⟨y,cs,e1,e2⟩:=each i (by omega)
        have e3:=hel i hi
        rw[e1]at e3
        simp only[Option.bind_some]at e3
        rw[e2]at e3
        obtain⟨i1,i2,i3⟩:=ih _ _ hs' m cs y e2
        refine⟨y,cs,e3.symm,e2,i1,i2,i3,fun r x hr=>?_⟩
        rw[← hadd i r]
        exact(cellsOk _ _ e1).2 r x hr
       have flen:∀d∈elems.map (·.1),(flat hd s' d).length=s'.size:=by
        intro d hd'
        obtain⟨y,hy,rfl⟩:=List.mem_map.1 hd'
        obtain⟨i,hi,rfl⟩:=List.getElem_of_mem hy
        obtain⟨y',cs,e1,_,e2,_,e4,_⟩:=elem i (by omega)
        rw[List.getElem?_eq_getElem hi]at e1;cases e1
        rw[e2.length,e4]
       have csize:(contOf' s'.intK ((elems.map (·.1)).flatMap (flat hd s')) ((elems.map (·.1)).map numD)).size=len*s'.size:=by
        cases s'<;>simp only[Sh.intK,contOf',Cont.size]<;>first
         |(rw[flatMap_len flen];simp[hlen])
         |(simp[hlen,Sh.size])
       rw[ha]
       have hml:(elems.map (·.1)).length=len:=by simp[hlen]
       rw[hml]
       refine .imm _ _ _ a.block a.off cap (fun j=>(W.cell? ⟨a.block,a.off+j,none⟩).getD undef) (hF _ hs.2) (fun j hj=>?_) (fun j hj=>?_) (fun j hj=>?_) hl (fun n e=>by cases e)
       all_goals
        rw[csize]at hj
        have hdiv:j/s'.size<len:=Nat.div_lt_of_lt_mul (by rw[Nat.mul_comm];exact hj)
        have hmod:j%s'.size<s'.size:=Nat.mod_lt _ hz1
        obtain⟨y,cs,e1,e0,e2,e3,e4,e5⟩:=elem (j/s'.size) hdiv
        have hjj:j/s'.size*s'.size+j%s'.size=j:=by rw[Nat.mul_comm];exact Nat.div_add_mod j s'.size
        have hr:cs[j%s'.size]? =some (cs[j%s'.size]'(by omega)):=List.getElem?_eq_getElem (by omega)
        have e6:=e5 _ _ hr
        rw[hjj]at e6
        simp only[e6,Option.getD_some]
       ·have hfl:(flat hd s' y.1)[j%s'.size]? =some ((flat hd s' y.1)[j%s'.size]'(by rw[e2.length,e4];exact hmod)):=List.getElem?_eq_getElem _
        have hrel:=e2.get hfl hr
        have hmap:(elems.map (·.1))[j/s'.size]? =some y.1:=by rw[List.getElem?_map,e1];rfl
        have hgv:(contOf' s'.intK ((elems.map (·.1)).flatMap (flat hd s')) ((elems.map (·.1)).map numD)).getV j=(flat hd s' y.1)[j%s'.size]'(by rw[e2.length,e4];exact hmod):=by
         have gen:((elems.map (·.1)).flatMap (flat hd s')).getD j .undef=(flat hd s' y.1)[j%s'.size]'(by rw[e2.length,e4];exact hmod):=by
          rw[List.getD_eq_getElem?_getD]
          have:=flatMap_get (f:=flat hd s') flen hmap hmod
          rw[hjj,hfl]at this
          rw[this];rfl
         cases s' with
         |int k=>
          simp only[Sh.size,Nat.div_one,Nat.mod_one]at*
          simp only[Sh.intK,contOf',Cont.getV]
          rw[List.getD_eq_getElem?_getD,List.getElem?_map,hmap]
          obtain⟨v,_,rfl,_⟩:=DataW.trod_int (shp_int hs') e0
          rfl
         |_=>exact gen
        rw[hgv];exact hrel
       ·exact e3 _ (List.mem_of_getElem? hr)
    ·cases hs
   ·cases hs
  ·rename_i fs hu
   split at hs
   ·rename_i l hl
    rw[cond_eq_ite]at hs
    split at hs
    ·rename_i hc
     cases hs
     have hcells:=Nat.eq_of_beq_eq_true hc
     obtain⟨xs,m,rfl,rfl,hlen,hxl,hget⟩:=DataW.trod_struct hu hx
     obtain⟨f1,f2⟩:=fieldsSh_ok hl
     have key:=rel_pieces (W:=W) (F:=F) (hd:=hd) l (xs.map (·.1)) cs 0 (by simp[hxl,f1]) (fun i s d h1 h2=>by
      have hi:i<fs.toList.length:=by
       have:=(List.getElem?_eq_some_iff.1 h1).1
       omega
      obtain⟨s2,g1,g2,g3,g4⟩:=f2 i fs.toList[i] (List.getElem?_eq_getElem hi)
      rw[h1]at g1;cases g1
      have hq:=hget i fs.toList[i] (by simpa using List.getElem?_eq_getElem hi)
      rw[List.getElem?_map]at h2
      cases hxi:xs[i]? with
      |none=>rw[hxi]at h2;cases h2
      |some y=>
       rw[hxi]at h2 hq
       cases h2
       obtain⟨r1,r2,r3⟩:=ih _ _ g2 m _ y hq
       rw[← g3,← g4]
       exact⟨r1,r2⟩)
     rw[List.drop_zero,List.take_of_length_le (by omega)]at key
     exact⟨key.1,key.2,by rw[hlen,hcells];rfl⟩
    ·cases hs
   ·cases hs
  ·rename_i m e hu
   split at hs
   ·rename_i s' hs'
    rw[cond_eq_ite]at hs
    split at hs
    ·rename_i hc
     cases hs
     rw[Bool.and_eq_true]at hc
     have hz:=Nat.eq_of_beq_eq_true hc.1
     have hcells:=Nat.eq_of_beq_eq_true hc.2
     cases fuel with
     |zero=>simp[DataW.trod]at hx
     |succ fuel=>
      unfold DataW.trod at hx
      rw[hu]at hx
      simp only at hx
      split at hx
      ·rename_i hlen
       rw[Option.map_eq_some_iff]at hx
       obtain⟨xs,hxs,rfl⟩:=hx
       obtain⟨q1,q2⟩:=mapM_get hxs
       have key:=rel_pieces (W:=W) (F:=F) (hd:=hd) (List.replicate m s') (xs.map (·.1)) cs 0 (by simp[q1]) (fun i s d h1 h2=>by
        have hi:i<m:=by
         have:=(List.getElem?_eq_some_iff.1 h1).1
         simpa using this
        rw[List.getElem?_replicate,if_pos hi]at h1
        cases h1
        obtain⟨y,y1,y2⟩:=q2 i i (by simp[hi])
        rw[List.getElem?_map,y1]at h2
        cases h2
        obtain⟨r1,r2,r3⟩:=ih _ _ hs' fuel _ y y2
        have et:(List.replicate m s').take i=List.replicate i s':=by rw[List.take_replicate,Nat.min_eq_left (by omega)]
        rw[et,sizes_rep,Nat.zero_add,← hz]
        exact⟨r1,r2⟩)
       rw[List.drop_zero,List.take_of_length_le (by rw[sizes_rep];omega)]at key
       exact⟨key.1,key.2,by rw[hlen,hcells];show _=sizes _;rw[sizes_rep]⟩
      ·cases hx
    ·cases hs
   ·cases hs
  ·cases hs

mutual
def Conf:Sh→DataW H→Prop
 |.int k,d=>∃n,d=.lit (.int k n)∧(Lit.int k n).wf=true
 |.bool,d=>∃b,d=.lit (.bool b)
 |.str,d=>∃s,d=.lit (.string s)∧s.length≤maxLen
 |.fn,_=>True
 |.sl s,d=>d=.nil∨∃es sp,d=.slice es sp∧es.length≤maxLen∧∀x∈es,Conf s x
 |.st l,d=>∃ds,d=.agg ds∧ConfL l ds
def ConfL:List Sh→List (DataW H)→Prop
 |[],ds=>ds=[]
 |s::l,ds=>∃d r,ds=d::r∧Conf s d∧ConfL l r
end
theorem confL_of:∀{l:List Sh} {ds:List (DataW H)},l.length=ds.length→(∀(i:Nat) (s:Sh) (d:DataW H),l[i]? =some s→ds[i]? =some d→Conf s d)→ConfL l ds
 |[],[],_,_=>rfl
 |[],_::_,h,_=>by simp at h
 |_::_,[],h,_=>by simp at h
 |s::l,d::ds,h,k=>⟨d,ds,rfl,k 0 s d rfl rfl,confL_of (by simpa using h) (fun i s' d' h1 h2=>k (i+1) s' d' (by simpa using h1) (by simpa using h2))⟩
theorem trod_conf:∀(n:Nat) (t:TypeId) (s:Sh),shp P n t=some s→∀(fuel:Nat) (cs:List Value) (x:DataW H×List MemPlace),DataW.trod enc P W base (fun _=>true) held fuel t cs=some x→Conf s x.1:=by
 intro n
 induction n with
 |zero=>intro t s h;simp[shp]at h
 |succ n ih=>
  intro t s hs fuel cs x hx
  simp only[shp]at hs
  split at hs
  ·rename_i hu
   cases hs
   obtain⟨b,rfl,rfl⟩:=DataW.trod_bool hu hx
   exact⟨b,rfl⟩
  ·rename_i k hu
   cases hs
   obtain⟨m,rfl,rfl,hw⟩:=DataW.trod_int hu hx
   exact⟨m,rfl,hw⟩
  ·rename_i hu
   cases hs
   obtain⟨b,rfl,rfl,hb⟩:=DataW.trod_string hu hx
   exact⟨_,rfl,hb⟩
  ·cases hs;trivial
  ·rename_i e hu
   split at hs
   ·rename_i s' hs'
    rw[cond_eq_ite]at hs
    split at hs
    ·cases hs
     rcases DataW.trod_slice hu hx with⟨rfl,rfl⟩|⟨a,len,cap,elems,rest,m,rfl,rfl,rfl,hb,hl,hm,hlen,hel,_,_⟩
     ·exact .inl rfl
     ·refine .inr ⟨_,_,rfl,by simp;omega,fun d hd'=>?_⟩
      obtain⟨y,hy,rfl⟩:=List.mem_map.1 hd'
      obtain⟨i,hi,rfl⟩:=List.getElem_of_mem hy
      have:=hel i (by omega)
      rw[List.getElem?_eq_getElem hi,Option.bind_eq_some_iff]at this
      obtain⟨cs',_,h2⟩:=this
      exact ih _ _ hs' m cs' _ h2
    ·cases hs
   ·cases hs
  ·rename_i fs hu
   split at hs
   ·rename_i l hl
    rw[cond_eq_ite]at hs
    split at hs
    ·cases hs
     obtain⟨xs,m,rfl,rfl,hlen,hxl,hget⟩:=DataW.trod_struct hu hx
     obtain⟨f1,f2⟩:=fieldsSh_ok hl
     refine⟨_,rfl,confL_of (by simp[hxl,f1]) fun i s d h1 h2=>?_⟩
     have hi:i<fs.toList.length:=by
      have:=(List.getElem?_eq_some_iff.1 h1).1
      omega
     obtain⟨s2,g1,g2,g3,g4⟩:=f2 i fs.toList[i] (List.getElem?_eq_getElem hi)
     rw[h1]at g1;cases g1
     have hq:=hget i fs.toList[i] (by simpa using List.getElem?_eq_getElem hi)
     rw[List.getElem?_map]at h2
     cases hxi:xs[i]? with
     |none=>rw[hxi]at h2;cases h2
     |some y=>
      rw[hxi]at h2 hq
      cases h2
      exact ih _ _ g2 m _ y hq
    ·cases hs
   ·cases hs
  ·rename_i m e hu
   split at hs
   ·rename_i s' hs'
    rw[cond_eq_ite]at hs
    split at hs
    ·cases hs
     cases fuel with
     |zero=>simp[DataW.trod]at hx
     |succ fuel=>
      unfold DataW.trod at hx
      rw[hu]at hx
      simp only at hx
      split at hx
      ·rw[Option.map_eq_some_iff]at hx
       obtain⟨xs,hxs,rfl⟩:=hx
       obtain⟨q1,q2⟩:=mapM_get hxs
       refine⟨_,rfl,confL_of (by simp[q1]) fun i s d h1 h2=>?_⟩
       have hi:i<m:=by
        have:=(List.getElem?_eq_some_iff.1 h1).1
        simpa using this
       rw[List.getElem?_replicate,if_pos hi]at h1
       cases h1
       obtain⟨y,y1,y2⟩:=q2 i i (by simp[hi])
       rw[List.getElem?_map,y1]at h2
       cases h2
       exact ih _ _ hs' fuel _ y y2
      ·cases hx
    ·cases hs
   ·cases hs
  ·cases hs

def argV (hd:H→AV)(s:Sh)(d:DataW H):AV:=match s with
 |.st _=>.agg (flat hd s d)
 |.fn=>.undef
 |s=>(flat hd s d).getD 0 .undef
def noHd:H→AV:=fun _=>.undef
theorem noHd_ok {b:Bool}:b=true→∀t f x y,RelI W F (noHd (enc (t,Value.func f x y))) (.func f x y):=fun _ _ _ _ _=>.undef _
theorem arg_rel {r:Reach}{b0 n:Nat}{t:TypeId}{s:Sh}{v:Value}{d:DataW H}{p:List MemPlace}(hs:shp P n t=some s)(hv:Value.okWide P W r b0 t v)(h:DataW.Trod enc P W base (fun _=>true) held t v d p):
  RelI W (fun b=>b<W.heap.size) (argV noHd s d) v∧Conf s d:=by
 obtain⟨fuel,hf⟩:=h
 obtain⟨h1,h2,h3⟩:=trod_rel (F:=fun b=>b<W.heap.size) (hd:=noHd) noHd_ok (fun _ h=>h) n t s hs fuel _ _ hf
 refine⟨?_,trod_conf n t s hs fuel _ _ hf⟩
 have one:∀{y:Value},v=y→y.cells= #[y]→(∃u,flat noHd s d=[u])→argV noHd s d=(flat noHd s d).getD 0 .undef→RelI W (fun b=>b<W.heap.size) (argV noHd s d) v:=by
  rintro y rfl hc ⟨u,hu⟩ ha
  have h1':RelIs W (fun b=>b<W.heap.size) (flat noHd s d) v.cells.toList:=h1
  rw[hc,hu]at h1'
  rw[ha,hu]
  cases h1' with
  |cons _ _ _ _ h _=>exact h
 have hlen:∀{u:List AV},flat noHd s d=u→s.size=1→∃x,u=[x]:=by
  intro u hu hsz
  have:=h1.length
  rw[hu,h3,hsz]at this
  exact List.length_eq_one_iff.1 this
 cases n with
 |zero=>cases hs
 |succ n=>
  simp only[shp]at hs
  split at hs
  ·rename_i hu
   cases hs
   obtain⟨b,rfl⟩:=okWide_bool hu hv
   exact one rfl rfl (hlen rfl rfl) rfl
  ·rename_i k hu
   cases hs
   obtain⟨m,rfl⟩:=okWide_int hu hv
   exact one rfl rfl (hlen rfl rfl) rfl
  ·rename_i hu
   cases hs
   obtain⟨b,rfl⟩:=okWide_string hu hv
   exact one rfl rfl (hlen rfl rfl) rfl
  ·cases hs;exact .undef _
  ·rename_i e hu
   split at hs
   ·rw[cond_eq_ite]at hs
    split at hs
    ·cases hs
     obtain⟨a,len,cap,rfl⟩:=okWide_slice hu hv
     exact one rfl rfl (hlen rfl rfl) rfl
    ·cases hs
   ·cases hs
  ·rename_i fs hu
   split at hs
   ·rw[cond_eq_ite]at hs
    split at hs
    ·cases hs
     simp only[Value.okWide,hu]at hv
     obtain⟨cs,rfl,_,_⟩:=hv
     exact .agg _ _ h1
    ·cases hs
   ·cases hs
  ·rename_i m e hu
   split at hs
   ·rw[cond_eq_ite]at hs
    split at hs
    ·cases hs
     simp only[Value.okWide,hu]at hv
     obtain⟨cs,rfl,_,_⟩:=hv
     exact .agg _ _ h1
    ·cases hs
   ·cases hs
  ·cases hs

theorem conf_ints {k:IntKind}{d:DataW H}{hd:H→AV}(h:Conf (.sl (.int k)) d):∃ks:List Int,flat hd (.sl (.int k)) d=[.imm (.ints k ks) ks.length none]∧∀x∈ks,(Lit.int k x).wf=true:=by
 rcases h with rfl|⟨es,sp,rfl,_,h⟩
 ·exact⟨[],rfl,by simp⟩
 ·refine⟨es.map numD,by simp[flat,Sh.intK,contOf'],fun x hx=>?_⟩
  obtain⟨y,hy,rfl⟩:=List.mem_map.1 hx
  obtain⟨n,rfl,hn⟩:=h y hy
  exact hn
def GlobAt (W:World)(g:Nat)(c:Cont):Prop:=g<W.heap.size∧∃xs:Nat→Value,(∀i,i<c.size→W.cell? ⟨g,i,none⟩=some (xs i))∧(∀i,i<c.size→RelI W (fun b=>b<W.heap.size) (c.getV i) (xs i))∧(∀i,i<c.size→(xs i).oneCell'=true)
theorem glob_rel {g n:Nat}{t:TypeId}{s:Sh}{cs:Array Value}{fuel:Nat}{name:String}{d:DataW H}{p:List MemPlace}(hs:shp P n t=some s)(hg:P.globalNamed name=some g)(hvar:W.var? P name=some cs)
  (hhd:held=true→∀t f x y,RelI W (fun b=>b<W.heap.size) (hd (enc (t,.func f x y))) (.func f x y))
  (h:DataW.trod enc P W base (fun _=>true) held fuel t cs.toList=some (d,p)) {c:Cont} (hc:c.size=(flat hd s d).length∧∀i,i<c.size→c.getV i=(flat hd s d).getD i .undef):GlobAt W g c:=by
 obtain⟨h1,h2,h3⟩:=trod_rel (F:=fun b=>b<W.heap.size) hhd (fun _ h=>h) n t s hs fuel _ _ h
 have hlen:(flat hd s d).length=cs.toList.length:=h1.length
 have hlt:g<W.heap.size:=by
  simp only[World.var?,hg,Option.bind_some]at hvar
  split at hvar
  ·rename_i hh;exact lt_of_some hh
  ·cases hvar
 have key:∀i,i<c.size→∃x,cs[i]? =some x∧(flat hd s d)[i]? =some (c.getV i)∧RelI W (fun b=>b<W.heap.size) (c.getV i) x∧x.oneCell'=true:=by
  intro i hi
  have hi2:i<(flat hd s d).length:=by omega
  have hi3:i<cs.toList.length:=by omega
  have e1:(flat hd s d)[i]? =some (c.getV i):=by
   rw[hc.2 i hi,List.getD_eq_getElem?_getD,List.getElem?_eq_getElem hi2];rfl
  have e2:cs.toList[i]? =some cs.toList[i]:=List.getElem?_eq_getElem hi3
  exact⟨cs.toList[i],by simpa using e2,e1,h1.get e1 e2,h2 _ (List.getElem_mem hi3)⟩
 refine⟨hlt,fun i=>cs.getD i undef,fun i hi=>?_,fun i hi=>?_,fun i hi=>?_⟩
 all_goals
  obtain⟨x,k1,k2,k3,k4⟩:=key i hi
  have kx:cs.getD i undef=x:=by rw[Array.getD_eq_getD_getElem?,k1];rfl
  simp only[kx]
 ·rw[World.var?_cell hg hvar i,k1]
 ·exact k3
 ·exact k4
theorem cont_ints {k:IntKind}{zs:List Int}{l:List AV}(h:l=zs.map (.int k)):(Cont.ints k zs).size=l.length∧∀i,i<(Cont.ints k zs).size→(Cont.ints k zs).getV i=l.getD i .undef:=by
 subst h
 refine⟨by simp[Cont.size],fun i hi=>?_⟩
 have hi:i<zs.length:=hi
 simp[Cont.getV,hi]
theorem cont_vals {l:List AV}:(Cont.vals l).size=l.length∧∀i,i<(Cont.vals l).size→(Cont.vals l).getV i=l.getD i .undef:=⟨rfl,fun i hi=>rfl⟩
theorem laid_one {name:String}{dt:DataW Unit}{rest:List (String×DataW Unit)}{ps:List MemPlace}{g n:Nat}{t:TypeId}{s:Sh}(hg:P.globalNamed name=some g)(hty:(P.globals[g]?).map (·.type)=some t)(hs:shp P n t=some s)
  (h:DataW.LaidVars P W ((name,dt)::rest) ps) {c:Cont} (hc:c.size=(flat noHd s dt).length∧∀i,i<c.size→c.getV i=(flat noHd s dt).getD i .undef):GlobAt W g c∧∃q,DataW.LaidVars P W rest q:=by
 obtain⟨g',t',cs,fuel,p,q,hg',ht',hvar,hd',hr,_⟩:=h
 obtain rfl:=Option.some.inj (hg.symm.trans hg')
 obtain rfl:=Option.some.inj (hty.symm.trans ht')
 exact⟨glob_rel (hd:=noHd) hs hg hvar noHd_ok hd' hc,q,hr⟩

end
end Go.Ab
