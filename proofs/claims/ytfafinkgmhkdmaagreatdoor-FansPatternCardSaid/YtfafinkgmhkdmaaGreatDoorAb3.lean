/- An abstract reading of the program: what its operations do to what is known of memory. Part 3 of 9. -/
import Derived.Test.YtfafinkgmhkdmaaGreatDoorAb2
import Derived.Calls

/-
 Slices cut, slice literals, make.
-/
set_option linter.unusedVariables false
set_option linter.unusedSimpArgs false
namespace Go.Ab
open Go
section
variable {P:Program}{G:GL}{F F':Nat→Prop}{ρ:Nat→Option Nat}{H:Nat→Option HO}{w:World}{look:Nat→Option HO}
 {Sp:SpT} {D:Delta}

theorem Eff.frz (hm:MRel G F ρ H w)(hl:∀id o,look id=some o→H id=some o){ids:List Nat}{r:Result Value}{v:AV}{cs:List Cd}
  (h:∀F',(∀b,F b→F' b)→(∀id,id∈ids→(∃k,look id=some (.blk k))→∀b,ρ id=some b→F' b)→∃x,r=.ok x w∧RelI w F' v x):
  Eff G F ρ H w r {v:=v,ws:=frzW look ids,al:=[],cs:=cs}:=by
 obtain⟨F1,f1,f2,f3,f4,f5,f6⟩:=frzAll (look:=look) ids F H hm (fun id k hk=>.inl (hl _ _ hk))
 obtain⟨x,h1,h2⟩:=h F1 f2.keep f4
 exact⟨x,w,F1,ρ,h1,f1,f2,f3,h2.toV⟩

theorem imm_cut {c:Cont}{len:Nat}{cap:Option Nat}{b o cap':Nat}{xs:Nat→Value}(a n sz:Nat)(newcap:Nat)(hF:F b)
  (hc:∀i,i<c.size→w.cell? ⟨b,o+i,none⟩=some (xs i)) (hr:∀i,i<c.size→RelI w F (c.getV i) (xs i)) (ho:∀i,i<c.size→(xs i).oneCell'=true) (hn:n≤newcap):
  RelI w F (.imm ((c.drop a).take sz) n none) (.slice (some ⟨b,o+a,none⟩) n newcap):=by
 refine .imm _ n none b (o+a) newcap (fun i=>xs (a+i)) hF (fun i hi=>?_) (fun i hi=>?_) (fun i hi=>?_) hn (fun n e=>by cases e)<;>rw[size_take,size_drop]at hi
 ·have:=hc (a+i) (by omega)
  rw[Nat.add_assoc];exact this
 ·rw[getV_take _ _ _ (by omega),getV_drop];exact hr (a+i) (by omega)
 ·exact ho (a+i) (by omega)

theorem take_all (c:Cont)(n:Nat)(h:c.size≤n):c.take n=c:=by
 cases c<;>simp only[Cont.take,Cont.size]at* <;>rw[List.take_of_length_le h]
theorem drop_zero (c:Cont):c.drop 0=c:=by cases c<;>rfl

theorem opWin_run {id off len cap sz:Nat}{lo hi mx:Bool}{bs:List AV}{xs:List Value}(hb:RelVs w F ρ H bs xs)(hlen:bs.length=(if lo then 1 else 0)+((if hi then 1 else 0)+(if mx then 1 else 0)))(hlc:len≤cap)
  (hD:opWin id off len cap sz lo hi mx bs=some D) (hc:AllC Sp D.cs) (isS:Bool):
  ∃l h m,(Instr.sliceBounds isS len cap (if lo then xs[0]? else none) (if hi then(if lo then xs[1]? else xs[0]?)else none) (if mx then(if lo then(if hi then xs[2]? else xs[1]?)else(if hi then xs[1]? else xs[0]?))else none)).run P w=.ok (l,h,m) w∧
   l≤h∧h≤m∧D.v=.sl id (off+l*sz) (h-l) (m-l)∧(m=l→l=0)∧D.ws=[]∧D.al=[]:=by
 unfold opWin at hD
 split at hD
 ·cases hD
  refine⟨0,len,cap,by simp[Instr.sliceBounds],Nat.zero_le _,hlc,by simp,fun h=>rfl,rfl,rfl⟩
 ·split at hD
  ·rename_i k l hx1
   have hcs:=val_cs hD;rw[hcs]at hc
   obtain⟨c1,c2,c3,_⟩:=hc
   simp only[Cd.holds,leb,len',ltn,decide_eq_true_eq]at c1 c2 c3
   cases hb with
   |nil=>simp at hlen
   |cons v _ y ys hv hs=>
    simp only[x1,List.getD_cons_zero]at hx1
    subst hx1
    have:=hv.ints;subst this
    cases hD
    refine⟨l.toNat,len,cap,?_,by omega,hlc,by rw[az_eq,mz_eq],fun h=>by omega,rfl,rfl⟩
    simp[Instr.sliceBounds,run_sliceBound k l len _ c1 (by omega)]
  ·cases hD
 ·split at hD
  ·rename_i k h hx1
   have hcs:=val_cs hD;rw[hcs]at hc
   obtain⟨c1,c2,_⟩:=hc
   simp only[Cd.holds,leb,len',ltn,decide_eq_true_eq]at c1 c2
   cases hb with
   |nil=>simp at hlen
   |cons v _ y ys hv hs=>
    simp only[x1,List.getD_cons_zero]at hx1
    subst hx1
    have:=hv.ints;subst this
    cases hD
    refine⟨0,h.toNat,cap,?_,by omega,c2,by simp,fun h=>rfl,rfl,rfl⟩
    simp[Instr.sliceBounds,run_sliceBound k h cap _ c1 (by omega)]
  ·cases hD
 ·split at hD
  ·rename_i k l k' h hx1 hx2
   have hcs:=val_cs hD;rw[hcs]at hc
   obtain⟨c1,c2,c3,c4,_⟩:=hc
   simp only[Cd.holds,leb,len',ltn,decide_eq_true_eq]at c1 c2 c3 c4
   cases hb with
   |nil=>simp at hlen
   |cons v _ y ys hv hs=>
    cases hs with
    |nil=>simp at hlen
    |cons v2 _ y2 ys2 hv2 hs2=>
     simp only[x1,List.getD_cons_zero]at hx1
     simp only[x2,List.getD_cons_succ,List.getD_cons_zero]at hx2
     subst hx1;subst hx2
     have:=hv.ints;subst this
     have:=hv2.ints;subst this
     cases hD
     refine⟨l.toNat,h.toNat,cap,?_,by omega,c3,by rw[az_eq,mz_eq],fun h=>by omega,rfl,rfl⟩
     simp[Instr.sliceBounds,run_sliceBound k' h cap _ (by omega) (by omega),run_sliceBound k l h.toNat _ c1 (by omega)]
  ·cases hD
 ·split at hD
  ·rename_i k h k' m hx1 hx2
   have hcs:=val_cs hD;rw[hcs]at hc
   obtain⟨c1,c2,c3,_⟩:=hc
   simp only[Cd.holds,leb,len',ltn,decide_eq_true_eq]at c1 c2 c3
   cases hb with
   |nil=>simp at hlen
   |cons v _ y ys hv hs=>
    cases hs with
    |nil=>simp at hlen
    |cons v2 _ y2 ys2 hv2 hs2=>
     simp only[x1,List.getD_cons_zero]at hx1
     simp only[x2,List.getD_cons_succ,List.getD_cons_zero]at hx2
     subst hx1;subst hx2
     have:=hv.ints;subst this
     have:=hv2.ints;subst this
     cases hD
     refine⟨0,h.toNat,m.toNat,?_,by omega,by omega,by simp,fun h=>rfl,rfl,rfl⟩
     simp[Instr.sliceBounds,run_sliceBound k' m cap _ (by omega) (by omega),run_sliceBound k h m.toNat _ c1 (by omega)]
  ·cases hD
 ·cases hD

theorem win_addr {b off l m sz:Nat}(h:m=l→l=0):(if m=l then(⟨b,off,none⟩:Addr)else(⟨b,off,none⟩:Addr).add (l*sz))=⟨b,off+l*sz,none⟩:=by
 split
 ·rename_i e;have:=h e;subst this;simp
 ·exact addr_add _ _ _

theorem opSlice_sound (hm:MRel G F ρ H w)(hl:∀id o,look id=some o→H id=some o){sz:Nat}{lo hi mx:Bool}{v:AV}{bs:List AV}{x:Value}{xs:List Value}{t e:TypeId}{i:TypeInfo}
  (ht:P.underlying t=some (.slice e)) (hi':P.info? e=some i) (hsz:i.size=sz) (hx:RelV w F ρ H v x) (hb:RelVs w F ρ H bs xs)
  (hlen:bs.length=(if lo then 1 else 0)+((if hi then 1 else 0)+(if mx then 1 else 0)))
  {d:Dir} (hD:opSlice look d sz lo hi mx v bs=some D) (hc:AllC Sp D.cs):
  Eff G F ρ H w ((Instr.sliceAt t x (if lo then xs[0]? else none) (if hi then(if lo then xs[1]? else xs[0]?)else none) (if mx then(if lo then(if hi then xs[2]? else xs[1]?)else(if hi then xs[1]? else xs[0]?))else none)).run P w) D:=by
 have hrun:∀(a:Option Addr) (len cap:Nat) (l h m:Option Value),(Instr.sliceAt t (.slice a len cap) l h m).run P w=
   ((Instr.sliceBounds true len cap l h m).run P w).andThen fun q w'=>.ok (.slice (if q.2.2=q.1 then a else a.map (·.add (q.1*sz))) (q.2.1-q.1) (q.2.2-q.1)) w':=fun a len cap l h m=>by
  simp only[Instr.sliceAt,Instr.slice,Sem.run_bind,run_underlying' ht,Result.andThen_ok]
  cases hq:(Instr.sliceBounds true len cap l h m).run P w with
  |ok q w'=>simp[run_sizeOf' hi',hsz]
  |halt q w'=>rfl
 unfold opSlice at hD
 cases hwin:winV v with
 |some p=>
  obtain⟨id,off,len,cap⟩:=p
  rw[hwin]at hD
  simp only at hD
  have hv:v=.sl id off len cap:=by
   unfold winV at hwin
   split at hwin
   ·cases hwin;rfl
   ·cases hwin
  subst hv
  cases hx with
  |imm _ _ hi=>cases hi
  |sl _ _ _ _ b k hb0 hh hbx hlc=>
   obtain⟨l,h,m,e1,e2,e3,e4,e5,e6,e7⟩:=opWin_run (P:=P) hb hlen hlc hD hc true
   rw[hrun,e1]
   simp only[Result.andThen_ok]
   refine Eff.pure hm rfl e6 ?_
   rw[e4]
   have:=win_addr (b:=b) (off:=off) (sz:=sz) e5
   have hopt:(if m=l then(some ⟨b,off,none⟩:Option Addr)else(some (⟨b,off,none⟩:Addr)).map (·.add (l*sz)))=some ⟨b,off+l*sz,none⟩:=by
    rw[← this];split<;>rfl
   rw[hopt]
   exact .sl id _ _ _ b k hb0 hh hbx (by omega)
 |none=>
 rw[hwin]at hD
 simp only at hD
 split at hD
 ·rename_i c len capA ids cs hfrz
  have base:AllC Sp cs→∀F',(∀b,F b→F' b)→(∀id,id∈ids→(∃k,look id=some (.blk k))→∀b,ρ id=some b→F' b)→RelI w F' (.imm c len capA) x:=by
   intro hcs F' hF hids
   exact(frz_sound hm hl hF 60).1 _ _ _ _ hfrz hcs (fun id hid b hb=>hids id hid ((frz_ids 60).1 _ _ _ _ hfrz id hid) b hb) x hx
  split at hD
  ·-- high and max
   cases bs with
   |nil=>simp at hlen
   |cons b1 bs=>
    cases bs with
    |nil=>simp at hlen
    |cons b2 bs=>
     cases hb with
     |cons _ _ y1 _ hb1 hbs=>
      cases hbs with
      |cons _ _ y2 ys hb2 hbs=>
       split at hD
       ·rename_i k h k' m hx1 hx2
        have hx1:b1=.int k h:=by simpa[x1]using hx1
        have hx2:b2=.int k' m:=by simpa[x2]using hx2
        subst hx1 hx2
        have:=hb1.ints;subst this
        have:=hb2.ints;subst this
        split at hD
        ·cases hD
         obtain⟨h1,h2⟩:=hc.app
         have e1:h=0:=by simpa[Cd.holds]using h2.1
         have e2:m=0:=by simpa[Cd.holds]using h2.2.1
         subst e1 e2
         refine Eff.frz hm hl (fun F' hF hids=>?_)
         have hb:=base h1 F' hF hids
         have run0:∀(a:Option Addr) (cap:Nat),(Instr.sliceAt t (.slice a len cap) none (some (.int k 0)) (some (.int k' 0))).run P w=.ok (.slice a 0 0) w:=fun a cap=>by
          rw[hrun]
          simp[Instr.sliceBounds,run_sliceBound k' 0 cap _ (by omega) (by omega),run_sliceBound k 0 0 _ (by omega) (by omega)]
         cases hb with
         |imm _ _ _ b o cap' xs0 hF0 hcell hr ho hle hcap=>exact⟨_,by simpa using run0 _ _,.imm0 _ _ _ (by rw[size_take];simp) (fun n e=>by cases e;rfl)⟩
         |imm0 _ _ a hc0 hcap=>exact⟨_,by simpa using run0 _ _,.imm0 _ _ _ (by rw[size_take];simp) (fun n e=>by cases e;rfl)⟩
        ·split at hD
         ·cases hD
          obtain⟨h1,h2⟩:=hc.app
          obtain⟨g0,g1,g2,g3,_⟩:=h2
          have g0:0≤h:=by simpa[Cd.holds,leb]using g0
          have g1:h≤m:=by simpa[Cd.holds,leb]using g1
          have g2:m.toNat≤len:=of_len' g2
          have g3:c.size=len*sz:=by have:=g3;simp only[Cd.holds,mz_eq]at this;exact this
          refine Eff.frz hm hl (fun F' hF hids=>?_)
          have hb:=base h1 F' hF hids
          have run0:∀(a:Option Addr) (cap:Nat),len≤cap→(Instr.sliceAt t (.slice a len cap) none (some (.int k h)) (some (.int k' m))).run P w=.ok (.slice (if m.toNat=0 then a else a.map (·.add 0)) h.toNat m.toNat) w:=fun a cap hle=>by
           rw[hrun]
           simp[Instr.sliceBounds,run_sliceBound k' m cap _ (by omega) (by omega),run_sliceBound k h m.toNat _ g0 (by omega)]
          cases hb with
          |imm _ _ _ b o cap' xs0 hF0 hcell hr ho hle hcap=>
           refine⟨_,run0 _ _ hle,?_⟩
           have:(if m.toNat=0 then(some ⟨b,o,none⟩:Option Addr)else Option.map (fun x:Addr=>x.add 0) (some ⟨b,o,none⟩))=some ⟨b,o,none⟩:=by
            split<;>simp[Addr.add]
           rw[this]
           have hz:(c.take (mz h.toNat sz)).size≤c.size:=by rw[size_take];exact Nat.min_le_right _ _
           have hz2:(c.take (mz h.toNat sz)).size≤mz h.toNat sz:=by rw[size_take];exact Nat.min_le_left _ _
           exact .imm _ _ _ b o m.toNat xs0 hF0 (fun i hi=>hcell i (by omega)) (fun i hi=>by rw[getV_take _ _ _ (by omega)];exact hr i (by omega)) (fun i hi=>ho i (by omega)) (by omega) (fun n e=>by cases e;rfl)
          |imm0 _ _ a hc0 hcap=>
           have e1:m.toNat=0:=by omega
           have e2:h.toNat=0:=by omega
           refine⟨_,run0 _ _ (Nat.le_refl _),?_⟩
           rw[e1,e2]
           exact .imm0 _ _ _ (by rw[size_take];omega) (fun n e=>by cases e;rfl)
         ·cases hD
          obtain⟨h1,h2⟩:=hc.app
          obtain⟨g0,g1,g2,g3,g4,_⟩:=h2
          have g0:0≤h:=by simpa[Cd.holds,leb]using g0
          have g1:h.toNat=len:=g1
          have g2:0≤m:=by simpa[Cd.holds,leb]using g2
          have g3:m.toNat=len:=g3
          refine Eff.frz hm hl (fun F' hF hids=>?_)
          have hb:=base h1 F' hF hids
          have run0:∀(a:Option Addr) (cap:Nat),len≤cap→(Instr.sliceAt t (.slice a len cap) none (some (.int k h)) (some (.int k' m))).run P w=.ok (.slice (if len=0 then a else a.map (·.add 0)) len len) w:=fun a cap hle=>by
           rw[hrun]
           simp[Instr.sliceBounds,run_sliceBound k' m cap _ g2 (by omega),run_sliceBound k h len _ g0 (by omega),g1,g3]
          cases hb with
          |imm _ _ _ b o cap' xs0 hF0 hcell hr ho hle hcap=>
           refine⟨_,by simpa using run0 _ _ hle,?_⟩
           have:(if len=0 then(some ⟨b,o,none⟩:Option Addr)else Option.map (fun x:Addr=>x.add 0) (some ⟨b,o,none⟩))=some ⟨b,o,none⟩:=by
            split<;>simp[Addr.add]
           rw[this]
           exact .imm c len (some len) b o len xs0 hF0 hcell hr ho (Nat.le_refl _) (fun n e=>by cases e;rfl)
          |imm0 _ _ a hc0 hcap=>exact⟨_,by simpa using run0 _ _ (Nat.le_refl _),.imm0 _ _ _ hc0 (fun n e=>by cases e;rfl)⟩
       ·cases hD
  ·-- low
   cases bs with
   |nil=>simp at hlen
   |cons b1 bs=>
    cases hb with
    |cons _ _ y1 _ hb1 hbs=>
     split at hD
     ·rename_i k l hx1
      have hx1:b1=.int k l:=by simpa[x1]using hx1
      subst hx1
      have:=hb1.ints;subst this
      cases hD
      obtain⟨h1,h2⟩:=hc.app
      obtain⟨g0,g1,g2,_⟩:=h2
      have g0:0≤l:=by simpa[Cd.holds,leb]using g0
      have g1:l.toNat≤len:=of_len' g1
      have g2:c.size=len*sz:=by have:=g2;simp only[Cd.holds,mz_eq]at this;exact this
      refine Eff.frz hm hl (fun F' hF hids=>?_)
      have hb:=base h1 F' hF hids
      have run0:∀(a:Option Addr) (cap:Nat),len≤cap→(Instr.sliceAt t (.slice a len cap) (some (.int k l)) none none).run P w=.ok (.slice (if cap=l.toNat then a else a.map (·.add (l.toNat*sz))) (len-l.toNat) (cap-l.toNat)) w:=fun a cap hle=>by
       rw[hrun]
       simp[Instr.sliceBounds,run_sliceBound k l len _ g0 (by omega)]
      have hsize:(c.drop (mz l.toNat sz)).size=(len-l.toNat)*sz:=by rw[size_drop,mz_eq,g2,Nat.sub_mul]
      cases hb with
      |imm _ _ _ b o cap' xs0 hF0 hcell hr ho hle hcap=>
       refine⟨_,by simpa using run0 _ _ hle,?_⟩
       by_cases hcl:cap'=l.toNat
       ·have e1:len-l.toNat=0:=by omega
        have e2:cap'-l.toNat=0:=by omega
        rw[if_pos hcl,e1,e2]
        exact .imm0 _ _ _ (by rw[hsize,e1];simp) (fun n e=>by cases e)
       ·rw[if_neg hcl]
        have:=imm_cut (w:=w) (F:=F') (c:=c) (len:=len) (cap:=capA) (cap':=cap') (mz l.toNat sz) (len-l.toNat) ((len-l.toNat)*sz) (cap'-l.toNat) hF0 hcell hr ho (by omega)
        rw[take_all _ _ (Nat.le_of_eq hsize)]at this
        simp only[Option.map_some,addr_add]
        rw[← mz_eq]
        exact this
      |imm0 _ _ a hc0 hcap=>
       have e0:l.toNat=0:=by omega
       refine⟨_,by simpa using run0 _ _ (Nat.le_refl _),?_⟩
       rw[e0]
       exact .imm0 _ _ _ (by rw[size_drop];omega) (fun n e=>by cases e)
     ·cases hD
  ·-- high
   cases bs with
   |nil=>simp at hlen
   |cons b1 bs=>
    cases hb with
    |cons _ _ y1 _ hb1 hbs=>
     split at hD
     ·rename_i k h hx1
      have hx1:b1=.int k h:=by simpa[x1]using hx1
      subst hx1
      have:=hb1.ints;subst this
      cases hD
      obtain⟨h1,h2⟩:=hc.app
      obtain⟨g0,g1,g2,_⟩:=h2
      have g0:0≤h:=by simpa[Cd.holds,leb]using g0
      have g1:h.toNat≤len:=of_len' g1
      have g2:c.size=len*sz:=by have:=g2;simp only[Cd.holds,mz_eq]at this;exact this
      refine Eff.frz hm hl (fun F' hF hids=>?_)
      have hb:=base h1 F' hF hids
      have run0:∀(a:Option Addr) (cap:Nat),len≤cap→(Instr.sliceAt t (.slice a len cap) none (some (.int k h)) none).run P w=.ok (.slice (if cap=0 then a else a.map (·.add 0)) h.toNat cap) w:=fun a cap hle=>by
       rw[hrun]
       simp[Instr.sliceBounds,run_sliceBound k h cap _ g0 (by omega)]
      cases hb with
      |imm _ _ _ b o cap' xs0 hF0 hcell hr ho hle hcap=>
       refine⟨_,by simpa using run0 _ _ hle,?_⟩
       have:(if cap'=0 then(some ⟨b,o,none⟩:Option Addr)else Option.map (fun x:Addr=>x.add 0) (some ⟨b,o,none⟩))=some ⟨b,o,none⟩:=by
        split<;>simp[Addr.add]
       rw[this]
       have:=imm_cut (w:=w) (F:=F') (c:=c) (len:=len) (cap:=capA) (cap':=cap') 0 h.toNat (mz h.toNat sz) cap' hF0 hcell hr ho (by omega)
       rw[drop_zero]at this
       exact this
      |imm0 _ _ a hc0 hcap=>
       have e0:h.toNat=0:=by omega
       refine⟨_,by simpa using run0 _ _ (Nat.le_refl _),?_⟩
       rw[e0]
       exact .imm0 _ _ _ (by rw[size_take];omega) (fun n e=>by cases e)
     ·cases hD
  ·-- low and high
   cases bs with
   |nil=>simp at hlen
   |cons b1 bs=>
    cases bs with
    |nil=>simp at hlen
    |cons b2 bs=>
     cases hb with
     |cons _ _ y1 _ hb1 hbs=>
      cases hbs with
      |cons _ _ y2 ys hb2 hbs=>
       split at hD
       ·rename_i k l k' h hx1 hx2
        have hx1:b1=.int k l:=by simpa[x1]using hx1
        have hx2:b2=.int k' h:=by simpa[x2]using hx2
        subst hx1 hx2
        have:=hb1.ints;subst this
        have:=hb2.ints;subst this
        cases hD
        obtain⟨h1,h2⟩:=hc.app
        obtain⟨g0,g1,g2,g3,_⟩:=h2
        have g0:0≤l:=by simpa[Cd.holds,leb]using g0
        have g1:l≤h:=by simpa[Cd.holds,leb]using g1
        have g2:h.toNat≤len:=of_len' g2
        have g3:c.size=len*sz:=by have:=g3;simp only[Cd.holds,mz_eq]at this;exact this
        refine Eff.frz hm hl (fun F' hF hids=>?_)
        have hb:=base h1 F' hF hids
        have run0:∀(a:Option Addr) (cap:Nat),len≤cap→(Instr.sliceAt t (.slice a len cap) (some (.int k l)) (some (.int k' h)) none).run P w=.ok (.slice (if cap=l.toNat then a else a.map (·.add (l.toNat*sz))) (h.toNat-l.toNat) (cap-l.toNat)) w:=fun a cap hle=>by
         rw[hrun]
         simp[Instr.sliceBounds,run_sliceBound k' h cap _ (by omega) (by omega),run_sliceBound k l h.toNat _ g0 (by omega)]
        cases hb with
        |imm _ _ _ b o cap' xs0 hF0 hcell hr ho hle hcap=>
         refine⟨_,by simpa using run0 _ _ hle,?_⟩
         by_cases hcl:cap'=l.toNat
         ·have e1:h.toNat-l.toNat=0:=by omega
          have e2:cap'-l.toNat=0:=by omega
          rw[if_pos hcl,e1,e2]
          exact .imm0 _ _ _ (by rw[size_take,mz_eq];simp) (fun n e=>by cases e)
         ·rw[if_neg hcl]
          have:=imm_cut (w:=w) (F:=F') (c:=c) (len:=len) (cap:=capA) (cap':=cap') (mz l.toNat sz) (h.toNat-l.toNat) (mz (h.toNat-l.toNat) sz) (cap'-l.toNat) hF0 hcell hr ho (by omega)
          simp only[Option.map_some,addr_add]
          rw[← mz_eq]
          exact this
        |imm0 _ _ a hc0 hcap=>
         have e0:h.toNat=0:=by omega
         have e1:l.toNat=0:=by omega
         refine⟨_,by simpa using run0 _ _ (Nat.le_refl _),?_⟩
         rw[e0,e1]
         exact .imm0 _ _ _ (by rw[size_take,size_drop];omega) (fun n e=>by cases e)
       ·cases hD
  ·cases hD
 ·-- the nil slice
  rename_i ids cs hfrz
  have base:AllC Sp cs→∀F',(∀b,F b→F' b)→(∀id,id∈ids→(∃k,look id=some (.blk k))→∀b,ρ id=some b→F' b)→RelI w F' .nils x:=by
   intro hcs F' hF hids
   exact(frz_sound hm hl hF 60).1 _ _ _ _ hfrz hcs (fun id hid b hb=>hids id hid ((frz_ids 60).1 _ _ _ _ hfrz id hid) b hb) x hx
  split at hD
  ·cases bs with
   |nil=>simp at hlen
   |cons b1 bs=>
    cases bs with
    |nil=>simp at hlen
    |cons b2 bs=>
     cases hb with
     |cons _ _ y1 _ hb1 hbs=>
      cases hbs with
      |cons _ _ y2 ys hb2 hbs=>
       split at hD
       ·rename_i k h k' m hx1 hx2
        have hx1:b1=.int k h:=by simpa[x1]using hx1
        have hx2:b2=.int k' m:=by simpa[x2]using hx2
        subst hx1 hx2
        have:=hb1.ints;subst this
        have:=hb2.ints;subst this
        cases hD
        obtain⟨h1,h2⟩:=hc.app
        obtain⟨g0,g1,g2,g3,_⟩:=h2
        have g0:0≤h:=by simpa[Cd.holds,leb]using g0
        have g1:h.toNat=0:=g1
        have g2:0≤m:=by simpa[Cd.holds,leb]using g2
        have g3:m.toNat=0:=g3
        refine Eff.frz hm hl (fun F' hF hids=>?_)
        have hb:=base h1 F' hF hids
        cases hb
        have run0:(Instr.sliceAt t (.slice none 0 0) none (some (.int k h)) (some (.int k' m))).run P w=.ok (.slice none 0 0) w:=by
         rw[hrun]
         simp[Instr.sliceBounds,run_sliceBound k' m 0 _ g2 (by omega),run_sliceBound k h 0 _ g0 (by omega),g1,g3]
        exact⟨_,by simpa using run0,.nils⟩
       ·cases hD
  ·cases hD
 ·cases hD

/-! ### Slice literals, make -/

theorem opStoreS_sound (hm:MRel G F ρ H w)(hl:∀id o,look id=some o→H id=some o){a v:AV}{p x:Value}(hp:RelV w F ρ H a p)(hx:RelV w F ρ H v x){sz:Nat}{t:TypeId}{i:TypeInfo}
  (hi:P.info? t=some i) (hsz:i.size=sz) (hD:opStoreS look sz a v=some D) (hc:AllC Sp D.cs):
  Eff G F ρ H w (((Instr.storeAt t p x).run P w).andThen fun _ w'=>.ok undef w') D:=by
 have hrun:∀a,(Instr.storeAt t (.pointer (some a)) x).run P w=(storeVar t a x).run P w:=fun a=>by
  simp[Instr.storeAt,Instr.sureAddr]
 unfold opStoreS at hD
 split at hD
 ·rename_i D0 h0
  cases hD
  exact opStore_sound hm hl hp hx hi hsz h0 hc
 ·rename_i hno
  clear hno
  unfold opStoreF at hD
  split at hD
  ·rename_i id n off
   split at hD
   ·rename_i k hk
    have hH:=hl _ _ hk
    split at hD
    ·rename_i v' ids cs' hfrz
     rw[cond_eq_ite]at hD
     split at hD
     ·rename_i hcond
      simp only[Bool.and_eq_true,Bool.not_eq_true']at hcond
      obtain⟨hmu,hmem,hall,hlen⟩:=hcond
      have hlen:v'.cs.length=sz:=Nat.eq_of_beq_eq_true hlen
      have hmem:id∉ids:=by
       intro h
       have:memN id ids=true:=memN_of_mem h
       rw[this]at hmem;cases hmem
      split at hD
      ·rename_i c hset
       cases hD
       obtain⟨c0,c1,c2⟩:=hc
       obtain⟨F1,f1,f2,f3,f4,f5,f6⟩:=frzAll (look:=look) ids F H hm (fun id k hk=>.inl (hl _ _ hk))
       have hv':=(frz_sound hm hl f2.keep 60).1 _ _ _ _ hfrz c2 (fun id hid b hb=>f4 id hid ((frz_ids 60).1 _ _ _ _ hfrz id hid) b hb) x hx
       have hH1:updL H (frzW look ids) id=some (.blk k):=by
        rcases f5 id k hk with h|h
        ·rw[h,hH]
        ·exact absurd h.1 hmem
       cases hp with
       |imm _ _ hi=>cases hi
       |ep _ _ _ k' _ hh hle hpp hxx=>
        rw[hH]at hh;cases hh
        obtain⟨b,hb,rfl⟩:=hxx c0
        have hle:off+sz≤k.c.size:=by simpa[Cd.holds,len']using c1
        obtain⟨w',p1,p2,p3,p4⟩:=store_sound (P:=P) f1 hH1 hb hmu (hv'.toV (ρ:=ρ) (h:=updL H (frzW look ids))) hi hall (by omega) hset (by omega)
        rw[hrun,p1]
        refine⟨undef,w',F1,ρ,rfl,?_⟩
        rw[updL_app]
        exact⟨p2,f2.trans p3,f3.trans p4,.imm _ _ (.undef _)⟩
      ·cases hD
     ·cases hD
    ·cases hD
   ·cases hD
  ·cases hD
theorem addr_add2 (p:Addr)(x y:Nat):(p.add x).add y=p.add (x+y):=by
 obtain⟨b,o,f⟩:=p
 unfold Addr.add
 by_cases hx:x=0
 ·subst hx;simp
 ·by_cases hy:y=0
  ·subst hy;simp
  ·simp[hx,hy,Nat.add_assoc]
theorem opView_sound (hm:MRel G F ρ H w)(hl:∀id o,look id=some o→H id=some o){sz:Nat}{lo hi mx:Bool}{id n:Nat}{bs:List AV}{x:Value}{xs:List Value}{t e:TypeId}{i:TypeInfo}
  (ht:P.underlying t=some (.slice e)) (hi':P.info? e=some i) (hsz:i.size=sz) (hx:RelV w F ρ H (.full id n) x) (hb:RelVs w F ρ H bs xs)
  (hlen:bs.length=(if lo then 1 else 0)+((if hi then 1 else 0)+(if mx then 1 else 0)))
  (hD:opView look sz id n lo hi mx bs=some D) (hc:AllC Sp D.cs):
  Eff G F ρ H w ((Instr.sliceAt t x (if lo then xs[0]? else none) (if hi then(if lo then xs[1]? else xs[0]?)else none) (if mx then(if lo then(if hi then xs[2]? else xs[1]?)else(if hi then xs[1]? else xs[0]?))else none)).run P w) D:=by
 have hrun:∀(a:Option Addr) (len cap:Nat) (l h m:Option Value),(Instr.sliceAt t (.slice a len cap) l h m).run P w=
   ((Instr.sliceBounds true len cap l h m).run P w).andThen fun q w'=>.ok (.slice (if q.2.2=q.1 then a else a.map (·.add (q.1*sz))) (q.2.1-q.1) (q.2.2-q.1)) w':=fun a len cap l h m=>by
  simp only[Instr.sliceAt,Instr.slice,Sem.run_bind,run_underlying' ht,Result.andThen_ok]
  cases hq:(Instr.sliceBounds true len cap l h m).run P w with
  |ok q w'=>simp[run_sizeOf' hi',hsz]
  |halt q w'=>rfl
 have hopt:∀(a:Option Addr),a.map (·.add (0*sz))=a:=fun a=>by cases a<;>simp[Addr.add]
 unfold opView at hD
 split at hD
 ·rename_i bk hbk
  have hH:=hl _ _ hbk
  rw[cond_eq_ite]at hD
  split at hD
  ·split at hD
   ·split at hD
    ·rename_i k l hx1
     rw[cond_eq_ite]at hD
     split at hD
     ·cases bs with
      |nil=>simp at hlen
      |cons b1 bs=>
       cases hb with
       |cons _ _ y1 _ hb1 hbs=>
        have hx1:b1=.int k l:=by simpa[x1]using hx1
        subst hx1
        have:=hb1.ints;subst this
        have hcs:=val_cs hD
        rw[hcs]at hc
        obtain⟨c0,c1,c2,_⟩:=hc
        have c0:bk.n=n:=c0
        have c1:0≤l:=by simpa[Cd.holds,leb]using c1
        have c2:l.toNat<n:=by simpa[Cd.holds,ltn]using c2
        obtain⟨a,cap,hf,rfl,hle⟩:=hx.fullf hH c0
        have hpt:∃p,a=some p:=by
         rcases hf with⟨e,_⟩|⟨e,_⟩|⟨_,b,cap',cs,ty,fz,p1,p2,e,p3,p4,p5⟩
         ·omega
         ·omega
         ·cases e;exact⟨_,rfl⟩
        obtain⟨p,rfl⟩:=hpt
        have run0:(Instr.sliceAt t (.slice (some p) n cap) (some (.int k l)) none none).run P w=.ok (.slice ((some p).map fun p=>p.add (l.toNat*sz)) (n-l.toNat) (cap-l.toNat)) w:=by
         rw[hrun]
         simp[Instr.sliceBounds,run_sliceBound k l n _ c1 (by omega)]
         intro h;omega
        refine Eff.val hm hD (x:=.slice ((some p).map fun p=>p.add (l.toNat*sz)) (n-l.toNat) (cap-l.toNat)) ?_ (.vw id n sz l.toNat (n-l.toNat) bk _ hH (by omega) ⟨_,_,_,rfl⟩ (fun _=>⟨by omega,_,_,hf,rfl⟩))
        simpa using run0
     ·split at hD
      ·rename_i cc hcap
       cases bs with
       |nil=>simp at hlen
       |cons b1 bs=>
        cases hb with
        |cons _ _ y1 _ hb1 hbs=>
         have hx1:b1=.int k l:=by simpa[x1]using hx1
         subst hx1
         have:=hb1.ints;subst this
         have hcs:=val_cs hD
         rw[hcs]at hc
         obtain⟨c0,c1,c2,c3,_⟩:=hc
         have c0:bk.n=n:=c0
         have c1:0≤l:=by simpa[Cd.holds,leb]using c1
         have c2:l.toNat=n:=c2
         have c3:cc=n:=c3
         obtain⟨a,cap,hf,rfl,hle⟩:=hx.fullf hH c0
         have hce:cap=n:=by
          rcases hf with⟨e,_,_,e2⟩|⟨e,_,_,a',e2⟩|⟨_,b,cap',cs,ty,fz,p1,p2,e2,p3,p4,p5⟩
          ·cases e2;exact e.symm
          ·cases e2;exact e.symm
          ·cases e2;rw[← c3];exact p5.1 _ hcap
         have run0:(Instr.sliceAt t (.slice a n cap) (some (.int k l)) none none).run P w=.ok (.slice a 0 0) w:=by
          rw[hrun]
          simp[Instr.sliceBounds,run_sliceBound k l n _ c1 (by omega),c2,hce]
         refine Eff.val hm hD (x:=.slice a 0 0) ?_ (.imm _ _ (.imm0 _ _ _ (by cases bk.c<;>simp[Cont.take,Cont.size]) (fun n e=>by cases e;rfl)))
         simpa using run0
      ·cases hD
    ·cases hD
   ·split at hD
    ·rename_i k h hx1
     cases bs with
     |nil=>simp at hlen
     |cons b1 bs=>
      cases hb with
      |cons _ _ y1 _ hb1 hbs=>
       have hx1:b1=.int k h:=by simpa[x1]using hx1
       subst hx1
       have:=hb1.ints;subst this
       have hcs:=val_cs hD
       rw[hcs]at hc
       obtain⟨c0,c1,c2,_⟩:=hc
       have c0:bk.n=n:=c0
       have c1:0≤h:=by simpa[Cd.holds,leb]using c1
       have c2:h.toNat≤n:=by simpa[Cd.holds,len']using c2
       obtain⟨a,cap,hf,rfl,hle⟩:=hx.fullf hH c0
       have run0:(Instr.sliceAt t (.slice a n cap) none (some (.int k h)) none).run P w=.ok (.slice (a.map fun p=>p.add (0*sz)) h.toNat (cap-0)) w:=by
        rw[hrun]
        simp[Instr.sliceBounds,run_sliceBound k h cap _ c1 (by omega)]
        intro _
        have:=hopt a
        simp only[Nat.zero_mul]at this
        exact this.symm
       have:=Eff.val hm hD run0 (.vw id n sz 0 h.toNat bk _ hH (by omega) ⟨_,_,_,rfl⟩ (fun _=>⟨by omega,_,_,hf,rfl⟩))
       simpa using this
    ·cases hD
   ·cases hD
  ·cases hD
 ·cases hD
theorem opViewT_sound (hm:MRel G F ρ H w)(hl:∀id o,look id=some o→H id=some o){sz:Nat}{lo hi mx:Bool}{id n:Nat}{bs:List AV}{x:Value}{xs:List Value}{t e:TypeId}{i:TypeInfo}
  (ht:P.underlying t=some (.slice e)) (hi':P.info? e=some i) (hsz:i.size=sz) (hx:RelV w F ρ H (.full id n) x) (hb:RelVs w F ρ H bs xs)
  (hlen:bs.length=(if lo then 1 else 0)+((if hi then 1 else 0)+(if mx then 1 else 0)))
  (hD:opViewT look sz id n lo hi mx bs=some D) (hc:AllC Sp D.cs):
  Eff G F ρ H w ((Instr.sliceAt t x (if lo then xs[0]? else none) (if hi then(if lo then xs[1]? else xs[0]?)else none) (if mx then(if lo then(if hi then xs[2]? else xs[1]?)else(if hi then xs[1]? else xs[0]?))else none)).run P w) D:=by
 have hrun:∀(a:Option Addr) (len cap:Nat) (l h m:Option Value),(Instr.sliceAt t (.slice a len cap) l h m).run P w=
   ((Instr.sliceBounds true len cap l h m).run P w).andThen fun q w'=>.ok (.slice (if q.2.2=q.1 then a else a.map (·.add (q.1*sz))) (q.2.1-q.1) (q.2.2-q.1)) w':=fun a len cap l h m=>by
  simp only[Instr.sliceAt,Instr.slice,Sem.run_bind,run_underlying' ht,Result.andThen_ok]
  cases hq:(Instr.sliceBounds true len cap l h m).run P w with
  |ok q w'=>simp[run_sizeOf' hi',hsz]
  |halt q w'=>rfl
 unfold opViewT at hD
 split at hD
 ·rename_i bk hbk
  have hH:=hl _ _ hbk
  rw[cond_eq_ite]at hD
  split at hD
  ·split at hD
   ·split at hD
    ·rename_i k l hx1
     cases bs with
     |nil=>simp at hlen
     |cons b1 bs=>
      cases hb with
      |cons _ _ y1 _ hb1 hbs=>
       have hx1:b1=.int k l:=by simpa[x1]using hx1
       subst hx1
       have:=hb1.ints;subst this
       have hcs:=val_cs hD
       rw[hcs]at hc
       obtain⟨c0,c1,c2,_⟩:=hc
       have c0:bk.n=n:=c0
       have c1:0≤l:=by simpa[Cd.holds,leb]using c1
       have c2:l.toNat<n:=by simpa[Cd.holds,ltn]using c2
       obtain⟨a,cap,hf,rfl,hle⟩:=hx.fullf hH c0
       have hpt:∃p,a=some p:=by
        rcases hf with⟨e,_⟩|⟨e,_⟩|⟨_,b,cap',cs,ty,fz,p1,p2,e,p3,p4,p5⟩
        ·omega
        ·omega
        ·cases e;exact⟨_,rfl⟩
       obtain⟨p,rfl⟩:=hpt
       have run0:(Instr.sliceAt t (.slice (some p) n cap) (some (.int k l)) none none).run P w=.ok (.slice ((some p).map fun p=>p.add (l.toNat*sz)) (n-l.toNat) (cap-l.toNat)) w:=by
        rw[hrun]
        simp[Instr.sliceBounds,run_sliceBound k l n _ c1 (by omega)]
        intro h;omega
       refine Eff.val hm hD (x:=.slice ((some p).map fun p=>p.add (l.toNat*sz)) (n-l.toNat) (cap-l.toNat)) ?_ (.vw id n sz l.toNat (n-l.toNat) bk _ hH (by omega) ⟨_,_,_,rfl⟩ (fun _=>⟨by omega,_,_,hf,rfl⟩))
       simpa using run0
    ·cases hD
   ·cases hD
  ·cases hD
 ·cases hD
theorem opView2_sound (hm:MRel G F ρ H w)(hl:∀id o,look id=some o→H id=some o){sz:Nat}{lo hi mx:Bool}{id n s off len:Nat}{bs:List AV}{x:Value}{xs:List Value}{t e:TypeId}{i:TypeInfo}
  (ht:P.underlying t=some (.slice e)) (hi':P.info? e=some i) (hsz:i.size=sz) (hx:RelV w F ρ H (.vw id n s off len) x) (hb:RelVs w F ρ H bs xs)
  (hlen:bs.length=(if lo then 1 else 0)+((if hi then 1 else 0)+(if mx then 1 else 0)))
  (hD:opView2 look sz id n s off len lo hi mx bs=some D) (hc:AllC Sp D.cs):
  Eff G F ρ H w ((Instr.sliceAt t x (if lo then xs[0]? else none) (if hi then(if lo then xs[1]? else xs[0]?)else none) (if mx then(if lo then(if hi then xs[2]? else xs[1]?)else(if hi then xs[1]? else xs[0]?))else none)).run P w) D:=by
 have hrun:∀(a:Option Addr) (len cap:Nat) (l h m:Option Value),(Instr.sliceAt t (.slice a len cap) l h m).run P w=
   ((Instr.sliceBounds true len cap l h m).run P w).andThen fun q w'=>.ok (.slice (if q.2.2=q.1 then a else a.map (·.add (q.1*sz))) (q.2.1-q.1) (q.2.2-q.1)) w':=fun a len cap l h m=>by
  simp only[Instr.sliceAt,Instr.slice,Sem.run_bind,run_underlying' ht,Result.andThen_ok]
  cases hq:(Instr.sliceBounds true len cap l h m).run P w with
  |ok q w'=>simp[run_sizeOf' hi',hsz]
  |halt q w'=>rfl
 unfold opView2 at hD
 split at hD
 ·rename_i bk hbk
  have hH:=hl _ _ hbk
  split at hD
  ·split at hD
   ·rename_i k h hx1
    cases bs with
    |nil=>simp at hlen
    |cons b1 bs=>
     cases hb with
     |cons _ _ y1 _ hb1 hbs=>
      have hx1:b1=.int k h:=by simpa[x1]using hx1
      subst hx1
      have:=hb1.ints;subst this
      have hcs:=val_cs hD
      rw[hcs]at hc
      obtain⟨c0,c1,c2,_⟩:=hc
      have c0:bk.n=n:=c0
      have c1:0≤h:=by simpa[Cd.holds,leb]using c1
      have c2:h.toNat≤len:=by simpa[Cd.holds,len']using c2
      obtain⟨hle,a,c,hf,rfl⟩:=hx.vwf hH c0
      have hnc:n≤c:=by
       rcases hf with⟨e,_⟩|⟨e,_⟩|⟨_,b,cap,cs,ty,fz,p1,p2,e,p3,p4,p5⟩
       ·omega
       ·omega
       ·cases e;exact p3
      have run0:(Instr.sliceAt t (.slice (a.map fun p=>p.add (off*s)) len (c-off)) none (some (.int k h)) none).run P w=.ok (.slice (a.map fun p=>p.add (off*s)) h.toNat (c-off)) w:=by
       rw[hrun]
       simp[Instr.sliceBounds,run_sliceBound k h (c-off) _ c1 (by omega)]
       intro _
       cases a<;>simp[Addr.add]
      have:=Eff.val hm hD run0 (.vw id n s off h.toNat bk _ hH (by omega) ⟨_,_,_,rfl⟩ (fun _=>⟨by omega,_,_,hf,rfl⟩))
      simpa using this
   ·cases hD
  ·split at hD
   ·rename_i k l hx1
    rw[cond_eq_ite]at hD
    split at hD
    ·rename_i hq
     rw[Bool.and_eq_true]at hq
     have e1:=Nat.eq_of_beq_eq_true hq.1
     have e2:=Nat.eq_of_beq_eq_true hq.2
     subst e1
     cases bs with
     |nil=>simp at hlen
     |cons b1 bs=>
      cases hb with
      |cons _ _ y1 _ hb1 hbs=>
       have hx1:b1=.int k l:=by simpa[x1]using hx1
       subst hx1
       have:=hb1.ints;subst this
       rw[cond_eq_ite]at hD
       split at hD
       ·have hcs:=val_cs hD
        rw[hcs]at hc
        obtain⟨c0,c1,c2,_⟩:=hc
        have c0:bk.n=n:=c0
        have c1:0≤l:=by simpa[Cd.holds,leb]using c1
        have c2:l.toNat<len:=by simpa[Cd.holds,ltn]using c2
        obtain⟨hle,a,c,hf,rfl⟩:=hx.vwf hH c0
        have hnc:n≤c∧∃p,a=some p:=by
         rcases hf with⟨e,_⟩|⟨e,_⟩|⟨_,b,cap,cs,ty,fz,p1,p2,e,p3,p4,p5⟩
         ·omega
         ·omega
         ·cases e;exact⟨p3,_,rfl⟩
        obtain⟨hnc,p,rfl⟩:=hnc
        have run0:(Instr.sliceAt t (.slice ((some p).map fun p=>p.add (off*s)) len (c-off)) (some (.int k l)) none none).run P w=.ok (.slice ((some p).map fun p=>p.add ((off+l.toNat)*s)) (len-l.toNat) (c-(off+l.toNat))) w:=by
         rw[hrun]
         have hq:(Instr.sliceBounds true len (c-off) (some (.int k l)) none none).run P w=.ok (l.toNat,len,c-off) w:=by
          simp[Instr.sliceBounds,run_sliceBound k l len _ c1 (by omega)]
         rw[hq]
         simp only[Result.andThen_ok]
         have hne:¬ (c-off=l.toNat):=by omega
         have e3:bk.sz=bk.sz:=rfl
         rw[if_neg hne]
         have ea:((some p).map fun p=>p.add (off*s)).map (·.add (l.toNat*s))=(some p).map fun p=>p.add ((off+l.toNat)*s):=by
          simp only[Option.map_some]
          rw[addr_add2,Nat.add_mul]
         have eb:c-off-l.toNat=c-(off+l.toNat):=by omega
         rw[ea,eb]
        have:=Eff.val hm hD run0 (.vw id n s (off+l.toNat) (len-l.toNat) bk _ hH (by omega) ⟨_,_,_,rfl⟩ (fun _=>⟨by omega,_,_,hf,rfl⟩))
        simpa using this
       ·split at hD
        ·rename_i cc hcap
         have hcs:=val_cs hD
         rw[hcs]at hc
         obtain⟨c0,c1,c2,c3,c4,_⟩:=hc
         have c0:bk.n=n:=c0
         have c1:0≤l:=by simpa[Cd.holds,leb]using c1
         have c2:l.toNat=len:=c2
         have c3:cc=n:=c3
         have c4:off+len=n:=c4
         obtain⟨hle,a,c,hf,rfl⟩:=hx.vwf hH c0
         have hce:c=n:=by
          rcases hf with⟨e,_,_,e2⟩|⟨e,_,_,a',e2⟩|⟨_,b,cap',cs,ty,fz,p1,p2,e2,p3,p4,p5⟩
          ·cases e2;exact e.symm
          ·cases e2;exact e.symm
          ·cases e2;rw[← c3];exact p5.1 _ hcap
         have hcl:c-off=len:=by omega
         have run0:(Instr.sliceAt t (.slice (a.map fun p=>p.add (off*s)) len (c-off)) (some (.int k l)) none none).run P w=.ok (.slice (a.map fun p=>p.add (off*s)) 0 0) w:=by
          rw[hrun]
          simp[Instr.sliceBounds,run_sliceBound k l len _ c1 (by omega),c2,hcl]
         refine Eff.val hm hD (x:=.slice (a.map fun p=>p.add (off*s)) 0 0) ?_ (.imm _ _ (.imm0 _ _ _ (by cases bk.c<;>simp[Cont.take,Cont.size]) (fun n e=>by cases e;rfl)))
         simpa using run0
        ·cases hD
    ·cases hD
   ·cases hD
  ·cases hD
 ·cases hD
theorem opKeep_sound (hm:MRel G F ρ H w)(hl:∀id o,look id=some o→H id=some o){sz:Nat}{lo hi mx:Bool}{id len:Nat}{bs:List AV}{x:Value}{xs:List Value}{t e:TypeId}{i:TypeInfo}
  (ht:P.underlying t=some (.slice e)) (hi':P.info? e=some i) (hsz:i.size=sz) (hx:RelV w F ρ H (.full id len) x) (hb:RelVs w F ρ H bs xs)
  (hlen:bs.length=(if lo then 1 else 0)+((if hi then 1 else 0)+(if mx then 1 else 0)))
  (hD:opKeep look id len lo hi mx bs=some D) (hc:AllC Sp D.cs):
  Eff G F ρ H w ((Instr.sliceAt t x (if lo then xs[0]? else none) (if hi then(if lo then xs[1]? else xs[0]?)else none) (if mx then(if lo then(if hi then xs[2]? else xs[1]?)else(if hi then xs[1]? else xs[0]?))else none)).run P w) D:=by
 have hrun:∀(a:Option Addr) (len cap:Nat) (l h m:Option Value),(Instr.sliceAt t (.slice a len cap) l h m).run P w=
   ((Instr.sliceBounds true len cap l h m).run P w).andThen fun q w'=>.ok (.slice (if q.2.2=q.1 then a else a.map (·.add (q.1*sz))) (q.2.1-q.1) (q.2.2-q.1)) w':=fun a len cap l h m=>by
  simp only[Instr.sliceAt,Instr.slice,Sem.run_bind,run_underlying' ht,Result.andThen_ok]
  cases hq:(Instr.sliceBounds true len cap l h m).run P w with
  |ok q w'=>simp[run_sizeOf' hi',hsz]
  |halt q w'=>rfl
 have hopt:∀(a:Option Addr) (p:Prop) [Decidable p],(if p then a else a.map (·.add (0*sz)))=a:=fun a p _=>by
  split
  ·rfl
  ·cases a<;>simp[Addr.add]
 unfold opKeep at hD
 split at hD
 ·rename_i bk hbk
  split at hD
  ·rename_i hmu hcap
   split at hD
   ·cases bs with
    |nil=>simp at hlen
    |cons b1 bs=>
     cases bs with
     |nil=>simp at hlen
     |cons b2 bs=>
      cases hb with
      |cons _ _ y1 _ hb1 hbs=>
       cases hbs with
       |cons _ _ y2 ys hb2 hbs=>
        split at hD
        ·rename_i k h k' m hx1 hx2
         have hx1:b1=.int k h:=by simpa[x1]using hx1
         have hx2:b2=.int k' m:=by simpa[x2]using hx2
         subst hx1 hx2
         have:=hb1.ints;subst this
         have:=hb2.ints;subst this
         rw[cond_eq_ite]at hD
         split at hD
         ·have hcs:=val_cs hD
          rw[hcs]at hc
          obtain⟨c0,c1,c2,c3,c4,_⟩:=hc
          have c0:bk.n=len:=c0
          have c1:0≤h:=by simpa[Cd.holds,leb]using c1
          have c2:h.toNat=len:=c2
          have c3:0≤m:=by simpa[Cd.holds,leb]using c3
          have c4:m.toNat=len:=c4
          have hH:=hl _ _ hbk
          obtain⟨a,cap,hf,rfl,hle⟩:=hx.fullf hH c0
          have run0:(Instr.sliceAt t (.slice a len cap) none (some (.int k h)) (some (.int k' m))).run P w=.ok (.slice a len len) w:=by
           rw[hrun]
           simp[Instr.sliceBounds,run_sliceBound k' m cap _ c3 (by omega),run_sliceBound k h len _ c1 (by omega),c2,c4]
           simpa using hopt a (len=0)
          refine Eff.val hm hD (x:=.slice a len len) (by simpa using run0) (.fullc id len len a (.full id len bk _ hH (by omega) ⟨_,_,_,rfl⟩ (fun _=>?_)))
          rcases hf with⟨e,q1,q2,e2⟩|⟨e,q1,q2,a',e2⟩|⟨q1,b,cap',cs,ty,fz,q2,q3,e2,q4,q5,q6⟩
          ·cases e2;exact .inl ⟨e,q1,q2,by rw[e]⟩
          ·cases e2;exact .inr (.inl ⟨e,q1,q2,a',by rw[e]⟩)
          ·cases e2;exact .inr (.inr ⟨q1,b,len,cs,ty,fz,q2,q3,rfl,Nat.le_refl _,Nat.le_trans (Nat.mul_le_mul_right _ q4) q5,(fun n e=>by rw[hcap]at e;cases e),Nat.le_trans q4 q6.2⟩)
         ·cases hD
        ·cases hD
   ·cases hD
  ·cases hD
 ·cases hD
theorem opSliceS_sound (hm:MRel G F ρ H w)(hl:∀id o,look id=some o→H id=some o){sz:Nat}{lo hi mx:Bool}{v:AV}{bs:List AV}{x:Value}{xs:List Value}{t e:TypeId}{i:TypeInfo}
  (ht:P.underlying t=some (.slice e)) (hi':P.info? e=some i) (hsz:i.size=sz) (hx:RelV w F ρ H v x) (hb:RelVs w F ρ H bs xs)
  (hlen:bs.length=(if lo then 1 else 0)+((if hi then 1 else 0)+(if mx then 1 else 0)))
  {d:Dir} (hD:opSliceS look d sz lo hi mx v bs=some D) (hc:AllC Sp D.cs):
  Eff G F ρ H w ((Instr.sliceAt t x (if lo then xs[0]? else none) (if hi then(if lo then xs[1]? else xs[0]?)else none) (if mx then(if lo then(if hi then xs[2]? else xs[1]?)else(if hi then xs[1]? else xs[0]?))else none)).run P w) D:=by
 have hrun:∀(a:Option Addr) (len cap:Nat) (l h m:Option Value),(Instr.sliceAt t (.slice a len cap) l h m).run P w=
   ((Instr.sliceBounds true len cap l h m).run P w).andThen fun q w'=>.ok (.slice (if q.2.2=q.1 then a else a.map (·.add (q.1*sz))) (q.2.1-q.1) (q.2.2-q.1)) w':=fun a len cap l h m=>by
  simp only[Instr.sliceAt,Instr.slice,Sem.run_bind,run_underlying' ht,Result.andThen_ok]
  cases hq:(Instr.sliceBounds true len cap l h m).run P w with
  |ok q w'=>simp[run_sizeOf' hi',hsz]
  |halt q w'=>rfl
 have hopt:∀(a:Option Addr) (p:Prop) [Decidable p],(if p then a else a.map (·.add (0*sz)))=a:=fun a p _=>by
  split
  ·rfl
  ·cases a<;>simp[Addr.add]
 unfold opSliceS at hD
 split at hD
 ·rename_i id
  split at hD
  ·split at hD
   ·rename_i k h hx1
    cases bs with
    |nil=>simp at hlen
    |cons b1 bs=>
     cases hb with
     |cons _ _ y1 _ hb1 hbs=>
      have hx1:b1=.int k h:=by simpa[x1]using hx1
      subst hx1
      have:=hb1.ints;subst this
      have hcs:=val_cs hD
      rw[hcs]at hc
      have e0:h=0:=by simpa[Cd.holds]using hc.1
      subst e0
      cases hx with
      |imm _ _ hi=>cases hi
      |spare _ a l c hf=>
       refine Eff.val hm hD (x:=.slice a 0 c) ?_ hf
       have:(Instr.sliceAt t (.slice a l c) none (some (.int k 0)) none).run P w=.ok (.slice a 0 c) w:=by
        rw[hrun]
        simp[Instr.sliceBounds,run_sliceBound k 0 c _ (by omega) (by omega)]
        simpa using hopt a (c=0)
       simpa using this
   ·cases hD
  ·cases hD
 ·split at hD
  ·split at hD
   ·rename_i k h hx1
    cases bs with
    |nil=>simp at hlen
    |cons b1 bs=>
     cases hb with
     |cons _ _ y1 _ hb1 hbs=>
      have hx1:b1=.int k h:=by simpa[x1]using hx1
      subst hx1
      have:=hb1.ints;subst this
      have hcs:=val_cs hD
      rw[hcs]at hc
      have e0:h=0:=by simpa[Cd.holds]using hc.1
      subst e0
      cases hx with
      |imm _ _ hi=>
       cases hi
       refine Eff.val hm hD (x:=.slice none 0 0) ?_ (.imm _ _ .nils)
       have:(Instr.sliceAt t (.slice none 0 0) none (some (.int k 0)) none).run P w=.ok (.slice none 0 0) w:=by
        rw[hrun]
        simp[Instr.sliceBounds,run_sliceBound k 0 0 _ (by omega) (by omega)]
       simpa using this
   ·cases hD
  ·exact opSlice_sound hm hl ht hi' hsz hx hb hlen hD hc
 ·rename_i id len
  split at hD
  ·split at hD
   ·rename_i bk hbk
    split at hD
    ·rename_i hcap
     split at hD
     ·cases bs with
      |nil=>simp at hlen
      |cons b1 bs=>
       cases bs with
       |nil=>simp at hlen
       |cons b2 bs=>
        cases hb with
        |cons _ _ y1 _ hb1 hbs=>
         cases hbs with
         |cons _ _ y2 ys hb2 hbs=>
          split at hD
          ·rename_i k h k' m hx1 hx2
           have hx1:b1=.int k h:=by simpa[x1]using hx1
           have hx2:b2=.int k' m:=by simpa[x2]using hx2
           subst hx1 hx2
           have:=hb1.ints;subst this
           have:=hb2.ints;subst this
           have hcs:=val_cs hD
           rw[hcs]at hc
           obtain⟨c0,c1,c2,c3,c4,_⟩:=hc
           have c0:bk.n=len:=c0
           have c1:0≤h:=by simpa[Cd.holds,leb]using c1
           have c2:h.toNat=len:=c2
           have c3:0≤m:=by simpa[Cd.holds,leb]using c3
           have c4:m.toNat=len:=c4
           have run0:∀(a:Option Addr) (cap:Nat),len≤cap→(Instr.sliceAt t (.slice a len cap) none (some (.int k h)) (some (.int k' m))).run P w=.ok (.slice a len len) w:=fun a cap hle=>by
            rw[hrun]
            simp[Instr.sliceBounds,run_sliceBound k' m cap _ c3 (by omega),run_sliceBound k h len _ c1 (by omega),c2,c4]
            simpa using hopt a (len=0)
           have hH:=hl _ _ hbk
           cases hx with
           |imm _ _ hi=>cases hi
           |full _ _ kk x hh hle hp hx=>
            rw[hH]at hh;cases hh
            have hf:=hx c0
            rcases hf with⟨rfl,q1,q2,rfl⟩|⟨rfl,q1,q2,a,rfl⟩|⟨q1,b,cap,cs,ty,fz,q2,q3,rfl,q4,q5,q6⟩
            ·refine Eff.val hm hD (x:=.slice none 0 0) ?_ (.full id 0 bk _ hH (by omega) ⟨_,_,_,rfl⟩ (fun _=>.inl ⟨rfl,q1,q2,rfl⟩))
             simpa using run0 none 0 (Nat.le_refl _)
            ·refine Eff.val hm hD (x:=.slice (some a) 0 0) ?_ (.full id 0 bk _ hH (by omega) ⟨_,_,_,rfl⟩ (fun _=>.inr (.inl ⟨rfl,q1,q2,a,rfl⟩)))
             simpa using run0 (some a) 0 (Nat.le_refl _)
            ·refine Eff.val hm hD (x:=.slice (some ⟨b,0,none⟩) len len) ?_ (.full id len bk _ hH (by omega) ⟨_,_,_,rfl⟩ (fun _=>.inr (.inr ⟨q1,b,len,cs,ty,fz,q2,q3,rfl,Nat.le_refl _,Nat.le_trans (Nat.mul_le_mul_right _ q4) q5,(fun n e=>by rw[hcap]at e;cases e),Nat.le_trans q4 q6.2⟩)))
             simpa using run0 (some ⟨b,0,none⟩) cap q4
          ·cases hD
     ·exact opView_sound hm hl ht hi' hsz hx hb hlen hD hc
    ·exact opView_sound hm hl ht hi' hsz hx hb hlen hD hc
   ·cases hD
  ·split at hD
   ·rename_i D0 hv
    cases hD
    exact opView_sound hm hl ht hi' hsz hx hb hlen hv hc
   ·split at hD
    ·rename_i D0 hv
     cases hD
     exact opKeep_sound hm hl ht hi' hsz hx hb hlen hv hc
    ·exact opSlice_sound hm hl ht hi' hsz hx hb hlen hD hc
  ·split at hD
   ·rename_i bk hbk
    split at hD
    ·rename_i hcap
     split at hD
     ·cases bs with
      |nil=>simp at hlen
      |cons b1 bs=>
       cases bs with
       |nil=>simp at hlen
       |cons b2 bs=>
        cases hb with
        |cons _ _ y1 _ hb1 hbs=>
         cases hbs with
         |cons _ _ y2 ys hb2 hbs=>
          split at hD
          ·rename_i k h k' m hx1 hx2
           have hx1:b1=.int k h:=by simpa[x1]using hx1
           have hx2:b2=.int k' m:=by simpa[x2]using hx2
           subst hx1 hx2
           have:=hb1.ints;subst this
           have:=hb2.ints;subst this
           have hcs:=val_cs hD
           rw[hcs]at hc
           obtain⟨c0,c1,c2,c3,c4,_⟩:=hc
           have c0:bk.n=len:=c0
           have c1:0≤h:=by simpa[Cd.holds,leb]using c1
           have c2:h.toNat=len:=c2
           have c3:0≤m:=by simpa[Cd.holds,leb]using c3
           have c4:m.toNat=len:=c4
           have run0:∀(a:Option Addr) (cap:Nat),len≤cap→(Instr.sliceAt t (.slice a len cap) none (some (.int k h)) (some (.int k' m))).run P w=.ok (.slice a len len) w:=fun a cap hle=>by
            rw[hrun]
            simp[Instr.sliceBounds,run_sliceBound k' m cap _ c3 (by omega),run_sliceBound k h len _ c1 (by omega),c2,c4]
            simpa using hopt a (len=0)
           have hH:=hl _ _ hbk
           cases hx with
           |imm _ _ hi=>cases hi
           |full _ _ kk x hh hle hp hx=>
            rw[hH]at hh;cases hh
            have hf:=hx c0
            rcases hf with⟨rfl,q1,q2,rfl⟩|⟨rfl,q1,q2,a,rfl⟩|⟨q1,b,cap,cs,ty,fz,q2,q3,rfl,q4,q5,q6⟩
            ·refine Eff.val hm hD (x:=.slice none 0 0) ?_ (.fullc id 0 0 none (.full id 0 bk _ hH (by omega) ⟨_,_,_,rfl⟩ (fun _=>.inl ⟨rfl,q1,q2,rfl⟩)))
             simpa using run0 none 0 (Nat.le_refl _)
            ·refine Eff.val hm hD (x:=.slice (some a) 0 0) ?_ (.fullc id 0 0 (some a) (.full id 0 bk _ hH (by omega) ⟨_,_,_,rfl⟩ (fun _=>.inr (.inl ⟨rfl,q1,q2,a,rfl⟩))))
             simpa using run0 (some a) 0 (Nat.le_refl _)
            ·refine Eff.val hm hD (x:=.slice (some ⟨b,0,none⟩) len len) ?_ (.fullc id len len (some ⟨b,0,none⟩) (.full id len bk _ hH (by omega) ⟨_,_,_,rfl⟩ (fun _=>.inr (.inr ⟨q1,b,len,cs,ty,fz,q2,q3,rfl,Nat.le_refl _,Nat.le_trans (Nat.mul_le_mul_right _ q4) q5,(fun n e=>by rw[hcap]at e;cases e),Nat.le_trans q4 q6.2⟩))))
             simpa using run0 (some ⟨b,0,none⟩) cap q4
          ·cases hD
     ·cases hD
    ·cases hD
   ·cases hD
  ·split at hD
   ·rename_i D0 hv
    cases hD
    exact opViewT_sound hm hl ht hi' hsz hx hb hlen hv hc
   ·exact opSlice_sound hm hl ht hi' hsz hx hb hlen hD hc
  ·exact opSlice_sound hm hl ht hi' hsz hx hb hlen hD hc
 ·split at hD
  ·rename_i D0 hv
   cases hD
   exact opView2_sound hm hl ht hi' hsz hx hb hlen hv hc
  ·exact opSlice_sound hm hl ht hi' hsz hx hb hlen hD hc
 ·exact opSlice_sound hm hl ht hi' hsz hx hb hlen hD hc

theorem repL_rel {z:List AV}{zs:List Value}(h:RelVs w F ρ H z zs):∀n,RelVs w F ρ H (repL z n) (repL zs n)
 |0=>.nil
 |n+1=>h.app (repL_rel h n)
theorem repL_length {α:Type}(l:List α):∀n,(repL l n).length=n*l.length
 |0=>by simp[repL]
 |n+1=>by simp[repL,repL_length l n,Nat.add_mul,Nat.add_comm]
theorem repL_get {α:Type}[Inhabited α](zs:Array α)(hz:0<zs.size):∀n i,i<n*zs.size→(repL zs.toList n)[i]? =some zs[i%zs.size]!
 |0,i,h=>by simp at h
 |n+1,i,h=>by
  simp only[repL]
  by_cases hi:i<zs.size
  ·rw[List.getElem?_append_left (by simpa using hi),Nat.mod_eq_of_lt hi]
   simp[hi]
  ·rw[List.getElem?_append_right (by simp;omega)]
   rw[Array.length_toList]
   rw[repL_get zs hz n (i-zs.size) (by rw[Nat.add_mul]at h;omega)]
   rw[Nat.mod_eq_sub_mod (show i≥zs.size by omega)]
theorem rep_eq {α:Type}[Inhabited α](zs:Array α)(n:Nat)(hz:0<zs.size):((Array.range (n*zs.size)).map fun i=>zs[i%zs.size]!).toList=repL zs.toList n:=by
 apply List.ext_getElem?
 intro i
 by_cases h:i<n*zs.size
 ·rw[repL_get zs hz n i h]
  simp[h]
 ·rw[List.getElem?_eq_none (by simp;omega),List.getElem?_eq_none (by rw[repL_length];simp;omega)]

theorem intsOf_spec {k:IntKind}:∀{l:List AV} {l':List Int},intsOf k l=some l'→l=l'.map (.int k)
 |[],l',h=>by cases h;rfl
 |v::r,l',h=>by
  cases v<;>simp only[intsOf,reduceCtorEq]at h
  case int k' n=>
   simp only[cond_eq_ite]at h
   split at h
   ·rename_i hk
    have hk:k=k':=by simpa[beqK]using hk
    subst hk
    split at h
    ·rename_i l1 h1;cases h;simp[intsOf_spec h1]
    ·cases h
   ·cases h
theorem boolsOf_spec:∀{l:List AV} {l':List Bool},boolsOf l=some l'→l=l'.map .bool
 |[],l',h=>by cases h;rfl
 |v::r,l',h=>by
  cases v<;>simp only[boolsOf,reduceCtorEq]at h
  case bool b=>
   split at h
   ·rename_i l1 h1;cases h;simp[boolsOf_spec h1]
   ·cases h
theorem strsOf_spec:∀{l:List AV} {l':List (List UInt8)},strsOf l=some l'→l=l'.map .str
 |[],l',h=>by cases h;rfl
 |v::r,l',h=>by
  cases v<;>simp only[strsOf,reduceCtorEq]at h
  case str b=>
   split at h
   ·rename_i l1 h1;cases h;simp[strsOf_spec h1]
   ·cases h

theorem contOf_spec {ty:Nat}{l:List AV}{c:Cont}(h:contOf ty l=some c):c.size=l.length∧∀i x,i<l.length→RelV w F ρ H (l.getD i .undef) x→x.oneCell'=true→RelE w F ρ H c i x:=by
 have ints:∀k l',intsOf k l=some l'→(Cont.ints k l').size=l.length∧∀i x,i<l.length→RelV w F ρ H (l.getD i .undef) x→x.oneCell'=true→RelE w F ρ H (.ints k l') i x:=by
  intro k l' hl'
  have:=intsOf_spec hl';subst this
  refine⟨by simp[Cont.size],fun i x hi hr hone=>⟨?_,hone⟩⟩
  have hi':i<l'.length:=by simpa using hi
  have e:(l'.map (AV.int k)).getD i .undef=.int k (l'.getD i 0):=by simp[List.getD,hi']
  rw[e]at hr
  have:=hr.ints;subst this
  exact .int _ _
 unfold contOf at h
 split at h
 ·cases h
  exact⟨rfl,fun i x hi hr hone=>⟨hr,hone⟩⟩
 ·split at h
  ·rename_i l' hl'
   cases h
   have:=boolsOf_spec hl';subst this
   refine⟨by simp[Cont.size],fun i x hi hr hone=>⟨?_,hone⟩⟩
   have hi':i<l'.length:=by simpa using hi
   have e:(l'.map AV.bool).getD i .undef=.bool (l'.getD i false):=by simp[List.getD,hi']
   rw[e]at hr
   have:=hr.bools;subst this
   exact .bool _
  ·cases h
 ·split at h
  ·rename_i l' hl'
   cases h
   have:=strsOf_spec hl';subst this
   refine⟨by simp[Cont.size],fun i x hi hr hone=>⟨?_,hone⟩⟩
   have hi':i<l'.length:=by simpa using hi
   have e:(l'.map AV.str).getD i .undef=.str (l'.getD i []):=by simp[List.getD,hi']
   rw[e]at hr
   obtain⟨s,rfl,hs⟩:=hr.strs
   exact .str _ _ hs
  ·cases h
 ·split at h
  ·rename_i l' hl'
   cases h
   exact ints _ _ hl'
  ·cases h

theorem intsOf_nmap {ty:Nat}{l:List AV}{c:Cont}(h:contOf ty l=some c):c.isMap=false:=by
 unfold contOf at h
 split at h
 ·cases h;rfl
 ·split at h<;>cases h;rfl
 ·split at h<;>cases h;rfl
 ·split at h<;>cases h;rfl
theorem allLit_get:∀{l:List AV},allLit l=true→∀i,i<l.length→(∃k n,l.getD i .undef=.int k n)∨(∃b,l.getD i .undef=.bool b)∨∃s,l.getD i .undef=.str s
 |[],_,i,hi=>by simp at hi
 |v::r,h,0,_=>by
  cases v<;>simp only[allLit]at h<;>first|cases h|exact .inl ⟨_,_,rfl⟩|exact .inr (.inl ⟨_,rfl⟩)|exact .inr (.inr ⟨_,rfl⟩)
 |v::r,h,i+1,hi=>by
  have hr:allLit r=true:=by cases v<;>simp only[allLit]at h<;>first|cases h|exact h
  simpa using allLit_get hr i (by simpa using hi)
theorem allLit_app:∀{a b:List AV},allLit a=true→allLit b=true→allLit (a++b)=true
 |[],b,_,hb=>hb
 |v::r,b,ha,hb=>by
  cases v<;>simp only[allLit,List.cons_append]at ha ⊢<;>first|cases ha|exact allLit_app ha hb
theorem allLit_rep {z:List AV}(h:allLit z=true):∀n,allLit (repL z n)=true
 |0=>rfl
 |n+1=>allLit_app h (allLit_rep h n)
theorem lit_relI {l:List AV}(h:allLit l=true){i:Nat}(hi:i<l.length){x:Value}(hr:RelV w F ρ H (l.getD i .undef) x):RelI w F (l.getD i .undef) x:=by
 rcases allLit_get h i hi with⟨k,n,e⟩|⟨b,e⟩|⟨s,e⟩<;>rw[e]at hr ⊢<;>cases hr<;>assumption
theorem contOfS_spec {ty:Nat}{l:List AV}{c:Cont}(h:contOfS ty l=some c):(c.size=l.length∧∀i x,i<l.length→RelV w F ρ H (l.getD i .undef) x→x.oneCell'=true→RelE w F ρ H c i x)∧c.isMap=false:=by
 unfold contOfS at h
 split at h
 ·rw[cond_eq_ite]at h
  split at h
  ·rename_i hl
   cases h
   exact⟨⟨rfl,fun i x hi hr hone=>⟨lit_relI hl hi hr,hone⟩⟩,rfl⟩
  ·cases h
   exact⟨⟨rfl,fun i x hi hr hone=>⟨hr,hone⟩⟩,rfl⟩
 ·exact⟨contOf_spec h,intsOf_nmap h⟩
theorem laidS_sound (hm:MRel G F ρ H w){site sz len:Nat}{c:Cont}{cells:Array Value}{e:TypeId}{capc:Nat}{cs0:List Cd}(hs:H site=none)(hnm:c.isMap=false)(hcsz:c.size=len*sz)(hle:c.size≤cells.size)
  (hz:∀i,i<c.size→∃x,cells[i]? =some x∧RelE w F ρ H c i x) (hcap:len≤capc) (hcells:capc*sz≤cells.size) (hmx:capc≤capMax):
  Eff G F ρ H w (((newRow e cells).run P w).andThen fun a w'=>.ok (.slice (some a) len capc) w')
   {v:=.full site len,ws:=[(site,.blk {c,sz,n:=len,cap:=some capc,nil:=some false,mu:=true,bx:=false})],al:=[site],cs:=cs0}:=by
 have hrun:((newRow e cells).run P w).andThen (fun a w'=>Result.ok (Value.slice (some a) len capc) w')=.ok (.slice (some ⟨w.heap.size,0,none⟩) len capc) (w.alloc (.cells cells e)):=by
  simp[newRow]
 obtain⟨ρ',h1,h2,h3,h4,h5⟩:=hm.alloc (w':=w.alloc (.cells cells e)) (site:=site) (o:=.blk {c,sz,n:=len,cap:=some capc,nil:=some false,mu:=true,bx:=false}) hs rfl ⟨rfl,rfl,fun _=>⟨rfl,Nat.le_refl _⟩⟩ (fun ρ' H' hk hρ=>by
  refine⟨hcsz,.inr ⟨w.heap.size,hρ,RelB.ofCells hnm ⟨cells,e,(0,0),push_new rfl,by simp,hle,fun i hi=>?_⟩ (fun _ h=>absurd (hm.frz _ h) (Nat.lt_irrefl _)) (fun e=>by cases e)⟩⟩
  obtain⟨x,g1,g2⟩:=hz i hi
  exact⟨x,g1,g2.mono (fun b hb=>push_old rfl (hm.frz b hb)) (fun _ h=>h) hk⟩)
 exact⟨_,_,F,ρ',hrun,h1,h2,h3,.full site len _ _ (upd_same _ _ _) (Nat.le_refl _) ⟨_,_,_,rfl⟩ (fun _=>.inr (.inr ⟨(fun e=>by cases e),w.heap.size,capc,cells,e,(0,0),h4,push_new rfl,rfl,hcap,hcells,(fun n e=>by cases e;rfl),hmx⟩))⟩

theorem fillL_length:∀{ps:List (Nat×Nat)} {vs:List AV} {z l:List AV},fillL z ps vs=some l→l.length=z.length
 |[],vs,z,l,h=>by
  cases vs with
  |nil=>cases h;rfl
  |cons=>cases h
 |(off,size)::ps,vs,z,l,h=>by
  cases vs with
  |nil=>cases h
  |cons v vs=>
   simp only[fillL,cond_eq_ite]at h
   split at h
   ·rw[fillL_length h]

    suffices hs:∀(vs z:List AV) (i:Nat),(setAll z i vs).length=z.length from hs _ _ _
    intro vs
    induction vs with
    |nil=>intro z i;rfl
    |cons v r ih=>intro z i;simp[setAll,ih]
   ·cases h

end
end Go.Ab

/-
 Contracts of calls, and what a call's results become in the caller's abstract heap.
-/
set_option linter.unusedVariables false
set_option linter.unusedSimpArgs false
namespace Go.Ab
open Go

def RoundOk (P:Program)(l:Nat)(fn:FuncId)(tmps:Array Value)(as bd:Code)(w:World)(K:Value→World→Prop):Prop:=
 ∀(c:Frame) (cs:List Frame),∃v w',K v w'∧Steps P (lone (Frame.round l fn tmps as bd .normal) (c::cs) w) (lone (c.finish v) cs w')

def NextOk (P:Program)(r:Result Next)(K:Value→World→Prop):Prop:=
 (∃nx y w',r=.ok nx w'∧(nx=.value y∨(nx=.skip∧y=undef))∧K y w')∨
 (∃f args w1,r=.ok (.enter f args) w1∧Calls P f args w1 fun e w'=>∃v,e=.returned v∧K v w')∨
 (∃l fn tmps as bd w1,r=.ok (.round l fn tmps as bd) w1∧RoundOk P l fn tmps as bd w1 K)

theorem NextOk.mono {P:Program}{r:Result Next}{K K':Value→World→Prop}(h:NextOk P r K)(hk:∀v w,K v w→K' v w):NextOk P r K':=by
 rcases h with⟨nx,y,w',h1,h2,h3⟩|⟨f,args,w1,h1,h2⟩|⟨l,fn,tmps,as,bd,w1,h1,h2⟩
 ·exact .inl ⟨nx,y,w',h1,h2,hk _ _ h3⟩
 ·exact .inr (.inl ⟨f,args,w1,h1,h2.mono fun e w' ⟨v,e1,e2⟩=>⟨v,e1,hk _ _ e2⟩⟩)
 ·exact .inr (.inr ⟨l,fn,tmps,as,bd,w1,h1,fun c cs=>by obtain⟨v,w',k1,k2⟩:=h2 c cs;exact⟨v,w',hk _ _ k1,k2⟩⟩)

def CallOk (P:Program)(f:FuncId)(args:Array Value)(w:World)(R:Value→World→Prop):Prop:=NextOk P ((callFunc f args).run P w) R

def hsH (hs:List Blk):Nat→Option HO:=fun j=>(hs[j]?).map HO.blk
def noR:Nat→Option Nat:=fun _=>none
def noH:Nat→Option HO:=fun _=>none

def SpecP (P:Program)(G:GL)(f:Nat)(args:List AV)(ret:AV)(hs:List Blk):Prop:=
 ∀(F:Nat→Prop) (w:World) (vs:Array Value),MRel G F noR noH w→RelIs w F args vs.toList→
  CallOk P f vs w fun v w'=>∃F' ρ',MRel G F' ρ' (hsH hs) w'∧Ext G F noR w F' ρ' w'∧RelV w' F' ρ' (hsH hs) ret v

def KD (G:GL)(F:Nat→Prop)(ρ:Nat→Option Nat)(H:Nat→Option HO)(w:World)(D:Delta)(y:Value)(w':World):Prop:=
 ∃F' ρ',MRel G F' ρ' (updL H D.ws) w'∧Ext G F ρ w F' ρ' w'∧HKeep w ρ H w' ρ' (updL H D.ws)∧RelV w' F' ρ' (updL H D.ws) D.v y

def TgtOk (P:Program)(ρ:Nat→Option Nat)(cv:AV)(xs:Array Value)(w:World)(K:Value→World→Prop):Prop:=
 match cv with
 |.fn f _ _=>CallOk P f xs w K
 |.yld id=>∀b,ρ id=some b→NextOk P ((Instr.yield b xs).run P w) K
 |_=>False
def SpecD (P:Program)(G:GL)(cv:AV)(args:List AV)(h:List (Nat×HO))(v:AV)(ws:List (Nat×HO))(al:List Nat):Prop:=
 ∀(F:Nat→Prop) (ρ:Nat→Option Nat) (w:World) (xs:Array Value),MRel G F ρ (aget h) w→RelVs w F ρ (aget h) args xs.toList→
  TgtOk P ρ cv xs w (KD G F ρ (aget h) w {v,ws,al,cs:=[]})
def SpecQ (P:Program)(G:GL):SpT:=fun cv args o v hs=>
 match o with
 |none=>match cv with
  |.fn f _ _=>SpecP P G f args v hs
  |_=>False
 |some (h,ws,al)=>SpecD P G cv args h v ws al

theorem MRel.bare {G:GL}{F:Nat→Prop}{ρ:Nat→Option Nat}{H:Nat→Option HO}{w:World}(hm:MRel G F ρ H w):MRel G F noR noH w:=
 ⟨(fun id o h=>by cases h),(fun id b h=>by cases h),(fun i j b h=>by cases h),(fun id b h=>by cases h),hm.frz,hm.glob⟩

mutual
theorem RelI.shift {w:World}{F:Nat→Prop}(base:Nat):∀{v:AV} {x:Value},RelI w F v x→RelI w F (shiftV base v) x
 |_,_,.undef x=>.undef x
 |_,_,.bool b=>.bool b
 |_,_,.int k n=>.int k n
 |_,_,.str l s h=>.str l s h
 |_,_,.nilp=>.nilp
 |_,_,.nils=>.nils
 |_,_,.nilf=>.nilf
 |_,_,.nili=>.nili
 |_,_,.nn a l c=>.nn a l c
 |_,_,.iptr c b o xs hF hc hr ho=>.iptr c b o xs hF hc hr ho
 |_,_,.imm c len cap b o cap' xs hF hc hr ho hl hcap=>.imm c len cap b o cap' xs hF hc hr ho hl hcap
 |_,_,.imm0 c cap x hc hcap=>.imm0 c cap x hc hcap
 |_,_,.fn f l1 l2 x1 x2 h1 h2=>.fn f _ _ x1 x2 (h1.shift base) (h2.shift base)
 |_,_,.agg l x h=>.agg _ x (h.shift base)
 |_,_,.tup l x h=>.tup _ x (h.shift base)
 |_,_,.may b v x h hn=>.may b _ x (fun hb=>(h hb).shift base) hn
 |_,_,.iface t v x h=>.iface t _ x (h.shift base)
theorem RelIs.shift {w:World}{F:Nat→Prop}(base:Nat):∀{l:List AV} {xs:List Value},RelIs w F l xs→RelIs w F (shiftL base l) xs
 |_,_,.nil=>.nil
 |_,_,.cons v l x xs h hs=>.cons _ _ x xs (h.shift base) (hs.shift base)
end

def shB (base:Nat)(b:Blk):Blk:={b with c:=shiftC base b.c}

theorem updL_shift (base:Nat):∀(hs:List Blk) (j:Nat) (H:Nat→Option HO) (i:Nat),
  updL H (shiftH base j hs) i=if base+j≤i∧i<base+j+hs.length then(hs[i-(base+j)]?).map (fun b=>.blk (shB base b))else H i
 |[],j,H,i=>by
  simp only[shiftH,updL]
  rw[if_neg (by simp)]
 |b::r,j,H,i=>by
  simp only[shiftH,updL]
  rw[updL_shift base r (j+1) _ i]
  by_cases h1:i=base+j
  ·subst h1
   rw[if_neg (by omega),if_pos (by simp),upd_same]
   simp[shB]
  ·by_cases h2:base+j≤i∧i<base+j+(b::r).length
   ·rw[if_pos h2,if_pos (by simp at h2;omega)]
    obtain⟨d,hd⟩:∃d,i-(base+j)=d+1:=⟨i-(base+j)-1,by omega⟩
    rw[hd,show i-(base+(j+1))=d by omega]
    simp
   ·rw[if_neg h2,if_neg (by simp at h2 ⊢; omega),upd_other _ _ h1]

section
variable {G:GL}{F F1:Nat→Prop}{ρ ρ1:Nat→Option Nat}{H:Nat→Option HO}{w w':World}

def joinR (ρ ρ1:Nat→Option Nat)(base n:Nat):Nat→Option Nat:=fun i=>if base≤i∧i<base+n then ρ1 (i-base)else ρ i

theorem joinR_in (ρ ρ1:Nat→Option Nat)(base n:Nat){i:Nat}(h:i<n):joinR ρ ρ1 base n (base+i)=ρ1 i:=by
 simp only[joinR];rw[if_pos (by omega)];congr 1;omega
theorem joinR_out (ρ ρ1:Nat→Option Nat)(base n:Nat){i:Nat}(h:¬ (base≤i∧i<base+n)):joinR ρ ρ1 base n i=ρ i:=by
 simp only[joinR];rw[if_neg h]

mutual
theorem RelV.shift {base:Nat}{hs:List Blk}{H2:Nat→Option HO}{ρ2:Nat→Option Nat}(hρ:∀i,i<hs.length→ρ2 (base+i)=ρ1 i)(hH:∀i b,hs[i]? =some b→H2 (base+i)=some (.blk (shB base b))):
  ∀{v:AV} {x:Value},RelV w F ρ1 (hsH hs) v x→RelV w F ρ2 H2 (shiftV base v) x
 |_,_,.imm v x hi=>.imm _ _ (hi.shift base)
 |_,_,.ptr id off b o hb hh hx=>by
  simp only[hsH,Option.map_eq_some_iff]at hh
  obtain⟨k,hk,rfl⟩:=hh
  have hlt:=(List.getElem?_eq_some_iff.1 hk).1
  exact .ptr (base+id) off b _ ((hρ id hlt).trans hb) (hH id k hk) hx
 |_,_,.ep id n off k x hh hle hp hx=>by
  simp only[hsH,Option.map_eq_some_iff]at hh
  obtain⟨k',hk,e⟩:=hh
  cases e
  have hlt:=(List.getElem?_eq_some_iff.1 hk).1
  refine .ep (base+id) n off (shB base k) x (hH id k hk) hle hp (fun e=>?_)
  obtain⟨b,hb,hxx⟩:=hx e
  exact⟨b,(hρ id hlt).trans hb,hxx⟩
 |_,_,.full id len k x hh hle hp hx=>by
  simp only[hsH,Option.map_eq_some_iff]at hh
  obtain⟨k',hk,e⟩:=hh
  cases e
  have hlt:=(List.getElem?_eq_some_iff.1 hk).1
  refine .full (base+id) len (shB base k) x (hH id k hk) hle hp (fun e=>?_)
  rcases hx e with h|h|⟨h1,b,cap,cs,ty,fz,h2,h3⟩
  ·exact .inl h
  ·exact .inr (.inl h)
  ·exact .inr (.inr ⟨h1,b,cap,cs,ty,fz,(hρ id hlt).trans h2,h3⟩)
 |_,_,.sl id off len cap b k hb hh hx hlc=>by
  simp only[hsH,Option.map_eq_some_iff]at hh
  obtain⟨k',hk,e⟩:=hh
  cases e
  have hlt:=(List.getElem?_eq_some_iff.1 hk).1
  exact .sl (base+id) off len cap b (shB base k) ((hρ id hlt).trans hb) (hH id k hk) hx hlc
 |_,_,.fn f l1 l2 x1 x2 h1 h2=>.fn f _ _ x1 x2 (RelVs.shift hρ hH h1) (RelVs.shift hρ hH h2)
 |_,_,.agg l x hl=>.agg _ x (RelVs.shift hρ hH hl)
 |_,_,.tup l x hl=>.tup _ x (RelVs.shift hρ hH hl)
 |_,_,.may b v x hb hn=>.may b _ x (fun e=>RelV.shift hρ hH (hb e)) hn
 |_,_,.iface t v x hv=>.iface t _ x (RelV.shift hρ hH hv)
 |_,_,.yld id b o hb hh hx=>by
  obtain⟨hlt,k,hk⟩:id<hs.length∧∃k,hs[id]? =some k:=by
   simp only[hsH,Option.map_eq_some_iff]at hh
   obtain⟨k,hk,_⟩:=hh
   exact⟨(List.getElem?_eq_some_iff.1 hk).1,k,hk⟩
  have ho:o=.blk k:=by simp only[hsH,hk,Option.map_some]at hh;cases hh;rfl
  subst ho
  exact .yld (base+id) b _ ((hρ id hlt).trans hb) (hH id k hk) hx
 |_,_,.mp id b o hb hh hx=>by
  obtain⟨hlt,k,hk⟩:id<hs.length∧∃k,hs[id]? =some k:=by
   simp only[hsH,Option.map_eq_some_iff]at hh
   obtain⟨k,hk,_⟩:=hh
   exact⟨(List.getElem?_eq_some_iff.1 hk).1,k,hk⟩
  have ho:o=.blk k:=by simp only[hsH,hk,Option.map_some]at hh;cases hh;rfl
  subst ho
  exact .mp (base+id) b _ ((hρ id hlt).trans hb) (hH id k hk) hx
 |_,_,.spare id a l c hf=>.spare (base+id) a l c (RelV.shift hρ hH hf)
 |_,_,.vw id n sz off len k x hh hle hp hx=>by
  simp only[hsH,Option.map_eq_some_iff]at hh
  obtain⟨k',hk,e⟩:=hh
  cases e
  have hlt:=(List.getElem?_eq_some_iff.1 hk).1
  refine .vw (base+id) n sz off len (shB base k) x (hH id k hk) hle hp (fun e=>?_)
  obtain⟨g1,a,c,g2,g3⟩:=hx e
  refine⟨g1,a,c,?_,g3⟩
  rcases g2 with h|h|⟨h1,b,cap,cs,ty,fz,h2,h3⟩
  ·exact .inl h
  ·exact .inr (.inl h)
  ·exact .inr (.inr ⟨h1,b,cap,cs,ty,fz,(hρ id hlt).trans h2,h3⟩)
 |_,_,.fullc id len cap a hf=>.fullc (base+id) len cap a (RelV.shift hρ hH hf)
theorem RelVs.shift {base:Nat}{hs:List Blk}{H2:Nat→Option HO}{ρ2:Nat→Option Nat}(hρ:∀i,i<hs.length→ρ2 (base+i)=ρ1 i)(hH:∀i b,hs[i]? =some b→H2 (base+i)=some (.blk (shB base b))):
  ∀{l:List AV} {xs:List Value},RelVs w F ρ1 (hsH hs) l xs→RelVs w F ρ2 H2 (shiftL base l) xs
 |_,_,.nil=>.nil
 |_,_,.cons v l x xs hv hs'=>.cons _ _ x xs (RelV.shift hρ hH hv) (RelVs.shift hρ hH hs')
end

theorem shiftL_getD (base:Nat):∀(l:List AV) (i:Nat),(shiftL base l).getD i .undef=shiftV base (l.getD i .undef)
 |[],i=>by simp[shiftL,shiftV]
 |v::r,0=>by simp[shiftL]
 |v::r,i+1=>by simp only[shiftL,List.getD_cons_succ];exact shiftL_getD base r i
theorem shiftL_length (base:Nat):∀(l:List AV),(shiftL base l).length=l.length
 |[]=>rfl
 |v::r=>by simp[shiftL,shiftL_length base r]
theorem shiftC_size (base:Nat)(c:Cont):(shiftC base c).size=c.size:=by
 cases c<;>simp[shiftC,Cont.size,shiftL_length]

theorem shiftC_maps {base:Nat}{c:Cont}{kk vk:MV}{es:List (List Int×List Int×Nat)}{ck:Nat}(h:shiftC base c=.maps kk vk es ck):c=.maps kk vk es ck:=by
 cases c<;>first|exact h|cases h
theorem shiftC_nmap {base:Nat}{c:Cont}(h:(shiftC base c).isMap=false):c.isMap=false:=by
 cases c<;>first|rfl|cases h
theorem MRel.join {base:Nat}{hs:List Blk}(hm:MRel G F ρ H w)(hfresh:∀j,j<hs.length→H (base+j)=none)
  (hr:MRel G F1 ρ1 (hsH hs) w') (he:Ext G F noR w F1 ρ1 w'):
  ∃ρ2,MRel G F1 ρ2 (updL H (shiftH base 0 hs)) w'∧Ext G F ρ w F1 ρ2 w'∧HKeep w ρ H w' ρ2 (updL H (shiftH base 0 hs))∧
   ∀v x,RelV w' F1 ρ1 (hsH hs) v x→RelV w' F1 ρ2 (updL H (shiftH base 0 hs)) (shiftV base v) x:=by
 let ρ2:=joinR ρ ρ1 base hs.length
 have hold:∀b,b<w.heap.size→w'.heap[b]? =w.heap[b]? :=fun b hb=>he.same b hb (fun id h=>by cases h)
 have hwF:∀b,F b→w'.heap[b]? =w.heap[b]? :=he.frz
 have hnew:∀j b,ρ1 j=some b→w.heap.size≤b:=fun j b h=>(he.im j b h).resolve_left (fun⟨_,h⟩=>by cases h)
 have hF1:∀b,b<w.heap.size→F1 b→F b:=fun b hb h=>by
  rcases he.more b h with h|h|⟨id,h⟩
  ·exact h
  ·omega
  ·cases h
 have hin:∀i,i<hs.length→ρ2 (base+i)=ρ1 i:=fun i h=>joinR_in ρ ρ1 base hs.length h
 have hHin:∀i b,hs[i]? =some b→updL H (shiftH base 0 hs) (base+i)=some (.blk (shB base b)):=fun i b h=>by
  have hlt:=(List.getElem?_eq_some_iff.1 h).1
  rw[updL_shift,if_pos (by omega)]
  rw[show base+i-(base+0)=i by omega,h];rfl
 have hHout:∀i,¬ (base≤i∧i<base+hs.length)→updL H (shiftH base 0 hs) i=H i:=fun i h=>by
  rw[updL_shift,if_neg (by omega)]
 have hdomOut:∀id o,H id=some o→¬ (base≤id∧id<base+hs.length):=fun id o h hb=>by
  have:=hfresh (id-base) (by omega)
  rw[show base+(id-base)=id by omega,h]at this;cases this
 have hρout:∀id b,ρ id=some b→¬ (base≤id∧id<base+hs.length):=fun id b h=>by
  obtain⟨o,ho⟩:=hm.dom id b h;exact hdomOut id o ho
 have hdom1:∀j b,ρ1 j=some b→j<hs.length:=fun j b h=>by
  obtain⟨o,ho⟩:=hr.dom j b h
  simp only[hsH,Option.map_eq_some_iff]at ho
  obtain⟨k,hk,_⟩:=ho
  exact(List.getElem?_eq_some_iff.1 hk).1
 have hk:HKeep w ρ H w' ρ2 (updL H (shiftH base 0 hs)):=
  ⟨fun id o h1 h2=>⟨o,by rw[hHout id (hdomOut id o h1)];exact h1,h2,joinR_out _ _ _ _ (hdomOut id o h1)⟩,
   fun id k h1=>⟨k,by rw[hHout id (hdomOut id _ h1)];exact h1,rfl,Nat.le_refl _,fun _=>⟨rfl,rfl,.inl rfl,joinR_out _ _ _ _ (hdomOut id _ h1)⟩⟩,
   fun b cs ty fz hb=>⟨cs,ty,fz,(hold b (lt_of_some hb)).trans hb,rfl⟩⟩
 have shift:∀v x,RelV w' F1 ρ1 (hsH hs) v x→RelV w' F1 ρ2 (updL H (shiftH base 0 hs)) (shiftV base v) x:=fun v x h=>RelV.shift hin hHin h
 refine⟨ρ2,⟨fun id o h1=>?_,fun id b hb=>?_,fun i j b hi hj=>?_,fun id b hb=>?_,hr.frz,hr.glob⟩,⟨he.io,he.size,fun b hb hn=>hold b hb,hwF,he.keep,fun b hb=>?_,fun id b hb=>?_⟩,hk,shift⟩
 ·by_cases hc:base≤id∧id<base+hs.length
  ·obtain⟨j,rfl⟩:∃j,id=base+j:=⟨id-base,by omega⟩
   have hj:j<hs.length:=by omega
   have hjb:hs[j]? =some hs[j]:=List.getElem?_eq_getElem hj
   rw[hHin j _ hjb]at h1;cases h1
   have h2:=hr.heap j (.blk hs[j]) (by simp[hsH,hjb])
   obtain⟨g0,g1|⟨b,g1,g2⟩⟩:=h2
   ·exact⟨by simp only[shB,shiftC_size];exact g0,.inl ⟨g1.1,(hin j hj).trans g1.2⟩⟩
   ·refine⟨by simp only[shB,shiftC_size];exact g0,.inr ⟨b,(hin j hj).trans g1,⟨fun hnm=>?_,fun kk vk es ck e=>g2.mp kk vk es ck (shiftC_maps e),g2.mu,g2.fr⟩⟩⟩
    obtain⟨cs,ty,fz,q1,q2,q3,q4⟩:=g2.ex (shiftC_nmap hnm)
    refine⟨cs,ty,fz,q1,q2,by simp only[shB,shiftC_size];exact q3,fun i hi=>?_⟩
    simp only[shB,shiftC_size]at hi
    obtain⟨x,r1,r2⟩:=q4 i hi
    refine⟨x,r1,?_,r2.2⟩
    have r2:=r2.1
    cases hcc:hs[j].c with
    |cells l=>
     rw[hcc]at r2
     simp only[shB,hcc,shiftC]
     rw[shiftL_getD]
     exact shift _ _ r2
    |_=>rw[hcc]at r2;simp only[shB,hcc,shiftC];exact r2
  ·rw[hHout id hc]at h1
   exact(hm.heap id o h1).mono hwF he.keep hk (joinR_out _ _ _ _ hc) (fun b hb=>⟨hold b (hm.lt id b hb),hF1 b (hm.lt id b hb)⟩)
 ·by_cases hc:base≤id∧id<base+hs.length
  ·obtain⟨j,rfl⟩:∃j,id=base+j:=⟨id-base,by omega⟩
   have hj:j<hs.length:=by omega
   exact⟨_,hHin j _ (List.getElem?_eq_getElem hj)⟩
  ·have hb':ρ id=some b:=(joinR_out _ _ _ _ hc).symm.trans hb
   obtain⟨o,ho⟩:=hm.dom id b hb'
   exact⟨o,by rw[hHout id hc];exact ho⟩
 ·by_cases hci:base≤i∧i<base+hs.length<;>by_cases hcj:base≤j∧j<base+hs.length
  ·obtain⟨i',rfl⟩:∃i',i=base+i':=⟨i-base,by omega⟩
   obtain⟨j',rfl⟩:∃j',j=base+j':=⟨j-base,by omega⟩
   rw[hr.inj i' j' b ((hin i' (by omega)).symm.trans hi) ((hin j' (by omega)).symm.trans hj)]
  ·obtain⟨i',rfl⟩:∃i',i=base+i':=⟨i-base,by omega⟩
   have h1:=hnew i' b ((hin i' (by omega)).symm.trans hi)
   have h2:=hm.lt j b ((joinR_out _ _ _ _ hcj).symm.trans hj)
   omega
  ·obtain⟨j',rfl⟩:∃j',j=base+j':=⟨j-base,by omega⟩
   have h1:=hnew j' b ((hin j' (by omega)).symm.trans hj)
   have h2:=hm.lt i b ((joinR_out _ _ _ _ hci).symm.trans hi)
   omega
  ·exact hm.inj i j b ((joinR_out _ _ _ _ hci).symm.trans hi) ((joinR_out _ _ _ _ hcj).symm.trans hj)
 ·by_cases hc:base≤id∧id<base+hs.length
  ·obtain⟨j,rfl⟩:∃j,id=base+j:=⟨id-base,by omega⟩
   exact hr.lt j b ((hin j (by omega)).symm.trans hb)
  ·have:=hm.lt id b ((joinR_out _ _ _ _ hc).symm.trans hb)
   have:=he.size
   omega
 ·rcases he.more b hb with h|h|⟨id,h⟩
  ·exact .inl h
  ·exact .inr (.inl h)
  ·cases h
 ·by_cases hc:base≤id∧id<base+hs.length
  ·obtain⟨j,rfl⟩:∃j,id=base+j:=⟨id-base,by omega⟩
   exact .inr (hnew j b ((hin j (by omega)).symm.trans hb))
  ·exact .inl ⟨id,(joinR_out _ _ _ _ hc).symm.trans hb⟩

end
end Go.Ab

/-
 A part of the heap is known to a callee; what becomes of the whole.
-/
set_option linter.unusedVariables false
set_option linter.unusedSimpArgs false
namespace Go.Ab
open Go

theorem updL_nokey {H:Nat→Option HO}:∀{ws:List (Nat×HO)} {i:Nat},i∉keys ws→updL H ws i=H i
 |[],i,h=>rfl
 |(j,o)::r,i,h=>by
  simp only[keys,List.mem_cons,not_or]at h
  simp only[updL]
  rw[updL_nokey h.2,upd_other _ _ h.1]
theorem updL_key {A B:Nat→Option HO}:∀{ws:List (Nat×HO)} {i:Nat},i∈keys ws→updL A ws i=updL B ws i
 |[],i,h=>by simp[keys]at h
 |(j,o)::r,i,h=>by
  simp only[keys,List.mem_cons]at h
  simp only[updL]
  by_cases hr:i∈keys r
  ·exact updL_key hr
  ·rw[updL_nokey hr,updL_nokey hr]
   rcases h with rfl|h
   ·rw[upd_same,upd_same]
   ·exact absurd h hr
theorem updL_some {A:Nat→Option HO}:∀{ws:List (Nat×HO)} {i:Nat},i∈keys ws→∃o,updL A ws i=some o
 |[],i,h=>by simp[keys]at h
 |(j,o)::r,i,h=>by
  simp only[keys,List.mem_cons]at h
  simp only[updL]
  by_cases hr:i∈keys r
  ·exact updL_some hr
  ·rw[updL_nokey hr]
   rcases h with rfl|h
   ·exact⟨o,upd_same _ _ _⟩
   ·exact absurd h hr
theorem updL_dom {A:Nat→Option HO}{ws:List (Nat×HO)}{i:Nat}{o:HO}(h:A i=some o):∃o',updL A ws i=some o':=by
 by_cases hk:i∈keys ws
 ·exact updL_some hk
 ·exact⟨o,by rw[updL_nokey hk];exact h⟩

section
variable {P:Program}{G:GL}{F F1:Nat→Prop}{ρ ρ1:Nat→Option Nat}{H H1:Nat→Option HO}{w w':World}

mutual
theorem RelV.move {D:Nat→Prop}(hd:∀i,D i→H1 i=H i∧ρ1 i=ρ i):∀{v:AV} {x:Value},RelV w F ρ H v x→(∀i,i∈refsV v→D i)→RelV w F ρ1 H1 v x
 |_,_,.imm v x hi,_=>.imm v x hi
 |_,_,.ptr id off b o hb hh hx,hk=>by
  obtain⟨h1,h2⟩:=hd id (hk id (by simp[refsV]));exact .ptr id off b o (h2.trans hb) (h1.trans hh) hx
 |_,_,.ep id n off k x hh hle hp hx,hk=>by
  obtain⟨h1,h2⟩:=hd id (hk id (by simp[refsV]))
  exact .ep id n off k x (h1.trans hh) hle hp (fun e=>by obtain⟨b,q1,q2⟩:=hx e;exact⟨b,h2.trans q1,q2⟩)
 |_,_,.full id len k x hh hle hp hx,hk=>by
  obtain⟨h1,h2⟩:=hd id (hk id (by simp[refsV]))
  refine .full id len k x (h1.trans hh) hle hp (fun e=>?_)
  rcases hx e with h|h|⟨q1,b,cap,cs,ty,fz,q2,q3⟩
  ·exact .inl h
  ·exact .inr (.inl h)
  ·exact .inr (.inr ⟨q1,b,cap,cs,ty,fz,h2.trans q2,q3⟩)
 |_,_,.sl id off len cap b k hb hh hx hlc,hk=>by
  obtain⟨h1,h2⟩:=hd id (hk id (by simp[refsV]));exact .sl id off len cap b k (h2.trans hb) (h1.trans hh) hx hlc
 |_,_,.fn f l1 l2 x1 x2 h1 h2,hk=>.fn f l1 l2 x1 x2 (RelVs.move hd h1 (fun i hi=>hk i (by simp[refsV,hi]))) (RelVs.move hd h2 (fun i hi=>hk i (by simp[refsV,hi])))
 |_,_,.agg l x hl,hk=>.agg l x (RelVs.move hd hl (fun i hi=>hk i (by simpa[refsV]using hi)))
 |_,_,.tup l x hl,hk=>.tup l x (RelVs.move hd hl (fun i hi=>hk i (by simpa[refsV]using hi)))
 |_,_,.may b v x hb hn,hk=>.may b v x (fun e=>RelV.move hd (hb e) (fun i hi=>hk i (by simpa[refsV]using hi))) hn
 |_,_,.iface t v x hv,hk=>.iface t v x (RelV.move hd hv (fun i hi=>hk i (by simpa[refsV]using hi)))
 |_,_,.yld id b o hb hh hx,hk=>by
  obtain⟨h1,h2⟩:=hd id (hk id (by simp[refsV]));exact .yld id b o (h2.trans hb) (h1.trans hh) hx
 |_,_,.mp id b o hb hh hx,hk=>by
  obtain⟨h1,h2⟩:=hd id (hk id (by simp[refsV]));exact .mp id b o (h2.trans hb) (h1.trans hh) hx
 |_,_,.spare id a l c hf,hk=>.spare id a l c (RelV.move hd hf (fun i hi=>hk i (by simpa[refsV]using hi)))
 |_,_,.vw id n sz off len k x hh hle hp hx,hk=>by
  obtain⟨h1,h2⟩:=hd id (hk id (by simp[refsV]))
  refine .vw id n sz off len k x (h1.trans hh) hle hp (fun e=>?_)
  obtain⟨g1,a,c,g2,g3⟩:=hx e
  refine⟨g1,a,c,?_,g3⟩
  rcases g2 with h|h|⟨q1,b,cap,cs,ty,fz,q2,q3⟩
  ·exact .inl h
  ·exact .inr (.inl h)
  ·exact .inr (.inr ⟨q1,b,cap,cs,ty,fz,h2.trans q2,q3⟩)
 |_,_,.fullc id len cap a hf,hk=>.fullc id len cap a (RelV.move hd hf (fun i hi=>hk i (by simpa[refsV]using hi)))
theorem RelVs.move {D:Nat→Prop}(hd:∀i,D i→H1 i=H i∧ρ1 i=ρ i):∀{l:List AV} {xs:List Value},RelVs w F ρ H l xs→(∀i,i∈refsL l→D i)→RelVs w F ρ1 H1 l xs
 |_,_,.nil,_=>.nil
 |_,_,.cons v l x xs hv hs,hk=>.cons v l x xs (RelV.move hd hv (fun i hi=>hk i (by simp[refsL,hi]))) (RelVs.move hd hs (fun i hi=>hk i (by simp[refsL,hi])))
end
mutual
theorem RelV.more (hd:∀i o,H i=some o→H1 i=some o∧ρ1 i=ρ i):∀{v:AV} {x:Value},RelV w F ρ H v x→RelV w F ρ1 H1 v x
 |_,_,.imm v x hi=>.imm v x hi
 |_,_,.ptr id off b o hb hh hx=>by
  obtain⟨h1,h2⟩:=hd id o hh;exact .ptr id off b o (h2.trans hb) h1 hx
 |_,_,.ep id n off k x hh hle hp hx=>by
  obtain⟨h1,h2⟩:=hd id _ hh
  exact .ep id n off k x h1 hle hp (fun e=>by obtain⟨b,q1,q2⟩:=hx e;exact⟨b,h2.trans q1,q2⟩)
 |_,_,.full id len k x hh hle hp hx=>by
  obtain⟨h1,h2⟩:=hd id _ hh
  refine .full id len k x h1 hle hp (fun e=>?_)
  rcases hx e with h|h|⟨q1,b,cap,cs,ty,fz,q2,q3⟩
  ·exact .inl h
  ·exact .inr (.inl h)
  ·exact .inr (.inr ⟨q1,b,cap,cs,ty,fz,h2.trans q2,q3⟩)
 |_,_,.sl id off len cap b k hb hh hx hlc=>by
  obtain⟨h1,h2⟩:=hd id _ hh;exact .sl id off len cap b k (h2.trans hb) h1 hx hlc
 |_,_,.fn f l1 l2 x1 x2 h1 h2=>.fn f l1 l2 x1 x2 (RelVs.more hd h1) (RelVs.more hd h2)
 |_,_,.agg l x hl=>.agg l x (RelVs.more hd hl)
 |_,_,.tup l x hl=>.tup l x (RelVs.more hd hl)
 |_,_,.may b v x hb hn=>.may b v x (fun e=>RelV.more hd (hb e)) hn
 |_,_,.iface t v x hv=>.iface t v x (RelV.more hd hv)
 |_,_,.yld id b o hb hh hx=>by
  obtain⟨h1,h2⟩:=hd id o hh;exact .yld id b o (h2.trans hb) h1 hx
 |_,_,.mp id b o hb hh hx=>by
  obtain⟨h1,h2⟩:=hd id o hh;exact .mp id b o (h2.trans hb) h1 hx
 |_,_,.spare id a l c hf=>.spare id a l c (RelV.more hd hf)
 |_,_,.vw id n sz off len k x hh hle hp hx=>by
  obtain⟨h1,h2⟩:=hd id _ hh
  refine .vw id n sz off len k x h1 hle hp (fun e=>?_)
  obtain⟨g1,a,c,g2,g3⟩:=hx e
  refine⟨g1,a,c,?_,g3⟩
  rcases g2 with h|h|⟨q1,b,cap,cs,ty,fz,q2,q3⟩
  ·exact .inl h
  ·exact .inr (.inl h)
  ·exact .inr (.inr ⟨q1,b,cap,cs,ty,fz,h2.trans q2,q3⟩)
 |_,_,.fullc id len cap a hf=>.fullc id len cap a (RelV.more hd hf)
theorem RelVs.more (hd:∀i o,H i=some o→H1 i=some o∧ρ1 i=ρ i):∀{l:List AV} {xs:List Value},RelVs w F ρ H l xs→RelVs w F ρ1 H1 l xs
 |_,_,.nil=>.nil
 |_,_,.cons v l x xs hv hs=>.cons v l x xs (RelV.more hd hv) (RelVs.more hd hs)
end

theorem refsL_getD:∀{l:List AV} {i j:Nat},j∈refsV (l.getD i .undef)→j∈refsL l
 |[],i,j,h=>by simp[refsV]at h
 |v::r,0,j,h=>by simp[refsL];left;simpa using h
 |v::r,i+1,j,h=>by
  simp only[List.getD_cons_succ]at h
  simp only[refsL,List.mem_append]
  exact .inr (refsL_getD h)
theorem refsT_get:∀{l:List (Nat×AV)} {t:Nat} {v:AV} {j:Nat},aget l t=some v→j∈refsV v→j∈refsT l
 |[],t,v,j,h,hj=>by cases h
 |(k,u)::r,t,v,j,h,hj=>by
  simp only[aget]at h
  simp only[refsT,List.mem_append]
  by_cases e:k=t
  ·subst e;rw[beq_self,cond_true]at h;cases h;exact .inl hj
  ·rw[beq_ne e,cond_false]at h;exact .inr (refsT_get h hj)

theorem RelO.tr {id:Nat}{o:HO}(hv:∀(v:AV) (x:Value),(∀i,i∈refsV v→i∈refsH (some o))→RelV w F ρ H v x→RelV w F ρ1 H1 v x)(hρ:ρ1 id=ρ id)
  (hr:RelO G w F ρ H id o):RelO G w F ρ1 H1 id o:=by
 cases o with
 |blk k=>
  obtain⟨h0,h1|⟨b,h1,h2⟩⟩:=hr
  ·exact⟨h0,.inl ⟨h1.1,hρ.trans h1.2⟩⟩
  ·refine⟨h0,.inr ⟨b,hρ.trans h1,⟨fun hnm=>?_,h2.mp,h2.mu,h2.fr⟩⟩⟩
   obtain⟨cs,ty,fz,q1,q2,q3,q4⟩:=h2.ex hnm
   refine⟨cs,ty,fz,q1,q2,q3,fun i hi=>?_⟩
   obtain⟨x,g1,g2⟩:=q4 i hi
   refine⟨x,g1,?_,g2.2⟩
   have g2:=g2.1
   cases hc:k.c with
   |cells l=>
    rw[hc]at g2
    exact hv _ _ (fun j hj=>by simp only[refsH,hc,refsC];exact refsL_getD hj) g2
   |_=>rw[hc]at g2;exact g2
 |iter s p=>
  obtain⟨b,h1,h2⟩:=hr
  exact⟨b,hρ.trans h1,h2⟩
 |loop l=>
  obtain⟨b,h1,h2,r,h3,h4⟩:=hr
  exact⟨b,hρ.trans h1,h2,r,h3,⟨h4.st,h4.pend,h4.size,fun t v e=>hv _ _ (fun j hj=>by simp only[refsH];exact refsT_get e hj) (h4.tmps t v e),h4.ps,h4.as,h4.bd⟩⟩

theorem allIn_ok:∀{a l:List Nat},allIn a l=true→∀i,i∈a→i∈l
 |[],l,h,i,hi=>by simp at hi
 |x::r,l,h,i,hi=>by
  simp only[allIn,cond_eq_ite]at h
  split at h
  ·rename_i hm
   rcases List.mem_cons.1 hi with rfl|hi
   ·clear h
    induction l with
    |nil=>simp[memN]at hm
    |cons y l ih=>
     simp only[memN,cond_eq_ite]at hm
     split at hm
     ·rename_i e;rw[Nat.eq_of_beq_eq_true e];simp
     ·exact List.mem_cons_of_mem _ (ih hm)
   ·exact allIn_ok h i hi
  ·cases h
theorem noneIn_ok':∀{a l:List Nat},noneIn a l=true→∀i,i∈a→i∉l
 |[],l,h,i,hi=>by simp at hi
 |x::r,l,h,i,hi=>by
  simp only[noneIn,cond_eq_ite]at h
  split at h
  ·cases h
  ·rename_i hm
   rcases List.mem_cons.1 hi with rfl|hi
   ·intro hmem
    apply hm
    clear h hm
    induction l with
    |nil=>simp at hmem
    |cons y l ih=>
     simp only[memN,cond_eq_ite]
     split
     ·rfl
     ·rename_i e
      rcases List.mem_cons.1 hmem with rfl|hmem
      ·exact absurd (beq_self _) e
      ·exact ih hmem
   ·exact noneIn_ok' h i hi
theorem key_aget {α:Type}:∀{l:List (Nat×α)} {i:Nat},i∈keys l↔∃o,aget l i=some o
 |[],i=>by simp[keys,aget]
 |(k,v)::r,i=>by
  simp only[keys,List.mem_cons,aget]
  by_cases e:k=i
  ·subst e;rw[beq_self,cond_true];simp
  ·rw[beq_ne e,cond_false,← key_aget]
   exact⟨fun h=>h.resolve_left (fun h=>e h.symm),.inr⟩
theorem aget_mem {α:Type}:∀{l:List (Nat×α)} {i:Nat} {o:α},aget l i=some o→(i,o)∈l
 |[],i,o,h=>by cases h
 |(k,v)::r,i,o,h=>by
  simp only[aget]at h
  by_cases e:k=i
  ·subst e;rw[beq_self,cond_true]at h;cases h;simp
  ·rw[beq_ne e,cond_false]at h;exact List.mem_cons_of_mem _ (aget_mem h)
theorem closedH_ok {ks:List Nat}:∀{h:List (Nat×HO)},closedH ks h=true→∀i o,(i,o)∈h→∀j,j∈refsH (some o)→j∈ks
 |[],hc,i,o,hi=>by simp at hi
 |(k,u)::r,hc,i,o,hi=>by
  simp only[closedH,cond_eq_ite]at hc
  split at hc
  ·rename_i ha
   rcases List.mem_cons.1 hi with e|hi
   ·cases e;exact allIn_ok ha
   ·exact closedH_ok hc i o hi
  ·cases hc

def partR (h:List (Nat×HO))(ρ:Nat→Option Nat):Nat→Option Nat:=fun i=>if i∈keys h then ρ i else none

theorem MRel.part {h:List (Nat×HO)}(hm:MRel G F ρ H w)(hsub:∀id o,aget h id=some o→H id=some o)(hcl:closedH (keys h) h=true):
  MRel G F (partR h ρ) (aget h) w:=by
 have hin:∀i,i∈keys h→partR h ρ i=ρ i:=fun i hi=>by simp[partR,hi]
 have hpr:∀i b,partR h ρ i=some b→i∈keys h∧ρ i=some b:=fun i b e=>by
  simp only[partR]at e
  split at e
  ·exact⟨by assumption,e⟩
  ·cases e
 refine⟨fun id o ho=>?_,fun id b hb=>key_aget.1 (hpr id b hb).1,fun i j b hi hj=>hm.inj i j b (hpr i b hi).2 (hpr j b hj).2,fun id b hb=>hm.lt id b (hpr id b hb).2,hm.frz,hm.glob⟩
 have hk:id∈keys h:=key_aget.2 ⟨o,ho⟩
 refine(hm.heap id o (hsub id o ho)).tr (fun v x hv hr=>RelV.move (D:=fun i=>i∈keys h) (fun i hi=>⟨?_,hin i hi⟩) hr (fun i hi=>closedH_ok hcl id o (aget_mem ho) i (hv i hi))) (hin id hk)
 obtain⟨o',ho'⟩:=key_aget.1 hi
 rw[ho',hsub i o' ho']

theorem KD.frame {h:List (Nat×HO)}{D:Delta}{y:Value}(hm:MRel G F ρ H w)(hsub:∀id o,aget h id=some o→H id=some o)
  (hws:∀i,i∈keys D.ws→i∈keys h∨i∈D.al) (hal:∀i,i∈D.al→H i=none) (hk:KD G F (partR h ρ) (aget h) w D y w'):KD G F ρ H w D y w':=by
 obtain⟨F',ρ',q1,q2,q3,q4⟩:=hk
 have hin:∀i,i∈keys h→partR h ρ i=ρ i:=fun i hi=>by simp[partR,hi]
 have hpr:∀i b,partR h ρ i=some b→i∈keys h∧ρ i=some b:=fun i b e=>by
  simp only[partR]at e
  split at e
  ·exact⟨by assumption,e⟩
  ·cases e
 generalize hHs:updL (aget h) D.ws=Hs at q1 q3 q4
 unfold KD
 generalize hH2:updL H D.ws=H2
 have hdom:∀i,i∈keys h→∃o,Hs i=some o:=fun i hi=>by
  obtain⟨o,ho⟩:=key_aget.1 hi
  rw[← hHs];exact updL_dom ho
 have hsame:∀i o,Hs i=some o→H2 i=some o:=fun i o ho=>by
  rw[← hHs]at ho;rw[← hH2]
  by_cases hi:i∈keys D.ws
  ·rw[updL_key (B:=aget h) hi];exact ho
  ·rw[updL_nokey hi]at ho ⊢; exact hsub i o ho
 have hout:∀i,Hs i=none→H2 i=H i∧i∉keys h:=fun i ho=>by
  refine⟨?_,fun hi=>by obtain⟨o,h'⟩:=hdom i hi;rw[h']at ho;cases ho⟩
  rw[← hH2]
  refine updL_nokey (fun hi=>?_)
  obtain⟨o,h'⟩:=updL_some (A:=aget h) hi
  rw[hHs,ho]at h';cases h'
 have hnew:∀i o,H i=some o→i∉keys h→Hs i=none:=fun i o ho hi=>by
  rw[← hHs]
  have hnk:i∉keys D.ws:=fun hk=>by
   rcases hws i hk with h'|h'
   ·exact hi h'
   ·rw[hal i h']at ho;cases ho
  rw[updL_nokey hnk]
  cases e:aget h i with
  |none=>rfl
  |some o'=>exact absurd (key_aget.2 ⟨o',e⟩) hi
 let ρ2:Nat→Option Nat:=fun i=>match Hs i with|some _=>ρ' i|none=>ρ i
 have r2in:∀i o,Hs i=some o→ρ2 i=ρ' i:=fun i o e=>by simp only[ρ2,e]
 have r2out:∀i,Hs i=none→ρ2 i=ρ i:=fun i e=>by simp only[ρ2,e]
 have hρ':∀i b,ρ' i=some b→∃o,Hs i=some o:=fun i b e=>q1.dom i b e
 have hlift:∀{v:AV} {x:Value},RelV w' F' ρ' Hs v x→RelV w' F' ρ2 H2 v x:=fun hv=>RelV.more (fun i o e=>⟨hsame i o e,r2in i o e⟩) hv
 have hkeep:HKeep w ρ H w' ρ2 H2:=by
  refine⟨fun id o h1 h2=>?_,fun id k h1=>?_,q3.sz⟩
  ·by_cases hi:id∈keys h
   ·obtain⟨o',ho'⟩:=key_aget.1 hi
    have e:=hsub id o' ho'
    rw[h1]at e;cases e
    obtain⟨o2,g1,g2,g3⟩:=q3.box id o ho' h2
    exact⟨o2,hsame _ _ g1,g2,(r2in _ _ g1).trans (g3.trans (hin id hi))⟩
   ·have hn:=hnew id o h1 hi
    exact⟨o,by rw[(hout id hn).1];exact h1,h2,r2out id hn⟩
  ·by_cases hi:id∈keys h
   ·obtain⟨o',ho'⟩:=key_aget.1 hi
    have e:=hsub id o' ho'
    rw[h1]at e;cases e
    obtain⟨k2,g1,g2,g3,g4⟩:=q3.blk id k ho'
    refine⟨k2,hsame _ _ g1,g2,g3,fun e=>?_⟩
    obtain⟨p1,p2,p3,p4⟩:=g4 e
    exact⟨p1,p2,p3,(r2in _ _ g1).trans (p4.trans (hin id hi))⟩
   ·have hn:=hnew id _ h1 hi
    exact⟨k,by rw[(hout id hn).1];exact h1,rfl,Nat.le_refl _,fun _=>⟨rfl,rfl,.inl rfl,r2out id hn⟩⟩
 have hext:Ext G F ρ w F' ρ2 w':=by
  refine⟨q2.io,q2.size,fun b hb hn=>q2.same b hb (fun id e=>hn id (hpr id b e).2),q2.frz,q2.keep,fun b hb=>?_,fun id b hb=>?_⟩
  ·rcases q2.more b hb with h'|h'|⟨id,h'⟩
   ·exact .inl h'
   ·exact .inr (.inl h')
   ·exact .inr (.inr ⟨id,(hpr id b h').2⟩)
  ·cases e:Hs id with
   |none=>exact .inl ⟨id,(r2out id e).symm.trans hb⟩
   |some o=>
    rcases q2.im id b ((r2in id o e).symm.trans hb)with⟨id',h'⟩|h'
    ·exact .inl ⟨id',(hpr id' b h').2⟩
    ·exact .inr h'
 refine⟨F',ρ2,⟨fun id o ho=>?_,fun id b hb=>?_,fun i j b hi hj=>?_,fun id b hb=>?_,q1.frz,q1.glob⟩,hext,hkeep,hlift q4⟩
 ·cases e:Hs id with
  |some o'=>
   have:=hsame id o' e
   rw[ho]at this;cases this
   exact(q1.heap id o e).tr (fun v x _ hr=>hlift hr) (r2in id o e)
  |none=>
   obtain⟨h1,h2⟩:=hout id e
   rw[h1]at ho
   refine(hm.heap id o ho).mono q2.frz q2.keep hkeep (r2out id e) (fun b hb=>?_)
   have hnp:∀id',partR h ρ id'≠some b:=fun id' e'=>by
    obtain⟨g1,g2⟩:=hpr id' b e'
    exact h2 (hm.inj id id' b hb g2▸g1)
   refine⟨q2.same b (hm.lt id b hb) hnp,fun hf=>?_⟩
   rcases q2.more b hf with h'|h'|⟨id',h'⟩
   ·exact h'
   ·have:=hm.lt id b hb;omega
   ·exact absurd h' (hnp id')
 ·cases e:Hs id with
  |some o=>exact⟨o,hsame id o e⟩
  |none=>
   obtain⟨o,ho⟩:=hm.dom id b ((r2out id e).symm.trans hb)
   exact⟨o,by rw[(hout id e).1];exact ho⟩
 ·have mixed:∀i j o,Hs i=some o→Hs j=none→ρ' i=some b→ρ j=some b→i=j:=fun i j o ei ej hi hj=>by
   exfalso
   rcases q2.im i b hi with⟨id',h'⟩|h'
   ·obtain⟨g1,g2⟩:=hpr id' b h'
    have:=hm.inj j id' b hj g2
    subst this
    exact(hout j ej).2 g1
   ·have:=hm.lt j b hj;omega
  cases ei:Hs i with
  |some o=>
   rw[r2in i o ei]at hi
   cases ej:Hs j with
   |some o'=>rw[r2in j o' ej]at hj;exact q1.inj i j b hi hj
   |none=>rw[r2out j ej]at hj;exact mixed i j o ei ej hi hj
  |none=>
   rw[r2out i ei]at hi
   cases ej:Hs j with
   |some o'=>rw[r2in j o' ej]at hj;exact(mixed j i o' ej ei hj hi).symm
   |none=>rw[r2out j ej]at hj;exact hm.inj i j b hi hj
 ·cases e:Hs id with
  |some o=>rw[r2in id o e]at hb;exact q1.lt id b hb
  |none=>rw[r2out id e]at hb;exact Nat.lt_of_lt_of_le (hm.lt id b hb) q2.size

theorem readF_get {look:Nat→Option HO}:∀{l:List Nat} {i:Nat} {o:HO},aget (readF look l) i=some o→look i=some o
 |[],i,o,e=>by cases e
 |j::r,i,o,e=>by
  simp only[readF]at e
  split at e
  ·rename_i u hu
   simp only[aget]at e
   by_cases hj:j=i
   ·subst hj;rw[beq_self,cond_true]at e;cases e;exact hu
   ·rw[beq_ne hj,cond_false]at e;exact readF_get e
  ·exact readF_get e

theorem refsV_yld {id:Nat}:refsV (.yld id)=[id]:=rfl

theorem callD_sound (hm:MRel G F ρ H w){look:Nat→Option HO}(hl:∀id o,look id=some o→H id=some o){site:Nat}{tb:Nat→List (Nat×HO)→AV→List AV→Option Delta}{cv:AV}{vs:List AV}{D:Delta}
  (hD:opCallD site look tb cv vs=some D) (hc:AllC (SpecQ P G) D.cs) (hfresh:∀i,i∈D.al→H i=none) {xs:Array Value} (hv:RelVs w F ρ H vs xs.toList):TgtOk P ρ cv xs w (KD G F ρ H w D):=by
 unfold opCallD at hD
 simp only[cond_eq_ite]at hD
 split at hD
 ·rename_i hcl
  rw[Bool.and_eq_true]at hcl
  obtain⟨c1,c2⟩:=hcl
  generalize hh:readF look (reachW look 1000000 (refsV cv++refsL vs) [])=h at*
  have hsub:∀id o,aget h id=some o→H id=some o:=fun id o e=>hl id o (readF_get (by rw[hh];exact e))
  have hks:=allIn_ok c1
  split at hD
  ·rename_i D' hD'
   split at hD
   ·rename_i hw
    rw[Bool.and_eq_true]at hw
    have hws:∀i,i∈keys D'.ws→i∈keys h∨i∈D'.al:=fun i hi=>by simpa using allIn_ok hw.1 i hi
    cases hD
    have hsp:SpecD P G cv vs h D'.v D'.ws D'.al:=hc.1
    have hin:∀i,i∈keys h→aget h i=H i∧partR h ρ i=ρ i:=fun i hi=>by
     obtain⟨o,ho⟩:=key_aget.1 hi
     exact⟨by rw[ho,hsub i o ho],by simp[partR,hi]⟩
    have h1:=hsp F (partR h ρ) w xs (hm.part hsub c2) (RelVs.move (D:=fun i=>i∈keys h) hin hv (fun i hi=>hks i (by simp[hi])))
    have fin:∀(y:Value) (w':World),KD G F (partR h ρ) (aget h) w {v:=D'.v,ws:=D'.ws,al:=D'.al,cs:=[]} y w'→KD G F ρ H w {D' with cs:=.callD cv vs h D'.v D'.ws D'.al::D'.cs} y w':=fun y w' hk=>
     KD.frame (D:={D' with cs:=.callD cv vs h D'.v D'.ws D'.al::D'.cs}) hm hsub hws hfresh hk
    unfold TgtOk at h1 ⊢
    cases cv with
    |fn f a c=>exact h1.mono fin
    |yld id=>
     intro b hb
     refine(h1 b ?_).mono fin
     rw[(hin id (hks id (by simp[refsV_yld]))).2];exact hb
    |_=>exact h1
   ·cases hD
  ·cases hD
 ·cases hD

end
end Go.Ab

/-
 The model's operations, with the types' facts resolved; each does what its abstract effect says.
-/
set_option linter.unusedVariables false
set_option linter.unusedSimpArgs false
namespace Go.Ab
open Go

/-! ### Compilation -/

mutual
def compV:Nat→Value→Option AV
 |0,_=>none
 |n+1,v=>
  match v with
  |.bool b=>some (.bool b)
  |.int k x=>some (.int k x)
  |.string s=>some (.str s.data.toList)
  |.pointer none=>some .nilp
  |.slice none 0 0=>some .nils
  |.nilFunc=>some .nilf
  |.nilIface=>some .nili
  |.map none=>some .undef
  |.func (.func f) a c=>match compVs n a.toList,compVs n c.toList with
   |some a',some c'=>some (.fn f a' c')
   |_,_=>none
  |.agg xs=>match compVs n xs.toList with
   |some l=>some (.agg l)
   |none=>none
  |.tuple xs=>match compVs n xs.toList with
   |some l=>some (.tup l)
   |none=>none
  |_=>none
def compVs:Nat→List Value→Option (List AV)
 |0,_=>none
 |n+1,l=>
  match l with
  |[]=>some []
  |v::r=>match compV n v,compVs n r with
   |some v',some r'=>some (v'::r')
   |_,_=>none
end

theorem compV_sound (w:World)(F:Nat→Prop):∀n,(∀v a,compV n v=some a→RelI w F a v)∧(∀l a,compVs n l=some a→RelIs w F a l):=by
 intro n
 induction n with
 |zero=>exact⟨fun v a h=>by simp[compV]at h,fun l a h=>by simp[compVs]at h⟩
 |succ n ih=>
  obtain⟨ihV,ihL⟩:=ih
  refine⟨fun v a h=>?_,fun l a h=>?_⟩
  ·simp only[compV]at h
   split at h
   ·cases h;exact .bool _
   ·cases h;exact .int _ _
   ·cases h;exact .str _ _ rfl
   ·cases h;exact .nilp
   ·cases h;exact .nils
   ·cases h;exact .nilf
   ·cases h;exact .nili
   ·cases h;exact .undef _
   ·split at h
    ·rename_i h1 h2;cases h;exact .fn _ _ _ _ _ (ihL _ _ h1) (ihL _ _ h2)
    ·cases h
   ·split at h
    ·rename_i h1;cases h;exact .agg _ _ (ihL _ _ h1)
    ·cases h
   ·split at h
    ·rename_i h1;cases h;exact .tup _ _ (ihL _ _ h1)
    ·cases h
   ·cases h
  ·cases l with
   |nil=>simp only[compVs]at h;cases h;exact .nil
   |cons v r=>
    simp only[compVs]at h
    split at h
    ·rename_i h1 h2;cases h;exact .cons _ _ _ _ (ihV _ _ h1) (ihL _ _ h2)
    ·cases h

def compX:Operand→Option Opd
 |.tmp t=>some (.t t)
 |.const v=>match compV 12 v with|some a=>some (.c a)|none=>none
 |.global g=>some (.g g)
 |.func f=>some (.c (.fn f [] []))
def compXs:List Operand→Option (List Opd)
 |[]=>some []
 |x::r=>match compX x,compXs r with
  |some a,some b=>some (a::b)
  |_,_=>none
def compXo:Option Operand→Option (Option Opd)
 |none=>some none
 |some x=>match compX x with|some a=>some (some a)|none=>none

def aggOf (P:Program)(t:TypeId):Option (Option Nat):=
 match P.underlying t,P.info? t with
 |some d,some i=>some (cond (aggD d) (some i.size) none)
 |_,_=>none
def szOf (P:Program)(t:TypeId):Option Nat:=match P.info? t with|some i=>some i.size|none=>none
def kcode:IntKind→Nat
 |.i8=>1|.i16=>2|.i32=>3|.i64=>4|.u8=>5|.u16=>6|.u32=>7|.u64=>8
def tyCode (P:Program)(e:TypeId):Nat:=
 match P.underlying e with
 |some (.int k)=>kcode k
 |some .bool=>9
 |some .string=>10
 |_=>0
def allOne:List Value→Bool
 |[]=>true
 |v::r=>v.oneCell'&&allOne r
def zeroOf (P:Program)(t:TypeId):Option (List AV):=
 match P.info? t with
 |some i=>match i.zero with
  |some z=>cond (allOne z.cells.toList&&Nat.beq z.cells.size i.size) (compVs 12000 z.cells.toList) none
  |none=>none
 |none=>none
def elOf (P:Program)(e:TypeId):Option (Nat×Nat×List AV):=
 match P.info? e,zeroOf P e with
 |some i,some z=>cond (Nat.beq i.bytes 0) none (some (i.size,i.bytes,z))
 |_,_=>none

def compAlloc (P:Program)(t:TypeId):Option XOp:=
 match zeroOf P t with
 |some z=>match P.underlying t with
  |some (.array n e)=>match contOf (tyCode P e) z,szOf P e with
   |some c,some sz=>some (.new c n sz)
   |_,_=>none
  |_=>some (.new (.cells z) 1 z.length)
 |none=>none
def compLoad (P:Program)(t:TypeId)(a:Operand):Option XOp:=
 match aggOf P t,compX a with
 |some agg,some a=>some (.load agg a)
 |_,_=>none
def compStore (P:Program)(t:TypeId)(a x:Operand):Option XOp:=
 match szOf P t,compX a,compX x with
 |some sz,some a,some x=>some (.store sz a x)
 |_,_,_=>none
def isNilConst (kd:Nat):Operand→Bool
 |.const (.slice none 0 0)=>Nat.beq kd 0
 |.const .nilFunc=>Nat.beq kd 1
 |.const (.pointer none)=>Nat.beq kd 2
 |_=>false
def compEqa (P:Program)(neq:Bool)(t:TypeId)(x y:Operand):Option XOp:=
 match szOf P t,leavesT P 16 t 0,compX x,compX y with
 |some n,some ls,some a,some b=>cond (P.eqGuardType P.depth t) none (some (.eqa neq n ls a b))
 |_,_,_,_=>none
def compEq (P:Program)(neq:Bool)(t:TypeId)(x y:Operand):Option XOp:=
 match P.underlying t with
 |some (.int _)=>match compX x,compX y with
  |some a,some b=>some (.bin (cond neq .neq .eql) a b)
  |_,_=>none
 |some .string=>match compX x,compX y with
  |some a,some b=>some (.bin (cond neq .neq .eql) a b)
  |_,_=>none
 |some .bool=>match compX x,compX y with
  |some a,some b=>some (.eqb neq a b)
  |_,_=>none
 |some (.struct _)=>compEqa P neq t x y
 |some (.array _ _)=>compEqa P neq t x y
 |some (.slice _)=>cond (isNilConst 0 y) (match compX x with|some a=>some (.isnil neq 0 a)|none=>none) none
 |some (.func _ _ _)=>cond (isNilConst 1 y) (match compX x with|some a=>some (.isnil neq 1 a)|none=>none) none
 |some (.pointer _)=>cond (isNilConst 2 y) (match compX x with|some a=>some (.isnil neq 2 a)|none=>none) none
 |_=>none
def compBin (P:Program)(op:BinOp)(t:TypeId)(x y:Operand):Option XOp:=
 match op with
 |.eql=>compEq P false t x y
 |.neq=>compEq P true t x y
 |op=>match compX x,compX y with
  |some a,some b=>some (.bin op a b)
  |_,_=>none
def compConv (P:Program)(src dst:TypeId)(x:Operand):Option XOp:=
 match P.underlying src,P.underlying dst,compX x with
 |some (.int _),some (.int k),some a=>some (.conv k a)
 |_,_,_=>none
def compFieldA (P:Program)(t:TypeId)(x:Operand)(ix:Nat):Option XOp:=
 match P.underlying t with
 |some (.struct fs)=>match fs[ix]? with
  |some f=>match szOf P f.type,compX x with
   |some n,some a=>cond (Nat.beq n 0) none (some (.fieldA f.offset a))
   |_,_=>none
  |none=>none
 |_=>none
def compField (P:Program)(t:TypeId)(x:Operand)(ix:Nat):Option XOp:=
 match P.underlying t with
 |some (.struct fs)=>match fs[ix]? with
  |some f=>match aggOf P f.type,compX x with
   |some agg,some a=>some (.field f.offset agg a)
   |_,_=>none
  |none=>none
 |_=>none
def compIdxA (P:Program)(t:TypeId)(x i:Operand):Option XOp:=
 match P.underlying t with
 |some (.slice e)=>match szOf P e,compX x,compX i with
  |some sz,some a,some b=>some (.idxA none sz a b)
  |_,_,_=>none
 |some (.array n e)=>match szOf P e,compX x,compX i with
  |some sz,some a,some b=>some (.idxA (some n) sz a b)
  |_,_,_=>none
 |_=>none
def compIdx (P:Program)(t:TypeId)(x i:Operand):Option XOp:=
 match P.underlying t with
 |some (.array n e)=>match szOf P e,aggOf P e,compX x,compX i with
  |some sz,some agg,some a,some b=>some (.idx n sz agg.isSome a b)
  |_,_,_,_=>none
 |some .string=>match compX x,compX i with
  |some a,some b=>some (.idxs a b)
  |_,_=>none
 |_=>none
def compSlice (P:Program)(t:TypeId)(x:Operand)(lo hi mx:Option Operand):Option XOp:=
 match compX x,compXo lo,compXo hi,compXo mx with
 |some a,some l,some h,some m=>match P.underlying t with
  |some (.slice e)=>match szOf P e with
   |some sz=>some (.slice sz a l h m)
   |none=>none
  |some .string=>match m with
   |none=>some (.slices a l h)
   |some _=>none
  |some (.array n e)=>match szOf P e with
   |some sz=>some (.slicea n sz a l h m)
   |none=>none
  |_=>none
 |_,_,_,_=>none
def compBuildPs (P:Program)(place:Nat→Option (Nat×Nat)):List (Nat×Operand)→Option (List (Nat×Nat×Opd))
 |[]=>some []
 |(i,x)::r=>match place i,compX x,compBuildPs P place r with
  |some (off,sz),some a,some l=>some ((off,sz,a)::l)
  |_,_,_=>none
def fieldPl (P:Program)(fs:Array Field)(i:Nat):Option (Nat×Nat):=
 match fs[i]? with
 |some f=>match szOf P f.type with
  |some n=>some (f.offset,n)
  |none=>none
 |none=>none
def allSz (P:Program):List Field→Bool
 |[]=>true
 |f::r=>(szOf P f.type).isSome&&allSz P r
def compBuild (P:Program)(t:TypeId)(ps:List (Nat×Operand)):Option XOp:=
 match zeroOf P t,P.underlying t with
 |some z,some (.struct fs)=>cond (allSz P fs.toList) (match compBuildPs P (fieldPl P fs) ps with
  |some l=>some (.build z l)
  |none=>none) none
 |some z,some (.array _ e)=>match szOf P e with
  |some sz=>match compBuildPs P (fun i=>some (i*sz,sz)) ps with
   |some l=>some (.build z l)
   |none=>none
  |none=>none
 |_,_=>none
def compBuildS (P:Program)(t:TypeId)(len:Nat)(ps:List (Nat×Operand)):Option XOp:=
 match P.underlying t with
 |some (.slice e)=>match elOf P e with
  |some (sz,_,z)=>cond (len' (len*sz) 16777216&& !Nat.beq sz 0) (match compBuildPs P (fun i=>some (i*sz,sz)) ps with
   |some l=>some (.buildS sz len (tyCode P e) z l)
   |none=>none) none
  |none=>none
 |_=>none
/-! ### Types of keys and values -/
def intK (P:Program)(t:TypeId):Option (Option IntKind):=
 match P.underlying t,P.info? t with
 |some (.int k),some i=>cond (Nat.beq i.size 1) (some (some k)) none
 |some .bool,some i=>cond (Nat.beq i.size 1) (some none) none
 |_,_=>none
def fieldsK (P:Program):Nat→List Field→Option (List (Option IntKind))
 |_,[]=>some []
 |i,f::r=>match intK P f.type,fieldsK P (i+1) r with
  |some k,some l=>cond (Nat.beq f.offset i) (some (k::l)) none
  |_,_=>none
def flatT (P:Program)(t:TypeId):Option MV:=
 match P.underlying t with
 |some (.int _)=>match intK P t with
  |some k=>some ⟨false,[k]⟩
  |none=>none
 |some .bool=>match intK P t with
  |some k=>some ⟨false,[k]⟩
  |none=>none
 |some (.struct fs)=>match fieldsK P 0 fs.toList with
  |some l=>some ⟨true,l⟩
  |none=>none
 |some (.array n e)=>match intK P e with
  |some k=>some ⟨true,List.replicate n k⟩
  |none=>none
 |_=>none
def allInt:List (Option IntKind)→Bool
 |[]=>true
 |some _::r=>allInt r
 |none::_=>false
def idLs (n:Nat):List (Nat×Nat):=(List.range n).map fun i=>(i,0)
def keyT (P:Program)(t:TypeId):Option MV:=
 match flatT P t,leavesT P 16 t 0,P.info? t with
 |some m,some ls,some i=>cond (allInt m.ks&&(decide (ls=idLs m.ks.length)&&Nat.beq i.size m.ks.length)) (some m) none
 |_,_,_=>none
def isCell:Option IntKind→Value→Bool
 |some k,.int k' n=>beqK k k'&&decide (n=0)
 |none,.bool b=> !b
 |_,_=>false
def isCells:List (Option IntKind)→List Value→Bool
 |[],[]=>true
 |k::r,x::xs=>isCell k x&&isCells r xs
 |_,_=>false
def isZero (m:MV)(x:Value):Bool:=
 match m.agg with
 |true=>match x with
  |.agg xs=>isCells m.ks xs.toList
  |_=>false
 |false=>match m.ks with
  |[k]=>isCell k x
  |_=>false
def valT (P:Program)(t:TypeId):Option MV:=
 match flatT P t,P.info? t with
 |some m,some i=>match i.zero with
  |some z=>cond (isZero m z) (some m) none
  |none=>none
 |_,_=>none
def compMkmap (P:Program)(t:TypeId)(r:Option Operand):Option XOp:=
 match P.underlying t with
 |some (.map k e)=>match keyT P k,valT P e with
  |some kk,some vk=>match r with
   |none=>some (.mkmap kk vk [])
   |some x=>match compX x with
    |some a=>some (.mkmap kk vk [a])
    |none=>none
  |_,_=>none
 |_=>none
def compLook (P:Program)(t:TypeId)(x y:Operand)(ok:Bool):Option XOp:=
 match P.underlying t,compX x,compX y with
 |some (.map k e),some a,some b=>match keyT P k,valT P e with
  |some kk,some vk=>some (.mlook kk vk ok a b)
  |_,_=>none
 |_,_,_=>none
def compMput (P:Program)(t:TypeId)(x y z:Operand):Option XOp:=
 match P.underlying t,compX x,compX y,compX z with
 |some (.map k e),some a,some b,some c=>match keyT P k,valT P e with
  |some kk,some vk=>some (.mput kk vk a b c)
  |_,_=>none
 |_,_,_,_=>none
def compMks (P:Program)(t:TypeId)(l c:Operand):Option XOp:=
 match P.underlying t,compX l,compX c with
 |some (.slice e),some a,some b=>match elOf P e with
  |some (sz,by_,z)=>some (.mks sz by_ (tyCode P e) z a b)
  |none=>none
 |_,_,_=>none
def compCall (P:Program)(c:Call):Option XOp:=
 match compXs c.args.toList with
 |some as=>match c.callee with
  |.value (.func f)=>some (.call f as)
  |.value x=>match compX x with
   |some a=>some (.callv a as)
   |none=>none
  |.builtin .len=>match c.argTypes.toList,as with
   |[t],[a]=>match P.underlying t with
    |some .string=>some (.lens a)
    |some (.slice _)=>some (.len a)
    |some (.array n _)=>some (.lena n a)
    |some (.map _ _)=>some (.mlen a)
    |_=>none
   |_,_=>none
  |.builtin .copy=>match c.argTypes.toList,as with
   |[t,u],[a,b]=>match P.underlying t,P.underlying u with
    |some (.slice e),some (.slice _)=>match elOf P e with
     |some (sz,_,_)=>some (.copy sz a b)
     |none=>none
    |_,_=>none
   |_,_=>none
  |.builtin .delete=>match c.argTypes.toList,as with
   |[t,_],[a,b]=>match P.underlying t with
    |some (.map k e)=>match keyT P k,valT P e with
     |some kk,some vk=>some (.mdel kk vk a b)
     |_,_=>none
    |_=>none
   |_,_=>none
  |.builtin .cap=>match c.argTypes.toList,as with
   |[t],[a]=>match P.underlying t with
    |some (.slice _)=>some (.cap a)
    |_=>none
   |_,_=>none
  |.builtin .append=>match c.argTypes.toList,as with
   |[t,u],[a,b]=>match P.underlying t,P.underlying u with
    |some (.slice e),some (.slice _)=>match elOf P e with
     |some (sz,by_,_)=>some (.append sz by_ (tyCode P e) a b)
     |none=>none
    |some (.slice e),some (.int _)=>match elOf P e with
     |some (sz,by_,_)=>some (.growz sz by_ (tyCode P e) a b)
     |none=>none
    |_,_=>none
   |_,_=>none
  |.builtin .clear=>match c.argTypes.toList,as with
   |[t],[a]=>match P.underlying t with
    |some (.slice e)=>match elOf P e with
     |some (sz,_,z)=>match sz with
      |0=>none
      |sz=>some (.clear sz z a)
     |none=>none
    |_=>none
   |_,_=>none
  |.builtin .max=>some (.mm true as)
  |.builtin .min=>some (.mm false as)
  |_=>none
 |none=>none

def compBstr (P:Program)(src dst:TypeId)(x:Operand):Option XOp:=
 match P.underlying src,P.underlying dst,compX x with
 |some (.slice e),some .string,some a=>match P.underlying e with
  |some (.int .u8)=>some (.bstr a)
  |_=>none
 |some (.int _),some .string,some a=>some (.rstr a)
 |_,_,_=>none
def compSbyt (P:Program)(src dst:TypeId)(x:Operand):Option XOp:=
 match P.underlying src,P.underlying dst,compX x with
 |some .string,some (.slice e),some a=>match P.underlying e with
  |some (.int .u8)=>some (.sbyt a)
  |_=>none
 |_,_,_=>none
def compOp (P:Program)(op:Op):Option XOp:=
 match op with
 |.move x=>match compX x with|some a=>some (.mv a)|none=>none
 |.assign x=>match compX x with|some a=>some (.mv a)|none=>none
 |.pick c a b=>match compX c,compX a,compX b with
  |some c,some a,some b=>some (.pick c a b)
  |_,_,_=>none
 |.alloc e=>compAlloc P e
 |.box _ x=>match compX x with|some a=>some (.box a)|none=>none
 |.build t ps=>compBuild P t ps.toList
 |.buildSlice t len ps=>compBuildS P t len ps.toList
 |.load t a=>compLoad P t a
 |.store t a x=>compStore P t a x
 |.nilCheck x=>match compX x with|some a=>some (.nilck a)|none=>none
 |.binOp op t x y _=>compBin P op t x y
 |.unOp op _ x=>match compX x with|some a=>some (.un op a)|none=>none
 |.convert src dst x=>match compConv P src dst x with
  |some r=>some r
  |none=>match compBstr P src dst x with
   |some r=>some r
   |none=>compSbyt P src dst x
 |.range t x=>match P.underlying t,compX x with
  |some .string,some a=>some (.rng a)
  |_,_=>none
 |.next x true=>match compX x with|some a=>some (.nxt a)|none=>none
 |.makeFunc (.func f) a c=>match compXs a.toList,compXs c.toList with
  |some a,some c=>some (.mkf f a c)
  |_,_=>none
 |.makeSlice t l c=>compMks P t l c
 |.makeMap t r=>compMkmap P t r
 |.lookup t x y ok=>compLook P t x y ok
 |.mapUpdate t x y z=>compMput P t x y z
 |.insert t x y z=>compMput P t x y z
 |.slice t x lo hi mx=>compSlice P t x lo hi mx
 |.fieldAddr t x f=>compFieldA P t x f
 |.field t x f=>compField P t x f
 |.indexAddr t x i=>compIdxA P t x i
 |.index t x i=>compIdx P t x i
 |.extract x i=>match compX x with|some a=>some (.ext a i)|none=>none
 |.call c=>compCall P c
 |_=>none

def compOpB (P:Program)(op:Op):Option XOp:=
 match op with
 |.defer _=>none
 |op=>match compOp P op with
  |some x=>some x
  |none=>some .bad

end Go.Ab

/-
 One operation of the model, by its abstract effect.
-/
set_option linter.unusedVariables false
set_option linter.unusedSimpArgs false
namespace Go.Ab
open Go

def OpOk (P:Program)(o:Oper)(ev:Operand→Value)(w:World)(K:Value→World→Prop):Prop:=NextOk P ((execOp ev o).run P w) K

section
variable {P:Program}{G:GL}{F:Nat→Prop}{ρ:Nat→Option Nat}{H:Nat→Option HO}{w:World}{look:Nat→Option HO}{D:Delta}{o:Oper}{ev:Operand→Value}{T:List (Nat×AV)}

theorem OpOk.eff {r:Result Value}(hrun:(execOp ev o).run P w=r.andThen fun v w'=>.ok (.value v) w')(he:Eff G F ρ H w r D):OpOk P o ev w (KD G F ρ H w D):=by
 obtain⟨x,w',F',ρ',h1,h2⟩:=he
 subst h1
 exact .inl ⟨_,x,w',hrun,.inl rfl,F',ρ',h2⟩

theorem Gives.eff {r:Result Value}(hm:MRel G F ρ H w)(h:Gives F ρ H w r D):Eff G F ρ H w r D:=by
 obtain⟨x,h1,h2,h3,h4⟩:=h
 exact Eff.pure hm h1 h3 h2

def EvOk (G:GL)(F:Nat→Prop)(ρ:Nat→Option Nat)(H:Nat→Option HO)(w:World)(T:List (Nat×AV))(ev:Operand→Value):Prop:=
 ∀X o,compX X=some o→RelV w F ρ H (o.ev G T) (ev X)

theorem EvOk.list (hev:EvOk G F ρ H w T ev):∀{l:List Operand} {os:List Opd},compXs l=some os→RelVs w F ρ H (os.map (Opd.ev G T)) (l.map ev)
 |[],os,h=>by cases h;exact .nil
 |x::r,os,h=>by
  simp only[compXs]at h
  split at h
  ·rename_i h1 h2;cases h;exact .cons _ _ _ _ (hev _ _ h1) (hev.list h2)
  ·cases h

theorem aggOf_ok {t:TypeId}{agg:Option Nat}(h:aggOf P t=some agg):TyOk P t agg:=by
 unfold aggOf at h
 split at h
 ·rename_i d i h1 h2
  cases h
  refine⟨⟨d,h1,?_⟩,i,h2,fun n e=>?_⟩
  ·cases d<;>rfl
  ·cases d<;>simp[aggD]at e<;>exact e
 ·cases h

theorem szOf_ok {t:TypeId}{n:Nat}(h:szOf P t=some n):∃i,P.info? t=some i∧i.size=n:=by
 unfold szOf at h
 split at h
 ·rename_i i hi;cases h;exact⟨i,hi,rfl⟩
 ·cases h

theorem allOne_mem:∀{l:List Value},allOne l=true→∀v∈l,v.oneCell'=true
 |[],_,v,h=>by simp at h
 |u::r,ha,v,h=>by
  simp only[allOne,Bool.and_eq_true]at ha
  rcases List.mem_cons.1 h with rfl|h
  ·exact ha.1
  ·exact allOne_mem ha.2 v h

theorem zeroOf_ok {t:TypeId}{z:List AV}(h:zeroOf P t=some z):∃i v,P.info? t=some i∧i.zero=some v∧v.cells.size=i.size∧(∀u∈v.cells.toList,u.oneCell'=true)∧(∀(w:World) F,RelIs w F z v.cells.toList)∧
  (zeroValue t).run P w=.ok v w:=by
 unfold zeroOf at h
 split at h
 ·rename_i i hi
  split at h
  ·rename_i v hv
   simp only[cond_eq_ite]at h
   split at h
   ·rename_i hc
    simp only[Bool.and_eq_true]at hc
    exact⟨i,v,hi,hv,Nat.eq_of_beq_eq_true hc.2,allOne_mem hc.1,fun w F=>(compV_sound w F 12000).2 _ _ h,by simp[zeroValue,typeInfo,hi,hv]⟩
   ·cases h
  ·cases h
 ·cases h

theorem elOf_ok {e:TypeId}{sz by_:Nat}{z:List AV}(h:elOf P e=some (sz,by_,z)):ElOk P e sz by_∧zeroOf P e=some z:=by
 unfold elOf at h
 split at h
 ·rename_i i z' hi hz
  simp only[cond_eq_ite]at h
  split at h
  ·cases h
  ·rename_i hb
   cases h
   obtain⟨i',v,h1,h2,h3,h4,h5,h6⟩:=zeroOf_ok (w:=default) hz
   rw[hi]at h1;cases h1
   exact⟨⟨⟨i,v,hi,rfl,rfl,h2,h3⟩,fun e=>hb (by simp[e])⟩,hz⟩
 ·cases h

theorem run_value {s:Sem Value}:(do pure (Next.value (← s)):Sem Next).run P w=(s.run P w).andThen fun v w'=>.ok (.value v) w':=by
 simp

theorem step_alloc {t:TypeId}(ho:o.op=.alloc t){x:XOp}(hx:compAlloc P t=some x)(hm:MRel G F ρ H w){site:Nat}{d:Dir}{vs:List AV}(hD:execD site look x d vs=some D)(hfresh:∀i,i∈D.al→H i=none):
  OpOk P o ev w (KD G F ρ H w D):=by
 unfold compAlloc at hx
 split at hx
 ·rename_i z hz
  obtain⟨i,v,h1,h2,h3,h4,h5,h6⟩:=zeroOf_ok (w:=w) hz
  have hrun:(execOp ev o).run P w=(((newRow t v.cells).run P w).andThen fun a w'=>.ok (.pointer (some a)) w').andThen fun v w'=>.ok (.value v) w':=by
   unfold execOp
   rw[ho]
   simp only[run_value]
   simp only[Instr.alloc,Sem.run_bind,h6,Result.andThen_ok,newVar,newRow,run_newObj,Sem.run_pure]
  have hrel:RelVs w F ρ H z v.cells.toList:=(h5 w F).toVs
  have go:∀c,c.size=z.length→(∀i y,i<z.length→RelV w F ρ H (z.getD i .undef) y→y.oneCell'=true→RelE w F ρ H c i y)→∀n sz,opNew site c n sz=some D→OpOk P o ev w (KD G F ρ H w D):=by
   intro c hs hc n sz hD
   have hlen:z.length=v.cells.size:=by have:=hrel.len;simpa using this
   refine OpOk.eff hrun (opNew_sound hm (hfresh site (opNew_al hD)) (by omega) (fun j hj=>?_) hD)
   obtain⟨y,p1,p2⟩:=hrel.getD (by omega:j<z.length)
   exact⟨y,p1,hc j y (by omega) p2 (h4 y (List.mem_of_getElem? (l:=v.cells.toList) (i:=j) (by simpa using p1)))⟩
  split at hx
  ·split at hx
   ·rename_i c sz hc _
    cases hx
    obtain⟨g1,g2⟩:=contOf_spec (w:=w) (F:=F) (ρ:=ρ) (H:=H) hc
    exact go c g1 g2 _ _ hD
   ·cases hx
  ·cases hx
   exact go (.cells z) rfl (fun i y hi hr hone=>⟨hr,hone⟩) _ _ hD
 ·cases hx

theorem step_box {t:TypeId}{X:Operand}(ho:o.op=.box t X){a:Opd}(hX:compX X=some a)(hm:MRel G F ρ H w)(hev:EvOk G F ρ H w T ev){site:Nat}{d:Dir}
  (hD:execD site look (.box a) d [a.ev G T]=some D) (hfresh:∀i,i∈D.al→H i=none):OpOk P o ev w (KD G F ρ H w D):=by
 simp only[execD,x1,cond_eq_ite,List.getD_cons_zero]at hD
 split at hD
 ·rename_i hp
  have hv:RelV w F ρ H (a.ev G T) (ev X):=hev _ _ hX
  have hp:allCell (a.ev G T).cs=true:=hp
  obtain⟨hmay,hund⟩:=allCell_cs hp
  have hcs:=hv.csOf hmay hund
  have hrun:(execOp ev o).run P w=(((newRow t (ev X).cells).run P w).andThen fun a w'=>.ok (.pointer (some a)) w').andThen fun v w'=>.ok (.value v) w':=by
   unfold execOp
   rw[ho]
   simp only[run_value]
   simp only[Instr.box,Sem.run_bind,Result.andThen_ok,newVar,newRow,run_newObj,Sem.run_pure]
  have hlen:(a.ev G T).cs.length=(ev X).cells.size:=by have:=hcs.len;simpa using this
  refine OpOk.eff hrun (opNew_sound hm (hfresh site (opNew_al hD)) (by simp only[Cont.size];omega) (fun j hj=>?_) hD)
  simp only[Cont.size]at hj
  obtain⟨y,p1,p2⟩:=hcs.getD hj
  exact⟨y,p1,p2,hcs.ones hp y (List.mem_of_getElem? (l:=(ev X).cells.toList) (i:=j) (by simpa using p1))⟩
 ·cases hD

theorem step_mv {X:Operand}(ho:o.op=.move X∨o.op=.assign X){a:Opd}(hX:compX X=some a)(hm:MRel G F ρ H w)(hev:EvOk G F ρ H w T ev){site:Nat}{d:Dir}
  (hD:execD site look (.mv a) d [a.ev G T]=some D):OpOk P o ev w (KD G F ρ H w D):=by
 have hrun:(execOp ev o).run P w=(Result.ok (ev X) w).andThen fun v w'=>.ok (.value v) w':=by
  unfold execOp
  rcases ho with ho|ho<;>rw[ho]<;>rfl
 exact OpOk.eff hrun (Eff.val hm hD rfl (hev _ _ hX))

theorem step_pick {X Y Z:Operand}(ho:o.op=.pick X Y Z){a b c:Opd}(hX:compX X=some a)(hY:compX Y=some b)(hZ:compX Z=some c)(hm:MRel G F ρ H w)(hev:EvOk G F ρ H w T ev){site:Nat}{d:Dir}
  (hD:execD site look (.pick a b c) d [a.ev G T,b.ev G T,c.ev G T]=some D) (hc:AllC (SpecQ P G) D.cs):OpOk P o ev w (KD G F ρ H w D):=by
 have hg:=opPickD_sound (P:=P) (hev _ _ hX) (hev _ _ hY) (hev _ _ hZ) hD hc
 refine OpOk.eff (r:=(do pure (if ← asBool (ev X)then ev Y else ev Z):Sem Value).run P w) ?_ (hg.eff hm)
 unfold execOp
 rw[ho]
 simp only[Sem.run_bind,Sem.run_pure]
 cases(asBool (ev X)).run P w<;>rfl

theorem step_load {t:TypeId}{X:Operand}(ho:o.op=.load t X){x:XOp}(hx:compLoad P t X=some x)(hm:MRel G F ρ H w)(hl:∀id o,look id=some o→H id=some o)(hev:EvOk G F ρ H w T ev){site:Nat}{d:Dir}
  (hD:execD site look x d (x.opds.map (Opd.ev G T))=some D) (hc:AllC (SpecQ P G) D.cs):OpOk P o ev w (KD G F ρ H w D):=by
 unfold compLoad at hx
 split at hx
 ·rename_i agg a hagg hX
  cases hx
  refine OpOk.eff (r:=(Instr.loadAt t (ev X)).run P w) ?_ (opLoad_sound hm hl (hev _ _ hX) (aggOf_ok hagg) hD hc)
  unfold execOp
  rw[ho]
  simp only[run_value]
 ·cases hx

theorem step_store {t:TypeId}{X Y:Operand}(ho:o.op=.store t X Y){x:XOp}(hx:compStore P t X Y=some x)(hm:MRel G F ρ H w)(hl:∀id o,look id=some o→H id=some o)(hev:EvOk G F ρ H w T ev){site:Nat}{d:Dir}
  (hD:execD site look x d (x.opds.map (Opd.ev G T))=some D) (hc:AllC (SpecQ P G) D.cs):OpOk P o ev w (KD G F ρ H w D):=by
 unfold compStore at hx
 split at hx
 ·rename_i sz a b hsz hX hY
  cases hx
  obtain⟨i,h1,h2⟩:=szOf_ok hsz
  obtain⟨y,w',F',ρ',g1,g2⟩:=opStoreS_sound (P:=P) hm hl (hev _ _ hX) (hev _ _ hY) h1 h2 hD hc
  cases hr:(Instr.storeAt t (ev X) (ev Y)).run P w with
  |halt q w'=>rw[hr]at g1;cases g1
  |ok u w1=>
   rw[hr]at g1
   simp only[Result.andThen_ok]at g1
   cases g1
   refine .inl ⟨.skip,undef,w',?_,.inr ⟨rfl,rfl⟩,F',ρ',g2⟩
   unfold execOp
   rw[ho]
   simp[hr]
 ·cases hx

theorem run_bin {op:BinOp}{t yt:TypeId}{X Y:Operand}(ho:o.op=.binOp op t X Y yt):
  (execOp ev o).run P w=((do eqGuard op t X Y (ev X) (ev Y);binOp op t (ev X) (ev Y):Sem Value).run P w).andThen fun v w'=>.ok (.value v) w':=by
 unfold execOp
 rw[ho]
 simp only[run_value]

theorem cond_if (neq:Bool):(cond neq BinOp.neq BinOp.eql)=(if neq then .neq else .eql):=by cases neq<;>rfl

theorem equalIn_slice (d:Nat){t e:TypeId}(he:P.underlying t=some (.slice e))(a:Option Addr)(l c l' c':Nat):(Op.equalIn (d+1) t (.slice a l c) (.slice none l' c')).run P w=.ok a.isNone w:=by
 simp only[Op.equalIn,Sem.run_bind,run_underlying' he,Result.andThen_ok]
 cases a<;>rfl
theorem equalIn_func (d:Nat){t:TypeId}{p r:Array TypeId}{v:Bool}(he:P.underlying t=some (.func p r v))(x:Value)(b:Bool)(hx:(x=.nilFunc∧b=true)∨∃f a c,x=.func f a c∧b=false):(Op.equalIn (d+1) t x .nilFunc).run P w=.ok b w:=by
 simp only[Op.equalIn,Sem.run_bind,run_underlying' he,Result.andThen_ok]
 rcases hx with⟨rfl,rfl⟩|⟨f,a,c,rfl,rfl⟩<;>rfl
theorem equalIn_ptr (d:Nat){t e:TypeId}(he:P.underlying t=some (.pointer e))(a:Option Addr):(Op.equalIn (d+1) t (.pointer a) (.pointer none)).run P w=.ok a.isNone w:=by
 simp only[Op.equalIn,Sem.run_bind,run_underlying' he,Result.andThen_ok]
 cases a<;>rfl
theorem equal_slice {t e:TypeId}(he:P.underlying t=some (.slice e))(a:Option Addr)(l c l' c':Nat):(Op.equal t (.slice a l c) (.slice none l' c')).run P w=.ok a.isNone w:=equalIn_slice 9999 he a l c l' c'
theorem equal_func {t:TypeId}{p r:Array TypeId}{v:Bool}(he:P.underlying t=some (.func p r v))(x:Value)(b:Bool)(hx:(x=.nilFunc∧b=true)∨∃f a c,x=.func f a c∧b=false):(Op.equal t x .nilFunc).run P w=.ok b w:=equalIn_func 9999 he x b hx
theorem equal_ptr {t e:TypeId}(he:P.underlying t=some (.pointer e))(a:Option Addr):(Op.equal t (.pointer a) (.pointer none)).run P w=.ok a.isNone w:=equalIn_ptr 9999 he a

theorem run_eqs {neq:Bool}{t:TypeId}{X Y:Operand}{x y:Value}{q:Bool}(hg:(eqGuard (if neq then BinOp.neq else .eql) t X Y x y).run P w=.ok () w)(he:(Op.equal t x y).run P w=.ok q w)
  (h1:binOp .eql t x y=(do pure (.bool (← Op.equal t x y)))) (h2:binOp .neq t x y=(do pure (.bool (!(← Op.equal t x y))))):
  (do eqGuard (if neq then BinOp.neq else .eql) t X Y x y;binOp (if neq then BinOp.neq else .eql) t x y:Sem Value).run P w=.ok (.bool (negIf neq q)) w:=by
 rw[Sem.run_bind,hg,Result.andThen_ok]
 cases neq
 ·simp only[Bool.false_eq_true,if_false,h1,Sem.run_bind,he,Result.andThen_ok,Sem.run_pure,negIf]
 ·simp only[if_true,h2,Sem.run_bind,he,Result.andThen_ok,Sem.run_pure,negIf]

def ConstOk (ev:Operand→Value):Prop:=(∀v,ev (.const v)=v)∧(∀f,ev (.func f)=.func (.func f) #[] #[])

theorem step_isnil {neq:Bool}{kd:Nat}{t yt:TypeId}{X Y:Operand}(ho:o.op=.binOp (if neq then .neq else .eql) t X Y yt)(hY:isNilConst kd Y=true)(hcon:ConstOk ev){a:Opd}(hX:compX X=some a)
  (ht:(kd=0∧∃e,P.underlying t=some (.slice e))∨(kd=1∧∃p r v,P.underlying t=some (.func p r v))∨(kd=2∧∃e,P.underlying t=some (.pointer e)))
  (hm:MRel G F ρ H w) (hl:∀id o,look id=some o→H id=some o) (hev:EvOk G F ρ H w T ev) {site:Nat} {d:Dir}
  (hD:execD site look (.isnil neq kd a) d [a.ev G T]=some D) (hc:AllC (SpecQ P G) D.cs):OpOk P o ev w (KD G F ρ H w D):=by
 obtain⟨b,h1,h2,h3,h4⟩:=opIsnil_sound hl (hev _ _ hX).unc hD hc
 refine OpOk.eff (run_bin ho) (Eff.pure hm (x:=.bool (negIf neq b)) ?_ h2 (by rw[h1];exact relBool _))
 rcases ht with⟨rfl,e,he⟩|⟨rfl,p,r,v,he⟩|⟨rfl,e,he⟩
 ·have hYc:Y=.const (.slice none 0 0):=by
   unfold isNilConst at hY
   split at hY<;>first|rfl|cases hY
  subst hYc
  rcases h4 with⟨_,q,l,c,hx,rfl⟩|⟨h,_⟩|⟨h,_⟩
  ·rw[hcon.1,hx]
   exact run_eqs (by unfold eqGuard;cases neq<;>rfl) (equal_slice he q l c 0 0) rfl rfl
  ·cases h
  ·exact absurd rfl h
 ·have hYc:Y=.const .nilFunc:=by
   unfold isNilConst at hY
   split at hY<;>first|rfl|cases hY
  subst hYc
  rcases h4 with⟨h,_⟩|⟨_,hx⟩|⟨_,h,_⟩
  ·cases h
  ·rw[hcon.1]
   have he':=equal_func (w:=w) he (ev X) b hx
   rcases hx with⟨hx,_⟩|⟨f,a,c,hx,_⟩
   ·rw[hx]at he' ⊢
    exact run_eqs (by unfold eqGuard;cases neq<;>rfl) he' rfl rfl
   ·rw[hx]at he' ⊢
    exact run_eqs (by unfold eqGuard;cases neq<;>rfl) he' rfl rfl
  ·exact absurd rfl h
 ·have hYc:Y=.const (.pointer none):=by
   unfold isNilConst at hY
   split at hY<;>first|rfl|cases hY
  subst hYc
  rcases h4 with⟨h,_⟩|⟨h,_⟩|⟨_,_,q,hx,rfl⟩
  ·cases h
  ·cases h
  ·rw[hcon.1,hx]
   exact run_eqs (by unfold eqGuard;cases neq<;>rfl) (equal_ptr he q) rfl rfl

end
end Go.Ab
