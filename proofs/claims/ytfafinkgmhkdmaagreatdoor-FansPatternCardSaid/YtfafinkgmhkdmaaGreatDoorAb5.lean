/- An abstract reading of the program: what its operations do to what is known of memory. Part 5 of 9. -/
import Derived.Test.YtfafinkgmhkdmaaGreatDoorAb4
import Derived.AtR
import Derived.RangeFuncLeaves

/-
 Regions: in text order, and in any order that the edges allow.
-/
set_option linter.unusedVariables false
set_option linter.unusedSimpArgs false
namespace Go.Ab
open Go

abbrev Dirs:=List (Nat×(GDir×Dir))
def dirOf (ds:Dirs)(s:Nat):GDir×Dir:=match aget ds s with
 |some d=>d
 |none=>(aget ds 0).getD (.auto,.plain)

def putS (S:St)(dst:Option Nat)(D:Delta):St:=
 {t:=match dst with|some t=>aset S.t t D.v|none=>S.t,h:=asets S.h D.ws,n:=S.n}
def okDst:Option Nat→Nat→Bool
 |none,_=>true
 |some t,n=>Nat.ble (t+1) n
def freshA (h:List (Nat×HO)):List Nat→Bool
 |[]=>true
 |i::r=>match aget h i with
  |none=>freshA h r
  |some _=>false
def gvOf (T:List (Nat×AV)):Option (Nat×Bool)→Option AV
 |some (t,_)=>aget T t
 |none=>none

def litS (S:St):GDir→Option (Nat×Bool)→St
 |.onl,some (t,want)=>{S with t:=aset S.t t (.bool want)}
 |_,_=>S
def exOps (G:GL)(ds:Dirs):List XO→Nat→St→Option (St×List Cd)
 |[],_,S=>some (S,[])
 |x::r,s,S=>match runG G s (aget S.h) x (dirOf ds s).1 (dirOf ds s).2 (gvOf S.t x.guard) (readT S.t x.op.opds)with
  |some D=>cond (okDst x.dst S.n&&freshA S.h D.al) (match exOps G ds r (s+1) (putS (litS S (dirOf ds s).1 x.guard) x.dst D)with
   |some (S',cs)=>some (S',D.cs++cs)
   |none=>none) none
  |none=>none

def compXOs (P:Program)(ops:Array Oper):List Oper→Option (List XO)
 |[]=>some []
 |o::r=>match compXO P ops o,compXOs P ops r with
  |some x,some l=>some (x::l)
  |_,_=>none

def RS (G:GL)(F:Nat→Prop)(ρ:Nat→Option Nat)(S:St)(a:Act)(w:World):Prop:=RSf G F ρ (aget S.t) (aget S.h) S.n a w

section
variable {P:Program}{G:GL}{F:Nat→Prop}{ρ:Nat→Option Nat}{a:Act}{w:World}{ops:Array Oper}{R:Act→World→Prop}

theorem readT_get {T:List (Nat×AV)}:∀{os:List Opd} {t:Nat} {v:AV},aget (readT T os) t=some v→aget T t=some v
 |[],t,v,h=>by cases h
 |.t n::r,t,v,h=>by
  simp only[readT]at h
  split at h
  ·rename_i u hu
   simp only[aget]at h
   by_cases e:n=t
   ·subst e
    rw[beq_self,cond_true]at h;cases h;exact hu
   ·rw[beq_ne e,cond_false]at h;exact readT_get h
  ·exact readT_get h
 |.c _::r,t,v,h=>readT_get (os:=r) h
 |.g _::r,t,v,h=>readT_get (os:=r) h

theorem freshA_ok {h:List (Nat×HO)}:∀{l:List Nat},freshA h l=true→∀i,i∈l→aget h i=none
 |[],_,i,hi=>by simp at hi
 |j::r,hf,i,hi=>by
  simp only[freshA]at hf
  split at hf
  ·rename_i hn
   rcases List.mem_cons.1 hi with rfl|hi
   ·exact hn
   ·exact freshA_ok hf i hi
  ·cases hf

theorem okDst_ok {dst:Option Nat}{n:Nat}(h:okDst dst n=true):∀t,dst=some t→t<n:=by
 rintro t rfl
 exact Nat.le_of_ble_eq_true h

theorem putS_t (S:St)(dst:Option Nat)(D:Delta):aget (putS S dst D).t=updT (aget S.t) dst D.v:=by
 cases dst with
 |none=>rfl
 |some t=>exact aget_aset _ _ _
theorem putS_h (S:St)(dst:Option Nat)(D:Delta):aget (putS S dst D).h=updL (aget S.h) D.ws:=aget_asets _ _

theorem gvOf_ok {T:List (Nat×AV)}{g:Option (Nat×Bool)}{t:Nat}{want:Bool}{v:AV}(hg:g=some (t,want))(hv:gvOf T g=some v):aget T t=some v:=by
 subst hg;exact hv

theorem put_defers' (a:Act)(d:Option Nat)(y:Value):(a.put d y).defers=a.defers:=by cases d<;>rfl

theorem exOps_sound {ds:Dirs}:∀(l:List Oper) (k:Nat) (xs:List XO) (s:Nat) (S S':St) (cs:List Cd) (F:Nat→Prop) (ρ:Nat→Option Nat) (a:Act) (w:World),(∀j,j<l.length→l[j]? =ops[k+j]?)→compXOs P ops l=some xs→exOps G ds xs s S=some (S',cs)→AllC (SpecQ P G) cs→
  RS G F ρ S a w→(∀a' w' F' ρ',RS G F' ρ' S' a' w'→Ext G F ρ w F' ρ' w'→HKeep w ρ (aget S.h) w' ρ' (aget S'.h)→a'.defers=a.defers→R a' w')→wpOpsR P ops R (List.range' k l.length) a w
 |[],k,xs,s,S,S',cs,F,ρ,a,w,hl,hx,he,hc,hr,hQ=>by
  cases hx
  simp only[exOps]at he
  cases he
  exact hQ a w F ρ hr (Ext.refl _ _ _) (HKeep.refl _ _ _) rfl
 |o::l,k,xs,s,S,S',cs,F,ρ,a,w,hl,hx,he,hc,hr,hQ=>by
  simp only[compXOs]at hx
  split at hx
  ·rename_i x xl hxo hxl
   cases hx
   simp only[exOps]at he
   split at he
   ·rename_i D hD
    rw[cond_eq_ite]at he
    split at he
    ·rename_i hcond
     split at he
     ·rename_i S'' cs' he'
      cases he
      rw[Bool.and_eq_true]at hcond
      obtain⟨c1,c2⟩:=hc.app
      have h0:ops[k]? =some o:=by simpa using(hl 0 (by simp)).symm
      rw[List.length_cons,List.range'_succ]
      show wpOpR P ops k _ a w
      refine one_sound h0 hxo hr (fun t v h=>readT_get h) (fun t want v hg hv=>gvOf_ok hg hv) (fun _ _ h=>h) hD (okDst_ok hcond.1) (freshA_ok hcond.2) c1 ?_
      intro y w' F' ρ' hr' hx' hk'
      obtain⟨l1,l2,l3⟩:(litS S (dirOf ds s).1 x.guard).h=S.h∧(litS S (dirOf ds s).1 x.guard).n=S.n∧RSf G F' ρ' (updT (aget (litS S (dirOf ds s).1 x.guard).t) x.dst D.v) (updL (aget S.h) D.ws) S.n (a.put x.dst y) w':=by
       unfold litS
       split
       ·rename_i t want hdir hgd
        refine⟨rfl,rfl,hr'.size,?_,hr'.mem,hr'.defs⟩
        intro u v hu
        show RelV w' F' ρ' (updL (aget S.h) D.ws) v _
        have hy:a.tmps.getD t undef=.bool want:=onl_lit (by rw[← hdir];exact hD) c1 hgd fun v hv=>hr.tmps t v (gvOf_ok hgd hv)
        have e1:aget (aset S.t t (AV.bool want))=upd (aget S.t) t (some (.bool want)):=aget_aset _ _ _
        simp only[e1]at hu
        cases hdd:x.dst with
        |none=>
         rw[hdd]at hu hr'
         simp only[updT]at hu
         by_cases e:u=t
         ·subst e
          rw[upd_same]at hu;cases hu
          show RelV _ _ _ _ _ (a.tmps.getD u undef)
          rw[hy];exact relBool _
         ·rw[upd_other _ _ e]at hu
          exact hr'.tmps u v hu
        |some d'=>
         rw[hdd]at hu hr'
         simp only[updT]at hu
         by_cases ed:u=d'
         ·subst ed
          rw[upd_same]at hu
          exact hr'.tmps u v (by simp only[updT];rw[upd_same];exact hu)
         ·rw[upd_other _ _ ed]at hu
          by_cases e:u=t
          ·subst e
           rw[upd_same]at hu;cases hu
           have:(a.put (some d') y).tmps.getD u undef=a.tmps.getD u undef:=by
            simp[Act.put,Array.getD_eq_getD_getElem?,Array.getElem?_setIfInBounds_ne (Ne.symm ed)]
           rw[this,hy];exact relBool _
          ·rw[upd_other _ _ e]at hu
           exact hr'.tmps u v (by simp only[updT];rw[upd_other _ _ ed];exact hu)
       ·exact⟨rfl,rfl,hr'⟩
      generalize litS S (dirOf ds s).1 x.guard=S1 at l1 l2 l3 he'
      rw[← l1]at hk' l3
      rw[← l2]at l3
      rw[← putS_h S1 x.dst D]at hk'
      rw[l1]at hk'
      clear hr'
      have hr':=l3
      refine exOps_sound l (k+1) xl (s+1) (putS S1 x.dst D) S' cs' F' ρ' _ w' (fun j hj=>by have:=hl (j+1) (by simpa using hj);simpa[Nat.add_assoc,Nat.add_comm 1 j]using this) hxl he' c2 ?_ ?_
      ·unfold RS;rw[putS_t,putS_h];exact hr'
      ·intro a' w'' F'' ρ'' h1 h2 h3 h4
       exact hQ a' w'' F'' ρ'' h1 (hx'.trans h2) (hk'.trans h3) (h4.trans (put_defers' _ _ _))
     ·cases he
    ·cases he
   ·cases he
  ·cases hx

end
end Go.Ab

/-
 Regions in any order that the edges allow: what each operation reads and writes decides that the order does not matter.
-/
set_option linter.unusedVariables false
set_option linter.unusedSimpArgs false
namespace Go.Ab
open Go

structure Ent where
 x:XO
 s:Nat
 g:GDir
 d:Dir
 gv:Option AV
 rt:List (Nat×AV)
 rh:List (Nat×HO)
 D:Delta

def refsE:List (Nat×AV)→List Nat
 |[]=>[]
 |(_,.ep id _ _)::r=>id::refsE r
 |(_,.full id _)::r=>id::refsE r
 |(_,.fullc id _ _)::r=>id::refsE r
 |(_,.sl id _ _ _)::r=>id::refsE r
 |(_,.vw id _ _ _ _)::r=>id::refsE r
 |_::r=>refsE r
def rhOf (look:Nat→Option HO)(op:XOp)(rt:List (Nat×AV)):List Nat:=
 match op with
 |.store _ _ _=>refsT rt++reachW look 1000000 (refsT (rt.drop 1)) []
 |.load _ _|.nxt _|.mlook _ _ _ _ _|.mput _ _ _ _ _|.mdel _ _ _ _|.mlen _=>refsT rt
 |.fieldA _ _|.nilck _|.idxA _ _ _ _|.len _|.cap _|.isnil _ _ _=>refsE rt
 |.slice _ _ _ _ _|.slicea _ _ _ _ _ _|.append _ _ _ _ _|.copy _ _ _|.bstr _|.call _ _|.callv _ _=>reachW look 1000000 (refsT rt) []
 |_=>[]
def mkEnt (G:GL)(S:St)(x:XO)(s:Nat)(dd:GDir×Dir):Option Ent:=
 let rt:=readT S.t x.op.opds
 let rh:=readF (aget S.h) (rhOf (aget S.h) x.op rt)
 let gv:=gvOf S.t x.guard
 match runG G s (aget rh) x dd.1 dd.2 gv rt with
 |some D=>cond (okDst x.dst S.n&&freshA S.h D.al) (some {x,s,g:=dd.1,d:=dd.2,gv,rt,rh,D}) none
 |none=>none

def nth? {α:Type}:List α→Nat→Option α
 |[],_=>none
 |x::_,0=>some x
 |_::r,n+1=>nth? r n

def exEnts (G:GL)(ds:Dirs)(xs:List XO)(s:Nat):List Nat→St→Option (St×List (Nat×Ent)×List Cd)
 |[],S=>some (S,[],[])
 |i::r,S=>match nth? xs i with
  |some x=>match mkEnt G S x (s+i) (dirOf ds (s+i))with
   |some e=>match exEnts G ds xs s r (putS S x.dst e.D)with
    |some (S',es,cs)=>some (S',(i,e)::es,e.D.cs++cs)
    |none=>none
   |none=>none
  |none=>none

def optL:Option Nat→List Nat
 |some x=>[x]
 |none=>[]
def gL:Option (Nat×Bool)→List Nat
 |some (x,_)=>[x]
 |none=>[]
def apartE (e f:Ent):Bool:=
 noneIn (optL e.x.dst) (keys f.rt++(gL f.x.guard++optL f.x.dst))&&(noneIn (optL f.x.dst) (keys e.rt++gL e.x.guard)&&
 (noneIn (keys e.D.ws) (keys f.rh++(f.D.al++keys f.D.ws))&&noneIn (keys f.D.ws) (keys e.rh++e.D.al)))

section
variable {P:Program}{G:GL}{ops:Array Oper}{R:Act→World→Prop}

theorem memN_iff {x:Nat}:∀{l:List Nat},memN x l=true↔x∈l
 |[]=>by simp[memN]
 |y::r=>by
  simp only[memN,cond_eq_ite]
  by_cases e:y=x
  ·subst e;simp[beq_self]
  ·rw[if_neg (by simp[beq_ne e]),memN_iff (l:=r)]
   simp[Ne.symm e]

theorem noneIn_ok:∀{a l:List Nat},noneIn a l=true→∀x,x∈a→x∉l
 |[],l,_,x,hx=>by simp at hx
 |y::r,l,h,x,hx=>by
  simp only[noneIn,cond_eq_ite]at h
  split at h
  ·cases h
  ·rename_i hm
   rcases List.mem_cons.1 hx with rfl|hx
   ·exact fun hl=>hm (memN_iff.2 hl)
   ·exact noneIn_ok h x hx

theorem keys_of_aget {α:Type}:∀{l:List (Nat×α)} {k:Nat} {v:α},aget l k=some v→k∈keys l
 |[],k,v,h=>by cases h
 |(j,u)::r,k,v,h=>by
  simp only[aget]at h
  by_cases e:j=k
  ·subst e;simp[keys]
  ·rw[beq_ne e,cond_false]at h
   simp only[keys,List.mem_cons];right;exact keys_of_aget h

structure En (e:Ent)(T:Nat→Option AV)(H:Nat→Option HO):Prop where
 rt:∀t v,aget e.rt t=some v→T t=some v
 gv:∀t want v,e.x.guard=some (t,want)→e.gv=some v→T t=some v
 rh:∀i o,aget e.rh i=some o→H i=some o
 al:∀i,i∈e.D.al→H i=none

theorem updL_other {H:Nat→Option HO}:∀{ws:List (Nat×HO)} {i:Nat},i∉keys ws→updL H ws i=H i
 |[],i,h=>rfl
 |(j,o)::r,i,h=>by
  simp only[keys,List.mem_cons,not_or]at h
  simp only[updL]
  rw[updL_other h.2,upd_other _ _ h.1]
theorem updL_congr {H H':Nat→Option HO}{ws:List (Nat×HO)}{i:Nat}(h:H i=H' i):updL H ws i=updL H' ws i:=by
 induction ws generalizing H H' with
 |nil=>exact h
 |cons p r ih=>
  obtain⟨j,o⟩:=p
  simp only[updL]
  refine ih ?_
  by_cases e:i=j
  ·subst e;rw[upd_same,upd_same]
  ·rw[upd_other _ _ e,upd_other _ _ e];exact h
theorem updL_comm {H:Nat→Option HO}{a b:List (Nat×HO)}(h:∀i,i∈keys a→i∉keys b):updL (updL H a) b=updL (updL H b) a:=by
 funext i
 by_cases hb:i∈keys b
 ·have ha:i∉keys a:=fun ha=>h i ha hb
  rw[updL_other (H:=updL H b) ha]
  exact updL_congr (updL_other ha)
 ·rw[updL_other hb]
  exact updL_congr (updL_other hb).symm
theorem updT_other {T:Nat→Option AV}{dst:Option Nat}{v:AV}{t:Nat}(h:t∉optL dst):updT T dst v t=T t:=by
 cases dst with
 |none=>rfl
 |some d=>exact upd_other _ _ (by simpa[optL]using h)
theorem updT_comm {T:Nat→Option AV}{d e:Option Nat}{u v:AV}(h:∀t,t∈optL d→t∉optL e):updT (updT T d u) e v=updT (updT T e v) d u:=by
 cases d with
 |none=>rfl
 |some d=>
  cases e with
  |none=>rfl
  |some e=>
   have hne:d≠e:=by simpa[optL]using h d (by simp[optL])
   funext t
   simp only[updT,upd]
   by_cases h1:t=d
   ·subst h1;simp[hne]
   ·simp[h1]

structure Apart (e f:Ent):Prop where
 d1:∀t,t∈optL e.x.dst→t∉keys f.rt
 d2:∀t,t∈optL e.x.dst→t∉gL f.x.guard
 d3:∀t,t∈optL e.x.dst→t∉optL f.x.dst
 d4:∀t,t∈optL f.x.dst→t∉keys e.rt
 d5:∀t,t∈optL f.x.dst→t∉gL e.x.guard
 h1:∀i,i∈keys e.D.ws→i∉keys f.rh
 h2:∀i,i∈keys e.D.ws→i∉f.D.al
 h3:∀i,i∈keys e.D.ws→i∉keys f.D.ws
 h4:∀i,i∈keys f.D.ws→i∉keys e.rh
 h5:∀i,i∈keys f.D.ws→i∉e.D.al

theorem apartE_ok {e f:Ent}(h:apartE e f=true):Apart e f:=by
 simp only[apartE,Bool.and_eq_true]at h
 obtain⟨h1,h2,h3,h4⟩:=h
 have a1:=noneIn_ok h1
 have a2:=noneIn_ok h2
 have a3:=noneIn_ok h3
 have a4:=noneIn_ok h4
 simp only[List.mem_append,not_or]at a1 a2 a3 a4
 exact⟨fun t h=>(a1 t h).1,fun t h=>(a1 t h).2.1,fun t h=>(a1 t h).2.2,fun t h=>(a2 t h).1,fun t h=>(a2 t h).2,fun t h=>(a3 t h).1,fun t h=>(a3 t h).2.1,fun t h=>(a3 t h).2.2,fun t h=>(a4 t h).1,fun t h=>(a4 t h).2⟩

def effT (e:Ent)(T:Nat→Option AV):Nat→Option AV:=updT T e.x.dst e.D.v
def effH (e:Ent)(H:Nat→Option HO):Nat→Option HO:=updL H e.D.ws

theorem En.later {e f:Ent}{T:Nat→Option AV}{H:Nat→Option HO}(ha:Apart e f)(he:En e T H):En e (effT f T) (effH f H):=
 ⟨fun t v h=>by rw[effT,updT_other (fun hm=>ha.d4 t hm (keys_of_aget h))];exact he.rt t v h,
  fun t want v hg hv=>by rw[effT,updT_other (fun hm=>ha.d5 t hm (by rw[hg];simp[gL]))];exact he.gv t want v hg hv,
  fun i o h=>by rw[effH,updL_other (fun hm=>ha.h4 i hm (keys_of_aget h))];exact he.rh i o h,
  fun i h=>by rw[effH,updL_other (fun hm=>ha.h5 i hm h)];exact he.al i h⟩
theorem En.earlier {e f:Ent}{T:Nat→Option AV}{H:Nat→Option HO}(ha:Apart e f)(hf:En f (effT e T) (effH e H)):En f T H:=
 ⟨fun t v h=>by have:=hf.rt t v h;rwa [effT,updT_other (fun hm=>ha.d1 t hm (keys_of_aget h))]at this,
  fun t want v hg hv=>by have:=hf.gv t want v hg hv;rwa [effT,updT_other (fun hm=>ha.d2 t hm (by rw[hg];simp[gL]))]at this,
  fun i o h=>by have:=hf.rh i o h;rwa [effH,updL_other (fun hm=>ha.h1 i hm (keys_of_aget h))]at this,
  fun i h=>by have:=hf.al i h;rwa [effH,updL_other (fun hm=>ha.h2 i hm h)]at this⟩
theorem eff_comm {e f:Ent}{T:Nat→Option AV}{H:Nat→Option HO}(ha:Apart e f):effT f (effT e T)=effT e (effT f T)∧effH f (effH e H)=effH e (effH f H):=
 ⟨updT_comm ha.d3,updL_comm ha.h3⟩

def Chain (TF:Nat→Option AV)(HF:Nat→Option HO):List (Nat×Ent)→(Nat→Option AV)→(Nat→Option HO)→Prop
 |[],T,H=>T=TF∧H=HF
 |(_,e)::r,T,H=>En e T H∧Chain TF HF r (effT e T) (effH e H)

theorem Chain.pull {TF:Nat→Option AV}{HF:Nat→Option HO}{i:Nat}{f:Ent}{post:List (Nat×Ent)}:∀{pre:List (Nat×Ent)} {T:Nat→Option AV} {H:Nat→Option HO},(∀p∈pre,Apart p.2 f)→Chain TF HF (pre++(i,f)::post) T H→
  En f T H∧Chain TF HF (pre++post) (effT f T) (effH f H)
 |[],T,H,_,h=>h
 |(j,e)::pre,T,H,ha,h=>by
  have hae:=ha (j,e) (by simp)
  obtain⟨h1,h2⟩:=h
  obtain⟨h3,h4⟩:=Chain.pull (fun p hp=>ha p (by simp[hp])) h2
  obtain⟨c1,c2⟩:=eff_comm (T:=T) (H:=H) hae
  rw[c1,c2]at h4
  exact⟨h3.earlier hae,h1.later hae,h4⟩

def depOf (o:Oper):List Nat:=(o.after.toList.filter (Region.binds .any)).map (·.on)
def dpOf (ops:Array Oper)(i:Nat):List Nat:=match ops[i]? with
 |some o=>depOf o
 |none=>[]

def DC (dp:Nat→List Nat)(listed:Array Bool):Prop:=∀j,listed.getD j false=true→∀k,k∈dp j→listed.getD k false=true
def AncOk (dp an:Nat→List Nat):Prop:=∀j i,i∈an j→∀listed,DC dp listed→(∀k,k∈dp j→listed.getD k false=true)→listed.getD i false=true

def Pairs (dp an:Nat→List Nat):List (Nat×Ent)→Prop
 |[]=>True
 |(i,e)::r=>i∉dp i∧i∉keys r∧(∀p∈r,p.1∉dp i∧(i∈an p.1∨Apart e p.2))∧Pairs dp an r

theorem keys_app {α:Type}:∀{a b:List (Nat×α)},keys (a++b)=keys a++keys b
 |[],b=>rfl
 |(k,_)::r,b=>by simp[keys,keys_app (a:=r)]
theorem mem_keys {α:Type}{k:Nat}:∀{l:List (Nat×α)},k∈keys l→∃e,(k,e)∈l
 |[],h=>by simp[keys]at h
 |(j,u)::r,h=>by
  simp only[keys,List.mem_cons]at h
  rcases h with rfl|h
  ·exact⟨u,by simp⟩
  ·obtain⟨e,he⟩:=mem_keys h;exact⟨e,by simp[he]⟩
theorem keys_mem {α:Type}{k:Nat}{e:α}:∀{l:List (Nat×α)},(k,e)∈l→k∈keys l
 |[],h=>by simp at h
 |(j,u)::r,h=>by
  simp only[keys,List.mem_cons]
  rcases List.mem_cons.1 h with h|h
  ·cases h;exact .inl rfl
  ·exact .inr (keys_mem h)

theorem Pairs.split {dp an:Nat→List Nat}{i:Nat}{f:Ent}{post:List (Nat×Ent)}:∀{pre:List (Nat×Ent)},Pairs dp an (pre++(i,f)::post)→
  (∀p∈pre,p.1∈an i∨Apart p.2 f)∧Pairs dp an (pre++post)∧i∉keys (pre++post)
 |[],h=>⟨fun p hp=>by simp at hp,h.2.2.2,h.2.1⟩
 |(j,e)::pre,h=>by
  have h:Pairs dp an ((j,e)::(pre++(i,f)::post)):=h
  obtain⟨h1,h2,h3,h4⟩:=h
  obtain⟨g1,g2,g3⟩:=Pairs.split h4
  have H2:j∉keys (pre++post):=by
   intro hm
   refine h2 ?_
   rw[keys_app]at hm ⊢
   simp only[List.mem_append,keys,List.mem_cons]at hm ⊢
   rcases hm with hm|hm
   ·exact .inl hm
   ·exact .inr (.inr hm)
  have H3:∀p,p∈pre++post→p.1∉dp j∧(j∈an p.1∨Apart e p.2):=fun p hp=>h3 p (by
   simp only[List.mem_append,List.mem_cons]at hp ⊢
   rcases hp with hp|hp
   ·exact .inl hp
   ·exact .inr (.inr hp))
  have H4:i∉keys ((j,e)::(pre++post)):=by
   simp only[keys,List.mem_cons,not_or]
   refine⟨fun e'=>?_,g3⟩
   subst e'
   refine h2 ?_
   rw[keys_app]
   simp[keys]
  refine⟨fun p hp=>?_,⟨h1,H2,H3,g2⟩,H4⟩
  rcases List.mem_cons.1 hp with rfl|hp
  ·exact(h3 (i,f) (by simp)).2
  ·exact g1 p hp

def EntOk (P:Program)(G:GL)(ops:Array Oper)(n:Nat)(p:Nat×Ent):Prop:=
 ∃o,ops[p.1]? =some o∧compXO P ops o=some p.2.x∧runG G p.2.s (aget p.2.rh) p.2.x p.2.g p.2.d p.2.gv p.2.rt=some p.2.D∧(∀t,p.2.x.dst=some t→t<n)∧AllC (SpecQ P G) p.2.D.cs

theorem getD_set_self {listed:Array Bool}{i:Nat}(d:Bool)(h:i<listed.size):(listed.setIfInBounds i true).getD i d=true:=by
 simp[h]

theorem any_sound {an:Nat→List Nat}(han:AncOk (dpOf ops) an)(hdl:∀i k,k∈dpOf ops i→k<ops.size){TF:Nat→Option AV}{HF:Nat→Option HO}{n:Nat}:∀(fuel:Nat) (listed:Array Bool) (rem:List (Nat×Ent)) (F:Nat→Prop) (ρ:Nat→Option Nat) (T:Nat→Option AV) (H:Nat→Option HO) (a:Act) (w:World),
  rem.length=fuel→Pairs (dpOf ops) an rem→listed.size=ops.size→(∀i,listed.getD i true=false↔i∈keys rem)→(∀p,p∈rem→EntOk P G ops n p)→DC (dpOf ops) listed→Chain TF HF rem T H→RSf G F ρ T H n a w→
  (∀a' w' F' ρ',RSf G F' ρ' TF HF n a' w'→Ext G F ρ w F' ρ' w'→HKeep w ρ H w' ρ' HF→a'.defers=a.defers→R a' w')→wpAnyR P ops R fuel listed a w:=by
 intro fuel
 induction fuel with
 |zero=>
  intro listed rem F ρ T H a w hlen hp hsz hun hok hdc hch hr hQ
  have:rem=[]:=by simpa using hlen
  subst this
  refine⟨?_,?_⟩
  ·cases e:Region.ready .any ops listed with
   |nil=>rfl
   |cons j r=>
    have hj:j∈Region.ready .any ops listed:=by rw[e];simp
    have:=(mem_ready.1 hj).1
    rw[hun]at this;simp[keys]at this
  ·obtain⟨h1,h2⟩:=hch
   subst h1;subst h2
   exact hQ a w F ρ hr (Ext.refl _ _ _) (HKeep.refl _ _ _) rfl
 |succ fuel ih=>
  intro listed rem F ρ T H a w hlen hp hsz hun hok hdc hch hr hQ
  refine⟨fun hnil=>?_,fun i hi=>?_⟩
  ·-- the first of what remains is ready
   exfalso
   cases rem with
   |nil=>simp at hlen
   |cons p r=>
    obtain⟨i,e⟩:=p
    obtain⟨h1,h2,h3,h4⟩:=hp
    obtain⟨o,ho,_⟩:=hok (i,e) (by simp)
    have hready:i∈Region.ready .any ops listed:=by
     refine mem_ready.2 ⟨(hun i).2 (by simp[keys]),o,ho,fun ed hed hb=>?_⟩
     have hmem:ed.on∈dpOf ops i:=by
      simp only[dpOf,ho,depOf,List.mem_map,List.mem_filter]
      exact⟨ed,⟨by simpa using hed,hb⟩,rfl⟩
     have hnot:ed.on∉keys ((i,e)::r):=by
      simp only[keys,List.mem_cons,not_or]
      refine⟨fun e'=>h1 (e'▸hmem),fun hm=>?_⟩
      obtain⟨f,hf⟩:=mem_keys hm
      exact(h3 _ hf).1 hmem
     have hnf:¬ listed.getD ed.on true=false:=fun h=>hnot ((hun _).1 h)
     by_cases hlt:ed.on<listed.size
     ·simp only[Array.getD,hlt,dite_true]at hnf ⊢
      simpa using hnf
     ·have:=hdl i _ hmem;omega
    rw[hnil]at hready;cases hready
  ·obtain⟨h0,o,ho,hall⟩:=mem_ready.1 hi
   have him:=(hun i).1 h0
   obtain⟨f,hf⟩:=mem_keys him
   obtain⟨pre,post,rfl⟩:=List.append_of_mem hf
   obtain⟨g1,g2,g3⟩:=hp.split
   have hpl:∀k,k∈dpOf ops i→listed.getD k false=true:=fun k hk=>by
    simp only[dpOf,ho,depOf,List.mem_map,List.mem_filter]at hk
    obtain⟨ed,⟨h1,h2⟩,rfl⟩:=hk
    exact hall ed (by simpa using h1) h2
   have hap:∀p∈pre,Apart p.2 f:=fun p hp=>by
    rcases g1 p hp with h|h
    ·exfalso
     have h5:=han i p.1 h listed hdc hpl
     have h6:listed.getD p.1 true=false:=(hun p.1).2 (keys_mem (l:=pre++(i,f)::post) (e:=p.2) (by simp[hp]))
     simp only[Array.getD_eq_getD_getElem?]at h5 h6
     cases e:listed[p.1]? with
     |none=>rw[e]at h5;cases h5
     |some b=>rw[e]at h5 h6;simp at h5 h6;rw[h5]at h6;cases h6
    ·exact h
   obtain⟨c1,c2⟩:=Chain.pull hap hch
   obtain⟨o',ho',hx,hD,hdst,hcs⟩:=hok (i,f) (by simp)
   rw[ho]at ho';cases ho'
   have hilt:i<listed.size:=by
    rw[hsz];exact(Array.getElem?_eq_some_iff.1 ho).1
   refine one_sound (T:=T) ho hx hr c1.rt c1.gv c1.rh hD hdst c1.al hcs ?_
   intro y w' F' ρ' hr' hx' hk'
   refine ih (listed.setIfInBounds i true) (pre++post) F' ρ' (effT f T) (effH f H) _ w' ?_ g2 (by simpa using hsz) (fun j=>?_) (fun p hp=>hok p ?_) ?_ c2 hr' (fun a' w'' F'' ρ'' q1 q2 q3 q4=>hQ a' w'' F'' ρ'' q1 (hx'.trans q2) (hk'.trans q3) (q4.trans (put_defers' _ _ _)))
   ·simp at hlen ⊢; omega
   ·by_cases e:i=j
    ·subst e
     rw[getD_set_self true hilt]
     exact⟨fun h=>by simp at h,fun h=>absurd h g3⟩
    ·rw[getD_set_ne true e,hun j]
     rw[keys_app,keys_app]
     simp only[keys,List.mem_append,List.mem_cons]
     exact⟨fun h=>by rcases h with h|h|h;exact .inl h;exact absurd h.symm e;exact .inr h,fun h=>by rcases h with h|h;exact .inl h;exact .inr (.inr h)⟩
   ·simp only[List.mem_append,List.mem_cons]at hp ⊢
    rcases hp with hp|hp
    ·exact .inl hp
    ·exact .inr (.inr hp)
   ·intro j hj k hk
    by_cases e:i=j
    ·subst e;exact getD_set_true (hpl k hk)
    ·rw[getD_set_ne false e]at hj
     exact getD_set_true (hdc j hj k hk)

end
end Go.Ab

/-
 Regions in any order: the checks, and what follows.
-/
set_option linter.unusedVariables false
set_option linter.unusedSimpArgs false
namespace Go.Ab
open Go

def depN (dep:List (List Nat))(i:Nat):List Nat:=(nth? dep i).getD []
def uni:List Nat→List Nat→List Nat
 |[],acc=>acc
 |x::r,acc=>uni r (cond (memN x acc) acc (x::acc))
def tbN (tbl:List (Nat×List Nat))(i:Nat):List Nat:=(aget tbl i).getD []
def ancOf (tbl:List (Nat×List Nat)):List Nat→List Nat→List Nat
 |[],acc=>acc
 |k::r,acc=>ancOf tbl r (uni (k::tbN tbl k) acc)
def ancTab (dep:List (List Nat)):List Nat→List (Nat×List Nat)→List (Nat×List Nat)
 |[],tbl=>tbl
 |j::r,tbl=>ancTab dep r ((j,ancOf tbl (depN dep j) [])::tbl)
def pairB (dep:List (List Nat))(tbl:List (Nat×List Nat))(i:Nat)(e:Ent):List (Nat×Ent)→Bool
 |[]=>true
 |(j,f)::r=>cond (Nat.beq i j) false (cond (memN j (depN dep i)) false (cond (cond (memN i (tbN tbl j)) true (apartE e f)) (pairB dep tbl i e r) false))
def pairsB (dep:List (List Nat))(tbl:List (Nat×List Nat)):List (Nat×Ent)→Bool
 |[]=>true
 |(i,e)::r=>cond (memN i (depN dep i)) false (cond (pairB dep tbl i e r) (pairsB dep tbl r) false)
def allMem (ord:List Nat):Nat→Bool
 |0=>true
 |n+1=>cond (memN n ord) (allMem ord n) false
def allLt (n:Nat):List Nat→Bool
 |[]=>true
 |i::r=>cond (Nat.ble (i+1) n) (allLt n r) false
def depB (n:Nat):List (List Nat)→Bool
 |[]=>true
 |l::r=>cond (allLt n l) (depB n r) false
def drawB (dep:List (List Nat))(ord:List Nat)(n:Nat)(es:List (Nat×Ent)):Bool:=
 Nat.beq ord.length n&&(allMem ord n&&(depB n dep&&(allLt n ord&&pairsB dep (ancTab dep ord []) es)))

section
variable {P:Program}{G:GL}{ops:Array Oper}{R:Act→World→Prop}

theorem uni_mem {i:Nat}:∀{l acc:List Nat},i∈uni l acc→i∈l∨i∈acc
 |[],acc,h=>.inr h
 |x::r,acc,h=>by
  simp only[uni]at h
  rcases uni_mem h with h|h
  ·exact .inl (by simp[h])
  ·rw[cond_eq_ite]at h
   split at h
   ·exact .inr h
   ·rcases List.mem_cons.1 h with rfl|h
    ·exact .inl (by simp)
    ·exact .inr h

theorem ancOf_mem {tbl:List (Nat×List Nat)}{i:Nat}:∀{l acc:List Nat},i∈ancOf tbl l acc→(∃k,k∈l∧(i=k∨i∈tbN tbl k))∨i∈acc
 |[],acc,h=>.inr h
 |x::r,acc,h=>by
  simp only[ancOf]at h
  rcases ancOf_mem h with⟨k,h1,h2⟩|h
  ·exact .inl ⟨k,by simp[h1],h2⟩
  ·rcases uni_mem h with h|h
   ·rcases List.mem_cons.1 h with h|h
    ·exact .inl ⟨x,by simp,.inl h⟩
    ·exact .inl ⟨x,by simp,.inr h⟩
   ·exact .inr h

theorem ancTab_ok {dep:List (List Nat)}{dp:Nat→List Nat}(hd:∀i,dp i=depN dep i):∀{l:List Nat} {tbl:List (Nat×List Nat)},AncOk dp (tbN tbl)→AncOk dp (tbN (ancTab dep l tbl))
 |[],tbl,h=>h
 |j::r,tbl,h=>by
  refine ancTab_ok hd (l:=r) ?_
  intro k i hi listed hdc hpl
  simp only[tbN,aget]at hi
  by_cases e:j=k
  ·subst e
   rw[beq_self,cond_true]at hi
   rcases ancOf_mem hi with⟨q,h1,h2⟩|h1
   ·rw[← hd]at h1
    have hq:=hpl q h1
    rcases h2 with rfl|h2
    ·exact hq
    ·exact h q i h2 listed hdc (hdc q hq)
   ·simp at h1
  ·rw[beq_ne e,cond_false]at hi
   exact h k i hi listed hdc hpl

theorem pairB_ok {dep:List (List Nat)}{tbl:List (Nat×List Nat)}{i:Nat}{e:Ent}:∀{l:List (Nat×Ent)},pairB dep tbl i e l=true→i∉keys l∧∀p,p∈l→p.1∉depN dep i∧(i∈tbN tbl p.1∨Apart e p.2)
 |[],_=>⟨by simp[keys],fun p hp=>by simp at hp⟩
 |(j,f)::r,h=>by
  simp only[pairB,cond_eq_ite]at h
  split at h
  ·cases h
  ·rename_i h1
   split at h
   ·cases h
   ·rename_i h2
    have key:(i∈tbN tbl j∨Apart e f)∧pairB dep tbl i e r=true:=by
     cases hm:memN i (tbN tbl j)with
     |true=>rw[hm]at h;simp at h;exact⟨.inl (memN_iff.1 hm),h⟩
     |false=>
      cases ha:apartE e f with
      |true=>rw[hm,ha]at h;simp at h;exact⟨.inr (apartE_ok ha),h⟩
      |false=>rw[hm,ha]at h;simp at h
    obtain⟨g1,g2⟩:=pairB_ok key.2
    refine⟨?_,fun p hp=>?_⟩
    ·simp only[keys,List.mem_cons,not_or]
     exact⟨fun e=>h1 (e▸beq_self i),g1⟩
    ·rcases List.mem_cons.1 hp with rfl|hp
     ·exact⟨fun hm=>h2 (memN_iff.2 hm),key.1⟩
     ·exact g2 p hp

theorem pairsB_ok {dep:List (List Nat)}{tbl:List (Nat×List Nat)}{dp:Nat→List Nat}(hd:∀i,dp i=depN dep i):∀{l:List (Nat×Ent)},pairsB dep tbl l=true→Pairs dp (tbN tbl) l
 |[],_=>trivial
 |(i,e)::r,h=>by
  simp only[pairsB,cond_eq_ite]at h
  split at h
  ·cases h
  ·rename_i h1
   split at h
   ·rename_i h2
    obtain⟨g1,g2⟩:=pairB_ok h2
    exact⟨fun hm=>h1 (memN_iff.2 (hd i▸hm)),g1,fun p hp=>⟨fun hm=>(g2 p hp).1 (hd i▸hm),(g2 p hp).2⟩,pairsB_ok hd h⟩
   ·cases h

theorem allMem_ok {ord:List Nat}:∀{n:Nat},allMem ord n=true→∀i,i<n→i∈ord
 |0,_,i,h=>by omega
 |n+1,h,i,hi=>by
  simp only[allMem,cond_eq_ite]at h
  split at h
  ·rename_i h1
   by_cases e:i=n
   ·subst e;exact memN_iff.1 h1
   ·exact allMem_ok h i (by omega)
  ·cases h
theorem allLt_ok {n:Nat}:∀{l:List Nat},allLt n l=true→∀i,i∈l→i<n
 |[],_,i,h=>by simp at h
 |j::r,h,i,hi=>by
  simp only[allLt,cond_eq_ite]at h
  split at h
  ·rename_i h1
   rcases List.mem_cons.1 hi with rfl|hi
   ·exact Nat.le_of_ble_eq_true h1
   ·exact allLt_ok h i hi
  ·cases h
theorem nth?_mem {α:Type}:∀{l:List α} {i:Nat} {x:α},nth? l i=some x→x∈l
 |[],i,x,h=>by cases h
 |y::r,0,x,h=>by cases h;simp
 |y::r,i+1,x,h=>by simp only[List.mem_cons];right;exact nth?_mem (by simpa[nth?]using h)
theorem depB_ok {n:Nat}:∀{l:List (List Nat)},depB n l=true→∀d,d∈l→∀i,i∈d→i<n
 |[],_,d,h=>by simp at h
 |j::r,h,d,hi=>by
  simp only[depB,cond_eq_ite]at h
  split at h
  ·rename_i h1
   rcases List.mem_cons.1 hi with rfl|hi
   ·exact allLt_ok h1
   ·exact depB_ok h d hi
  ·cases h
theorem nth?_eq {α:Type}:∀{l:List α} {i:Nat},nth? l i=l[i]?
 |[],i=>by simp[nth?]
 |x::r,0=>by simp[nth?]
 |x::r,i+1=>by simp[nth?,nth?_eq (l:=r)]

theorem dep_eq {dep:List (List Nat)}(h:ops.toList.map depOf=dep)(i:Nat):dpOf ops i=depN dep i:=by
 subst h
 simp only[dpOf,depN,nth?_eq,List.getElem?_map,Array.getElem?_toList]
 cases ops[i]? <;>rfl

theorem compXOs_get {l:List Oper}:∀{xs:List XO},compXOs P ops l=some xs→∀{i:Nat} {x:XO},nth? xs i=some x→∃o,l[i]? =some o∧compXO P ops o=some x:=by
 induction l with
 |nil=>intro xs h i x hx;cases h;cases hx
 |cons o r ih=>
  intro xs h i x hx
  simp only[compXOs]at h
  split at h
  ·rename_i y l' h1 h2
   cases h
   cases i with
   |zero=>simp only[nth?]at hx;cases hx;exact⟨o,by simp,h1⟩
   |succ i=>
    obtain⟨o',g1,g2⟩:=ih h2 (by simpa[nth?]using hx)
    exact⟨o',by simpa using g1,g2⟩
  ·cases h

theorem compXOs_len {l:List Oper}:∀{xs:List XO},compXOs P ops l=some xs→xs.length=l.length:=by
 induction l with
 |nil=>intro xs h;cases h;rfl
 |cons o r ih=>
  intro xs h
  simp only[compXOs]at h
  split at h
  ·rename_i y l' h1 h2;cases h;simp[ih h2]
  ·cases h

theorem exEnts_ok {ds:Dirs}{xs:List XO}{s:Nat}(hx:compXOs P ops ops.toList=some xs):∀{ord:List Nat} {S S':St} {es:List (Nat×Ent)} {cs:List Cd},exEnts G ds xs s ord S=some (S',es,cs)→AllC (SpecQ P G) cs→
  keys es=ord∧S'.n=S.n∧(∀p,p∈es→EntOk P G ops S.n p)∧Chain (aget S'.t) (aget S'.h) es (aget S.t) (aget S.h)
 |[],S,S',es,cs,h,hc=>by
  simp only[exEnts]at h
  cases h
  exact⟨rfl,rfl,fun p hp=>by simp at hp,rfl,rfl⟩
 |i::r,S,S',es,cs,h,hc=>by
  simp only[exEnts]at h
  split at h
  ·rename_i x hxi
   split at h
   ·rename_i e he
    split at h
    ·rename_i S'' es' cs' h'
     cases h
     obtain⟨c1,c2⟩:=hc.app
     obtain⟨g1,g2,g3,g4⟩:=exEnts_ok hx h' c2
     obtain⟨o,ho,hxo⟩:=compXOs_get hx hxi
     simp only[mkEnt]at he
     split at he
     ·rename_i D hD
      rw[cond_eq_ite]at he
      split at he
      ·rename_i hcond
       cases he
       rw[Bool.and_eq_true]at hcond
       refine⟨by simp[keys,g1],g2,fun p hp=>?_,⟨?_,?_,?_,?_⟩,?_⟩
       ·rcases List.mem_cons.1 hp with rfl|hp
        ·exact⟨o,by simpa using ho,hxo,hD,okDst_ok hcond.1,c1⟩
        ·exact g3 p hp
       ·intro t v hv;exact readT_get hv
       ·intro t want v hg hv;exact gvOf_ok hg hv
       ·intro j o' hj;exact readF_get hj
       ·exact freshA_ok hcond.2
       ·rw[putS_t,putS_h]at g4;exact g4
      ·cases he
     ·cases he
    ·cases h
   ·cases h
  ·cases h

theorem draw_sound {F:Nat→Prop}{ρ:Nat→Option Nat}{a:Act}{w:World}{xs:List XO}{dep:List (List Nat)}{ord:List Nat}{s:Nat}{ds:Dirs}{S S':St}{es:List (Nat×Ent)}{cs:List Cd}
  (hx:compXOs P ops ops.toList=some xs) (hdep:ops.toList.map depOf=dep) (he:exEnts G ds xs s ord S=some (S',es,cs)) (hB:drawB dep ord xs.length es=true) (hc:AllC (SpecQ P G) cs) (hr:RS G F ρ S a w)
  (hQ:∀a' w' F' ρ',RS G F' ρ' S' a' w'→Ext G F ρ w F' ρ' w'→HKeep w ρ (aget S.h) w' ρ' (aget S'.h)→a'.defers=a.defers→R a' w'):wpAnyR P ops R ops.size (Array.replicate ops.size false) a {w with drawn:=w.drawn+1}:=by
 obtain⟨k1,k2,k3,k4⟩:=exEnts_ok hx he hc
 simp only[drawB,Bool.and_eq_true]at hB
 obtain⟨b1,b2,b3,b4,b5⟩:=hB
 have hlen:xs.length=ops.size:=by rw[compXOs_len hx];simp
 have hd:=dep_eq (ops:=ops) hdep
 have hsame:=hr.mem.same (w':={w with drawn:=w.drawn+1}) rfl ⟨rfl,rfl,fun _=>⟨rfl,Nat.le_succ _⟩⟩
 refine(any_sound (an:=tbN (ancTab dep ord [])) (ancTab_ok hd (fun j i hi=>by simp[tbN,aget]at hi)) (fun i k hk=>?_) (n:=S.n) (TF:=aget S'.t) (HF:=aget S'.h) ops.size _ es F ρ (aget S.t) (aget S.h) a _ ?_ (pairsB_ok hd b5) (by simp) (fun i=>?_) k3 (fun j hj=>?_) k4 ?_ ?_)
 ·rw[hd]at hk
  simp only[depN]at hk
  cases e:nth? dep i with
  |none=>rw[e]at hk;simp at hk
  |some l=>
   rw[e]at hk
   rw[← hlen]
   exact depB_ok b3 l (nth?_mem e) k (by simpa using hk)
 ·have hk:∀(l:List (Nat×Ent)),(keys l).length=l.length:=fun l=>by
   induction l with
   |nil=>rfl
   |cons p r ih=>obtain⟨i,e⟩:=p;simp[keys,ih]
  rw[← hk es,k1,Nat.eq_of_beq_eq_true b1,hlen]
 ·rw[k1]
  have:(Array.replicate ops.size false).getD i true=false↔i<ops.size:=by
   by_cases h:i<ops.size<;>simp[Array.getD,h]
  rw[this,← hlen]
  exact⟨allMem_ok b2 i,allLt_ok b4 i⟩
 ·exfalso
  by_cases h:j<ops.size<;>simp[Array.getD,h]at hj
 ·exact⟨hr.size,fun t v h=>(hr.tmps t v h).mono hsame.2.1.frz hsame.2.1.keep hsame.2.2,hsame.1,hr.defs.ext hsame.2.1 rfl⟩
 ·intro a' w' F' ρ' h1 h2 h3 h4
  refine hQ a' w' F' ρ' ?_ (hsame.2.1.trans h2) (hsame.2.2.trans h3) h4
  unfold RS;rw[k2];exact h1

end
end Go.Ab

/-
 Code, walked in a frame of a function or of a round: it ends normally, at an exit, or at a return.
-/
set_option linter.unusedVariables false
set_option linter.unusedSimpArgs false
namespace Go.Ab
open Go

def ArrR (P:Program)(m:Machine)(b:Frame)(k:List Item)(cs:List Frame):Ex→Act→World→Prop
 |.normal,a,w=>Steps P m (lone (b.atR a k) cs w)
 |.exit id,a,w=>∃k0,exitTo id k0=exitTo id k∧Steps P m (lone (b.atR a (.code (.exit id)::k0)) cs w)
 |.ret,a,w=>∃todo,Steps P m (lone (b.atR a (.code .ret::todo)) cs w)

def wpR (P:Program)(ro:Option Nat)(c:Code)(Q:Ex→Act→World→Prop)(a:Act)(w:World):Prop:=
 ∀(b:Frame) (k:List Item) (cs:List Frame),b.roundOf=ro→∃e a' w',Q e a' w'∧ArrR P (lone (b.atR a (.code c::k)) cs w) b k cs e a' w'

section
variable {P:Program}{ro:Option Nat}{Q:Ex→Act→World→Prop}{a:Act}{w:World}

theorem ArrR.of_steps {m m₁:Machine}{b:Frame}{k:List Item}{cs:List Frame}{e:Ex}{a:Act}{w:World}(h:Steps P m m₁)(h':ArrR P m₁ b k cs e a w):ArrR P m b k cs e a w:=by
 cases e with
 |normal=>exact h.trans h'
 |exit id=>obtain⟨k0,h1,h2⟩:=h';exact⟨k0,h1,h.trans h2⟩
 |ret=>obtain⟨todo,hs⟩:=h';exact⟨todo,h.trans hs⟩

theorem ArrR.pass {m:Machine}{b:Frame}{k k':List Item}{cs:List Frame}{e:Ex}{a:Act}{w:World}(hn:e≠ .normal)(hk:∀id,e=.exit id→exitTo id k=exitTo id k')(h:ArrR P m b k cs e a w):ArrR P m b k' cs e a w:=by
 cases e with
 |normal=>exact absurd rfl hn
 |exit id=>obtain⟨k0,h1,h2⟩:=h;exact⟨k0,h1.trans (hk id rfl),h2⟩
 |ret=>exact h

theorem wpR.mono {c:Code}{Q':Ex→Act→World→Prop}(h:wpR P ro c Q a w)(hq:∀e a w,Q e a w→Q' e a w):wpR P ro c Q' a w:=
 fun b k cs hb=>let ⟨e,a',w',q,r⟩:=h b k cs hb;⟨e,a',w',hq _ _ _ q,r⟩

theorem wpR_skip (h:Q .normal a w):wpR P ro .skip Q a w:=fun _ _ _ _=>⟨.normal,a,w,h,.one stepR_skip⟩
theorem wpR_label {l:Nat}(h:Q .normal a w):wpR P ro (.label l) Q a w:=by
 intro b k cs hb
 have s1:step P (lone (b.atR a (.code (.label l)::k)) cs w)=.next (lone (b.atR a k) cs w):=step_lone_go (by simp[stepG,stepG.exec,Frame.atR])
 exact⟨.normal,a,w,h,.one s1⟩
theorem wpR_exit {id:Nat}(h:Q (.exit id) a w):wpR P ro (.exit id) Q a w:=fun b k cs hb=>⟨.exit id,a,w,h,k,rfl,Steps.refl _ _⟩
theorem wpR_ret (h:Q .ret a w):wpR P ro .ret Q a w:=fun b k cs hb=>⟨.ret,a,w,h,k,Steps.refl _ _⟩

theorem wpR_seq {x y:Code}(h:wpR P ro x (fun e a w=>(e=.normal∧wpR P ro y Q a w)∨(e≠ .normal∧Q e a w)) a w):wpR P ro (.seq x y) Q a w:=by
 intro b k cs hb
 obtain⟨e,a₁,w₁,hq,harr⟩:=h b (.code y::k) cs hb
 rcases hq with⟨rfl,hy⟩|⟨hn,hq⟩
 ·obtain⟨e₂,a₂,w₂,hq₂,harr₂⟩:=hy b k cs hb
  exact⟨e₂,a₂,w₂,hq₂,.of_steps (.head stepR_seq harr) harr₂⟩
 ·exact⟨e,a₁,w₁,hq,.of_steps (.one stepR_seq) (ArrR.pass (k:=.code y::k) (k':=k) hn (fun id _=>rfl) harr)⟩

theorem wpR_cond {c:Operand}{x y:Code}{t:Bool}(hc:a.eval c=.bool t)(h:wpR P ro (if t then x else y) Q a w):wpR P ro (.cond c x y) Q a w:=by
 intro b k cs hb
 obtain⟨e,a₁,w₁,hq,harr⟩:=h b k cs hb
 exact⟨e,a₁,w₁,hq,.of_steps (.one (stepR_cond hc)) harr⟩

theorem wpR_block {id:Nat}{c:Code}(h:wpR P ro c (fun e a w=>(e=.exit id∧Q .normal a w)∨(e≠ .exit id∧Q e a w)) a w):wpR P ro (.block id c) Q a w:=by
 intro b k cs hb
 obtain⟨e,a₁,w₁,hq,harr⟩:=h b (.inBlock id::k) cs hb
 rcases hq with⟨rfl,hq⟩|⟨hn,hq⟩
 ·obtain⟨k0,h1,h2⟩:=harr
  refine⟨.normal,a₁,w₁,hq,?_⟩
  exact Steps.head stepR_block (h2.trans (.one (stepR_exit (k':=k) (by rw[h1];simp[exitTo]))))
 ·cases e with
  |normal=>exact⟨.normal,a₁,w₁,hq,.head stepR_block (Steps.trans harr (.one stepR_inBlock))⟩
  |exit id'=>
   refine⟨.exit id',a₁,w₁,hq,.of_steps (.one stepR_block) (harr.pass (by simp) (fun i e=>?_))⟩
   cases e
   have hne:id≠id':=fun e=>hn (by rw[e])
   have:(id==id')=false:=by simpa using hne
   simp[exitTo,this]
  |ret=>exact⟨.ret,a₁,w₁,hq,.of_steps (.one stepR_block) (harr.pass (by simp) (fun i e=>by cases e))⟩

theorem wpR_scope {c:Code}(h:wpR P ro c Q a w):wpR P ro (.scope c) Q a w:=by
 intro b k cs hb
 obtain⟨e,a₁,w₁,hq,harr⟩:=h b (.inScope c::k) cs hb
 have s1:step P (lone (b.atR a (.code (.scope c)::k)) cs w)=.next (lone (b.atR a (.code c:: .inScope c::k)) cs w):=step_lone_go (by simp[stepG,stepG.exec,Frame.atR])
 refine⟨e,a₁,w₁,hq,.of_steps (.one s1) ?_⟩
 cases e with
 |normal=>exact Steps.trans harr (.one (step_lone_go (by simp[stepG,stepG.exec,Frame.atR])))
 |exit id=>obtain⟨k0,h1,h2⟩:=harr;exact⟨k0,h1.trans rfl,h2⟩
 |ret=>exact harr

theorem wpR_unloop {c:Code}(h:wpR P ro (.loop c) Q a w)(b:Frame)(k:List Item)(cs:List Frame)(hb:b.roundOf=ro):
  ∃e a' w',Q e a' w'∧ArrR P (lone (b.atR a (.code c:: .inLoop c::k)) cs w) b k cs e a' w':=by
 obtain⟨e,a',w',hq,harr⟩:=h b k cs hb
 refine⟨e,a',w',hq,?_⟩
 have tail:∀{m},m≠lone (b.atR a (.code (.loop c)::k)) cs w→Steps P (lone (b.atR a (.code (.loop c)::k)) cs w) m→Steps P (lone (b.atR a (.code c:: .inLoop c::k)) cs w) m:=by
  intro m hne hs
  obtain⟨n,hs⟩:=hs
  cases n with
  |zero=>simp[runN]at hs;exact absurd hs.symm hne
  |succ n=>
   simp only[runN,stepR_loop]at hs
   exact⟨n,hs⟩
 cases e with
 |normal=>exact tail (fun e=>by simp[lone,Frame.atR]at e) harr
 |exit id=>obtain⟨k0,h1,h2⟩:=harr;exact⟨k0,h1,tail (fun e=>by simp[lone,Frame.atR]at e) h2⟩
 |ret=>obtain⟨t,h2⟩:=harr;exact⟨t,tail (fun e=>by simp[lone,Frame.atR]at e) h2⟩

theorem wpR_loop1 {c:Code}(h:wpR P ro c (fun e a' w'=>(e=.normal∧wpR P ro (.loop c) Q a' w')∨(e≠ .normal∧Q e a' w')) a w):wpR P ro (.loop c) Q a w:=by
 intro b k cs hb
 obtain⟨e,a₁,w₁,hq,harr⟩:=h b (.inLoop c::k) cs hb
 rcases hq with⟨rfl,hl⟩|⟨hn,hq⟩
 ·obtain⟨e₂,a₂,w₂,hq₂,harr₂⟩:=wpR_unloop hl b k cs hb
  exact⟨e₂,a₂,w₂,hq₂,.of_steps (.head stepR_loop (Steps.trans harr (.one stepR_inLoop))) harr₂⟩
 ·exact⟨e,a₁,w₁,hq,.of_steps (.one stepR_loop) (ArrR.pass (k:=.inLoop c::k) (k':=k) hn (fun id _=>rfl) harr)⟩

theorem wpOps_steps {ops:Array Oper}{R:Act→World→Prop}(hdef:∀(i:Nat) (o:Oper),ops[i]? =some o→∀c,o.op≠ .defer c)(l:List Nat):
  ∀(a:Act) (w:World),wpOpsR P ops R l a w→∀(b:Frame) (k:List Item) (cs:List Frame),
   ∃a' w',R a' w'∧Steps P (lone (b.atR a (.inRegion ops l::k)) cs w) (lone (b.atR a' k) cs w'):=by
 induction l with
 |nil=>exact fun a w h b k cs=>⟨a,w,h,.one stepR_region_end⟩
 |cons i rest ih=>
  intro a w h b k cs
  simp only[wpOpsR,wpOpR]at h
  cases ho:ops[i]? with
  |none=>
   simp only[ho]at h
   obtain⟨a',w',hq,hs'⟩:=ih a w h b k cs
   have hs:=stepR_op_skip (P:=P) (b:=b) (a:=a) (k:=k) (cs:=cs) (w:=w) (ops:=ops) (i:=i) (rest:=rest) (by simp[ho])
   simp only[ho,Option.bind_none,Act.put]at hs
   exact⟨a',w',hq,.head hs hs'⟩
  |some o=>
   simp only[ho]at h
   by_cases hw:Region.wanted o (yielded ops a.tmps)=true
   ·simp only[hw,if_true]at h
    have hg:=stepGR_op (P:=P) (b:=b) (k:=k) (cs:=cs) (w:=w) (rest:=rest) ho hw
    rw[Oper.semAt_eq _ _ _ (hdef i o ho)]at hg
    have hfin:∀v,(b.atR a (.inRegion ops (i::rest)::k)).finish v=b.atR (a.put o.dst v) (.inRegion ops rest::k):=by
     intro v;rw[Frame.finish_atR,ho];rfl
    rcases h with⟨nx,y,w₁,hr,hy,hK⟩|⟨f,args,w₁,hr,h⟩|⟨l,fn,tmps,as,bd,w₁,hr,h⟩
    ·obtain⟨a',w'',hq,hs⟩:=ih _ _ hK b k cs
     refine⟨a',w'',hq,.head (step_lone_go ?_) hs⟩
     rcases hy with rfl|⟨rfl,rfl⟩
     ·rw[hg,← hfin];simp[stepG.apply,hr]
     ·rw[hg,← hfin];simp[stepG.apply,hr]
    ·obtain⟨e,w'',fr,⟨v,rfl,hR⟩,hsteps,_,hleave⟩:=h (b.atR a (.inRegion ops (i::rest)::k)::cs)
     have henter:step P (lone (b.atR a (.inRegion ops (i::rest)::k)) cs w)=
       .next (lone (Frame.enter P f args .normal) (b.atR a (.inRegion ops (i::rest)::k)::cs) w₁):=
      step_lone_go (by rw[hg];simp[stepG.apply,hr,Frame.atR])
     obtain⟨a',w₃,hq,hs⟩:=ih _ _ hR b k cs
     refine⟨a',w₃,hq,.head henter (hsteps.trans (.head ?_ hs))⟩
     rw[← hfin];exact step_leave_returned hleave
    ·obtain⟨v,w'',hR,hsteps⟩:=h (b.atR a (.inRegion ops (i::rest)::k)) cs
     have henter:step P (lone (b.atR a (.inRegion ops (i::rest)::k)) cs w)=
       .next (lone (Frame.round l fn tmps as bd .normal) (b.atR a (.inRegion ops (i::rest)::k)::cs) w₁):=
      step_lone_go (by rw[hg];simp[stepG.apply,hr,Frame.atR])
     obtain⟨a',w₃,hq,hs⟩:=ih _ _ hR b k cs
     refine⟨a',w₃,hq,.head henter (hsteps.trans ?_)⟩
     rw[hfin];exact hs
   ·simp only[hw,if_false,Bool.false_eq_true]at h
    obtain⟨a',w',hq,hs'⟩:=ih _ _ h b k cs
    have hs:=stepR_op_skip (P:=P) (b:=b) (a:=a) (k:=k) (cs:=cs) (w:=w) (ops:=ops) (i:=i) (rest:=rest) (by simp[ho];simpa using hw)
    simp only[ho,Option.bind_some]at hs
    exact⟨a',w',hq,.head hs hs'⟩

end
end Go.Ab

/-
 A state said more weakly: with other ids, without what is no more needed, with values that are equal.
-/
set_option linter.unusedVariables false
set_option linter.unusedSimpArgs false
namespace Go.Ab
open Go

def PAll:List Prop→Prop
 |[]=>True
 |p::r=>p∧PAll r
theorem PAll.app:∀{a b:List Prop},PAll (a++b)→PAll a∧PAll b
 |[],_,h=>⟨trivial,h⟩
 |_::_,_,h=>let ⟨h1,h2⟩:=PAll.app h.2;⟨⟨h.1,h1⟩,h2⟩

def capP (cap:Option Nat):Option Nat→List Prop
 |none=>[]
 |some n'=>match cap with
  |some n=>[n=n']
  |none=>[False]
def cap0:Option Nat→List Prop
 |none=>[]
 |some n'=>[n'=0]

mutual
def matchV (σ:List (Nat×Nat))(dom:List Nat):Nat→AV→AV→Option (List Prop)
 |0,_,_=>none
 |n+1,v,v'=>
  match v' with
  |.undef=>some []
  |.bool b'=>match v with
   |.bool b=>some [b=b']
   |_=>none
  |.int k' x'=>match v with
   |.int k x=>cond (beqK k k') (some [x=x']) none
   |_=>none
  |.str s'=>match v with
   |.str s=>some [s=s']
   |_=>none
  |.nilp=>match v with
   |.nilp=>some []
   |_=>none
  |.nils=>match v with
   |.nils=>some []
   |_=>none
  |.nilf=>match v with
   |.nilf=>some []
   |_=>none
  |.nili=>match v with
   |.nili=>some []
   |_=>none
  |.iptr c'=>match v with
   |.iptr c=>some [c=c']
   |_=>none
  |.imm c' l' cap'=>match v with
   |.imm c l cap=>some ((c=c')::(l=l')::capP cap cap')
   |.nils=>some ((c'.size=0)::(l'=0)::cap0 cap')
   |_=>none
  |.ptr j o'=>match v with
   |.ptr i o=>match aget σ j with
    |some i'=>cond (Nat.beq i i'&&memN j dom) (some [o=o']) none
    |none=>none
   |_=>none
  |.ep j m' o'=>match v with
   |.ep i m o=>match aget σ j with
    |some i'=>cond (Nat.beq i i'&&memN j dom) (some [m=m',o=o']) none
    |none=>none
   |_=>none
  |.full j m'=>match unc v with
   |.full i m=>match aget σ j with
    |some i'=>cond (Nat.beq i i'&&memN j dom) (some [m=m']) none
    |none=>none
   |_=>none
  |.fullc j m' c'=>match v with
   |.fullc i m c=>match aget σ j with
    |some i'=>cond (Nat.beq i i'&&memN j dom) (some [m=m',c=c']) none
    |none=>none
   |_=>none
  |.sl j o' l' c'=>match v with
   |.sl i o l c=>match aget σ j with
    |some i'=>cond (Nat.beq i i'&&memN j dom) (some [o=o',l=l',c=c']) none
    |none=>none
   |_=>none
  |.fn f' a' b'=>match v with
   |.fn f a b=>cond (Nat.beq f f') (match matchL σ dom n a a',matchL σ dom n b b' with
    |some p,some q=>some (p++q)
    |_,_=>none) none
   |_=>none
  |.agg l'=>match v with
   |.agg l=>matchL σ dom n l l'
   |_=>none
  |.tup l'=>match v with
   |.tup l=>matchL σ dom n l l'
   |_=>none
  |.may b' u'=>match v with
   |.may b u=>match matchV σ dom n u u' with
    |some p=>some ((b=b')::p)
    |none=>none
   |_=>none
  |.iface t' u'=>match v with
   |.iface t u=>cond (Nat.beq t t') (matchV σ dom n u u') none
   |_=>none
  |.yld j=>match v with
   |.yld i=>match aget σ j with
    |some i'=>cond (Nat.beq i i'&&memN j dom) (some []) none
    |none=>none
   |_=>none
  |.mp j=>match v with
   |.mp i=>match aget σ j with
    |some i'=>cond (Nat.beq i i'&&memN j dom) (some []) none
    |none=>none
   |_=>none
  |.vw j n' s' o' l'=>match v with
   |.vw i n s o l=>match aget σ j with
    |some i'=>cond (Nat.beq i i'&&memN j dom) (some [n=n',s=s',o=o',l=l']) none
    |none=>none
   |.full i m=>match aget σ j with
    |some i'=>cond (Nat.beq i i'&&memN j dom) (some [m=n',0=o',m=l']) none
    |none=>none
   |_=>none
  |.spare _=>none
  |.nn=>none
def matchL (σ:List (Nat×Nat))(dom:List Nat):Nat→List AV→List AV→Option (List Prop)
 |0,_,_=>none
 |n+1,l,l'=>
  match l,l' with
  |[],[]=>some []
  |v::r,v'::r'=>match matchV σ dom n v v',matchL σ dom n r r' with
   |some p,some q=>some (p++q)
   |_,_=>none
  |_,_=>none
end

def matchC (σ:List (Nat×Nat))(dom:List Nat)(n:Nat)(c c':Cont):Option (List Prop):=
 match c,c' with
 |.cells l,.cells l'=>matchL σ dom n l l'
 |.ints k l,.ints k' l'=>cond (beqK k k') (some [l=l']) none
 |.bools l,.bools l'=>some [l=l']
 |.strs l,.strs l'=>some [l=l']
 |.vals l,.vals l'=>some [l=l']
 |.maps kk vk es ck,.maps kk' vk' es' ck'=>cond (beqMV kk kk'&&beqMV vk vk') (some [es=es',ck=ck']) none
 |_,_=>none
theorem beqMV_eq {a b:MV}(h:beqMV a b=true):a=b:=by
 unfold beqMV at h
 simp only[Bool.and_eq_true,beq_iff_eq,decide_eq_true_eq]at h
 cases a;cases b
 simp only at h
 rw[h.1,h.2]
theorem matchC_maps {σ:List (Nat×Nat)}{dom:List Nat}{n:Nat}{c c':Cont}{qs:List Prop}(h:matchC σ dom n c c'=some qs)(hp:PAll qs):
  (c'.isMap=false→c.isMap=false)∧∀kk vk es ck,c'=.maps kk vk es ck→c=.maps kk vk es ck:=by
 cases c<;>cases c'<;>simp only[matchC,reduceCtorEq]at h
 case maps.maps kk vk es ck kk' vk' es' ck'=>
  rw[cond_eq_ite]at h
  split at h
  ·rename_i hb
   rw[Bool.and_eq_true]at hb
   cases beqMV_eq hb.1;cases beqMV_eq hb.2
   cases h
   obtain⟨rfl,rfl,_⟩:=hp
   exact⟨fun h=>h,fun _ _ _ _ h=>h⟩
  ·cases h
 all_goals exact⟨fun _=>rfl,fun kk vk es ck e=>by cases e⟩

structure BOk (k k':Blk):Prop where
 sz:k'.sz=k.sz
 n:k'.n=k.n
 bx:k'.bx=k.bx
 mu:k'.mu=k.mu
 nil:k'.nil=k.nil∨k'.nil=none
 cap:k'.cap=k.cap∨k'.cap=none

section
variable {G:GL}{F:Nat→Prop}{ρ ρ':Nat→Option Nat}{H H':Nat→Option HO}{w:World}{σ:List (Nat×Nat)}{dom:List Nat}

def RenOk (ρ ρ':Nat→Option Nat)(H H':Nat→Option HO)(σ:List (Nat×Nat))(dom:List Nat):Prop:=
 ∀j i,memN j dom=true→aget σ j=some i→ρ' j=ρ i∧(∀k,H i=some (.blk k)→∃k',H' j=some (.blk k')∧BOk k k')∧(∀o,H i=some o→∃o',H' j=some o'∧o'.box=o.box)

theorem beqK_ok {k k':IntKind}(h:beqK k k'=true):k=k':=of_decide_eq_true h

theorem FullOk.ren {i j len:Nat}{k k':Blk}{x:Value}(h:FullOk w ρ i len k x)(hb:BOk k k')(hρ:ρ' j=ρ i):FullOk w ρ' j len k' x:=by
 have hc:∀n,k'.cap=some n→k.cap=some n:=fun n h=>by
  rcases hb.cap with e|e
  ·rw[← e];exact h
  ·rw[e]at h;cases h
 have hn:∀q,k'.nil=some q→k.nil=some q:=fun q h=>by
  rcases hb.nil with e|e
  ·rw[← e];exact h
  ·rw[e]at h;cases h
 rcases h with⟨h1,h2,h3,h4⟩|⟨h1,h2,h3,h4⟩|⟨h1,b,cap,cs,ty,fz,g1,g2,g3,g4,g5,g6⟩
 ·exact .inl ⟨h1,fun e=>h2 (hn _ e),fun n e=>h3 n (hc n e),h4⟩
 ·exact .inr (.inl ⟨h1,fun e=>h2 (hn _ e),fun n e=>h3 n (hc n e),h4⟩)
 ·exact .inr (.inr ⟨fun e=>h1 (hn _ e),b,cap,cs,ty,fz,hρ.trans g1,g2,g3,g4,by rw[hb.sz];exact g5,fun n e=>g6.1 n (hc n e),g6.2⟩)

theorem match_sound (hσ:RenOk ρ ρ' H H' σ dom):∀n,(∀v v' ps,matchV σ dom n v v'=some ps→PAll ps→∀x,RelV w F ρ H v x→RelV w F ρ' H' v' x)∧
  (∀l l' ps,matchL σ dom n l l'=some ps→PAll ps→∀xs,RelVs w F ρ H l xs→RelVs w F ρ' H' l' xs):=by
 intro n
 induction n with
 |zero=>exact⟨fun v v' ps h=>by simp[matchV]at h,fun l l' ps h=>by simp[matchL]at h⟩
 |succ n ih=>
  obtain⟨ihV,ihL⟩:=ih
  have ref:∀{i i' j:Nat} {qs:List Prop} {ps:List Prop},(cond (Nat.beq i i'&&memN j dom) (some qs) none)=some ps→i=i'∧memN j dom=true∧qs=ps:=by
   intro i i' j qs ps h
   rw[cond_eq_ite]at h
   split at h
   ·rename_i hc
    rw[Bool.and_eq_true]at hc
    cases h
    exact⟨Nat.eq_of_beq_eq_true hc.1,hc.2,rfl⟩
   ·cases h
  refine⟨fun v v' ps h hp x hx=>?_,fun l l' ps h hp xs hx=>?_⟩
  ·simp only[matchV]at h
   split at h
   ·exact .imm _ _ (.undef _)
   ·split at h
    ·cases h;obtain⟨rfl,_⟩:=hp;have:=hx.bools;subst this;exact .imm _ _ (.bool _)
    ·cases h
   ·split at h
    ·rw[cond_eq_ite]at h
     split at h
     ·rename_i hk
      cases h;obtain⟨rfl,_⟩:=hp;have:=hx.ints;subst this;rw[← beqK_ok hk];exact .imm _ _ (.int _ _)
     ·cases h
    ·cases h
   ·split at h
    ·cases h;obtain⟨rfl,_⟩:=hp;obtain⟨s,rfl,hs⟩:=hx.strs;exact .imm _ _ (.str _ _ hs)
    ·cases h
   ·split at h
    ·cases h;cases hx with|imm _ _ hi=>cases hi;exact .imm _ _ .nilp
    ·cases h
   ·split at h
    ·cases h;cases hx with|imm _ _ hi=>cases hi;exact .imm _ _ .nils
    ·cases h
   ·split at h
    ·cases h;cases hx with|imm _ _ hi=>cases hi;exact .imm _ _ .nilf
    ·cases h
   ·split at h
    ·cases h;cases hx with|imm _ _ hi=>cases hi;exact .imm _ _ .nili
    ·cases h
   ·split at h
    ·cases h;obtain⟨rfl,_⟩:=hp;cases hx with|imm _ _ hi=>exact .imm _ _ hi
    ·cases h
   ·split at h
    ·rename_i c' l' cap' _ c l cap
     cases h
     obtain⟨rfl,rfl,hcap⟩:=hp
     have key:cap'=cap∨cap'=none:=by
      cases cap' with
      |none=>exact .inr rfl
      |some n'=>
       cases cap with
       |none=>exact absurd hcap.1 id
       |some n=>obtain⟨rfl,_⟩:=hcap;exact .inl rfl
     cases hx with
     |imm _ _ hi=>
      rcases key with rfl|rfl
      ·exact .imm _ _ hi
      ·cases hi with
       |imm _ _ _ b o cap' xs hF hc hr ho hl hcap=>exact .imm _ _ (.imm _ _ _ b o cap' xs hF hc hr ho hl (fun n e=>by cases e))
       |imm0 _ _ a hc hcap=>exact .imm _ _ (.imm0 _ _ a hc (fun n e=>by cases e))
    ·rename_i c' l' cap'
     cases h
     obtain⟨h1,rfl,hcap⟩:=hp
     cases hx with
     |imm _ _ hi=>
      cases hi
      refine .imm _ _ (.imm0 _ _ none h1 (fun n e=>?_))
      subst e;exact hcap.1
    ·cases h
   ·split at h
    ·split at h
     ·rename_i i' hi'
      obtain⟨rfl,hm,rfl⟩:=ref h
      obtain⟨rfl,_⟩:=hp
      obtain⟨q1,q2,q3⟩:=hσ _ _ hm hi'
      cases hx with
      |imm _ _ hi=>cases hi
      |ptr _ _ b o hb hh hxb=>
       obtain⟨o',p1,p2⟩:=q3 _ hh
       exact .ptr _ _ b o' (q1.trans hb) p1 (p2.trans hxb)
     ·cases h
    ·cases h
   ·split at h
    ·split at h
     ·rename_i i' hi'
      obtain⟨rfl,hm,rfl⟩:=ref h
      obtain⟨rfl,rfl,_⟩:=hp
      obtain⟨q1,q2,q3⟩:=hσ _ _ hm hi'
      cases hx with
      |imm _ _ hi=>cases hi
      |ep _ _ _ k _ hh hle hpp hxx=>
       obtain⟨k',p1,p2⟩:=q2 _ hh
       refine .ep _ _ _ k' _ p1 (by rw[p2.n];exact hle) hpp (fun e=>?_)
       rw[p2.n]at e
       obtain⟨b,hb,hxb⟩:=hxx e
       exact⟨b,q1.trans hb,hxb⟩
     ·cases h
    ·cases h
   ·split at h
    ·split at h
     ·rename_i i' hi'
      obtain⟨rfl,hm,rfl⟩:=ref h
      obtain⟨rfl,_⟩:=hp
      obtain⟨q1,q2,q3⟩:=hσ _ _ hm hi'
      have hx:=hx.unc
      have hu:=‹unc v=_›
      rw[hu]at hx
      cases hx with
      |imm _ _ hi=>cases hi
      |full _ _ k _ hh hle hpp hxx=>
       obtain⟨k',p1,p2⟩:=q2 _ hh
       refine .full _ _ k' _ p1 (by rw[p2.n];exact hle) hpp (fun e=>?_)
       rw[p2.n]at e
       exact(hxx e).ren p2 q1
     ·cases h
    ·cases h
   ·split at h
    ·split at h
     ·rename_i i' hi'
      obtain⟨rfl,hm,rfl⟩:=ref h
      obtain⟨rfl,rfl,_⟩:=hp
      obtain⟨q1,q2,q3⟩:=hσ _ _ hm hi'
      cases hx with
      |imm _ _ hi=>cases hi
      |fullc _ _ _ a hf=>
       cases hf with
       |imm _ _ hi=>cases hi
       |full _ _ k _ hh hle hpp hxx=>
        obtain⟨k',p1,p2⟩:=q2 _ hh
        refine .fullc _ _ _ a (.full _ _ k' _ p1 (by rw[p2.n];exact hle) hpp (fun e=>?_))
        rw[p2.n]at e
        exact(hxx e).ren p2 q1
     ·cases h
    ·cases h
   ·split at h
    ·split at h
     ·rename_i i' hi'
      obtain⟨rfl,hm,rfl⟩:=ref h
      obtain⟨rfl,rfl,rfl,_⟩:=hp
      obtain⟨q1,q2,q3⟩:=hσ _ _ hm hi'
      cases hx with
      |imm _ _ hi=>cases hi
      |sl _ _ _ _ b k hb hh hxb hlc=>
       obtain⟨k',p1,p2⟩:=q2 _ hh
       exact .sl _ _ _ _ b k' (q1.trans hb) p1 (p2.bx.trans hxb) hlc
     ·cases h
    ·cases h
   ·split at h
    ·rw[cond_eq_ite]at h
     split at h
     ·rename_i hf
      split at h
      ·rename_i p q h1 h2
       cases h
       obtain⟨hp1,hp2⟩:=hp.app
       obtain⟨y1,y2,rfl,r1,r2⟩:=hx.fns
       rw[← Nat.eq_of_beq_eq_true hf]
       exact .fn _ _ _ _ _ (ihL _ _ _ h1 hp1 _ r1) (ihL _ _ _ h2 hp2 _ r2)
      ·cases h
     ·cases h
    ·cases h
   ·split at h
    ·obtain⟨y,rfl,r⟩:=hx.aggs;exact .agg _ _ (ihL _ _ _ h hp _ r)
    ·cases h
   ·split at h
    ·obtain⟨y,rfl,r⟩:=hx.tups;exact .tup _ _ (ihL _ _ _ h hp _ r)
    ·cases h
   ·split at h
    ·split at h
     ·rename_i p h1
      cases h
      obtain⟨rfl,hp'⟩:=hp
      exact .may _ _ _ (fun e=>ihV _ _ _ h1 hp' _ (hx.mayInv e)) hx.mayNot
     ·cases h
    ·cases h
   ·split at h
    ·rw[cond_eq_ite]at h
     split at h
     ·rename_i ht
      rw[← Nat.eq_of_beq_eq_true ht]
      cases hx with
      |imm _ _ hi=>cases hi with|iface _ _ y hi=>exact .iface _ _ y (ihV _ _ _ h hp _ hi.toV)
      |iface _ _ y hv=>exact .iface _ _ y (ihV _ _ _ h hp _ hv)
     ·cases h
    ·cases h
   ·split at h
    ·split at h
     ·rename_i i' hi'
      obtain⟨rfl,hm,rfl⟩:=ref h
      obtain⟨q1,q2,q3⟩:=hσ _ _ hm hi'
      cases hx with
      |imm _ _ hi=>cases hi
      |yld _ b o hb hh hxb=>
       obtain⟨o',p1,p2⟩:=q3 _ hh
       exact .yld _ b o' (q1.trans hb) p1 (p2.trans hxb)
     ·cases h
    ·cases h
   ·split at h
    ·split at h
     ·rename_i i' hi'
      obtain⟨rfl,hm,rfl⟩:=ref h
      obtain⟨q1,q2,q3⟩:=hσ _ _ hm hi'
      cases hx with
      |imm _ _ hi=>cases hi
      |mp _ b o hb hh hxb=>
       obtain⟨o',p1,p2⟩:=q3 _ hh
       exact .mp _ b o' (q1.trans hb) p1 (p2.trans hxb)
     ·cases h
    ·cases h
   ·split at h
    ·split at h
     ·rename_i i' hi'
      obtain⟨rfl,hm,rfl⟩:=ref h
      obtain⟨rfl,rfl,rfl,rfl,_⟩:=hp
      obtain⟨q1,q2,q3⟩:=hσ _ _ hm hi'
      cases hx with
      |imm _ _ hi=>cases hi
      |vw _ _ _ _ _ k _ hh hle hpp hxx=>
       obtain⟨k',p1,p2⟩:=q2 _ hh
       refine .vw _ _ _ _ _ k' _ p1 (by rw[p2.n];exact hle) hpp (fun e=>?_)
       rw[p2.n]at e
       obtain⟨z1,a,c,z2,z3⟩:=hxx e
       exact⟨z1,a,c,z2.ren p2 q1,z3⟩
     ·cases h
    ·split at h
     ·rename_i i' hi'
      obtain⟨rfl,hm,rfl⟩:=ref h
      obtain⟨rfl,rfl,rfl,_⟩:=hp
      obtain⟨q1,q2,q3⟩:=hσ _ _ hm hi'
      cases hx with
      |imm _ _ hi=>cases hi
      |full _ _ k _ hh hle hpp hxx=>
       obtain⟨k',p1,p2⟩:=q2 _ hh
       refine .vw _ _ _ _ _ k' _ p1 (by rw[p2.n];exact hle) hpp (fun e=>?_)
       rw[p2.n]at e
       have hf:=(hxx e).ren p2 q1
       obtain⟨a,l,c,rfl⟩:=hpp
       have hl:l=_:=FullOk.len hf
       subst hl
       refine⟨by omega,a,c,hf,?_⟩
       cases a<;>simp[Addr.add]
     ·cases h
    ·cases h
   ·cases h
   ·cases h
  ·simp only[matchL]at h
   split at h
   ·cases hx;exact .nil
   ·split at h
    ·rename_i p q h1 h2
     cases h
     obtain⟨hp1,hp2⟩:=hp.app
     cases hx with
     |cons _ _ y ys hv hs=>exact .cons _ _ _ _ (ihV _ _ _ h1 hp1 _ hv) (ihL _ _ _ h2 hp2 _ hs)
    ·cases h
   ·cases h

end
end Go.Ab

/-
 A state said more weakly: states.
-/
set_option linter.unusedVariables false
set_option linter.unusedSimpArgs false
namespace Go.Ab
open Go

def beqBo:Bool→Bool→Bool
 |true,true=>true
 |false,false=>true
 |_,_=>false
def nilB:Option Bool→Option Bool→Bool
 |_,none=>true
 |some a,some b=>beqBo a b
 |none,some _=>false
def matchT (σ:List (Nat×Nat))(dom:List Nat)(T:List (Nat×AV)):List (Nat×AV)→Option (List Prop)
 |[]=>some []
 |(t,v')::r=>match aget T t with
  |some v=>match matchV σ dom 1000 v v',matchT σ dom T r with
   |some p,some q=>some (p++q)
   |_,_=>none
  |none=>none
def matchO (σ:List (Nat×Nat))(dom:List Nat):HO→HO→Option (List Prop)
 |.blk b,.blk b'=>cond (Nat.beq b.sz b'.sz&&(beqBo b.mu b'.mu&&(beqBo b.bx b'.bx&&nilB b.nil b'.nil))) (match matchC σ dom 1000 b.c b'.c with
  |some p=>some ((b.n=b'.n)::(capP b.cap b'.cap++p))
  |none=>none) none
 |.iter s p,.iter s' p'=>some [s=s',p=p']
 |.loop l,.loop l'=>match matchT σ dom l.t l'.t with
  |some p=>some ((l'.st=l.st)::(l'.pend=l.pend)::(l'.n=l.n)::(l'.ps=l.ps)::(l'.as=l.as)::(l'.bd=l.bd)::p)
  |none=>none
 |_,_=>none
def matchH (σ:List (Nat×Nat))(dom:List Nat)(h:List (Nat×HO)):List (Nat×HO)→Option (List Prop)
 |[]=>some []
 |(j,o')::r=>match aget σ j with
  |some i=>match aget h i with
   |some o=>match matchO σ dom o o',matchH σ dom h r with
    |some p,some q=>some (p++q)
    |_,_=>none
   |none=>none
  |none=>none
def nodupV:List (Nat×Nat)→Bool
 |[]=>true
 |(_,v)::r=>cond (hasV v r) false (nodupV r)
where hasV (v:Nat):List (Nat×Nat)→Bool
 |[]=>false
 |(_,u)::r=>cond (Nat.beq u v) true (hasV v r)
def nilEq:HO→HO→Bool
 |.blk b,.blk b'=>match b.nil,b'.nil with
  |some x,some y=>beqBo x y
  |none,none=>true
  |_,_=>false
 |_,_=>true
def keepB (σ:List (Nat×Nat))(S S':St):List Nat→Bool
 |[]=>true
 |i::r=>match aget S.h i with
  |none=>keepB σ S S' r
  |some o=>match aget σ i,aget S'.h i with
   |some j,some o'=>cond (Nat.beq i j&&nilEq o o') (keepB σ S S' r) false
   |_,_=>false
def renS (σ:List (Nat×Nat))(S S':St):Option (List Prop):=
 match matchH σ (keys S'.h) S.h S'.h,matchT σ (keys S'.h) S.t S'.t with
 |some p,some q=>cond (nodupV σ&&Nat.beq S'.n S.n) (some (p++q)) none
 |_,_=>none

section
variable {G:GL}{F:Nat→Prop}{ρ ρ':Nat→Option Nat}{H H':Nat→Option HO}{w:World}{σ:List (Nat×Nat)}{dom:List Nat}

theorem matchL_get:∀{n:Nat} {l l':List AV} {ps:List Prop},matchL σ dom n l l'=some ps→PAll ps→l'.length=l.length∧∀i,i<l.length→∃m qs,matchV σ dom m (l.getD i .undef) (l'.getD i .undef)=some qs∧PAll qs
 |0,l,l',ps,h,hp=>by simp[matchL]at h
 |n+1,l,l',ps,h,hp=>by
  simp only[matchL]at h
  split at h
  ·exact⟨rfl,fun i hi=>by simp at hi⟩
  ·split at h
   ·rename_i p q h1 h2
    cases h
    obtain⟨hp1,hp2⟩:=hp.app
    obtain⟨g1,g2⟩:=matchL_get h2 hp2
    refine⟨by simp[g1],fun i hi=>?_⟩
    cases i with
    |zero=>exact⟨n,p,by simpa using h1,hp1⟩
    |succ i=>
     obtain⟨m,qs,k1,k2⟩:=g2 i (by simpa using hi)
     exact⟨m,qs,by simpa using k1,k2⟩
   ·cases h
  ·cases h

theorem matchC_ok (hσ:RenOk ρ ρ' H H' σ dom){n:Nat}{c c':Cont}{ps:List Prop}(h:matchC σ dom n c c'=some ps)(hp:PAll ps):
  c'.size=c.size∧∀i x,i<c.size→RelE w F ρ H c i x→RelE w F ρ' H' c' i x:=by
 unfold matchC at h
 split at h
 ·obtain⟨g1,g2⟩:=matchL_get h hp
  refine⟨g1,fun i x hi hx=>⟨?_,hx.2⟩⟩
  obtain⟨m,qs,k1,k2⟩:=g2 i hi
  exact(match_sound hσ m).1 _ _ _ k1 k2 _ hx.1
 ·rw[cond_eq_ite]at h
  split at h
  ·rename_i hk
   cases h
   obtain⟨rfl,_⟩:=hp
   rw[beqK_ok hk]
   exact⟨rfl,fun i x hi hx=>hx⟩
  ·cases h
 ·cases h;obtain⟨rfl,_⟩:=hp;exact⟨rfl,fun i x hi hx=>hx⟩
 ·cases h;obtain⟨rfl,_⟩:=hp;exact⟨rfl,fun i x hi hx=>hx⟩
 ·cases h;obtain⟨rfl,_⟩:=hp;exact⟨rfl,fun i x hi hx=>hx⟩
 ·exact⟨rfl,fun i x hi=>by simp[Cont.size]at hi⟩
 ·cases h

theorem beqBo_ok {a b:Bool}(h:beqBo a b=true):a=b:=by cases a<;>cases b<;>first|rfl|cases h
theorem nilB_ok {a b:Option Bool}(h:nilB a b=true):b=a∨b=none:=by
 cases b with
 |none=>exact .inr rfl
 |some b=>
  cases a with
  |none=>cases h
  |some a=>have:beqBo a b=true:=h;rw[beqBo_ok this];exact .inl rfl
theorem capP_ok {a b:Option Nat}(h:PAll (capP a b)):b=a∨b=none:=by
 cases b with
 |none=>exact .inr rfl
 |some b=>
  cases a with
  |none=>exact absurd h.1 id
  |some a=>obtain⟨rfl,_⟩:=h;exact .inl rfl

theorem matchO_ok {o o':HO}{ps:List Prop}(h:matchO σ dom o o'=some ps)(hp:PAll ps):
  (∃k k' qs,o=.blk k∧o'=.blk k'∧BOk k k'∧matchC σ dom 1000 k.c k'.c=some qs∧PAll qs)∨(∃s p,o=.iter s p∧o'=.iter s p)∨(∃l l' qs,o=.loop l∧o'=.loop l'∧matchT σ dom l.t l'.t=some qs∧PAll qs∧l'.st=l.st∧l'.pend=l.pend∧l'.n=l.n∧l'.ps=l.ps∧l'.as=l.as∧l'.bd=l.bd):=by
 unfold matchO at h
 split at h
 ·rename_i b b'
  rw[cond_eq_ite]at h
  split at h
  ·rename_i hc
   simp only[Bool.and_eq_true]at hc
   obtain⟨c1,c2,c3,c4⟩:=hc
   split at h
   ·rename_i p h1
    cases h
    obtain⟨e1,h2⟩:=hp
    obtain⟨e2,e3⟩:=h2.app
    exact .inl ⟨b,b',p,rfl,rfl,⟨(Nat.eq_of_beq_eq_true c1).symm,e1.symm,(beqBo_ok c3).symm,(beqBo_ok c2).symm,nilB_ok c4,capP_ok e2⟩,h1,e3⟩
   ·cases h
  ·cases h
 ·cases h
  obtain⟨rfl,rfl,_⟩:=hp
  exact .inr (.inl ⟨_,_,rfl,rfl⟩)
 ·split at h
  ·rename_i p h1
   cases h
   obtain⟨q1,q2,q3,q4,q5,q6,q7⟩:=hp
   exact .inr (.inr ⟨_,_,p,rfl,rfl,h1,q7,q1,q2,q3,q4,q5,q6⟩)
  ·cases h
 ·cases h

theorem matchH_get {h:List (Nat×HO)}:∀{l:List (Nat×HO)} {ps:List Prop},matchH σ dom h l=some ps→PAll ps→∀j o',aget l j=some o'→∃i o qs,aget σ j=some i∧aget h i=some o∧matchO σ dom o o'=some qs∧PAll qs
 |[],ps,hm,hp,j,o',e=>by cases e
 |(k,u)::r,ps,hm,hp,j,o',e=>by
  simp only[matchH]at hm
  split at hm
  ·rename_i i hi
   split at hm
   ·rename_i o ho
    split at hm
    ·rename_i p q h1 h2
     cases hm
     obtain⟨hp1,hp2⟩:=hp.app
     simp only[aget]at e
     by_cases hk:k=j
     ·subst hk
      rw[beq_self,cond_true]at e;cases e
      exact⟨i,o,p,hi,ho,h1,hp1⟩
     ·rw[beq_ne hk,cond_false]at e
      exact matchH_get h2 hp2 j o' e
    ·cases hm
   ·cases hm
  ·cases hm

theorem matchT_get {T:List (Nat×AV)}:∀{l:List (Nat×AV)} {ps:List Prop},matchT σ dom T l=some ps→PAll ps→∀t v',aget l t=some v'→∃v qs,aget T t=some v∧matchV σ dom 1000 v v'=some qs∧PAll qs
 |[],ps,hm,hp,j,o',e=>by cases e
 |(k,u)::r,ps,hm,hp,j,o',e=>by
  simp only[matchT]at hm
  split at hm
  ·rename_i v hv
   split at hm
   ·rename_i p q h1 h2
    cases hm
    obtain⟨hp1,hp2⟩:=hp.app
    simp only[aget]at e
    by_cases hk:k=j
    ·subst hk
     rw[beq_self,cond_true]at e;cases e
     exact⟨v,p,hv,h1,hp1⟩
    ·rw[beq_ne hk,cond_false]at e
     exact matchT_get h2 hp2 j o' e
   ·cases hm
  ·cases hm

theorem keys_aget {α:Type}{k:Nat}:∀{l:List (Nat×α)},k∈keys l→∃v,aget l k=some v
 |[],h=>by simp[keys]at h
 |(j,u)::r,h=>by
  simp only[aget]
  by_cases e:j=k
  ·subst e;rw[beq_self];exact⟨u,rfl⟩
  ·rw[beq_ne e,cond_false]
   simp only[keys,List.mem_cons]at h
   exact keys_aget (h.resolve_left (fun h=>e h.symm))

theorem hasV_of {v:Nat}:∀{r:List (Nat×Nat)} {k:Nat},aget r k=some v→nodupV.hasV v r=true
 |[],k,h=>by cases h
 |(j,u)::r,k,h=>by
  simp only[aget]at h
  simp only[nodupV.hasV]
  by_cases e:j=k
  ·subst e;rw[beq_self,cond_true]at h;cases h;rw[beq_self];rfl
  ·rw[beq_ne e,cond_false]at h
   rw[hasV_of h];cases Nat.beq u v<;>rfl
theorem nodupV_ok:∀{σ:List (Nat×Nat)},nodupV σ=true→∀{i j v:Nat},aget σ i=some v→aget σ j=some v→i=j
 |[],_,i,j,v,h,_=>by cases h
 |(k,u)::r,hn,i,j,v,hi,hj=>by
  simp only[nodupV,cond_eq_ite]at hn
  split at hn
  ·cases hn
  ·rename_i hh
   simp only[aget]at hi hj
   by_cases e1:k=i<;>by_cases e2:k=j
   ·exact e1.symm.trans e2
   ·subst e1
    rw[beq_self,cond_true]at hi;cases hi
    rw[beq_ne e2,cond_false]at hj
    exact absurd (hasV_of hj) hh
   ·subst e2
    rw[beq_self,cond_true]at hj;cases hj
    rw[beq_ne e1,cond_false]at hi
    exact absurd (hasV_of hi) hh
   ·rw[beq_ne e1,cond_false]at hi
    rw[beq_ne e2,cond_false]at hj
    exact nodupV_ok hn hi hj

structure HKp (kp:List Nat)(w:World)(ρ:Nat→Option Nat)(h:Nat→Option HO)(w':World)(ρ':Nat→Option Nat)(h':Nat→Option HO):Prop where
 box:∀id o,id∈kp→h id=some o→o.box=true→∃o',h' id=some o'∧o'.box=true∧ρ' id=ρ id
 blk:∀id k,id∈kp→h id=some (.blk k)→∃k',h' id=some (.blk k')∧k'.bx=k.bx∧k.n≤k'.n∧
  (k'.n=k.n→k'.nil=k.nil∧k'.sz=k.sz∧(k'.cap=k.cap∨k'.cap=none)∧ρ' id=ρ id)
 sz:∀(b:Nat) (cs:Array Value) (ty:TypeId) (fz:Nat×Nat),w.heap[b]? =some (.cells cs ty fz)→∃cs' ty' fz',w'.heap[b]? =some (.cells cs' ty' fz')∧cs'.size=cs.size
theorem HKeep.kp {kp:List Nat}{w w':World}{ρ ρ':Nat→Option Nat}{h h':Nat→Option HO}(hk:HKeep w ρ h w' ρ' h'):HKp kp w ρ h w' ρ' h':=
 ⟨fun id o _=>hk.box id o,fun id k _=>hk.blk id k,hk.sz⟩
theorem HKp.trans {kp:List Nat}{w w' w'':World}{ρ ρ' ρ'':Nat→Option Nat}{h h' h'':Nat→Option HO}(a:HKp kp w ρ h w' ρ' h')(b:HKp kp w' ρ' h' w'' ρ'' h''):HKp kp w ρ h w'' ρ'' h'' where
 box:=fun id o hid h1 h2=>by
  obtain⟨o',g1,g2,g3⟩:=a.box id o hid h1 h2
  obtain⟨o'',k1,k2,k3⟩:=b.box id o' hid g1 g2
  exact⟨o'',k1,k2,k3.trans g3⟩
 blk:=fun id k hid h1=>by
  obtain⟨k',g1,g2,g3,g4⟩:=a.blk id k hid h1
  obtain⟨k'',l1,l2,l3,l4⟩:=b.blk id k' hid g1
  refine⟨k'',l1,l2.trans g2,Nat.le_trans g3 l3,fun e=>?_⟩
  have e1:k'.n=k.n:=by omega
  obtain⟨p1,p2,p3,p4⟩:=g4 e1
  obtain⟨q1,q2,q3,q4⟩:=l4 (by omega)
  exact⟨q1.trans p1,q2.trans p2,by rcases q3 with q|q<;>rcases p3 with p|p<;>simp_all,q4.trans p4⟩
 sz:=fun b1 cs ty fz h1=>by
  obtain⟨cs1,ty1,fz1,g1,g2⟩:=a.sz b1 cs ty fz h1
  obtain⟨cs2,ty2,fz2,g3,g4⟩:=b.sz b1 cs1 ty1 fz1 g1
  exact⟨cs2,ty2,fz2,g3,g4.trans g2⟩
theorem HKp.refl (kp:List Nat)(w:World)(ρ:Nat→Option Nat)(h:Nat→Option HO):HKp kp w ρ h w ρ h:=(HKeep.refl w ρ h).kp

theorem nilEq_ok {k k':Blk}(h:nilEq (.blk k) (.blk k')=true):k'.nil=k.nil:=by
 simp only[nilEq]at h
 split at h
 ·rename_i e1 e2;rw[e1,e2,beqBo_ok h]
 ·rename_i e1 e2;rw[e1,e2]
 ·cases h
theorem keepB_ok {S S':St}:∀{kp:List Nat},keepB σ S S' kp=true→∀id o,id∈kp→aget S.h id=some o→aget σ id=some id∧∃o',aget S'.h id=some o'∧nilEq o o'=true
 |[],h,id,o,hid,ho=>by simp at hid
 |i::r,h,id,o,hid,ho=>by
  simp only[keepB]at h
  split at h
  ·rename_i hn
   rcases List.mem_cons.1 hid with rfl|hid
   ·rw[hn]at ho;cases ho
   ·exact keepB_ok h id o hid ho
  ·rename_i o1 h1
   split at h
   ·rename_i j o' h2 h3
    rw[cond_eq_ite]at h
    split at h
    ·rename_i hc
     rw[Bool.and_eq_true]at hc
     rcases List.mem_cons.1 hid with rfl|hid
     ·rw[h1]at ho;cases ho
      exact⟨by rw[h2,Nat.eq_of_beq_eq_true hc.1],o',h3,hc.2⟩
     ·exact keepB_ok h id o hid ho
    ·cases h
   ·cases h

theorem ren_soundM {S S':St}{ps:List Prop}(h:renS σ S S'=some ps)(hp:PAll ps)(hm0:MRel G F ρ (aget S.h) w):S'.n=S.n∧∃ρ',MRel G F ρ' (aget S'.h) w∧Ext G F ρ w F ρ' w∧(∀tmps:Array Value,(∀t v,aget S.t t=some v→RelV w F ρ (aget S.h) v (tmps.getD t undef))→∀t v,aget S'.t t=some v→RelV w F ρ' (aget S'.h) v (tmps.getD t undef))∧∀kp,keepB σ S S' kp=true→HKp kp w ρ (aget S.h) w ρ' (aget S'.h):=by
 unfold renS at h
 split at h
 ·rename_i p q h1 h2
  rw[cond_eq_ite]at h
  split at h
  ·rename_i hc
   rw[Bool.and_eq_true]at hc
   cases h
   obtain⟨hp1,hp2⟩:=hp.app
   let ρ':Nat→Option Nat:=fun j=>cond (memN j (keys S'.h)) ((aget σ j).bind ρ) none
   have hρ:∀j i,memN j (keys S'.h)=true→aget σ j=some i→ρ' j=ρ i:=fun j i h1 h2=>by simp only[ρ',h1,h2,cond_true,Option.bind_some]
   have hinv:∀j b,ρ' j=some b→memN j (keys S'.h)=true∧∃i,aget σ j=some i∧ρ i=some b:=fun j b hb=>by
    simp only[ρ']at hb
    cases hm:memN j (keys S'.h)with
    |false=>rw[hm]at hb;cases hb
    |true=>
     rw[hm,cond_true]at hb
     cases hs:aget σ j with
     |none=>rw[hs]at hb;cases hb
     |some i=>rw[hs,Option.bind_some]at hb;exact⟨rfl,i,rfl,hb⟩
   have hσ:RenOk ρ ρ' (aget S.h) (aget S'.h) σ (keys S'.h):=fun j i hm hi=>by
    obtain⟨o',ho'⟩:=keys_aget (memN_iff.1 hm)
    obtain⟨i',o,qs,g1,g2,g3,g4⟩:=matchH_get h1 hp1 j o' ho'
    rw[hi]at g1;cases g1
    refine⟨hρ j i hm hi,fun k hk=>?_,fun o2 ho2=>?_⟩
    ·rw[g2]at hk;cases hk
     rcases matchO_ok g3 g4 with⟨k1,k',qs',e1,e2,e3,_⟩|⟨s,p,e1,e2⟩|⟨l,l',_,e1,e2,_⟩
     ·cases e1;exact⟨k',e2▸ho',e3⟩
     ·cases e1
     ·cases e1
    ·rw[g2]at ho2;cases ho2
     rcases matchO_ok g3 g4 with⟨k1,k',qs',e1,e2,e3,_⟩|⟨s,p,e1,e2⟩|⟨l,l',_,e1,e2,_⟩
     ·subst e1;subst e2;exact⟨_,ho',e3.bx⟩
     ·subst e1;subst e2;exact⟨_,ho',rfl⟩
     ·subst e1;subst e2;exact⟨_,ho',rfl⟩
   have hext:Ext G F ρ w F ρ' w:=⟨IoEq.refl _,Nat.le_refl _,fun _ _ _=>rfl,fun _ _=>rfl,fun _ h=>h,fun _ h=>.inl h,fun j b hb=>by
    obtain⟨_,i,_,h⟩:=hinv j b hb;exact .inl ⟨i,h⟩⟩
   refine⟨Nat.eq_of_beq_eq_true hc.2,ρ',⟨fun j o' ho'=>?_,fun j b hb=>?_,fun i j b hi hj=>?_,fun j b hb=>?_,hm0.frz,hm0.glob⟩,hext,fun tmps htm t v' hv'=>?_,fun kp hkp=>?_⟩
   ·have hm:memN j (keys S'.h)=true:=memN_iff.2 (keys_of_aget ho')
    obtain⟨i,o,qs,g1,g2,g3,g4⟩:=matchH_get h1 hp1 j o' ho'
    have hO:=hm0.heap i o g2
    rcases matchO_ok g3 g4 with⟨k,k',qs',rfl,rfl,e3,e4,e5⟩|⟨s,p,rfl,rfl⟩|⟨l,l',qs',rfl,rfl,e4,e5,e6,e7,e8,e9,e10,e11⟩
    ·obtain⟨s1,s2⟩:=matchC_ok (w:=w) (F:=F) hσ e4 e5
     obtain⟨o1,o2⟩:=hO
     refine⟨by rw[s1,e3.n,e3.sz];exact o1,?_⟩
     rcases o2 with⟨z1,z2⟩|⟨b,z1,z2⟩
     ·exact .inl ⟨by rw[e3.n];exact z1,(hρ j i hm g1).trans z2⟩
     ·refine .inr ⟨b,(hρ j i hm g1).trans z1,⟨fun hnm=>?_,fun kk vk es ck e=>z2.mp kk vk es ck ((matchC_maps e4 e5).2 _ _ _ _ e),fun e=>z2.mu (by rw[← e3.mu];exact e),fun e=>z2.fr (by rw[← e3.mu];exact e)⟩⟩
      obtain⟨cs,ty,fz,y1,y2,y3,y4⟩:=z2.ex ((matchC_maps e4 e5).1 hnm)
      refine⟨cs,ty,fz,y1,y2,by rw[s1];exact y3,fun q hq=>?_⟩
      rw[s1]at hq
      obtain⟨x,x1,x2⟩:=y4 q hq
      exact⟨x,x1,s2 q x hq x2⟩
    ·obtain⟨b,z1,z2⟩:=hO
     exact⟨b,(hρ j i hm g1).trans z1,z2⟩
    ·obtain⟨b,z1,z2,r,z3,z4⟩:=hO
     refine⟨b,(hρ j i hm g1).trans z1,z2,r,z3,⟨by rw[e6];exact z4.st,by rw[e7];exact z4.pend,by rw[e8];exact z4.size,fun t v' hv'=>?_,by rw[e9];exact z4.ps,by rw[e10];exact z4.as,by rw[e11];exact z4.bd⟩⟩
     obtain⟨v,qs2,y1,y2,y3⟩:=matchT_get e4 e5 t v' hv'
     exact(match_sound hσ 1000).1 _ _ _ y2 y3 _ (z4.tmps t v y1)
   ·exact keys_aget (memN_iff.1 (hinv j b hb).1)
   ·obtain⟨_,i',hi1,hi2⟩:=hinv i b hi
    obtain⟨_,j',hj1,hj2⟩:=hinv j b hj
    have:=hm0.inj i' j' b hi2 hj2
    subst this
    exact nodupV_ok hc.1 hi1 hj1
   ·obtain⟨_,i,_,h⟩:=hinv j b hb
    exact hm0.lt i b h
   ·obtain⟨v,qs,g1,g2,g3⟩:=matchT_get h2 hp2 t v' hv'
    exact(match_sound hσ 1000).1 _ _ _ g2 g3 _ (htm t v g1)
   ·have hkeep:∀id o,id∈kp→aget S.h id=some o→aget σ id=some id∧∃o',aget S'.h id=some o'∧nilEq o o'=true:=fun id o hid ho=>keepB_ok hkp id o hid ho
    refine⟨fun id o hid ho hb=>?_,fun id k hid ho=>?_,fun b cs ty fz hb=>⟨cs,ty,fz,hb,rfl⟩⟩
    ·obtain⟨p1,o',p2,_⟩:=hkeep id o hid ho
     have hm:memN id (keys S'.h)=true:=memN_iff.2 (keys_of_aget p2)
     obtain⟨r1,_,r3⟩:=hσ id id hm p1
     obtain⟨o2,r4,r5⟩:=r3 o ho
     exact⟨o2,r4,r5.trans hb,r1⟩
    ·obtain⟨p1,o',p2,p3⟩:=hkeep id _ hid ho
     have hm:memN id (keys S'.h)=true:=memN_iff.2 (keys_of_aget p2)
     obtain⟨r1,r2,_⟩:=hσ id id hm p1
     obtain⟨k',r4,r5⟩:=r2 k ho
     rw[p2]at r4;cases r4
     exact⟨k',p2,r5.bx,Nat.le_of_eq r5.n.symm,fun _=>⟨nilEq_ok p3,r5.sz,r5.cap,r1⟩⟩
  ·cases h
 ·cases h

theorem ren_sound {S S':St}{a:Act}{ps:List Prop}(h:renS σ S S'=some ps)(hp:PAll ps)(hr:RS G F ρ S a w):∃ρ',RS G F ρ' S' a w∧Ext G F ρ w F ρ' w∧∀kp,keepB σ S S' kp=true→HKp kp w ρ (aget S.h) w ρ' (aget S'.h):=by
 obtain⟨h1,ρ',h2,h3,h4,h5⟩:=ren_soundM h hp hr.mem
 exact⟨ρ',⟨hr.size.trans h1.symm,h4 a.tmps hr.tmps,h2,hr.defs.ext h3 rfl⟩,h3,h5⟩

end
end Go.Ab

/-
 Code, executed abstractly along a plan: the tree of its outcomes, with what must be shown on the way.
-/
set_option linter.unusedVariables false
set_option linter.unusedSimpArgs false
namespace Go.Ab
open Go

abbrev Hints:=List (Nat×(List Nat×List Nat))
def compC (P:Program)(hs:Hints):Code→Option XC
 |.skip=>some .skip
 |.region id ops drw=>match compXOs P ops ops.toList with
  |some xs=>match drw with
   |false=>some (.reg (64*(id+1)) xs ((aget hs id).getD ([],[])).2)
   |true=>some (.draw (64*(id+1)) xs (ops.toList.map depOf) ((aget hs id).getD ([],[])).1 ((aget hs id).getD ([],[])).2)
  |none=>none
 |.seq a b=>match compC P hs a,compC P hs b with
  |some x,some y=>some (.seq x y)
  |_,_=>none
 |.cond c a b=>match compX c,compC P hs a,compC P hs b with
  |some c,some x,some y=>some (.cond c x y)
  |_,_,_=>none
 |.block id a=>match compC P hs a with
  |some x=>some (.block id x)
  |none=>none
 |.loop a=>match compC P hs a with
  |some x=>some (.loop x)
  |none=>none
 |.exit id=>some (.exit id)
 |.ret=>some .ret
 |.rangeFunc g ps a b=>match compX g,compC P hs a,compC P hs b with
  |some g,some x,some y=>some (.rangeF g ps.toList x y)
  |_,_,_=>none
 |.scope a=>match compC P hs a with
  |some x=>some (.scope x)
  |none=>none
 |.label _=>some .skip
 |_=>some .bad
def cmOf (P:Program)(c:Code)(xc:XC):Prop:=∃hs,compC P hs c=some xc
structure Md where
 rid:Option Nat
 kp:List Nat
def Md.ks (m:Md):List Nat:=m.rid.toList++m.kp

mutual
inductive Pl where
 |nil
 |r (ds:Dirs) (p:Pl)
 |frz (t:Nat) (p:Pl)
 |gho (t id sz:Nat) (c:Cont) (p:Pl)
 |ren (σ:List (Nat×Nat)) (S:St) (p:Pl)
 |br (b:Bool) (p q:Pl)
 |tt (p:Pl)
 |ff (p:Pl)
 |cnd (p q:Pl)
 |lit (p:Pl)
 |lp (outs:Tree)
 |un (p:Pl)
inductive Tree where
 |leaf (e:Ex) (S:St) (p:Pl)
 |ob (p:Prop) (t:Tree)
 |br (b:Bool) (t u:Tree)
 |lp (a:XC) (S:St) (outs t:Tree)
end

def delL {α:Type}:List (Nat×α)→List Nat→List (Nat×α)
 |l,[]=>l
 |l,k::r=>delL (adel l k) r
def delS (S:St)(dead:List Nat):St:={S with t:=delL S.t dead}

def frzS (S:St)(t:Nat):Option (St×List Cd):=
 match aget S.t t with
 |some v=>match frzV (aget S.h) 60 v with
  |some (v',ids,cs)=>cond (Nat.ble (t+1) S.n) (some ({t:=aset S.t t v',h:=asets S.h (frzW (aget S.h) ids),n:=S.n},cs)) none
  |none=>none
 |none=>none
def ghoS (S:St)(t id sz:Nat)(c:Cont):Option St:=
 match aget S.t t with
 |some .nils=>cond (freshA S.h [id]&&Nat.beq c.size 0) (some {t:=aset S.t t (.full id 0),h:=aset S.h id (.blk {c,sz,n:=0,cap:=some 0,nil:=some true,mu:=true,bx:=false}),n:=S.n}) none
 |_=>none

def Tree.bindN (f:St→Pl→Option Tree):Tree→Option Tree
 |.leaf e S p=>match e with
  |.normal=>f S p
  |e=>some (.leaf e S p)
 |.ob p t=>match t.bindN f with
  |some t=>some (.ob p t)
  |none=>none
 |.br b t u=>match t.bindN f,u.bindN f with
  |some t,some u=>some (.br b t u)
  |_,_=>none
 |.lp a S outs t=>match t.bindN f with
  |some t=>some (.lp a S outs t)
  |none=>none
def Tree.catch (id:Nat):Tree→Tree
 |.leaf e S p=>match e with
  |.exit i=>.leaf (cond (Nat.beq i id) .normal (.exit i)) S p
  |e=>.leaf e S p
 |.ob p t=>.ob p (t.catch id)
 |.br b t u=>.br b (t.catch id) (u.catch id)
 |.lp a S outs t=>.lp a S outs (t.catch id)

def Tree.Sel:Tree→Ex→St→Pl→Prop
 |.leaf e S p,e',S',p'=>e=e'∧S=S'∧p=p'
 |.ob _ t,e,S,p=>t.Sel e S p
 |.br b t u,e,S,p=>(b=true∧t.Sel e S p)∨(b=false∧u.Sel e S p)
 |.lp _ _ _ t,e,S,p=>t.Sel e S p

section
variable (P:Program)(G:GL)(md:Md)

def DX (ds:List Deferred)(w:World)(ds':List Deferred):Prop:=∃new:List Nat,ds'=new.map markOf++ds∧∀r,r∈new→w.heap.size≤r
def RoOk (ρ:Nat→Option Nat)(H:Nat→Option HO)(ro:Option Nat):Prop:=
 match md.rid with
 |none=>ro=none
 |some id=>∃b o,ro=some b∧ρ id=some b∧H id=some o∧o.box=true
def Aft (F:Nat→Prop)(ρ:Nat→Option Nat)(H:Nat→Option HO)(w:World)(ds:List Deferred)(S':St)(a':Act)(w':World):Prop:=
 ∃F' ρ',RS G F' ρ' S' a' w'∧Ext G F ρ w F' ρ' w'∧HKp md.ks w ρ H w' ρ' (aget S'.h)∧DX ds w a'.defers
def WpX (xc:XC)(S:St)(Q:Ex→St→Prop):Prop:=
 ∀c,G.cm c xc→∀F ρ a w ro,RS G F ρ S a w→RoOk md ρ (aget S.h) ro→wpR P ro c (fun e a' w'=>∃S',Q e S'∧Aft G md F ρ (aget S.h) w a.defers S' a' w') a w

def Tree.all (Q:Ex→St→Pl→Prop):Tree→Prop
 |.leaf e S p=>Q e S p
 |.ob p t=>p∧t.all Q
 |.br b t u=>(b=true→t.all Q)∧(b=false→u.all Q)
 |.lp a S outs t=>WpX P G md (.loop a) S (fun e S'=>∃p,outs.Sel e S' p)∧t.all Q
end

section
variable {P:Program}{G:GL}{md:Md}

end
end Go.Ab

/-
 The outcomes of a tree are those of the code.
-/
set_option linter.unusedVariables false
set_option linter.unusedSimpArgs false
namespace Go.Ab
open Go

section
variable {P:Program}{G:GL}{md:Md}{hs:Hints}{dd:Dirs}{F:Nat→Prop}{ρ:Nat→Option Nat}{a:Act}{w:World}

theorem aget_adel {α:Type}(l:List (Nat×α))(k:Nat){t:Nat}{v:α}(h:aget (adel l k) t=some v):aget l t=some v:=by
 induction l with
 |nil=>cases h
 |cons p r ih=>
  obtain⟨j,u⟩:=p
  simp only[adel]at h
  simp only[aget]
  by_cases e:j=k
  ·subst e
   rw[beq_self,cond_true]at h
   have:=ih h
   by_cases e':j=t
   ·subst e'
    exfalso
    clear ih this
    induction r with
    |nil=>cases h
    |cons q r ih=>
     obtain⟨i,x⟩:=q
     simp only[adel]at h
     by_cases e2:i=j
     ·subst e2;rw[beq_self,cond_true]at h;exact ih h
     ·rw[beq_ne e2,cond_false]at h
      simp only[aget]at h
      rw[beq_ne e2,cond_false]at h
      exact ih h
   ·rw[beq_ne e',cond_false];exact this
  ·rw[beq_ne e,cond_false]at h
   simp only[aget]at h
   by_cases e':j=t
   ·subst e';rw[beq_self,cond_true]at h ⊢; exact h
   ·rw[beq_ne e',cond_false]at h ⊢; exact ih h

theorem aget_delL {α:Type}:∀(ks:List Nat) (l:List (Nat×α)) {t:Nat} {v:α},aget (delL l ks) t=some v→aget l t=some v
 |[],l,t,v,h=>h
 |k::r,l,t,v,h=>aget_adel l k (aget_delL r (adel l k) h)

theorem delS_rs {S:St}{dead:List Nat}(h:RS G F ρ S a w):RS G F ρ (delS S dead) a w:=
 ⟨h.size,fun t v hv=>h.tmps t v (aget_delL dead S.t hv),h.mem,h.defs⟩

theorem frzS_ok {S S':St}{t:Nat}{cs:List Cd}(h:frzS S t=some (S',cs))(hc:AllC (SpecQ P G) cs)(hr:RS G F ρ S a w):∃F',RS G F' ρ S' a w∧Ext G F ρ w F' ρ w∧HKeep w ρ (aget S.h) w ρ (aget S'.h):=by
 unfold frzS at h
 split at h
 ·rename_i v hv
  split at h
  ·rename_i v' ids cs' hz
   rw[cond_eq_ite]at h
   split at h
   ·rename_i hlt
    cases h
    obtain⟨F1,f1,f2,f3,f4,f5,f6⟩:=frzAll (look:=aget S.h) ids F (aget S.h) hr.mem (fun id k hk=>.inl hk)
    have hids:=(frz_ids 60).1 _ _ _ _ hz
    have hs:=(frz_sound (Sp:=SpecQ P G) hr.mem (fun _ _ h=>h) f2.keep 60).1 _ _ _ _ hz hc (fun id hid b hb=>f4 id hid (hids id hid) b hb)
    have hx:=hs _ (hr.tmps t v hv)
    refine⟨F1,⟨hr.size,fun u y hu=>?_,?_,hr.defs.ext f2 rfl⟩,f2,by simp only[aget_asets];exact f3⟩
    ·simp only[aget_asets]
     rw[aget_aset]at hu
     by_cases e:u=t
     ·subst e;rw[upd_same]at hu;cases hu;exact .imm _ _ hx
     ·rw[upd_other _ _ e]at hu
      exact(hr.tmps u y hu).mono (fun _ _=>rfl) f2.keep f3
    ·simp only[aget_asets];exact f1
   ·cases h
  ·cases h
 ·cases h

theorem ghoS_ok {S S':St}{t id sz:Nat}{c:Cont}(h:ghoS S t id sz c=some S')(hr:RS G F ρ S a w):RS G F ρ S' a w∧HKeep w ρ (aget S.h) w ρ (aget S'.h):=by
 unfold ghoS at h
 split at h
 ·rename_i hv
  rw[cond_eq_ite]at h
  split at h
  ·rename_i hc
   rw[Bool.and_eq_true]at hc
   cases h
   have hf:=freshA_ok hc.1 id (by simp)
   have hz:=Nat.eq_of_beq_eq_true hc.2
   obtain⟨m1,m2,m3⟩:=hr.mem.ghost (site:=id) (k:={c,sz,n:=0,cap:=some 0,nil:=some true,mu:=true,bx:=false}) hf rfl hz
   refine⟨⟨hr.size,fun u y hu=>?_,?_,hr.defs⟩,by simp only[aget_aset];exact m3⟩
   ·simp only[aget_aset]at hu ⊢
    by_cases e:u=t
    ·subst e
     rw[upd_same]at hu;cases hu
     have hx:=hr.tmps u _ hv
     cases hx with
     |imm _ _ hi=>
      generalize he:a.tmps.getD u undef=z at hi
      cases hi
      exact .full id 0 _ _ (upd_same _ _ _) (Nat.le_refl _) ⟨_,_,_,rfl⟩ (fun _=>.inl ⟨rfl,(fun e=>by cases e),(fun n e=>by cases e;rfl),rfl⟩)
    ·rw[upd_other _ _ e]at hu
     exact(hr.tmps u y hu).mono (fun _ _=>rfl) (fun _ h=>h) m3
   ·simp only[aget_aset];exact m1
  ·cases h
 ·cases h

theorem compXO_defer {ops:Array Oper}{o:Oper}{x:XO}(h:compXO P ops o=some x):∀c,o.op≠ .defer c:=by
 intro c hc
 unfold compXO at h
 split at h
 ·rename_i op g h1 h2
  rw[hc]at h1
  cases h1
 ·cases h

theorem compXOs_defer {ops:Array Oper}{xs:List XO}(h:compXOs P ops ops.toList=some xs):∀(i:Nat) (o:Oper),ops[i]? =some o→∀c,o.op≠ .defer c:=by
 intro i o ho
 have hlen:=compXOs_len h
 have hlt:i<xs.length:=by rw[hlen];simpa using(Array.getElem?_eq_some_iff.1 ho).1
 obtain⟨o',h1,h2⟩:=compXOs_get h (i:=i) (x:=xs[i]) (by rw[nth?_eq];exact List.getElem?_eq_getElem hlt)
 have:o'=o:=by
  have h1:ops[i]? =some o':=by simpa using h1
  rw[ho]at h1;cases h1;rfl
 subst this
 exact compXO_defer h2

theorem wpR_region {ro:Option Nat}{id:Nat}{ops:Array Oper}{R:Act→World→Prop}(hdef:∀(i:Nat) (o:Oper),ops[i]? =some o→∀c,o.op≠ .defer c)
  (h:wpOpsR P ops R (List.range ops.size) a w):wpR P ro (.region id ops false) (fun e a w=>e=.normal∧R a w) a w:=by
 intro b k cs hb
 obtain⟨a',w',h1,h2⟩:=wpOps_steps hdef _ a w h b k cs
 exact⟨.normal,a',w',⟨rfl,h1⟩,.head stepR_region h2⟩

theorem wpR_draw {ro:Option Nat}{id:Nat}{ops:Array Oper}{R:Act→World→Prop}(hm:P.follows .mixedOrders=true)(hdef:∀(i:Nat) (o:Oper),ops[i]? =some o→∀c,o.op≠ .defer c)
  (h:wpAnyR P ops R ops.size (Array.replicate ops.size false) a {w with drawn:=w.drawn+1}):wpR P ro (.region id ops true) (fun e a w=>e=.normal∧R a w) a w:=by
 intro b k cs hb
 have hops:wpOpsR P ops R (Region.schedule (P.follows .mixedOrders) ops (w.tape w.drawn (.order b.fn id))) a {w with drawn:=w.drawn+1}:=by
  simp only[Region.schedule,hm,Bool.true_or,if_true]
  exact wpAnyR_sound ops.size _ _ a _ h
 obtain⟨a',w',h1,h2⟩:=wpOps_steps hdef _ a _ hops b k cs
 exact⟨.normal,a',w',⟨rfl,h1⟩,.head stepR_region_draw h2⟩

theorem compC_region {xc:XC}{id:Nat}{ops:Array Oper}{drw:Bool}(h:compC P hs (.region id ops drw)=some xc):∃xs,compXOs P ops ops.toList=some xs∧
  ((drw=false∧xc=.reg (64*(id+1)) xs ((aget hs id).getD ([],[])).2)∨(drw=true∧xc=.draw (64*(id+1)) xs (ops.toList.map depOf) ((aget hs id).getD ([],[])).1 ((aget hs id).getD ([],[])).2)):=by
 simp only[compC]at h
 split at h
 ·rename_i xs hx
  cases drw
  ·cases h;exact⟨xs,hx,.inl ⟨rfl,rfl⟩⟩
  ·cases h;exact⟨xs,hx,.inr ⟨rfl,rfl⟩⟩
 ·cases h

theorem compC_reg {c:Code}{s:Nat}{xs:List XO}{dead:List Nat}(h:compC P hs c=some (.reg s xs dead)):∃id ops,c=.region id ops false∧compXOs P ops ops.toList=some xs:=by
 cases c with
 |region id ops drw=>
  obtain⟨xs',h1,⟨rfl,h2⟩|⟨rfl,h2⟩⟩:=compC_region h
  ·cases h2;exact⟨id,ops,rfl,h1⟩
  ·cases h2
 |_=>
  simp only[compC]at h
  first
   |(cases h;done)
   |(split at h<;>cases h)
theorem compC_draw {c:Code}{s:Nat}{xs:List XO}{dep:List (List Nat)}{ord dead:List Nat}(h:compC P hs c=some (.draw s xs dep ord dead)):∃id ops,c=.region id ops true∧compXOs P ops ops.toList=some xs∧ops.toList.map depOf=dep:=by
 cases c with
 |region id ops drw=>
  obtain⟨xs',h1,⟨rfl,h2⟩|⟨rfl,h2⟩⟩:=compC_region h
  ·cases h2
  ·cases h2;exact⟨id,ops,rfl,h1,rfl⟩
 |_=>
  simp only[compC]at h
  first
   |(cases h;done)
   |(split at h<;>cases h)
theorem compC_skip {c:Code}(h:compC P hs c=some .skip):c=.skip∨∃l,c=.label l:=by
 cases c with
 |skip=>exact .inl rfl
 |label l=>exact .inr ⟨l,rfl⟩
 |region id ops drw=>obtain⟨xs',h1,⟨rfl,h2⟩|⟨rfl,h2⟩⟩:=compC_region h<;>cases h2
 |_=>
  simp only[compC]at h
  first
   |(cases h;done)
   |(split at h<;>cases h)
theorem compC_ret {c:Code}(h:compC P hs c=some .ret):c=.ret:=by
 cases c with
 |ret=>rfl
 |region id ops drw=>obtain⟨xs',h1,⟨rfl,h2⟩|⟨rfl,h2⟩⟩:=compC_region h<;>cases h2
 |_=>
  simp only[compC]at h
  first
   |(cases h;done)
   |(split at h<;>cases h)
theorem compC_exit {c:Code}{id:Nat}(h:compC P hs c=some (.exit id)):c=.exit id:=by
 cases c with
 |exit i=>cases h;rfl
 |region id ops drw=>obtain⟨xs',h1,⟨rfl,h2⟩|⟨rfl,h2⟩⟩:=compC_region h<;>cases h2
 |_=>
  simp only[compC]at h
  first
   |(cases h;done)
   |(split at h<;>cases h)
theorem compC_seq {c:Code}{x y:XC}(h:compC P hs c=some (.seq x y)):∃a b,c=.seq a b∧compC P hs a=some x∧compC P hs b=some y:=by
 cases c with
 |seq a b=>
  simp only[compC]at h
  split at h
  ·rename_i h1 h2;cases h;exact⟨a,b,rfl,h1,h2⟩
  ·cases h
 |region id ops drw=>obtain⟨xs',h1,⟨rfl,h2⟩|⟨rfl,h2⟩⟩:=compC_region h<;>cases h2
 |_=>
  simp only[compC]at h
  first
   |(cases h;done)
   |(split at h<;>cases h)
theorem compC_cond {c:Code}{o:Opd}{x y:XC}(h:compC P hs c=some (.cond o x y)):∃X a b,c=.cond X a b∧compX X=some o∧compC P hs a=some x∧compC P hs b=some y:=by
 cases c with
 |cond X a b=>
  simp only[compC]at h
  split at h
  ·rename_i h1 h2 h3;cases h;exact⟨X,a,b,rfl,h1,h2,h3⟩
  ·cases h
 |region id ops drw=>obtain⟨xs',h1,⟨rfl,h2⟩|⟨rfl,h2⟩⟩:=compC_region h<;>cases h2
 |_=>
  simp only[compC]at h
  first
   |(cases h;done)
   |(split at h<;>cases h)
theorem compC_block {c:Code}{id:Nat}{x:XC}(h:compC P hs c=some (.block id x)):∃a,c=.block id a∧compC P hs a=some x:=by
 cases c with
 |block i a=>
  simp only[compC]at h
  split at h
  ·rename_i h1;cases h;exact⟨a,rfl,h1⟩
  ·cases h
 |region id ops drw=>obtain⟨xs',h1,⟨rfl,h2⟩|⟨rfl,h2⟩⟩:=compC_region h<;>cases h2
 |_=>
  simp only[compC]at h
  first
   |(cases h;done)
   |(split at h<;>cases h)
theorem compC_loop {c:Code}{x:XC}(h:compC P hs c=some (.loop x)):∃a,c=.loop a∧compC P hs a=some x:=by
 cases c with
 |loop a=>
  simp only[compC]at h
  split at h
  ·rename_i h1;cases h;exact⟨a,rfl,h1⟩
  ·cases h
 |region id ops drw=>obtain⟨xs',h1,⟨rfl,h2⟩|⟨rfl,h2⟩⟩:=compC_region h<;>cases h2
 |_=>
  simp only[compC]at h
  first
   |(cases h;done)
   |(split at h<;>cases h)

theorem cm_reg (hcm:G.cm=cmOf P){c:Code}{s:Nat}{xs:List XO}{dead:List Nat}(h:G.cm c (.reg s xs dead)):∃id ops,c=.region id ops false∧compXOs P ops ops.toList=some xs:=by
 rw[hcm]at h;obtain⟨hs,h⟩:=h;exact compC_reg h
theorem cm_draw (hcm:G.cm=cmOf P){c:Code}{s:Nat}{xs:List XO}{dep:List (List Nat)}{ord dead:List Nat}(h:G.cm c (.draw s xs dep ord dead)):∃id ops,c=.region id ops true∧compXOs P ops ops.toList=some xs∧ops.toList.map depOf=dep:=by
 rw[hcm]at h;obtain⟨hs,h⟩:=h;exact compC_draw h
theorem cm_skip (hcm:G.cm=cmOf P){c:Code}(h:G.cm c .skip):c=.skip∨∃l,c=.label l:=by rw[hcm]at h;obtain⟨hs,h⟩:=h;exact compC_skip h
theorem cm_ret (hcm:G.cm=cmOf P){c:Code}(h:G.cm c .ret):c=.ret:=by rw[hcm]at h;obtain⟨hs,h⟩:=h;exact compC_ret h
theorem cm_exit (hcm:G.cm=cmOf P){c:Code}{id:Nat}(h:G.cm c (.exit id)):c=.exit id:=by rw[hcm]at h;obtain⟨hs,h⟩:=h;exact compC_exit h
theorem cm_seq (hcm:G.cm=cmOf P){c:Code}{x y:XC}(h:G.cm c (.seq x y)):∃a b,c=.seq a b∧G.cm a x∧G.cm b y:=by
 rw[hcm]at h ⊢; obtain⟨hs,h⟩:=h;obtain⟨a,b,h1,h2,h3⟩:=compC_seq h;exact⟨a,b,h1,⟨hs,h2⟩,⟨hs,h3⟩⟩
theorem cm_cond (hcm:G.cm=cmOf P){c:Code}{o:Opd}{x y:XC}(h:G.cm c (.cond o x y)):∃X a b,c=.cond X a b∧compX X=some o∧G.cm a x∧G.cm b y:=by
 rw[hcm]at h ⊢; obtain⟨hs,h⟩:=h;obtain⟨X,a,b,h1,h2,h3,h4⟩:=compC_cond h;exact⟨X,a,b,h1,h2,⟨hs,h3⟩,⟨hs,h4⟩⟩
theorem cm_block (hcm:G.cm=cmOf P){c:Code}{id:Nat}{x:XC}(h:G.cm c (.block id x)):∃a,c=.block id a∧G.cm a x:=by
 rw[hcm]at h ⊢; obtain⟨hs,h⟩:=h;obtain⟨a,h1,h2⟩:=compC_block h;exact⟨a,h1,hs,h2⟩
theorem cm_loop (hcm:G.cm=cmOf P){c:Code}{x:XC}(h:G.cm c (.loop x)):∃a,c=.loop a∧G.cm a x:=by
 rw[hcm]at h ⊢; obtain⟨hs,h⟩:=h;obtain⟨a,h1,h2⟩:=compC_loop h;exact⟨a,h1,hs,h2⟩
theorem cm_rangeF (hcm:G.cm=cmOf P){c:Code}{o:Opd}{ps:List Nat}{x y:XC}(h:G.cm c (.rangeF o ps x y)):∃X qs a b,c=.rangeFunc X qs a b∧qs.toList=ps∧compX X=some o∧G.cm a x∧G.cm b y:=by
 rw[hcm]at h ⊢
 obtain⟨hs,h⟩:=h
 cases c with
 |rangeFunc g qs a b=>
  simp only[compC]at h
  split at h
  ·rename_i h1 h2 h3;cases h;exact⟨g,qs,a,b,rfl,rfl,h1,⟨hs,h2⟩,⟨hs,h3⟩⟩
  ·cases h
 |region id ops drw=>
  obtain⟨xs',h1,⟨rfl,h2⟩|⟨rfl,h2⟩⟩:=compC_region h<;>cases h2
 |_=>
  simp only[compC]at h
  first
   |(cases h;done)
   |(split at h<;>cases h)

theorem cm_scope (hcm:G.cm=cmOf P){c:Code}{x:XC}(h:G.cm c (.scope x)):∃a,c=.scope a∧G.cm a x:=by
 rw[hcm]at h ⊢
 obtain⟨hs,h⟩:=h
 cases c with
 |scope a=>
  simp only[compC]at h
  split at h
  ·rename_i h1;cases h;exact⟨a,rfl,hs,h1⟩
  ·cases h
 |region id ops drw=>
  obtain⟨xs',h1,⟨rfl,h2⟩|⟨rfl,h2⟩⟩:=compC_region h<;>cases h2
 |_=>
  simp only[compC]at h
  first
   |(cases h;done)
   |(split at h<;>cases h)

theorem DX.refl (ds:List Deferred)(w:World):DX ds w ds:=⟨[],rfl,fun r h=>by simp at h⟩
theorem DX.of_eq {ds ds':List Deferred}{w:World}(h:ds'=ds):DX ds w ds':=by subst h;exact DX.refl _ _
theorem DX.trans {ds ds' ds'':List Deferred}{w w':World}(h:DX ds w ds')(hs:w.heap.size≤w'.heap.size)(k:DX ds' w' ds''):DX ds w ds'':=by
 obtain⟨n1,rfl,h2⟩:=h
 obtain⟨n2,rfl,k2⟩:=k
 refine⟨n2++n1,by simp,fun r hr=>?_⟩
 rcases List.mem_append.1 hr with hr|hr
 ·exact Nat.le_trans hs (k2 r hr)
 ·exact h2 r hr

theorem RoOk.next {ρ':Nat→Option Nat}{H H':Nat→Option HO}{w':World}{ro:Option Nat}(h:RoOk md ρ H ro)(hk:HKp md.ks w ρ H w' ρ' H'):RoOk md ρ' H' ro:=by
 unfold RoOk at h ⊢
 cases e:md.rid with
 |none=>rw[e]at h;exact h
 |some id=>
  rw[e]at h
  obtain⟨b,o,h1,h2,h3,h4⟩:=h
  obtain⟨o',g1,g2,g3⟩:=hk.box id o (by simp[Md.ks,e]) h3 h4
  exact⟨b,o',h1,g3.trans h2,g1,g2⟩

theorem Aft.on {F':Nat→Prop}{ρ':Nat→Option Nat}{S S' S'':St}{a' a'':Act}{w' w'':World}{ds:List Deferred}(h2:Ext G F ρ w F' ρ' w')(h3:HKp md.ks w ρ (aget S.h) w' ρ' (aget S'.h))(h4:DX ds w a'.defers)
  (k:Aft G md F' ρ' (aget S'.h) w' a'.defers S'' a'' w''):Aft G md F ρ (aget S.h) w ds S'' a'' w'':=by
 obtain⟨F'',ρ'',q1,q2,q3,q4⟩:=k
 exact⟨F'',ρ'',q1,h2.trans q2,h3.trans q3,h4.trans h2.size q4⟩
theorem Aft.here {S:St}(hr:RS G F ρ S a w):Aft G md F ρ (aget S.h) w a.defers S a w:=⟨F,ρ,hr,Ext.refl _ _ _,HKp.refl _ _ _ _,DX.refl _ _⟩

theorem WpX.mono {xc:XC}{S:St}{Q Q':Ex→St→Prop}(h:WpX P G md xc S Q)(hq:∀e S,Q e S→Q' e S):WpX P G md xc S Q':=
 fun c hc F ρ a w ro hr hro=>(h c hc F ρ a w ro hr hro).mono fun e a' w' ⟨S',h1,h2⟩=>⟨S',hq _ _ h1,h2⟩

theorem cond_rel {S:St}{X:Operand}{o:Opd}{v:Bool}(hX:compX X=some o)(hv:o.ev G S.t=.bool v)(hr:RS G F ρ S a w):a.eval X=.bool v:=by
 have:=evOk_of (rt:=S.t) (a:=a) hr.mem hr.tmps X o hX
 rw[hv]at this
 exact this.bools

theorem WpX.pre {xc:XC}{S S':St}{Q:Ex→St→Prop}(hw:∀F ρ a w,RS G F ρ S a w→∃F' ρ',RS G F' ρ' S' a w∧Ext G F ρ w F' ρ' w∧HKp md.ks w ρ (aget S.h) w ρ' (aget S'.h))(h:WpX P G md xc S' Q):WpX P G md xc S Q:=by
 intro c hc F ρ a w ro hr hro
 obtain⟨F',ρ',h1,h2,h3⟩:=hw F ρ a w hr
 exact(h c hc F' ρ' a w ro h1 (hro.next h3)).mono fun e a' w' ⟨S'',q1,q2⟩=>⟨S'',q1,q2.on h2 h3 (DX.refl _ _)⟩

theorem wpX_draw (hcm:G.cm=cmOf P)(hm:P.follows .mixedOrders=true){s s':Nat}{xs:List XO}{dep:List (List Nat)}{ord dead:List Nat}{ds:Dirs}{S S':St}{es:List (Nat×Ent)}{cs:List Cd}(he:exEnts G ds xs s ord S=some (S',es,cs))
  (hB:drawB dep ord xs.length es=true) (hc:AllC (SpecQ P G) cs) {Q:Ex→St→Prop} (hQ:Q .normal (delS S' dead)):WpX P G md (.draw s' xs dep ord dead) S Q:=by
 intro c hcc F ρ a w ro hr hro
 obtain⟨id,ops,rfl,hx,hd⟩:=cm_draw hcm hcc
 refine(wpR_draw (R:=fun a' w'=>Aft G md F ρ (aget S.h) w a.defers (delS S' dead) a' w') hm (compXOs_defer hx) (draw_sound hx hd he hB hc hr fun a' w' F' ρ' q1 q2 q3 q4=>⟨F',ρ',delS_rs q1,q2,q3.kp,DX.of_eq q4⟩)).mono ?_
 rintro e a' w' ⟨rfl,h⟩
 exact⟨_,hQ,h⟩
theorem wpX_seq (hcm:G.cm=cmOf P){x y:XC}{S:St}{Q:Ex→St→Prop}(h:WpX P G md x S (fun e S'=>(e=.normal∧WpX P G md y S' Q)∨(e≠ .normal∧Q e S'))):WpX P G md (.seq x y) S Q:=by
 intro c hc F ρ a w ro hr hro
 obtain⟨ca,cb,rfl,hca,hcb⟩:=cm_seq hcm hc
 refine wpR_seq ((h ca hca F ρ a w ro hr hro).mono ?_)
 rintro e a' w' ⟨S',hq,F',ρ',q1,q2,q3,q4⟩
 rcases hq with⟨rfl,hy⟩|⟨hn,hQ⟩
 ·exact .inl ⟨rfl,(hy cb hcb F' ρ' a' w' ro q1 (hro.next q3)).mono fun e a'' w'' ⟨S'',r1,r2⟩=>⟨S'',r1,r2.on q2 q3 q4⟩⟩
 ·exact .inr ⟨hn,S',hQ,F',ρ',q1,q2,q3,q4⟩
theorem wpX_cond (hcm:G.cm=cmOf P){o:Opd}{x y:XC}{S:St}{v:Bool}{Q:Ex→St→Prop}(hv:o.ev G S.t=.bool v)(h1:v=true→WpX P G md x S Q)(h2:v=false→WpX P G md y S Q):WpX P G md (.cond o x y) S Q:=by
 intro c hc F ρ a w ro hr hro
 obtain⟨X,ca,cb,rfl,hX,hca,hcb⟩:=cm_cond hcm hc
 refine wpR_cond (cond_rel hX hv hr) ?_
 cases v with
 |true=>rw[if_pos rfl];exact h1 rfl ca hca F ρ a w ro hr hro
 |false=>rw[if_neg (by simp)];exact h2 rfl cb hcb F ρ a w ro hr hro
theorem wpX_block (hcm:G.cm=cmOf P){id:Nat}{x:XC}{S:St}{Q:Ex→St→Prop}(h:WpX P G md x S (fun e S'=>(e=.exit id∧Q .normal S')∨(e≠ .exit id∧Q e S'))):WpX P G md (.block id x) S Q:=by
 intro c hc F ρ a w ro hr hro
 obtain⟨ca,rfl,hca⟩:=cm_block hcm hc
 refine wpR_block ((h ca hca F ρ a w ro hr hro).mono ?_)
 rintro e a' w' ⟨S',⟨rfl,hQ⟩|⟨hn,hQ⟩,q⟩
 ·exact .inl ⟨rfl,S',hQ,q⟩
 ·exact .inr ⟨hn,S',hQ,q⟩
theorem wpX_scope (hcm:G.cm=cmOf P){x:XC}{S:St}{Q:Ex→St→Prop}(h:WpX P G md x S Q):WpX P G md (.scope x) S Q:=by
 intro c hc F ρ a w ro hr hro
 obtain⟨ca,rfl,hca⟩:=cm_scope hcm hc
 exact wpR_scope (h ca hca F ρ a w ro hr hro)
theorem wpX_loop1 (hcm:G.cm=cmOf P){x:XC}{S:St}{Q:Ex→St→Prop}(h:WpX P G md x S (fun e S'=>(e=.normal∧WpX P G md (.loop x) S' Q)∨(e≠ .normal∧Q e S'))):WpX P G md (.loop x) S Q:=by
 intro c hc F ρ a w ro hr hro
 obtain⟨ca,rfl,hca⟩:=cm_loop hcm hc
 refine wpR_loop1 ((h ca hca F ρ a w ro hr hro).mono ?_)
 rintro e a' w' ⟨S',hq,F',ρ',q1,q2,q3,q4⟩
 rcases hq with⟨rfl,hy⟩|⟨hn,hQ⟩
 ·exact .inl ⟨rfl,(hy _ hc F' ρ' a' w' ro q1 (hro.next q3)).mono fun e a'' w'' ⟨S'',r1,r2⟩=>⟨S'',r1,r2.on q2 q3 q4⟩⟩
 ·exact .inr ⟨hn,S',hQ,F',ρ',q1,q2,q3,q4⟩
theorem wpX_skip (hcm:G.cm=cmOf P){S:St}{Q:Ex→St→Prop}(h:Q .normal S):WpX P G md .skip S Q:=by
 intro c hc F ρ a w ro hr hro
 rcases cm_skip hcm hc with rfl|⟨l,rfl⟩
 ·exact wpR_skip ⟨S,h,.here hr⟩
 ·exact wpR_label ⟨S,h,.here hr⟩
theorem wpX_exit (hcm:G.cm=cmOf P){id:Nat}{S:St}{Q:Ex→St→Prop}(h:Q (.exit id) S):WpX P G md (.exit id) S Q:=by
 intro c hc F ρ a w ro hr hro;rw[cm_exit hcm hc];exact wpR_exit ⟨S,h,.here hr⟩
theorem wpX_ret (hcm:G.cm=cmOf P){S:St}{Q:Ex→St→Prop}(h:Q .ret S):WpX P G md .ret S Q:=by
 intro c hc F ρ a w ro hr hro;rw[cm_ret hcm hc];exact wpR_ret ⟨S,h,.here hr⟩

end
end Go.Ab

/-
 An object that nothing names is forgotten.
-/
set_option linter.unusedVariables false
set_option linter.unusedSimpArgs false
namespace Go.Ab
open Go

def gcH (i:Nat):List (Nat×HO)→Bool
 |[]=>true
 |(_,o)::r=>cond (memN i (refsH (some o))) false (gcH i r)
def gcS (ks:List Nat)(S:St)(i:Nat):Option St:=
 cond (memN i ks||(memN i (refsT S.t)|| !gcH i (adel S.h i))) none (some {S with h:=adel S.h i})

theorem memN_no {x:Nat}{l:List Nat}(h:memN x l=false):x∉l:=fun hm=>by rw[memN_iff.2 hm]at h;cases h
theorem refsL_get {i:Nat}:∀{l:List AV},i∉refsL l→∀j,i∉refsV (l.getD j .undef)
 |[],_,j=>by simp[refsV]
 |v::r,h,0=>by simp only[refsL,List.mem_append,not_or]at h;simpa using h.1
 |v::r,h,j+1=>by
  simp only[refsL,List.mem_append,not_or]at h
  have:=refsL_get h.2 j
  simpa using this
theorem refsT_gc {i:Nat}:∀{l:List (Nat×AV)},i∉refsT l→∀{t v},aget l t=some v→i∉refsV v
 |[],_,t,v,h=>by cases h
 |(k,x)::r,hn,t,v,h=>by
  simp only[refsT,List.mem_append,not_or]at hn
  simp only[aget,cond_eq_ite]at h
  split at h
  ·cases h;exact hn.1
  ·exact refsT_gc hn.2 h

section
variable {w:World}{F:Nat→Prop}{ρ:Nat→Option Nat}{h:Nat→Option HO}{i:Nat}
theorem FullOk.dropG {id len:Nat}{k:Blk}{x:Value}(e:id≠i)(hf:FullOk w ρ id len k x):FullOk w (upd ρ i none) id len k x:=by
 unfold FullOk at hf ⊢
 rw[upd_other _ _ e];exact hf
mutual
theorem RelV.dropG:∀{v:AV} {x:Value},RelV w F ρ h v x→i∉refsV v→RelV w F (upd ρ i none) (upd h i none) v x
 |_,_,.imm v x hi,_=>.imm v x hi
 |_,_,.ptr id off b o hb hh hx,hn=>by
  have e:id≠i:=fun e=>hn (by simp[refsV,e])
  exact .ptr id off b o (by rw[upd_other _ _ e];exact hb) (by rw[upd_other _ _ e];exact hh) hx
 |_,_,.ep id n off k x hh hle hp hx,hn=>by
  have e:id≠i:=fun e=>hn (by simp[refsV,e])
  exact .ep id n off k x (by rw[upd_other _ _ e];exact hh) hle hp (by rw[upd_other _ _ e];exact hx)
 |_,_,.full id len k x hh hle hp hx,hn=>by
  have e:id≠i:=fun e=>hn (by simp[refsV,e])
  exact .full id len k x (by rw[upd_other _ _ e];exact hh) hle hp (fun q=>(hx q).dropG e)
 |_,_,.sl id off len cap b k hb hh hx hlc,hn=>by
  have e:id≠i:=fun e=>hn (by simp[refsV,e])
  exact .sl id off len cap b k (by rw[upd_other _ _ e];exact hb) (by rw[upd_other _ _ e];exact hh) hx hlc
 |_,_,.fn f l1 l2 x1 x2 h1 h2,hn=>by
  simp only[refsV,List.mem_append,not_or]at hn
  exact .fn f l1 l2 x1 x2 (h1.dropG hn.1) (h2.dropG hn.2)
 |_,_,.agg l x hl,hn=>.agg l x (hl.dropG (by simpa only[refsV]using hn))
 |_,_,.tup l x hl,hn=>.tup l x (hl.dropG (by simpa only[refsV]using hn))
 |_,_,.may b v x hb hn',hn=>.may b v x (fun q=>(hb q).dropG (by simpa only[refsV]using hn)) hn'
 |_,_,.iface t v x hv,hn=>.iface t v x (hv.dropG (by simpa only[refsV]using hn))
 |_,_,.yld id b o hb hh hx,hn=>by
  have e:id≠i:=fun e=>hn (by simp[refsV,e])
  exact .yld id b o (by rw[upd_other _ _ e];exact hb) (by rw[upd_other _ _ e];exact hh) hx
 |_,_,.spare id a l c hf,hn=>.spare id a l c (hf.dropG (by simpa only[refsV]using hn))
 |_,_,.fullc id len cap a hf,hn=>.fullc id len cap a (hf.dropG (by simpa only[refsV]using hn))
 |_,_,.mp id b o hb hh hx,hn=>by
  have e:id≠i:=fun e=>hn (by simp[refsV,e])
  exact .mp id b o (by rw[upd_other _ _ e];exact hb) (by rw[upd_other _ _ e];exact hh) hx
 |_,_,.vw id n sz off len k x hh hle hp hx,hn=>by
  have e:id≠i:=fun e=>hn (by simp[refsV,e])
  refine .vw id n sz off len k x (by rw[upd_other _ _ e];exact hh) hle hp (fun q=>?_)
  obtain⟨q1,a,c,q2,q3⟩:=hx q
  exact⟨q1,a,c,q2.dropG e,q3⟩
theorem RelVs.dropG:∀{l:List AV} {xs:List Value},RelVs w F ρ h l xs→i∉refsL l→RelVs w F (upd ρ i none) (upd h i none) l xs
 |_,_,.nil,_=>.nil
 |_,_,.cons v l x xs h hs,hn=>by
  simp only[refsL,List.mem_append,not_or]at hn
  exact .cons v l x xs (h.dropG hn.1) (hs.dropG hn.2)
end
theorem RelO.dropG {G:GL}{id:Nat}{o:HO}(e:id≠i)(hn:i∉refsH (some o))(hr:RelO G w F ρ h id o):RelO G w F (upd ρ i none) (upd h i none) id o:=by
 cases o with
 |blk k=>
  obtain⟨h0,h1⟩:=hr
  refine⟨h0,?_⟩
  rw[upd_other _ _ e]
  rcases h1 with h1|⟨b,h1,h2⟩
  ·exact .inl h1
  ·refine .inr ⟨b,h1,⟨fun hnm=>?_,h2.mp,h2.mu,h2.fr⟩⟩
   obtain⟨cs,ty,fz,g1,g2,g3,g4⟩:=h2.ex hnm
   refine⟨cs,ty,fz,g1,g2,g3,fun j hj=>?_⟩
   obtain⟨x,p1,p2,p3⟩:=g4 j hj
   refine⟨x,p1,?_,p3⟩
   cases hc:k.c with
   |cells l=>
    rw[hc]at p2
    have hn':i∉refsL l:=by simpa only[refsH,hc,refsC]using hn
    exact RelV.dropG p2 (refsL_get hn' j)
   |_=>rw[hc]at p2;exact p2
 |iter s pos=>
  obtain⟨b,h1,h2,h3⟩:=hr
  exact⟨b,by rw[upd_other _ _ e];exact h1,h2,h3⟩
 |loop l=>
  obtain⟨b,h1,h2,r,h3,h4⟩:=hr
  exact⟨b,by rw[upd_other _ _ e];exact h1,h2,r,h3,⟨h4.st,h4.pend,h4.size,fun t v q=>(h4.tmps t v q).dropG (refsT_gc (by simpa only[refsH]using hn) q),h4.ps,h4.as,h4.bd⟩⟩
end
theorem aget_adel2 {α:Type}(i:Nat):∀(l:List (Nat×α)),aget (adel l i)=upd (aget l) i none
 |[]=>by funext j;simp[adel,aget,upd]
 |(k,x)::r=>by
  funext j
  have ih:=congrFun (aget_adel2 i r) j
  by_cases e:k=i
  ·subst e
   simp only[adel,Nat.beq_refl,cond_true]
   rw[ih]
   by_cases e2:j=k
   ·subst e2;rw[upd_same,upd_same]
   ·rw[upd_other _ _ e2,upd_other _ _ e2]
    simp only[aget,beq_ne (Ne.symm e2),cond_false]
  ·simp only[adel,beq_ne e,cond_false,aget]
   rw[ih]
   by_cases e2:k=j
   ·subst e2
    rw[upd_other _ _ e,upd_other _ _ e]
   ·simp only[beq_ne e2,cond_false]
    by_cases e3:j=i
    ·subst e3;rw[upd_same,upd_same]
    ·rw[upd_other _ _ e3,upd_other _ _ e3]
     simp only[aget,beq_ne e2,cond_false]
theorem gcH_ok {i:Nat}:∀{h:List (Nat×HO)},gcH i h=true→∀{id o},aget h id=some o→i∉refsH (some o)
 |[],_,id,o,e=>by cases e
 |(k,x)::r,hg,id,o,e=>by
  simp only[gcH,cond_eq_ite]at hg
  split at hg
  ·cases hg
  ·rename_i hm
   simp only[aget,cond_eq_ite]at e
   split at e
   ·cases e;exact memN_no (by simpa using hm)
   ·exact gcH_ok hg e
theorem gcS_ok {G:GL}{F:Nat→Prop}{ρ:Nat→Option Nat}{a:Act}{w:World}{ks:List Nat}{S S':St}{i:Nat}(h:gcS ks S i=some S')(hr:RS G F ρ S a w):
  ∃ρ',RS G F ρ' S' a w∧Ext G F ρ w F ρ' w∧HKp ks w ρ (aget S.h) w ρ' (aget S'.h):=by
 unfold gcS at h
 rw[cond_eq_ite]at h
 split at h
 ·cases h
 ·rename_i hc
  cases h
  simp only[Bool.or_eq_true,not_or,Bool.not_eq_true,Bool.not_eq_true',Bool.not_eq_false]at hc
  obtain⟨hk,ht,hg⟩:=hc
  have hk:=memN_no hk
  have ht:=memN_no ht
  have hH:aget (adel S.h i)=upd (aget S.h) i none:=aget_adel2 i S.h
  have hE:Ext G F ρ w F (upd ρ i none) w:=⟨IoEq.refl _,Nat.le_refl _,fun _ _ _=>rfl,fun _ _=>rfl,fun _ h=>h,fun _ h=>.inl h,fun id b hb=>by
   by_cases e:id=i
   ·subst e;rw[upd_same]at hb;cases hb
   ·rw[upd_other _ _ e]at hb;exact .inl ⟨id,hb⟩⟩
  refine⟨upd ρ i none,⟨hr.size,fun t v e=>?_,?_,hr.defs.ext hE rfl⟩,hE,?_⟩
  ·simp only[hH]
   exact(hr.tmps t v e).dropG (refsT_gc ht e)
  ·simp only[hH]
   have hm:=hr.mem
   refine⟨fun id o e=>?_,fun id b hb=>?_,fun x y b hx hy=>?_,fun id b hb=>?_,hm.frz,hm.glob⟩
   ·have e':=e
    by_cases e2:id=i
    ·subst e2;rw[upd_same]at e;cases e
    ·rw[upd_other _ _ e2]at e
     exact(hm.heap id o e).dropG e2 (gcH_ok hg (by rw[hH];exact e'))
   ·by_cases e:id=i
    ·subst e;rw[upd_same]at hb;cases hb
    ·rw[upd_other _ _ e]at hb ⊢; exact hm.dom id b hb
   ·have ex:x≠i:=fun e=>by subst e;rw[upd_same]at hx;cases hx
    have ey:y≠i:=fun e=>by subst e;rw[upd_same]at hy;cases hy
    rw[upd_other _ _ ex]at hx
    rw[upd_other _ _ ey]at hy
    exact hm.inj x y b hx hy
   ·by_cases e:id=i
    ·subst e;rw[upd_same]at hb;cases hb
    ·rw[upd_other _ _ e]at hb;exact hm.lt id b hb
  ·simp only[hH]
   refine⟨fun id o hid h1 h2=>?_,fun id k hid h1=>?_,fun b cs ty fz hb=>⟨cs,ty,fz,hb,rfl⟩⟩
   ·have e:id≠i:=fun e=>hk (e▸hid)
    exact⟨o,by rw[upd_other _ _ e];exact h1,h2,upd_other _ _ e⟩
   ·have e:id≠i:=fun e=>hk (e▸hid)
    exact⟨k,by rw[upd_other _ _ e];exact h1,rfl,Nat.le_refl _,fun _=>⟨rfl,rfl,.inl rfl,upd_other _ _ e⟩⟩
end Go.Ab

/-
 A function's contract from its body: results, marks among the deferred calls.
-/
set_option linter.unusedVariables false
set_option linter.unusedSimpArgs false
namespace Go.Ab
open Go

section
variable {P:Program}{G:GL}{hs:Hints}{F:Nat→Prop}{ρ:Nat→Option Nat}{H:Nat→Option HO}{w w':World}

theorem MRel.off (hm:MRel G F ρ H w){r:Nat}(hn:∀id,ρ id≠some r)(hF:¬ F r)(hr:∀cs ty fz,w.heap[r]? ≠some (.cells cs ty fz))(ho:∀b,b≠r→w'.heap[b]? =w.heap[b]?)(hsz:w'.heap.size=w.heap.size):
  MRel G F ρ H w'∧HKeep w ρ H w' ρ H:=by
 have hk:HKeep w ρ H w' ρ H:=⟨fun id o h1 h2=>⟨o,h1,h2,rfl⟩,fun id k h1=>⟨k,h1,rfl,Nat.le_refl _,fun _=>⟨rfl,rfl,.inl rfl,rfl⟩⟩,fun b cs ty fz hb=>⟨cs,ty,fz,by
  rw[ho b (fun e=>hr cs ty fz (e▸hb))];exact hb,rfl⟩⟩
 have hw:∀b,F b→w'.heap[b]? =w.heap[b]? :=fun b hb=>ho b (fun e=>hF (e▸hb))
 exact⟨⟨fun id o h=>(hm.heap id o h).mono hw (fun _ h=>h) hk rfl (fun b hb=>⟨ho b (fun e=>hn id (e▸hb)),fun h=>h⟩),hm.dom,hm.inj,fun id b hb=>by rw[hsz];exact hm.lt id b hb,fun b hb=>by rw[hsz];exact hm.frz b hb,hm.glob.mono hw (fun _ h=>h)⟩,hk⟩

theorem run_take {r:Nat}(h:w.heap[r]? =some (.deferred (some []))):∃w',(Instr.takeDeferred r).run P w=.ok [] w'∧(∀b,b≠r→w'.heap[b]? =w.heap[b]?)∧w'.heap.size=w.heap.size∧IoEq G w w':=by
 refine⟨{w with heap:=w.heap.setIfInBounds r (.deferred none)},?_,fun b hb=>?_,by simp,⟨rfl,rfl,fun _=>⟨rfl,Nat.le_refl _⟩⟩⟩
 ·simp[Instr.takeDeferred,getObj,setObj,Sem.run,h]
 ·simp[Array.getElem?_setIfInBounds_ne (Ne.symm hb)]

theorem unwind_marks {cs:List Frame}:∀(rs:List Nat) (fr:Frame) (w:World),fr.mode=.returning→fr.defers=rs.map markOf→rs.Nodup→(∀r,r∈rs→w.heap[r]? =some (.deferred (some []))∧(∀id,ρ id≠some r)∧¬ F r)→MRel G F ρ H w→
  ∃w',Steps P (lone fr cs w) (lone {fr with defers:=[]} cs w')∧MRel G F ρ H w'∧HKeep w ρ H w' ρ H∧(∀b,b∉rs→w'.heap[b]? =w.heap[b]?)∧w'.heap.size=w.heap.size∧IoEq G w w'
 |[],fr,w,hmode,hd,hnd,hr,hm=>by
  refine⟨w,?_,hm,HKeep.refl _ _ _,fun _ _=>rfl,rfl,IoEq.refl _⟩
  have:fr={fr with defers:=[]}:=by
   cases fr;simp at hd ⊢; exact hd
  rw[← this];exact Steps.refl _ _
 |r::rs,fr,w,hmode,hd,hnd,hr,hm=>by
  obtain⟨h1,h2,h3⟩:=hr r (by simp)
  obtain⟨w1,t1,t2,t3,t4⟩:=run_take (G:=G) (P:=P) h1
  have hstep:=step_collected (P:=P) (cs:=cs) (fr:=fr) (w:=w) (w':=w1) (d:=markOf r) (r:=r) (ds:=rs.map markOf) (calls:=[]) (by rw[hmode];simp) hd rfl t1
  obtain⟨m1,m2⟩:=hm.off h2 h3 (fun cs ty fz e=>by rw[h1]at e;cases e) t2 t3
  rw[List.nodup_cons]at hnd
  obtain⟨w2,s1,s2,s3,s4,s5,s6⟩:=unwind_marks rs {fr with defers:=[]++rs.map markOf} w1 hmode (by simp) hnd.2 (fun q hq=>by
   obtain⟨g1,g2,g3⟩:=hr q (by simp[hq])
   exact⟨(t2 q (fun e=>hnd.1 (e▸hq))).trans g1,g2,g3⟩) m1
  refine⟨w2,.head hstep s1,s2,m2.trans s3,fun b hb=>?_,s5.trans t3,t4.trans s6⟩
  simp only[List.mem_cons,not_or]at hb
  rw[s4 b hb.2,t2 b hb.1]

def entryT:Nat→List AV→List (Nat×AV)
 |_,[]=>[]
 |i,v::r=>(i,v)::entryT (i+1) r
def entryS (args:List AV)(n:Nat):St:={t:=entryT 0 args,h:=[],n:=n}
def entryH (args:List AV)(h:List (Nat×HO))(n:Nat):St:={t:=entryT 0 args,h:=h,n:=n}
def isNil {α:Type}:List α→Bool
 |[]=>true
 |_=>false
def hsL:List Blk→Nat→List (Nat×HO)
 |[],_=>[]
 |b::r,j=>(j,.blk b)::hsL r (j+1)
def retS (vals:List AV)(hs:List Blk):St:={t:=entryT 0 vals,h:=hsL hs 0,n:=vals.length}
def retV:List AV→AV
 |[v]=>v
 |vs=>.tup vs
abbrev RT:=Nat×Option (Option Nat)
def resT (P:Program):List ResultVar→Option (List RT)
 |[]=>some []
 |.tmp t::r=>match resT P r with
  |some l=>some ((t,none)::l)
  |none=>none
 |.cell a T::r=>match aggOf P T,resT P r with
  |some g,some l=>some ((a,some g)::l)
  |_,_=>none
def cdB:Cd→Bool
 |.b x=>x
 |.ge g want c=>cond (negIf (!want) g) (cdB c) true
 |.eqn x y=>Nat.beq x y
 |_=>false
def cdsB:List Cd→Bool
 |[]=>true
 |c::r=>cond (cdB c) (cdsB r) false

def res1 (S:St):RT→Option AV
 |(t,none)=>aget S.t t
 |(a,some g)=>match aget S.t a with
  |some v=>match opLoad (aget S.h) .plain g v with
   |some D=>cond (cdsB D.cs&&isNil D.ws) (some D.v) none
   |none=>none
  |none=>none
def resV (S:St):List RT→Option (List AV)
 |[]=>some []
 |r::l=>match res1 S r,resV S l with
  |some v,some vs=>some (v::vs)
  |_,_=>none
def resS (S:St)(vals:List AV):St:={t:=entryT 0 vals,h:=S.h,n:=vals.length}

theorem hsL_get:∀(hs:List Blk) (j i:Nat),aget (hsL hs j) i=if j≤i then hsH hs (i-j)else none
 |[],j,i=>by simp[hsL,aget,hsH]
 |b::r,j,i=>by
  simp only[hsL,aget]
  by_cases e:j=i
  ·subst e;rw[beq_self,cond_true];simp[hsH]
  ·rw[beq_ne e,cond_false,hsL_get r (j+1) i]
   by_cases h:j≤i
   ·obtain⟨d,hd⟩:∃d,i-j=d+1:=⟨i-j-1,by omega⟩
    rw[if_pos h,if_pos (by omega),hd,show i-(j+1)=d by omega]
    simp[hsH]
   ·rw[if_neg h,if_neg (by omega)]
theorem hsL_eq (hs:List Blk):aget (hsL hs 0)=hsH hs:=by
 funext i;rw[hsL_get];simp

theorem entryT_get:∀{args:List AV} {xs:List Value} {i t:Nat} {v:AV},RelVs w F ρ H args xs→aget (entryT i args) t=some v→∃x,i≤t∧xs[t-i]? =some x∧RelV w F ρ H v x
 |[],xs,i,t,v,h,hv=>by cases hv
 |u::r,xs,i,t,v,h,hv=>by
  cases h with
  |cons _ _ x xs hx hxs=>
   simp only[entryT,aget]at hv
   by_cases e:i=t
   ·subst e;rw[beq_self,cond_true]at hv;cases hv;exact⟨x,Nat.le_refl _,by simp,hx⟩
   ·rw[beq_ne e,cond_false]at hv
    obtain⟨y,h1,h2,h3⟩:=entryT_get hxs hv
    obtain⟨d,hd⟩:∃d,t-i=d+1:=⟨t-i-1,by omega⟩
    refine⟨y,by omega,?_,h3⟩
    have hd':t-(i+1)=d:=by omega
    rw[hd']at h2
    rw[hd]
    simpa using h2

theorem entry_rs {args:List AV}{h:List (Nat×HO)}{n:Nat}{vs:Array Value}(hm:MRel G F ρ (aget h) w)(hv:RelVs w F ρ (aget h) args vs.toList)(hle:args.length≤n):
  RS G F ρ (entryH args h n) {tmps:=vs++Array.replicate (n-vs.size) undef,defers:=[]} w:=by
 have hl:args.length=vs.size:=by have:=hv.len;simpa using this
 refine⟨by simp[entryH];omega,fun t v h=>?_,?_,⟨[],by simp,rfl,fun r hr=>by simp at hr⟩⟩
 ·obtain⟨x,h1,h2,h3⟩:=entryT_get hv h
  have h2:vs[t]? =some x:=by simpa using h2
  have hlt:=(Array.getElem?_eq_some_iff.1 h2).1
  have:(vs++Array.replicate (n-vs.size) undef).getD t undef=x:=by
   rw[Array.getD_eq_getD_getElem?,Array.getElem?_append_left hlt,h2];rfl
  rw[this];exact h3
 ·exact hm

def unT:List Value→Value
 |[v]=>v
 |vs=>.tuple vs.toArray

theorem cdB_ok {Sp:SpT}:∀{c:Cd},cdB c=true→c.holds Sp
 |.b x,h=>h
 |.ge g want c,h=>by
  simp only[cdB,cond_eq_ite]at h
  intro hg
  rw[if_pos hg]at h
  exact cdB_ok h
 |.eqn x y,h=>Nat.eq_of_beq_eq_true h
 |.get _ _ _,h=>by cases h
 |.call _ _ _ _,h=>by cases h
 |.callD _ _ _ _ _ _,h=>by cases h
theorem cdsB_ok {Sp:SpT}:∀{cs:List Cd},cdsB cs=true→AllC Sp cs
 |[],h=>trivial
 |c::r,h=>by
  simp only[cdsB,cond_eq_ite]at h
  split at h
  ·rename_i hc;exact⟨cdB_ok hc,cdsB_ok h⟩
  ·cases h

theorem isNil_ok {α:Type}{l:List α}(h:isNil l=true):l=[]:=by cases l<;>first|rfl|cases h
theorem loadAt_var {t:TypeId}{x:Value}{v:Value}{w':World}(h:(Instr.loadAt t x).run P w=.ok v w'):((do loadVar t (← asAddr x):Sem Value)).run P w=.ok v w':=by
 unfold Instr.loadAt Instr.sureAddr at h
 cases x with
 |pointer a=>
  cases a with
  |some a=>simpa[asAddr]using h
  |none=>simp at h
 |_=>simp at h

theorem run_results {fn:Func}{rts:List RT}(h:resT P fn.results.toList=some rts){S:St}{vals:List AV}(hv:resV S rts=some vals)(hm:MRel G F ρ (aget S.h) w){tmps:Array Value}(ht:∀t v,aget S.t t=some v→RelV w F ρ (aget S.h) v (tmps.getD t undef)):
  ∃xs,(results fn tmps).run P w=.ok (unT xs) w∧RelVs w F ρ (aget S.h) vals xs:=by
 have key:∀(g:ResultVar→Sem Value),(∀t,g (.tmp t)=pure (tmps.getD t undef))→(∀a t,g (.cell a t)=(do loadVar t (← asAddr (tmps.getD a undef))))→∀(l:List ResultVar) (rts:List RT) (vals:List AV),resT P l=some rts→resV S rts=some vals→
   ∃xs,(l.mapM g).run P w=.ok xs w∧RelVs w F ρ (aget S.h) vals xs:=by
  intro g hg hg2 l
  induction l with
  |nil=>intro rts vals h hv;cases h;cases hv;exact⟨[],by simp,.nil⟩
  |cons x r ih=>
   intro rts vals h hv
   cases x with
   |tmp t=>
    simp only[resT]at h
    split at h
    ·rename_i l' hl'
     cases h
     simp only[resV]at hv
     split at hv
     ·rename_i v vs h1 h2
      cases hv
      obtain⟨xs,g1,g2⟩:=ih _ _ hl' h2
      refine⟨tmps.getD t undef::xs,?_,.cons _ _ _ _ (ht t v h1) g2⟩
      simp only[List.mapM_cons,hg,Sem.run_bind,Sem.run_pure,Result.andThen_ok,g1]
     ·cases hv
    ·cases h
   |cell a t=>
    simp only[resT]at h
    split at h
    ·rename_i ag l' hag hl'
     cases h
     simp only[resV]at hv
     split at hv
     ·rename_i v vs h1 h2
      cases hv
      obtain⟨xs,g1,g2⟩:=ih _ _ hl' h2
      simp only[res1]at h1
      split at h1
      ·rename_i pv hpv
       split at h1
       ·rename_i D hD
        rw[cond_eq_ite]at h1
        split at h1
        ·rename_i hc
         rw[Bool.and_eq_true]at hc
         cases h1
         have hsame:=opLoad_same (P:=P) hm (fun _ _ h=>h) (ht a pv hpv) (aggOf_ok hag) hD (cdsB_ok (Sp:=SpecQ P G) hc.1)
         obtain⟨y,e1,e2,_⟩:=hsame
         refine⟨y::xs,?_,.cons _ _ _ _ e2 g2⟩
         simp only[List.mapM_cons,hg2,Sem.run_bind]
         have:=loadAt_var e1
         simp only[Sem.run_bind]at this
         rw[this]
         simp only[Result.andThen_ok,g1,Sem.run_pure]
        ·cases h1
       ·cases h1
      ·cases h1
     ·cases hv
    ·cases h
 have fin:∀(g:ResultVar→Sem Value),(∀t,g (.tmp t)=pure (tmps.getD t undef))→(∀a t,g (.cell a t)=(do loadVar t (← asAddr (tmps.getD a undef))))→
   ∃xs,((do let vs ← fn.results.mapM g;pure (if h:vs.size=1 then vs[0]else .tuple vs)):Sem Value).run P w=.ok (unT xs) w∧RelVs w F ρ (aget S.h) vals xs:=by
  intro g h1 h2
  obtain⟨xs,g1,g2⟩:=key g h1 h2 _ _ _ h hv
  refine⟨xs,?_,g2⟩
  rw[Array.mapM_eq_mapM_toList]
  simp only[Sem.run_bind,Sem.run_map]
  rw[g1]
  simp only[Result.andThen_ok,Sem.run_pure]
  match xs with
  |[]=>rfl
  |[v]=>rfl
  |v::u::r=>simp;rfl
 unfold results
 exact fin _ (fun t=>rfl) (fun a t=>rfl)

theorem callFunc_enter {f:FuncId}{fn:Func}{c:Code}(hf:P.funcs[f]? =some fn)(hname:(fn.name=="runtime.NumGoroutine")=false)(hb:fn.body=some c)(args:Array Value)(w:World):
  (callFunc f args).run P w=.ok (.enter f args) w:=by
 have h1:fn.name≠"runtime.NumGoroutine":=by simpa using hname
 simp[callFunc,hf,h1,hb]

theorem retV_rel {vals:List AV}{xs:List Value}(h:RelVs w F ρ H vals xs):RelV w F ρ H (retV vals) (unT xs):=by
 cases h with
 |nil=>exact .tup _ _ .nil
 |cons v l x xs hv hs=>
  cases hs with
  |nil=>exact hv
  |cons u l y ys hu hs=>exact .tup _ _ (by simpa using RelVs.cons _ _ _ _ hv (.cons _ _ _ _ hu hs))

theorem body_core (hcm:G.cm=cmOf P){md:Md}(hrid:md.rid=none){f:FuncId}{fn:Func}{c:Code}{xc:XC}{args:List AV}{h:List (Nat×HO)}{rts:List RT}{R:St→Prop}
  (hf:P.funcs[f]? =some fn) (hname:(fn.name=="runtime.NumGoroutine")=false) (hb:fn.body=some c)
  (hc:cmOf P c xc) (hres:resT P fn.results.toList=some rts) (hle:Nat.ble args.length fn.ntmps=true)
  (hW:WpX P G md xc (entryH args h fn.ntmps) (fun e S'=>(e=.ret∨e=.normal)∧R S')) (hR:∀S',R S'→∃vals,resV S' rts=some vals)
  {vs:Array Value} (hm:MRel G F ρ (aget h) w) (hv:RelVs w F ρ (aget h) args vs.toList) {K:Value→World→Prop}
  (hK:∀(S':St) (vals:List AV) (xs:List Value) (w2:World) (F':Nat→Prop) (ρ':Nat→Option Nat),R S'→resV S' rts=some vals→MRel G F' ρ' (aget S'.h) w2→RelVs w2 F' ρ' (aget S'.h) vals xs→Ext G F ρ w F' ρ' w2→HKp md.ks w ρ (aget h) w2 ρ' (aget S'.h)→
   K (unT xs) w2):CallOk P f vs w K:=by
 refine .inr (.inl ⟨f,vs,w,callFunc_enter hf hname hb vs w,fun cs=>?_⟩)
 let a0:Act:={tmps:=vs++Array.replicate (fn.ntmps-vs.size) undef,defers:=[]}
 have hr0:RS G F ρ (entryH args h fn.ntmps) a0 w:=entry_rs hm hv (Nat.le_of_ble_eq_true hle)
 let b:Frame:={(default:Frame)with fn:=f,kind:=.normal,roundOf:=none}
 have henter:Frame.enter P f vs .normal=b.atR a0 [.code c]:=by simp[Frame.enter,Frame.atR,hf,hb,b,a0]
 obtain⟨e,a',w',⟨S',⟨he,hRS⟩,F',ρ',hr',hx',hkp,hdx⟩,harr⟩:=hW c (by rw[hcm];exact hc) F ρ a0 w none hr0 (by unfold RoOk;rw[hrid]) b [] cs rfl
 rw[← henter]at harr
 -- the frame on its way out
 have hgo:∃fr:Frame,fr.mode=.returning∧fr.defers=a'.defers∧fr.tmps=a'.tmps∧fr.kind=.normal∧fr.fn=f∧Steps P (lone (Frame.enter P f vs .normal) cs w) (lone fr cs w'):=by
  rcases he with rfl|rfl
  ·obtain⟨todo,hs⟩:=harr
   exact⟨{b.atR a' (.code .ret::todo)with mode:=.returning},rfl,rfl,rfl,rfl,rfl,hs.trans (.one (stepR_ret rfl))⟩
  ·exact⟨{b.atR a' []with mode:=.returning},rfl,rfl,rfl,rfl,rfl,Steps.trans harr (.one (stepR_end rfl))⟩
 obtain⟨fr,g1,g2,g3,g4,g5,g6⟩:=hgo
 obtain⟨rs,d1,d2,d3⟩:=hr'.defs
 obtain⟨new,n1,n2⟩:=hdx
 have hnew:∀r,r∈rs→w.heap.size≤r:=fun r hr=>by
  have h1:markOf r∈a'.defers:=by rw[d2];exact List.mem_map.2 ⟨r,hr,rfl⟩
  rw[n1]at h1
  simp only[a0,List.append_nil]at h1
  obtain⟨r',hr',e⟩:=List.mem_map.1 h1
  have:r'=r:=by simp only[markOf]at e;injection e with e1 e2;injection e1
  exact this▸n2 r' hr'
 obtain⟨w2,s1,s2,s3,s4,s5,s6⟩:=unwind_marks (cs:=cs) rs fr w' g1 (g2.trans d2) d1 d3 hr'.mem
 have hx2:Ext G F ρ w F' ρ' w2:=by
  refine⟨hx'.io.trans s6,by rw[s5];exact hx'.size,fun b hb hn=>?_,fun b hb=>?_,hx'.keep,hx'.more,hx'.im⟩
  ·rw[s4 b (fun hm=>by have:=hnew b hm;omega)];exact hx'.same b hb hn
  ·rw[s4 b (fun hm=>(d3 b hm).2.2 (hx'.keep b hb))];exact hx'.frz b hb
 have ht2:∀t v,aget S'.t t=some v→RelV w2 F' ρ' (aget S'.h) v (a'.tmps.getD t undef):=fun t v ht=>(hr'.tmps t v ht).mono (fun b hb=>s4 b (fun hm=>(d3 b hm).2.2 hb)) (fun _ h=>h) s3
 obtain⟨vals,hvals⟩:=hR S' hRS
 obtain⟨xs,e1,e2⟩:=run_results (fn:=fn) hres hvals s2 ht2
 refine⟨.returned _,w2,{fr with defers:=[]},⟨_,rfl,hK S' vals xs w2 F' ρ' hRS hvals s2 e2 hx2 (hkp.trans s3.kp)⟩,g6.trans s1,g5,g1,rfl,g4,fn,?_,?_⟩
 ·rw[g5];exact hf
 ·show(results fn fr.tmps).run P w2=_
  rw[g3];exact e1

theorem entryT_tmps {vals:List AV}{xs:List Value}(h:RelVs w F ρ H vals xs):∀t v,aget (entryT 0 vals) t=some v→RelV w F ρ H v (xs.toArray.getD t undef):=fun t v hv=>by
 obtain⟨x,_,h2,h3⟩:=entryT_get h hv
 have h2:xs[t]? =some x:=by simpa using h2
 rw[Array.getD_eq_getD_getElem?]
 simp[h2];exact h3
theorem vals_of_entryT {tmps:Array Value}:∀{vals:List AV} {i:Nat},(∀t v,aget (entryT i vals) t=some v→RelV w F ρ H v (tmps.getD t undef))→RelVs w F ρ H vals ((List.range' i vals.length).map fun t=>tmps.getD t undef)
 |[],i,h=>.nil
 |v::r,i,h=>by
  simp only[List.length_cons,List.range'_succ,List.map_cons]
  refine .cons _ _ _ _ (h i v (by simp[entryT,aget,beq_self])) (vals_of_entryT fun t u hu=>h t u ?_)
  have hne:i≠t:=fun e=>by
   subst e
   have key:∀(l:List AV) (j:Nat),i<j→aget (entryT j l) i=none:=by
    intro l
    induction l with
    |nil=>intro j _;rfl
    |cons a l ih=>intro j hj;simp only[entryT,aget];rw[beq_ne (by omega),cond_false];exact ih _ (by omega)
   rw[key r (i+1) (by omega)]at hu;cases hu
  simp only[entryT,aget];rw[beq_ne hne,cond_false];exact hu
theorem range_getD {xs:List Value}{n:Nat}(h:xs.length=n):(List.range' 0 n).map (fun t=>xs.toArray.getD t undef)=xs:=by
 subst h
 apply List.ext_getElem
 ·simp
 ·intro i h1 h2
  have h3:i<xs.length:=by simpa using h2
  simp[Array.getD_eq_getD_getElem?,h3]

theorem spec_of_body (hcm:G.cm=cmOf P){f:FuncId}{fn:Func}{c:Code}{xc:XC}{args vals:List AV}{blks:List Blk}{rts:List RT}(hf:P.funcs[f]? =some fn)(hname:(fn.name=="runtime.NumGoroutine")=false)(hb:fn.body=some c)
  (hc:cmOf P c xc) (hres:resT P fn.results.toList=some rts) (hle:Nat.ble args.length fn.ntmps=true)
  (hW:WpX P G ⟨none,[]⟩ xc (entryS args fn.ntmps) (fun e S'=>(e=.ret∨e=.normal)∧∃vs σ ps,resV S' rts=some vs∧renS σ (resS S' vs) (retS vals blks)=some ps∧PAll ps)):
  SpecP P G f args (retV vals) blks:=by
 intro F w vs hm hv
 refine body_core hcm (md:=⟨none,[]⟩) (h:=[]) rfl hf hname hb hc hres hle hW (fun S' ⟨vs,σ,ps,h,_⟩=>⟨vs,h⟩) (hm:MRel G F noR (aget []) w) hv.toVs ?_
 rintro S' vals' xs w2 F' ρ' ⟨vs',σ,ps,hv',hren,hps⟩ hvals q1 q2 q3 q4
 rw[hvals]at hv';cases hv'
 obtain⟨hn,ρ2,r1,r2,r3,_⟩:=ren_soundM (S:=resS S' vals') hren hps q1
 refine⟨F',ρ2,?_,q3.trans r2,?_⟩
 ·simp only[retS,hsL_eq]at r1;exact r1
 ·have h1:=r3 xs.toArray (entryT_tmps q2)
  simp only[retS,hsL_eq]at h1
  have h2:=vals_of_entryT h1
  have hlen:xs.length=vals.length:=by
   have:=q2.len
   simp only[retS,resS]at hn
   omega
  rw[range_getD hlen]at h2
  exact retV_rel h2

theorem HKp.all {h:List (Nat×HO)}{w':World}{ρ':Nat→Option Nat}{h':Nat→Option HO}(hk:HKp (keys h) w ρ (aget h) w' ρ' h'):HKeep w ρ (aget h) w' ρ' h':=
 ⟨fun id o h1=>hk.box id o (key_aget.2 ⟨o,h1⟩) h1,fun id k h1=>hk.blk id k (key_aget.2 ⟨_,h1⟩) h1,hk.sz⟩

def retH (vals:List AV)(h ws:List (Nat×HO)):St:={t:=entryT 0 vals,h:=asets h ws,n:=vals.length}

theorem specD_of_body (hcm:G.cm=cmOf P){f:FuncId}{fn:Func}{c:Code}{xc:XC}{args vals:List AV}{h ws:List (Nat×HO)}{al:List Nat}{rts:List RT}(hf:P.funcs[f]? =some fn)(hname:(fn.name=="runtime.NumGoroutine")=false)(hb:fn.body=some c)
  (hc:cmOf P c xc) (hres:resT P fn.results.toList=some rts) (hle:Nat.ble args.length fn.ntmps=true)
  (hW:WpX P G ⟨none,keys h⟩ xc (entryH args h fn.ntmps) (fun e S'=>(e=.ret∨e=.normal)∧∃vs σ ps,resV S' rts=some vs∧renS σ (resS S' vs) (retH vals h ws)=some ps∧PAll ps∧keepB σ (resS S' vs) (retH vals h ws) (keys h)=true)):
  SpecD P G (.fn f [] []) args h (retV vals) ws al:=by
 intro F ρ w vs hm hv
 refine body_core hcm (md:=⟨none,keys h⟩) (h:=h) rfl hf hname hb hc hres hle hW (fun S' ⟨vs,σ,ps,h,_⟩=>⟨vs,h⟩) hm hv ?_
 rintro S' vals' xs w2 F' ρ' ⟨vs',σ,ps,hv',hren,hps,hkeep⟩ hvals q1 q2 q3 q4
 rw[hvals]at hv';cases hv'
 obtain⟨hn,ρ2,r1,r2,r3,r4⟩:=ren_soundM (S:=resS S' vals') hren hps q1
 have hk2:=q4.trans (r4 _ hkeep)
 simp only[retH,aget_asets]at r1 r3 hk2
 refine⟨F',ρ2,r1,q3.trans r2,hk2.all,?_⟩
 have h2:=vals_of_entryT (r3 xs.toArray (entryT_tmps q2))
 have hlen:xs.length=vals.length:=by
  have:=q2.len
  simp only[retH,resS]at hn
  omega
 rw[range_getD hlen]at h2
 exact retV_rel h2

end
end Go.Ab

/-
 Code run on abstract values, by a function: no plan, every choice decided, loops unrolled, calls run too.
-/
set_option linter.unusedVariables false
set_option linter.unusedSimpArgs false
namespace Go.Ab
open Go

abbrev TB:=Nat→List (Nat×HO)→AV→List AV→Option Delta

def cdC:Cd→Bool
 |.callD _ _ _ _ _ _=>true
 |c=>cdB c
def cdsC:List Cd→Bool
 |[]=>true
 |c::r=>cond (cdC c) (cdsC r) false
def chkE (op:XOp)(cs:List Cd):Bool:=
 match op with
 |.call _ _=>cdsC cs
 |.callv _ _=>cdsC cs
 |_=>cdsB cs

def nextC:Nat→List Nat→Nat
 |m,[]=>m
 |m,i::r=>nextC (cond (Nat.ble m i) (i+1) m) r
def addW (c0:Nat)(wr:List Nat):List (Nat×HO)→List Nat
 |[]=>wr
 |(i,_)::r=>addW c0 (cond (Nat.ble c0 i) wr (cond (memN i wr) wr (i::wr))) r

structure EvS where
 S:St
 c:Nat
 wr:List Nat

def exOpsE (G:GL)(tb:TB)(c0:Nat):List XO→EvS→Option EvS
 |[],s=>some s
 |x::r,s=>match runG G s.c (aget s.S.h) x .auto (.tab true tb) (gvOf s.S.t x.guard) (readT s.S.t x.op.opds)with
  |some D=>cond (okDst x.dst s.S.n&&(freshA s.S.h D.al&&chkE x.op D.cs)) (exOpsE G tb c0 r ⟨putS s.S x.dst D,nextC s.c D.al,addW c0 s.wr D.ws⟩) none
  |none=>none

def opdT:List Opd→List Nat
 |[]=>[]
 |.t n::r=>n::opdT r
 |_::r=>opdT r
def apartT (x y:XO):Bool:=
 noneIn (optL x.dst) (opdT y.op.opds++(gL y.guard++optL y.dst))&&noneIn (optL y.dst) (opdT x.op.opds++gL x.guard)
def apartH (e f:Ent):Bool:=
 noneIn (keys e.D.ws) (keys f.rh++(f.D.al++keys f.D.ws))&&noneIn (keys f.D.ws) (keys e.rh++e.D.al)
def apartJ (xs:List XO)(x:XO)(j:Nat):Bool:=
 match nth? xs j with
 |some y=>apartT x y
 |none=>false
def pairT (dep:List (List Nat))(tbl:List (Nat×List Nat))(xs:List XO)(i:Nat)(x:XO):List Nat→Bool
 |[]=>true
 |j::r=> !Nat.beq i j&&(!memN j (depN dep i)&&((memN i (tbN tbl j)||apartJ xs x j)&&pairT dep tbl xs i x r))
def pairTo (dep:List (List Nat))(tbl:List (Nat×List Nat))(xs:List XO)(i:Nat)(r:List Nat):Bool:=
 match nth? xs i with
 |some x=>pairT dep tbl xs i x r
 |none=>false
def pairsT (dep:List (List Nat))(tbl:List (Nat×List Nat))(xs:List XO):List Nat→Bool
 |[]=>true
 |i::r=> !memN i (depN dep i)&&(pairTo dep tbl xs i r&&pairsT dep tbl xs r)
def drawT (xs:List XO)(dep:List (List Nat))(ord:List Nat):Bool:=
 Nat.beq ord.length xs.length&&(allMem ord xs.length&&(depB xs.length dep&&(allLt xs.length ord&&pairsT dep (ancTab dep ord []) xs ord)))
def quietE (e:Ent):Bool:=isNil e.D.ws&&(isNil e.rh&&isNil e.D.al)
def pairHE (tbl:List (Nat×List Nat))(i:Nat)(e:Ent):List (Nat×Ent)→Bool
 |[]=>true
 |(j,f)::r=>((isNil e.D.ws&&isNil f.D.ws)||(memN i (tbN tbl j)||apartH e f))&&pairHE tbl i e r
def pairsHE (tbl:List (Nat×List Nat)):List (Nat×Ent)→Bool
 |[]=>true
 |(i,e)::r=>(quietE e||pairHE tbl i e r)&&pairsHE tbl r

def exEntsE (G:GL)(tb:TB)(c0:Nat)(xs:List XO):List Nat→EvS→Option (EvS×List (Nat×Ent))
 |[],s=>some (s,[])
 |i::r,s=>match nth? xs i with
  |some x=>match mkEnt G s.S x s.c (.auto,.tab true tb)with
   |some e=>cond (chkE x.op e.D.cs) (match exEntsE G tb c0 xs r ⟨putS s.S x.dst e.D,nextC s.c e.D.al,addW c0 s.wr e.D.ws⟩with
    |some (s',es)=>some (s',(i,e)::es)
    |none=>none) none
   |none=>none
  |none=>none

def Ex.isN:Ex→Bool
 |.normal=>true
 |_=>false
def pendX:Option Ex→Option Ex
 |none=>some .normal
 |some .normal=>none
 |some e=>some e

def ridB (h:List (Nat×HO)):Option Nat→Bool
 |none=>true
 |some l0=>match aget h l0 with
  |some (.loop _)=>true
  |_=>false
def evC (G:GL)(tb:TB)(rid:Option Nat)(c0:Nat):Nat→XC→EvS→Option (Ex×EvS)
 |0,_,_=>none
 |n+1,xc,s=>match xc with
  |.skip=>some (.normal,s)
  |.bad=>none
  |.scope a=>evC G tb rid c0 n a s
  |.exit id=>some (.exit id,s)
  |.ret=>some (.ret,s)
  |.reg _ xs dead=>match exOpsE G tb c0 xs s with
   |some s'=>some (.normal,⟨delS s'.S dead,s'.c,s'.wr⟩)
   |none=>none
  |.draw _ xs dep ord dead=>cond (drawT xs dep ord) (match exEntsE G tb c0 xs ord s with
   |some (s',es)=>cond (pairsHE (ancTab dep ord []) es) (some (.normal,⟨delS s'.S dead,s'.c,s'.wr⟩)) none
   |none=>none) none
  |.seq a b=>match evC G tb rid c0 n a s with
   |some (e,s')=>match e with
    |.normal=>evC G tb rid c0 n b s'
    |e=>some (e,s')
   |none=>none
  |.cond c a b=>match c.ev G s.S.t with
   |.bool v=>match v with
    |true=>evC G tb rid c0 n a s
    |false=>evC G tb rid c0 n b s
   |_=>none
  |.block id a=>match evC G tb rid c0 n a s with
   |some (e,s')=>match e with
    |.exit i=>some (cond (Nat.beq i id) .normal (.exit i),s')
    |e=>some (e,s')
   |none=>none
  |.loop a=>match evC G tb rid c0 n a s with
   |some (e,s')=>match e with
    |.normal=>evC G tb rid c0 n (.loop a) s'
    |e=>some (e,s')
   |none=>none
  |.rangeF g ps as bd=>match g.ev G s.S.t with
   |.fn f a cp=>cond (ridB s.S.h rid)
    (cond (freshA s.S.h [s.c]) (match opCallD (s.c+1) (aget (aset s.S.h s.c (.loop ⟨0,none,s.S.t,s.S.n,ps,as,bd⟩))) tb (.fn f [] []) (a++[.yld s.c]++cp)with
     |some D=>cond (freshA (aset s.S.h s.c (.loop ⟨0,none,s.S.t,s.S.n,ps,as,bd⟩)) D.al&&cdsC D.cs) (match aget (asets (aset s.S.h s.c (.loop ⟨0,none,s.S.t,s.S.n,ps,as,bd⟩)) D.ws) s.c with
      |some (.loop l2)=>match pendX l2.pend with
       |some e=>cond (Nat.beq l2.st 1) none (some (e,⟨{s.S with h:=aset (asets (aset s.S.h s.c (.loop ⟨0,none,s.S.t,s.S.n,ps,as,bd⟩)) D.ws) s.c (.loop {l2 with st:=3})},nextC (s.c+1) D.al,addW c0 s.wr ((s.c,.loop l2)::D.ws)⟩))
       |none=>none
      |_=>none) none
     |none=>none) none) none
   |_=>none

structure FnE where
 n:Nat
 rts:List RT
 xc:XC

def wsOf (h0:List Nat)(c0:Nat)(wr:List Nat):List (Nat×HO)→List (Nat×HO)
 |[]=>[]
 |(i,o)::r=>cond (cond (memN i h0) (cond (Nat.ble c0 i) true (memN i wr)) true) ((i,o)::wsOf h0 c0 wr r) (wsOf h0 c0 wr r)
def alOf (h0:List Nat):List (Nat×HO)→List Nat
 |[]=>[]
 |(i,_)::r=>cond (memN i h0) (alOf h0 r) (i::alOf h0 r)
def finE (h0:List Nat)(c0:Nat)(s:EvS)(vals:List AV):Option Delta:=
 let r:=refsL vals++h0
 let h:=readF (aget s.S.h) (reachW (aget s.S.h) 1000000 r [])
 cond (allIn r (keys h)&&closedH (keys h) h) (some {v:=retV vals,ws:=wsOf h0 c0 s.wr h,al:=alOf h0 h,cs:=[]}) none
def setPs:List (Nat×AV)→List Nat→List AV→List (Nat×AV)
 |t,p::ps,v::vs=>setPs (aset t p v) ps vs
 |t,_,_=>t
def allLtP (n:Nat):List Nat→Bool
 |[]=>true
 |p::r=>cond (Nat.ble (p+1) n) (allLtP n r) false

end Go.Ab
