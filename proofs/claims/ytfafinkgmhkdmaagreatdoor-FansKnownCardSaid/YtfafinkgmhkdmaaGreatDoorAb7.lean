/- An abstract reading of the program: what its operations do to what is known of memory. Part 7 of 7. -/
import Derived.Test.YtfafinkgmhkdmaaGreatDoorAb6
import Derived.Lib.Join
set_option linter.unusedVariables false
namespace Go.Ab
open Go Go.RowKit
def C5H:List AV->Option (List (List UInt8))
 |[]=>some []
 |v::r=>match v with
  |.str s=>match C5H r with
   |some l=>some (s::l)
   |none=>none
  |_=>none
def B7p:Cont->Option (List (List UInt8))
 |.vals l=>C5H l
 |.strs l=>some l
 |_=>none
def B3N (i:Nat)(f:Nat)(args:List AV):Option (AV×List Blk):=
 cond (Nat.beq i f) (match args with
  |[.imm c n _,.str sep]=>match B7p c with
   |some ls=>cond (Nat.beq n ls.length&&(Nat.ble ls.length 100000&&Nat.ble (Lib.join ls sep).length 100000)) (some (.str (Lib.join ls sep),[])) none
   |none=>none
  |_=>none) none
theorem B2L:∀{l:List AV} {ls:List (List UInt8)},C5H l=some ls->ls.length=l.length/\∀(i:Nat) (s:List UInt8),ls[i]? =some s->l[i]? =some (AV.str s)
 |[],ls,h=>by cases h;exact⟨rfl,fun i s h=>by simp at h⟩
 |v::r,ls,h=>by
  simp only[C5H]at h;split at h
  ·split at h
   ·rename_i s l' hl;cases h;obtain⟨h1,h2⟩:=B2L hl;refine⟨by simp[h1],fun i s h=>?_⟩;cases i with
    |zero=>simp at h;subst h;rfl
    |succ i=>simpa using h2 i s (by simpa using h)
   ·cases h
  ·cases h
theorem B5v {c:Cont}{ls:List (List UInt8)}(h:B7p c=some ls):ls.length=c.size/\∀(i:Nat) (s:List UInt8),ls[i]? =some s->c.getV i=.str s:=by
 unfold B7p at h;split at h
 ·obtain⟨h1,h2⟩:=B2L h;exact⟨h1,fun i s hi=>by simp[Cont.getV,h2 i s hi]⟩
 ·cases h;exact⟨rfl,fun i s hi=>by simp[Cont.getV,hi]⟩
 ·cases h
theorem C6L (s:ByteArray)(l:List UInt8)(h:s.data.toList=l):s=⟨l.toArray⟩:=by
 subst h;cases s with
 |mk d=>simp
theorem B7q {P:Program}{G:GL}(hns:¬ G.strong){f:Nat}{fn:Func}{c:Code}(hf:P.funcs[f]? =some fn)(hname:(fn.name=="runtime.NumGoroutine")=false)(hb:fn.body=some c)
  (h0:∀(a:Option Addr) (c:Nat) (sep:ByteArray) (w:World),Calls P f #[.slice a 0 c,.string sep] w fun e w'=>e=.returned (.string ⟨#[]⟩)/\w'=w)
  (h1:∀(bk o c:Nat) (xs:List ByteArray) (sep:ByteArray) (w:World),(∀(j:Nat) x,xs[j]? =some x->w.cell? ⟨bk,o+j,none⟩=some (.string x))->bk<w.heap.size->xs.length<=140737488355328->xs.length<=c->(Lib.join (xs.map (·.data.toList)) sep.data.toList).length<=140737488355328->
   Calls P f #[.slice (some ⟨bk,o,none⟩) xs.length c,.string sep] w fun e w'=>e=.returned (.string ⟨(Lib.join (xs.map (·.data.toList)) sep.data.toList).toArray⟩)/\Below w.heap.size w w'):
  ∀g args v hs,B3N f g args=some (v,hs)->SpecP P G g args v hs:=by
 intro g args v hs h;unfold B3N at h;rw[cond_eq_ite]at h;split at h
 ·rename_i hg;have hg:=Nat.eq_of_beq_eq_true hg;subst hg;split at h
  ·rename_i l n cap sep;split at h
   ·rename_i ls hls;rw[cond_eq_ite]at h;split at h
    ·rename_i hc;cases h;simp only[Bool.and_eq_true]at hc;have hn:=Nat.eq_of_beq_eq_true hc.1;have hl1:=Nat.le_of_ble_eq_true hc.2.1;have hl2:=Nat.le_of_ble_eq_true hc.2.2;have hn0:=hn;obtain⟨g1,g2⟩:=B5v hls;intro F w vs hm hr;obtain⟨vl⟩:=vs;cases hr with
     |cons _ _ x1 r1 hx1 hr=>
      cases hr with
      |cons _ _ x2 r2 hx2 hr2=>
       cases hr2;obtain⟨sb,rfl,hs⟩:∃sb,x2=.string sb/\sb.data.toList=sep:=by cases hx2 with|str _ s h=>exact⟨s,rfl,h⟩
       have key:∀e w',e=Ending.returned (.string ⟨(Lib.join ls sep).toArray⟩)/\Below w.heap.size w w'->∃v,e=.returned v/\∃F' ρ',MRel G F' ρ' (hsH []) w'/\Ext G F noR w F' ρ' w'/\RelV w' F' ρ' (hsH []) (.str (Lib.join ls sep)) v:=by
        rintro e w' ⟨rfl,hB⟩;have hfr:∀b,F b->w'.heap[b]? =w.heap[b]? :=fun b hb=>hB.block b (hm.frz b hb);refine⟨_,rfl,F,noR,⟨fun id o h=>(by simp[hsH]at h),fun id b h=>(by cases h),fun i j b h=>(by cases h),fun id b h=>(by cases h),fun b hb=>Nat.lt_of_lt_of_le (hm.frz b hb) hB.size,GlobOk.mono hfr (fun _ h=>h) hm.glob⟩,⟨⟨hB.os,hB.output,fun s=>absurd s hns⟩,hB.size,fun b hb _=>hB.block b hb,hfr,fun _ h=>h,fun _ h=>.inl h,fun id b h=>(by cases h)⟩,.imm _ _ (.str _ _ rfl)⟩
       unfold A19;rw[A1h hf hname hb];refine .inr (.inl ⟨_,_,_,rfl,?_⟩);cases hx1 with
       |imm0 _ _ x hz hcap=>
        have e:ls=[]:=List.length_eq_zero_iff.1 hn0.symm;subst e;exact(h0 _ _ _ _).mono fun e w' ⟨e1,e2⟩=>key e w' ⟨by rw[e1];rfl,e2▸Below.refl _ _⟩
       |imm _ _ _ b o cap' xs hF hcl hrl ho hlc hcap=>
        have hcell:∀(j:Nat) x,(ls.map fun l=>(⟨l.toArray⟩:ByteArray))[j]? =some x->w.cell? ⟨b,o+j,none⟩=some (.string x):=by
         intro j x hj;rw[List.getElem?_map]at hj;cases hlj:ls[j]? with
         |none=>rw[hlj]at hj;cases hj
         |some s=>
          rw[hlj]at hj;cases hj;have hjl:j<l.size:=by
           rw[<- g1];exact(List.getElem?_eq_some_iff.1 hlj).1
          have h2:=g2 j s hlj;rw[hcl j hjl];have hrj:=hrl j hjl;rw[h2]at hrj;generalize xs j=y at hrj;cases hrj with
          |str _ sb' e2=>rw[C6L _ _ e2]
        have hmap:(ls.map fun l=>(⟨l.toArray⟩:ByteArray)).map (·.data.toList)=ls:=by
         rw[List.map_map]
         conv=>rhs;rw[<- List.map_id ls]
         exact List.map_congr_left fun a _=>by simp
        have hlen:(ls.map fun l=>(⟨l.toArray⟩:ByteArray)).length=ls.length:=List.length_map ..
        have:=h1 b o cap' _ sb w hcell (hm.frz b hF) (by rw[hlen];omega) (by rw[hlen,<- hn0];exact hlc) (by rw[hmap,hs];omega);rw[hmap,hs,hlen,<- hn0]at this;exact this.mono key
    ·cases h
   ·cases h
  ·cases h
 ·cases h
theorem SpecP.more {P:Program}{G G':GL}(hg:∀g c,G.g g=some c->G'.g g=some c)(hst:G'.strong->G.strong){f:Nat}{args:List AV}{ret:AV}{hs:List Blk}(h:SpecP P G f args ret hs):SpecP P G' f args ret hs:=by
 intro F w vs hm hr;have hm':MRel G F noR noH w:=⟨fun id o h=>(by cases h),fun id b h=>(by cases h),fun i j b h=>(by cases h),fun id b h=>(by cases h),hm.frz,fun g c hgc=>hm.glob g c (hg g c hgc)⟩;refine(h F w vs hm' hr).mono ?_;rintro v w' ⟨F',ρ',h1,h2,h3⟩;refine⟨F',ρ',⟨fun id o ho=>?_,h1.dom,h1.inj,h1.lt,h1.frz,GlobOk.mono (fun b hb=>h2.frz b hb) (fun b hb=>h2.keep b hb) hm.glob⟩,⟨⟨h2.io.1,h2.io.2.1,fun s=>h2.io.2.2 (hst s)⟩,h2.size,h2.same,h2.frz,h2.keep,h2.more,h2.im⟩,h3⟩;have:=h1.heap id o ho;unfold hsH at ho;cases hx:hs[id]? with
 |none=>rw[hx]at ho;cases ho
 |some k=>rw[hx]at ho;cases ho;exact this
end Go.Ab
