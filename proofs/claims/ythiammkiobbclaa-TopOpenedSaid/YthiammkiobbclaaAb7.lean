/- An abstract reading of the program: what its operations do to what is known of memory. Part 7 of 9. -/
import Derived.Test.YthiammkiobbclaaAb6
import Derived.LaidHandle

/-
 What is read as data, as abstract values: arguments, package-level variables.
-/
set_option linter.unusedVariables false
set_option linter.unusedSimpArgs false
set_option linter.unnecessarySimpa false
namespace Go.Ab
open Go Go.RowKit Go.WideShapes Go.ChangeShapes

inductive Sh where
 |int (k:IntKind)
 |bool
 |str
 |fn
 |sl (s:Sh)
 |st (l:List Sh)
mutual
def Sh.size:Sh→Nat
 |.st l=>sizes l
 |_=>1
def sizes:List Sh→Nat
 |[]=>0
 |s::r=>s.size+sizes r
end
def fieldsSh (P:Program)(rec:TypeId→Option Sh):List Field→Nat→Option (List Sh)
 |[],_=>some []
 |f::r,off=>match rec f.type with
  |some s=>cond (Nat.beq f.offset off&&Nat.beq (P.cellsOf f.type) s.size) (match fieldsSh P rec r (off+s.size)with
   |some l=>some (s::l)
   |none=>none) none
  |none=>none
def shp (P:Program):Nat→TypeId→Option Sh
 |0,_=>none
 |n+1,t=>match P.underlying t with
  |some .bool=>some .bool
  |some (.int k)=>some (.int k)
  |some .string=>some .str
  |some (.func _ _ _)=>some .fn
  |some (.slice e)=>match shp P n e with
   |some s=>cond (Nat.beq (P.cellsOf e) s.size&&Nat.ble 1 s.size) (some (.sl s)) none
   |none=>none
  |some (.struct fs)=>match fieldsSh P (shp P n) fs.toList 0 with
   |some l=>cond (Nat.beq (P.cellsOf t) (sizes l)) (some (.st l)) none
   |none=>none
  |some (.array m e)=>match shp P n e with
   |some s=>cond (Nat.beq (P.cellsOf e) s.size&&Nat.beq (P.cellsOf t) (m*s.size)) (some (.st (List.replicate m s))) none
   |none=>none
  |_=>none
variable {H:Type}
def numD:DataW H→Int
 |.lit (.int _ n)=>n
 |_=>0
def Sh.intK:Sh→Option IntKind
 |.int k=>some k
 |_=>none
def contOf' (k:Option IntKind)(vs:List AV)(ns:List Int):Cont:=match k with
 |some k=>.ints k ns
 |none=>.vals vs
mutual
def flat (hd:H→AV):Sh→DataW H→List AV
 |.int k,d=>match d with
  |.lit (.int _ n)=>[.int k n]
  |_=>[.undef]
 |.bool,d=>match d with
  |.lit (.bool b)=>[.bool b]
  |_=>[.undef]
 |.str,d=>match d with
  |.lit (.string s)=>[.str s]
  |_=>[.undef]
 |.fn,d=>match d with
  |.held h=>[hd h]
  |.nil=>[.nilf]
  |_=>[.undef]
 |.sl s,d=>match d with
  |.slice es _=>[.imm (contOf' s.intK (es.flatMap (flat hd s)) (es.map numD)) es.length none]
  |.nil=>[.imm (contOf' s.intK [] []) 0 none]
  |_=>[.undef]
 |.st l,d=>match d with
  |.agg ds=>flatL hd l ds
  |_=>[.undef]
def flatL (hd:H→AV):List Sh→List (DataW H)→List AV
 |[],_=>[]
 |s::l,ds=>match ds with
  |d::ds=>flat hd s d++flatL hd l ds
  |[]=>[]
end
theorem flatMap_len {α β:Type}{f:α→List β}{z:Nat}:∀{l:List α},(∀x∈l,(f x).length=z)→(l.flatMap f).length=l.length*z
 |[],_=>by simp
 |a::r,h=>by
  rw[List.flatMap_cons,List.length_append,h a (by simp),flatMap_len fun x hx=>h x (by simp[hx]),List.length_cons,Nat.succ_mul,Nat.add_comm]
theorem flatMap_get {α β:Type}{f:α→List β}{z:Nat}:∀{l:List α},(∀x∈l,(f x).length=z)→∀{i j:Nat} {a:α},l[i]? =some a→j<z→(l.flatMap f)[i*z+j]? =(f a)[j]?
 |[],_,i,j,a,h,hj=>by simp at h
 |b::r,h,0,j,a,hi,hj=>by
  simp at hi;subst hi
  rw[List.flatMap_cons,Nat.zero_mul,Nat.zero_add,List.getElem?_append_left (by rw[h b (by simp)];exact hj)]
 |b::r,h,i+1,j,a,hi,hj=>by
  have hb:=h b (by simp)
  rw[List.flatMap_cons,List.getElem?_append_right (by rw[hb,Nat.succ_mul];omega),hb,show(i+1)*z+j-z=i*z+j by rw[Nat.succ_mul];omega]
  exact flatMap_get (fun x hx=>h x (by simp[hx])) (by simpa using hi) hj

section
variable {P:Program}{W:World}{F:Nat→Prop}{enc:TypeId×Value→H}{base:Nat}{held:Bool}{hd:H→AV}
theorem RelIs.app:∀{a b:List AV} {xs ys:List Value},RelIs W F a xs→RelIs W F b ys→RelIs W F (a++b) (xs++ys)
 |[],b,[],ys,.nil,h2=>h2
 |_::_,b,_::_,ys,.cons _ _ _ _ h hs,h2=>.cons _ _ _ _ h (hs.app h2)
theorem RelIs.length:∀{a:List AV} {xs:List Value},RelIs W F a xs→a.length=xs.length
 |_,_,.nil=>rfl
 |_,_,.cons _ _ _ _ _ hs=>by simp[hs.length]
theorem RelIs.get:∀{a:List AV} {xs:List Value},RelIs W F a xs→∀{i:Nat} {v:AV} {x:Value},a[i]? =some v→xs[i]? =some x→RelI W F v x
 |_,_,.nil,i,v,x,h,_=>by simp at h
 |_,_,.cons _ _ _ _ h hs,0,v,x,h1,h2=>by simp at h1 h2;subst h1 h2;exact h
 |_,_,.cons _ _ _ _ h hs,i+1,v,x,h1,h2=>hs.get (by simpa using h1) (by simpa using h2)
def OneCells (cs:List Value):Prop:=∀x∈cs,x.oneCell'=true
theorem rel_pieces:∀(l:List Sh) (ds:List (DataW H)) (cs:List Value) (off:Nat),l.length=ds.length→
  (∀i s d,l[i]? =some s→ds[i]? =some d→RelIs W F (flat hd s d) ((cs.drop (off+sizes (l.take i))).take s.size)∧OneCells ((cs.drop (off+sizes (l.take i))).take s.size))→
  RelIs W F (flatL hd l ds) ((cs.drop off).take (sizes l))∧OneCells ((cs.drop off).take (sizes l))
 |[],[],cs,off,_,h=>by simp[sizes,flatL,OneCells];exact .nil
 |[],_::_,cs,off,hl,h=>by simp at hl
 |_::_,[],cs,off,hl,h=>by simp at hl
 |s::l,d::ds,cs,off,hl,h=>by
  have h0:=h 0 s d rfl rfl
  simp only[List.take_zero,sizes,Nat.add_zero]at h0
  have ih:=rel_pieces l ds cs (off+s.size) (by simpa using hl) (fun i s' d' h1 h2=>by
   have:=h (i+1) s' d' (by simpa using h1) (by simpa using h2)
   simpa[sizes,Nat.add_assoc]using this)
  have e:(cs.drop off).take (sizes (s::l))=(cs.drop off).take s.size++(cs.drop (off+s.size)).take (sizes l):=by
   simp only[sizes]
   rw[List.take_add,List.drop_drop]
  rw[e]
  refine⟨h0.1.app ih.1,fun x hx=>?_⟩
  rcases List.mem_append.1 hx with hx|hx
  ·exact h0.2 x hx
  ·exact ih.2 x hx

theorem fieldsSh_ok {rec:TypeId→Option Sh}:∀{fs:List Field} {off:Nat} {l:List Sh},fieldsSh P rec fs off=some l→l.length=fs.length∧∀i (f:Field),fs[i]? =some f→∃s,l[i]? =some s∧rec f.type=some s∧f.offset=off+sizes (l.take i)∧P.cellsOf f.type=s.size
 |[],off,l,h=>by cases h;simp
 |f::r,off,l,h=>by
  simp only[fieldsSh]at h
  split at h
  ·rename_i s hs
   rw[cond_eq_ite]at h
   split at h
   ·rename_i hc
    rw[Bool.and_eq_true]at hc
    split at h
    ·rename_i l' hl'
     cases h
     obtain⟨i1,i2⟩:=fieldsSh_ok hl'
     refine⟨by simp[i1],fun i g hg=>?_⟩
     cases i with
     |zero=>simp at hg;subst hg;exact⟨s,rfl,hs,by simpa[sizes]using Nat.eq_of_beq_eq_true hc.1,Nat.eq_of_beq_eq_true hc.2⟩
     |succ i=>
      obtain⟨s',g1,g2,g3,g4⟩:=i2 i g (by simpa using hg)
      exact⟨s',by simpa using g1,g2,by simp[sizes];omega,g4⟩
    ·cases h
   ·cases h
  ·cases h
theorem sizes_rep (s:Sh):∀m,sizes (List.replicate m s)=m*s.size
 |0=>by simp[sizes]
 |m+1=>by rw[List.replicate_succ];simp only[sizes];rw[sizes_rep s m,Nat.succ_mul,Nat.add_comm]

theorem mapM_get {α β:Type}{f:α→Option β}{l:List α}{r:List β}(h:l.mapM f=some r):r.length=l.length∧∀(i:Nat) (a:α),l[i]? =some a→∃b,r[i]? =some b∧f a=some b:=
 ⟨Lib.mapM_length h,fun i a hi=>Lib.mapM_at h i a hi⟩
example:flat (H:=Unit) (fun _=>.undef) (.st [.int .u8,.sl (.int .u8)]) (.agg [.lit (.int .u8 1),.nil])=[.int .u8 1,.imm (.ints .u8 []) 0 none]:=rfl

theorem shp_int:∀{n:Nat} {t:TypeId} {k:IntKind},shp P n t=some (.int k)→P.underlying t=some (.int k)
 |0,t,k,h=>by cases h
 |n+1,t,k,h=>by
  simp only[shp]at h
  split at h
  ·cases h
  ·rename_i k' hu;cases h;exact hu
  ·cases h
  ·cases h
  ·split at h
   ·rw[cond_eq_ite]at h;split at h<;>cases h
   ·cases h
  ·split at h
   ·rw[cond_eq_ite]at h;split at h<;>cases h
   ·cases h
  ·split at h
   ·rw[cond_eq_ite]at h;split at h<;>cases h
   ·cases h
  ·cases h
theorem trod_rel (hhd:held=true→∀t f x y,RelI W F (hd (enc (t,.func f x y))) (.func f x y))(hF:∀b,b<W.heap.size→F b):∀(n:Nat) (t:TypeId) (s:Sh),shp P n t=some s→∀(fuel:Nat) (cs:List Value) (x:DataW H×List MemPlace),
  DataW.trod enc P W base (fun _=>true) held fuel t cs=some x→RelIs W F (flat hd s x.1) cs∧OneCells cs∧cs.length=s.size:=by
 intro n
 induction n with
 |zero=>intro t s h;simp[shp]at h
 |succ n ih=>
  intro t s hs fuel cs x hx
  simp only[shp]at hs
  split at hs
  ·rename_i hu
   cases hs
   obtain⟨b,rfl,rfl⟩:=DataW.trod_bool hu hx
   exact⟨.cons _ _ _ _ (.bool b) .nil,by simp[OneCells,Value.oneCell'],rfl⟩
  ·rename_i k hu
   cases hs
   obtain⟨m,rfl,rfl,_⟩:=DataW.trod_int hu hx
   exact⟨.cons _ _ _ _ (.int k m) .nil,by simp[OneCells,Value.oneCell'],rfl⟩
  ·rename_i hu
   cases hs
   obtain⟨b,rfl,rfl,_⟩:=DataW.trod_string hu hx
   exact⟨.cons _ _ _ _ (.str _ _ rfl) .nil,by simp[OneCells,Value.oneCell'],rfl⟩
  ·rename_i hu
   cases hs
   cases fuel with
   |zero=>simp[DataW.trod]at hx
   |succ fuel=>
    unfold DataW.trod at hx
    rw[hu]at hx
    split at hx<;>simp_all
    ·rename_i hcs
     subst hx
     exact⟨.cons _ _ _ _ .nilf .nil,by simp[OneCells,Value.oneCell'],rfl⟩
    ·obtain⟨h1,rfl⟩:=hx
     exact⟨.cons _ _ _ _ (hhd _ _ _ _) .nil,by simp[OneCells,Value.oneCell'],rfl⟩
  ·rename_i e hu
   split at hs
   ·rename_i s' hs'
    rw[cond_eq_ite]at hs
    split at hs
    ·rename_i hc
     cases hs
     rw[Bool.and_eq_true]at hc
     have hz:=Nat.eq_of_beq_eq_true hc.1
     have hz1:=Nat.le_of_ble_eq_true hc.2
     rcases DataW.trod_slice hu hx with⟨rfl,rfl⟩|⟨a,len,cap,elems,rest,m,rfl,rfl,rfl,hb,hl,hm,hlen,hel,hsp,_⟩
     ·refine⟨.cons _ _ _ _ (.imm0 _ _ _ ?_ (fun n e=>by cases e)) .nil,by simp[OneCells,Value.oneCell'],rfl⟩
      cases s'<;>rfl
     ·refine⟨.cons _ _ _ _ ?_ .nil,by simp[OneCells,Value.oneCell'],rfl⟩
      have hrest:=(hsp rfl).1
      have hrest2:=(hsp rfl).2
      -- each element's cells
      have each:∀j,j<cap→∃y cs,(W.cells? base (a.add (j*P.cellsOf e)) (P.cellsOf e))=some cs∧DataW.trod enc P W base (fun _=>true) held m e cs=some y:=by
       intro j hj
       have:∃y,(W.cells? base (a.add (j*P.cellsOf e)) (P.cellsOf e)).bind (DataW.trod enc P W base (fun _=>true) held m e)=some y:=by
        by_cases h:j<len
        ·rw[hel j h,List.getElem?_eq_getElem (by omega)];exact⟨_,rfl⟩
        ·have:=hrest2 (j-len) (by omega)
         rw[show len+(j-len)=j by omega]at this
         rw[this,List.getElem?_eq_getElem (by omega)];exact⟨_,rfl⟩
       obtain⟨y,hy⟩:=this
       rw[Option.bind_eq_some_iff]at hy
       obtain⟨cs,h1,h2⟩:=hy
       exact⟨y,cs,h1,h2⟩
      have cellsOk:∀(p:Addr) (cs:List Value),W.cells? base p (P.cellsOf e)=some cs→cs.length=s'.size∧∀r x,cs[r]? =some x→W.cell? (p.add r)=some x:=by
       intro p cs h
       unfold World.cells? at h
       split at h
       ·obtain⟨g1,g2⟩:=mapM_get h
        refine⟨by rw[g1,List.length_range,hz],fun r x hr=>?_⟩
        have hlt:r<P.cellsOf e:=by
         have:=(List.getElem?_eq_some_iff.1 hr).1
         rw[g1,List.length_range]at this;exact this
        obtain⟨b,b1,b2⟩:=g2 r r (by simp[hlt])
        rw[hr]at b1;cases b1
        exact b2
       ·cases h
      by_cases h0:cap=0
      ·have hl0:len=0:=by omega
       subst h0 hl0
       have hnil:elems=[]:=List.eq_nil_of_length_eq_zero hlen
       subst hnil
       exact .imm0 _ _ _ (by cases s'<;>rfl) (fun n e=>by cases e)
      ·obtain⟨y0,cs0,k1,k2⟩:=each 0 (by omega)
       obtain⟨k3,k4⟩:=cellsOk _ _ k1
       have hcell:∃x,W.cell? a=some x:=by
        have hlt:0<cs0.length:=by omega
        have:=k4 0 _ (List.getElem?_eq_getElem hlt)
        simp[Addr.add]at this
        exact⟨_,this⟩
       obtain⟨x0,hx0⟩:=hcell
       have hs:a.spot=none∧a.block<W.heap.size:=by
        simp only[World.cell?]at hx0
        split at hx0
        ·rename_i hb
         split at hx0
         ·cases hx0
         ·rename_i hsp
          exact⟨by cases e:a.spot with
           |none=>rfl
           |some _=>simp[e]at hsp,lt_of_some hb⟩
        ·cases hx0
       have ha:a=⟨a.block,a.off,none⟩:=by cases a;simp_all
       have hadd:∀i r,(a.add (i*P.cellsOf e)).add r=⟨a.block,a.off+(i*s'.size+r),none⟩:=by
        intro i r
        rw[ha,hz]
        by_cases h1:i*s'.size=0<;>by_cases h2:r=0<;>simp[Addr.add,h1,h2,Nat.add_assoc]
       have elem:∀i,i<len→∃y cs,elems[i]? =some y∧DataW.trod enc P W base (fun _=>true) held m e cs=some y∧RelIs W F (flat hd s' y.1) cs∧OneCells cs∧cs.length=s'.size∧∀r x,cs[r]? =some x→W.cell? ⟨a.block,a.off+(i*s'.size+r),none⟩=some x:=by
        intro i hi
        obtain⟨y,cs,e1,e2⟩:=each i (by omega)
        have e3:=hel i hi
        rw[e1]at e3
        simp only[Option.bind_some]at e3
        rw[e2]at e3
        obtain⟨i1,i2,i3⟩:=ih _ _ hs' m cs y e2
        refine⟨y,cs,e3.symm,e2,i1,i2,i3,fun r x hr=>?_⟩
        rw[← hadd i r]
        exact(cellsOk _ _ e1).2 r x hr
       have flen:∀d∈elems.map (·.1),(flat hd s' d).length=s'.size:=by
        intro d hd'
        obtain⟨y,hy,rfl⟩:=List.mem_map.1 hd'
        obtain⟨i,hi,rfl⟩:=List.getElem_of_mem hy
        obtain⟨y',cs,e1,_,e2,_,e4,_⟩:=elem i (by omega)
        rw[List.getElem?_eq_getElem hi]at e1;cases e1
        rw[e2.length,e4]
       have csize:(contOf' s'.intK ((elems.map (·.1)).flatMap (flat hd s')) ((elems.map (·.1)).map numD)).size=len*s'.size:=by
        cases s'<;>simp only[Sh.intK,contOf',Cont.size]<;>first
         |(rw[flatMap_len flen];simp[hlen])
         |(simp[hlen,Sh.size])
       rw[ha]
       have hml:(elems.map (·.1)).length=len:=by simp[hlen]
       rw[hml]
       refine .imm _ _ _ a.block a.off cap (fun j=>(W.cell? ⟨a.block,a.off+j,none⟩).getD undef) (hF _ hs.2) (fun j hj=>?_) (fun j hj=>?_) (fun j hj=>?_) hl (fun n e=>by cases e)
       all_goals
        rw[csize]at hj
        have hdiv:j/s'.size<len:=Nat.div_lt_of_lt_mul (by rw[Nat.mul_comm];exact hj)
        have hmod:j%s'.size<s'.size:=Nat.mod_lt _ hz1
        obtain⟨y,cs,e1,e0,e2,e3,e4,e5⟩:=elem (j/s'.size) hdiv
        have hjj:j/s'.size*s'.size+j%s'.size=j:=by rw[Nat.mul_comm];exact Nat.div_add_mod j s'.size
        have hr:cs[j%s'.size]? =some (cs[j%s'.size]'(by omega)):=List.getElem?_eq_getElem (by omega)
        have e6:=e5 _ _ hr
        rw[hjj]at e6
        simp only[e6,Option.getD_some]
       ·have hfl:(flat hd s' y.1)[j%s'.size]? =some ((flat hd s' y.1)[j%s'.size]'(by rw[e2.length,e4];exact hmod)):=List.getElem?_eq_getElem _
        have hrel:=e2.get hfl hr
        have hmap:(elems.map (·.1))[j/s'.size]? =some y.1:=by rw[List.getElem?_map,e1];rfl
        have hgv:(contOf' s'.intK ((elems.map (·.1)).flatMap (flat hd s')) ((elems.map (·.1)).map numD)).getV j=(flat hd s' y.1)[j%s'.size]'(by rw[e2.length,e4];exact hmod):=by
         have gen:((elems.map (·.1)).flatMap (flat hd s')).getD j .undef=(flat hd s' y.1)[j%s'.size]'(by rw[e2.length,e4];exact hmod):=by
          rw[List.getD_eq_getElem?_getD]
          have:=flatMap_get (f:=flat hd s') flen hmap hmod
          rw[hjj,hfl]at this
          rw[this];rfl
         cases s' with
         |int k=>
          simp only[Sh.size,Nat.div_one,Nat.mod_one]at*
          simp only[Sh.intK,contOf',Cont.getV]
          rw[List.getD_eq_getElem?_getD,List.getElem?_map,hmap]
          obtain⟨v,_,rfl,_⟩:=DataW.trod_int (shp_int hs') e0
          rfl
         |_=>exact gen
        rw[hgv];exact hrel
       ·exact e3 _ (List.mem_of_getElem? hr)
    ·cases hs
   ·cases hs
  ·rename_i fs hu
   split at hs
   ·rename_i l hl
    rw[cond_eq_ite]at hs
    split at hs
    ·rename_i hc
     cases hs
     have hcells:=Nat.eq_of_beq_eq_true hc
     obtain⟨xs,m,rfl,rfl,hlen,hxl,hget⟩:=DataW.trod_struct hu hx
     obtain⟨f1,f2⟩:=fieldsSh_ok hl
     have key:=rel_pieces (W:=W) (F:=F) (hd:=hd) l (xs.map (·.1)) cs 0 (by simp[hxl,f1]) (fun i s d h1 h2=>by
      have hi:i<fs.toList.length:=by
       have:=(List.getElem?_eq_some_iff.1 h1).1
       omega
      obtain⟨s2,g1,g2,g3,g4⟩:=f2 i fs.toList[i] (List.getElem?_eq_getElem hi)
      rw[h1]at g1;cases g1
      have hq:=hget i fs.toList[i] (by simpa using List.getElem?_eq_getElem hi)
      rw[List.getElem?_map]at h2
      cases hxi:xs[i]? with
      |none=>rw[hxi]at h2;cases h2
      |some y=>
       rw[hxi]at h2 hq
       cases h2
       obtain⟨r1,r2,r3⟩:=ih _ _ g2 m _ y hq
       rw[← g3,← g4]
       exact⟨r1,r2⟩)
     rw[List.drop_zero,List.take_of_length_le (by omega)]at key
     exact⟨key.1,key.2,by rw[hlen,hcells];rfl⟩
    ·cases hs
   ·cases hs
  ·rename_i m e hu
   split at hs
   ·rename_i s' hs'
    rw[cond_eq_ite]at hs
    split at hs
    ·rename_i hc
     cases hs
     rw[Bool.and_eq_true]at hc
     have hz:=Nat.eq_of_beq_eq_true hc.1
     have hcells:=Nat.eq_of_beq_eq_true hc.2
     cases fuel with
     |zero=>simp[DataW.trod]at hx
     |succ fuel=>
      unfold DataW.trod at hx
      rw[hu]at hx
      simp only at hx
      split at hx
      ·rename_i hlen
       rw[Option.map_eq_some_iff]at hx
       obtain⟨xs,hxs,rfl⟩:=hx
       obtain⟨q1,q2⟩:=mapM_get hxs
       have key:=rel_pieces (W:=W) (F:=F) (hd:=hd) (List.replicate m s') (xs.map (·.1)) cs 0 (by simp[q1]) (fun i s d h1 h2=>by
        have hi:i<m:=by
         have:=(List.getElem?_eq_some_iff.1 h1).1
         simpa using this
        rw[List.getElem?_replicate,if_pos hi]at h1
        cases h1
        obtain⟨y,y1,y2⟩:=q2 i i (by simp[hi])
        rw[List.getElem?_map,y1]at h2
        cases h2
        obtain⟨r1,r2,r3⟩:=ih _ _ hs' fuel _ y y2
        have et:(List.replicate m s').take i=List.replicate i s':=by rw[List.take_replicate,Nat.min_eq_left (by omega)]
        rw[et,sizes_rep,Nat.zero_add,← hz]
        exact⟨r1,r2⟩)
       rw[List.drop_zero,List.take_of_length_le (by rw[sizes_rep];omega)]at key
       exact⟨key.1,key.2,by rw[hlen,hcells];show _=sizes _;rw[sizes_rep]⟩
      ·cases hx
    ·cases hs
   ·cases hs
  ·cases hs

mutual
def Conf:Sh→DataW H→Prop
 |.int k,d=>∃n,d=.lit (.int k n)∧(Lit.int k n).wf=true
 |.bool,d=>∃b,d=.lit (.bool b)
 |.str,d=>∃s,d=.lit (.string s)∧s.length≤maxLen
 |.fn,_=>True
 |.sl s,d=>d=.nil∨∃es sp,d=.slice es sp∧es.length≤maxLen∧∀x∈es,Conf s x
 |.st l,d=>∃ds,d=.agg ds∧ConfL l ds
def ConfL:List Sh→List (DataW H)→Prop
 |[],ds=>ds=[]
 |s::l,ds=>∃d r,ds=d::r∧Conf s d∧ConfL l r
end
theorem confL_of:∀{l:List Sh} {ds:List (DataW H)},l.length=ds.length→(∀(i:Nat) (s:Sh) (d:DataW H),l[i]? =some s→ds[i]? =some d→Conf s d)→ConfL l ds
 |[],[],_,_=>rfl
 |[],_::_,h,_=>by simp at h
 |_::_,[],h,_=>by simp at h
 |s::l,d::ds,h,k=>⟨d,ds,rfl,k 0 s d rfl rfl,confL_of (by simpa using h) (fun i s' d' h1 h2=>k (i+1) s' d' (by simpa using h1) (by simpa using h2))⟩
theorem trod_conf:∀(n:Nat) (t:TypeId) (s:Sh),shp P n t=some s→∀(fuel:Nat) (cs:List Value) (x:DataW H×List MemPlace),DataW.trod enc P W base (fun _=>true) held fuel t cs=some x→Conf s x.1:=by
 intro n
 induction n with
 |zero=>intro t s h;simp[shp]at h
 |succ n ih=>
  intro t s hs fuel cs x hx
  simp only[shp]at hs
  split at hs
  ·rename_i hu
   cases hs
   obtain⟨b,rfl,rfl⟩:=DataW.trod_bool hu hx
   exact⟨b,rfl⟩
  ·rename_i k hu
   cases hs
   obtain⟨m,rfl,rfl,hw⟩:=DataW.trod_int hu hx
   exact⟨m,rfl,hw⟩
  ·rename_i hu
   cases hs
   obtain⟨b,rfl,rfl,hb⟩:=DataW.trod_string hu hx
   exact⟨_,rfl,hb⟩
  ·cases hs;trivial
  ·rename_i e hu
   split at hs
   ·rename_i s' hs'
    rw[cond_eq_ite]at hs
    split at hs
    ·cases hs
     rcases DataW.trod_slice hu hx with⟨rfl,rfl⟩|⟨a,len,cap,elems,rest,m,rfl,rfl,rfl,hb,hl,hm,hlen,hel,_,_⟩
     ·exact .inl rfl
     ·refine .inr ⟨_,_,rfl,by simp;omega,fun d hd'=>?_⟩
      obtain⟨y,hy,rfl⟩:=List.mem_map.1 hd'
      obtain⟨i,hi,rfl⟩:=List.getElem_of_mem hy
      have:=hel i (by omega)
      rw[List.getElem?_eq_getElem hi,Option.bind_eq_some_iff]at this
      obtain⟨cs',_,h2⟩:=this
      exact ih _ _ hs' m cs' _ h2
    ·cases hs
   ·cases hs
  ·rename_i fs hu
   split at hs
   ·rename_i l hl
    rw[cond_eq_ite]at hs
    split at hs
    ·cases hs
     obtain⟨xs,m,rfl,rfl,hlen,hxl,hget⟩:=DataW.trod_struct hu hx
     obtain⟨f1,f2⟩:=fieldsSh_ok hl
     refine⟨_,rfl,confL_of (by simp[hxl,f1]) fun i s d h1 h2=>?_⟩
     have hi:i<fs.toList.length:=by
      have:=(List.getElem?_eq_some_iff.1 h1).1
      omega
     obtain⟨s2,g1,g2,g3,g4⟩:=f2 i fs.toList[i] (List.getElem?_eq_getElem hi)
     rw[h1]at g1;cases g1
     have hq:=hget i fs.toList[i] (by simpa using List.getElem?_eq_getElem hi)
     rw[List.getElem?_map]at h2
     cases hxi:xs[i]? with
     |none=>rw[hxi]at h2;cases h2
     |some y=>
      rw[hxi]at h2 hq
      cases h2
      exact ih _ _ g2 m _ y hq
    ·cases hs
   ·cases hs
  ·rename_i m e hu
   split at hs
   ·rename_i s' hs'
    rw[cond_eq_ite]at hs
    split at hs
    ·cases hs
     cases fuel with
     |zero=>simp[DataW.trod]at hx
     |succ fuel=>
      unfold DataW.trod at hx
      rw[hu]at hx
      simp only at hx
      split at hx
      ·rw[Option.map_eq_some_iff]at hx
       obtain⟨xs,hxs,rfl⟩:=hx
       obtain⟨q1,q2⟩:=mapM_get hxs
       refine⟨_,rfl,confL_of (by simp[q1]) fun i s d h1 h2=>?_⟩
       have hi:i<m:=by
        have:=(List.getElem?_eq_some_iff.1 h1).1
        simpa using this
       rw[List.getElem?_replicate,if_pos hi]at h1
       cases h1
       obtain⟨y,y1,y2⟩:=q2 i i (by simp[hi])
       rw[List.getElem?_map,y1]at h2
       cases h2
       exact ih _ _ hs' fuel _ y y2
      ·cases hx
    ·cases hs
   ·cases hs
  ·cases hs

def argV (hd:H→AV)(s:Sh)(d:DataW H):AV:=match s with
 |.st _=>.agg (flat hd s d)
 |.fn=>.undef
 |s=>(flat hd s d).getD 0 .undef
def noHd:H→AV:=fun _=>.undef
theorem noHd_ok {b:Bool}:b=true→∀t f x y,RelI W F (noHd (enc (t,Value.func f x y))) (.func f x y):=fun _ _ _ _ _=>.undef _
theorem arg_rel {r:Reach}{b0 n:Nat}{t:TypeId}{s:Sh}{v:Value}{d:DataW H}{p:List MemPlace}(hs:shp P n t=some s)(hv:Value.okWide P W r b0 t v)(h:DataW.Trod enc P W base (fun _=>true) held t v d p):
  RelI W (fun b=>b<W.heap.size) (argV noHd s d) v∧Conf s d:=by
 obtain⟨fuel,hf⟩:=h
 obtain⟨h1,h2,h3⟩:=trod_rel (F:=fun b=>b<W.heap.size) (hd:=noHd) noHd_ok (fun _ h=>h) n t s hs fuel _ _ hf
 refine⟨?_,trod_conf n t s hs fuel _ _ hf⟩
 have one:∀{y:Value},v=y→y.cells= #[y]→(∃u,flat noHd s d=[u])→argV noHd s d=(flat noHd s d).getD 0 .undef→RelI W (fun b=>b<W.heap.size) (argV noHd s d) v:=by
  rintro y rfl hc ⟨u,hu⟩ ha
  have h1':RelIs W (fun b=>b<W.heap.size) (flat noHd s d) v.cells.toList:=h1
  rw[hc,hu]at h1'
  rw[ha,hu]
  cases h1' with
  |cons _ _ _ _ h _=>exact h
 have hlen:∀{u:List AV},flat noHd s d=u→s.size=1→∃x,u=[x]:=by
  intro u hu hsz
  have:=h1.length
  rw[hu,h3,hsz]at this
  exact List.length_eq_one_iff.1 this
 cases n with
 |zero=>cases hs
 |succ n=>
  simp only[shp]at hs
  split at hs
  ·rename_i hu
   cases hs
   obtain⟨b,rfl⟩:=okWide_bool hu hv
   exact one rfl rfl (hlen rfl rfl) rfl
  ·rename_i k hu
   cases hs
   obtain⟨m,rfl⟩:=okWide_int hu hv
   exact one rfl rfl (hlen rfl rfl) rfl
  ·rename_i hu
   cases hs
   obtain⟨b,rfl⟩:=okWide_string hu hv
   exact one rfl rfl (hlen rfl rfl) rfl
  ·cases hs;exact .undef _
  ·rename_i e hu
   split at hs
   ·rw[cond_eq_ite]at hs
    split at hs
    ·cases hs
     obtain⟨a,len,cap,rfl⟩:=okWide_slice hu hv
     exact one rfl rfl (hlen rfl rfl) rfl
    ·cases hs
   ·cases hs
  ·rename_i fs hu
   split at hs
   ·rw[cond_eq_ite]at hs
    split at hs
    ·cases hs
     simp only[Value.okWide,hu]at hv
     obtain⟨cs,rfl,_,_⟩:=hv
     exact .agg _ _ h1
    ·cases hs
   ·cases hs
  ·rename_i m e hu
   split at hs
   ·rw[cond_eq_ite]at hs
    split at hs
    ·cases hs
     simp only[Value.okWide,hu]at hv
     obtain⟨cs,rfl,_,_⟩:=hv
     exact .agg _ _ h1
    ·cases hs
   ·cases hs
  ·cases hs

theorem conf_ints {k:IntKind}{d:DataW H}{hd:H→AV}(h:Conf (.sl (.int k)) d):∃ks:List Int,flat hd (.sl (.int k)) d=[.imm (.ints k ks) ks.length none]∧∀x∈ks,(Lit.int k x).wf=true:=by
 rcases h with rfl|⟨es,sp,rfl,_,h⟩
 ·exact⟨[],rfl,by simp⟩
 ·refine⟨es.map numD,by simp[flat,Sh.intK,contOf'],fun x hx=>?_⟩
  obtain⟨y,hy,rfl⟩:=List.mem_map.1 hx
  obtain⟨n,rfl,hn⟩:=h y hy
  exact hn
end
end Go.Ab
