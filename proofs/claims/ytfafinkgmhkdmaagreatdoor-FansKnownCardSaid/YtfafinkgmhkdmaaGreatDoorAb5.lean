/- An abstract reading of the program: what its operations do to what is known of memory. Part 5 of 7. -/
import Derived.Test.YtfafinkgmhkdmaaGreatDoorAb4
import Derived.LaidHandle
set_option linter.unusedVariables false
set_option linter.unusedSimpArgs false
set_option linter.unnecessarySimpa false
namespace Go.Ab
open Go Go.RowKit Go.WideShapes Go.ChangeShapes
inductive Sh where
 |int (k:IntKind)
 |bool
 |str
 |fn
 |sl (s:Sh)
 |st (l:List Sh)
mutual
def Sh.size:Sh->Nat
 |.st l=>A2M l
 |_=>1
def A2M:List Sh->Nat
 |[]=>0
 |s::r=>s.size+A2M r
end
def A5o (P:Program)(rec:TypeId->Option Sh):List Field->Nat->Option (List Sh)
 |[],_=>some []
 |f::r,off=>match rec f.type with
  |some s=>cond (Nat.beq f.offset off&&Nat.beq (P.cellsOf f.type) s.size) (match A5o P rec r (off+s.size)with
   |some l=>some (s::l)
   |none=>none) none
  |none=>none
def shp (P:Program):Nat->TypeId->Option Sh
 |0,_=>none
 |n+1,t=>match P.underlying t with
  |some .bool=>some .bool
  |some (.int k)=>some (.int k)
  |some .string=>some .str
  |some (.func _ _ _)=>some .fn
  |some (.slice e)=>match shp P n e with
   |some s=>cond (Nat.beq (P.cellsOf e) s.size&&Nat.ble 1 s.size) (some (.sl s)) none
   |none=>none
  |some (.struct fs)=>match A5o P (shp P n) fs.toList 0 with
   |some l=>cond (Nat.beq (P.cellsOf t) (A2M l)) (some (.st l)) none
   |none=>none
  |some (.array m e)=>match shp P n e with
   |some s=>cond (Nat.beq (P.cellsOf e) s.size&&Nat.beq (P.cellsOf t) (m*s.size)) (some (.st (List.replicate m s))) none
   |none=>none
  |_=>none
variable {H:Type}
def C6K:DataW H->Int
 |.lit (.int _ n)=>n
 |_=>0
def Sh.intK:Sh->Option IntKind
 |.int k=>some k
 |_=>none
def A4B (k:Option IntKind)(vs:List AV)(ns:List Int):Cont:=match k with
 |some k=>.ints k ns
 |none=>.vals vs
mutual
def A44 (hd:H->AV):Sh->DataW H->List AV
 |.int k,d=>match d with
  |.lit (.int _ n)=>[.int k n]
  |_=>[.undef]
 |.bool,d=>match d with
  |.lit (.bool b)=>[.bool b]
  |_=>[.undef]
 |.str,d=>match d with
  |.lit (.string s)=>[.str s]
  |_=>[.undef]
 |.fn,d=>match d with
  |.held h=>[hd h]
  |.nil=>[.nilf]
  |_=>[.undef]
 |.sl s,d=>match d with
  |.slice es _=>[.imm (A4B s.intK (es.flatMap (A44 hd s)) (es.map C6K)) es.length none]
  |.nil=>[.imm (A4B s.intK [] []) 0 none]
  |_=>[.undef]
 |.st l,d=>match d with
  |.agg ds=>B7m hd l ds
  |_=>[.undef]
def B7m (hd:H->AV):List Sh->List (DataW H)->List AV
 |[],_=>[]
 |s::l,ds=>match ds with
  |d::ds=>A44 hd s d++B7m hd l ds
  |[]=>[]
end
theorem A6u {α β:Type}{f:α->List β}{z:Nat}:∀{l:List α},(∀x∈l,(f x).length=z)->(l.flatMap f).length=l.length*z
 |[],_=>by simp
 |a::r,h=>by
  rw[List.flatMap_cons,List.length_append,h a (by simp),A6u fun x hx=>h x (by simp[hx]),List.length_cons,Nat.succ_mul,Nat.add_comm]
theorem A6v {α β:Type}{f:α->List β}{z:Nat}:∀{l:List α},(∀x∈l,(f x).length=z)->∀{i j:Nat} {a:α},l[i]? =some a->j<z->(l.flatMap f)[i*z+j]? =(f a)[j]?
 |[],_,i,j,a,h,hj=>by simp at h
 |b::r,h,0,j,a,hi,hj=>by
  simp at hi;subst hi;rw[List.flatMap_cons,Nat.zero_mul,Nat.zero_add,List.getElem?_append_left (by rw[h b (by simp)];exact hj)]
 |b::r,h,i+1,j,a,hi,hj=>by
  have hb:=h b (by simp);rw[List.flatMap_cons,List.getElem?_append_right (by rw[hb,Nat.succ_mul];omega),hb,show(i+1)*z+j-z=i*z+j by rw[Nat.succ_mul];omega];exact A6v (fun x hx=>h x (by simp[hx])) (by simpa using hi) hj
section
variable {P:Program}{W:World}{F:Nat->Prop}{enc:TypeId×Value->H}{base:Nat}{held:Bool}{hd:H->AV}
theorem RelIs.app:∀{a b:List AV} {xs ys:List Value},RelIs W F a xs->RelIs W F b ys->RelIs W F (a++b) (xs++ys)
 |[],b,[],ys,.nil,h2=>h2
 |_::_,b,_::_,ys,.cons _ _ _ _ h hs,h2=>.cons _ _ _ _ h (hs.app h2)
theorem RelIs.length:∀{a:List AV} {xs:List Value},RelIs W F a xs->a.length=xs.length
 |_,_,.nil=>rfl
 |_,_,.cons _ _ _ _ _ hs=>by simp[hs.length]
theorem RelIs.get:∀{a:List AV} {xs:List Value},RelIs W F a xs->∀{i:Nat} {v:AV} {x:Value},a[i]? =some v->xs[i]? =some x->RelI W F v x
 |_,_,.nil,i,v,x,h,_=>by simp at h
 |_,_,.cons _ _ _ _ h hs,0,v,x,h1,h2=>by simp at h1 h2;subst h1 h2;exact h
 |_,_,.cons _ _ _ _ h hs,i+1,v,x,h1,h2=>hs.get (by simpa using h1) (by simpa using h2)
def A1J (cs:List Value):Prop:=∀x∈cs,x.oneCell'=true
theorem A4C:∀(l:List Sh) (ds:List (DataW H)) (cs:List Value) (off:Nat),l.length=ds.length->
  (∀i s d,l[i]? =some s->ds[i]? =some d->RelIs W F (A44 hd s d) ((cs.drop (off+A2M (l.take i))).take s.size)/\A1J ((cs.drop (off+A2M (l.take i))).take s.size))->
  RelIs W F (B7m hd l ds) ((cs.drop off).take (A2M l))/\A1J ((cs.drop off).take (A2M l))
 |[],[],cs,off,_,h=>by simp[A2M,B7m,A1J];exact .nil
 |[],_::_,cs,off,hl,h=>by simp at hl
 |_::_,[],cs,off,hl,h=>by simp at hl
 |s::l,d::ds,cs,off,hl,h=>by
  have h0:=h 0 s d rfl rfl;simp only[List.take_zero,A2M,Nat.add_zero]at h0;have ih:=A4C l ds cs (off+s.size) (by simpa using hl) (fun i s' d' h1 h2=>by
   have:=h (i+1) s' d' (by simpa using h1) (by simpa using h2);simpa[A2M,Nat.add_assoc]using this)
  have e:(cs.drop off).take (A2M (s::l))=(cs.drop off).take s.size++(cs.drop (off+s.size)).take (A2M l):=by
   simp only[A2M];rw[List.take_add,List.drop_drop]
  rw[e];refine⟨h0.1.app ih.1,fun x hx=>?_⟩;rcases List.mem_append.1 hx with hx|hx
  ·exact h0.2 x hx
  ·exact ih.2 x hx
theorem A6w {rec:TypeId->Option Sh}:∀{fs:List Field} {off:Nat} {l:List Sh},A5o P rec fs off=some l->l.length=fs.length/\∀i (f:Field),fs[i]? =some f->∃s,l[i]? =some s/\rec f.type=some s/\f.offset=off+A2M (l.take i)/\P.cellsOf f.type=s.size
 |[],off,l,h=>by cases h;simp
 |f::r,off,l,h=>by
  simp only[A5o]at h;split at h
  ·rename_i s hs;rw[cond_eq_ite]at h;split at h
   ·rename_i hc;rw[Bool.and_eq_true]at hc;split at h
    ·rename_i l' hl';cases h;obtain⟨i1,i2⟩:=A6w hl';refine⟨by simp[i1],fun i g hg=>?_⟩;cases i with
     |zero=>simp at hg;subst hg;exact⟨s,rfl,hs,by simpa[A2M]using Nat.eq_of_beq_eq_true hc.1,Nat.eq_of_beq_eq_true hc.2⟩
     |succ i=>
      obtain⟨s',g1,g2,g3,g4⟩:=i2 i g (by simpa using hg);exact⟨s',by simpa using g1,g2,by simp[A2M];omega,g4⟩
    ·cases h
   ·cases h
  ·cases h
theorem A4e (s:Sh):∀m,A2M (List.replicate m s)=m*s.size
 |0=>by simp[A2M]
 |m+1=>by rw[List.replicate_succ];simp only[A2M];rw[A4e s m,Nat.succ_mul,Nat.add_comm]
theorem B2K {α β:Type}{f:α->Option β}{l:List α}{r:List β}(h:l.mapM f=some r):r.length=l.length/\∀(i:Nat) (a:α),l[i]? =some a->∃b,r[i]? =some b/\f a=some b:=
 ⟨Lib.mapM_length h,fun i a hi=>Lib.mapM_at h i a hi⟩
example:A44 (H:=Unit) (fun _=>.undef) (.st [.int .u8,.sl (.int .u8)]) (.agg [.lit (.int .u8 1),.nil])=[.int .u8 1,.imm (.ints .u8 []) 0 none]:=rfl
theorem B9C:∀{n:Nat} {t:TypeId} {k:IntKind},shp P n t=some (.int k)->P.underlying t=some (.int k)
 |0,t,k,h=>by cases h
 |n+1,t,k,h=>by
  simp only[shp]at h;split at h
  ·cases h
  ·rename_i k' hu;cases h;exact hu
  ·cases h
  ·cases h
  ·split at h
   ·rw[cond_eq_ite]at h;split at h<;>cases h
   ·cases h
  ·split at h
   ·rw[cond_eq_ite]at h;split at h<;>cases h
   ·cases h
  ·split at h
   ·rw[cond_eq_ite]at h;split at h<;>cases h
   ·cases h
  ·cases h
theorem B7n (hhd:held=true->∀t f x y,RelI W F (hd (enc (t,.func f x y))) (.func f x y))(hF:∀b,b<W.heap.size->F b):∀(n:Nat) (t:TypeId) (s:Sh),shp P n t=some s->∀(fuel:Nat) (cs:List Value) (x:DataW H×List MemPlace),
  DataW.trod enc P W base (fun _=>true) held fuel t cs=some x->RelIs W F (A44 hd s x.1) cs/\A1J cs/\cs.length=s.size:=by
 intro n
 induction n with
 |zero=>intro t s h;simp[shp]at h
 |succ n ih=>
  intro t s hs fuel cs x hx;simp only[shp]at hs;split at hs
  ·rename_i hu;cases hs;obtain⟨b,rfl,rfl⟩:=DataW.trod_bool hu hx;exact⟨.cons _ _ _ _ (.bool b) .nil,by simp[A1J,Value.oneCell'],rfl⟩
  ·rename_i k hu;cases hs;obtain⟨m,rfl,rfl,_⟩:=DataW.trod_int hu hx;exact⟨.cons _ _ _ _ (.int k m) .nil,by simp[A1J,Value.oneCell'],rfl⟩
  ·rename_i hu;cases hs;obtain⟨b,rfl,rfl,_⟩:=DataW.trod_string hu hx;exact⟨.cons _ _ _ _ (.str _ _ rfl) .nil,by simp[A1J,Value.oneCell'],rfl⟩
  ·rename_i hu;cases hs;cases fuel with
   |zero=>simp[DataW.trod]at hx
   |succ fuel=>
    unfold DataW.trod at hx;rw[hu]at hx;split at hx<;>simp_all
    ·rename_i hcs;subst hx;exact⟨.cons _ _ _ _ .nilf .nil,by simp[A1J,Value.oneCell'],rfl⟩
    ·obtain⟨h1,rfl⟩:=hx;exact⟨.cons _ _ _ _ (hhd _ _ _ _) .nil,by simp[A1J,Value.oneCell'],rfl⟩
  ·rename_i e hu;split at hs
   ·rename_i s' hs';rw[cond_eq_ite]at hs;split at hs
    ·rename_i hc;cases hs;rw[Bool.and_eq_true]at hc;have hz:=Nat.eq_of_beq_eq_true hc.1;have hz1:=Nat.le_of_ble_eq_true hc.2;rcases DataW.trod_slice hu hx with⟨rfl,rfl⟩|⟨a,len,cap,elems,rest,m,rfl,rfl,rfl,hb,hl,hm,hlen,hel,hsp,_⟩
     ·refine⟨.cons _ _ _ _ (.imm0 _ _ _ ?_ (fun n e=>by cases e)) .nil,by simp[A1J,Value.oneCell'],rfl⟩;cases s'<;>rfl
     ·refine⟨.cons _ _ _ _ ?_ .nil,by simp[A1J,Value.oneCell'],rfl⟩;have hrest:=(hsp rfl).1;have hrest2:=(hsp rfl).2;have each:∀j,j<cap->∃y cs,(W.cells? base (a.add (j*P.cellsOf e)) (P.cellsOf e))=some cs/\DataW.trod enc P W base (fun _=>true) held m e cs=some y:=by
       intro j hj;have:∃y,(W.cells? base (a.add (j*P.cellsOf e)) (P.cellsOf e)).bind (DataW.trod enc P W base (fun _=>true) held m e)=some y:=by
        by_cases h:j<len
        ·rw[hel j h,List.getElem?_eq_getElem (by omega)];exact⟨_,rfl⟩
        ·have:=hrest2 (j-len) (by omega);rw[show len+(j-len)=j by omega]at this;rw[this,List.getElem?_eq_getElem (by omega)];exact⟨_,rfl⟩
       obtain⟨y,hy⟩:=this;rw[Option.bind_eq_some_iff]at hy;obtain⟨cs,h1,h2⟩:=hy;exact⟨y,cs,h1,h2⟩
      have cellsOk:∀(p:Addr) (cs:List Value),W.cells? base p (P.cellsOf e)=some cs->cs.length=s'.size/\∀r x,cs[r]? =some x->W.cell? (p.add r)=some x:=by
       intro p cs h;unfold World.cells? at h;split at h
       ·obtain⟨g1,g2⟩:=B2K h;refine⟨by rw[g1,List.length_range,hz],fun r x hr=>?_⟩;have hlt:r<P.cellsOf e:=by
         have:=(List.getElem?_eq_some_iff.1 hr).1;rw[g1,List.length_range]at this;exact this
        obtain⟨b,b1,b2⟩:=g2 r r (by simp[hlt]);rw[hr]at b1;cases b1;exact b2
       ·cases h
      by_cases h0:cap=0
      ·have hl0:len=0:=by omega
       subst h0 hl0;have hnil:elems=[]:=List.eq_nil_of_length_eq_zero hlen;subst hnil;exact .imm0 _ _ _ (by cases s'<;>rfl) (fun n e=>by cases e)
      ·obtain⟨y0,cs0,k1,k2⟩:=each 0 (by omega);obtain⟨k3,k4⟩:=cellsOk _ _ k1;have hcell:∃x,W.cell? a=some x:=by
        have hlt:0<cs0.length:=by omega
        have:=k4 0 _ (List.getElem?_eq_getElem hlt);simp[Addr.add]at this;exact⟨_,this⟩
       obtain⟨x0,hx0⟩:=hcell;have hs:a.spot=none/\a.block<W.heap.size:=by
        simp only[World.cell?]at hx0;split at hx0
        ·rename_i hb;split at hx0
         ·cases hx0
         ·rename_i hsp;exact⟨by cases e:a.spot with
           |none=>rfl
           |some _=>simp[e]at hsp,A0D hb⟩
        ·cases hx0
       have ha:a=⟨a.block,a.off,none⟩:=by cases a;simp_all
       have hadd:∀i r,(a.add (i*P.cellsOf e)).add r=⟨a.block,a.off+(i*s'.size+r),none⟩:=by
        intro i r;rw[ha,hz]
        by_cases h1:i*s'.size=0<;>by_cases h2:r=0<;>simp[Addr.add,h1,h2,Nat.add_assoc]
       have elem:∀i,i<len->∃y cs,elems[i]? =some y/\DataW.trod enc P W base (fun _=>true) held m e cs=some y/\RelIs W F (A44 hd s' y.1) cs/\A1J cs/\cs.length=s'.size/\∀r x,cs[r]? =some x->W.cell? ⟨a.block,a.off+(i*s'.size+r),none⟩=some x:=by
        intro i hi;obtain⟨y,cs,e1,e2⟩:=each i (by omega);have e3:=hel i hi;rw[e1]at e3;simp only[Option.bind_some]at e3;rw[e2]at e3;obtain⟨i1,i2,i3⟩:=ih _ _ hs' m cs y e2;refine⟨y,cs,e3.symm,e2,i1,i2,i3,fun r x hr=>?_⟩;rw[<- hadd i r];exact(cellsOk _ _ e1).2 r x hr
       have flen:∀d∈elems.map (·.1),(A44 hd s' d).length=s'.size:=by
        intro d hd';obtain⟨y,hy,rfl⟩:=List.mem_map.1 hd';obtain⟨i,hi,rfl⟩:=List.getElem_of_mem hy;obtain⟨y',cs,e1,_,e2,_,e4,_⟩:=elem i (by omega);rw[List.getElem?_eq_getElem hi]at e1;cases e1;rw[e2.length,e4]
       have csize:(A4B s'.intK ((elems.map (·.1)).flatMap (A44 hd s')) ((elems.map (·.1)).map C6K)).size=len*s'.size:=by
        cases s'<;>simp only[Sh.intK,A4B,Cont.size]<;>first
         |(rw[A6u flen];simp[hlen])
         |(simp[hlen,Sh.size])
       rw[ha];have hml:(elems.map (·.1)).length=len:=by simp[hlen]
       rw[hml];refine .imm _ _ _ a.block a.off cap (fun j=>(W.cell? ⟨a.block,a.off+j,none⟩).getD undef) (hF _ hs.2) (fun j hj=>?_) (fun j hj=>?_) (fun j hj=>?_) hl (fun n e=>by cases e)
       all_goals
        rw[csize]at hj;have hdiv:j/s'.size<len:=Nat.div_lt_of_lt_mul (by rw[Nat.mul_comm];exact hj);have hmod:j%s'.size<s'.size:=Nat.mod_lt _ hz1;obtain⟨y,cs,e1,e0,e2,e3,e4,e5⟩:=elem (j/s'.size) hdiv;have hjj:j/s'.size*s'.size+j%s'.size=j:=by rw[Nat.mul_comm];exact Nat.div_add_mod j s'.size
        have hr:cs[j%s'.size]? =some (cs[j%s'.size]'(by omega)):=List.getElem?_eq_getElem (by omega);have e6:=e5 _ _ hr;rw[hjj]at e6;simp only[e6,Option.getD_some]
       ·have hfl:(A44 hd s' y.1)[j%s'.size]? =some ((A44 hd s' y.1)[j%s'.size]'(by rw[e2.length,e4];exact hmod)):=List.getElem?_eq_getElem _;have hrel:=e2.get hfl hr;have hmap:(elems.map (·.1))[j/s'.size]? =some y.1:=by rw[List.getElem?_map,e1];rfl
        have hgv:(A4B s'.intK ((elems.map (·.1)).flatMap (A44 hd s')) ((elems.map (·.1)).map C6K)).getV j=(A44 hd s' y.1)[j%s'.size]'(by rw[e2.length,e4];exact hmod):=by
         have gen:((elems.map (·.1)).flatMap (A44 hd s')).getD j .undef=(A44 hd s' y.1)[j%s'.size]'(by rw[e2.length,e4];exact hmod):=by
          rw[List.getD_eq_getElem?_getD];have:=A6v (f:=A44 hd s') flen hmap hmod;rw[hjj,hfl]at this;rw[this];rfl
         cases s' with
         |int k=>
          simp only[Sh.size,Nat.div_one,Nat.mod_one]at*;simp only[Sh.intK,A4B,Cont.getV];rw[List.getD_eq_getElem?_getD,List.getElem?_map,hmap];obtain⟨v,_,rfl,_⟩:=DataW.trod_int (B9C hs') e0;rfl
         |_=>exact gen
        rw[hgv];exact hrel
       ·exact e3 _ (List.mem_of_getElem? hr)
    ·cases hs
   ·cases hs
  ·rename_i fs hu;split at hs
   ·rename_i l hl;rw[cond_eq_ite]at hs;split at hs
    ·rename_i hc;cases hs;have hcells:=Nat.eq_of_beq_eq_true hc;obtain⟨xs,m,rfl,rfl,hlen,hxl,hget⟩:=DataW.trod_struct hu hx;obtain⟨f1,f2⟩:=A6w hl;have key:=A4C (W:=W) (F:=F) (hd:=hd) l (xs.map (·.1)) cs 0 (by simp[hxl,f1]) (fun i s d h1 h2=>by
      have hi:i<fs.toList.length:=by
       have:=(List.getElem?_eq_some_iff.1 h1).1;omega
      obtain⟨s2,g1,g2,g3,g4⟩:=f2 i fs.toList[i] (List.getElem?_eq_getElem hi);rw[h1]at g1;cases g1;have hq:=hget i fs.toList[i] (by simpa using List.getElem?_eq_getElem hi);rw[List.getElem?_map]at h2;cases hxi:xs[i]? with
      |none=>rw[hxi]at h2;cases h2
      |some y=>
       rw[hxi]at h2 hq;cases h2;obtain⟨r1,r2,r3⟩:=ih _ _ g2 m _ y hq;rw[<- g3,<- g4];exact⟨r1,r2⟩)
     rw[List.drop_zero,List.take_of_length_le (by omega)]at key;exact⟨key.1,key.2,by rw[hlen,hcells];rfl⟩
    ·cases hs
   ·cases hs
  ·rename_i m e hu;split at hs
   ·rename_i s' hs';rw[cond_eq_ite]at hs;split at hs
    ·rename_i hc;cases hs;rw[Bool.and_eq_true]at hc;have hz:=Nat.eq_of_beq_eq_true hc.1;have hcells:=Nat.eq_of_beq_eq_true hc.2;cases fuel with
     |zero=>simp[DataW.trod]at hx
     |succ fuel=>
      unfold DataW.trod at hx;rw[hu]at hx;simp only at hx;split at hx
      ·rename_i hlen;rw[Option.map_eq_some_iff]at hx;obtain⟨xs,hxs,rfl⟩:=hx;obtain⟨q1,q2⟩:=B2K hxs;have key:=A4C (W:=W) (F:=F) (hd:=hd) (List.replicate m s') (xs.map (·.1)) cs 0 (by simp[q1]) (fun i s d h1 h2=>by
        have hi:i<m:=by
         have:=(List.getElem?_eq_some_iff.1 h1).1;simpa using this
        rw[List.getElem?_replicate,if_pos hi]at h1;cases h1;obtain⟨y,y1,y2⟩:=q2 i i (by simp[hi]);rw[List.getElem?_map,y1]at h2;cases h2;obtain⟨r1,r2,r3⟩:=ih _ _ hs' fuel _ y y2;have et:(List.replicate m s').take i=List.replicate i s':=by rw[List.take_replicate,Nat.min_eq_left (by omega)]
        rw[et,A4e,Nat.zero_add,<- hz];exact⟨r1,r2⟩)
       rw[List.drop_zero,List.take_of_length_le (by rw[A4e];omega)]at key;exact⟨key.1,key.2,by rw[hlen,hcells];show _=A2M _;rw[A4e]⟩
      ·cases hx
    ·cases hs
   ·cases hs
  ·cases hs
def C1E:H->AV:=fun _=>.undef
theorem B9D {b:Bool}:b=true->∀t f x y,RelI W F (C1E (enc (t,Value.func f x y))) (.func f x y):=fun _ _ _ _ _=>.undef _
def B8N (W:World)(g:Nat)(c:Cont):Prop:=g<W.heap.size/\∃xs:Nat->Value,(∀i,i<c.size->W.cell? ⟨g,i,none⟩=some (xs i))/\(∀i,i<c.size->RelI W (fun b=>b<W.heap.size) (c.getV i) (xs i))/\(∀i,i<c.size->(xs i).oneCell'=true)
theorem B7o {g n:Nat}{t:TypeId}{s:Sh}{cs:Array Value}{fuel:Nat}{name:String}{d:DataW H}{p:List MemPlace}(hs:shp P n t=some s)(hg:P.globalNamed name=some g)(hvar:W.var? P name=some cs)
  (hhd:held=true->∀t f x y,RelI W (fun b=>b<W.heap.size) (hd (enc (t,.func f x y))) (.func f x y))
  (h:DataW.trod enc P W base (fun _=>true) held fuel t cs.toList=some (d,p)) {c:Cont} (hc:c.size=(A44 hd s d).length/\∀i,i<c.size->c.getV i=(A44 hd s d).getD i .undef):B8N W g c:=by
 obtain⟨h1,h2,h3⟩:=B7n (F:=fun b=>b<W.heap.size) hhd (fun _ h=>h) n t s hs fuel _ _ h;have hlen:(A44 hd s d).length=cs.toList.length:=h1.length;have hlt:g<W.heap.size:=by
  simp only[World.var?,hg,Option.bind_some]at hvar;split at hvar
  ·rename_i hh;exact A0D hh
  ·cases hvar
 have key:∀i,i<c.size->∃x,cs[i]? =some x/\(A44 hd s d)[i]? =some (c.getV i)/\RelI W (fun b=>b<W.heap.size) (c.getV i) x/\x.oneCell'=true:=by
  intro i hi;have hi2:i<(A44 hd s d).length:=by omega
  have hi3:i<cs.toList.length:=by omega
  have e1:(A44 hd s d)[i]? =some (c.getV i):=by
   rw[hc.2 i hi,List.getD_eq_getElem?_getD,List.getElem?_eq_getElem hi2];rfl
  have e2:cs.toList[i]? =some cs.toList[i]:=List.getElem?_eq_getElem hi3;exact⟨cs.toList[i],by simpa using e2,e1,h1.get e1 e2,h2 _ (List.getElem_mem hi3)⟩
 refine⟨hlt,fun i=>cs.getD i undef,fun i hi=>?_,fun i hi=>?_,fun i hi=>?_⟩
 all_goals
  obtain⟨x,k1,k2,k3,k4⟩:=key i hi;have kx:cs.getD i undef=x:=by rw[Array.getD_eq_getD_getElem?,k1];rfl
  simp only[kx]
 ·rw[World.var?_cell hg hvar i,k1]
 ·exact k3
 ·exact k4
theorem A3p {k:IntKind}{zs:List Int}{l:List AV}(h:l=zs.map (.int k)):(Cont.ints k zs).size=l.length/\∀i,i<(Cont.ints k zs).size->(Cont.ints k zs).getV i=l.getD i .undef:=by
 subst h;refine⟨by simp[Cont.size],fun i hi=>?_⟩;have hi:i<zs.length:=hi;simp[Cont.getV,hi]
theorem B0j {l:List AV}:(Cont.vals l).size=l.length/\∀i,i<(Cont.vals l).size->(Cont.vals l).getV i=l.getD i .undef:=⟨rfl,fun i hi=>rfl⟩
theorem A20 {name:String}{dt:DataW Unit}{rest:List (String×DataW Unit)}{ps:List MemPlace}{g n:Nat}{t:TypeId}{s:Sh}(hg:P.globalNamed name=some g)(hty:(P.globals[g]?).map (·.type)=some t)(hs:shp P n t=some s)
  (h:DataW.LaidVars P W ((name,dt)::rest) ps) {c:Cont} (hc:c.size=(A44 C1E s dt).length/\∀i,i<c.size->c.getV i=(A44 C1E s dt).getD i .undef):B8N W g c/\∃q,DataW.LaidVars P W rest q:=by
 obtain⟨g',t',cs,fuel,p,q,hg',ht',hvar,hd',hr,_⟩:=h;obtain rfl:=Option.some.inj (hg.symm.trans hg');obtain rfl:=Option.some.inj (hty.symm.trans ht');exact⟨B7o (hd:=C1E) hs hg hvar B9D hd' hc,q,hr⟩
end
end Go.Ab
