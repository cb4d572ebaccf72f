/- An abstract reading of the program: what its operations do to what is known of memory. Part 3 of 6. -/
import Derived.Test.YtfpcbimohikhmaaDoorAb2
import Derived.Laws.BytesString

/-
 One operation of the model, by its abstract effect.
-/
set_option linter.unusedVariables false
set_option linter.unusedSimpArgs false
namespace Go.Ab
open Go

def OpOk (P:Program)(o:Oper)(ev:Operand→Value)(w:World)(K:Value→World→Prop):Prop:=NextOk P ((execOp ev o).run P w) K

section
variable {P:Program}{G:GL}{F:Nat→Prop}{ρ:Nat→Option Nat}{H:Nat→Option HO}{w:World}{look:Nat→Option HO}{D:Delta}{o:Oper}{ev:Operand→Value}{T:List (Nat×AV)}

theorem OpOk.eff {r:Result Value}(hrun:(execOp ev o).run P w=r.andThen fun v w'=>.ok (.value v) w')(he:Eff G F ρ H w r D):OpOk P o ev w (KD G F ρ H w D):=by
 obtain⟨x,w',F',ρ',h1,h2⟩:=he
 subst h1
 exact .inl ⟨_,x,w',hrun,.inl rfl,F',ρ',h2⟩

theorem Gives.eff {r:Result Value}(hm:MRel G F ρ H w)(h:Gives F ρ H w r D):Eff G F ρ H w r D:=by
 obtain⟨x,h1,h2,h3,h4⟩:=h
 exact Eff.pure hm h1 h3 h2

def EvOk (G:GL)(F:Nat→Prop)(ρ:Nat→Option Nat)(H:Nat→Option HO)(w:World)(T:List (Nat×AV))(ev:Operand→Value):Prop:=
 ∀X o,compX X=some o→RelV w F ρ H (o.ev G T) (ev X)

theorem EvOk.list (hev:EvOk G F ρ H w T ev):∀{l:List Operand} {os:List Opd},compXs l=some os→RelVs w F ρ H (os.map (Opd.ev G T)) (l.map ev)
 |[],os,h=>by cases h;exact .nil
 |x::r,os,h=>by
  simp only[compXs]at h
  split at h
  ·rename_i h1 h2;cases h;exact .cons _ _ _ _ (hev _ _ h1) (hev.list h2)
  ·cases h

theorem aggOf_ok {t:TypeId}{agg:Option Nat}(h:aggOf P t=some agg):TyOk P t agg:=by
 unfold aggOf at h
 split at h
 ·rename_i d i h1 h2
  cases h
  refine⟨⟨d,h1,?_⟩,i,h2,fun n e=>?_⟩
  ·cases d<;>rfl
  ·cases d<;>simp[aggD]at e<;>exact e
 ·cases h

theorem szOf_ok {t:TypeId}{n:Nat}(h:szOf P t=some n):∃i,P.info? t=some i∧i.size=n:=by
 unfold szOf at h
 split at h
 ·rename_i i hi;cases h;exact⟨i,hi,rfl⟩
 ·cases h

theorem allOne_mem:∀{l:List Value},allOne l=true→∀v∈l,v.oneCell'=true
 |[],_,v,h=>by simp at h
 |u::r,ha,v,h=>by
  simp only[allOne,Bool.and_eq_true]at ha
  rcases List.mem_cons.1 h with rfl|h
  ·exact ha.1
  ·exact allOne_mem ha.2 v h

theorem zeroOf_ok {t:TypeId}{z:List AV}(h:zeroOf P t=some z):∃i v,P.info? t=some i∧i.zero=some v∧v.cells.size=i.size∧(∀u∈v.cells.toList,u.oneCell'=true)∧(∀(w:World) F,RelIs w F z v.cells.toList)∧
  (zeroValue t).run P w=.ok v w:=by
 unfold zeroOf at h
 split at h
 ·rename_i i hi
  split at h
  ·rename_i v hv
   simp only[cond_eq_ite]at h
   split at h
   ·rename_i hc
    simp only[Bool.and_eq_true]at hc
    exact⟨i,v,hi,hv,Nat.eq_of_beq_eq_true hc.2,allOne_mem hc.1,fun w F=>(compV_sound w F 12000).2 _ _ h,by simp[zeroValue,typeInfo,hi,hv]⟩
   ·cases h
  ·cases h
 ·cases h

theorem elOf_ok {e:TypeId}{sz by_:Nat}{z:List AV}(h:elOf P e=some (sz,by_,z)):ElOk P e sz by_∧zeroOf P e=some z:=by
 unfold elOf at h
 split at h
 ·rename_i i z' hi hz
  simp only[cond_eq_ite]at h
  split at h
  ·cases h
  ·rename_i hb
   cases h
   obtain⟨i',v,h1,h2,h3,h4,h5,h6⟩:=zeroOf_ok (w:=default) hz
   rw[hi]at h1;cases h1
   exact⟨⟨⟨i,v,hi,rfl,rfl,h2,h3⟩,fun e=>hb (by simp[e])⟩,hz⟩
 ·cases h

theorem run_value {s:Sem Value}:(do pure (Next.value (← s)):Sem Next).run P w=(s.run P w).andThen fun v w'=>.ok (.value v) w':=by
 simp

theorem step_alloc {t:TypeId}(ho:o.op=.alloc t){x:XOp}(hx:compAlloc P t=some x)(hm:MRel G F ρ H w){site:Nat}{d:Dir}{vs:List AV}(hD:execD site look x d vs=some D)(hfresh:∀i,i∈D.al→H i=none):
  OpOk P o ev w (KD G F ρ H w D):=by
 unfold compAlloc at hx
 split at hx
 ·rename_i z hz
  obtain⟨i,v,h1,h2,h3,h4,h5,h6⟩:=zeroOf_ok (w:=w) hz
  have hrun:(execOp ev o).run P w=(((newRow t v.cells).run P w).andThen fun a w'=>.ok (.pointer (some a)) w').andThen fun v w'=>.ok (.value v) w':=by
   unfold execOp
   rw[ho]
   simp only[run_value]
   simp only[Instr.alloc,Sem.run_bind,h6,Result.andThen_ok,newVar,newRow,run_newObj,Sem.run_pure]
  have hrel:RelVs w F ρ H z v.cells.toList:=(h5 w F).toVs
  have go:∀c,c.size=z.length→(∀i y,i<z.length→RelV w F ρ H (z.getD i .undef) y→y.oneCell'=true→RelE w F ρ H c i y)→∀n sz,opNew site c n sz=some D→OpOk P o ev w (KD G F ρ H w D):=by
   intro c hs hc n sz hD
   have hlen:z.length=v.cells.size:=by have:=hrel.len;simpa using this
   refine OpOk.eff hrun (opNew_sound hm (hfresh site (opNew_al hD)) (by omega) (fun j hj=>?_) hD)
   obtain⟨y,p1,p2⟩:=hrel.getD (by omega:j<z.length)
   exact⟨y,p1,hc j y (by omega) p2 (h4 y (List.mem_of_getElem? (l:=v.cells.toList) (i:=j) (by simpa using p1)))⟩
  split at hx
  ·split at hx
   ·rename_i c sz hc _
    cases hx
    obtain⟨g1,g2⟩:=contOf_spec (w:=w) (F:=F) (ρ:=ρ) (H:=H) hc
    exact go c g1 g2 _ _ hD
   ·cases hx
  ·cases hx
   exact go (.cells z) rfl (fun i y hi hr hone=>⟨hr,hone⟩) _ _ hD
 ·cases hx

theorem step_box {t:TypeId}{X:Operand}(ho:o.op=.box t X){a:Opd}(hX:compX X=some a)(hm:MRel G F ρ H w)(hev:EvOk G F ρ H w T ev){site:Nat}{d:Dir}
  (hD:execD site look (.box a) d [a.ev G T]=some D) (hfresh:∀i,i∈D.al→H i=none):OpOk P o ev w (KD G F ρ H w D):=by
 simp only[execD,x1,cond_eq_ite,List.getD_cons_zero]at hD
 split at hD
 ·rename_i hp
  have hv:RelV w F ρ H (a.ev G T) (ev X):=hev _ _ hX
  have hp:allCell (a.ev G T).cs=true:=hp
  obtain⟨hmay,hund⟩:=allCell_cs hp
  have hcs:=hv.csOf hmay hund
  have hrun:(execOp ev o).run P w=(((newRow t (ev X).cells).run P w).andThen fun a w'=>.ok (.pointer (some a)) w').andThen fun v w'=>.ok (.value v) w':=by
   unfold execOp
   rw[ho]
   simp only[run_value]
   simp only[Instr.box,Sem.run_bind,Result.andThen_ok,newVar,newRow,run_newObj,Sem.run_pure]
  have hlen:(a.ev G T).cs.length=(ev X).cells.size:=by have:=hcs.len;simpa using this
  refine OpOk.eff hrun (opNew_sound hm (hfresh site (opNew_al hD)) (by simp only[Cont.size];omega) (fun j hj=>?_) hD)
  simp only[Cont.size]at hj
  obtain⟨y,p1,p2⟩:=hcs.getD hj
  exact⟨y,p1,p2,hcs.ones hp y (List.mem_of_getElem? (l:=(ev X).cells.toList) (i:=j) (by simpa using p1))⟩
 ·cases hD

theorem step_mv {X:Operand}(ho:o.op=.move X∨o.op=.assign X){a:Opd}(hX:compX X=some a)(hm:MRel G F ρ H w)(hev:EvOk G F ρ H w T ev){site:Nat}{d:Dir}
  (hD:execD site look (.mv a) d [a.ev G T]=some D):OpOk P o ev w (KD G F ρ H w D):=by
 have hrun:(execOp ev o).run P w=(Result.ok (ev X) w).andThen fun v w'=>.ok (.value v) w':=by
  unfold execOp
  rcases ho with ho|ho<;>rw[ho]<;>rfl
 exact OpOk.eff hrun (Eff.val hm hD rfl (hev _ _ hX))

theorem step_pick {X Y Z:Operand}(ho:o.op=.pick X Y Z){a b c:Opd}(hX:compX X=some a)(hY:compX Y=some b)(hZ:compX Z=some c)(hm:MRel G F ρ H w)(hev:EvOk G F ρ H w T ev){site:Nat}{d:Dir}
  (hD:execD site look (.pick a b c) d [a.ev G T,b.ev G T,c.ev G T]=some D) (hc:AllC (SpecQ P G) D.cs):OpOk P o ev w (KD G F ρ H w D):=by
 have hg:=opPickD_sound (P:=P) (hev _ _ hX) (hev _ _ hY) (hev _ _ hZ) hD hc
 refine OpOk.eff (r:=(do pure (if ← asBool (ev X)then ev Y else ev Z):Sem Value).run P w) ?_ (hg.eff hm)
 unfold execOp
 rw[ho]
 simp only[Sem.run_bind,Sem.run_pure]
 cases(asBool (ev X)).run P w<;>rfl

theorem step_load {t:TypeId}{X:Operand}(ho:o.op=.load t X){x:XOp}(hx:compLoad P t X=some x)(hm:MRel G F ρ H w)(hl:∀id o,look id=some o→H id=some o)(hev:EvOk G F ρ H w T ev){site:Nat}{d:Dir}
  (hD:execD site look x d (x.opds.map (Opd.ev G T))=some D) (hc:AllC (SpecQ P G) D.cs):OpOk P o ev w (KD G F ρ H w D):=by
 unfold compLoad at hx
 split at hx
 ·rename_i agg a hagg hX
  cases hx
  refine OpOk.eff (r:=(Instr.loadAt t (ev X)).run P w) ?_ (opLoad_sound hm hl (hev _ _ hX) (aggOf_ok hagg) hD hc)
  unfold execOp
  rw[ho]
  simp only[run_value]
 ·cases hx

theorem step_store {t:TypeId}{X Y:Operand}(ho:o.op=.store t X Y){x:XOp}(hx:compStore P t X Y=some x)(hm:MRel G F ρ H w)(hl:∀id o,look id=some o→H id=some o)(hev:EvOk G F ρ H w T ev){site:Nat}{d:Dir}
  (hD:execD site look x d (x.opds.map (Opd.ev G T))=some D) (hc:AllC (SpecQ P G) D.cs):OpOk P o ev w (KD G F ρ H w D):=by
 unfold compStore at hx
 split at hx
 ·rename_i sz a b hsz hX hY
  cases hx
  obtain⟨i,h1,h2⟩:=szOf_ok hsz
  obtain⟨y,w',F',ρ',g1,g2⟩:=opStoreS_sound (P:=P) hm hl (hev _ _ hX) (hev _ _ hY) h1 h2 hD hc
  cases hr:(Instr.storeAt t (ev X) (ev Y)).run P w with
  |halt q w'=>rw[hr]at g1;cases g1
  |ok u w1=>
   rw[hr]at g1
   simp only[Result.andThen_ok]at g1
   cases g1
   refine .inl ⟨.skip,undef,w',?_,.inr ⟨rfl,rfl⟩,F',ρ',g2⟩
   unfold execOp
   rw[ho]
   simp[hr]
 ·cases hx

theorem run_bin {op:BinOp}{t yt:TypeId}{X Y:Operand}(ho:o.op=.binOp op t X Y yt):
  (execOp ev o).run P w=((do eqGuard op t X Y (ev X) (ev Y);binOp op t (ev X) (ev Y):Sem Value).run P w).andThen fun v w'=>.ok (.value v) w':=by
 unfold execOp
 rw[ho]
 simp only[run_value]

theorem cond_if (neq:Bool):(cond neq BinOp.neq BinOp.eql)=(if neq then .neq else .eql):=by cases neq<;>rfl

theorem equalIn_slice (d:Nat){t e:TypeId}(he:P.underlying t=some (.slice e))(a:Option Addr)(l c l' c':Nat):(Op.equalIn (d+1) t (.slice a l c) (.slice none l' c')).run P w=.ok a.isNone w:=by
 simp only[Op.equalIn,Sem.run_bind,run_underlying' he,Result.andThen_ok]
 cases a<;>rfl
theorem equalIn_func (d:Nat){t:TypeId}{p r:Array TypeId}{v:Bool}(he:P.underlying t=some (.func p r v))(x:Value)(b:Bool)(hx:(x=.nilFunc∧b=true)∨∃f a c,x=.func f a c∧b=false):(Op.equalIn (d+1) t x .nilFunc).run P w=.ok b w:=by
 simp only[Op.equalIn,Sem.run_bind,run_underlying' he,Result.andThen_ok]
 rcases hx with⟨rfl,rfl⟩|⟨f,a,c,rfl,rfl⟩<;>rfl
theorem equalIn_ptr (d:Nat){t e:TypeId}(he:P.underlying t=some (.pointer e))(a:Option Addr):(Op.equalIn (d+1) t (.pointer a) (.pointer none)).run P w=.ok a.isNone w:=by
 simp only[Op.equalIn,Sem.run_bind,run_underlying' he,Result.andThen_ok]
 cases a<;>rfl
theorem equal_slice {t e:TypeId}(he:P.underlying t=some (.slice e))(a:Option Addr)(l c l' c':Nat):(Op.equal t (.slice a l c) (.slice none l' c')).run P w=.ok a.isNone w:=equalIn_slice 9999 he a l c l' c'
theorem equal_func {t:TypeId}{p r:Array TypeId}{v:Bool}(he:P.underlying t=some (.func p r v))(x:Value)(b:Bool)(hx:(x=.nilFunc∧b=true)∨∃f a c,x=.func f a c∧b=false):(Op.equal t x .nilFunc).run P w=.ok b w:=equalIn_func 9999 he x b hx
theorem equal_ptr {t e:TypeId}(he:P.underlying t=some (.pointer e))(a:Option Addr):(Op.equal t (.pointer a) (.pointer none)).run P w=.ok a.isNone w:=equalIn_ptr 9999 he a

theorem run_eqs {neq:Bool}{t:TypeId}{X Y:Operand}{x y:Value}{q:Bool}(hg:(eqGuard (if neq then BinOp.neq else .eql) t X Y x y).run P w=.ok () w)(he:(Op.equal t x y).run P w=.ok q w)
  (h1:binOp .eql t x y=(do pure (.bool (← Op.equal t x y)))) (h2:binOp .neq t x y=(do pure (.bool (!(← Op.equal t x y))))):
  (do eqGuard (if neq then BinOp.neq else .eql) t X Y x y;binOp (if neq then BinOp.neq else .eql) t x y:Sem Value).run P w=.ok (.bool (negIf neq q)) w:=by
 rw[Sem.run_bind,hg,Result.andThen_ok]
 cases neq
 ·simp only[Bool.false_eq_true,if_false,h1,Sem.run_bind,he,Result.andThen_ok,Sem.run_pure,negIf]
 ·simp only[if_true,h2,Sem.run_bind,he,Result.andThen_ok,Sem.run_pure,negIf]

def ConstOk (ev:Operand→Value):Prop:=(∀v,ev (.const v)=v)∧(∀f,ev (.func f)=.func (.func f) #[] #[])

theorem step_isnil {neq:Bool}{kd:Nat}{t yt:TypeId}{X Y:Operand}(ho:o.op=.binOp (if neq then .neq else .eql) t X Y yt)(hY:isNilConst kd Y=true)(hcon:ConstOk ev){a:Opd}(hX:compX X=some a)
  (ht:(kd=0∧∃e,P.underlying t=some (.slice e))∨(kd=1∧∃p r v,P.underlying t=some (.func p r v))∨(kd=2∧∃e,P.underlying t=some (.pointer e)))
  (hm:MRel G F ρ H w) (hl:∀id o,look id=some o→H id=some o) (hev:EvOk G F ρ H w T ev) {site:Nat} {d:Dir}
  (hD:execD site look (.isnil neq kd a) d [a.ev G T]=some D) (hc:AllC (SpecQ P G) D.cs):OpOk P o ev w (KD G F ρ H w D):=by
 obtain⟨b,h1,h2,h3,h4⟩:=opIsnil_sound hl (hev _ _ hX).unc hD hc
 refine OpOk.eff (run_bin ho) (Eff.pure hm (x:=.bool (negIf neq b)) ?_ h2 (by rw[h1];exact relBool _))
 rcases ht with⟨rfl,e,he⟩|⟨rfl,p,r,v,he⟩|⟨rfl,e,he⟩
 ·have hYc:Y=.const (.slice none 0 0):=by
   unfold isNilConst at hY
   split at hY<;>first|rfl|cases hY
  subst hYc
  rcases h4 with⟨_,q,l,c,hx,rfl⟩|⟨h,_⟩|⟨h,_⟩
  ·rw[hcon.1,hx]
   exact run_eqs (by unfold eqGuard;cases neq<;>rfl) (equal_slice he q l c 0 0) rfl rfl
  ·cases h
  ·exact absurd rfl h
 ·have hYc:Y=.const .nilFunc:=by
   unfold isNilConst at hY
   split at hY<;>first|rfl|cases hY
  subst hYc
  rcases h4 with⟨h,_⟩|⟨_,hx⟩|⟨_,h,_⟩
  ·cases h
  ·rw[hcon.1]
   have he':=equal_func (w:=w) he (ev X) b hx
   rcases hx with⟨hx,_⟩|⟨f,a,c,hx,_⟩
   ·rw[hx]at he' ⊢
    exact run_eqs (by unfold eqGuard;cases neq<;>rfl) he' rfl rfl
   ·rw[hx]at he' ⊢
    exact run_eqs (by unfold eqGuard;cases neq<;>rfl) he' rfl rfl
  ·exact absurd rfl h
 ·have hYc:Y=.const (.pointer none):=by
   unfold isNilConst at hY
   split at hY<;>first|rfl|cases hY
  subst hYc
  rcases h4 with⟨h,_⟩|⟨h,_⟩|⟨_,_,q,hx,rfl⟩
  ·cases h
  ·cases h
  ·rw[hcon.1,hx]
   exact run_eqs (by unfold eqGuard;cases neq<;>rfl) (equal_ptr he q) rfl rfl

end
end Go.Ab

/-
 One operation of the model, by its abstract effect: the others; all of them.
-/
set_option linter.unusedVariables false
set_option linter.unusedSimpArgs false
namespace Go.Ab
open Go
section
variable {P:Program}{G:GL}{F:Nat→Prop}{ρ:Nat→Option Nat}{H:Nat→Option HO}{w:World}{look:Nat→Option HO}{D:Delta}{o:Oper}{ev:Operand→Value}{T:List (Nat×AV)}

theorem step_eqa {neq:Bool}{t yt:TypeId}{X Y:Operand}(ho:o.op=.binOp (if neq then .neq else .eql) t X Y yt){x:XOp}(hx:compEqa P neq t X Y=some x)(hd:∃d,P.underlying t=some d∧aggD d=true)
  (hm:MRel G F ρ H w) (hev:EvOk G F ρ H w T ev) {site:Nat} {d:Dir}
  (hD:execD site look x d (x.opds.map (Opd.ev G T))=some D) (hc:AllC (SpecQ P G) D.cs):OpOk P o ev w (KD G F ρ H w D):=by
 unfold compEqa at hx
 split at hx
 ·rename_i n ls a b hn hls hX hY
  simp only[cond_eq_ite]at hx
  split at hx
  ·cases hx
  ·rename_i hg
   cases hx
   obtain⟨i,h1,h2⟩:=szOf_ok hn
   subst h2
   exact OpOk.eff (run_bin ho) ((opEqa_sound hls (by simpa using hg) h1 hd (hev _ _ hX) (hev _ _ hY) hD).eff hm)
 ·cases hx

theorem step_bin {op:BinOp}{t yt:TypeId}{X Y:Operand}(ho:o.op=.binOp op t X Y yt){x:XOp}(hx:compBin P op t X Y=some x)(hcon:ConstOk ev)(hm:MRel G F ρ H w)(hl:∀id o,look id=some o→H id=some o)(hev:EvOk G F ρ H w T ev){site:Nat}{d:Dir}
  (hD:execD site look x d (x.opds.map (Opd.ev G T))=some D) (hc:AllC (SpecQ P G) D.cs):OpOk P o ev w (KD G F ρ H w D):=by
 have plain:∀a b,compX X=some a→compX Y=some b→x=.bin op a b→OpOk P o ev w (KD G F ρ H w D):=by
  intro a b hX hY e
  subst e
  exact OpOk.eff (run_bin ho) ((opBin_sound (hev _ _ hX) (hev _ _ hY) hD hc).eff hm)
 have eq:∀neq:Bool,op=(if neq then .neq else .eql)→compEq P neq t X Y=some x→OpOk P o ev w (KD G F ρ H w D):=by
  intro neq hop hx
  rw[hop]at ho
  unfold compEq at hx
  split at hx
  ·split at hx
   ·rename_i a b hX hY;cases hx
    rw[cond_if]at hD
    exact OpOk.eff (run_bin ho) ((opBin_sound (hev _ _ hX) (hev _ _ hY) hD hc).eff hm)
   ·cases hx
  ·split at hx
   ·rename_i a b hX hY;cases hx
    rw[cond_if]at hD
    exact OpOk.eff (run_bin ho) ((opBin_sound (hev _ _ hX) (hev _ _ hY) hD hc).eff hm)
   ·cases hx
  ·rename_i ht
   split at hx
   ·rename_i a b hX hY;cases hx
    exact OpOk.eff (run_bin ho) ((opEqb_sound ht (hev _ _ hX) (hev _ _ hY) hD).eff hm)
   ·cases hx
  ·rename_i fs ht;exact step_eqa ho hx ⟨_,ht,rfl⟩ hm hev hD hc
  ·rename_i n e ht;exact step_eqa ho hx ⟨_,ht,rfl⟩ hm hev hD hc
  ·rename_i e ht
   simp only[cond_eq_ite]at hx
   split at hx
   ·rename_i hY
    split at hx
    ·rename_i a hX;cases hx
     exact step_isnil ho hY hcon hX (.inl ⟨rfl,e,ht⟩) hm hl hev hD hc
    ·cases hx
   ·cases hx
  ·rename_i p r v ht
   simp only[cond_eq_ite]at hx
   split at hx
   ·rename_i hY
    split at hx
    ·rename_i a hX;cases hx
     exact step_isnil ho hY hcon hX (.inr (.inl ⟨rfl,_,_,_,ht⟩)) hm hl hev hD hc
    ·cases hx
   ·cases hx
  ·rename_i e ht
   simp only[cond_eq_ite]at hx
   split at hx
   ·rename_i hY
    split at hx
    ·rename_i a hX;cases hx
     exact step_isnil ho hY hcon hX (.inr (.inr ⟨rfl,_,ht⟩)) hm hl hev hD hc
    ·cases hx
   ·cases hx
  ·cases hx
 unfold compBin at hx
 split at hx
 ·exact eq false rfl hx
 ·exact eq true rfl hx
 ·split at hx
  ·rename_i a b hX hY;cases hx;exact plain a b hX hY rfl
  ·cases hx

theorem step_un {op:UnOp}{t:TypeId}{X:Operand}(ho:o.op=.unOp op t X){a:Opd}(hX:compX X=some a)(hm:MRel G F ρ H w)(hev:EvOk G F ρ H w T ev){site:Nat}{d:Dir}
  (hD:execD site look (.un op a) d [a.ev G T]=some D) (hc:AllC (SpecQ P G) D.cs):OpOk P o ev w (KD G F ρ H w D):=by
 refine OpOk.eff (r:=(Op.unary op (ev X)).run P w) ?_ ((opUn_sound (P:=P) (hev _ _ hX) hD hc).eff hm)
 unfold execOp
 rw[ho]
 simp only[run_value]

theorem step_conv {src dst:TypeId}{X:Operand}(ho:o.op=.convert src dst X){x:XOp}(hx:compConv P src dst X=some x)(hm:MRel G F ρ H w)(hev:EvOk G F ρ H w T ev){site:Nat}{d:Dir}
  (hD:execD site look x d (x.opds.map (Opd.ev G T))=some D) (hc:AllC (SpecQ P G) D.cs):OpOk P o ev w (KD G F ρ H w D):=by
 unfold compConv at hx
 split at hx
 ·rename_i k0 k a h1 h2 hX
  cases hx
  refine OpOk.eff (r:=(convert src dst (ev X)).run P w) ?_ ((opConv_sound h1 h2 (hev _ _ hX) hD hc).eff hm)
  unfold execOp
  rw[ho]
  simp only[run_value]
 ·cases hx

theorem step_fieldA {t:TypeId}{X:Operand}{ix:Nat}(ho:o.op=.fieldAddr t X ix){x:XOp}(hx:compFieldA P t X ix=some x)(hm:MRel G F ρ H w)(hl:∀id o,look id=some o→H id=some o)(hev:EvOk G F ρ H w T ev){site:Nat}{d:Dir}
  (hD:execD site look x d (x.opds.map (Opd.ev G T))=some D) (hc:AllC (SpecQ P G) D.cs):OpOk P o ev w (KD G F ρ H w D):=by
 unfold compFieldA at hx
 split at hx
 ·rename_i fs ht
  split at hx
  ·rename_i f hf
   split at hx
   ·rename_i n a hn hX
    simp only[cond_eq_ite]at hx
    split at hx
    ·cases hx
    ·rename_i hn0
     cases hx
     obtain⟨i,h1,h2⟩:=szOf_ok hn
     refine OpOk.eff (r:=(Instr.fieldAt t (ev X) ix).run P w) ?_ ((opFieldA_sound hl ht hf rfl h1 (fun e=>hn0 (by simp[← h2,e])) (hev _ _ hX) hD hc).eff hm)
     unfold execOp
     rw[ho]
     simp only[run_value]
   ·cases hx
  ·cases hx
 ·cases hx

theorem step_field {t:TypeId}{X:Operand}{ix:Nat}(ho:o.op=.field t X ix){x:XOp}(hx:compField P t X ix=some x)(hm:MRel G F ρ H w)(hev:EvOk G F ρ H w T ev){site:Nat}{d:Dir}
  (hD:execD site look x d (x.opds.map (Opd.ev G T))=some D) (hc:AllC (SpecQ P G) D.cs):OpOk P o ev w (KD G F ρ H w D):=by
 unfold compField at hx
 split at hx
 ·rename_i fs ht
  split at hx
  ·rename_i f hf
   split at hx
   ·rename_i agg a hagg hX
    cases hx
    refine OpOk.eff (r:=(Instr.field t (ev X) ix).run P w) ?_ ((opField_sound ht hf rfl (aggOf_ok hagg) (hev _ _ hX) hD hc).eff hm)
    unfold execOp
    rw[ho]
    simp only[run_value]
   ·cases hx
  ·cases hx
 ·cases hx

theorem step_idxA {t:TypeId}{X I:Operand}(ho:o.op=.indexAddr t X I){x:XOp}(hx:compIdxA P t X I=some x)(hm:MRel G F ρ H w)(hl:∀id o,look id=some o→H id=some o)(hev:EvOk G F ρ H w T ev){site:Nat}{d:Dir}
  (hD:execD site look x d (x.opds.map (Opd.ev G T))=some D) (hc:AllC (SpecQ P G) D.cs):OpOk P o ev w (KD G F ρ H w D):=by
 have hrun:(execOp ev o).run P w=((Instr.indexAt t (ev X) (ev I)).run P w).andThen fun v w'=>.ok (.value v) w':=by
  unfold execOp
  rw[ho]
  simp only[run_value]
 unfold compIdxA at hx
 split at hx
 ·rename_i e ht
  split at hx
  ·rename_i sz a b hsz hX hI
   cases hx
   obtain⟨i,h1,h2⟩:=szOf_ok hsz
   exact OpOk.eff hrun ((opIdxA_sound (arr:=none) hl ht h1 h2 (hev _ _ hX).unc (hev _ _ hI) hD hc).eff hm)
  ·cases hx
 ·rename_i n e ht
  split at hx
  ·rename_i sz a b hsz hX hI
   cases hx
   obtain⟨i,h1,h2⟩:=szOf_ok hsz
   exact OpOk.eff hrun ((opIdxA_sound (arr:=some n) hl ht h1 h2 (hev _ _ hX).unc (hev _ _ hI) hD hc).eff hm)
  ·cases hx
 ·cases hx

theorem step_idx {t:TypeId}{X I:Operand}(ho:o.op=.index t X I){x:XOp}(hx:compIdx P t X I=some x)(hm:MRel G F ρ H w)(hev:EvOk G F ρ H w T ev){site:Nat}{d:Dir}
  (hD:execD site look x d (x.opds.map (Opd.ev G T))=some D) (hc:AllC (SpecQ P G) D.cs):OpOk P o ev w (KD G F ρ H w D):=by
 have hrun:(execOp ev o).run P w=((Instr.index t (ev X) (ev I)).run P w).andThen fun v w'=>.ok (.value v) w':=by
  unfold execOp
  rw[ho]
  simp only[run_value]
 unfold compIdx at hx
 split at hx
 ·rename_i n e ht
  split at hx
  ·rename_i sz agg a b hsz hagg hX hI
   cases hx
   obtain⟨i,h1,h2⟩:=szOf_ok hsz
   refine OpOk.eff hrun ((opIdxD_sound ht ?_ h1 h2 (hev _ _ hX) (hev _ _ hI) hD hc).eff hm)
   have hT:=aggOf_ok hagg
   cases agg with
   |none=>exact hT
   |some m=>
    obtain⟨i',h1',h2'⟩:=hT.sz
    rw[h1]at h1';cases h1'
    have:=h2' m rfl
    simp only[Option.isSome_some,if_true]
    rw[← h2,this];exact hT
  ·cases hx
 ·rename_i ht
  split at hx
  ·rename_i a b hX hI
   cases hx
   exact OpOk.eff hrun ((opIdxs_sound ht (hev _ _ hX) (hev _ _ hI) hD hc).eff hm)
  ·cases hx
 ·cases hx

theorem compXo_ok (hev:EvOk G F ρ H w T ev){x:Option Operand}{a:Option Opd}(h:compXo x=some a):(x.isSome=a.isSome)∧RelVs w F ρ H (a.toList.map (Opd.ev G T)) (x.toList.map ev):=by
 unfold compXo at h
 split at h
 ·cases h;exact⟨rfl,.nil⟩
 ·split at h
  ·rename_i h1;cases h;exact⟨rfl,.cons _ _ _ _ (hev _ _ h1) .nil⟩
  ·cases h

theorem step_slice {t:TypeId}{X:Operand}{lo hi mx:Option Operand}(ho:o.op=.slice t X lo hi mx){x:XOp}(hx:compSlice P t X lo hi mx=some x)(hm:MRel G F ρ H w)(hl:∀id o,look id=some o→H id=some o)(hev:EvOk G F ρ H w T ev){site:Nat}{d:Dir}
  (hD:execD site look x d (x.opds.map (Opd.ev G T))=some D) (hc:AllC (SpecQ P G) D.cs):OpOk P o ev w (KD G F ρ H w D):=by
 have hrun:(execOp ev o).run P w=((Instr.sliceAt t (ev X) (lo.map ev) (hi.map ev) (mx.map ev)).run P w).andThen fun v w'=>.ok (.value v) w':=by
  unfold execOp
  rw[ho]
  simp only[run_value]
 unfold compSlice at hx
 split at hx
 ·rename_i a l h m hX hlo hhi hmx
  obtain⟨b1,r1⟩:=compXo_ok hev hlo
  obtain⟨b2,r2⟩:=compXo_ok hev hhi
  obtain⟨b3,r3⟩:=compXo_ok hev hmx
  have hrs:=r1.app (r2.app r3)
  split at hx
  ·rename_i e ht
   split at hx
   ·rename_i sz hsz
    cases hx
    obtain⟨i,h1,h2⟩:=szOf_ok hsz
    have hD':opSliceS look d sz l.isSome h.isSome m.isSome (unc (a.ev G T)) (l.toList.map (Opd.ev G T)++(h.toList.map (Opd.ev G T)++m.toList.map (Opd.ev G T)))=some D:=by
     have:execD site look (.slice sz a l h m) d ((XOp.slice sz a l h m).opds.map (Opd.ev G T))=some D:=hD
     simp only[execD,XOp.opds,List.map_cons,List.map_append,x1,List.getD_cons_zero,List.drop_succ_cons,List.drop_zero,List.append_assoc]at this
     exact this
    have:=opSliceS_sound (P:=P) (t:=t) hm hl ht h1 h2 (hev _ _ hX).unc hrs (by cases l<;>cases h<;>cases m<;>rfl) hD' hc
    refine OpOk.eff hrun ?_
    cases lo<;>cases hi<;>cases mx<;>cases l<;>cases h<;>cases m<;>simp at b1 b2 b3<;>simpa using this
   ·cases hx
  ·rename_i ht
   split at hx
   ·cases hx
    have hmx0:mx=none:=by cases mx<;>simp at b3 ⊢
    subst hmx0
    have hD':opSlices l.isSome h.isSome (a.ev G T) (l.toList.map (Opd.ev G T)++h.toList.map (Opd.ev G T))=some D:=by
     have:execD site look (.slices a l h) d ((XOp.slices a l h).opds.map (Opd.ev G T))=some D:=hD
     simp only[execD,XOp.opds,List.map_cons,List.map_append,x1,List.getD_cons_zero,List.drop_succ_cons,List.drop_zero]at this
     exact this
    have:=opSlices_sound (P:=P) (t:=t) ht (hev _ _ hX) (r1.app r2) (by cases l<;>cases h<;>rfl) hD' hc
    refine OpOk.eff (r:=(Instr.slice t (ev X) (lo.map ev) (hi.map ev) none).run P w) ?_ ?_
    ·rw[hrun]
     have:∀q s r,(Instr.sliceAt t q s r none).run P w=(Instr.slice t q s r none).run P w:=fun q s r=>by
      simp only[Instr.sliceAt,Sem.run_bind,run_underlying' ht,Result.andThen_ok]
     rw[show Option.map ev none=none from rfl,this]
    ·refine Gives.eff hm ?_
     cases lo<;>cases hi<;>cases l<;>cases h<;>simp at b1 b2<;>simpa using this
   ·cases hx
  ·rename_i n e ht
   split at hx
   ·rename_i sz hsz
    cases hx
    obtain⟨i,h1,h2⟩:=szOf_ok hsz
    have hD':opSlicea look n sz l.isSome h.isSome m.isSome (a.ev G T) (l.toList.map (Opd.ev G T)++(h.toList.map (Opd.ev G T)++m.toList.map (Opd.ev G T)))=some D:=by
     have:execD site look (.slicea n sz a l h m) d ((XOp.slicea n sz a l h m).opds.map (Opd.ev G T))=some D:=hD
     simp only[execD,XOp.opds,List.map_cons,List.map_append,x1,List.getD_cons_zero,List.drop_succ_cons,List.drop_zero,List.append_assoc]at this
     exact this
    have hX':=hev _ _ hX
    unfold opSlicea at hD'
    split at hD'
    ·rename_i id off hav
     rw[hav]at hX'
     split at hD'
     ·rename_i k hk
      simp only[cond_eq_ite]at hD'
      split at hD'
      ·rename_i hbx0
       generalize hEv:ev X=xv at hX' hrun
       cases hX' with
       |imm _ _ hi=>cases hi
       |ptr _ _ b ob hb hh hbx=>
        obtain⟨l',h',m',e1,e2,e3,e4,e5,e6,e7⟩:=opWin_run (P:=P) hrs (by cases l<;>cases h<;>cases m<;>rfl) (Nat.le_refl n) hD' hc false
        have hbounds:(Instr.sliceBounds false n n (lo.map ev) (hi.map ev) (mx.map ev)).run P w=.ok (l',h',m') w:=by
         cases lo<;>cases hi<;>cases mx<;>cases l<;>cases h<;>cases m<;>simp at b1 b2 b3<;>simpa using e1
        refine OpOk.eff hrun (Eff.pure hm (x:=.slice (some ⟨b,off+l'*sz,none⟩) (h'-l') (m'-l')) ?_ e6 ?_)
        ·simp only[Instr.sliceAt,Sem.run_bind,run_underlying' ht,Result.andThen_ok,Instr.sureAddr,Sem.run_pure,hbounds,run_sizeOf' h1,h2]
         rw[win_addr e5]
        ·rw[e4];exact .sl id _ _ _ b k hb (hl _ _ hk) hbx0 (by omega)
      ·cases hD'
     ·cases hD'
    ·rename_i c hav
     rw[hav]at hX'
     split at hD'
     ·rename_i z1 z2 z3
      have hmx0:mx=none:=by cases mx<;>simp_all
      have hhi0:hi=none:=by cases hi<;>simp_all
      have hlo0:lo=none:=by cases lo<;>simp_all
      subst hmx0 hhi0 hlo0
      generalize hEv:ev X=xv at hX' hrun
      cases hX' with
      |imm _ _ hi'=>cases hi' with
       |iptr _ b o xs hF hc' hr ho'=>
        refine OpOk.eff hrun (Eff.val hm hD' (x:=.slice (some ⟨b,o,none⟩) n n) ?_ (.imm _ _ (.imm c n (some n) b o n xs hF hc' hr ho' (Nat.le_refl _) (fun _ e=>Option.some.inj e))))
        simp only[Instr.sliceAt,Sem.run_bind,run_underlying' ht,Result.andThen_ok,Instr.sureAddr,Sem.run_pure,Instr.sliceBounds,Option.map_none,run_sizeOf' h1,h2]
        simp[Addr.add]
     ·cases hD'
    ·cases hD'
   ·cases hx
  ·cases hx
 ·cases hx

theorem allSz_ok:∀{l:List Field},allSz P l=true→∀f∈l,∃n,szOf P f.type=some n
 |[],_,f,h=>by simp at h
 |g::r,ha,f,h=>by
  simp only[allSz,Bool.and_eq_true]at ha
  rcases List.mem_cons.1 h with rfl|h
  ·exact Option.isSome_iff_exists.1 ha.1
  ·exact allSz_ok ha.2 f h

theorem buildPs_ok (hev:EvOk G F ρ H w T ev){place:Nat→Option (Nat×Nat)}:∀{ps:List (Nat×Operand)} {l:List (Nat×Nat×Opd)},compBuildPs P place ps=some l→
  (ps.map (·.1)).map place=(l.map fun p=>(p.1,p.2.1)).map some∧RelVs w F ρ H ((l.map (·.2.2)).map (Opd.ev G T)) (ps.map fun p=>ev p.2)
 |[],l,h=>by cases h;exact⟨rfl,.nil⟩
 |(i,X)::r,l,h=>by
  simp only[compBuildPs]at h
  split at h
  ·rename_i off sz a l' h1 h2 h3
   cases h
   obtain⟨g1,g2⟩:=buildPs_ok hev h3
   exact⟨by simp[h1,g1],.cons _ _ _ _ (hev _ _ h2) g2⟩
  ·cases h

theorem zip_map_eq {α β γ:Type}(f:α→β)(g:α→γ):∀(l:List α),(l.map f).zip (l.map g)=l.map fun a=>(f a,g a)
 |[]=>rfl
 |a::r=>by simp[zip_map_eq f g r]

theorem step_build {t:TypeId}{ps:Array (Nat×Operand)}(ho:o.op=.build t ps){x:XOp}(hx:compBuild P t ps.toList=some x)(hm:MRel G F ρ H w)(hev:EvOk G F ρ H w T ev){site:Nat}{d:Dir}
  (hD:execD site look x d (x.opds.map (Opd.ev G T))=some D):OpOk P o ev w (KD G F ρ H w D):=by
 have hrun:(execOp ev o).run P w=((Instr.build t (ps.map fun(i,x)=>(i,ev x))).run P w).andThen fun v w'=>.ok (.value v) w':=by
  unfold execOp
  rw[ho]
  simp only[run_value]
 have hparts:(ps.map fun(i,x)=>(i,ev x)).toList=(ps.toList.map (·.1)).zip (ps.toList.map fun p=>ev p.2):=by
  rw[zip_map_eq];simp
 have go:∀(z:List AV) (l:List (Nat×Nat×Opd)) (place:Nat→Option (Nat×Nat)) (v:Value),RelVs w F ρ H z v.cells.toList→compBuildPs P place ps.toList=some l→
   execD site look (.build z l) d ((XOp.build z l).opds.map (Opd.ev G T))=some D→(∀cs,Instr.fill place v.cells (ps.map fun(i,x)=>(i,ev x)).toList=some cs→(Instr.build t (ps.map fun(i,x)=>(i,ev x))).run P w=.ok (.agg cs) w)→
   OpOk P o ev w (KD G F ρ H w D):=by
  intro z l place v hz hl hD hfin
  obtain⟨g1,g2⟩:=buildPs_ok hev hl
  simp only[execD,XOp.opds,opBuild]at hD
  split at hD
  ·rename_i l' hfill
   obtain⟨cs,q1,q2⟩:=fill_rel g1 g2 hz hfill
   rw[← hparts]at q1
   exact OpOk.eff hrun (Eff.val hm hD (hfin cs q1) (.agg _ _ q2))
  ·cases hD
 unfold compBuild at hx
 split at hx
 ·rename_i z fs hz ht
  simp only[cond_eq_ite]at hx
  split at hx
  ·rename_i hall
   split at hx
   ·rename_i l hl
    cases hx
    obtain⟨i,v,h1,h2,h3,h4,h5,h6⟩:=zeroOf_ok (w:=w) hz
    refine go z l (fieldPl P fs) v (h5 w F).toVs hl hD (fun cs hfill=>?_)
    have hplaces:(fs.mapM fun f=>do pure (f.offset,← sizeOf f.type):Sem (Array (Nat×Nat))).run P w=.ok (fs.map fun f=>(f.offset,(szOf P f.type).getD 0)) w:=by
     rw[Array.mapM_eq_mapM_toList]
     have key:∀(l:List Field),(∀f∈l,∃n,szOf P f.type=some n)→(l.mapM fun f=>do pure (f.offset,← sizeOf f.type):Sem (List (Nat×Nat))).run P w=.ok (l.map fun f=>(f.offset,(szOf P f.type).getD 0)) w:=by
      intro l
      induction l with
      |nil=>intro _;simp
      |cons f r ih=>
       intro hf
       obtain⟨n,hn⟩:=hf f (by simp)
       obtain⟨i,p1,p2⟩:=szOf_ok hn
       simp only[List.mapM_cons,Sem.run_bind,run_sizeOf' p1,Result.andThen_ok,Sem.run_pure,ih (fun g hg=>hf g (by simp[hg])),List.map_cons,hn,Option.getD_some,p2]
     simp only[Sem.run_map,key fs.toList (fun f hf=>allSz_ok hall f hf),Result.andThen_ok]
     congr 1
     apply Array.toList_inj.1;simp
    have hpl:(fun i=>(fs.map fun f=>(f.offset,(szOf P f.type).getD 0))[i]?)=fieldPl P fs:=by
     funext i
     unfold fieldPl
     cases hfi:fs[i]? with
     |none=>simp[hfi]
     |some f=>
      have hmem:f∈fs.toList:=by
       have:=Array.mem_of_getElem? hfi
       simpa using this
      obtain⟨n,hn⟩:=allSz_ok hall f hmem
      simp[hfi,hn]
    simp only[Instr.build,Sem.run_bind,h6,Result.andThen_ok,run_underlying' ht,hplaces]
    rw[hpl,hfill]
    rfl
   ·cases hx
  ·cases hx
 ·rename_i z n e hz ht
  split at hx
  ·rename_i sz hsz
   split at hx
   ·rename_i l hl
    cases hx
    obtain⟨i,v,h1,h2,h3,h4,h5,h6⟩:=zeroOf_ok (w:=w) hz
    obtain⟨ie,p1,p2⟩:=szOf_ok hsz
    refine go z l _ v (h5 w F).toVs hl hD (fun cs hfill=>?_)
    simp only[Instr.build,Sem.run_bind,h6,Result.andThen_ok,run_underlying' ht,run_sizeOf' p1,p2]
    rw[hfill]
    rfl
   ·cases hx
  ·cases hx
 ·cases hx

theorem fill_one:∀{place:Nat→Option (Nat×Nat)} {l:List (Nat×Value)} {zs cs:Array Value},Instr.fill place zs l=some cs→(∀u∈zs.toList,u.oneCell'=true)→(∀p∈l,∀u∈p.2.cells.toList,u.oneCell'=true)→∀u∈cs.toList,u.oneCell'=true
 |place,[],zs,cs,h,hz,hl,u,hu=>by cases h;exact hz u hu
 |place,(i,v)::r,zs,cs,h,hz,hl,u,hu=>by
  simp only[Instr.fill]at h
  split at h
  ·cases h
  ·rename_i off size hp
   split at h
   ·cases h
   ·refine fill_one h ?_ (fun p hp=>hl p (by simp[hp])) u hu
    have hv:=hl (i,v) (by simp)
    have key:∀(ys:List Value) (j:Nat) (zs:Array Value),(∀u∈ys,u.oneCell'=true)→(∀u∈zs.toList,u.oneCell'=true)→∀u∈((ys.zipIdx j).foldl (fun cs (c,j)=>cs.setIfInBounds (off+j) c) zs).toList,u.oneCell'=true:=by
     intro ys
     induction ys with
     |nil=>intro j zs _ h2 u hu;exact h2 u hu
     |cons y ys ih=>
      intro j zs h1 h2 u hu
      simp only[List.zipIdx_cons,List.foldl_cons]at hu
      refine ih (j+1) _ (fun q hq=>h1 q (by simp[hq])) ?_ u hu
      intro q hq
      rw[Array.toList_setIfInBounds]at hq
      rcases List.mem_or_eq_of_mem_set hq with hq|rfl
      ·exact h2 q hq
      ·exact h1 _ (by simp)
    have:=key v.cells.toList 0 zs hv hz
    rw[← Array.foldl_toList,Array.toList_zipIdx]
    exact this

theorem allFill_cells:∀{vs:List AV},allFill vs=true→∀v∈vs,allCell v.cs=true
 |[],_,v,hv=>by simp at hv
 |u::r,h,v,hv=>by
  simp only[allFill,Bool.and_eq_true]at h
  rcases List.mem_cons.1 hv with rfl|hv
  ·exact h.1
  ·exact allFill_cells h.2 v hv

theorem RelVs.getVal:∀{l:List AV} {xs:List Value},RelVs w F ρ H l xs→∀{j:Nat} {x:Value},xs[j]? =some x→∃v,l[j]? =some v∧RelV w F ρ H v x
 |_,_,.nil,j,x,h=>by simp at h
 |_,_,.cons u l y ys hv hs,j,x,h=>by
  cases j with
  |zero=>simp at h;subst h;exact⟨u,by simp,hv⟩
  |succ j=>obtain⟨v,h1,h2⟩:=hs.getVal (by simpa using h);exact⟨v,by simpa using h1,h2⟩

theorem repL_mem {α:Type}{l:List α}{u:α}:∀{n:Nat},u∈repL l n→u∈l
 |0,h=>by simp[repL]at h
 |n+1,h=>by
  simp only[repL,List.mem_append]at h
  rcases h with h|h
  ·exact h
  ·exact repL_mem h

theorem run_buildSlice {t e:TypeId}{len:Nat}{parts:Array (Nat×Value)}{i:TypeInfo}{v:Value}{zs cs:Array Value}(ht:P.underlying t=some (.slice e))(h1:P.info? e=some i)(hz:i.zero=some v)
  (hnot:¬ (len*i.size>2 ^ 24)) (hzs:zs=(Array.range (len*i.size)).map (fun j=>v.cells[j%v.cells.size]!)) (hfill:Instr.fill (fun j=>some (j*i.size,i.size)) zs parts.toList=some cs):
  (Instr.buildSlice t len parts).run P w=((newRow e cs).run P w).andThen fun a w'=>.ok (.slice (some a) len len) w':=by
 have hzv:(zeroValue e).run P w=.ok v w:=by simp[zeroValue,typeInfo,h1,hz]
 unfold Instr.buildSlice
 rw[Sem.run_bind,run_underlying' ht,Result.andThen_ok]
 simp only
 rw[Sem.run_bind,run_sizeOf' h1,Result.andThen_ok,if_neg hnot]
 by_cases h0:len*i.size=0
 ·have hz0:zs= #[]:=by rw[hzs,h0];simp
  rw[if_pos h0,Sem.run_bind,Sem.run_pure,Result.andThen_ok]
  have e1:(Array.range (len*i.size)).map (fun x=>(#[]:Array Value)[x%(#[]:Array Value).size]!)=zs:=by rw[hz0,h0];simp
  rw[e1,hfill]
  simp only[Sem.run_bind,newRow,run_newObj,Sem.run_pure,Result.andThen_ok]
 ·rw[if_neg h0]
  simp only[Sem.run_bind,hzv,Result.andThen_ok,Sem.run_pure]
  rw[← hzs,hfill]
  simp only[Sem.run_bind,newRow,run_newObj,Sem.run_pure,Result.andThen_ok]

set_option maxHeartbeats 1600000 in
theorem step_buildS {t:TypeId}{len:Nat}{ps:Array (Nat×Operand)}(ho:o.op=.buildSlice t len ps){x:XOp}(hx:compBuildS P t len ps.toList=some x)(hm:MRel G F ρ H w)(hev:EvOk G F ρ H w T ev){site:Nat}{d:Dir}
  (hD:execD site look x d (x.opds.map (Opd.ev G T))=some D) (hfresh:∀i,i∈D.al→H i=none):OpOk P o ev w (KD G F ρ H w D):=by
 have hrun:(execOp ev o).run P w=((Instr.buildSlice t len (ps.map fun(i,x)=>(i,ev x))).run P w).andThen fun v w'=>.ok (.value v) w':=by
  unfold execOp
  rw[ho]
  simp only[run_value]
 have hparts:(ps.map fun(i,x)=>(i,ev x)).toList=(ps.toList.map (·.1)).zip (ps.toList.map fun p=>ev p.2):=by
  rw[zip_map_eq];simp
 unfold compBuildS at hx
 split at hx
 ·rename_i e ht
  split at hx
  ·rename_i sz by_ z hel
   obtain⟨hEl,hz⟩:=elOf_ok hel
   obtain⟨i,v,h1,h2,h3,h4,h5,h6⟩:=zeroOf_ok (w:=w) hz
   obtain⟨i',v',q1,q2,q3,q4,q5⟩:=hEl.inf
   rw[h1]at q1;cases q1
   rw[h2]at q4;cases q4
   subst q2
   simp only[cond_eq_ite]at hx
   split at hx
   ·rename_i hcond
    simp only[Bool.and_eq_true,Bool.not_eq_true']at hcond
    have hle:len*i.size≤16777216:=by simpa[len']using hcond.1
    have hsz0:i.size≠0:=fun e=>by rw[e]at hcond;simp at hcond
    split at hx
    ·rename_i l hl
     cases hx
     obtain⟨g1,g2⟩:=buildPs_ok hev hl
     simp only[execD,XOp.opds,opBuildQ]at hD
     split at hD
     case h_2=>cases hD
     rename_i D0 hD0
     simp only[opBuildS,cond_eq_ite]at hD0
     split at hD0
     ·rename_i hallc
      split at hD0
      ·rename_i l' hfill
       split at hD0
       ·rename_i c hcont
        cases hD0
        have hvsz:v.cells.size=i.size:=h3
        let zs:Array Value:=(Array.range (len*i.size)).map fun i=>v.cells[i%v.cells.size]!
        have hzs:zs.toList=repL v.cells.toList len:=by
         have:=rep_eq v.cells len (by omega)
         rw[hvsz]at this
         simp only[zs,hvsz]
         exact this
        have hrel:RelVs w F ρ H (repL z len) zs.toList:=by rw[hzs];exact repL_rel (h5 w F).toVs len
        obtain⟨cs,r1,r2⟩:=fill_rel g1 g2 hrel hfill
        have hlen':l'.length=len*i.size:=by
         rw[fillL_length hfill,repL_length]
         have:=(h5 w F).len
         rw[this];simp[hvsz]
        have hcs:cs.size=len*i.size:=by have:=r2.len;rw[hlen']at this;simpa using this.symm
        have hone:∀u∈cs.toList,u.oneCell'=true:=by
         refine fill_one r1 ?_ ?_
         ·intro u hu
          rw[hzs]at hu
          exact h4 u (repL_mem hu)
         ·intro p hp u hu
          rw[zip_map_eq]at hp
          obtain⟨q,hq,rfl⟩:=List.mem_map.1 hp
          obtain⟨j,hj,rfl⟩:=List.getElem_of_mem hq
          have hj':(ps.toList.map fun p=>ev p.2)[j]? =some (ev ps.toList[j].2):=by rw[List.getElem?_map,List.getElem?_eq_getElem hj];rfl
          obtain⟨vv,s1,s2⟩:=g2.getVal hj'
          have hc:=allFill_cells hallc vv (List.mem_of_getElem? s1)
          obtain⟨hmay,hund⟩:=allCell_cs hc
          exact(s2.csOf hmay hund).ones hc u hu
        obtain⟨⟨k1,k2⟩,k3⟩:=contOfS_spec (w:=w) (F:=F) (ρ:=ρ) (H:=H) hcont
        rw[← hparts]at r1
        have hinstr:=run_buildSlice (w:=w) (zs:=zs) (cs:=cs) (parts:=ps.map fun(i,x)=>(i,ev x)) ht h1 h2 (by omega) rfl r1
        refine OpOk.eff (r:=(Instr.buildSlice t len (ps.map fun(i,x)=>(i,ev x))).run P w) hrun ?_
        rw[hinstr]
        have hmx:len≤capMax:=by
         have h1:len*1≤len*i.size:=Nat.mul_le_mul_left _ (Nat.pos_of_ne_zero hsz0)
         have h2:16777216≤capMax:=by decide
         omega
        have hget:∀j,j<c.size→∃y,cs[j]? =some y∧RelE w F ρ H c j y:=fun j hj=>by
         have hj':j<l'.length:=by rw[← k1];exact hj
         obtain⟨y,p1,p2⟩:=r2.getD hj'
         exact⟨y,p1,k2 j y hj' p2 (hone y (List.mem_of_getElem? (l:=cs.toList) (i:=j) (by simpa using p1)))⟩
        unfold queD at hD
        split at hD
        ·have hD:queC site i.size c=some D:=hD
         unfold queC at hD
         split at hD
         ·rename_i kq lq hDq
          rw[cond_eq_ite]at hD
          split at hD
          ·rename_i hs1
           have hs1:i.size=1:=Nat.eq_of_beq_eq_true hs1
           cases hD
           have hll:lq.length=len:=by
            have:lq.length=l'.length:=k1
            rw[this,hlen',hs1,Nat.mul_one]
           refine laidQ_sound hm (hfresh site (by simp)) hll (fun j hj=>?_) (Nat.le_refl _) (by rw[hcs,hs1];omega) hmx
           obtain⟨y,y1,y2⟩:=hget j (by show j<lq.length;omega)
           have y2:=y2.1
           simp only[Cont.getV]at y2
           cases y2
           exact y1
          ·cases hD
         ·cases hD
        ·cases hD
         exact laidS_sound hm (hfresh site (by simp)) k3 (by rw[k1,hlen']) (by rw[k1,hlen',hcs];exact Nat.le_refl _) hget (Nat.le_refl _) (by rw[hcs];exact Nat.le_refl _) hmx
       ·cases hD0
      ·cases hD0
     ·cases hD0
    ·cases hx
   ·cases hx
  ·cases hx
 ·cases hx

end
end Go.Ab

/-
 One operation of the model, by its abstract effect: made slices, functions, calls, built-in functions; all of them.
-/
set_option linter.unusedVariables false
set_option linter.unusedSimpArgs false
namespace Go.Ab
open Go
section
variable {P:Program}{G:GL}{F:Nat→Prop}{ρ:Nat→Option Nat}{H:Nat→Option HO}{w:World}{look:Nat→Option HO}{D:Delta}{o:Oper}{ev:Operand→Value}{T:List (Nat×AV)}

theorem zeroC_spec {z c:Cont}{n:Nat}(h:zeroC z n=some c):c.size=n∧∀x,RelE w F ρ H z 0 x→∀i,i<n→RelE w F ρ H c i x:=by
 unfold zeroC at h
 split at h
 ·cases h
  refine⟨by simp[Cont.size],fun x hx i hi=>?_⟩
  simp only[RelE,Cont.getV,List.getD_cons_zero]at hx ⊢
  rw[List.getD_eq_getElem?_getD,List.getElem?_replicate,if_pos hi];exact hx
 ·cases h
  refine⟨by simp[Cont.size],fun x hx i hi=>?_⟩
  simp only[RelE,Cont.getV,List.getD_cons_zero]at hx ⊢
  rw[List.getD_eq_getElem?_getD,List.getElem?_replicate,if_pos hi];exact hx
 ·cases h
  refine⟨by simp[Cont.size],fun x hx i hi=>?_⟩
  simp only[RelE,Cont.getV,List.getD_cons_zero]at hx ⊢
  rw[List.getD_eq_getElem?_getD,List.getElem?_replicate,if_pos hi];exact hx
 ·cases h
  refine⟨by simp[Cont.size],fun x hx i hi=>?_⟩
  simp only[RelE,List.getD_cons_zero]at hx ⊢
  rw[List.getD_eq_getElem?_getD,List.getElem?_replicate,if_pos hi];exact hx
 ·cases h

theorem inR_of {n:Nat}(h:n≤140737488355328):inR .i64 (n:Int)=true:=by
 have h1:IntKind.i64.min= -9223372036854775808:=by decide
 have h2:IntKind.i64.max=9223372036854775807:=by decide
 simp only[inR,decide_eq_true_eq];omega

theorem RelIs.getI:∀{l:List AV} {xs:List Value},RelIs w F l xs→∀{j:Nat} {v:AV},l[j]? =some v→∃x,xs[j]? =some x∧RelI w F v x
 |_,_,.nil,j,v,h=>by simp at h
 |_,_,.cons u l y ys hv hs,j,v,h=>by
  cases j with
  |zero=>simp at h;subst h;exact⟨y,by simp,hv⟩
  |succ j=>obtain⟨x,h1,h2⟩:=hs.getI (by simpa using h);exact⟨x,by simpa using h1,h2⟩
theorem run_makeSliceW {t e:TypeId}{i:TypeInfo}{z:Value}{k k':IntKind}{l c:Nat}(ht:P.underlying t=some (.slice e))(h1:P.info? e=some i)(hz:i.zero=some z)(hzs:z.cells.size=i.size)(hb:i.bytes≠0)
  (hlc:l≤c) (hcb:c*i.bytes≤roomMax):
  (Instr.makeSlice t (.int k l) (.int k' c)).run P w=((newRow e ((Array.range (c*i.size)).map (fun j=>z.cells[j%i.size]!))).run P w).andThen fun a w'=>.ok (.slice (some a) l c) w':=by
 have hcb:c*i.bytes≤140737488355328:=hcb
 have hc:c≤140737488355328:=by
  have:c*1≤c*i.bytes:=Nat.mul_le_mul_left _ (Nat.pos_of_ne_zero hb)
  omega
 have wl:IntKind.i64.wrap (l:Int)=l:=wrap_inR (inR_of (by omega))
 have wc:IntKind.i64.wrap (c:Int)=c:=wrap_inR (inR_of hc)
 have hzv:(zeroValue e).run P w=.ok z w:=by simp[zeroValue,typeInfo,h1,hz]
 have hti:(typeInfo e).run P w=.ok i w:=by simp[typeInfo,h1]
 have hnot:¬ ((i.bytes:Int)*(c:Int)>2 ^ 48):=by
  have h:(i.bytes:Int)*(c:Int)=((c*i.bytes:Nat):Int):=by rw[Nat.mul_comm,Int.natCast_mul]
  rw[h]
  omega
 have hcond:(decide ((c:Int)<0)||decide ((i.bytes:Int)*(c:Int)>2 ^ 48))=false:=by
  rw[decide_eq_false hnot,decide_eq_false (by omega)];rfl
 have hai:∀(k:IntKind) (n:Nat),(asIntOf (.int k (n:Int))).run P w=.ok (k,(n:Int)) w:=fun _ _=>rfl
 have hB:((decide ((c:Int)<0)||decide ((i.bytes:Int)*(c:Int)>2 ^ 48))||decide ((l:Int)<0)||decide ((l:Int)>c))=false:=by
  rw[hcond,decide_eq_false (by omega:¬ ((l:Int)<0)),decide_eq_false (by omega:¬ ((l:Int)>c))];rfl
 have hsz:(sizeOf e).run P w=.ok i.size w:=run_sizeOf' h1
 unfold Instr.makeSlice
 rw[Sem.run_bind,run_underlying' ht,Result.andThen_ok]
 simp only[asInt,Sem.run_bind,hai,Sem.run_pure,Result.andThen_ok,hti,wl,wc,hB,Bool.false_eq_true,if_false,run_askRoom,hsz,Int.toNat_natCast]
 by_cases h0:c*i.size=0
 ·rw[if_pos h0,h0]
  have e0:∀f:Nat→Value,(Array.range 0).map f= #[]:=fun f=>by simp
  simp only[Sem.run_bind,Sem.run_pure,Result.andThen_ok,e0,newRow,run_newObj]
 ·rw[if_neg h0]
  simp only[Sem.run_bind,hzv,Sem.run_pure,Result.andThen_ok,hzs]
theorem zeroC_nmap {z c:Cont}{n:Nat}(h:zeroC z n=some c):c.isMap=false:=by
 unfold zeroC at h
 split at h<;>cases h<;>rfl
theorem zeroW_spec (d:Dir)(z:List AV)(n:Nat)(hz:0<z.length):(zeroW d z n).size=n*z.length∧(zeroW d z n).isMap=false∧∀i x,i<n*z.length→RelI w F (z.getD (i%z.length) .undef) x→x.oneCell'=true→RelE w F ρ H (zeroW d z n) i x:=by
 have hg:∀i,i<n*z.length→(repL z n).getD i .undef=z.getD (i%z.length) .undef:=fun i hi=>by
  have:=repL_get z.toArray (by simpa using hz) n i (by simpa using hi)
  change (repL z n)[i]? =some z.toArray[i%z.length]! at this
  have hlt:i%z.length<z.length:=Nat.mod_lt _ hz
  simp only[List.getD_eq_getElem?_getD]
  rw[this]
  simp[hlt]
 unfold zeroW
 cases zeroB d z
 ·refine⟨by simp[Cont.size,repL_length],rfl,fun i x hi hx h1=>⟨?_,h1⟩⟩
  simp only[cond_false]
  rw[hg i hi];exact hx.toV
 ·refine⟨by simp[Cont.size,repL_length],rfl,fun i x hi hx h1=>⟨?_,h1⟩⟩
  simp only[cond_true,Cont.getV]
  rw[hg i hi];exact hx

theorem step_mks {t:TypeId}{L C:Operand}(ho:o.op=.makeSlice t L C){x:XOp}(hx:compMks P t L C=some x)(hm:MRel G F ρ H w)(hev:EvOk G F ρ H w T ev){site:Nat}{d:Dir}
  (hD:execD site look x d (x.opds.map (Opd.ev G T))=some D) (hc:AllC (SpecQ P G) D.cs) (hfresh:∀i,i∈D.al→H i=none):OpOk P o ev w (KD G F ρ H w D):=by
 unfold compMks at hx
 split at hx
 ·rename_i e a b ht hL hC
  split at hx
  ·rename_i sz by_ z hel
   obtain⟨hEl,hz⟩:=elOf_ok hel
   obtain⟨i,v,h1,h2,h3,h4,h5,h6⟩:=zeroOf_ok (w:=w) hz
   obtain⟨i',v',q1,q2,q3,q4,q5⟩:=hEl.inf
   rw[h1]at q1;cases q1
   rw[h2]at q4;cases q4
   cases hx
   simp only[execD,XOp.opds,List.map_cons,List.map_nil,x1,x2,List.getD_cons_zero,List.getD_cons_succ]at hD
   unfold opMks at hD
   split at hD
   ·rename_i kl l kc c e1 e2
    split at hD
    ·rename_i zs hzs
     cases hD
     have hx:=hev _ _ hL
     have hy:=hev _ _ hC
     rw[e1]at hx
     rw[e2]at hy
     have hx:=hx.ints
     have hy:=hy.ints
     simp only[AllC,Cd.holds,leb,decide_eq_true_eq]at hc
     obtain⟨c1,c2,c3,_⟩:=hc
     obtain⟨n,rfl⟩:∃n:Nat,l=n:=⟨l.toNat,(Int.toNat_of_nonneg c1).symm⟩
     obtain⟨m,rfl⟩:∃m:Nat,c=m:=⟨c.toNat,(Int.toNat_of_nonneg (by omega)).symm⟩
     have hle:n≤m:=by omega
     have hroom:m*i.bytes≤roomMax:=by
      rw[q3]
      have:((m*by_:Nat):Int)≤((roomMax:Nat):Int):=by rw[Int.natCast_mul];exact c3
      exact Int.ofNat_le.1 this
     have hrun:(execOp ev o).run P w=((Instr.makeSlice t (ev L) (ev C)).run P w).andThen fun v w'=>.ok (.value v) w':=by
      unfold execOp
      rw[ho]
      simp only[run_value]
     refine OpOk.eff hrun ?_
     rw[hx,hy,run_makeSliceW ht h1 h2 h3 (by rw[q3];exact hEl.pos) hle hroom,q2]
     have hlen:z.length=sz:=by have:=(h5 w F).toVs (ρ:=ρ) (h:=H) |>.len;simp[q5]at this;exact this
     have hfs:H site=none:=hfresh site (by simp)
     have hget:∀j,j<sz→∃y,v.cells[j]! =y∧z[j]? =some (z.getD j .undef)∧RelI w F (z.getD j .undef) y∧y.oneCell'=true:=fun j hj=>by
      have hj':z[j]? =some (z.getD j .undef):=by simp[List.getD_eq_getElem?_getD,List.getElem?_eq_getElem (by omega:j<z.length)]
      obtain⟨y,p1,p2⟩:=(h5 w F).getI hj'
      have py:v.cells[j]! =y:=by
       have:v.cells[j]? =some y:=by simpa using p1
       simp only[getElem!_def,this]
      exact⟨y,py,hj',p2,h4 y (List.mem_of_getElem? p1)⟩
     have hcl:zs.size=n*sz∧zs.isMap=false∧∀j,j<n*sz→RelE w F ρ H zs j (v.cells[j%sz]!):=by
      simp only[Int.toNat_natCast]at hzs
      split at hzs
      ·split at hzs
       ·rename_i zc hzc
        obtain⟨k1,k2⟩:=contOf_spec (w:=w) (F:=F) (ρ:=ρ) (H:=H) hzc
        obtain⟨r1,r2⟩:=zeroC_spec (w:=w) (F:=F) (ρ:=ρ) (H:=H) hzs
        simp only[mz]at r1 r2
        obtain⟨y,p0,p1,p2,p3⟩:=hget 0 (by omega)
        refine⟨by rw[r1,Nat.mul_one],zeroC_nmap hzs,fun j hj=>?_⟩
        rw[Nat.mod_one,p0]
        have hE:=k2 0 y (by omega) p2.toV p3
        exact r2 y hE j (by omega)
       ·cases hzs
      ·rw[cond_eq_ite]at hzs
       split at hzs
       ·cases hzs
        rcases Nat.eq_zero_or_pos sz with h0|h0
        ·have hz0:z=[]:=List.length_eq_zero_iff.1 (by omega)
         refine⟨?_,?_,fun j hj=>by simp[h0]at hj⟩
         ·rw[h0,hz0];unfold zeroW;cases zeroB d []<;>simp[Cont.size,repL_length]
         ·unfold zeroW;cases zeroB d z<;>rfl
        ·obtain⟨r1,r2,r3⟩:=zeroW_spec (w:=w) (F:=F) (ρ:=ρ) (H:=H) d z n (by omega)
         rw[hlen]at r1 r3
         refine⟨r1,r2,fun j hj=>?_⟩
         obtain⟨y,p0,p1,p2,p3⟩:=hget (j%sz) (Nat.mod_lt _ h0)
         rw[p0]
         exact r3 j y hj p2 p3
       ·cases hzs
     obtain⟨r1,r2,r3⟩:=hcl
     refine laidS_sound hm hfs r2 r1 (by rw[r1];simp;exact Nat.mul_le_mul_right _ hle) (fun j hj=>?_) hle (by simp) (by
      have h1:m*1≤m*i.bytes:=Nat.mul_le_mul_left _ (by rw[q3];exact Nat.pos_of_ne_zero hEl.pos)
      have:roomMax≤capMax:=by decide
      omega)
     rw[r1]at hj
     refine⟨v.cells[j%sz]!,?_,r3 j hj⟩
     have hj':j<m*sz:=Nat.lt_of_lt_of_le hj (Nat.mul_le_mul_right _ hle)
     simp[hj']
    ·cases hD
   ·cases hD
  ·cases hx
 ·cases hx

end
end Go.Ab

/-
 Bytes made a string; ranges over strings.
-/
set_option linter.unusedVariables false
set_option linter.unusedSimpArgs false
namespace Go.Ab
open Go
section
variable {P:Program}{G:GL}{F:Nat→Prop}{ρ:Nat→Option Nat}{H:Nat→Option HO}{w:World}{look:Nat→Option HO}{D:Delta}{o:Oper}{ev:Operand→Value}{T:List (Nat×AV)}{Sp:SpT}

theorem beqK_ok0 {k k':IntKind}(h:beqK k k'=true):k=k':=of_decide_eq_true h
theorem foldl_push (l:List Int):∀(acc:ByteArray),(l.foldl (fun r n=>r.push (UInt8.ofNat n.toNat)) acc).data.toList=acc.data.toList++bytesI l:=by
 induction l with
 |nil=>intro acc;simp[bytesI]
 |cons n r ih=>
  intro acc
  rw[List.foldl_cons,ih]
  simp[bytesI,ByteArray.push]

theorem opBstr_sound (hm:MRel G F ρ H w)(hl:∀id o,look id=some o→H id=some o){v:AV}{x:Value}(hx:RelV w F ρ H v x)(hD:opBstr look v=some D)(hc:AllC Sp D.cs):Gives F ρ H w ((Conv.bytesToString x).run P w) D:=by
 unfold opBstr at hD
 split at hD
 ·cases hx with
  |imm _ _ hi=>
   cases hi
   exact Gives.val (x:=.string .empty) hD (by simp[Conv.bytesToString]) (.imm _ _ (.str _ _ rfl))
 ·split at hD
  ·rename_i k l m cs hs
   rw[cond_eq_ite]at hD
   split at hD
   ·rename_i hk
    have hk:=beqK_ok0 hk
    subst hk
    have hcs:=val_cs hD
    rw[hcs]at hc
    obtain⟨a,cap,cells,e1,e2,e3,e4,e5,e6⟩:=src_sound hm hl hs hc hx
    have hlen:cells.length=l.length:=by rw[e3,← e2];rfl
    have hcells:cells=l.map (Value.int .u8):=by
     apply List.ext_getElem
     ·simpa using hlen
     ·intro i h1 h2
      have h3:=(e6 i cells[i] (List.getElem?_eq_getElem h1)).1
      have h4:i<l.length:=by omega
      simp only[Cont.getV]at h3
      rw[List.getD_eq_getElem?_getD,List.getElem?_eq_getElem h4,Option.getD_some]at h3
      have h5:cells[i]=Value.int .u8 l[i]:=by
       generalize cells[i]=y at h3
       cases h3;rfl
      simp[h5]
    subst e1
    cases a with
    |none=>
     have hm0:=e4 rfl
     subst hm0
     have:l=[]:=by
      have:l.length=0:=by rw[← hlen,e3]
      exact List.length_eq_zero_iff.1 this
     subst this
     exact Gives.val (x:=.string .empty) hD (by simp[Conv.bytesToString]) (.imm _ _ (.str _ _ rfl))
    |some b=>
     have hrun:(loadCells b m).run P w=.ok (l.map (Value.int .u8)).toArray w:=by
      have:=run_loadCells_list (P:=P) (w:=w) b cells (e5 b rfl)
      rw[e3,Nat.mul_one]at this
      rw[this,hcells]
     refine Gives.val hD (run_bytesToString w b m cap l hrun) (.imm _ _ (.str _ _ ?_))
     rw[foldl_push];simp
   ·cases hD
  ·cases hD

theorem step_bstr {src dst:TypeId}{X:Operand}(ho:o.op=.convert src dst X){x:XOp}(hx:compBstr P src dst X=some x)(hm:MRel G F ρ H w)(hl:∀id o,look id=some o→H id=some o)(hev:EvOk G F ρ H w T ev){site:Nat}{d:Dir}
  (hD:execD site look x d (x.opds.map (Opd.ev G T))=some D) (hc:AllC (SpecQ P G) D.cs):OpOk P o ev w (KD G F ρ H w D):=by
 unfold compBstr at hx
 split at hx
 ·rename_i e a h1 h2 hX
  split at hx
  ·rename_i h3
   cases hx
   refine OpOk.eff (r:=(convert src dst (ev X)).run P w) ?_ ?_
   ·unfold execOp
    rw[ho]
    simp only[run_value]
   ·have hv:=hev _ _ hX
    have hD:opBstr look (a.ev G T)=some D:=hD
    have hcv:∀y:Value,(∃b l c,y=.slice b l c)→(convert src dst y).run P w=(Conv.bytesToString y).run P w:=by
     rintro y ⟨b,l,c,rfl⟩
     simp only[convert,Sem.run_bind,underlying,run_program,Result.andThen_ok,h1,h2,h3,Sem.run_pure]
    have hsl:∃b l c,ev X=.slice b l c:=by
     unfold opBstr at hD
     split at hD
     ·rename_i e1
      rw[e1]at hv
      generalize ev X=y at hv
      cases hv with
      |imm _ _ hi=>cases hi;exact⟨_,_,_,rfl⟩
     ·split at hD
      ·rename_i k l m cs hs
       rw[cond_eq_ite]at hD
       split at hD
       ·have hcs:=val_cs hD
        rw[hcs]at hc
        obtain⟨b,cap,cells,e1,_⟩:=src_sound hm hl hs hc hv
        exact⟨_,_,_,e1⟩
       ·cases hD
      ·cases hD
    rw[hcv _ hsl]
    exact(opBstr_sound hm hl hv hD hc).eff hm
  ·cases hx
 ·rename_i k a h1 h2 hX
  cases hx
  refine OpOk.eff (r:=(convert src dst (ev X)).run P w) ?_ ?_
  ·unfold execOp
   rw[ho]
   simp only[run_value]
  ·have hv:=hev _ _ hX
   have hD:opRstr (a.ev G T)=some D:=hD
   unfold opRstr at hD
   split at hD
   ·rename_i k' n e1
    rw[e1]at hv
    have hi:=hv.ints
    rw[hi]
    refine Eff.val hm hD (x:=.string (Utf8.encode n)) ?_ (.imm _ _ (.str _ _ rfl))
    simp only[convert,Sem.run_bind,underlying,run_program,Result.andThen_ok,h1,h2,Sem.run_pure,Conv.intToString]
   ·cases hD
 ·cases hx

theorem step_rng {t:TypeId}{X:Operand}(ho:o.op=.range t X){a:Opd}(hX:compX X=some a)(ht:P.underlying t=some .string)(hm:MRel G F ρ H w)(hev:EvOk G F ρ H w T ev){site:Nat}{d:Dir}
  (hD:execD site look (.rng a) d [a.ev G T]=some D) (hfresh:∀i,i∈D.al→H i=none):OpOk P o ev w (KD G F ρ H w D):=by
 have hv:=hev _ _ hX
 have hD:opRng site (a.ev G T)=some D:=hD
 unfold opRng at hD
 split at hD
 ·rename_i s e1
  cases hD
  rw[e1]at hv
  obtain⟨bs,hbs,hs⟩:=hv.strs
  have hrun:(execOp ev o).run P w=(Result.ok (Value.pointer (some ⟨w.heap.size,0,none⟩)) {w with heap:=w.heap.push (.stringIter bs 0)}).andThen fun v w'=>.ok (.value v) w':=by
   unfold execOp
   rw[ho]
   simp only[run_value,Instr.range,Sem.run_bind,underlying,run_program,Result.andThen_ok,ht,hbs,Sem.run_pure,run_newObj]
  obtain⟨ρ',m1,x1,k1,h1,h2⟩:=hm.alloc (w':={w with heap:=w.heap.push (.stringIter bs 0)}) (site:=site) (o:=.iter s 0) (hfresh site (by simp)) rfl ⟨rfl,rfl,fun _=>⟨rfl,Nat.le_refl _⟩⟩ (fun ρ' H' hk hsite=>
   ⟨w.heap.size,hsite,fun hF=>by have:=hm.frz _ hF;omega,bs,hs,push_new rfl⟩)
  exact OpOk.eff hrun ⟨_,_,F,ρ',rfl,m1,x1,k1,.ptr site 0 w.heap.size (.iter s 0) h1 (upd_same _ _ _) rfl⟩
 ·cases hD

theorem step_nxt {X:Operand}(ho:o.op=.next X true){a:Opd}(hX:compX X=some a)(hm:MRel G F ρ H w)(hl:∀id o,look id=some o→H id=some o)(hev:EvOk G F ρ H w T ev){site:Nat}{d:Dir}
  (hD:execD site look (.nxt a) d [a.ev G T]=some D) (hc:AllC (SpecQ P G) D.cs):OpOk P o ev w (KD G F ρ H w D):=by
 have hv:=hev _ _ hX
 have hD:opNxt look d (a.ev G T)=some D:=hD
 unfold opNxt at hD
 split at hD
 ·rename_i id e1
  split at hD
  ·rename_i s pos hlk
   have hH:=hl _ _ hlk
   obtain⟨b,z1,z2,bs,z3,z4⟩:=hm.heap id _ hH
   rw[e1]at hv
   generalize hy:ev X=y at hv
   have hptr:y=.pointer (some ⟨b,0,none⟩):=by
    cases hv with
    |imm _ _ hi=>cases hi
    |ptr _ _ b' _ hb _ _=>rw[z1]at hb;cases hb;rfl
   subst hptr
   have hbs:bs=⟨s.toArray⟩:=by cases bs;simp at z3;subst z3;simp
   have hsz:bs.size=s.length:=by rw[hbs];simp[ByteArray.size]
   have hlt:=lt_of_some z4
   have more:pos<s.length→OpOk P o ev w (KD G F ρ H w {v:=nxtV s pos,ws:=[(id,.iter s (nxtP s pos))],al:=[],cs:=D.cs}):=by
    intro hp
    have hrun:(execOp ev o).run P w=(Result.ok (Value.tuple #[.bool true,.int .i64 pos,.int .i32 (Utf8.decode bs pos).1]) {w with heap:=w.heap.setIfInBounds b (.stringIter bs (pos+(Utf8.decode bs pos).2))}).andThen fun v w'=>.ok (.value v) w':=by
     unfold execOp
     rw[ho]
     simp only[run_value,hy,Instr.next,Sem.run_bind]
     simp[getObj,setObj,Sem.run,z4,hsz,hp,goInt]
    obtain⟨m1,x1,k1⟩:=hm.write (w':={w with heap:=w.heap.setIfInBounds b (.stringIter bs (pos+(Utf8.decode bs pos).2))}) (o':=.iter s (nxtP s pos)) hH z1 z2 (ob:=.stringIter bs (pos+(Utf8.decode bs pos).2))
     (by simp[hlt]) (fun j hj=>by simp[Array.getElem?_setIfInBounds_ne (Ne.symm hj)]) (by simp) ⟨rfl,rfl,fun _=>⟨rfl,Nat.le_refl _⟩⟩ (fun cs ty fz h=>by rw[z4]at h;cases h) rfl (fun k h=>by cases h)
     (fun hk=>⟨b,z1,z2,bs,z3,by simp[hlt,nxtP,hbs]⟩)
    refine OpOk.eff hrun ⟨_,_,F,ρ,rfl,m1,x1,k1,?_⟩
    rw[hbs]
    exact .imm _ _ (.tup _ _ (.cons _ _ _ _ (.bool _) (.cons _ _ _ _ (.int _ _) (.cons _ _ _ _ (.int _ _) .nil))))
   have over:¬ pos<s.length→OpOk P o ev w (KD G F ρ H w {v:=.tup [.bool false],ws:=[],al:=[],cs:=D.cs}):=by
    intro hp
    have hrun:(execOp ev o).run P w=(Result.ok (Value.tuple #[.bool false]) w).andThen fun v w'=>.ok (.value v) w':=by
     unfold execOp
     rw[ho]
     simp only[run_value,hy,Instr.next,Sem.run_bind]
     simp[getObj,Sem.run,z4,hsz,hp]
    exact OpOk.eff hrun (Eff.pure hm rfl rfl (.imm _ _ (.tup _ _ (.cons _ _ _ _ (.bool _) .nil))))
   split at hD
   ·rw[cond_eq_ite]at hD
    split at hD
    ·rename_i h;cases hD;exact more (by simpa[ltn]using h)
    ·rename_i h;cases hD;exact over (by simpa[ltn]using h)
   ·cases hD
    have:=hc.1
    exact over (by simpa[Cd.holds,ltn]using this)
   ·cases hD
    have:=hc.1
    exact more (by simpa[Cd.holds,ltn]using this)
  ·cases hD
 ·cases hD

theorem run_append_zeros {sT xT e ty:TypeId}{sz by_:Nat}(hs:P.underlying sT=some (.slice e)){kx:IntKind}(hx:P.underlying xT=some (.int kx))(he:ElOk P e sz by_){k:IntKind}{n:Nat}(hn:0<n)(hb:n*by_≤roomMax):
  ∃(newCap:Nat) (cells:Array Value) (w':World),(n≤newCap∧newCap≤capMax)∧w'.heap=w.heap.push (.cells cells e)∧cells.size=newCap*sz∧IoEq G w w'∧
   (Builtin.append_ #[sT,xT] ty #[.slice none 0 0,.int k (n:Int)]).run P w=.ok (.slice (some ⟨w.heap.size,0,none⟩) n newCap) w':=by
 have hb:n*by_≤140737488355328:=hb
 obtain⟨i,z,h1,h2,h3,h4,h5⟩:=he.inf
 have hpos:i.bytes≠0:=by rw[h3];exact he.pos
 have hfit:Builtin.nextslicecap (0+n) 0*i.bytes≤281474976710656:=growslice_fits (by omega) (by rw[h3];simpa using hb)
 have hneed:n≤140737488355328:=by
  have:n*1≤n*by_:=Nat.mul_le_mul_left _ (Nat.pos_of_ne_zero he.pos)
  omega
 let q:Question:=.appendCap (0+n) 0 e
 let newCap:=q.cut (w.tape w.drawn q)
 have hnew:0+n≤newCap:=Nat.le_add_right _ _
 have hnew':n≤newCap:=by omega
 have hmaxc:newCap≤capMax:=by
  show 0+n+_%(2 ^ 63-(0+n))≤9223372036854775807
  have:=Nat.mod_lt (w.tape w.drawn q) (show 2 ^ 63-(0+n)>0 by omega)
  omega
 have hwrap:IntKind.i64.wrap (n:Int)=(n:Int):=wrap_inR (inR_of hneed)
 have hti:∀w:World,(typeInfo e).run P w=.ok i w:=fun w=>by simp[typeInfo,h1]
 have hzv:∀w:World,(zeroValue e).run P w=.ok z w:=fun w=>by simp[zeroValue,typeInfo,h1,h4]
 have hch:(choose q).run P w=.ok newCap {w with drawn:=w.drawn+1}:=by
  simp only[choose,Sem.run,q,Question.forced];rfl
 have hai:∀w:World,(asIntOf (.int k (n:Int))).run P w=.ok (k,(n:Int)) w:=fun _=>rfl
 have hnot:¬ ((n:Int)*(i.bytes:Int)>2 ^ 48):=by
  have h:(n:Int)*(i.bytes:Int)=((n*i.bytes:Nat):Int):=by rw[Int.natCast_mul]
  rw[h,h3]
  omega
 have hmax:¬ ((0+n:Nat):Int)>IntKind.i64.max:=by
  have:IntKind.i64.max=9223372036854775807:=by decide
  omega
 have hroom:¬ 0+n≤0:=by omega
 have hfit':¬ (Builtin.nextslicecap (0+n) 0*i.bytes>2 ^ 48):=by omega
 have hneg:¬ (n:Int)<0:=by omega
 have happ:∀w':World,((if n*sz=0 then pure #[]else do pure (Builtin.zeroCells (← zeroValue e).cells n):Sem (Array Value))).run P w'=.ok (Builtin.zeroCells z.cells n) w':=fun w'=>by
  by_cases h0:n*sz=0
  ·rw[if_pos h0]
   have:Builtin.zeroCells z.cells n= #[]:=by
    simp[Builtin.zeroCells,h5,h0]
   rw[this];rfl
  ·rw[if_neg h0]
   simp only[Sem.run_bind,hzv,Sem.run_pure,Result.andThen_ok]
 refine⟨newCap,Builtin.zeroCells z.cells n++Builtin.zeroCells z.cells (newCap-(0+n)),{w with heap:=w.heap.push (.cells (Builtin.zeroCells z.cells n++Builtin.zeroCells z.cells (newCap-(0+n))) e),drawn:=w.drawn+1},⟨hnew',hmaxc⟩,rfl,?_,⟨rfl,rfl,fun _=>⟨rfl,Nat.le_succ _⟩⟩,?_⟩
 ·simp only[Array.size_append,Builtin.zeroCells,Array.size_map,Array.size_range,h5]
  rw[← Nat.add_mul];congr 1;omega
 unfold Builtin.append_
 simp only[List.getElem?_toArray,List.getElem?_cons_zero,List.getElem?_cons_succ]
 simp only[Sem.run_bind,run_underlying' hs,Result.andThen_ok,run_sizeOf' h1,run_underlying' hx,Sem.run_pure,if_true,asInt,hai,hwrap,hneg,if_false,hti,hnot,Int.toNat_natCast,hroom,h2]
 rw[if_neg (fun h=>hmax h.1)]
 simp only[Sem.run_bind,hti,Result.andThen_ok,hfit',if_false]
 rw[show(choose (.appendCap (0+n) 0 e))=choose q from rfl,hch]
 simp only[Result.andThen_ok,hti,run_askRoom,Builtin.firstCells,Sem.run_pure,Bool.not_true,Bool.false_eq_true,if_false,happ,hzv,newRow,Sem.run_bind,run_newObj]
 simp[newCap]
theorem opGrowz_sound (hm:MRel G F ρ H w)(hfresh:∀i,i∈D.al→H i=none){site sz by_ tk:Nat}{u v:AV}{x y:Value}{sT xT e ty:TypeId}
  (hs:P.underlying sT=some (.slice e)) {kx:IntKind} (hx:P.underlying xT=some (.int kx)) (he:ElOk P e sz by_)
  (hu:RelV w F ρ H u x) (hv:RelV w F ρ H v y) (hD:opGrowz site sz by_ tk u v=some D) (hc:AllC Sp D.cs):
  Eff G F ρ H w ((Builtin.append_ #[sT,xT] ty #[x,y]).run P w) D:=by
 unfold opGrowz at hD
 split at hD
 ·rename_i k n
  cases hD
  have:=hv.ints;subst this
  obtain⟨c1,c2,_⟩:=hc
  have c1:0<n:=by simpa[Cd.holds,ltb]using c1
  obtain⟨m,rfl⟩:∃m:Nat,n=m:=⟨n.toNat,(Int.toNat_of_nonneg (by omega)).symm⟩
  have c2:m*by_≤roomMax:=by
   have h:(m:Int)*(by_:Int)≤((roomMax:Nat):Int):=of_decide_eq_true c2
   have:((m*by_:Nat):Int)≤((roomMax:Nat):Int):=by rw[Int.natCast_mul];exact h
   exact Int.ofNat_le.1 this
  cases hu with
  |imm _ _ hi=>
   cases hi
   obtain⟨newCap,cells,w',⟨r1,rM⟩,r2,r3,r4,r5⟩:=run_append_zeros (G:=G) (P:=P) (w:=w) (ty:=ty) (k:=k) hs hx he (by omega:0<m) c2
   obtain⟨ρ',h1,h2,h3,h4,h5⟩:=hm.alloc (w':=w') (site:=site) (o:=.blk {c:=emptyOf tk,sz,n:=0,cap:=none,nil:=some false,mu:=true,bx:=false}) (hfresh site (by simp)) r2 r4 (fun ρ' H' hk hρ=>by
    refine⟨by rw[emptyOf_size];simp,.inr ⟨w.heap.size,hρ,RelB.ofCells (emptyOf_nmap tk) ⟨cells,e,(0,0),push_new r2,by simp,by show(emptyOf tk).size≤_;rw[emptyOf_size];omega,fun i hi=>?_⟩ (fun _ h=>absurd (hm.frz _ h) (Nat.lt_irrefl _)) (fun e=>by cases e)⟩⟩
    have:i<(emptyOf tk).size:=hi
    rw[emptyOf_size]at this;omega)
   exact⟨_,_,F,ρ',r5,h1,h2,h3,.spare site _ _ _ (.full site 0 _ _ (upd_same _ _ _) (Nat.le_refl _) ⟨_,_,_,rfl⟩ (fun _=>.inr (.inr ⟨(fun e=>by cases e),w.heap.size,newCap,cells,e,(0,0),h4,push_new r2,rfl,Nat.zero_le _,by show newCap*sz≤_;omega,(fun n e=>by cases e),rM⟩)))⟩
 ·cases hD
end
end Go.Ab

/-
 Maps whose keys and values are numbers, or structs and arrays of numbers: make, look up, write, delete.
-/
set_option linter.unusedVariables false
set_option linter.unusedSimpArgs false
namespace Go.Ab
open Go

/-! ### Keys and values -/
theorem cells_rel {w:World}{F:Nat→Prop}(l:List Int):∀(ks:List (Option IntKind)) (i:Nat),RelIs w F (cellsI l i ks) (cellsVl l i ks)
 |[],i=>.nil
 |some k::r,i=>.cons _ _ _ _ (.int _ _) (cells_rel l r (i+1))
 |none::r,i=>.cons _ _ _ _ (.bool _) (cells_rel l r (i+1))
theorem MV.rel {w:World}{F:Nat→Prop}(m:MV)(l:List Int):RelI w F (m.av l) (m.vl l):=by
 obtain⟨agg,ks⟩:=m
 cases agg with
 |true=>exact .agg _ _ (by simpa using cells_rel l ks 0)
 |false=>
  match ks with
  |[]=>exact .undef _
  |[some k]=>exact .int _ _
  |[none]=>exact .bool _
  |_::_::_=>exact .undef _
theorem beqMV_ok {a b:MV}(h:beqMV a b=true):a=b:=by
 unfold beqMV at h
 simp only[Bool.and_eq_true,beq_iff_eq,decide_eq_true_eq]at h
 cases a;cases b
 simp only at h
 rw[h.1,h.2]
theorem numK_ok {w:World}{F:Nat→Prop}{ρ:Nat→Option Nat}{H:Nat→Option HO}{k:Option IntKind}{v:AV}{n:Int}{x:Value}(h:numK k v=some n)(hr:RelV w F ρ H v x):x=cellVl k n:=by
 unfold numK at h
 split at h
 ·rw[cond_eq_ite]at h
  split at h
  ·rename_i hk
   cases beqK_ok0 hk
   cases h
   exact hr.ints
  ·cases h
 ·cases h
  rename_i b
  rw[hr.bools]
  cases b<;>rfl
 ·cases h
theorem numsK_ok {w:World}{F:Nat→Prop}{ρ:Nat→Option Nat}{H:Nat→Option HO}:∀{ks:List (Option IntKind)} {l:List AV} {ns:List Int} {xs:List Value} (pre:List Int),numsK ks l=some ns→RelVs w F ρ H l xs→ns.length=ks.length∧xs=cellsVl (pre++ns) pre.length ks
 |[],[],ns,xs,pre,h,hr=>by cases h;cases hr;exact⟨rfl,rfl⟩
 |k::ks,v::l,ns,xs,pre,h,hr=>by
  simp only[numsK]at h
  split at h
  ·rename_i n ms h1 h2
   cases h
   cases hr with
   |cons _ _ x ys hx hs=>
    obtain⟨e1,e2⟩:=numsK_ok (pre++[n]) h2 hs
    refine⟨by simp[e1],?_⟩
    have hx:=numK_ok h1 hx
    rw[hx,e2]
    simp[cellsVl]
  ·cases h
 |[],_::_,ns,xs,pre,h,hr=>by cases h
 |_::_,[],ns,xs,pre,h,hr=>by cases h
theorem MV.rd_ok {w:World}{F:Nat→Prop}{ρ:Nat→Option Nat}{H:Nat→Option HO}{m:MV}{v:AV}{l:List Int}{x:Value}(h:m.rd v=some l)(hr:RelV w F ρ H v x):x=m.vl l∧l.length=m.ks.length:=by
 unfold MV.rd at h
 split at h
 ·rename_i ha
  split at h
  ·rename_i l'
   obtain⟨xs,rfl,hs⟩:=hr.aggs
   obtain⟨e1,e2⟩:=numsK_ok [] h hs
   refine⟨?_,e1⟩
   unfold MV.vl
   rw[ha]
   simp only[List.nil_append,List.length_nil]at e2
   rw[← e2]
  ·cases h
 ·rename_i ha
  split at h
  ·rename_i k hk
   split at h
   ·rename_i n hn
    cases h
    refine⟨?_,by rw[hk];rfl⟩
    unfold MV.vl
    rw[ha,hk]
    exact numK_ok hn hr
   ·cases h
  ·cases h

theorem isCell_ok {k:Option IntKind}{x:Value}(h:isCell k x=true):x=cellVl k 0:=by
 unfold isCell at h
 split at h
 ·simp only[Bool.and_eq_true,decide_eq_true_eq]at h
  cases beqK_ok0 h.1
  rw[h.2];rfl
 ·rename_i b
  cases b
  ·rfl
  ·cases h
 ·cases h
theorem isCells_ok:∀{ks:List (Option IntKind)} {xs:List Value} (i:Nat),isCells ks xs=true→xs=cellsVl [] i ks
 |[],[],_,_=>rfl
 |k::ks,x::xs,i,h=>by
  simp only[isCells,Bool.and_eq_true]at h
  rw[isCell_ok h.1,isCells_ok (i+1) h.2]
  simp[cellsVl]
 |[],_::_,_,h=>by cases h
 |_::_,[],_,h=>by cases h
theorem isZero_ok {m:MV}{x:Value}(h:isZero m x=true):x=m.vl []:=by
 unfold isZero at h
 unfold MV.vl
 split at h
 ·rename_i ha
  rw[ha]
  split at h
  ·rename_i xs
   have:=isCells_ok 0 h
   simp only
   rw[← this]
  ·cases h
 ·rename_i ha
  rw[ha]
  split at h
  ·rename_i k hk
   rw[hk]
   exact isCell_ok h
  ·cases h

/-! ### Running -/
section
variable {P:Program}{G:GL}{F:Nat→Prop}{ρ:Nat→Option Nat}{H:Nat→Option HO}{w:World}{look:Nat→Option HO}{Sp:SpT}{D:Delta}

theorem intK_ok {t:TypeId}{k:Option IntKind}(h:intK P t=some k):∃d i,P.underlying t=some d∧P.info? t=some i∧i.size=1∧(d=.bool∨∃kk,d=.int kk):=by
 unfold intK at h
 split at h
 ·rename_i kk i h1 h2
  rw[cond_eq_ite]at h
  split at h
  ·rename_i hs;exact⟨_,i,h1,h2,Nat.eq_of_beq_eq_true hs,.inr ⟨kk,rfl⟩⟩
  ·cases h
 ·rename_i i h1 h2
  rw[cond_eq_ite]at h
  split at h
  ·rename_i hs;exact⟨_,i,h1,h2,Nat.eq_of_beq_eq_true hs,.inl rfl⟩
  ·cases h
 ·cases h
theorem run_checkKey_int (e:Bool)(n:Nat){t:TypeId}{k:Option IntKind}(h:intK P t=some k)(x:Int):(Instr.checkKey e (n+1) t (cellVl k x)).run P w=.ok () w:=by
 obtain⟨d,i,h1,h2,h3,h4⟩:=intK_ok h
 unfold Instr.checkKey
 simp only[Sem.run_bind,run_underlying' h1,Result.andThen_ok]
 rcases h4 with rfl|⟨kk,rfl⟩<;>cases k<;>simp[cellVl]
theorem run_part_int {t:TypeId}{k:Option IntKind}(h:intK P t=some k){xs:Array Value}{off:Nat}{x:Value}(hx:xs[off]? =some x):(part t xs off).run P w=.ok x w:=by
 obtain⟨d,i,h1,h2,h3,h4⟩:=intK_ok h
 have:(isAgg t).run P w=.ok false w:=by
  simp only[isAgg,Sem.run_bind,run_underlying' h1,Result.andThen_ok]
  rcases h4 with rfl|⟨kk,rfl⟩<;>rfl
 simp only[part,Sem.run_bind,this,Result.andThen_ok,Bool.false_eq_true,if_false,hx,Sem.run_pure]
theorem cellsVl_get (l:List Int):∀(ks:List (Option IntKind)) (i j:Nat) (k:Option IntKind),ks[j]? =some k→(cellsVl l i ks)[j]? =some (cellVl k (l.getD (i+j) 0))
 |[],i,j,k,h=>by simp at h
 |k0::ks,i,0,k,h=>by simp at h;subst h;rfl
 |k0::ks,i,j+1,k,h=>by
  have:=cellsVl_get l ks (i+1) j k (by simpa using h)
  simp only[cellsVl,List.getElem?_cons_succ]
  rw[this,show i+1+j=i+(j+1)by omega]
theorem cellsVl_len (l:List Int):∀(ks:List (Option IntKind)) (i:Nat),(cellsVl l i ks).length=ks.length
 |[],i=>rfl
 |k::ks,i=>by simp[cellsVl,cellsVl_len l ks (i+1)]
theorem run_check_fields (e:Bool)(n:Nat){xs:Array Value}:∀(fs:List Field) (i:Nat) (l:List (Option IntKind)),fieldsK P i fs=some l→(∀j k,l[j]? =some k→∃x,xs[i+j]? =some (cellVl k x))→
  (forIn fs PUnit.unit fun(f:Field) (_:PUnit)=>(do
   if f.name≠"_" then Instr.checkKey e (n+1) f.type (← part f.type xs f.offset)
   pure (ForInStep.yield PUnit.unit):Sem (ForInStep PUnit))).run P w=.ok PUnit.unit w
 |[],i,l,h,hx=>by simp
 |f::fs,i,l,h,hx=>by
  simp only[fieldsK]at h
  split at h
  ·rename_i k l' h1 h2
   rw[cond_eq_ite]at h
   split at h
   ·rename_i ho
    cases h
    have ho:=Nat.eq_of_beq_eq_true ho
    obtain⟨x,h0⟩:=hx 0 k rfl
    have ih:=run_check_fields e n fs (i+1) l' h2 (fun j k hj=>by
     obtain⟨x,hx⟩:=hx (j+1) k hj
     exact⟨x,by rw[show i+1+j=i+(j+1)by omega];exact hx⟩)
    rw[List.forIn_cons]
    simp only[Sem.run_bind,Sem.run_ite]
    by_cases hn:f.name≠"_"
    ·rw[if_pos hn]
     rw[Nat.add_zero]at h0
     rw[run_part_int h1 (by rw[ho];exact h0),Result.andThen_ok,run_checkKey_int e n h1 x,Result.andThen_ok]
     simp only[Sem.run_pure,Result.andThen_ok]
     exact ih
    ·rw[if_neg hn]
     simp only[Sem.run_pure,Result.andThen_ok]
     exact ih
   ·cases h
  ·cases h
theorem run_check_elems (e:Bool)(n:Nat){t:TypeId}{k:Option IntKind}{sz:Nat}(hk:intK P t=some k)(hsz:sz=1){xs:Array Value}:∀(is:List Nat),(∀i∈is,∃x,xs[i]? =some (cellVl k x))→
  (forIn is PUnit.unit fun(i:Nat) (_:PUnit)=>(do
   Instr.checkKey e (n+1) t (← part t xs (i*(← sizeOf t)))
   pure (ForInStep.yield PUnit.unit):Sem (ForInStep PUnit))).run P w=.ok PUnit.unit w
 |[],h=>by simp
 |i::is,h=>by
  obtain⟨d,inf,h1,h2,h3,h4⟩:=intK_ok hk
  obtain⟨x,hx⟩:=h i (by simp)
  have ih:=run_check_elems e n hk hsz is (fun j hj=>h j (List.mem_cons_of_mem _ hj))
  rw[List.forIn_cons]
  simp only[Sem.run_bind]
  rw[run_sizeOf' h2,Result.andThen_ok,h3,Nat.mul_one,run_part_int hk hx,Result.andThen_ok,run_checkKey_int e n hk x,Result.andThen_ok]
  simp only[Sem.run_pure,Result.andThen_ok]
  exact ih
theorem run_checkKey {t:TypeId}{m:MV}(h:flatT P t=some m)(e:Bool)(n:Nat)(l:List Int):(Instr.checkKey e (n+2) t (m.vl l)).run P w=.ok () w:=by
 unfold flatT at h
 split at h
 ·split at h
  ·rename_i k hk;cases h;exact run_checkKey_int e (n+1) hk _
  ·cases h
 ·split at h
  ·rename_i k hk;cases h;exact run_checkKey_int e (n+1) hk _
  ·cases h
 ·rename_i fs hd
  split at h
  ·rename_i ks hks
   cases h
   unfold Instr.checkKey
   simp only[Sem.run_bind,run_underlying' hd,Result.andThen_ok,MV.vl]
   have:=run_check_fields (w:=w) e n fs.toList 0 ks hks (xs:=(cellsVl l 0 ks).toArray) (fun j k hj=>⟨_,by
    rw[Nat.zero_add]
    simpa using cellsVl_get l ks 0 j k hj⟩)
   rw[← Array.forIn_toList]
   simp only[Sem.run_bind]at this ⊢
   rw[this]
   rfl
  ·cases h
 ·rename_i len el hd
  split at h
  ·rename_i k hk
   cases h
   unfold Instr.checkKey
   simp only[Sem.run_bind,run_underlying' hd,Result.andThen_ok,MV.vl]
   have:=run_check_elems (w:=w) (sz:=1) e n hk rfl (xs:=(cellsVl l 0 (List.replicate len k)).toArray) (List.range' 0 len) (fun i hi=>⟨_,by
    have hlt:i<len:=by simpa using hi
    simpa using cellsVl_get l (List.replicate len k) 0 i k (by simp[hlt])⟩)
   rw[Std.Legacy.Range.forIn_eq_forIn_range']
   simp only[Sem.run_bind]at this ⊢
   simp at this ⊢
   rw[this]
   rfl
  ·cases h
 ·cases h
/-! ### Equality of keys -/
theorem allInt_get:∀{ks:List (Option IntKind)},allInt ks=true→∀j:Nat,j<ks.length→∃k,ks[j]? =some (some k)
 |[],_,j,h=>by simp at h
 |some k::ks,h,0,_=>⟨k,rfl⟩
 |some k::ks,h,j+1,hj=>by
  have:=allInt_get (ks:=ks) h j (by simpa using hj)
  simpa using this
 |none::ks,h,j,_=>by cases h
theorem cellsI_get (l:List Int):∀(ks:List (Option IntKind)) (i j:Nat) (k:Option IntKind),ks[j]? =some k→(cellsI l i ks)[j]? =some (cellI k (l.getD (i+j) 0))
 |[],i,j,k,h=>by simp at h
 |k0::ks,i,0,k,h=>by simp at h;subst h;rfl
 |k0::ks,i,j+1,k,h=>by
  have:=cellsI_get l ks (i+1) j k (by simpa using h)
  simp only[cellsI,List.getElem?_cons_succ]
  rw[this,show i+1+j=i+(j+1)by omega]
theorem eqLeaves_keys {ks:List (Option IntKind)}(hk:allInt ks=true){a b:List Int}(ha:a.length=ks.length)(hb:b.length=ks.length):
  ∀(n i:Nat),i+n=ks.length→eqLeaves ((List.range' i n).map fun j=>(j,0)) (cellsI a 0 ks) (cellsI b 0 ks)=some (decide (a.drop i=b.drop i))
 |0,i,h=>by
  have e1:a.drop i=[]:=List.drop_of_length_le (by omega)
  have e2:b.drop i=[]:=List.drop_of_length_le (by omega)
  rw[e1,e2];rfl
 |n+1,i,h=>by
  have ih:=eqLeaves_keys hk ha hb n (i+1) (by omega)
  obtain⟨kd,hkd⟩:=allInt_get hk i (by omega)
  have g1:=cellsI_get a ks 0 i (some kd) hkd
  have g2:=cellsI_get b ks 0 i (some kd) hkd
  rw[Nat.zero_add]at g1 g2
  have hleaf:eqLeaf 0 ((cellsI a 0 ks).getD i .undef) ((cellsI b 0 ks).getD i .undef)=some (a.getD i 0==b.getD i 0):=by
   rw[List.getD_eq_getElem?_getD,List.getD_eq_getElem?_getD,g1,g2]
   simp only[Option.getD_some,cellI,eqLeaf,cond_eq_ite]
   rw[if_pos (by simp[beqK])]
  have hda:a.drop i=a.getD i 0::a.drop (i+1):=by
   rw[List.drop_eq_getElem_cons (by omega:i<a.length)]
   simp[List.getD_eq_getElem?_getD,List.getElem?_eq_getElem (by omega:i<a.length)]
  have hdb:b.drop i=b.getD i 0::b.drop (i+1):=by
   rw[List.drop_eq_getElem_cons (by omega:i<b.length)]
   simp[List.getD_eq_getElem?_getD,List.getElem?_eq_getElem (by omega:i<b.length)]
  rw[List.range'_succ,List.map_cons]
  have key:some ((a.getD i 0==b.getD i 0)&&decide (a.drop (i+1)=b.drop (i+1)))=some (decide (a.drop i=b.drop i)):=by
   rw[hda,hdb]
   congr 1
   rw[Bool.eq_iff_iff]
   simp
  rw[← key]
  cases n with
  |zero=>
   have e1:a.drop (i+1)=[]:=List.drop_of_length_le (by omega)
   have e2:b.drop (i+1)=[]:=List.drop_of_length_le (by omega)
   show eqLeaves [(i,0)] _ _=_
   simp only[eqLeaves]
   rw[hleaf,e1,e2]
   simp
  |succ n=>
   rw[List.range'_succ,List.map_cons]at ih ⊢
   simp only[eqLeaves]at ih ⊢
   rw[hleaf]
   rw[show eqLeaves ((i+1,0)::(List.range' (i+1+1) n).map fun j=>(j,0)) (cellsI a 0 ks) (cellsI b 0 ks)=some (decide (a.drop (i+1)=b.drop (i+1)))from ih]
theorem one_dec {a b:List Int}(ha:a.length=1)(hb:b.length=1):(a.getD 0 0==b.getD 0 0)=decide (a=b):=by
 match a,b,ha,hb with
 |[x],[y],_,_=>rw[Bool.eq_iff_iff];simp
theorem keyT_ok {t:TypeId}{m:MV}(h:keyT P t=some m):flatT P t=some m∧allInt m.ks=true∧leavesT P 16 t 0=some (idLs m.ks.length)∧∃i,P.info? t=some i∧i.size=m.ks.length:=by
 unfold keyT at h
 split at h
 ·rename_i m' ls i h1 h2 h3
  rw[cond_eq_ite]at h
  split at h
  ·rename_i hc
   cases h
   simp only[Bool.and_eq_true,decide_eq_true_eq]at hc
   obtain⟨c1,rfl,c3⟩:=hc
   exact⟨h1,c1,h2,i,h3,Nat.eq_of_beq_eq_true c3⟩
  ·cases h
 ·cases h
theorem run_keyEq {t:TypeId}{m:MV}(h:keyT P t=some m){a b:List Int}(ha:a.length=m.ks.length)(hb:b.length=m.ks.length):(Op.equal t (m.vl a) (m.vl b)).run P w=.ok (decide (a=b)) w:=by
 obtain⟨h1,h2,h3,i,h4,h5⟩:=keyT_ok h
 have hF:Nat→Prop:=fun _=>False
 have hx:RelVs w hF noR noH (cellsI a 0 m.ks) (cellsVl a 0 m.ks).toArray.toList:=by simpa using(cells_rel (w:=w) (F:=hF) a m.ks 0).toVs
 have hy:RelVs w hF noR noH (cellsI b 0 m.ks) (cellsVl b 0 m.ks).toArray.toList:=by simpa using(cells_rel (w:=w) (F:=hF) b m.ks 0).toVs
 have hl:eqLeaves (idLs m.ks.length) (cellsI a 0 m.ks) (cellsI b 0 m.ks)=some (decide (a=b)):=by
  have:=eqLeaves_keys h2 ha hb m.ks.length 0 (by omega)
  rw[List.drop_zero,List.drop_zero]at this
  rw[← this]
  unfold idLs
  rw[List.range_eq_range']
 have hpart:∀l:List Int,PartOf P t (cellsVl l 0 m.ks).toArray 0 (m.vl l):=by
  intro l
  unfold flatT at h1
  unfold PartOf
  split at h1
  ·rename_i k hd
   rw[hd]
   split at h1
   ·cases h1;rfl
   ·cases h1
  ·rename_i hd
   rw[hd]
   split at h1
   ·cases h1;rfl
   ·cases h1
  ·rename_i fs hd
   rw[hd]
   split at h1
   ·cases h1
    refine⟨i,h4,by simp[cellsVl_len,h5],?_⟩
    simp only at h5
    simp[MV.vl,h5,← cellsVl_len l _ 0]
   ·cases h1
  ·rename_i n e hd
   rw[hd]
   split at h1
   ·cases h1
    refine⟨i,h4,by simp[cellsVl_len,h5],?_⟩
    simp only at h5
    simp[MV.vl,h5,← cellsVl_len l _ 0]
   ·cases h1
  ·cases h1
 exact leavesT_sound hx hy 16 t 0 _ _ _ _ h3 hl (hpart a) (hpart b) 10000 (by omega)
def mfind (vk:MV):List (List Int×List Int×Nat)→List Int→Nat→Option (Nat×Value)
 |[],_,_=>none
 |e::r,k,i=>if k=e.1 then some (i,vk.vl e.2.1)else mfind vk r k (i+1)
theorem run_asking {t:TypeId}{kk vk:MV}(h:keyT P t=some kk){k:List Int}(hk:k.length=kk.ks.length):∀(es:List (List Int×List Int×Nat)) (i:Nat),(∀e∈es,e.1.length=kk.ks.length)→
  (Instr.findAsking t (kk.vl k) (es.map (entV kk vk)) i).run P w=.ok (mfind vk es k i) w
 |[],i,_=>by simp[Instr.findAsking,mfind]
 |e::r,i,he=>by
  rw[List.map_cons]
  simp only[Instr.findAsking,Sem.run_bind]
  have:(entV kk vk e).key=kk.vl e.1:=rfl
  rw[this,run_keyEq h hk (he e (by simp)),Result.andThen_ok]
  simp only[Sem.run_ite,mfind]
  by_cases heq:k=e.1
  ·simp only[heq,decide_true,if_true];rfl
  ·simp only[heq,decide_false,Bool.false_eq_true,if_false]
   exact run_asking h hk r (i+1) fun e he'=>he e (List.mem_cons_of_mem _ he')
theorem findNow_int {kd:IntKind}{kk':IntKind}{vk:MV}{k:List Int}(hk:k.length=1):∀(es:List (List Int×List Int×Nat)) (i:Nat),(∀e∈es,e.1.length=1)→
  Instr.findNow (.int kk') ((⟨false,[some kd]⟩:MV).vl k) (es.map (entV ⟨false,[some kd]⟩ vk)) i=some (mfind vk es k i)
 |[],i,_=>rfl
 |e::r,i,he=>by
  have h1:Instr.sameNow (.int kk') ((⟨false,[some kd]⟩:MV).vl k) (entV ⟨false,[some kd]⟩ vk e).key=some (decide (k=e.1)):=by
   show(if kd=kd then some (k.getD 0 0==e.1.getD 0 0)else none)=_
   rw[if_pos rfl,one_dec hk (he e (by simp))]
  rw[List.map_cons]
  simp only[Instr.findNow,h1,mfind]
  by_cases heq:k=e.1
  ·simp only[heq,decide_true,if_true];rfl
  ·simp only[heq,decide_false,if_false]
   exact findNow_int hk r (i+1) fun e he'=>he e (List.mem_cons_of_mem _ he')
theorem run_findKey {t:TypeId}{kk vk:MV}(h:keyT P t=some kk){k:List Int}(hk:k.length=kk.ks.length)(es:List (List Int×List Int×Nat))(he:∀e∈es,e.1.length=kk.ks.length):
  (Instr.findKey t (kk.vl k) (es.map (entV kk vk))).run P w=.ok (mfind vk es k 0) w:=by
 obtain⟨h1,h2,_⟩:=keyT_ok h
 have hask:=run_asking (w:=w) (vk:=vk) h hk es 0 he
 unfold Instr.findKey
 unfold flatT at h1
 split at h1
 ·rename_i k0 hd
  simp only[Sem.run_bind,run_underlying' hd,Result.andThen_ok]
  split at h1
  ·rename_i kd hkd
   cases h1
   cases kd with
   |none=>cases h2
   |some kd=>
    rw[findNow_int hk es 0 he]
    rfl
  ·cases h1
 ·rename_i hd
  split at h1
  ·rename_i kd hkd
   cases h1
   unfold intK at hkd
   rw[hd]at hkd
   split at hkd
   ·rename_i g _;cases g
   ·rw[cond_eq_ite]at hkd
    split at hkd
    ·cases hkd;cases h2
    ·cases hkd
   ·cases hkd
  ·cases h1
 ·rename_i fs hd
  simp only[Sem.run_bind,run_underlying' hd,Result.andThen_ok]
  cases es with
  |nil=>rfl
  |cons e r=>
   have:Instr.findNow (.struct fs) (kk.vl k) ((e::r).map (entV kk vk)) 0=none:=by
    simp[Instr.findNow,Instr.sameNow]
   rw[this]
   exact hask
 ·rename_i n e0 hd
  simp only[Sem.run_bind,run_underlying' hd,Result.andThen_ok]
  cases es with
  |nil=>rfl
  |cons e r=>
   have:Instr.findNow (.array n e0) (kk.vl k) ((e::r).map (entV kk vk)) 0=none:=by
    simp[Instr.findNow,Instr.sameNow]
   rw[this]
   exact hask
 ·cases h1

/-! ### What is found, what is written -/
theorem mfind_get {vk:MV}:∀(es:List (List Int×List Int×Nat)) (k:List Int) (i:Nat),(mfind vk es k i).map (·.2)=(mget es k).map vk.vl∧(mfind vk es k i).isSome=mhas es k
 |[],k,i=>⟨rfl,rfl⟩
 |e::r,k,i=>by
  obtain⟨h1,h2⟩:=mfind_get (vk:=vk) r k (i+1)
  by_cases heq:k=e.1
  ·simp[mfind,mget,mhas,heq]
  ·simp[mfind,mget,mhas,heq,h1,h2]
theorem mfind_put {kk vk:MV}{k v:List Int}{c:Nat}:∀(es:List (List Int×List Int×Nat)) (i:Nat),
  (∀j y,mfind vk es k i=some (j,y)→i≤j∧(((es.map (entV kk vk))[j-i]?).map (·.key))=some (kk.vl k)∧(es.map (entV kk vk)).modify (j-i) (fun e=>{e with key:=kk.vl k,val:=vk.vl v})=(mput es k v c).map (entV kk vk)∧mhas es k=true∧(es.map (entV kk vk)).eraseIdx (j-i)=(mdel es k).map (entV kk vk))∧
  (mfind vk es k i=none→es.map (entV kk vk)++[{key:=kk.vl k,val:=vk.vl v,born:=c}]=(mput es k v c).map (entV kk vk)∧mhas es k=false∧mdel es k=es)
 |[],i=>⟨fun j y h=>by simp[mfind]at h,fun _=>⟨rfl,rfl,rfl⟩⟩
 |e::r,i=>by
  obtain⟨h1,h2⟩:=mfind_put (kk:=kk) (vk:=vk) (k:=k) (v:=v) (c:=c) r (i+1)
  by_cases heq:k=e.1
  ·subst heq
   refine⟨fun j y h=>?_,fun h=>?_⟩
   ·simp only[mfind,if_true,Option.some.injEq,Prod.mk.injEq]at h
    obtain⟨rfl,rfl⟩:=h
    refine⟨Nat.le_refl _,?_,?_,?_,?_⟩
    ·simp[entV]
    ·simp[mput,entV]
    ·simp[mhas]
    ·simp[mdel]
   ·simp[mfind]at h
  ·refine⟨fun j y h=>?_,fun h=>?_⟩
   ·simp only[mfind,if_neg heq]at h
    obtain⟨g1,g2,g3,g4,g5⟩:=h1 j y h
    obtain⟨m,rfl⟩:∃m,j=i+1+m:=⟨j-(i+1),by omega⟩
    have e1:i+1+m-i=m+1:=by omega
    have e2:i+1+m-(i+1)=m:=by omega
    rw[e2]at g2 g3 g5
    rw[e1]
    refine⟨by omega,?_,?_,?_,?_⟩
    ·simpa using g2
    ·simp only[List.map_cons,List.modify_succ_cons,mput,heq,decide_false,cond_false]
     rw[g3]
    ·simp[mhas,heq,g4]
    ·simp only[List.map_cons,List.eraseIdx_cons_succ,mdel,heq,decide_false,cond_false]
     rw[g5]
   ·simp only[mfind,if_neg heq]at h
    obtain⟨g1,g2,g3⟩:=h2 h
    refine⟨?_,?_,?_⟩
    ·simp only[List.map_cons,List.cons_append,mput,heq,decide_false,cond_false]
     rw[g1]
    ·simp[mhas,heq,g2]
    ·simp[mdel,heq,g3]
theorem mput_len {n:Nat}:∀{es:List (List Int×List Int×Nat)} {k v:List Int} {c:Nat},(∀e∈es,e.1.length=n)→k.length=n→∀e∈mput es k v c,e.1.length=n
 |[],k,v,c,h,hk,e,he=>by simp[mput]at he;rw[he];exact hk
 |x::r,k,v,c,h,hk,e,he=>by
  simp only[mput,cond_eq_ite]at he
  split at he
  ·rcases List.mem_cons.1 he with rfl|he
   ·exact hk
   ·exact h e (List.mem_cons_of_mem _ he)
  ·rcases List.mem_cons.1 he with rfl|he
   ·exact h e (by simp)
   ·exact mput_len (fun y hy=>h y (List.mem_cons_of_mem _ hy)) hk e he
theorem mdel_len {n:Nat}:∀{es:List (List Int×List Int×Nat)} {k:List Int},(∀e∈es,e.1.length=n)→∀e∈mdel es k,e.1.length=n
 |[],k,h,e,he=>by simp[mdel]at he
 |x::r,k,h,e,he=>by
  simp only[mdel,cond_eq_ite]at he
  split at he
  ·exact h e (List.mem_cons_of_mem _ he)
  ·rcases List.mem_cons.1 he with rfl|he
   ·exact h e (by simp)
   ·exact mdel_len (fun y hy=>h y (List.mem_cons_of_mem _ hy)) e he
theorem same_cells (n:Nat)(l:List Int):∀(ks:List (Option IntKind)) (i:Nat),(((cellsVl l i ks).zip (cellsVl l i ks)).all fun p=>Instr.sameBits n p.1 p.2)=true
 |[],i=>rfl
 |k::ks,i=>by
  simp only[cellsVl,List.zip_cons_cons,List.all_cons,Bool.and_eq_true]
  refine⟨?_,same_cells n l ks (i+1)⟩
  cases k<;>simp[cellVl,Instr.sameBits]
theorem same_key {t:TypeId}{m:MV}(h:flatT P t=some m)(n:Nat)(l:List Int):Instr.sameBits (n+1) (m.vl l) (m.vl l)=true:=by
 have hone:∀(k:Option IntKind) (x:Int),Instr.sameBits (n+1) (cellVl k x) (cellVl k x)=true:=fun k x=>by
  cases k<;>simp[cellVl,Instr.sameBits]
 have hagg:∀ks:List (Option IntKind),Instr.sameBits (n+1) (.agg (cellsVl l 0 ks).toArray) (.agg (cellsVl l 0 ks).toArray)=true:=fun ks=>by
  have:=same_cells n l ks 0
  simp only[Instr.sameBits,beq_self_eq_true,Bool.true_and]
  simpa using this
 unfold flatT at h
 split at h
 ·split at h
  ·cases h;exact hone _ _
  ·cases h
 ·split at h
  ·cases h;exact hone _ _
  ·cases h
 ·split at h
  ·cases h;exact hagg _
  ·cases h
 ·split at h
  ·cases h;exact hagg _
  ·cases h
 ·cases h
end
end Go.Ab

/-
 Maps: operations, by their abstract effect; copy.
-/
set_option linter.unusedVariables false
set_option linter.unusedSimpArgs false
namespace Go.Ab
open Go
section
variable {P:Program}{G:GL}{F:Nat→Prop}{ρ:Nat→Option Nat}{H:Nat→Option HO}{w:World}{look:Nat→Option HO}{D:Delta}{o:Oper}{ev:Operand→Value}{T:List (Nat×AV)}{Sp:SpT}

theorem run_getMap {b:Nat}{es:Array MapEntry}{ck:Nat}(hb:w.heap[b]? =some (.map es ck)):(getObj b).run P w=.ok (.map es ck) w:=by
 simp[getObj,Sem.run,hb]
theorem run_setMap {b:Nat}{es:Array MapEntry}{ck:Nat}(x:Obj)(hb:w.heap[b]? =some (.map es ck)):(setObj b x).run P w=.ok () {w with heap:=w.heap.setIfInBounds b x}:=by
 simp[setObj,Sem.run,hb]
theorem mapOf_ok {kk vk:MV}{m:AV}{id:Nat}{k:Blk}{es:List (List Int×List Int×Nat)}{ck:Nat}(h:mapOf look kk vk m=some (id,k,es,ck)):m=.mp id∧look id=some (.blk k)∧k.c=.maps kk vk es ck:=by
 unfold mapOf at h
 split at h
 ·split at h
  ·rename_i k' hk
   split at h
   ·rename_i hc
    rw[cond_eq_ite]at h
    split at h
    ·rename_i hb
     rw[Bool.and_eq_true]at hb
     cases beqMV_ok hb.1;cases beqMV_ok hb.2
     cases h
     exact⟨rfl,hk,hc⟩
    ·cases h
   ·cases h
  ·cases h
 ·cases h
theorem mp_heap (hm:MRel G F ρ H w)(hl:∀id o,look id=some o→H id=some o){id:Nat}{k:Blk}(hk:look id=some (.blk k)){kk vk:MV}{es:List (List Int×List Int×Nat)}{ck:Nat}(hc:k.c=.maps kk vk es ck){x:Value}(hx:RelV w F ρ H (.mp id) x):
  ∃b,x=.map (some b)∧ρ id=some b∧RelB w F ρ H k b∧k.c.size=k.n*k.sz∧w.heap[b]? =some (.map (es.map (entV kk vk)).toArray ck)∧∀e∈es,e.1.length=kk.ks.length:=by
 cases hx with
 |imm _ _ hi=>cases hi
 |mp _ b o hb hh hbx=>
  obtain⟨h0,h1|⟨b',h1,h2⟩⟩:=hm.heap id _ (hl _ _ hk)
  ·rw[hb]at h1;cases h1.2
  ·rw[hb]at h1;cases h1
   obtain⟨g1,g2⟩:=h2.mp _ _ _ _ hc
   exact⟨b,rfl,hb,h2,h0,g1,g2⟩
theorem opMkmap_sound (hm:MRel G F ρ H w)(hfresh:∀i,i∈D.al→H i=none){site n:Nat}{kk vk:MV}{vs:List AV}{t k e:TypeId}{r:Option Value}(ht:P.underlying t=some (.map k e))
  (hr:∀x,r=some x→n≠0∧∃v l,vs=v::l∧RelV w F ρ H v x) (hD:opMkmap site kk vk n vs=some D):Eff G F ρ H w ((Instr.makeMap t r).run P w) D:=by
 unfold opMkmap at hD
 rw[cond_eq_ite]at hD
 split at hD
 case isFalse=>cases hD
 rename_i hcond
 cases hD
 have hrun:(Instr.makeMap t r).run P w=.ok (.map (some w.heap.size)) (w.alloc (.map #[] 0)):=by
  unfold Instr.makeMap
  cases r with
  |none=>simp
  |some x=>
   obtain⟨hn,v,l,rfl,hv⟩:=hr x rfl
   unfold hintOk at hcond
   split at hcond
   ·exact absurd rfl hn
   ·rename_i kd q _ e1
    cases e1
    have:=hv.ints;subst this
    simp[run_underlying' ht,asInt,asIntOf]
   ·cases hcond
 obtain⟨ρ',h1,h2,h3,h4,h5⟩:=hm.alloc (w':=w.alloc (.map #[] 0)) (site:=site) (o:=.blk {c:=.maps kk vk [] 0,sz:=1,n:=0,cap:=none,nil:=some false,mu:=true,bx:=true}) (hfresh site (by simp)) rfl ⟨rfl,rfl,fun _=>⟨rfl,Nat.le_refl _⟩⟩ (fun ρ' H' hk hρ=>by
  refine⟨rfl,.inr ⟨w.heap.size,hρ,⟨fun h=>(by cases h),fun kk' vk' es ck e=>?_,fun _ h=>absurd (hm.frz _ h) (Nat.lt_irrefl _),fun e=>(by cases e)⟩⟩⟩
  cases e
  exact⟨push_new rfl,fun e h=>by simp at h⟩)
 exact⟨_,_,F,ρ',hrun,h1,h2,h3,.mp site _ _ h4 (upd_same _ _ _) rfl⟩
theorem opMlook_sound (hm:MRel G F ρ H w)(hl:∀id o,look id=some o→H id=some o){kk vk:MV}{ok:Bool}{u v:AV}{x y:Value}{t k e:TypeId}(ht:P.underlying t=some (.map k e))(hk:keyT P k=some kk)(hv:valT P e=some vk)
  (hu:RelV w F ρ H u x) (hy:RelV w F ρ H v y) (hD:opMlook look kk vk ok u v=some D):Eff G F ρ H w ((Instr.lookup t x y ok).run P w) D:=by
 unfold opMlook at hD
 split at hD
 ·rename_i id blk es ck kl h1 h2
  obtain⟨rfl,g1,g2⟩:=mapOf_ok h1
  obtain⟨b,rfl,g3,g4,g5,g6,g7⟩:=mp_heap hm hl g1 g2 hu
  obtain⟨rfl,g8⟩:=MV.rd_ok h2 hy
  obtain⟨f1,_⟩:=keyT_ok hk
  have hz:(zeroValue e).run P w=.ok (vk.vl []) w:=by
   unfold valT at hv
   split at hv
   ·rename_i m i q1 q2
    split at hv
    ·rename_i z hz
     rw[cond_eq_ite]at hv
     split at hv
     ·rename_i hzz
      cases hv
      rw[← isZero_ok hzz]
      simp[zeroValue,typeInfo,q2,hz]
     ·cases hv
    ·cases hv
   ·cases hv
  have hf:=run_findKey (w:=w) (vk:=vk) hk g8 es g7
  obtain⟨m1,m2⟩:=mfind_get (vk:=vk) es kl 0
  have hrun:(Instr.lookup t (.map (some b)) (kk.vl kl) ok).run P w=.ok (cond ok (.tuple #[vk.vl ((mget es kl).getD []),.bool (mhas es kl)]) (vk.vl ((mget es kl).getD []))) w:=by
   unfold Instr.lookup
   simp only[Sem.run_bind,run_underlying' ht,Result.andThen_ok,run_getMap g6,Sem.run_pure]
   rw[run_checkKey f1 _ 9998 kl]
   simp only[Result.andThen_ok]
   rw[hf]
   simp only[Result.andThen_ok]
   cases hmf:mfind vk es kl 0 with
   |none=>
    rw[hmf]at m1 m2
    have m1:mget es kl=none:=by
     cases hg:mget es kl with
     |none=>rfl
     |some z=>rw[hg]at m1;cases m1
    have m2:mhas es kl=false:=m2.symm
    rw[m1,m2]
    simp only[Sem.run_bind,hz,Sem.run_pure,Result.andThen_ok,Option.getD_none]
    cases ok<;>rfl
   |some p=>
    obtain⟨j,z⟩:=p
    rw[hmf]at m1 m2
    have m2:mhas es kl=true:=m2.symm
    cases hg:mget es kl with
    |none=>rw[hg]at m1;cases m1
    |some q=>
     rw[hg]at m1
     simp only[Option.map_some,Option.some.injEq]at m1
     rw[m2]
     simp only[Sem.run_pure,Result.andThen_ok,Option.getD_some,m1]
     cases ok<;>rfl
  have hrel:=(MV.rel (w:=w) (F:=F) vk ((mget es kl).getD [])).toV (ρ:=ρ) (h:=H)
  cases ok with
  |true=>exact Eff.val hm hD hrun (.tup _ _ (.cons _ _ _ _ hrel (.cons _ _ _ _ (.imm _ _ (.bool _)) .nil)))
  |false=>exact Eff.val hm hD hrun hrel
 ·cases hD
theorem step_rngm {o:Oper}{ev:Operand→Value}{T:List (Nat×AV)}{t k e:TypeId}{X:Operand}(ho:o.op=.range t X){a:Opd}(hX:compX X=some a)(ht:P.underlying t=some (.map k e))(hm:MRel G F ρ H w)(hl:∀id o,look id=some o→H id=some o)(hev:EvOk G F ρ H w T ev){site:Nat}{d:Dir}
  (hD:execD site look (.rngm a) d [a.ev G T]=some D) (hfresh:∀i,i∈D.al→H i=none):OpOk P o ev w (KD G F ρ H w D):=by
 have hv:=hev _ _ hX
 have hD:opRngm site look (a.ev G T)=some D:=hD
 unfold opRngm at hD
 split at hD
 ·rename_i id e1
  rw[e1]at hv
  split at hD
  ·rename_i blk hlk
   have hH:=hl _ _ hlk
   split at hD
   ·rename_i kk vk es ck hc
    cases hD
    generalize hy:ev X=y at hv
    have hv0:=hv
    cases hv with
    |imm _ _ hi=>cases hi
    |mp _ b ob hb hh hx=>
     rw[hH]at hh;cases hh
     obtain⟨_,h1|⟨b',h1,h2⟩⟩:=hm.heap id _ hH
     ·rw[hb]at h1;cases h1.2
     rw[hb]at h1;cases h1
     obtain⟨g1,g2⟩:=h2.mp _ _ _ _ hc
     have hrun:(execOp ev o).run P w=(Result.ok (Value.pointer (some ⟨w.heap.size,0,none⟩)) {w with heap:=w.heap.push (.mapIter (some b) ck #[] ck)}).andThen fun v w'=>.ok (.value v) w':=by
      unfold execOp
      rw[ho]
      simp only[run_value,hy,Instr.range,Sem.run_bind,underlying,run_program,Result.andThen_ok,ht,Sem.run_pure,getObj]
      simp[Sem.run,g1,newObj]
     obtain⟨ρ',m1,x1,k1,h3,h4⟩:=hm.alloc (w':={w with heap:=w.heap.push (.mapIter (some b) ck #[] ck)}) (site:=site) (o:=.mit id ck []) (hfresh site (by simp)) rfl ⟨rfl,rfl,fun _=>⟨rfl,Nat.le_refl _⟩⟩ (fun ρ' H' hk hsite=>
      ⟨w.heap.size,b,hsite,fun hF=>by have:=hm.frz _ hF;omega,push_new rfl,hv0.mono (fun b hb=>push_old rfl (hm.frz b hb)) (fun _ h=>h) hk⟩)
     exact OpOk.eff hrun ⟨_,_,F,ρ',rfl,m1,x1,k1,.ptr site 0 w.heap.size (.mit id ck []) h3 (upd_same _ _ _) rfl⟩
   ·cases hD
  ·cases hD
 ·cases hD
theorem map_write (hm:MRel G F ρ H w){id b:Nat}{k:Blk}{kk vk:MV}{es es':List (List Int×List Int×Nat)}{ck ck':Nat}(hH:H id=some (.blk k))(hc:k.c=.maps kk vk es ck)(hb:ρ id=some b)(hB:RelB w F ρ H k b)(h0:k.c.size=k.n*k.sz)(hmu:k.mu=true)
  (hw:w.heap[b]? =some (.map (es.map (entV kk vk)).toArray ck)) (hlen:∀e∈es',e.1.length=kk.ks.length):
  MRel G F ρ (upd H id (some (.blk {k with c:=.maps kk vk es' ck'}))) {w with heap:=w.heap.setIfInBounds b (.map (es'.map (entV kk vk)).toArray ck')}∧
   Ext G F ρ w F ρ {w with heap:=w.heap.setIfInBounds b (.map (es'.map (entV kk vk)).toArray ck')}∧HKeep w ρ H {w with heap:=w.heap.setIfInBounds b (.map (es'.map (entV kk vk)).toArray ck')} ρ (upd H id (some (.blk {k with c:=.maps kk vk es' ck'}))):=by
 have hlt:b<w.heap.size:=(Array.getElem?_eq_some_iff.1 hw).1
 have hn:({w with heap:=w.heap.setIfInBounds b (.map (es'.map (entV kk vk)).toArray ck')}:World).heap[b]? =some (.map (es'.map (entV kk vk)).toArray ck'):=by
  simp[hlt]
 refine hm.write hH hb (hB.mu hmu) hn (fun j hj=>?_) (by simp) ⟨rfl,rfl,fun _=>⟨rfl,Nat.le_refl _⟩⟩ (fun cs ty fz h=>by rw[hw]at h;cases h) rfl (fun k0 h=>?_) (fun hk=>?_)
 ·simp only[Array.getElem?_setIfInBounds]
  rw[if_neg (fun e=>hj e.symm)]
 ·cases h;exact⟨_,rfl,Nat.le_refl _,fun _=>⟨rfl,rfl,.inl rfl⟩⟩
 ·have hz:k.c.size=0:=by rw[hc];rfl
  refine⟨?_,.inr ⟨b,hb,⟨fun h=>(by cases h),fun kk' vk' es2 ck2 e=>?_,fun _=>hB.mu hmu,fun e=>(by rw[show k.mu=true from hmu]at e;cases e)⟩⟩⟩
  ·show 0=k.n*k.sz
   rw[← h0,hz]
  ·cases e
   exact⟨hn,hlen⟩
theorem opMput_sound (hm:MRel G F ρ H w)(hl:∀id o,look id=some o→H id=some o){kk vk:MV}{u v v2:AV}{x y z:Value}{t k e:TypeId}(ht:P.underlying t=some (.map k e))(hk:keyT P k=some kk)
  (hu:RelV w F ρ H u x) (hy:RelV w F ρ H v y) (hz:RelV w F ρ H v2 z) (hD:opMput look kk vk u v v2=some D):Eff G F ρ H w (((Instr.mapUpdate t x y z).run P w).andThen fun _ w'=>.ok undef w') D:=by
 unfold opMput at hD
 split at hD
 ·rename_i id blk es ck kl vl h1 h2 h3
  rw[cond_eq_ite]at hD
  split at hD
  ·rename_i hmu
   cases hD
   obtain⟨rfl,g1,g2⟩:=mapOf_ok h1
   obtain⟨b,rfl,g3,g4,g5,g6,g7⟩:=mp_heap hm hl g1 g2 hu
   obtain⟨rfl,g8⟩:=MV.rd_ok h2 hy
   obtain⟨rfl,_⟩:=MV.rd_ok h3 hz
   obtain⟨f1,_⟩:=keyT_ok hk
   have hf:=run_findKey (w:=w) (vk:=vk) hk g8 es g7
   obtain⟨m1,m2⟩:=mfind_put (kk:=kk) (vk:=vk) (k:=kl) (v:=vl) (c:=ck) es 0
   have hrun:(Instr.mapUpdate t (.map (some b)) (kk.vl kl) (vk.vl vl)).run P w=.ok () {w with heap:=w.heap.setIfInBounds b (.map ((mput es kl vl ck).map (entV kk vk)).toArray (mck es kl ck))}:=by
    unfold Instr.mapUpdate
    simp only[Sem.run_bind,run_underlying' ht,Result.andThen_ok,run_getMap g6]
    rw[run_checkKey f1 _ 9998 kl]
    simp only[Result.andThen_ok]
    rw[hf]
    simp only[Result.andThen_ok]
    cases hmf:mfind vk es kl 0 with
    |none=>
     obtain⟨q1,q2,_⟩:=m2 hmf
     simp only[run_setMap _ g6]
     have:(es.map (entV kk vk)).toArray.push {key:=kk.vl kl,val:=vk.vl vl,born:=ck}=((mput es kl vl ck).map (entV kk vk)).toArray:=by
      rw[← q1];simp
     rw[this]
     simp only[mck,q2,cond_false]
    |some p=>
     obtain⟨j,y⟩:=p
     obtain⟨_,q1,q2,q3,_⟩:=m1 j y hmf
     simp only[Nat.sub_zero]at q1 q2
     have hkey:((((es.map (entV kk vk)).toArray[j]?).map (·.key)).getD (kk.vl kl))=kk.vl kl:=by
      have:(es.map (entV kk vk)).toArray[j]? =(es.map (entV kk vk))[j]? :=by simp
      rw[this,q1];rfl
     have hst:(Instr.keyThatStays (kk.vl kl) (kk.vl kl)).run P w=.ok (kk.vl kl) w:=by
      unfold Instr.keyThatStays
      rw[if_pos (same_key f1 9999 kl)]
      rfl
     simp only[Sem.run_bind,hkey,hst,Result.andThen_ok,run_setMap _ g6]
     have:(es.map (entV kk vk)).toArray.modify j (fun e=>{e with key:=kk.vl kl,val:=vk.vl vl})=((mput es kl vl ck).map (entV kk vk)).toArray:=by
      rw[← q2];simp
     rw[this]
     simp only[mck,q3,cond_true]
   obtain⟨p1,p2,p3⟩:=map_write hm (hl _ _ g1) g2 g3 g4 g5 hmu g6 (es':=mput es kl vl ck) (ck':=mck es kl ck) (mput_len g7 g8)
   exact⟨undef,_,F,ρ,by rw[hrun];rfl,p1,p2,p3,.imm _ _ (.undef _)⟩
  ·cases hD
 ·cases hD
theorem opMdel_sound (hm:MRel G F ρ H w)(hl:∀id o,look id=some o→H id=some o){kk vk:MV}{u v:AV}{x y:Value}{t t2 ty k e:TypeId}(ht:P.underlying t=some (.map k e))(hk:keyT P k=some kk)
  (hu:RelV w F ρ H u x) (hy:RelV w F ρ H v y) (hD:opMdel look kk vk u v=some D):Eff G F ρ H w ((Builtin.delete_ #[t,t2] ty #[x,y]).run P w) D:=by
 unfold opMdel at hD
 split at hD
 ·rename_i id blk es ck kl h1 h2
  rw[cond_eq_ite]at hD
  split at hD
  ·rename_i hmu
   cases hD
   obtain⟨rfl,g1,g2⟩:=mapOf_ok h1
   obtain⟨b,rfl,g3,g4,g5,g6,g7⟩:=mp_heap hm hl g1 g2 hu
   obtain⟨rfl,g8⟩:=MV.rd_ok h2 hy
   obtain⟨f1,_⟩:=keyT_ok hk
   have hf:=run_findKey (w:=w) (vk:=vk) hk g8 es g7
   obtain⟨m1,m2⟩:=mfind_put (kk:=kk) (vk:=vk) (k:=kl) (v:=[]) (c:=ck) es 0
   have hrun:(Builtin.delete_ #[t,t2] ty #[.map (some b),kk.vl kl]).run P w=.ok (.tuple #[]) {w with heap:=w.heap.setIfInBounds b (.map ((mdel es kl).map (entV kk vk)).toArray ck)}:=by
    unfold Builtin.delete_
    simp only[List.getElem?_toArray,List.getElem?_cons_zero,List.getElem?_cons_succ]
    simp only[Sem.run_bind,run_underlying' ht,Result.andThen_ok,run_getMap g6]
    rw[run_checkKey f1 _ 9998 kl]
    simp only[Result.andThen_ok]
    rw[hf]
    simp only[Result.andThen_ok]
    cases hmf:mfind vk es kl 0 with
    |none=>
     obtain⟨_,_,q3⟩:=m2 hmf
     simp only[Sem.run_bind,run_setMap _ g6,Result.andThen_ok,Sem.run_pure,q3]
    |some p=>
     obtain⟨j,y⟩:=p
     obtain⟨_,_,_,_,q5⟩:=m1 j y hmf
     simp only[Nat.sub_zero]at q5
     simp only[Sem.run_bind,run_setMap _ g6,Result.andThen_ok,Sem.run_pure]
     have:(es.map (entV kk vk)).toArray.eraseIdxIfInBounds j=((mdel es kl).map (entV kk vk)).toArray:=by
      rw[← q5]
      apply Array.toList_inj.1
      simp
     rw[this]
   obtain⟨p1,p2,p3⟩:=map_write hm (hl _ _ g1) g2 g3 g4 g5 hmu g6 (es':=mdel es kl) (ck':=ck) (mdel_len g7)
   exact⟨_,_,F,ρ,hrun,p1,p2,p3,.tup _ _ .nil⟩
  ·cases hD
 ·cases hD
theorem opMlen_sound (hm:MRel G F ρ H w)(hl:∀id o,look id=some o→H id=some o){u:AV}{x:Value}{t ty k e:TypeId}(ht:P.underlying t=some (.map k e))
  (hu:RelV w F ρ H u x) (hD:opMlen look u=some D):Eff G F ρ H w ((Builtin.len_ #[t] ty #[x]).run P w) D:=by
 unfold opMlen at hD
 split at hD
 ·split at hD
  ·rename_i k' hk
   split at hD
   ·rename_i hc
    obtain⟨b,rfl,g3,g4,g5,g6,g7⟩:=mp_heap hm hl hk hc hu
    refine Eff.val hm hD (x:=.int .i64 _) ?_ (relInt _ _)
    simp[Builtin.len_,run_underlying' ht,goInt,run_getMap g6]
   ·cases hD
  ·cases hD
 ·cases hD
theorem mfind_born {kk vk:MV}{k:List Int}{c:Nat}:∀(es:List (List Int×List Int×Nat)) (i:Nat),
  (∀j y,mfind vk es k i=some (j,y)→i≤j∧y=vk.vl ((mget es k).getD [])∧(((es.map (entV kk vk))[j-i]?).map (·.key))=some (kk.vl k)∧(((es.map (entV kk vk))[j-i]?).map (·.born))=some (mborn es k c)∧
   (es.map (entV kk vk)).modify (j-i) (fun e=>{e with key:=kk.vl k})=(mput es k ((mget es k).getD []) c).map (entV kk vk)∧mhas es k=true)∧
  (mfind vk es k i=none→es.map (entV kk vk)++[{key:=kk.vl k,val:=vk.vl [],born:=c}]=(mput es k ((mget es k).getD []) c).map (entV kk vk)∧mhas es k=false∧mborn es k c=c∧mget es k=none)
 |[],i=>⟨fun j y h=>by simp[mfind]at h,fun _=>⟨rfl,rfl,rfl,rfl⟩⟩
 |e::r,i=>by
  obtain⟨h1,h2⟩:=mfind_born (kk:=kk) (vk:=vk) (k:=k) (c:=c) r (i+1)
  by_cases heq:k=e.1
  ·subst heq
   refine⟨fun j y h=>?_,fun h=>?_⟩
   ·simp only[mfind,if_true,Option.some.injEq,Prod.mk.injEq]at h
    obtain⟨rfl,rfl⟩:=h
    refine⟨Nat.le_refl _,by simp[mget],by simp[entV],by simp[entV,mborn],by simp[mput,mget,entV],by simp[mhas]⟩
   ·simp[mfind]at h
  ·refine⟨fun j y h=>?_,fun h=>?_⟩
   ·simp only[mfind,if_neg heq]at h
    obtain⟨g1,g2,g3,g4,g5,g6⟩:=h1 j y h
    obtain⟨m,rfl⟩:∃m,j=i+1+m:=⟨j-(i+1),by omega⟩
    have e1:i+1+m-i=m+1:=by omega
    have e2:i+1+m-(i+1)=m:=by omega
    rw[e2]at g3 g4 g5
    rw[e1]
    have hg:mget (e::r) k=mget r k:=by simp[mget,heq]
    rw[hg]
    refine⟨by omega,g2,by simpa using g3,by simpa[mborn,heq]using g4,?_,by simp[mhas,heq,g6]⟩
    simp only[List.map_cons,List.modify_succ_cons,mput,heq,decide_false,cond_false]
    rw[g5]
   ·simp only[mfind,if_neg heq]at h
    obtain⟨g1,g2,g3,g4⟩:=h2 h
    have hg:mget (e::r) k=mget r k:=by simp[mget,heq]
    rw[hg]
    refine⟨?_,by simp[mhas,heq,g2],by simp[mborn,heq,g3],g4⟩
    simp only[List.map_cons,List.cons_append,mput,heq,decide_false,cond_false]
    rw[g1]
theorem opMent_sound (hm:MRel G F ρ H w)(hl:∀id o,look id=some o→H id=some o){kk vk:MV}{u v:AV}{x y:Value}{t k e:TypeId}(ht:P.underlying t=some (.map k e))(hk:keyT P k=some kk)(hv:valT P e=some vk)
  (hu:RelV w F ρ H u x) (hy:RelV w F ρ H v y) (hD:opMent look kk vk u v=some D):Eff G F ρ H w ((Instr.mapEntry t x y).run P w) D:=by
 unfold opMent at hD
 split at hD
 ·rename_i id blk es ck kl h1 h2
  rw[cond_eq_ite]at hD
  split at hD
  ·rename_i hmu
   cases hD
   obtain⟨rfl,g1,g2⟩:=mapOf_ok h1
   obtain⟨b,rfl,g3,g4,g5,g6,g7⟩:=mp_heap hm hl g1 g2 hu
   obtain⟨rfl,g8⟩:=MV.rd_ok h2 hy
   obtain⟨f1,_⟩:=keyT_ok hk
   have hz:(zeroValue e).run P w=.ok (vk.vl []) w:=by
    unfold valT at hv
    split at hv
    ·rename_i m i q1 q2
     split at hv
     ·rename_i z hz
      rw[cond_eq_ite]at hv
      split at hv
      ·rename_i hzz
       cases hv
       rw[← isZero_ok hzz]
       simp[zeroValue,typeInfo,q2,hz]
      ·cases hv
     ·cases hv
    ·cases hv
   have hf:=run_findKey (w:=w) (vk:=vk) hk g8 es g7
   obtain⟨m1,m2⟩:=mfind_born (kk:=kk) (vk:=vk) (k:=kl) (c:=ck) es 0
   have hrun:(Instr.mapEntry t (.map (some b)) (kk.vl kl)).run P w=.ok (.tuple #[vk.vl ((mget es kl).getD []),goInt (mborn es kl ck)]) {w with heap:=w.heap.setIfInBounds b (.map ((mput es kl ((mget es kl).getD []) ck).map (entV kk vk)).toArray (mck es kl ck))}:=by
    unfold Instr.mapEntry
    simp only[Sem.run_bind,run_underlying' ht,Result.andThen_ok,run_getMap g6]
    rw[run_checkKey f1 _ 9998 kl]
    simp only[Result.andThen_ok]
    rw[hf]
    simp only[Result.andThen_ok]
    cases hmf:mfind vk es kl 0 with
    |none=>
     obtain⟨q1,q2,q3,q4⟩:=m2 hmf
     simp only[Sem.run_bind,hz,Result.andThen_ok,run_setMap _ g6,Sem.run_pure]
     have:(es.map (entV kk vk)).toArray.push {key:=kk.vl kl,val:=vk.vl [],born:=ck}=((mput es kl ((mget es kl).getD []) ck).map (entV kk vk)).toArray:=by
      rw[← q1];simp
     rw[this]
     simp only[mck,q2,cond_false,q3,q4,Option.getD_none]
    |some p=>
     obtain⟨j,y⟩:=p
     obtain⟨_,q0,q1,q2,q3,q4⟩:=m1 j y hmf
     simp only[Nat.sub_zero]at q1 q2 q3
     have harr:(es.map (entV kk vk)).toArray[j]? =(es.map (entV kk vk))[j]? :=by simp
     have hkey:((((es.map (entV kk vk)).toArray[j]?).map (·.key)).getD (kk.vl kl))=kk.vl kl:=by
      rw[harr,q1];rfl
     have hborn:((((es.map (entV kk vk)).toArray[j]?).map (fun x=>(x.born:Int))).getD 0)=(mborn es kl ck:Nat):=by
      rw[harr]
      cases hq:(es.map (entV kk vk))[j]? with
      |none=>rw[hq]at q2;cases q2
      |some z=>
       rw[hq]at q2
       simp only[Option.map_some,Option.some.injEq]at q2
       simp[q2]
     have hst:(Instr.keyThatStays (kk.vl kl) (kk.vl kl)).run P w=.ok (kk.vl kl) w:=by
      unfold Instr.keyThatStays
      rw[if_pos (same_key f1 9999 kl)]
      rfl
     simp only[Sem.run_bind,hkey,hst,Result.andThen_ok,run_setMap _ g6,Sem.run_pure,hborn]
     have:(es.map (entV kk vk)).toArray.modify j (fun e=>{e with key:=kk.vl kl})=((mput es kl ((mget es kl).getD []) ck).map (entV kk vk)).toArray:=by
      rw[← q3];simp
     rw[this]
     simp only[mck,q4,cond_true,q0]
   obtain⟨p1,p2,p3⟩:=map_write hm (hl _ _ g1) g2 g3 g4 g5 hmu g6 (es':=mput es kl ((mget es kl).getD []) ck) (ck':=mck es kl ck) (mput_len g7 g8)
   exact⟨_,_,F,ρ,hrun,p1,p2,p3,.tup _ _ (.cons _ _ _ _ (MV.rel vk _).toV (.cons _ _ _ _ (.imm _ _ (.int _ _)) .nil))⟩
  ·cases hD
 ·cases hD
theorem mset_len {n:Nat}{s:Int}{v:List Int}:∀{es:List (List Int×List Int×Nat)},(∀e∈es,e.1.length=n)→∀e∈mset es s v,e.1.length=n
 |[],h,e,he=>by simp[mset]at he
 |x::r,h,e,he=>by
  simp only[mset,cond_eq_ite]at he
  split at he
  ·rcases List.mem_cons.1 he with rfl|he
   ·exact h x (by simp)
   ·exact h e (List.mem_cons_of_mem _ he)
  ·rcases List.mem_cons.1 he with rfl|he
   ·exact h e (by simp)
   ·exact mset_len (fun y hy=>h y (List.mem_cons_of_mem _ hy)) e he
theorem mset_find {kk vk:MV}{s:Int}{v:List Int}:∀{es:List (List Int×List Int×Nat)},mst? es s=true→∃i,(es.map (entV kk vk)).findIdx? (fun e=>(e.born:Int)==s)=some i∧(es.map (entV kk vk)).modify i (fun e=>{e with val:=vk.vl v})=(mset es s v).map (entV kk vk)
 |[],h=>by simp[mst?]at h
 |x::r,h=>by
  by_cases hx:(x.2.2:Int)=s
  ·refine⟨0,?_,?_⟩
   ·rw[List.map_cons,List.findIdx?_cons,if_pos (by simpa[entV]using hx)]
   ·simp[mset,hx,entV]
  ·have h':mst? r s=true:=by
    unfold mst? at h ⊢
    rw[List.any_cons]at h
    simpa[hx]using h
   obtain⟨i,h1,h2⟩:=mset_find (kk:=kk) (vk:=vk) (v:=v) h'
   refine⟨i+1,?_,?_⟩
   ·rw[List.map_cons,List.findIdx?_cons,if_neg (by simpa[entV]using hx),h1];rfl
   ·rw[List.map_cons,List.modify_succ_cons,h2]
    simp[mset,hx]
theorem opMst_sound (hm:MRel G F ρ H w)(hl:∀id o,look id=some o→H id=some o){kk vk:MV}{u v v2:AV}{x y z:Value}{t:TypeId}
  (hu:RelV w F ρ H u x) (hy:RelV w F ρ H v y) (hz:RelV w F ρ H v2 z) (hD:opMst look kk vk u v v2=some D) (hc:AllC Sp D.cs):Eff G F ρ H w (((Instr.entryStore t x y z).run P w).andThen fun _ w'=>.ok undef w') D:=by
 unfold opMst at hD
 split at hD
 ·rename_i id blk es ck n vl h1 h3
  rw[cond_eq_ite]at hD
  split at hD
  ·rename_i hmu
   cases hD
   obtain⟨rfl,g1,g2⟩:=mapOf_ok h1
   obtain⟨b,rfl,g3,g4,g5,g6,g7⟩:=mp_heap hm hl g1 g2 hu
   obtain⟨rfl,_⟩:=MV.rd_ok h3 hz
   have:=hy.ints;subst this
   obtain⟨i,q1,q2⟩:=mset_find (kk:=kk) (vk:=vk) (v:=vl) hc.1
   have hrun:(Instr.entryStore t (.map (some b)) (.int .i64 n) (vk.vl vl)).run P w=.ok () {w with heap:=w.heap.setIfInBounds b (.map ((mset es n vl).map (entV kk vk)).toArray ck)}:=by
    unfold Instr.entryStore
    simp only[Sem.run_bind,run_getMap g6,Result.andThen_ok]
    have hi:(asInt (.int .i64 n)).run P w=.ok n w:=by simp[asInt,asIntOf]
    simp only[hi,Result.andThen_ok]
    have hfi:(es.map (entV kk vk)).toArray.findIdx? (fun e=>(e.born:Int)==n)=some i:=by
     rw[← q1];simp
    rw[hfi]
    simp only[run_setMap _ g6]
    have:(es.map (entV kk vk)).toArray.modify i (fun e=>{e with val:=vk.vl vl})=((mset es n vl).map (entV kk vk)).toArray:=by
     rw[← q2];simp
    rw[this]
   obtain⟨p1,p2,p3⟩:=map_write hm (hl _ _ g1) g2 g3 g4 g5 hmu g6 (es':=mset es n vl) (ck':=ck) (mset_len g7)
   exact⟨undef,_,F,ρ,by rw[hrun];rfl,p1,p2,p3,.imm _ _ (.undef _)⟩
  ·cases hD
 ·cases hD
theorem opEnt_sound (hm:MRel G F ρ H w)(hl:∀id o,look id=some o→H id=some o){u:AV}{x:Value}{d:Dir}
  (hu:RelV w F ρ H u x) (hD:opEnt look d u=some D) (hc:AllC Sp D.cs):Eff G F ρ H w ((Instr.entry x).run P w) D:=by
 unfold opEnt at hD
 split at hD
 ·rename_i id
  split at hD
  ·rename_i mid ck seen h1
   split at hD
   ·rename_i blk h2
    split at hD
    ·rename_i kk vk es ck' v hbc
     obtain⟨c1,c2,_⟩:=val_cs hD▸hc
     have c1:ck'=ck:=c1
     subst c1
     obtain⟨b,mb,z1,z2,z3,z4⟩:=hm.heap id _ (hl _ _ h1)
     have hptr:x=.pointer (some ⟨b,0,none⟩):=by
      cases hu with
      |imm _ _ hi=>cases hi
      |ptr _ _ b' _ hb _ _=>rw[z1]at hb;cases hb;rfl
     subst hptr
     obtain⟨mb',e1,_,_,_,hmap,_⟩:=mp_heap hm hl h2 hbc z4
     cases e1
     have c2:(entL kk vk es seen)[0]? =some v:=c2
     unfold entL at c2
     rw[List.getElem?_map]at c2
     cases hfl:es.filter (fun e=>decide (seen.getLast? =some e.2.2))with
     |nil=>rw[hfl]at c2;cases c2
     |cons e0 r0=>
      rw[hfl]at c2
      simp only[List.getElem?_cons_zero,Option.map_some,Option.some.injEq]at c2
      have hmem:e0∈es.filter (fun e=>decide (seen.getLast? =some e.2.2)):=by rw[hfl];simp
      have hlast:seen.getLast? =some e0.2.2:=by simpa using(List.mem_filter.1 hmem).2
      have hfind:(es.map (entV kk vk)).find? (fun e=>e.born==e0.2.2)=some (entV kk vk e0):=by
       rw[List.find?_map]
       have:es.find? ((fun e:MapEntry=>e.born==e0.2.2)∘entV kk vk)=some e0:=by
        rw[← List.head?_filter]
        have:List.filter ((fun e:MapEntry=>e.born==e0.2.2)∘entV kk vk) es=List.filter (fun e=>decide (seen.getLast? =some e.2.2)) es:=List.filter_congr (fun e _=>by
         rw[hlast,Bool.eq_iff_iff]
         simp only[Function.comp_apply,entV,beq_iff_eq,decide_eq_true_eq,Option.some.injEq]
         exact⟨Eq.symm,Eq.symm⟩)
        rw[this,hfl];rfl
       rw[this];rfl
      have hgo:∀{α:Type} (r:Nat) (ob:Obj) (k:Obj→Sem α),w.heap[r]? =some ob→(∀cs ty fz,ob≠ .cells cs ty fz)→((getObj r).bind k).run P w=(k ob).run P w:=fun r ob k h hc=>by
       show(Sem.getObj r _).run P w=_
       simp only[Sem.run,h]
       cases ob<;>first|rfl|exact absurd rfl (hc _ _ _)
      have hrun:(Instr.entry (.pointer (some ⟨b,0,none⟩))).run P w=.ok (.tuple #[kk.vl e0.1,vk.vl e0.2.1]) w:=by
       unfold Instr.entry
       simp only[bind]
       rw[hgo b _ _ z3 (fun _ _ _ h=>by cases h)]
       have hb:(seen.toArray).back? =some e0.2.2:=by simp[hlast]
       simp only[hb,bind]
       rw[hgo mb _ _ hmap (fun _ _ _ h=>by cases h)]
       have hf2:(es.map (entV kk vk)).toArray.find? (fun e=>e.born==e0.2.2)=some (entV kk vk e0):=by rw[← hfind];simp
       simp[hf2,entV]
      refine Eff.val hm hD hrun ?_
      rw[← c2]
      exact .tup _ _ (.cons _ _ _ _ (MV.rel kk e0.1).toV (.cons _ _ _ _ (MV.rel vk e0.2.1).toV .nil))
    ·cases hD
   ·cases hD
  ·cases hD
 ·cases hD
end
end Go.Ab

/-
 copy.
-/
set_option linter.unusedVariables false
set_option linter.unusedSimpArgs false
namespace Go.Ab
open Go
section
variable {P:Program}{G:GL}{F F':Nat→Prop}{ρ:Nat→Option Nat}{H:Nat→Option HO}{w:World}{look:Nat→Option HO}{Sp:SpT}{D:Delta}

theorem take0_size (c:Cont):(c.take 0).size=0:=by cases c<;>simp[Cont.take,Cont.size]
theorem opCopy_sound (hm:MRel G F ρ H w)(hl:∀id o,look id=some o→H id=some o){sz by_:Nat}{u v:AV}{x y:Value}{sT xT e ty:TypeId}
  (hs:P.underlying sT=some (.slice e)) (he:ElOk P e sz by_)
  (hu:RelV w F ρ H u x) (hv:RelV w F ρ H v y) (hD:opCopy look sz u v=some D) (hc:AllC Sp D.cs):
  Eff G F ρ H w ((Builtin.copy_ #[sT,xT] ty #[x,y]).run P w) D:=by
 obtain⟨inf,z0,t1,t2,t3,t4,t5⟩:=he.inf
 unfold opCopy at hD
 split at hD
 ·rename_i yc m cs hsrc
  split at hD
  ·rename_i yc' ids cs' hfrz
   obtain⟨F1,f1,f2,f3,f4,f5,f6⟩:=frzAll (look:=look) ids F H hm (fun id k hk=>.inl (hl _ _ hk))
   have key:AllC Sp cs→AllC Sp cs'→∃(a:Option Addr) (cap:Nat) (cells:List Value),y=.slice a m cap∧yc'.size=m*sz∧cells.length=m*sz∧(a=none→m=0)∧
     (∀b,a=some b→∀j y,cells[j]? =some y→w.cell? (b.add j)=some y)∧(∀j y,cells[j]? =some y→RelI w F1 (yc'.getV j) y∧y.oneCell'=true):=by
    intro h1 h2
    obtain⟨a,cap,cells,q1,q2,q3,q4,q5,q6⟩:=src_sound hm hl hsrc h1 hv
    obtain⟨g1,g2⟩:=(frz_sound hm hl f2.keep 60).2.2 _ _ _ _ hfrz h2 (fun id hid b hb=>f4 id hid ((frz_ids 60).2.2 _ _ _ _ hfrz id hid) b hb)
    refine⟨a,cap,cells,q1,g1.trans q2,q3,q4,q5,fun j z hj=>?_⟩
    have hlt:j<yc.size:=by rw[q2,← q3];exact(List.getElem?_eq_some_iff.1 hj).1
    exact⟨g2 j hlt z (q6 j z hj),(q6 j z hj).2⟩
   split at hD
   ·rename_i id len
    split at hD
    ·rename_i k hk
     have hH:=hl _ _ hk
     simp only[cond_eq_ite]at hD
     split at hD
     ·rename_i hcond
      simp only[Bool.and_eq_true,Bool.not_eq_true']at hcond
      obtain⟨hmu,hbx,hmem,hsz⟩:=hcond
      have hsz:k.sz=sz:=Nat.eq_of_beq_eq_true hsz
      have hmem:id∉ids:=by
       intro h
       have:memN id ids=true:=memN_of_mem h
       rw[this]at hmem;cases hmem
      split at hD
      ·rename_i c' happ
       cases hD
       obtain⟨c1,c2,c3⟩:=hc
       obtain⟨c3,c4⟩:=c3.app
       have hn:k.n=len:=c1
       have hml:m=len:=c2
       subst hml
       obtain⟨a,cap,cells,q1,q2,q3,q4,q5,q6⟩:=key c3 c4
       subst q1
       have hcs:cells.length=yc'.size:=by rw[q2,q3]
       have first:(Builtin.firstCells sz m (.slice a m cap)).run P w=.ok cells.toArray w:=run_firstCells q3 q4 (fun b hb j z hj=>q5 b hb j z hj)
       have hH1:updL H (frzW look ids) id=some (.blk k):=by
        rcases f5 id k hk with h|h
        ·rw[h,hH]
        ·exact absurd h.1 hmem
       obtain⟨s1,s2,s3⟩:=app_spec (w:=w) (F:=F1) (ρ:=ρ) (H:=updL H (frzW look ids)) happ
       rw[take0_size,Nat.zero_add]at s1
       rw[take0_size]at s3
       have hksz:k.c.size=m*sz:=by rw[(hm.heap id _ hH).1,hn,hsz]
       have hnm:k.c.isMap=false:=by
        have:=(app_nmap happ).1
        cases hkc:k.c<;>rw[hkc]at this<;>first|rfl|cases this
       let k':Blk:={k with c:=c'}
       have hk'sz:k'.c.size=k'.n*k'.sz:=by
        show c'.size=k.n*k.sz
        rw[s1,q2,hn,hsz]
       have run:∀(base:Option Addr) (cp:Nat) (w':World),x=.slice base m cp→((match base with|some b=>(storeCells b cells).run P w|none=>.ok () w)=.ok () w')→
         (Builtin.copy_ #[sT,xT] ty #[x,.slice a m cap]).run P w=.ok (.int .i64 m) w':=by
        intro base cp w' hx hst
        subst hx
        unfold Builtin.copy_
        simp only[List.getElem?_toArray,List.getElem?_cons_zero,List.getElem?_cons_succ]
        have hmin:Nat.min m m=m:=Nat.min_self m
        simp only[Sem.run_bind,run_underlying' hs,Result.andThen_ok,run_sizeOf' t1,t2,Sem.run_pure,Builtin.lenOf,hmin,first]
        cases base with
        |none=>cases hst;rfl
        |some b=>
         simp only[Sem.run_bind]at hst ⊢
         rw[hst]
         rfl
       have fin:∀w' ρ',MRel G F1 ρ' (upd (updL H (frzW look ids)) id (some (.blk k'))) w'→Ext G F1 ρ w F1 ρ' w'→HKeep w ρ (updL H (frzW look ids)) w' ρ' (upd (updL H (frzW look ids)) id (some (.blk k')))→
         (Builtin.copy_ #[sT,xT] ty #[x,.slice a m cap]).run P w=.ok (.int .i64 m) w'→Eff G F ρ H w ((Builtin.copy_ #[sT,xT] ty #[x,.slice a m cap]).run P w)
         {v:=.int .i64 m,ws:=frzW look ids++[(id,.blk k')],al:=[],cs:=.eqn k.n m:: .eqn m m::(cs++cs')}:=by
        intro w' ρ' p1 p2 p3 hrun
        refine⟨_,w',F1,ρ',hrun,?_⟩
        rw[updL_app]
        exact⟨p1,f2.trans p2,f3.trans p3,relInt _ _⟩
       have still:m=0→x=.slice none 0 0∨(∃a0,x=.slice (some a0) 0 0)→Eff G F ρ H w ((Builtin.copy_ #[sT,xT] ty #[x,.slice a m cap]).run P w)
         {v:=.int .i64 m,ws:=frzW look ids++[(id,.blk k')],al:=[],cs:=.eqn k.n m:: .eqn m m::(cs++cs')}:=by
        intro hm0 hx
        have hcl:cells=[]:=by rw[hm0]at q3;simpa using q3
        have hrel:RelO G w F1 ρ (updL H (frzW look ids)) id (.blk k):=f1.heap id _ hH1
        have hz:k'.c.size=0:=by show c'.size=0;rw[s1,q2,hm0];simp
        obtain⟨p1,p2,p3⟩:=f1.setH (k':=k') hH1 rfl rfl rfl rfl (.inl rfl) (fun hk=>by
         refine⟨hk'sz,?_⟩
         rcases hrel.2 with h|⟨b,h1,h2⟩
         ·exact .inl h
         ·obtain⟨cs1,ty1,fz1,z1,z2,z3,z4⟩:=h2.ex hnm
          exact .inr ⟨b,h1,RelB.ofCells (app_nmap happ).2 ⟨cs1,ty1,fz1,z1,z2,by omega,fun i hi=>by omega⟩ h2.mu h2.fr⟩)
        refine fin w ρ p1 p2 p3 ?_
        rcases hx with hx|⟨a0,hx⟩
        ·exact run none 0 w (by rw[hm0];exact hx) rfl
        ·exact run (some a0) 0 w (by rw[hm0];exact hx) (by rw[hcl];rfl)
       have fullGo:FullOk w ρ id m k x→Eff G F ρ H w ((Builtin.copy_ #[sT,xT] ty #[x,.slice a m cap]).run P w)
         {v:=.int .i64 m,ws:=frzW look ids++[(id,.blk k')],al:=[],cs:=.eqn k.n m:: .eqn m m::(cs++cs')}:=by
        intro hfull
        rcases hfull with⟨h0,hnil,hcap0,hx⟩|⟨h0,hnil,hcap0,a0,hx⟩|⟨hnil,b,sCap,ocs,oty,ofz,e1,e2,rfl,e3,e4,e5⟩
        ·exact still h0 (.inl hx)
        ·exact still h0 (.inr ⟨a0,hx⟩)
        ·obtain⟨_,h1|⟨b',h1,hB⟩⟩:=f1.heap id _ hH1
         ·rw[e1]at h1;cases h1.2
         rw[e1]at h1;cases h1
         obtain⟨ocs',oty',ofz',z1,z2,z3,z4⟩:=hB.ex hnm
         rw[e2]at z1;cases z1
         have hFb:¬ F1 b:=hB.mu hmu
         have hfit:0+cells.length≤ocs.size:=by
          rw[q3,Nat.zero_add,← hksz];exact z3
         have hone:∀v∈cells,v.oneCell'=true:=by
          intro z hz
          obtain⟨j,hj,rfl⟩:=List.getElem_of_mem hz
          exact(q6 j _ (List.getElem?_eq_getElem hj)).2
         obtain⟨w',cs',p1,p2,p3,p4,p5,p6,p7,p8⟩:=run_storeCells (G:=G) (P:=P) b oty ofz cells 0 0 ocs w hone e2 (fun j _=>z2 j) (by omega)
         obtain⟨g1,g2,g3⟩:=f1.write (w':=w') (o':=.blk k') hH1 e1 hFb p2 p6 p7 p8 (fun cs0 ty0 fz0 h=>by rw[e2]at h;cases h;exact⟨cs',oty,ofz,rfl,p3⟩) rfl
          (fun k0 h=>by cases h;exact⟨k',rfl,Nat.le_refl _,fun _=>⟨rfl,rfl,.inl rfl⟩⟩) (fun hk=>by
           refine⟨hk'sz,.inr ⟨b,e1,RelB.ofCells (app_nmap happ).2 ⟨cs',oty,ofz,p2,z2,?_,fun i hi=>?_⟩ (fun _=>hFb) (fun e=>by rw[show k'.mu=k.mu from rfl,hmu]at e;cases e)⟩⟩
           ·rw[p3];show c'.size≤_;rw[s1,q2,← hksz];exact z3
           ·have hwF:∀b,F1 b→w'.heap[b]? =w.heap[b]? :=fun j hj=>p6 j (fun e=>hFb (e▸hj))
            have hi:i<c'.size:=hi
            have hj:i<cells.length:=by rw[hcs,← s1];exact hi
            refine⟨cells[i],?_,?_⟩
            ·have:=p4 i hj
             rw[show 0+0+i=i by omega]at this
             rw[this];exact List.getElem?_eq_getElem hj
            ·have:=s3 i _ (by rw[← hcs];exact hj) (q6 _ _ (List.getElem?_eq_getElem hj)).1 (q6 _ _ (List.getElem?_eq_getElem hj)).2
             rw[Nat.zero_add]at this
             exact this.mono hwF (fun _ h=>h) hk)
         exact fin w' ρ g1 g2 g3 (run (some ⟨b,0,none⟩) sCap w' rfl p1)
       cases hu with
       |imm _ _ hi=>cases hi
       |full _ _ k1 _ hh hle hp hxx=>
        rw[hH]at hh;cases hh
        exact fullGo (hxx hn)
      ·cases hD
     ·cases hD
    ·cases hD
   ·cases hD
  ·cases hD
 ·cases hD
theorem putA_eq (l1 l2:List Int)(off m:Nat):putA l1 l2 off m=l1.take off++(l2++l1.drop (off+m)):=by
 cases off with
 |zero=>unfold putA;rw[List.take_zero,List.nil_append,Nat.zero_add]
 |succ n=>rfl
theorem putA_len {l1 l2:List Int}{off m:Nat}(h2:l2.length=m)(h:off+m≤l1.length):(putA l1 l2 off m).length=l1.length:=by
 rw[putA_eq,List.length_append,List.length_append,List.length_take,List.length_drop];omega
theorem putA_in {l1 l2:List Int}{off m i:Nat}(h2:l2.length=m)(h:off+m≤l1.length)(h3:off≤i)(h4:i<off+m):(putA l1 l2 off m).getD i 0=l2.getD (i-off) 0:=by
 have ht:(l1.take off).length=off:=by rw[List.length_take];omega
 rw[putA_eq,List.getD_eq_getElem?_getD,List.getElem?_append_right (by omega),ht,List.getElem?_append_left (by omega),List.getD_eq_getElem?_getD]
theorem putA_out {l1 l2:List Int}{off m i:Nat}(h2:l2.length=m)(h:off+m≤l1.length)(h3:i<off∨off+m≤i):(putA l1 l2 off m).getD i 0=l1.getD i 0:=by
 have ht:(l1.take off).length=off:=by rw[List.length_take];omega
 rw[putA_eq,List.getD_eq_getElem?_getD,List.getD_eq_getElem?_getD]
 rcases h3 with h3|h3
 ·rw[List.getElem?_append_left (by omega),List.getElem?_take,if_pos h3]
 ·rw[List.getElem?_append_right (by omega),ht,List.getElem?_append_right (by omega),List.getElem?_drop,show off+m+(i-off-l2.length)=i by omega]
theorem opCopyS_sound (hm:MRel G F ρ H w)(hl:∀id o,look id=some o→H id=some o){sz by_:Nat}{u v:AV}{x y:Value}{sT xT e ty:TypeId}
  (hs:P.underlying sT=some (.slice e)) (he:ElOk P e sz by_)
  (hu:RelV w F ρ H u x) (hv:RelV w F ρ H v y) (hD:opCopyS look sz u v=some D) (hc:AllC Sp D.cs):
  Eff G F ρ H w ((Builtin.copy_ #[sT,xT] ty #[x,y]).run P w) D:=by
 obtain⟨inf,z0,t1,t2,t3,t4,t5⟩:=he.inf
 unfold opCopyS at hD
 split at hD
 ·rename_i id off len wn hdst
  split at hD
  ·rename_i c2 m cs k hsrc hk
   split at hD
   ·rename_i k2 l2 k1 l1 hkc
    rw[cond_eq_ite]at hD
    split at hD
    ·rename_i hcond
     simp only[Bool.and_eq_true]at hcond
     obtain⟨hmu,hks,hsz,hkk⟩:=hcond
     obtain rfl:=Nat.eq_of_beq_eq_true hsz
     have hks:=Nat.eq_of_beq_eq_true hks
     obtain rfl:=beqK_ok0 hkk
     cases hD
     obtain⟨c1,c3,c4,hcs⟩:=hc
     have c1:m≤len:=Nat.le_of_ble_eq_true c1
     have c3:off+len≤l1.length:=Nat.le_of_ble_eq_true c3
     have c4:k.n=wn.getD k.n:=c4
     obtain⟨a,cap,cells,q1,q2,q3,q4,q5,q6⟩:=src_sound hm hl hsrc hcs hv
     have hl2:l2.length=m:=by simpa[Cont.size]using q2
     have q3:cells.length=m:=by simpa using q3
     subst q1
     have hH:=hl _ _ hk
     have core:∀b cp,ρ id=some b→x=.slice (some ⟨b,off,none⟩) len cp→Eff G F ρ H w ((Builtin.copy_ #[sT,xT] ty #[x,.slice a m cap]).run P w)
       {v:=.int .i64 m,ws:=[(id,.blk {k with c:=.ints k1 (putA l1 l2 off m)})],al:=[],cs:=.b (Nat.ble m len):: .b (Nat.ble (off+len) l1.length):: .eqn k.n (wn.getD k.n)::cs}:=by
      intro b cp hb hxx
      subst hxx
      obtain⟨hksz,h1|⟨b',h1,hB⟩⟩:=hm.heap id _ hH
      ·rw[hb]at h1;cases h1.2
      rw[hb]at h1;cases h1
      have hnm:k.c.isMap=false:=by rw[hkc];rfl
      obtain⟨ocs,oty,ofz,z1,z2,z3,z4⟩:=hB.ex hnm
      rw[hkc]at z3 z4
      have z3:l1.length≤ocs.size:=z3
      have hFb:¬ F b:=hB.mu hmu
      have hone:∀v∈cells,v.oneCell'=true:=by
       intro z hz
       obtain⟨j,hj,rfl⟩:=List.getElem_of_mem hz
       exact(q6 j _ (List.getElem?_eq_getElem hj)).2
      have first:(Builtin.firstCells 1 m (.slice a m cap)).run P w=.ok cells.toArray w:=run_firstCells (by simpa using q3) q4 (fun b hb j z hj=>q5 b hb j z hj)
      obtain⟨w',cs',p1,p2,p3,p4,p5,p6,p7,p8⟩:=run_storeCells (G:=G) (P:=P) b oty ofz cells off 0 ocs w hone z1 (fun j _=>z2 j) (by omega)
      have hmin:Nat.min m len=m:=Nat.min_eq_left c1
      have hrun:(Builtin.copy_ #[sT,xT] ty #[.slice (some ⟨b,off,none⟩) len cp,.slice a m cap]).run P w=.ok (.int .i64 m) w':=by
       unfold Builtin.copy_
       simp only[List.getElem?_toArray,List.getElem?_cons_zero,List.getElem?_cons_succ]
       simp only[Sem.run_bind,run_underlying' hs,Result.andThen_ok,run_sizeOf' t1,t2,Sem.run_pure,Builtin.lenOf,hmin,first]
       rw[p1]
       rfl
      let k':Blk:={k with c:=.ints k1 (putA l1 l2 off m)}
      have hsz':(putA l1 l2 off m).length=l1.length:=putA_len hl2 (by omega)
      have hksz:l1.length=k.n*k.sz:=by rw[hkc]at hksz;exact hksz
      have hwF:∀b,F b→w'.heap[b]? =w.heap[b]? :=fun j hj=>p6 j (fun e=>hFb (e▸hj))
      obtain⟨g1,g2,g3⟩:=hm.write (w':=w') (o':=.blk k') hH hb hFb p2 p6 p7 p8 (fun cs0 ty0 fz0 h=>by rw[z1]at h;cases h;exact⟨cs',oty,ofz,rfl,p3⟩) rfl
       (fun k0 h=>by cases h;exact⟨k',rfl,Nat.le_refl _,fun _=>⟨rfl,rfl,.inl rfl⟩⟩) (fun hkp=>by
        refine⟨by show(putA l1 l2 off m).length=k.n*k.sz;rw[hsz',hksz],.inr ⟨b,hb,RelB.ofCells rfl ⟨cs',oty,ofz,p2,z2,?_,fun i hi=>?_⟩ (fun _=>hFb) (fun e=>by rw[show k'.mu=k.mu from rfl,hmu]at e;cases e)⟩⟩
        ·show(putA l1 l2 off m).length≤_
         rw[p3,hsz'];exact z3
        ·have hi:i<(putA l1 l2 off m).length:=hi
         rw[hsz']at hi
         by_cases him:off≤i∧i<off+m
         ·have hj:i-off<cells.length:=by omega
          refine⟨cells[i-off],?_,?_⟩
          ·have:=p4 (i-off) hj
           rw[show off+0+(i-off)=i by omega]at this
           rw[this];exact List.getElem?_eq_getElem hj
          ·obtain⟨r1,r2⟩:=q6 (i-off) _ (List.getElem?_eq_getElem hj)
           refine⟨?_,r2⟩
           have r1:RelI w F (.int k1 (l2.getD (i-off) 0)) cells[i-off]:=r1
           show RelI w' F (.int k1 ((putA l1 l2 off m).getD i 0)) _
           rw[putA_in hl2 (by omega) him.1 him.2]
           exact r1.mono hwF (fun _ h=>h)
         ·obtain⟨x,x1,x2,x3⟩:=z4 i hi
          refine⟨x,?_,?_,x3⟩
          ·rw[p5 i (by omega)];exact x1
          ·have x2:RelI w F (.int k1 (l1.getD i 0)) x:=x2
           show RelI w' F (.int k1 ((putA l1 l2 off m).getD i 0)) x
           rw[putA_out hl2 (by omega) (by omega)]
           exact x2.mono hwF (fun _ h=>h))
      exact⟨_,w',F,ρ,hrun,g1,g2,g3,relInt _ _⟩
     unfold dstS at hdst
     split at hdst
     ·cases hdst
      cases hu with
      |imm _ _ hi=>cases hi
      |sl _ _ _ _ b k' hb hh hx hlc=>exact core b _ hb rfl
     ·rename_i id' n'
      rw[cond_eq_ite]at hdst
      split at hdst
      ·rename_i hn0
       cases hdst
       have hn0:0<len:=Nat.le_of_ble_eq_true hn0
       have hkn:k.n=len:=c4
       cases hu with
       |imm _ _ hi=>cases hi
       |full _ _ k' _ hh hle hp hxx=>
        rw[hH]at hh;cases hh
        rcases hxx hkn with⟨h0,_⟩|⟨h0,_⟩|⟨_,b,cp,_,_,_,e1,_,e3,_⟩
        ·omega
        ·omega
        ·exact core b cp e1 e3
      ·cases hdst
     ·rename_i id' n' sz' off' len'
      rw[cond_eq_ite]at hdst
      split at hdst
      ·rename_i hn0
       rw[Bool.and_eq_true]at hn0
       cases hdst
       have hn1:0<n':=Nat.le_of_ble_eq_true hn0.1
       obtain rfl:=Nat.eq_of_beq_eq_true hn0.2
       have hkn:k.n=n':=c4
       cases hu with
       |imm _ _ hi=>cases hi
       |vw _ _ _ _ _ k' _ hh hle hp hxx=>
        rw[hH]at hh;cases hh
        obtain⟨_,a0,c0,hfo,rfl⟩:=hxx hkn
        rcases hfo with⟨h0,_⟩|⟨h0,_⟩|⟨_,b,cp,_,_,_,e1,_,e3,_⟩
        ·omega
        ·omega
        ·cases e3
         refine core b (c0-off) e1 ?_
         simp[Addr.add]
         omega
      ·cases hdst
     ·cases hdst
    ·cases hD
   ·cases hD
  ·cases hD
 ·cases hD
theorem opCopyL_sound (hm:MRel G F ρ H w)(hl:∀id o,look id=some o→H id=some o){sz by_:Nat}{u v:AV}{x y:Value}{sT xT e ty:TypeId}
  (hs:P.underlying sT=some (.slice e)) (he:ElOk P e sz by_)
  (hu:RelV w F ρ H u x) (hv:RelV w F ρ H v y) (hD:opCopyL look sz u v=some D) (hc:AllC Sp D.cs):
  Eff G F ρ H w ((Builtin.copy_ #[sT,xT] ty #[x,y]).run P w) D:=by
 obtain⟨inf,z0,t1,t2,t3,t4,t5⟩:=he.inf
 unfold opCopyL at hD
 split at hD
 ·rename_i id off len wn hdst
  split at hD
  ·rename_i c2 m cs k hsrc hk
   split at hD
   ·rename_i k2 l2 k1 l1 hkc
    rw[cond_eq_ite]at hD
    split at hD
    ·rename_i hcond
     simp only[Bool.and_eq_true]at hcond
     obtain⟨hmu,hks,hsz,hkk⟩:=hcond
     obtain rfl:=Nat.eq_of_beq_eq_true hsz
     have hks:=Nat.eq_of_beq_eq_true hks
     obtain rfl:=beqK_ok0 hkk
     cases hD
     obtain⟨c1,c3,c4,hcs⟩:=hc
     have c1:len≤m:=Nat.le_of_ble_eq_true c1
     have c3:off+len≤l1.length:=Nat.le_of_ble_eq_true c3
     have c4:k.n=wn.getD k.n:=c4
     obtain⟨a,cap,cells,q1,q2,q3,q4,q5,q6⟩:=src_sound hm hl hsrc hcs hv
     have hl2:(l2.take len).length=len:=by
      have:l2.length=m:=by simpa[Cont.size]using q2
      simp;omega
     have q3:(cells.take len).length=len:=by
      have:cells.length=m:=by simpa using q3
      simp;omega
     have q4:a=none→len=0:=fun e=>by have:=q4 e;omega
     have q5:∀b,a=some b→∀j y,(cells.take len)[j]? =some y→w.cell? (b.add j)=some y:=fun b hb j y hj=>by
      rw[List.getElem?_take]at hj
      split at hj
      ·exact q5 b hb j y hj
      ·cases hj
     have q6:∀j y,(cells.take len)[j]? =some y→RelE w F ρ H (.ints k1 (l2.take len)) j y:=fun j y hj=>by
      rw[List.getElem?_take]at hj
      split at hj
      ·rename_i hlt
       obtain⟨r1,r2⟩:=q6 j y hj
       refine⟨?_,r2⟩
       have r1:RelI w F (.int k1 (l2.getD j 0)) y:=r1
       show RelI w F (.int k1 ((l2.take len).getD j 0)) y
       rw[List.getD_eq_getElem?_getD,List.getElem?_take,if_pos hlt,← List.getD_eq_getElem?_getD];exact r1
      ·cases hj
     generalize hcl:cells.take len=cells' at q3 q5 q6
     generalize hll:l2.take len=l2' at hl2 q6 ⊢
     subst q1
     have hH:=hl _ _ hk
     have core:∀b cp,ρ id=some b→x=.slice (some ⟨b,off,none⟩) len cp→Eff G F ρ H w ((Builtin.copy_ #[sT,xT] ty #[x,.slice a m cap]).run P w)
       {v:=.int .i64 len,ws:=[(id,.blk {k with c:=.ints k1 (putA l1 l2' off len)})],al:=[],cs:=.b (Nat.ble len m):: .b (Nat.ble (off+len) l1.length):: .eqn k.n (wn.getD k.n)::cs}:=by
      intro b cp hb hxx
      subst hxx
      obtain⟨hksz,h1|⟨b',h1,hB⟩⟩:=hm.heap id _ hH
      ·rw[hb]at h1;cases h1.2
      rw[hb]at h1;cases h1
      have hnm:k.c.isMap=false:=by rw[hkc];rfl
      obtain⟨ocs,oty,ofz,z1,z2,z3,z4⟩:=hB.ex hnm
      rw[hkc]at z3 z4
      have z3:l1.length≤ocs.size:=z3
      have hFb:¬ F b:=hB.mu hmu
      have hone:∀v∈cells',v.oneCell'=true:=by
       intro z hz
       obtain⟨j,hj,rfl⟩:=List.getElem_of_mem hz
       exact(q6 j _ (List.getElem?_eq_getElem hj)).2
      have first:(Builtin.firstCells 1 len (.slice a m cap)).run P w=.ok cells'.toArray w:=by
       have:=run_firstCells (P:=P) (w:=w) (a:=a) (m:=len) (cap:=cap) (sz:=1) (by simpa using q3) q4 (fun b hb j z hj=>q5 b hb j z hj)
       cases a<;>exact this
      obtain⟨w',cs',p1,p2,p3,p4,p5,p6,p7,p8⟩:=run_storeCells (G:=G) (P:=P) b oty ofz cells' off 0 ocs w hone z1 (fun j _=>z2 j) (by omega)
      have hmin:Nat.min m len=len:=Nat.min_eq_right c1
      have hrun:(Builtin.copy_ #[sT,xT] ty #[.slice (some ⟨b,off,none⟩) len cp,.slice a m cap]).run P w=.ok (.int .i64 len) w':=by
       unfold Builtin.copy_
       simp only[List.getElem?_toArray,List.getElem?_cons_zero,List.getElem?_cons_succ]
       simp only[Sem.run_bind,run_underlying' hs,Result.andThen_ok,run_sizeOf' t1,t2,Sem.run_pure,Builtin.lenOf,hmin,first]
       rw[p1]
       rfl
      let k':Blk:={k with c:=.ints k1 (putA l1 l2' off len)}
      have hsz':(putA l1 l2' off len).length=l1.length:=putA_len hl2 (by omega)
      have hksz:l1.length=k.n*k.sz:=by rw[hkc]at hksz;exact hksz
      have hwF:∀b,F b→w'.heap[b]? =w.heap[b]? :=fun j hj=>p6 j (fun e=>hFb (e▸hj))
      obtain⟨g1,g2,g3⟩:=hm.write (w':=w') (o':=.blk k') hH hb hFb p2 p6 p7 p8 (fun cs0 ty0 fz0 h=>by rw[z1]at h;cases h;exact⟨cs',oty,ofz,rfl,p3⟩) rfl
       (fun k0 h=>by cases h;exact⟨k',rfl,Nat.le_refl _,fun _=>⟨rfl,rfl,.inl rfl⟩⟩) (fun hkp=>by
        refine⟨by show(putA l1 l2' off len).length=k.n*k.sz;rw[hsz',hksz],.inr ⟨b,hb,RelB.ofCells rfl ⟨cs',oty,ofz,p2,z2,?_,fun i hi=>?_⟩ (fun _=>hFb) (fun e=>by rw[show k'.mu=k.mu from rfl,hmu]at e;cases e)⟩⟩
        ·show(putA l1 l2' off len).length≤_
         rw[p3,hsz'];exact z3
        ·have hi:i<(putA l1 l2' off len).length:=hi
         rw[hsz']at hi
         by_cases him:off≤i∧i<off+len
         ·have hj:i-off<cells'.length:=by omega
          refine⟨cells'[i-off],?_,?_⟩
          ·have:=p4 (i-off) hj
           rw[show off+0+(i-off)=i by omega]at this
           rw[this];exact List.getElem?_eq_getElem hj
          ·obtain⟨r1,r2⟩:=q6 (i-off) _ (List.getElem?_eq_getElem hj)
           refine⟨?_,r2⟩
           have r1:RelI w F (.int k1 (l2'.getD (i-off) 0)) cells'[i-off]:=r1
           show RelI w' F (.int k1 ((putA l1 l2' off len).getD i 0)) _
           rw[putA_in hl2 (by omega) him.1 him.2]
           exact r1.mono hwF (fun _ h=>h)
         ·obtain⟨x,x1,x2,x3⟩:=z4 i hi
          refine⟨x,?_,?_,x3⟩
          ·rw[p5 i (by omega)];exact x1
          ·have x2:RelI w F (.int k1 (l1.getD i 0)) x:=x2
           show RelI w' F (.int k1 ((putA l1 l2' off len).getD i 0)) x
           rw[putA_out hl2 (by omega) (by omega)]
           exact x2.mono hwF (fun _ h=>h))
      exact⟨_,w',F,ρ,hrun,g1,g2,g3,relInt _ _⟩
     unfold dstS at hdst
     split at hdst
     ·cases hdst
      cases hu with
      |imm _ _ hi=>cases hi
      |sl _ _ _ _ b k' hb hh hx hlc=>exact core b _ hb rfl
     ·rename_i id' n'
      rw[cond_eq_ite]at hdst
      split at hdst
      ·rename_i hn0
       cases hdst
       have hn0:0<len:=Nat.le_of_ble_eq_true hn0
       have hkn:k.n=len:=c4
       cases hu with
       |imm _ _ hi=>cases hi
       |full _ _ k' _ hh hle hp hxx=>
        rw[hH]at hh;cases hh
        rcases hxx hkn with⟨h0,_⟩|⟨h0,_⟩|⟨_,b,cp,_,_,_,e1,_,e3,_⟩
        ·omega
        ·omega
        ·exact core b cp e1 e3
      ·cases hdst
     ·rename_i id' n' sz' off' len'
      rw[cond_eq_ite]at hdst
      split at hdst
      ·rename_i hn0
       rw[Bool.and_eq_true]at hn0
       cases hdst
       have hn1:0<n':=Nat.le_of_ble_eq_true hn0.1
       obtain rfl:=Nat.eq_of_beq_eq_true hn0.2
       have hkn:k.n=n':=c4
       cases hu with
       |imm _ _ hi=>cases hi
       |vw _ _ _ _ _ k' _ hh hle hp hxx=>
        rw[hH]at hh;cases hh
        obtain⟨_,a0,c0,hfo,rfl⟩:=hxx hkn
        rcases hfo with⟨h0,_⟩|⟨h0,_⟩|⟨_,b,cp,_,_,_,e1,_,e3,_⟩
        ·omega
        ·omega
        ·cases e3
         refine core b (c0-off) e1 ?_
         simp[Addr.add]
         omega
      ·cases hdst
     ·cases hdst
    ·cases hD
   ·cases hD
  ·cases hD
 ·cases hD
theorem opCopy2_sound (hm:MRel G F ρ H w)(hl:∀id o,look id=some o→H id=some o){sz by_:Nat}{u v:AV}{x y:Value}{sT xT e ty:TypeId}
  (hs:P.underlying sT=some (.slice e)) (he:ElOk P e sz by_)
  (hu:RelV w F ρ H u x) (hv:RelV w F ρ H v y) (hD:opCopy2 look sz u v=some D) (hc:AllC Sp D.cs):
  Eff G F ρ H w ((Builtin.copy_ #[sT,xT] ty #[x,y]).run P w) D:=by
 unfold opCopy2 at hD
 split at hD
 ·rename_i hS
  cases hD
  exact opCopyS_sound hm hl hs he hu hv hS hc
 ·exact opCopy_sound hm hl hs he hu hv hD hc
theorem opCopy3_sound (hm:MRel G F ρ H w)(hl:∀id o,look id=some o→H id=some o){d:Dir}{sz by_:Nat}{u v:AV}{x y:Value}{sT xT e ty:TypeId}
  (hs:P.underlying sT=some (.slice e)) (he:ElOk P e sz by_)
  (hu:RelV w F ρ H u x) (hv:RelV w F ρ H v y) (hD:opCopy3 look d sz u v=some D) (hc:AllC Sp D.cs):
  Eff G F ρ H w ((Builtin.copy_ #[sT,xT] ty #[x,y]).run P w) D:=by
 unfold opCopy3 at hD
 split at hD
 ·exact opCopyL_sound hm hl hs he hu hv hD hc
 ·exact opCopy_sound hm hl hs he hu hv hD hc
 ·rw[cond_eq_ite]at hD
  split at hD
  ·exact opCopy2_sound hm hl hs he hu hv hD hc
  ·exact opCopy_sound hm hl hs he hu hv hD hc
end
end Go.Ab

/-
 []byte(s); clear of a view.
-/
set_option linter.unusedVariables false
set_option linter.unusedSimpArgs false
namespace Go.Ab
open Go
section
variable {P:Program}{G:GL}{F:Nat→Prop}{ρ:Nat→Option Nat}{H:Nat→Option HO}{w:World}{look:Nat→Option HO}{D:Delta}{Sp:SpT}

theorem opSbyt_sound (hm:MRel G F ρ H w)(hfresh:∀i,i∈D.al→H i=none){site:Nat}{v:AV}{e:TypeId}{x:Value}(hx:RelV w F ρ H v x)(hD:opSbyt site v=some D)(hc:AllC Sp D.cs):
  ∃s,x=.string s∧Eff G F ρ H w ((Conv.stringToBytes e s).run P w) D:=by cases hD
theorem zeroCells_toList (z:Array Value)(n:Nat)(hz:0<z.size):(Builtin.zeroCells z n).toList=repL z.toList n:=rep_eq z n hz
theorem opClear_sound (hm:MRel G F ρ H w)(hl:∀id o,look id=some o→H id=some o){sz:Nat}{z:List AV}{v:AV}{x:Value}{t e ty:TypeId}{i:TypeInfo}{zv:Value}
  (ht:P.underlying t=some (.slice e)) (hi:P.info? e=some i) (hiz:i.zero=some zv) (hzs:zv.cells.size=sz) (hz1:∀y∈zv.cells.toList,y.oneCell'=true) (hzr:RelIs w F z zv.cells.toList) (hpos:0<sz)
  (hx:RelV w F ρ H v x) (hD:opClear look sz z v=some D) (hc:AllC Sp D.cs):Eff G F ρ H w ((Builtin.clear_ #[t] ty #[x]).run P w) D:=by
 unfold opClear at hD
 split at hD
 ·rename_i id n s off len
  split at hD
  ·rename_i k hk
   have hH:=hl _ _ hk
   rw[cond_eq_ite]at hD
   split at hD
   ·rename_i hcond
    simp only[Bool.and_eq_true,Bool.not_eq_true']at hcond
    obtain⟨hmu,hbx,hsz,hs2,hzl,hlit⟩:=hcond
    have hsz:k.sz=sz:=Nat.eq_of_beq_eq_true hsz
    have hs2:s=sz:=Nat.eq_of_beq_eq_true hs2
    subst hs2
    have hzl:z.length=s:=Nat.eq_of_beq_eq_true hzl
    split at hD
    ·rename_i l hkc
     cases hD
     obtain⟨c0,c1,_⟩:=hc
     have c0:k.n=n:=c0
     have c1:0<len:=by simpa[Cd.holds,ltn]using c1
     obtain⟨hle,⟨e0,_⟩|⟨b,cap,cs,ty1,fz,p1,p2,rfl,p3,p4⟩⟩:=hx.vws hH c0
     ·omega
     obtain⟨hks,h1|⟨b',h1,hB⟩⟩:=hm.heap id _ hH
     ·rw[p1]at h1;cases h1.2
     rw[p1]at h1;cases h1
     have hnm:k.c.isMap=false:=by rw[hkc];rfl
     obtain⟨cs',ty',fz',z1,z2,z3,z4⟩:=hB.ex hnm
     rw[p2]at z1;cases z1
     have hFb:¬ F b:=hB.mu hmu
     have hll:l.length=n*s:=by
      rw[hkc,c0,hsz]at hks;exact hks
     have m1:(off+len)*s≤n*s:=Nat.mul_le_mul_right _ hle
     have m2:(off+len)*s=off*s+len*s:=Nat.add_mul ..
     rw[hkc]at z3 z4
     simp only[Cont.size]at z3 z4
     have hzc:(Builtin.zeroCells zv.cells len).toList=repL zv.cells.toList len:=zeroCells_toList _ _ (by omega)
     have hrl:(repL zv.cells.toList len).length=len*s:=by rw[repL_length,Array.length_toList,hzs]
     have hrz:(repL z len).length=len*s:=by rw[repL_length,hzl]
     obtain⟨w',cs',q1,q2,q3,q4,q5,q6,q7,q8⟩:=run_storeCells (G:=G) (P:=P) b ty1 fz (repL zv.cells.toList len) (off*s) 0 cs w (fun v hv=>hz1 v (repL_mem hv)) p2 (fun j _=>z2 j) (by rw[hrl];omega)
     have hrun:(Builtin.clear_ #[t] ty #[.slice (some ⟨b,off*s,none⟩) len (cap-off)]).run P w=.ok (.tuple #[]) w':=by
      have hzv:∀w:World,(zeroValue e).run P w=.ok zv w:=fun w=>by simp[zeroValue,typeInfo,hi,hiz]
      obtain⟨len',rfl⟩:∃j,len=j+1:=⟨len-1,by omega⟩
      unfold Builtin.clear_
      simp only[List.getElem?_toArray,List.getElem?_cons_zero,Sem.run_bind,run_underlying' ht,Result.andThen_ok,hzv,hzc,q1,Sem.run_pure]
     let c':Cont:=.vals (l.take (off*s)++repL z len++l.drop ((off+len)*s))
     let k':Blk:={k with c:=c'}
     have hcz:c'.size=n*s:=by
      show(l.take (off*s)++repL z len++l.drop ((off+len)*s)).length=_
      rw[List.length_append,List.length_append,List.length_take,List.length_drop,hrz,hll];omega
     have hzi:∀j,j<len*s→∃y,(repL zv.cells.toList len)[j]? =some y∧RelI w F ((repL z len).getD j .undef) y∧y.oneCell'=true:=fun j hj=>by
      have hr:RelVs w F ρ H (repL z len) (repL zv.cells.toList len):=repL_rel hzr.toVs len
      obtain⟨y,y1,y2⟩:=hr.getD (show j<(repL z len).length by rw[hrz];exact hj)
      rw[List.getElem?_toArray]at y1
      refine⟨y,y1,?_,hz1 y (repL_mem (List.mem_of_getElem? y1))⟩
      have hlr:allLit (repL z len)=true:=by
       clear hcz k' c' q4 q1 hrl hzc hrun hr y1 y2 hrz
       induction len with
       |zero=>rfl
       |succ m ih=>exact allLit_app hlit (allLit_rep hlit m)
      exact lit_relI hlr (by rw[hrz];exact hj) y2
     obtain⟨g1,g2,g3⟩:=hm.write (w':=w') (o':=.blk k') hH p1 hFb q2 q6 q7 q8 (fun cs0 ty0 fz0 h=>by rw[p2]at h;cases h;exact⟨cs',ty1,fz,rfl,q3⟩) rfl
      (fun k0 h=>by cases h;exact⟨k',rfl,Nat.le_refl _,fun _=>⟨rfl,rfl,.inl rfl⟩⟩) (fun hk=>by
       refine⟨by show c'.size=k.n*k.sz;rw[hcz,c0,hsz],.inr ⟨b,p1,RelB.ofCells rfl ⟨cs',ty1,fz,q2,z2,by rw[q3];show c'.size≤_;rw[hcz,← hll];exact z3,fun j hj=>?_⟩ (fun _=>hFb) (fun e=>by rw[show k'.mu=k.mu from rfl,hmu]at e;cases e)⟩⟩
       have hwF:∀b,F b→w'.heap[b]? =w.heap[b]? :=fun j hj=>q6 j (fun e=>hFb (e▸hj))
       have hj:j<c'.size:=hj
       rw[hcz]at hj
       have hge:∀i,c'.getV i=(l.take (off*s)++repL z len++l.drop ((off+len)*s)).getD i .undef:=fun _=>rfl
       by_cases hin:j<off*s
       ·obtain⟨y,y1,y2⟩:=z4 j (by omega)
        refine⟨y,?_,?_,y2.2⟩
        ·rw[q5 j (by omega)];exact y1
        ·show RelI w' F (c'.getV j) y
         rw[hge,List.getD_eq_getElem?_getD,List.append_assoc,List.getElem?_append_left (by rw[List.length_take];omega),List.getElem?_take,if_pos hin,← List.getD_eq_getElem?_getD]
         exact RelI.mono hwF (fun _ h=>h) y2.1
       ·by_cases hmid:j<off*s+len*s
        ·obtain⟨y,y1,y2,y3⟩:=hzi (j-off*s) (by omega)
         refine⟨y,?_,?_,y3⟩
         ·have:=q4 (j-off*s) (by rw[hrl];omega)
          rw[show off*s+0+(j-off*s)=j by omega]at this
          rw[this];exact y1
         ·show RelI w' F (c'.getV j) y
          rw[hge,List.getD_eq_getElem?_getD,List.append_assoc,List.getElem?_append_right (by rw[List.length_take];omega),List.length_take,Nat.min_eq_left (by omega),List.getElem?_append_left (by rw[hrz];omega),← List.getD_eq_getElem?_getD]
          exact y2.mono hwF (fun _ h=>h)
        ·obtain⟨y,y1,y2⟩:=z4 j (by omega)
         refine⟨y,?_,?_,y2.2⟩
         ·rw[q5 j (by rw[hrl];omega)];exact y1
         ·show RelI w' F (c'.getV j) y
          rw[hge,List.getD_eq_getElem?_getD,List.getElem?_append_right (by rw[List.length_append,List.length_take,hrz];omega),List.length_append,List.length_take,hrz,Nat.min_eq_left (by omega),List.getElem?_drop,
           show(off+len)*s+(j-(off*s+len*s))=j by omega,← List.getD_eq_getElem?_getD]
          exact RelI.mono hwF (fun _ h=>h) y2.1)
     rw[mz_eq,mz_eq]
     exact⟨_,w',F,ρ,hrun,g1,g2,g3,.imm _ _ (.tup [] #[] .nil)⟩
    ·cases hD
   ·cases hD
  ·cases hD
 ·cases hD

theorem step_sbyt {o:Oper}{ev:Operand→Value}{T:List (Nat×AV)}{src dst:TypeId}{X:Operand}(ho:o.op=.convert src dst X){x:XOp}(hx:compSbyt P src dst X=some x)(hm:MRel G F ρ H w)(hev:EvOk G F ρ H w T ev){site:Nat}{d:Dir}
  (hD:execD site look x d (x.opds.map (Opd.ev G T))=some D) (hc:AllC Sp D.cs) (hfresh:∀i,i∈D.al→H i=none):OpOk P o ev w (KD G F ρ H w D):=by
 unfold compSbyt at hx
 split at hx
 ·rename_i e a h1 h2 hX
  split at hx
  ·rename_i h3
   cases hx
   have hv:=hev _ _ hX
   have hD:opSbyt site (a.ev G T)=some D:=hD
   obtain⟨s,e1,e2⟩:=opSbyt_sound (P:=P) (e:=e) hm hfresh hv hD hc
   refine OpOk.eff (r:=(convert src dst (ev X)).run P w) ?_ ?_
   ·unfold execOp
    rw[ho]
    simp only[run_value]
   ·rw[e1]
    have:(convert src dst (.string s)).run P w=(Conv.stringToBytes e s).run P w:=by
     simp only[convert,Sem.run_bind,underlying,run_program,Result.andThen_ok,h1,h2,h3,Sem.run_pure]
    rw[this];exact e2
  ·cases hx
 ·cases hx
end
end Go.Ab

/-
 One operation of the model, by its abstract effect: calls, built-in functions; all of them.
-/
set_option linter.unusedVariables false
set_option linter.unusedSimpArgs false
namespace Go.Ab
open Go
section
variable {P:Program}{G:GL}{F:Nat→Prop}{ρ:Nat→Option Nat}{H:Nat→Option HO}{w:World}{look:Nat→Option HO}{D:Delta}{o:Oper}{ev:Operand→Value}{T:List (Nat×AV)}

theorem step_mkf {f:FuncId}{A C:Array Operand}(ho:o.op=.makeFunc (.func f) A C){a c:List Opd}(hA:compXs A.toList=some a)(hC:compXs C.toList=some c)(hm:MRel G F ρ H w)(hev:EvOk G F ρ H w T ev){site:Nat}{d:Dir}
  (hD:execD site look (.mkf f a c) d ((XOp.mkf f a c).opds.map (Opd.ev G T))=some D):OpOk P o ev w (KD G F ρ H w D):=by
 have h1:=hev.list hA
 have h2:=hev.list hC
 have hlen:(a.map (Opd.ev G T)).length=a.length:=by simp
 simp only[execD,XOp.opds,List.map_append]at hD
 rw[List.take_left' hlen,List.drop_left' hlen]at hD
 have hrun:(execOp ev o).run P w=(Result.ok (.func (.func f) (A.map ev) (C.map ev)) w).andThen fun v w'=>.ok (.value v) w':=by
  unfold execOp
  rw[ho]
  rfl
 exact OpOk.eff hrun (Eff.val hm hD rfl (.fn _ _ _ _ _ (by simpa using h1) (by simpa using h2)))

theorem step_ext {X:Operand}{i:Nat}(ho:o.op=.extract X i){a:Opd}(hX:compX X=some a)(hm:MRel G F ρ H w)(hev:EvOk G F ρ H w T ev){site:Nat}{d:Dir}
  (hD:execD site look (.ext a i) d [a.ev G T]=some D) (hc:AllC (SpecQ P G) D.cs):OpOk P o ev w (KD G F ρ H w D):=by
 have hrun:(execOp ev o).run P w=((Instr.extract (ev X) i).run P w).andThen fun v w'=>.ok (.value v) w':=by
  unfold execOp
  rw[ho]
  simp only[run_value]
 exact OpOk.eff hrun ((opExt_sound (hev _ _ hX) hD hc).eff hm)

theorem step_nilck {X:Operand}(ho:o.op=.nilCheck X){a:Opd}(hX:compX X=some a)(hm:MRel G F ρ H w)(hl:∀id o,look id=some o→H id=some o)(hev:EvOk G F ρ H w T ev){site:Nat}{d:Dir}
  (hD:execD site look (.nilck a) d [a.ev G T]=some D) (hc:AllC (SpecQ P G) D.cs):OpOk P o ev w (KD G F ρ H w D):=by
 obtain⟨y,h1,h2,h3,h4⟩:=opNilck_sound (P:=P) (ρo:=ev) hl ho rfl (hev _ _ hX) hD hc
 refine OpOk.eff (r:=.ok y w) (by rw[h1];rfl) (Eff.pure hm rfl h3 h2)

theorem idsH_mem (base:Nat):∀(hs:List Blk) (j i:Nat),i<hs.length→base+(j+i)∈idsH base j hs
 |[],j,i,h=>by simp at h
 |b::r,j,0,h=>by simp[idsH]
 |b::r,j,i+1,h=>by
  have:=idsH_mem base r (j+1) i (by simpa using h)
  simp only[idsH,List.mem_cons]
  right
  rw[show j+(i+1)=j+1+i by omega]
  exact this

theorem call_sound0 (hm:MRel G F ρ H w)(hl:∀id o,look id=some o→H id=some o){site f:Nat}{vs:List AV}{xs:Array Value}{args:List AV}{ids:List Nat}{cs:List Cd}{v:AV}{hs:List Blk}(hz:frzL look 60 vs=some (args,ids,cs))(hc:AllC (SpecQ P G) (cs++[.call f args v hs]))(hfresh:∀i,i∈idsH (64*site) 0 hs→H i=none)
  (hv:RelVs w F ρ H vs xs.toList):CallOk P f xs w (KD G F ρ H w {v:=shiftV (64*site) v,ws:=frzW look ids++shiftH (64*site) 0 hs,al:=idsH (64*site) 0 hs,cs:=cs++[.call f args v hs]}):=by
 obtain⟨hc1,hc2⟩:=hc.app
 have hsp:SpecP P G f args v hs:=hc2.1
 obtain⟨F1,f1,f2,f3,f4,f5,f6⟩:=frzAll (look:=look) ids F H hm (fun id k hk=>.inl (hl _ _ hk))
 have hids:=(frz_ids 60).2.1 _ _ _ _ hz
 obtain⟨g1,g2⟩:=(frz_sound (Sp:=SpecQ P G) hm hl f2.keep 60).2.1 _ _ _ _ hz hc1 (fun id hid b hb=>f4 id hid (hids id hid) b hb)
 have hargs:=relVs_frz g1 g2 hv
 have hfr:∀j,j<hs.length→updL H (frzW look ids) (64*site+j)=none:=fun j hj=>by
  have h0:H (64*site+j)=none:=hfresh _ (by have:=idsH_mem (64*site) hs 0 j hj;simpa using this)
  have hlk:look (64*site+j)=none:=by
   cases e:look (64*site+j)with
   |none=>rfl
   |some o=>rw[hl _ _ e]at h0;cases h0
  rw[f6 _ hlk];exact h0
 have fin:∀(y:Value) (w':World),(∃F' ρ',MRel G F' ρ' (hsH hs) w'∧Ext G F1 noR w F' ρ' w'∧RelV w' F' ρ' (hsH hs) v y)→KD G F ρ H w {v:=shiftV (64*site) v,ws:=frzW look ids++shiftH (64*site) 0 hs,al:=idsH (64*site) 0 hs,cs:=cs++[.call f args v hs]} y w':=by
  rintro y w' ⟨F',ρ',q1,q2,q3⟩
  obtain⟨ρ2,r1,r2,r3,r4⟩:=f1.join hfr q1 q2
  refine⟨F',ρ2,?_,f2.trans r2,?_,?_⟩
  ·simp only[updL_app];exact r1
  ·simp only[updL_app];exact f3.trans r3
  ·simp only[updL_app];exact r4 _ _ q3
 exact(hsp F1 w xs f1.bare hargs).mono fin

theorem call_sound (hm:MRel G F ρ H w)(hl:∀id o,look id=some o→H id=some o){site f:Nat}{d:Dir}{vs:List AV}{xs:Array Value}(hD:opCall site look d f vs=some D)(hc:AllC (SpecQ P G) D.cs)(hfresh:∀i,i∈D.al→H i=none)
  (hv:RelVs w F ρ H vs xs.toList):CallOk P f xs w (KD G F ρ H w D):=by
 unfold opCall at hD
 split at hD
 ·split at hD
  ·rename_i args ids cs hz
   split at hD
   ·rename_i v hs _
    cases hD
    exact call_sound0 hm hl hz hc hfresh hv
   ·cases hD
  ·cases hD
 ·split at hD
  ·rename_i args ids cs hz
   cases hD
   exact call_sound0 hm hl hz hc hfresh hv
  ·cases hD
 ·exact callD_sound (cv:=.fn f [] []) hm hl hD hc hfresh hv
 ·cases hD

theorem CallOk.op {f:FuncId}{args:Array Value}{K:Value→World→Prop}(h:CallOk P f args w K)(hr:(execOp ev o).run P w=(callFunc f args).run P w):OpOk P o ev w K:=by
 unfold OpOk;rw[hr];exact h

theorem run_cally {c:Call}{X:Operand}{l:Nat}(ho:o.op=.call c)(hc:c.callee=.value X)(hX:ev X=.func (.yield l) #[] #[]):
  (execOp ev o).run P w=(Instr.yield l (c.args.map ev)).run P w:=by
 unfold execOp
 rw[ho]
 simp only[resolve,hc,Deferred.ofValue,hX,Sem.run_bind,Sem.run_pure,Result.andThen_ok,invoke]
 simp

theorem run_callv {c:Call}{X:Operand}{f:FuncId}{a cp:Array Value}(ho:o.op=.call c)(hc:c.callee=.value X)(hX:ev X=.func (.func f) a cp):
  (execOp ev o).run P w=(callFunc f (a++c.args.map ev++cp)).run P w:=by
 unfold execOp
 rw[ho]
 simp only[resolve,hc,Deferred.ofValue,hX,Sem.run_bind,Sem.run_pure,Result.andThen_ok,invoke]

theorem run_inv {c:Call}{X:Operand}{name:String}{t:TypeId}{y r:Value}{i:TypeInfo}{m:Method}{f:FuncId}{ptr:Bool}(ho:o.op=.call c)(hc:c.callee=.invoke X name)(hX:ev X=.iface t y)
  (hi:P.info? t=some i) (hf:i.methods.find? (·.name==name)=some m) (hp:m.path.toList=[]) (hfn:m.func=some (f,ptr)) (hr:∀s,(receiverAt t (.val y) ptr (some s)).run P w=.ok r w):
  (execOp ev o).run P w=(callFunc f (#[r]++c.args.map ev)).run P w:=by
 have hpe:m.path.isEmpty=true:=by rw[← Array.isEmpty_toList,hp];rfl
 unfold execOp
 rw[ho]
 simp only[resolve,hc,Sem.run_bind,Sem.run_pure,Result.andThen_ok,invoke]
 have h0:(#[Value.iface t y]++c.args.map ev)[0]? =some (.iface t y):=by rw[Array.getElem?_append_left (by simp)];rfl
 have h1:(#[Value.iface t y]++c.args.map ev).extract 1 (#[Value.iface t y]++c.args.map ev).size=c.args.map ev:=by
  apply Array.toList_inj.1
  simp
  exact List.take_of_length_le (by simp)
 have hmeth0:∀n,(method (n+1) t y name).run P w=.ok (f,r) w:=fun n=>by
  unfold method
  simp only[Sem.run_bind,typeInfo,run_program,Result.andThen_ok,hi,Sem.run_pure,hf,hp,follow,hfn,hpe,if_true,hr]
 have hmeth:(method (P.types.size+Made.depth) t y name).run P w=.ok (f,r) w:=hmeth0 (P.types.size+99)
 rw[hX]
 simp only[h0,h1,callMethod,Sem.run_bind,run_program,Result.andThen_ok,hmeth]
theorem step_inv {c:Call}{X:Operand}{name:String}(ho:o.op=.call c)(hcal:c.callee=.invoke X name){a:Opd}{as:List Opd}(hX:compX X=some a)(has:compXs c.args.toList=some as)(hm:MRel G F ρ H w)(hl:∀id o,look id=some o→H id=some o)(hev:EvOk G F ρ H w T ev){site:Nat}{d:Dir}{l:List TypeId}
  (hD:opInv site look d (invTab P name l) (a.ev G T) (as.map (Opd.ev G T))=some D) (hc:AllC (SpecQ P G) D.cs) (hfresh:∀i,i∈D.al→H i=none):OpOk P o ev w (KD G F ρ H w D):=by
 have hargs:=hev.list has
 have hv:=hev _ _ hX
 have tab:∀{l:List TypeId} {t:TypeId} {q:Nat×Option (Option Nat)},aget (invTab P name l) t=some q→invOf P name t=some q:=by
  intro l
  induction l with
  |nil=>intro t q h;cases h
  |cons u r ih=>
   intro t q h
   simp only[invTab]at h
   split at h
   ·rename_i q' hq'
    simp only[aget]at h
    by_cases e:u=t
    ·subst e;rw[beq_self,cond_true]at h;cases h;exact hq'
    ·rw[beq_ne e,cond_false]at h;exact ih h
   ·exact ih h
 have entry:∀{t:TypeId} {f:Nat} {q:Option (Option Nat)},invOf P name t=some (f,q)→∃i m ptr,P.info? t=some i∧i.methods.find? (·.name==name)=some m∧m.path.toList=[]∧m.func=some (f,ptr)∧
   ((q=none∧∀(y:Value) (s:String) (w:World),(receiverAt t (.val y) ptr (some s)).run P w=.ok y w)∨
    ∃e agg,q=some agg∧TyOk P e agg∧∀(ad:Addr) (s:String) (w:World),(receiverAt t (.val (.pointer (some ad))) ptr (some s)).run P w=(loadVar e ad).run P w):=by
  intro t f q h
  unfold invOf at h
  split at h
  ·rename_i i hi
   split at h
   ·rename_i m hf
    split at h
    ·rename_i f' ptr hpe hfn
     have hp:m.path.toList=[]:=by
      have:=hpe
      rw[← Array.isEmpty_toList]at this
      exact List.isEmpty_iff.1 this
     split at h
     ·rename_i hu
      cases h
      refine⟨i,m,_,hi,hf,hp,hfn,.inl ⟨rfl,fun y s w=>?_⟩⟩
      simp only[receiverAt,Sem.run_bind,underlying,run_program,Result.andThen_ok,hu,Sem.run_pure,Place.get]
     ·rename_i e hu
      split at h
      ·rename_i agg hagg
       cases h
       refine⟨i,m,_,hi,hf,hp,hfn,.inr ⟨e,agg,rfl,aggOf_ok hagg,fun ad s w=>?_⟩⟩
       have hw:(Builtin.ssaWrapNilChk_ #[t] t #[.pointer (some ad),strVal "",strVal s]).run P w=.ok (.pointer (some ad)) w:=rfl
       simp only[receiverAt,Sem.run_bind,underlying,run_program,Result.andThen_ok,hu,Sem.run_pure,Place.get,hw,asAddr]
      ·cases h
     ·rename_i dsc hnp hu
      cases h
      refine⟨i,m,_,hi,hf,hp,hfn,.inl ⟨rfl,fun y s w=>?_⟩⟩
      simp only[receiverAt,Sem.run_bind,underlying,run_program,Result.andThen_ok,hu,Sem.run_pure,Place.get]
     ·cases h
    ·cases h
   ·cases h
  ·cases h
 unfold opInv at hD
 split at hD
 ·rename_i t v e1
  rw[e1]at hv
  obtain⟨y,hy,hvy⟩:∃y,ev X=.iface t y∧RelV w F ρ H v y:=by
   generalize ev X=z at hv
   cases hv with
   |imm _ _ hi=>cases hi with|iface _ _ y hy=>exact⟨y,rfl,hy.toV⟩
   |iface _ _ y hy=>exact⟨y,rfl,hy⟩
  split at hD
  ·rename_i f ht
   obtain⟨i,m,ptr,h1,h2,h3,h4,⟨_,h5⟩|⟨e,agg,h5,_⟩⟩:=entry (tab ht)
   ·refine CallOk.op (call_sound (xs:= #[y]++c.args.map ev) hm hl hD hc hfresh ?_) (run_inv ho hcal hy h1 h2 h3 h4 (fun s=>h5 y s w))
    simp only[Array.toList_append,Array.toList_map]
    exact .cons _ _ _ _ hvy hargs
   ·cases h5
  ·rename_i f agg ht
   split at hD
   ·rename_i D0 h0
    split at hD
    ·rename_i D1 h1
     cases hD
     obtain⟨hc0,hc1⟩:=hc.app
     obtain⟨i,m,ptr,g1,g2,g3,g4,⟨g5,_⟩|⟨e,agg',g5,g6,g7⟩⟩:=entry (tab ht)
     ·cases g5
     ·cases g5
      obtain⟨x,q1,q2,_⟩:=opLoad_same (P:=P) (t:=e) hm hl hvy g6 h0 hc0
      obtain⟨ad,rfl⟩:∃ad,y=.pointer (some ad):=by
       unfold opLoad at h0
       split at h0
       ·cases hvy with
        |imm _ _ hi=>cases hi
        |ptr=>exact⟨_,rfl⟩
       ·split at h0
        ·rename_i hk
         split at h0
         ·cases h0
          cases hvy with
          |imm _ _ hi=>cases hi
          |ep _ _ _ k' _ hh hle hp hxx=>
           rw[hl _ _ hk]at hh;cases hh
           obtain⟨b,_,rfl⟩:=hxx hc0.1
           exact⟨_,rfl⟩
         ·cases h0
        ·cases h0
       ·cases hvy with
        |imm _ _ hi=>cases hi;exact⟨_,rfl⟩
       ·split at h0
        ·rename_i hk
         have hcs:=val_cs h0
         rw[hcs]at hc0
         cases hvy with
         |imm _ _ hi=>cases hi
         |qe _ _ _ k' l' v' _ hh hle hp hxx=>
          rw[hl _ _ hk]at hh;cases hh
          obtain⟨b,o,cs,ty,fz,_,_,rfl,_⟩:=hxx hc0.1
          exact⟨_,rfl⟩
        ·cases h0
       ·cases h0
      have hload:(Instr.loadAt e (.pointer (some ad))).run P w=(loadVar e ad).run P w:=by simp[Instr.loadAt,Instr.sureAddr]
      rw[hload]at q1
      refine CallOk.op (call_sound (D:=D1) (xs:= #[x]++c.args.map ev) hm hl h1 hc1 hfresh ?_) (run_inv ho hcal hy g1 g2 g3 g4 (fun s=>(g7 ad s w).trans q1))
      simp only[Array.toList_append,Array.toList_map]
      exact .cons _ _ _ _ q2 hargs
    ·cases hD
   ·cases hD
  ·cases hD
 ·cases hD
theorem step_tas {X:Operand}{u t:TypeId}(ho:o.op=.typeAssert X u t false){a:Opd}(hX:compX X=some a){dsc:TypeDesc}(ht:P.underlying t=some dsc)(hn:∀ms,dsc≠ .interface ms)(hm:MRel G F ρ H w)(hev:EvOk G F ρ H w T ev)
  (hD:opTas t (a.ev G T)=some D):OpOk P o ev w (KD G F ρ H w D):=by
 have hv:=hev _ _ hX
 unfold opTas at hD
 split at hD
 ·rename_i t' v e1
  rw[e1]at hv
  rw[cond_eq_ite]at hD
  split at hD
  ·rename_i hq
   have hq:=Nat.eq_of_beq_eq_true hq
   subst hq
   obtain⟨y,hy,hvy⟩:∃y,ev X=.iface t' y∧RelV w F ρ H v y:=by
    generalize ev X=z at hv
    cases hv with
    |imm _ _ hi=>cases hi with|iface _ _ y hy=>exact⟨y,rfl,hy.toV⟩
    |iface _ _ y hy=>exact⟨y,rfl,hy⟩
   have hrun:(Instr.typeAssert (ev X) u t' false).run P w=.ok y w:=by
    rw[hy]
    simp only[Instr.typeAssert,Sem.run_bind,underlying,run_program,Result.andThen_ok,ht,Sem.run_pure]
    cases dsc<;>first|exact absurd rfl (hn _)|simp
   refine OpOk.eff (r:=(Instr.typeAssert (ev X) u t' false).run P w) ?_ (Eff.val hm hD hrun hvy)
   unfold execOp
   rw[ho]
   simp only[run_value]
  ·cases hD
 ·cases hD
theorem run_callb {c:Call}{b:Builtin}(ho:o.op=.call c)(hc:c.callee=.builtin b):
  (execOp ev o).run P w=(builtin b c.argTypes o.type (c.args.map fun|.const _=>true|_=>false) (c.args.map ev)).run P w:=by
 unfold execOp
 rw[ho]
 simp only[resolve,hc,Sem.run_bind,Sem.run_pure,Result.andThen_ok,invoke]
 rfl
theorem map1 {X:Operand}:(#[X]:Array Operand).map ev= #[ev X]:=by simp
theorem map2 {X Y:Operand}:(#[X,Y]:Array Operand).map ev= #[ev X,ev Y]:=by simp

theorem list2 {α:Type}{a:Array α}{x y:α}(h:a.toList=[x,y]):a= #[x,y]:=by
 apply Array.toList_inj.1;simpa using h
theorem list1' {α:Type}{a:Array α}{x:α}(h:a.toList=[x]):a= #[x]:=by
 apply Array.toList_inj.1;simpa using h
theorem compXs1 {A:Array Operand}{a:Opd}(h:compXs A.toList=some [a]):∃X,A= #[X]∧compX X=some a:=by
 generalize hl:A.toList=l at h
 cases l with
 |nil=>simp[compXs]at h
 |cons X r=>
  simp only[compXs]at h
  split at h
  ·rename_i h1 h2
   cases h
   cases r with
   |nil=>exact⟨X,list1' hl,h1⟩
   |cons Y r=>simp only[compXs]at h2;split at h2<;>cases h2
  ·cases h
theorem compXs2 {A:Array Operand}{a b:Opd}(h:compXs A.toList=some [a,b]):∃X Y,A= #[X,Y]∧compX X=some a∧compX Y=some b:=by
 generalize hl:A.toList=l at h
 cases l with
 |nil=>simp[compXs]at h
 |cons X r=>
  simp only[compXs]at h
  split at h
  ·rename_i h1 h2
   cases h
   cases r with
   |nil=>simp[compXs]at h2
   |cons Y r=>
    simp only[compXs]at h2
    split at h2
    ·rename_i h3 h4
     cases h2
     cases r with
     |nil=>exact⟨X,Y,list2 hl,h1,h3⟩
     |cons Z r=>simp only[compXs]at h4;split at h4<;>cases h4
    ·cases h2
  ·cases h

theorem step_mkmap {t:TypeId}{r:Option Operand}(ho:o.op=.makeMap t r){x:XOp}(hx:compMkmap P t r=some x)(hm:MRel G F ρ H w)(hev:EvOk G F ρ H w T ev){site:Nat}{d:Dir}
  (hD:execD site look x d (x.opds.map (Opd.ev G T))=some D) (hfresh:∀i,i∈D.al→H i=none):OpOk P o ev w (KD G F ρ H w D):=by
 have hrun:(execOp ev o).run P w=((Instr.makeMap t (r.map ev)).run P w).andThen fun v w'=>.ok (.value v) w':=by
  unfold execOp
  rw[ho]
  simp only[run_value]
 unfold compMkmap at hx
 split at hx
 ·rename_i k e ht
  split at hx
  ·rename_i kk vk hk hv
   split at hx
   ·cases hx
    exact OpOk.eff hrun (opMkmap_sound hm hfresh ht (fun x h=>by cases h) hD)
   ·rename_i X
    split at hx
    ·rename_i a hX
     cases hx
     refine OpOk.eff hrun (opMkmap_sound hm hfresh ht (fun x h=>?_) hD)
     cases h
     exact⟨by simp,_,[],rfl,hev _ _ hX⟩
    ·cases hx
  ·cases hx
 ·cases hx
theorem step_look {t:TypeId}{X Y:Operand}{ok:Bool}(ho:o.op=.lookup t X Y ok){x:XOp}(hx:compLook P t X Y ok=some x)(hm:MRel G F ρ H w)(hl:∀id o,look id=some o→H id=some o)(hev:EvOk G F ρ H w T ev){site:Nat}{d:Dir}
  (hD:execD site look x d (x.opds.map (Opd.ev G T))=some D):OpOk P o ev w (KD G F ρ H w D):=by
 have hrun:(execOp ev o).run P w=((Instr.lookup t (ev X) (ev Y) ok).run P w).andThen fun v w'=>.ok (.value v) w':=by
  unfold execOp
  rw[ho]
  simp only[run_value]
 unfold compLook at hx
 split at hx
 ·rename_i k e a b ht hX hY
  split at hx
  ·rename_i kk vk hk hv
   cases hx
   exact OpOk.eff hrun (opMlook_sound hm hl ht hk hv (hev _ _ hX) (hev _ _ hY) hD)
  ·cases hx
 ·cases hx
theorem step_mput {t:TypeId}{X Y Z:Operand}(ho:o.op=.mapUpdate t X Y Z∨o.op=.insert t X Y Z){x:XOp}(hx:compMput P t X Y Z=some x)(hm:MRel G F ρ H w)(hl:∀id o,look id=some o→H id=some o)(hev:EvOk G F ρ H w T ev){site:Nat}{d:Dir}
  (hD:execD site look x d (x.opds.map (Opd.ev G T))=some D):OpOk P o ev w (KD G F ρ H w D):=by
 unfold compMput at hx
 split at hx
 ·rename_i k e a b c ht hX hY hZ
  split at hx
  ·rename_i kk vk hk hv
   cases hx
   obtain⟨y,w',F',ρ',g1,g2⟩:=opMput_sound (P:=P) hm hl ht hk (hev _ _ hX) (hev _ _ hY) (hev _ _ hZ) hD
   cases hr:(Instr.mapUpdate t (ev X) (ev Y) (ev Z)).run P w with
   |halt q w'=>rw[hr]at g1;cases g1
   |ok u w1=>
    rw[hr]at g1
    simp only[Result.andThen_ok]at g1
    cases g1
    refine .inl ⟨.skip,undef,w',?_,.inr ⟨rfl,rfl⟩,F',ρ',g2⟩
    unfold execOp
    rcases ho with ho|ho<;>rw[ho]<;>simp[hr]
  ·cases hx
 ·cases hx

theorem step_ment {t:TypeId}{X Y:Operand}(ho:o.op=.mapEntry t X Y){x:XOp}(hx:compMent P t X Y=some x)(hm:MRel G F ρ H w)(hl:∀id o,look id=some o→H id=some o)(hev:EvOk G F ρ H w T ev){site:Nat}{d:Dir}
  (hD:execD site look x d (x.opds.map (Opd.ev G T))=some D):OpOk P o ev w (KD G F ρ H w D):=by
 have hrun:(execOp ev o).run P w=((Instr.mapEntry t (ev X) (ev Y)).run P w).andThen fun v w'=>.ok (.value v) w':=by
  unfold execOp
  rw[ho]
  simp only[run_value]
 unfold compMent at hx
 split at hx
 ·rename_i k e a b ht hX hY
  split at hx
  ·rename_i kk vk hk hv
   cases hx
   exact OpOk.eff hrun (opMent_sound hm hl ht hk hv (hev _ _ hX) (hev _ _ hY) hD)
  ·cases hx
 ·cases hx
theorem step_mst {t:TypeId}{X Y Z:Operand}(ho:o.op=.entryStore t X Y Z){x:XOp}(hx:compMst P t X Y Z=some x)(hm:MRel G F ρ H w)(hl:∀id o,look id=some o→H id=some o)(hev:EvOk G F ρ H w T ev){site:Nat}{d:Dir}
  (hD:execD site look x d (x.opds.map (Opd.ev G T))=some D) (hc:AllC (SpecQ P G) D.cs):OpOk P o ev w (KD G F ρ H w D):=by
 unfold compMst at hx
 split at hx
 ·rename_i k e a b c ht hX hY hZ
  split at hx
  ·rename_i kk vk hk hv
   cases hx
   obtain⟨y,w',F',ρ',g1,g2⟩:=opMst_sound (P:=P) (t:=t) hm hl (hev _ _ hX) (hev _ _ hY) (hev _ _ hZ) hD hc
   cases hr:(Instr.entryStore t (ev X) (ev Y) (ev Z)).run P w with
   |halt q w'=>rw[hr]at g1;cases g1
   |ok u w1=>
    rw[hr]at g1
    simp only[Result.andThen_ok]at g1
    cases g1
    refine .inl ⟨.skip,undef,w',?_,.inr ⟨rfl,rfl⟩,F',ρ',g2⟩
    unfold execOp
    rw[ho]<;>simp[hr]
  ·cases hx
 ·cases hx
theorem step_ent {X:Operand}(ho:o.op=.entry X){a:Opd}(hX:compX X=some a)(hm:MRel G F ρ H w)(hl:∀id o,look id=some o→H id=some o)(hev:EvOk G F ρ H w T ev){site:Nat}{d:Dir}
  (hD:execD site look (.ent a) d [a.ev G T]=some D) (hc:AllC (SpecQ P G) D.cs):OpOk P o ev w (KD G F ρ H w D):=by
 have hrun:(execOp ev o).run P w=((Instr.entry (ev X)).run P w).andThen fun v w'=>.ok (.value v) w':=by
  unfold execOp
  rw[ho]
  simp only[run_value]
 exact OpOk.eff hrun (opEnt_sound hm hl (hev _ _ hX) hD hc)

theorem step_call {c:Call}(ho:o.op=.call c){x:XOp}(hx:compCall P c=some x)(hcon:ConstOk ev)(hm:MRel G F ρ H w)(hl:∀id o,look id=some o→H id=some o)(hev:EvOk G F ρ H w T ev){site:Nat}{d:Dir}
  (hD:execD site look x d (x.opds.map (Opd.ev G T))=some D) (hc:AllC (SpecQ P G) D.cs) (hfresh:∀i,i∈D.al→H i=none):OpOk P o ev w (KD G F ρ H w D):=by
 unfold compCall at hx
 split at hx
 ·rename_i as has
  have hargs:=hev.list has
  have bi:∀{b:Builtin} {s:Sem Value},c.callee=.builtin b→(builtin b c.argTypes o.type (c.args.map fun|.const _=>true|_=>false) (c.args.map ev))=(do pure (.value (← s)))→Eff G F ρ H w (s.run P w) D→OpOk P o ev w (KD G F ρ H w D):=by
   intro b s h1 h2 h3
   refine OpOk.eff ?_ h3
   rw[run_callb ho h1,h2,run_value]
  split at hx
  ·rename_i f hcal
   cases hx
   refine CallOk.op (call_sound (xs:=c.args.map ev) hm hl hD hc hfresh (by simpa[XOp.opds]using hargs)) ?_
   rw[run_callv ho hcal (hcon.2 f)]
   simp
  ·rename_i X hnf hcal
   split at hx
   ·rename_i a hX
    cases hx
    simp only[execD,XOp.opds,List.map_cons,List.drop_succ_cons,List.drop_zero,x1,List.getD_cons_zero]at hD
    unfold opCallv at hD
    split at hD
    ·rename_i f l1 l2 e1
     have hfv:=hev _ _ hX
     rw[e1]at hfv
     obtain⟨y1,y2,e2,p1,p2⟩:=hfv.fns
     refine CallOk.op (call_sound (xs:=y1++c.args.map ev++y2) hm hl hD hc hfresh ?_) (run_callv ho hcal e2)
     simp only[Array.toList_append,Array.toList_map]
     exact(p1.app hargs).app p2
    ·rename_i id e1
     have hfv:=hev _ _ hX
     rw[e1]at hfv
     split at hD
     ·generalize hy:ev X=y at hfv
      cases hfv with
      |imm _ _ hi=>cases hi
      |yld _ b ob hb hh hbx=>
       have:=callD_sound (cv:=.yld id) (xs:=c.args.map ev) hm hl hD hc hfresh (by simpa using hargs)
       unfold OpOk
       rw[run_cally ho hcal hy]
       exact this b hb
     ·cases hD
    ·cases hD
   ·cases hx
  ·rename_i X name hcal
   split at hx
   ·rename_i a hX
    cases hx
    exact step_inv ho hcal hX has hm hl hev hD hc hfresh
   ·cases hx
  ·rename_i hcal
   split at hx
   ·rename_i t a htys
    obtain⟨X,hA,hX⟩:=compXs1 has
    have hty:=list1' htys
    split at hx
    ·rename_i ht
     cases hx
     refine bi hcal (s:=Builtin.len_ c.argTypes o.type (c.args.map ev)) rfl ?_
     rw[hty,hA,map1]
     exact(opLens_sound ht (hev _ _ hX) hD).eff hm
    ·rename_i e ht
     cases hx
     refine bi hcal (s:=Builtin.len_ c.argTypes o.type (c.args.map ev)) rfl ?_
     rw[hty,hA,map1]
     exact(opLen_sound hl ht (hev _ _ hX).unc hD hc).eff hm
    ·rename_i n e ht
     cases hx
     refine bi hcal (s:=Builtin.len_ c.argTypes o.type (c.args.map ev)) rfl ?_
     rw[hty,hA]
     refine Eff.val hm hD (x:=.int .i64 n) ?_ (relInt _ _)
     simp[Builtin.len_,run_underlying' ht,goInt]
    ·rename_i k e ht
     cases hx
     refine bi hcal (s:=Builtin.len_ c.argTypes o.type (c.args.map ev)) rfl ?_
     rw[hty,hA,map1]
     exact opMlen_sound hm hl ht (hev _ _ hX) hD
    ·cases hx
   ·cases hx
  ·rename_i hcal
   split at hx
   ·rename_i t u a b htys
    obtain⟨X,Y,hA,hX,hY⟩:=compXs2 has
    have hty:=list2 htys
    split at hx
    ·rename_i e e' ht hu
     split at hx
     ·rename_i sz by_ z hel
      cases hx
      refine bi hcal (s:=Builtin.copy_ c.argTypes o.type (c.args.map ev)) rfl ?_
      rw[hty,hA,map2]
      exact opCopy3_sound hm hl ht (elOf_ok hel).1 (hev _ _ hX).unc (hev _ _ hY).unc hD hc
     ·cases hx
    ·cases hx
   ·cases hx
  ·rename_i hcal
   split at hx
   ·rename_i t u a b htys
    obtain⟨X,Y,hA,hX,hY⟩:=compXs2 has
    have hty:=list2 htys
    split at hx
    ·rename_i k e ht
     split at hx
     ·rename_i kk vk hk hv
      cases hx
      refine bi hcal (s:=Builtin.delete_ c.argTypes o.type (c.args.map ev)) rfl ?_
      rw[hty,hA,map2]
      exact opMdel_sound hm hl ht hk (hev _ _ hX) (hev _ _ hY) hD
     ·cases hx
    ·cases hx
   ·cases hx
  ·rename_i hcal
   split at hx
   ·rename_i t a htys
    obtain⟨X,hA,hX⟩:=compXs1 has
    have hty:=list1' htys
    split at hx
    ·rename_i e ht
     cases hx
     refine bi hcal (s:=Builtin.cap_ c.argTypes o.type (c.args.map ev)) rfl ?_
     rw[hty,hA,map1]
     exact(opCap_sound hl ht (hev _ _ hX) hD hc).eff hm
    ·cases hx
   ·cases hx
  ·rename_i hcal
   split at hx
   ·rename_i t u a b htys
    obtain⟨X,Y,hA,hX,hY⟩:=compXs2 has
    have hty:=list2 htys
    split at hx
    ·rename_i e e' ht hu
     split at hx
     ·rename_i sz by_ z hel
      cases hx
      refine bi hcal (s:=Builtin.append_ c.argTypes o.type (c.args.map ev)) rfl ?_
      rw[hty,hA,map2]
      have hX':=(hev _ _ hX).unc
      have hD:opAppendT site look d sz by_ _ (unc (a.ev G T)) (unc (b.ev G T))=some D:=hD
      unfold opAppendT at hD
      split at hD
      ·rename_i id v dq hq
       rw[hq]at hX'
       exact opAppendQ_sound hm hl ht hu (fun k h=>by cases h) (elOf_ok hel).1 hX' (hev _ _ hY).unc hD hc
      ·exact opAppend_sound hm hl hfresh ht hu (fun k h=>by cases h) (elOf_ok hel).1 hX' (hev _ _ hY).unc hD hc
     ·cases hx
    ·rename_i e k ht hu
     split at hx
     ·rename_i sz by_ z hel
      cases hx
      refine bi hcal (s:=Builtin.append_ c.argTypes o.type (c.args.map ev)) rfl ?_
      rw[hty,hA,map2]
      exact opGrowz_sound hm hfresh ht hu (elOf_ok hel).1 (hev _ _ hX) (hev _ _ hY) hD hc
     ·cases hx
    ·cases hx
   ·cases hx
  ·rename_i hcal
   split at hx
   ·rename_i t a htys
    obtain⟨X,hA,hX⟩:=compXs1 has
    have hty:=list1' htys
    split at hx
    ·rename_i e ht
     split at hx
     ·rename_i sz by_ z hel
      split at hx
      ·cases hx
      ·rename_i hsz0
       cases hx
       refine bi hcal (s:=Builtin.clear_ c.argTypes o.type (c.args.map ev)) rfl ?_
       rw[hty,hA,map1]
       obtain⟨hEl,hz⟩:=elOf_ok hel
       obtain⟨i,v,h1,h2,h3,h4,h5,h6⟩:=zeroOf_ok (w:=w) hz
       obtain⟨i',v',g1,g2,g3,g4,g5⟩:=hEl.inf
       rw[h1]at g1;cases g1
       rw[h2]at g4;cases g4
       exact opClear_sound hm hl ht h1 h2 g5 h4 (h5 w F) (Nat.pos_of_ne_zero (fun e=>hsz0 e)) (hev _ _ hX) hD hc
     ·cases hx
    ·cases hx
   ·cases hx
  ·rename_i hcal
   cases hx
   simp only[execD,XOp.opds]at hD
   split at hD
   ·rename_i v hv
    obtain⟨y,h1,h2⟩:=mmF_sound (P:=P) (xs:=c.args.map ev) (tys:=c.argTypes) (ty:=o.type) (by simpa using hargs) hv
    refine bi hcal (s:=Builtin.max_ c.argTypes o.type (c.args.map ev)) rfl ?_
    exact Eff.val hm hD h1 h2
   ·cases hD
  ·rename_i hcal
   cases hx
   simp only[execD,XOp.opds]at hD
   split at hD
   ·rename_i v hv
    obtain⟨y,h1,h2⟩:=mmF_sound (P:=P) (xs:=c.args.map ev) (tys:=c.argTypes) (ty:=o.type) (by simpa using hargs) hv
    refine bi hcal (s:=Builtin.min_ c.argTypes o.type (c.args.map ev)) rfl ?_
    exact Eff.val hm hD h1 h2
   ·cases hD
  ·cases hx
 ·cases hx

end
end Go.Ab

/-
 One operation of the model does what its abstract effect says.
-/
set_option linter.unusedVariables false
set_option linter.unusedSimpArgs false
namespace Go.Ab
open Go
section
variable {P:Program}{G:GL}{F:Nat→Prop}{ρ:Nat→Option Nat}{H:Nat→Option HO}{w:World}{look:Nat→Option HO}{D:Delta}{o:Oper}{ev:Operand→Value}{T:List (Nat×AV)}

theorem op_sound {x:XOp}(hx:compOp P o.op=some x)(hcon:ConstOk ev)(hm:MRel G F ρ H w)(hl:∀id o,look id=some o→H id=some o)(hev:EvOk G F ρ H w T ev){site:Nat}{d:Dir}
  (hD:execD site look x d (x.opds.map (Opd.ev G T))=some D) (hc:AllC (SpecQ P G) D.cs) (hfresh:∀i,i∈D.al→H i=none):OpOk P o ev w (KD G F ρ H w D):=by
 unfold compOp at hx
 split at hx
 ·rename_i X ho
  split at hx
  ·rename_i a hX;cases hx;exact step_mv (.inl ho) hX hm hev hD
  ·cases hx
 ·rename_i X ho
  split at hx
  ·rename_i a hX;cases hx;exact step_mv (.inr ho) hX hm hev hD
  ·cases hx
 ·rename_i ho
  split at hx
  ·rename_i h1 h2 h3;cases hx;exact step_pick ho h1 h2 h3 hm hev hD hc
  ·cases hx
 ·rename_i ho;exact step_alloc ho hx hm hD hfresh
 ·rename_i ho
  split at hx
  ·rename_i hX;cases hx;exact step_box ho hX hm hev hD hfresh
  ·cases hx
 ·rename_i ho;exact step_build ho hx hm hev hD
 ·rename_i ho;exact step_buildS ho hx hm hev hD hfresh
 ·rename_i ho;exact step_load ho hx hm hl hev hD hc
 ·rename_i ho;exact step_store ho hx hm hl hev hD hc
 ·rename_i ho
  split at hx
  ·rename_i hX;cases hx;exact step_nilck ho hX hm hl hev hD hc
  ·cases hx
 ·rename_i ho;exact step_bin ho hx hcon hm hl hev hD hc
 ·rename_i ho
  split at hx
  ·rename_i hX;cases hx;exact step_un ho hX hm hev hD hc
  ·cases hx
 ·rename_i ho
  split at hx
  ·rename_i h;cases hx;exact step_conv ho h hm hev hD hc
  ·split at hx
   ·rename_i hq;cases hx;exact step_bstr ho hq hm hl hev hD hc
   ·exact step_sbyt ho hx hm hev hD hc hfresh
 ·rename_i ho
  split at hx
  ·rename_i h1 h2;cases hx;exact step_rng ho h2 h1 hm hev hD hfresh
  ·rename_i h1 h2;cases hx;exact step_rngm ho h2 h1 hm hl hev hD hfresh
  ·cases hx
 ·rename_i ho
  split at hx
  ·rename_i h1;cases hx;exact step_nxt ho h1 hm hl hev hD hc
  ·cases hx
 ·rename_i ho
  split at hx
  ·cases hx;cases hD
  ·cases hx
 ·rename_i ho
  split at hx
  ·rename_i h1 h2;cases hx;exact step_mkf ho h1 h2 hm hev hD
  ·cases hx
 ·rename_i ho;exact step_mks ho hx hm hev hD hc hfresh
 ·rename_i ho;exact step_mkmap ho hx hm hev hD hfresh
 ·rename_i ho;exact step_look ho hx hm hl hev hD
 ·rename_i ho;exact step_mput (.inl ho) hx hm hl hev hD
 ·rename_i ho;exact step_mput (.inr ho) hx hm hl hev hD
 ·rename_i ho;exact step_ment ho hx hm hl hev hD
 ·rename_i ho;exact step_mst ho hx hm hl hev hD hc
 ·rename_i ho
  split at hx
  ·rename_i h1;cases hx;exact step_ent ho h1 hm hl hev hD hc
  ·cases hx
 ·rename_i ho;exact step_slice ho hx hm hl hev hD hc
 ·rename_i ho;exact step_fieldA ho hx hm hl hev hD hc
 ·rename_i ho;exact step_field ho hx hm hev hD hc
 ·rename_i ho;exact step_idxA ho hx hm hl hev hD hc
 ·rename_i ho;exact step_idx ho hx hm hev hD hc
 ·rename_i ho
  split at hx
  ·rename_i hX;cases hx;exact step_ext ho hX hm hev hD hc
  ·cases hx
 ·rename_i ho
  split at hx
  ·cases hx
  ·rename_i hn h1 h2;cases hx;exact step_tas ho h2 h1 hn hm hev hD
  ·cases hx
 ·rename_i ho;exact step_call ho hx hcon hm hl hev hD hc hfresh
 ·cases hx

end
end Go.Ab

/-
 One operation of a region, at a state of the frame: reads, guards, effects.
-/
set_option linter.unusedVariables false
set_option linter.unusedSimpArgs false
namespace Go.Ab
open Go

structure RSf (G:GL)(F:Nat→Prop)(ρ:Nat→Option Nat)(T:Nat→Option AV)(H:Nat→Option HO)(n:Nat)(a:Act)(w:World):Prop where
 size:a.tmps.size=n
 tmps:∀t v,T t=some v→RelV w F ρ H v (a.tmps.getD t undef)
 mem:MRel G F ρ H w
 defs:DefOk F ρ a w

theorem DefOk.ext {G:GL}{ρ ρ':Nat→Option Nat}{F F':Nat→Prop}{a a':Act}{w w':World}(h:DefOk F ρ a w)(he:Ext G F ρ w F' ρ' w')(hd:a'.defers=a.defers):DefOk F' ρ' a' w':=by
 obtain⟨rs,h1,h2,h3⟩:=h
 refine⟨rs,h1,hd.trans h2,fun r hr=>?_⟩
 obtain⟨g1,g2,g3⟩:=h3 r hr
 have hlt:r<w.heap.size:=lt_of_some g1
 refine⟨(he.same r hlt g2).trans g1,fun id e=>?_,fun hF=>?_⟩
 ·rcases he.im id r e with⟨id',h'⟩|h'
  ·exact g2 id' h'
  ·omega
 ·rcases he.more r hF with h'|h'|⟨id,h'⟩
  ·exact g3 h'
  ·omega
  ·exact g2 id h'

def readT (T:List (Nat×AV)):List Opd→List (Nat×AV)
 |[]=>[]
 |.t n::r=>match aget T n with
  |some v=>(n,v)::readT T r
  |none=>readT T r
 |_::r=>readT T r
def strip1:AV→AV
 |.may _ v=>v
 |v=>v
def stripT:List (Nat×AV)→List (Nat×AV)
 |[]=>[]
 |(t,v)::r=>(t,strip1 v)::stripT r
def stripB:AV→List Cd→List Cd
 |.may b _,cs=>.b b::cs
 |_,cs=>cs
def stripC:List (Nat×AV)→List Cd→List Cd
 |[],cs=>cs
 |(_,v)::r,cs=>stripB v (stripC r cs)
def keepMay:XOp→Bool
 |.mv _=>true
 |.pick _ _ _=>true
 |_=>false

inductive GDir where
 |auto
 |on
 |onl
 |off
 |may

def runU (G:GL)(site:Nat)(look:Nat→Option HO)(op:XOp)(d:Dir)(rt:List (Nat×AV)):Option Delta:=
 match keepMay op with
 |true=>execD site look op d (op.opds.map (Opd.ev G rt))
 |false=>match execD site look op d (op.opds.map (Opd.ev G (stripT rt)))with
  |some D=>some {D with cs:=stripC rt D.cs}
  |none=>none
def geC (b want:Bool):List Cd→List Cd
 |[]=>[]
 |c::r=>.ge b want c::geC b want r
def skipD (cs:List Cd):Delta:={v:=.may false (.bool false),ws:=[],al:=[],cs}
def gvalO:Option AV→Option (Bool×Bool)
 |none=>none
 |some v=>gval 8 v
def runG (G:GL)(site:Nat)(look:Nat→Option HO)(x:XO)(g:GDir)(d:Dir)(gv:Option AV)(rt:List (Nat×AV)):Option Delta:=
 match x.guard with
 |none=>runU G site look x.op d rt
 |some (_,want)=>match gvalO gv with
  |some (dd,b)=>match g with
   |.auto=>cond (dd&&negIf (!want) b) (runU G site look x.op d rt) (some (skipD []))
   |.on=>match runU G site look x.op d rt with
    |some D=>some {D with cs:=.b (dd&&negIf (!want) b)::D.cs}
    |none=>none
   |.onl=>match runU G site look x.op d rt with
    |some D=>some {D with cs:=.b (dd&&negIf (!want) b)::D.cs}
    |none=>none
   |.off=>some (skipD [.b (!(dd&&negIf (!want) b))])
   |.may=>match runU G site look x.op d rt with
    |some D=>match D.ws,D.al with
     |[],[]=>some {v:=mkMay (dd&&negIf (!want) b) D.v,ws:=[],al:=[],cs:=geC (dd&&negIf (!want) b) true D.cs}
     |_,_=>none
    |none=>none
  |none=>none

def compG (ops:Array Oper):Option (Nat×Bool)→Option (Option (Nat×Bool))
 |none=>some none
 |some (j,want)=>match(ops[j]?).bind (·.dst)with
  |some t=>some (some (t,want))
  |none=>none
def compXO (P:Program)(ops:Array Oper)(o:Oper):Option XO:=
 match compOpB P o.op,compG ops o.guard with
 |some op,some g=>some {dst:=o.dst,op:=op,guard:=g}
 |_,_=>none

def updT (T:Nat→Option AV):Option Nat→AV→Nat→Option AV
 |none,_=>T
 |some t,v=>upd T t (some v)

def wpOpR (P:Program)(ops:Array Oper)(i:Nat)(K:Act→World→Prop)(a:Act)(w:World):Prop:=
 match ops[i]? with
 |none=>K a w
 |some o=>if Region.wanted o (yielded ops a.tmps)then OpOk P o a.eval w (fun v w'=>K (a.put o.dst v) w')else K (a.put o.dst undef) w
def wpOpsR (P:Program)(ops:Array Oper)(R:Act→World→Prop):List Nat→Act→World→Prop
 |[],a,w=>R a w
 |i::r,a,w=>wpOpR P ops i (wpOpsR P ops R r) a w
def wpAnyR (P:Program)(ops:Array Oper)(R:Act→World→Prop):Nat→Array Bool→Act→World→Prop
 |0,listed,a,w=>Region.ready .any ops listed=[]∧R a w
 |fuel+1,listed,a,w=>(Region.ready .any ops listed=[]→R a w)∧∀i∈Region.ready .any ops listed,wpOpR P ops i (wpAnyR P ops R fuel (listed.setIfInBounds i true)) a w
theorem wpOpR_mono {P:Program}{ops:Array Oper}{i:Nat}{K K':Act→World→Prop}{a:Act}{w:World}(hk:∀a w,K a w→K' a w)(h:wpOpR P ops i K a w):wpOpR P ops i K' a w:=by
 unfold wpOpR at h ⊢
 split
 ·rename_i e;rw[e]at h;exact hk _ _ h
 ·rename_i o e
  rw[e]at h
  simp only at h
  split
  ·rename_i hw;rw[if_pos hw]at h;exact NextOk.mono h fun v w'=>hk _ _
  ·rename_i hw;rw[if_neg hw]at h;exact hk _ _ h
theorem wpAnyR_sound {P:Program}{ops:Array Oper}{R:Act→World→Prop}:∀(fuel t:Nat) (listed:Array Bool) (a:Act) (w:World),wpAnyR P ops R fuel listed a w→wpOpsR P ops R (Region.linearise.go .any ops fuel t listed []) a w:=by
 intro fuel
 induction fuel with
 |zero=>intro t listed a w h;simpa[Region.linearise.go,wpOpsR]using h.2
 |succ fuel ih=>
  intro t listed a w h
  obtain⟨h₀,h₁⟩:=h
  simp only[Region.linearise.go]
  change wpOpsR P ops R (match(Region.ready .any ops listed)[t%(Region.ready .any ops listed).length]? with
   |some i=>Region.linearise.go .any ops fuel (t/(Region.ready .any ops listed).length) (listed.setIfInBounds i true) [i]
   |none=>[].reverse) a w
  cases hi:(Region.ready .any ops listed)[t%(Region.ready .any ops listed).length]? with
  |none=>
   have hnil:Region.ready .any ops listed=[]:=by
    cases hr:Region.ready .any ops listed with
    |nil=>rfl
    |cons x xs=>
     rw[hr]at hi
     have hlt:t%(x::xs).length<(x::xs).length:=Nat.mod_lt _ (by simp)
     simp at hi
     simp at hlt
     omega
   simpa[wpOpsR]using h₀ hnil
  |some i=>
   simp only[]
   rw[linearise_go_acc,List.reverse_singleton,List.singleton_append]
   exact wpOpR_mono (fun a w=>ih _ _ a w) (h₁ i (List.mem_of_getElem? hi))

section
variable {P:Program}{G:GL}{F:Nat→Prop}{ρ:Nat→Option Nat}{T:Nat→Option AV}{H:Nat→Option HO}{n:Nat}{a:Act}{w:World}{look:Nat→Option HO}{D:Delta}{o:Oper}{rt:List (Nat×AV)}

theorem evOk_of (hm:MRel G F ρ H w)(hrt:∀t v,aget rt t=some v→RelV w F ρ H v (a.tmps.getD t undef)):EvOk G F ρ H w rt a.eval:=by
 intro X o hX
 cases X with
 |tmp t=>
  cases hX
  simp only[Opd.ev,Act.eval]
  cases h:aget rt t with
  |none=>exact .imm _ _ (.undef _)
  |some v=>exact hrt t v h
 |const v=>
  simp only[compX]at hX
  split at hX
  ·rename_i u hu;cases hX;exact .imm _ _ ((compV_sound w F 12).1 _ _ hu)
  ·cases hX
 |global g=>
  cases hX
  simp only[Opd.ev,Act.eval]
  cases h:G.g g with
  |none=>exact .imm _ _ (.undef _)
  |some c=>
   obtain⟨h1,xs,h2,h3,h4⟩:=hm.glob g c h
   exact .imm _ _ (.iptr c g 0 xs h1 (fun i hi=>by rw[Nat.zero_add];exact h2 i hi) h3 h4)
 |func f=>
  cases hX
  exact .imm _ _ (.fn f [] [] #[] #[] .nil .nil)

theorem constOk_eval:ConstOk a.eval:=⟨fun _=>rfl,fun _=>rfl⟩

theorem stripB_ok {Sp:SpT}{v:AV}{cs:List Cd}(h:AllC Sp (stripB v cs)):AllC Sp cs∧(strip1 v=v∨v=.may true (strip1 v)):=by
 cases v with
 |may b v=>
  obtain⟨h1,h2⟩:=h
  have:b=true:=h1
  subst this
  exact⟨h2,.inr rfl⟩
 |_=>exact⟨h,.inl rfl⟩

theorem stripC_ok {Sp:SpT}:∀{rt:List (Nat×AV)} {cs:List Cd},AllC Sp (stripC rt cs)→AllC Sp cs∧∀t v,aget (stripT rt) t=some v→aget rt t=some v∨aget rt t=some (.may true v)
 |[],cs,h=>⟨h,fun t v h=>by cases h⟩
 |(k,u)::r,cs,h=>by
  obtain⟨h1,h2⟩:=stripB_ok h
  obtain⟨h3,h4⟩:=stripC_ok h1
  refine⟨h3,fun t v hv=>?_⟩
  simp only[stripT,aget]at hv ⊢
  cases e:Nat.beq k t with
  |false=>
   rw[e]at hv
   simp only[cond_false]at hv ⊢
   exact h4 t v hv
  |true=>
   rw[e]at hv
   simp only[cond_true]at hv ⊢
   cases hv
   rcases h2 with h2|h2
   ·left;rw[h2]
   ·right;rw[← h2]

theorem compOpB_ok {op:XOp}(hx:compOpB P o.op=some op):compOp P o.op=some op∨op=.bad:=by
 unfold compOpB at hx
 split at hx
 ·cases hx
 ·split at hx
  ·rename_i h;cases hx;exact .inl h
  ·cases hx;exact .inr rfl

theorem runU_sound' {op:XOp}(hx:compOp P o.op=some op)(hm:MRel G F ρ H w)(hrt:∀t v,aget rt t=some v→RelV w F ρ H v (a.tmps.getD t undef))(hl:∀id o,look id=some o→H id=some o){site:Nat}{d:Dir}
  (hD:runU G site look op d rt=some D) (hc:AllC (SpecQ P G) D.cs) (hfresh:∀i,i∈D.al→H i=none):OpOk P o a.eval w (KD G F ρ H w D):=by
 unfold runU at hD
 split at hD
 ·exact op_sound hx constOk_eval hm hl (evOk_of hm hrt) hD hc hfresh
 ·split at hD
  ·rename_i D' hD'
   cases hD
   obtain⟨h1,h2⟩:=stripC_ok hc
   have hrt':∀t v,aget (stripT rt) t=some v→RelV w F ρ H v (a.tmps.getD t undef):=fun t v h=>by
    rcases h2 t v h with h|h
    ·exact hrt t v h
    ·exact(hrt t _ h).mayInv rfl
   have:=op_sound (D:=D') hx constOk_eval hm hl (evOk_of hm hrt') hD' h1 hfresh
   exact this
  ·cases hD

theorem runU_sound {op:XOp}(hx:compOpB P o.op=some op)(hm:MRel G F ρ H w)(hrt:∀t v,aget rt t=some v→RelV w F ρ H v (a.tmps.getD t undef))(hl:∀id o,look id=some o→H id=some o){site:Nat}{d:Dir}
  (hD:runU G site look op d rt=some D) (hc:AllC (SpecQ P G) D.cs) (hfresh:∀i,i∈D.al→H i=none):OpOk P o a.eval w (KD G F ρ H w D):=by
 rcases compOpB_ok hx with h|rfl
 ·exact runU_sound' h hm hrt hl hD hc hfresh
 ·simp[runU,keepMay,execD]at hD

theorem geC_ok {Sp:SpT}{b want:Bool}(hb:negIf (!want) b=true):∀{cs:List Cd},AllC Sp (geC b want cs)→AllC Sp cs
 |[],_=>trivial
 |c::r,h=>⟨h.1 hb,geC_ok hb h.2⟩

variable {ops:Array Oper}{Q:Exit→Act→World→Prop}

theorem getD_bool {tmps:Array Value}{t:Nat}{b:Bool}(h:tmps.getD t undef=.bool b):tmps[t]? =some (.bool b):=by
 cases e:tmps[t]? with
 |none=>simp[Array.getD_eq_getD_getElem?,e,undef]at h
 |some v=>simp[Array.getD_eq_getD_getElem?,e]at h;rw[h]

theorem wanted_of {x:XO}(hg:compG ops o.guard=some x.guard):match x.guard with
  |none=>∀(a:Act),Region.wanted o (yielded ops a.tmps)=true
  |some (t,want)=>∀(a:Act) (d b:Bool),(d=true→a.tmps.getD t undef=.bool b)→(d=false→a.tmps.getD t undef=undef)→Region.wanted o (yielded ops a.tmps)=(d&&negIf (!want) b):=by
 unfold compG at hg
 split at hg
 ·rename_i e
  cases hx:x.guard with
  |none=>intro a;simp[Region.wanted,e]
  |some p=>rw[hx]at hg;cases hg
 ·rename_i j want e
  split at hg
  ·rename_i t ht
   cases hx:x.guard with
   |none=>rw[hx]at hg;cases hg
   |some p=>
    rw[hx]at hg
    cases hg
    intro a d b h1 h0
    cases d with
    |true=>
     have hb:=getD_bool (h1 rfl)
     simp only[Region.wanted,e,yielded,ht,Option.bind_some,hb]
     cases want<;>cases b<;>rfl
    |false=>
     have h0:=h0 rfl
     simp only[Region.wanted,e,yielded,ht,Option.bind_some]
     cases hh:a.tmps[t]? with
     |none=>rfl
     |some y=>
      have:y=undef:=by
       simp[Array.getD_eq_getD_getElem?,hh]at h0;exact h0
      subst this
      rfl
  ·cases hg

theorem onl_lit {x:XO}{site:Nat}{d:Dir}{gv:Option AV}{Sp:SpT}{t:Nat}{want:Bool}{y:Value}(hD:runG G site look x .onl d gv rt=some D)(hc:AllC Sp D.cs)(hg:x.guard=some (t,want))(hrel:∀v,gv=some v→RelV w F ρ H v y):y=.bool want:=by
 unfold runG at hD
 rw[hg]at hD
 simp only at hD
 split at hD
 ·rename_i dd b hgd
  split at hD
  ·rename_i D' hD'
   cases hD
   have he:(dd&&negIf (!want) b)=true:=hc.1
   rw[Bool.and_eq_true]at he
   cases gv with
   |none=>cases hgd
   |some v=>
    have:=(gval_ok 8 hgd (hrel v rfl)).1 he.1
    rw[this]
    have h2:=he.2
    cases want<;>cases b<;>simp_all [negIf]
  ·cases hD
 ·cases hD

theorem put_rsf {F':Nat→Prop}{ρ':Nat→Option Nat}{H':Nat→Option HO}{w':World}(hr:RSf G F ρ T H n a w)(hm:MRel G F' ρ' H' w')(he:Ext G F ρ w F' ρ' w')(hk:HKeep w ρ H w' ρ' H'){dst:Option Nat}(hd:∀t,dst=some t→t<n){v:AV}{y:Value}(hv:RelV w' F' ρ' H' v y):
  RSf G F' ρ' (updT T dst v) H' n (a.put dst y) w':=by
 have hold:∀t v,T t=some v→RelV w' F' ρ' H' v (a.tmps.getD t undef):=fun t v h=>(hr.tmps t v h).mono he.frz he.keep hk
 cases dst with
 |none=>exact⟨hr.size,hold,hm,hr.defs.ext he rfl⟩
 |some d=>
  refine⟨by simp[Act.put];exact hr.size,fun t u h=>?_,hm,hr.defs.ext he rfl⟩
  have hd:=hd d rfl
  rw[← hr.size]at hd
  simp only[updT]at h
  by_cases e:t=d
  ·subst e
   rw[upd_same]at h;cases h
   simp[Act.put,Array.getD_eq_getD_getElem?,hd];exact hv
  ·rw[upd_other _ _ e]at h
   have:=hold t u h
   simpa[Act.put,Array.getD_eq_getD_getElem?,Array.getElem?_setIfInBounds_ne (Ne.symm e)]using this

theorem one_sound {i:Nat}(hi:ops[i]? =some o){x:XO}(hx:compXO P ops o=some x)(hr:RSf G F ρ T H n a w)(hrt:∀t v,aget rt t=some v→T t=some v){gv:Option AV}
  (hgv:∀t want v,x.guard=some (t,want)→gv=some v→T t=some v) (hl:∀id o,look id=some o→H id=some o) {site:Nat} {g:GDir} {d:Dir}
  (hD:runG G site look x g d gv rt=some D) (hdst:∀t,x.dst=some t→t<n) (hfresh:∀i,i∈D.al→H i=none) (hc:AllC (SpecQ P G) D.cs) {K:Act→World→Prop}
  (hK:∀y w' F' ρ',RSf G F' ρ' (updT T x.dst D.v) (updL H D.ws) n (a.put x.dst y) w'→Ext G F ρ w F' ρ' w'→HKeep w ρ H w' ρ' (updL H D.ws)→K (a.put x.dst y) w'):wpOpR P ops i K a w:=by
 unfold compXO at hx
 split at hx
 ·rename_i op gd hop hg
  cases hx
  have hw:=wanted_of (x:={dst:=o.dst,op:=op,guard:=gd}) hg
  have hrel:∀t v,aget rt t=some v→RelV w F ρ H v (a.tmps.getD t undef):=fun t v h=>hr.tmps t v (hrt t v h)
  have skip:∀{D':Delta},D'.ws=[]→(∀y w' F' ρ',RSf G F' ρ' (updT T o.dst D'.v) (updL H D'.ws) n (a.put o.dst y) w'→Ext G F ρ w F' ρ' w'→HKeep w ρ H w' ρ' (updL H D'.ws)→K (a.put o.dst y) w')→RelV w F ρ H D'.v undef→K (a.put o.dst undef) w:=by
   intro D' hws hK hv
   rw[hws]at hK
   exact hK undef w F ρ (put_rsf hr hr.mem (Ext.refl _ _ _) (HKeep.refl _ _ _) hdst hv) (Ext.refl _ _ _) (HKeep.refl _ _ _)
  have run:∀{D':Delta},runU G site look op d rt=some D'→AllC (SpecQ P G) D'.cs→(∀i,i∈D'.al→H i=none)→
    (∀y w' F' ρ',RSf G F' ρ' (updT T o.dst D'.v) (updL H D'.ws) n (a.put o.dst y) w'→Ext G F ρ w F' ρ' w'→HKeep w ρ H w' ρ' (updL H D'.ws)→K (a.put o.dst y) w')→OpOk P o a.eval w (fun v w'=>K (a.put o.dst v) w'):=by
   intro D' hD' hc' hf' hK'
   have hok:=runU_sound (a:=a) hop hr.mem hrel hl hD' hc' hf'
   refine hok.mono ?_
   rintro y w' ⟨F',ρ',q1,q2,q3,q4⟩
   exact hK' y w' F' ρ' (put_rsf hr q1 q2 q3 hdst q4) q2 q3
  unfold wpOpR
  rw[hi]
  simp only
  unfold runG at hD
  split at hD
  ·rename_i hgn
   simp only at hgn
   subst hgn
   rw[if_pos (hw a)]
   exact(run hD hc hfresh hK)
  ·rename_i t want hgs
   simp only at hgs
   subst hgs
   split at hD
   ·rename_i d0 b hgd
    have hbb:(d0=true→a.tmps.getD t undef=.bool b)∧(d0=false→a.tmps.getD t undef=undef):=by
     cases gv with
     |none=>cases hgd
     |some v=>exact gval_ok 8 hgd (hr.tmps t _ (hgv t want _ rfl rfl))
    have hwant:Region.wanted o (yielded ops a.tmps)=(d0&&negIf (!want) b):=hw a d0 b hbb.1 hbb.2
    rw[hwant]
    generalize (d0&&negIf (!want) b)=e at hD ⊢
    split at hD
    ·cases hn:e with
     |true=>
      rw[hn]at hD
      rw[if_pos rfl]
      exact(run hD hc hfresh hK)
     |false=>
      rw[hn]at hD
      cases hD
      rw[if_neg (by simp)]
      exact skip (D':=skipD []) rfl hK (.may _ _ _ (fun h=>by cases h) (fun _=>rfl))
    ·split at hD
     ·rename_i D' hD'
      cases hD
      have hn:e=true:=hc.1
      rw[hn,if_pos rfl]
      exact(run hD' hc.2 hfresh hK)
     ·cases hD
    ·split at hD
     ·rename_i D' hD'
      cases hD
      have hn:e=true:=hc.1
      rw[hn,if_pos rfl]
      exact(run hD' hc.2 hfresh hK)
     ·cases hD
    ·cases hD
     have hn:(!e)=true:=hc.1
     have hn':e=false:=by cases e<;>simp_all
     rw[hn',if_neg (by simp)]
     exact skip (D':=skipD [.b (!e)]) rfl hK (.may _ _ _ (fun h=>by cases h) (fun _=>rfl))
    ·split at hD
     ·rename_i D' hD'
      split at hD
      ·rename_i hws hal
       cases hD
       cases hn:e with
       |true=>
        rw[if_pos rfl]
        subst hn
        refine(run hD' (geC_ok (b:=true) (want:=true) rfl hc) (fun i hi=>by rw[hal]at hi;cases hi) fun y w' F' ρ' h1 h2 h3=>hK y w' F' ρ' ?_ h2 (by rw[hws]at h3;exact h3))
        rw[hws]at h1
        refine⟨h1.size,fun t v h=>?_,h1.mem,h1.defs⟩
        cases hdd:o.dst with
        |none=>rw[hdd]at h h1;exact h1.tmps t v h
        |some d'=>
         rw[hdd]at h h1
         simp only[updT]at h
         by_cases e:t=d'
         ·subst e
          rw[upd_same]at h;cases h
          exact mkMay_rel (fun _=>h1.tmps t _ (upd_same _ _ _)) (fun e=>by cases e)
         ·rw[upd_other _ _ e]at h
          exact h1.tmps t v (by simp only[updT];rw[upd_other _ _ e];exact h)
       |false=>
        rw[if_neg (by simp)]
        subst hn
        exact skip (D':={v:=mkMay false D'.v,ws:=[],al:=[],cs:=geC false true D'.cs}) rfl hK (mkMay_rel (fun e=>by cases e) (fun _=>rfl))
      ·cases hD
     ·cases hD
   ·cases hD
 ·cases hx

end
end Go.Ab

/-
 Regions: in text order, and in any order that the edges allow.
-/
set_option linter.unusedVariables false
set_option linter.unusedSimpArgs false
namespace Go.Ab
open Go

abbrev Dirs:=List (Nat×(GDir×Dir))
def dirOf (ds:Dirs)(s:Nat):GDir×Dir:=match aget ds s with
 |some d=>d
 |none=>(aget ds 0).getD (.auto,.plain)

def putS (S:St)(dst:Option Nat)(D:Delta):St:=
 {t:=match dst with|some t=>aset S.t t D.v|none=>S.t,h:=asets S.h D.ws,n:=S.n}
def okDst:Option Nat→Nat→Bool
 |none,_=>true
 |some t,n=>Nat.ble (t+1) n
def freshA (h:List (Nat×HO)):List Nat→Bool
 |[]=>true
 |i::r=>match aget h i with
  |none=>freshA h r
  |some _=>false
def gvOf (T:List (Nat×AV)):Option (Nat×Bool)→Option AV
 |some (t,_)=>aget T t
 |none=>none

def litS (S:St):GDir→Option (Nat×Bool)→St
 |.onl,some (t,want)=>{S with t:=aset S.t t (.bool want)}
 |_,_=>S
def exOps (G:GL)(ds:Dirs):List XO→Nat→St→Option (St×List Cd)
 |[],_,S=>some (S,[])
 |x::r,s,S=>match runG G s (aget S.h) x (dirOf ds s).1 (dirOf ds s).2 (gvOf S.t x.guard) (readT S.t x.op.opds)with
  |some D=>cond (okDst x.dst S.n&&freshA S.h D.al) (match exOps G ds r (s+1) (putS (litS S (dirOf ds s).1 x.guard) x.dst D)with
   |some (S',cs)=>some (S',D.cs++cs)
   |none=>none) none
  |none=>none

def compXOs (P:Program)(ops:Array Oper):List Oper→Option (List XO)
 |[]=>some []
 |o::r=>match compXO P ops o,compXOs P ops r with
  |some x,some l=>some (x::l)
  |_,_=>none

def RS (G:GL)(F:Nat→Prop)(ρ:Nat→Option Nat)(S:St)(a:Act)(w:World):Prop:=RSf G F ρ (aget S.t) (aget S.h) S.n a w

section
variable {P:Program}{G:GL}{F:Nat→Prop}{ρ:Nat→Option Nat}{a:Act}{w:World}{ops:Array Oper}{R:Act→World→Prop}

theorem readT_get {T:List (Nat×AV)}:∀{os:List Opd} {t:Nat} {v:AV},aget (readT T os) t=some v→aget T t=some v
 |[],t,v,h=>by cases h
 |.t n::r,t,v,h=>by
  simp only[readT]at h
  split at h
  ·rename_i u hu
   simp only[aget]at h
   by_cases e:n=t
   ·subst e
    rw[beq_self,cond_true]at h;cases h;exact hu
   ·rw[beq_ne e,cond_false]at h;exact readT_get h
  ·exact readT_get h
 |.c _::r,t,v,h=>readT_get (os:=r) h
 |.g _::r,t,v,h=>readT_get (os:=r) h

theorem freshA_ok {h:List (Nat×HO)}:∀{l:List Nat},freshA h l=true→∀i,i∈l→aget h i=none
 |[],_,i,hi=>by simp at hi
 |j::r,hf,i,hi=>by
  simp only[freshA]at hf
  split at hf
  ·rename_i hn
   rcases List.mem_cons.1 hi with rfl|hi
   ·exact hn
   ·exact freshA_ok hf i hi
  ·cases hf

theorem okDst_ok {dst:Option Nat}{n:Nat}(h:okDst dst n=true):∀t,dst=some t→t<n:=by
 rintro t rfl
 exact Nat.le_of_ble_eq_true h

theorem putS_t (S:St)(dst:Option Nat)(D:Delta):aget (putS S dst D).t=updT (aget S.t) dst D.v:=by
 cases dst with
 |none=>rfl
 |some t=>exact aget_aset _ _ _
theorem putS_h (S:St)(dst:Option Nat)(D:Delta):aget (putS S dst D).h=updL (aget S.h) D.ws:=aget_asets _ _

theorem gvOf_ok {T:List (Nat×AV)}{g:Option (Nat×Bool)}{t:Nat}{want:Bool}{v:AV}(hg:g=some (t,want))(hv:gvOf T g=some v):aget T t=some v:=by
 subst hg;exact hv

theorem put_defers' (a:Act)(d:Option Nat)(y:Value):(a.put d y).defers=a.defers:=by cases d<;>rfl

theorem exOps_sound {ds:Dirs}:∀(l:List Oper) (k:Nat) (xs:List XO) (s:Nat) (S S':St) (cs:List Cd) (F:Nat→Prop) (ρ:Nat→Option Nat) (a:Act) (w:World),(∀j,j<l.length→l[j]? =ops[k+j]?)→compXOs P ops l=some xs→exOps G ds xs s S=some (S',cs)→AllC (SpecQ P G) cs→
  RS G F ρ S a w→(∀a' w' F' ρ',RS G F' ρ' S' a' w'→Ext G F ρ w F' ρ' w'→HKeep w ρ (aget S.h) w' ρ' (aget S'.h)→a'.defers=a.defers→R a' w')→wpOpsR P ops R (List.range' k l.length) a w
 |[],k,xs,s,S,S',cs,F,ρ,a,w,hl,hx,he,hc,hr,hQ=>by
  cases hx
  simp only[exOps]at he
  cases he
  exact hQ a w F ρ hr (Ext.refl _ _ _) (HKeep.refl _ _ _) rfl
 |o::l,k,xs,s,S,S',cs,F,ρ,a,w,hl,hx,he,hc,hr,hQ=>by
  simp only[compXOs]at hx
  split at hx
  ·rename_i x xl hxo hxl
   cases hx
   simp only[exOps]at he
   split at he
   ·rename_i D hD
    rw[cond_eq_ite]at he
    split at he
    ·rename_i hcond
     split at he
     ·rename_i S'' cs' he'
      cases he
      rw[Bool.and_eq_true]at hcond
      obtain⟨c1,c2⟩:=hc.app
      have h0:ops[k]? =some o:=by simpa using(hl 0 (by simp)).symm
      rw[List.length_cons,List.range'_succ]
      show wpOpR P ops k _ a w
      refine one_sound h0 hxo hr (fun t v h=>readT_get h) (fun t want v hg hv=>gvOf_ok hg hv) (fun _ _ h=>h) hD (okDst_ok hcond.1) (freshA_ok hcond.2) c1 ?_
      intro y w' F' ρ' hr' hx' hk'
      obtain⟨l1,l2,l3⟩:(litS S (dirOf ds s).1 x.guard).h=S.h∧(litS S (dirOf ds s).1 x.guard).n=S.n∧RSf G F' ρ' (updT (aget (litS S (dirOf ds s).1 x.guard).t) x.dst D.v) (updL (aget S.h) D.ws) S.n (a.put x.dst y) w':=by
       unfold litS
       split
       ·rename_i t want hdir hgd
        refine⟨rfl,rfl,hr'.size,?_,hr'.mem,hr'.defs⟩
        intro u v hu
        show RelV w' F' ρ' (updL (aget S.h) D.ws) v _
        have hy:a.tmps.getD t undef=.bool want:=onl_lit (by rw[← hdir];exact hD) c1 hgd fun v hv=>hr.tmps t v (gvOf_ok hgd hv)
        have e1:aget (aset S.t t (AV.bool want))=upd (aget S.t) t (some (.bool want)):=aget_aset _ _ _
        simp only[e1]at hu
        cases hdd:x.dst with
        |none=>
         rw[hdd]at hu hr'
         simp only[updT]at hu
         by_cases e:u=t
         ·subst e
          rw[upd_same]at hu;cases hu
          show RelV _ _ _ _ _ (a.tmps.getD u undef)
          rw[hy];exact relBool _
         ·rw[upd_other _ _ e]at hu
          exact hr'.tmps u v hu
        |some d'=>
         rw[hdd]at hu hr'
         simp only[updT]at hu
         by_cases ed:u=d'
         ·subst ed
          rw[upd_same]at hu
          exact hr'.tmps u v (by simp only[updT];rw[upd_same];exact hu)
         ·rw[upd_other _ _ ed]at hu
          by_cases e:u=t
          ·subst e
           rw[upd_same]at hu;cases hu
           have:(a.put (some d') y).tmps.getD u undef=a.tmps.getD u undef:=by
            simp[Act.put,Array.getD_eq_getD_getElem?,Array.getElem?_setIfInBounds_ne (Ne.symm ed)]
           rw[this,hy];exact relBool _
          ·rw[upd_other _ _ e]at hu
           exact hr'.tmps u v (by simp only[updT];rw[upd_other _ _ ed];exact hu)
       ·exact⟨rfl,rfl,hr'⟩
      generalize litS S (dirOf ds s).1 x.guard=S1 at l1 l2 l3 he'
      rw[← l1]at hk' l3
      rw[← l2]at l3
      rw[← putS_h S1 x.dst D]at hk'
      rw[l1]at hk'
      clear hr'
      have hr':=l3
      refine exOps_sound l (k+1) xl (s+1) (putS S1 x.dst D) S' cs' F' ρ' _ w' (fun j hj=>by have:=hl (j+1) (by simpa using hj);simpa[Nat.add_assoc,Nat.add_comm 1 j]using this) hxl he' c2 ?_ ?_
      ·unfold RS;rw[putS_t,putS_h];exact hr'
      ·intro a' w'' F'' ρ'' h1 h2 h3 h4
       exact hQ a' w'' F'' ρ'' h1 (hx'.trans h2) (hk'.trans h3) (h4.trans (put_defers' _ _ _))
     ·cases he
    ·cases he
   ·cases he
  ·cases hx

end
end Go.Ab

/-
 A range over a map goes on: to any entry that it has not yet visited, or to its end.
-/
set_option linter.unusedVariables false
set_option linter.unusedSimpArgs false
namespace Go.Ab
open Go

def leftE (es:List (List Int×List Int×Nat))(seen:List Nat):List (List Int×List Int×Nat):=es.filter fun e=> !seen.contains e.2.2

def bornP (es:List (List Int×List Int×Nat))(ck:Nat):Prop:=∀e∈es,e.2.2<ck

section
variable {P:Program}{G:GL}{F:Nat→Prop}{ρ:Nat→Option Nat}{H:Nat→Option HO}{w:World}{o:Oper}{ev:Operand→Value}{T:List (Nat×AV)}

theorem compOp_nxtm {op:Op}{a:Opd}(h:compOp P op=some (.nxtm a)):∃X,op=.next X false∧compX X=some a:=by
 unfold compOp at h
 split at h
 case h_16 X=>
  split at h
  ·rename_i a' ha
   cases h
   exact⟨X,rfl,ha⟩
  ·cases h
 all_goals exfalso
 all_goals try simp only[compAlloc,compLoad,compStore,compEqa,compEq,compBin,compConv,compFieldA,compField,compIdxA,compIdx,compSlice,compBuild,compBuildS,compMkmap,compLook,compMput,compMent,compMst,compMks,compCall,compBstr,compSbyt,cond_eq_ite]at h
 all_goals (repeat' split at h)
 all_goals first
  |(cases h;done)
  |(simp at h;done)
  |(rename_i hq;cases h;(repeat' split at hq)<;>first|(cases hq;done)|(simp at hq;done))
theorem run_pick (n:Nat)(hn:0<n):∃(j:Nat) (w1:World),j<n∧w1.heap=w.heap∧IoEq G w w1∧(choose (.mapNext n)).run P w=.ok j w1:=by
 by_cases h:n≤1
 ·refine⟨0,w,hn,rfl,IoEq.refl _,?_⟩
  simp[choose,Sem.run,Question.forced,h]
 ·refine⟨w.tape w.drawn (.mapNext n)%n,{w with drawn:=w.drawn+1},Nat.mod_lt _ hn,rfl,⟨rfl,rfl,fun _=>⟨rfl,Nat.le_succ _⟩⟩,?_⟩
  simp[choose,Sem.run,Question.forced,h,Question.cut]

theorem step_nxtm {X:Operand}(ho:o.op=.next X false){a:Opd}(hX:compX X=some a)(hm:MRel G F ρ H w)(hev:EvOk G F ρ H w T ev){id mid ck:Nat}{seen:List Nat}{blk:Blk}{kk vk:MV}{es:List (List Int×List Int×Nat)}
  (ha:a.ev G T=.ptr id 0) (hit:H id=some (.mit mid ck seen)) (hmb:H mid=some (.blk blk)) (hc:blk.c=.maps kk vk es ck) (hb:∀e∈es,e.2.2<ck):
  OpOk P o ev w (fun y w'=>(leftE es seen=[]∧KD G F ρ H w {v:=.tup [.bool false],ws:=[],al:=[],cs:=[]} y w')∨
   ∃e,e∈leftE es seen∧KD G F ρ H w {v:=.tup [.bool true,kk.av e.1,vk.av e.2.1],ws:=[(id,.mit mid ck (seen++[e.2.2]))],al:=[],cs:=[]} y w'):=by
 obtain⟨b,mb,z1,z2,z3,z4⟩:=hm.heap id _ hit
 have hv:=hev _ _ hX
 rw[ha]at hv
 generalize hy:ev X=y at hv
 have hptr:y=.pointer (some ⟨b,0,none⟩):=by
  cases hv with
  |imm _ _ hi=>cases hi
  |ptr _ _ b' _ hb _ _=>rw[z1]at hb;cases hb;rfl
 subst hptr
 have hmap:w.heap[mb]? =some (.map (es.map (entV kk vk)).toArray ck):=by
  cases z4 with
  |imm _ _ hi=>cases hi
  |mp _ _ ob hb' hh hx=>
   rw[hmb]at hh;cases hh
   obtain⟨_,h1|⟨b',h1,h2⟩⟩:=hm.heap mid _ hmb
   ·rw[hb']at h1;cases h1.2
   ·rw[hb']at h1;cases h1
    exact(h2.mp _ _ _ _ hc).1
 have hlt:=lt_of_some z3
 have hsome:∀(es':List (List Int×List Int×Nat)),(∀e∈es',e.2.2<ck)→es'≠[]→((es'.map (entV kk vk)).toArray.all fun e=>decide (e.born≥ck))=false:=fun es' h hne=>by
  cases es' with
  |nil=>exact absurd rfl hne
  |cons e r=>
   have:=h e (by simp)
   simp[entV];omega
 have hleft:((es.map (entV kk vk)).toArray.filter fun e=> !seen.toArray.contains e.born)=((leftE es seen).map (entV kk vk)).toArray:=by
  rw[List.filter_toArray,List.filter_map]
  have:List.filter ((fun e:MapEntry=> !seen.toArray.contains e.born)∘entV kk vk) es=List.filter (fun e=> !seen.contains e.2.2) es:=List.filter_congr (fun e _=>Bool.eq_iff_iff.2 (by simp[entV];exact decide_eq_false_iff_not))
  rw[this];rfl
 have hold:(((leftE es seen).map (entV kk vk)).toArray.filter fun e=>decide (e.born<ck))=((leftE es seen).map (entV kk vk)).toArray:=by
  rw[List.filter_toArray,List.filter_map]
  have:List.filter ((fun e:MapEntry=>decide (e.born<ck))∘entV kk vk) (leftE es seen)=leftE es seen:=by
   rw[List.filter_eq_self]
   intro e he
   simp[entV,hb e (List.mem_filter.1 he).1]
  rw[this]
 have hnew:(((leftE es seen).map (entV kk vk)).toArray.filter fun e=>decide (e.born≥ck))= #[]:=by
  rw[List.filter_toArray,List.filter_map]
  have:List.filter ((fun e:MapEntry=>decide (e.born≥ck))∘entV kk vk) (leftE es seen)=[]:=by
   rw[List.filter_eq_nil_iff]
   intro e he
   have h1:=hb e (List.mem_filter.1 he).1
   exact fun h=>absurd (show e.2.2≥ck from of_decide_eq_true h) (by omega)
  rw[this];rfl
 have hguard:(!seen.toArray.isEmpty&& !((es.map (entV kk vk)).toArray).isEmpty&&(es.map (entV kk vk)).toArray.all fun e=>decide (e.born≥ck))=false:=by
  by_cases h:es=[]
  ·subst h;simp
  ·rw[hsome es hb h];simp
 have hrun0:(Instr.next (.pointer (some ⟨b,0,none⟩)) false o.type).run P w=((choose (.mapNext ((if(leftE es seen).isEmpty then #[none]else #[])++((leftE es seen).map (entV kk vk)).toArray.map some).size)).run P w).andThen fun j w1=>
   (match((if(leftE es seen).isEmpty then #[none]else #[])++((leftE es seen).map (entV kk vk)).toArray.map some)[j]? with
    |some (some e)=>(do setObj b (.mapIter (some mb) ck (seen.toArray.push e.born) ck);pure (.tuple #[.bool true,e.key,e.val]):Sem Value)
    |some none=>(pure (.tuple #[.bool false]):Sem Value)
    |none=>stuck "Next: no such candidate").run P w1:=by
  have hgo:∀{α:Type} (r:Nat) (ob:Obj) (k:Obj→Sem α),w.heap[r]? =some ob→(∀cs ty fz,ob≠ .cells cs ty fz)→((getObj r).bind k).run P w=(k ob).run P w:=fun r ob k h hc=>by
   show(Sem.getObj r _).run P w=_
   simp only[Sem.run,h]
   cases ob<;>first|rfl|exact absurd rfl (hc _ _ _)
  unfold Instr.next
  simp only[bind]
  rw[hgo b _ _ z3 (fun _ _ _ h=>by cases h)]
  simp only[bind]
  rw[hgo mb _ _ hmap (fun _ _ _ h=>by cases h)]
  simp only[hguard,Bool.false_eq_true,if_false]
  simp only[hleft,hold,hnew,Array.append_empty]
  have he:(((leftE es seen).map (entV kk vk)).toArray).isEmpty=(leftE es seen).isEmpty:=by cases leftE es seen<;>rfl
  rw[he]
  exact Sem.run_bind ..
 cases hL:leftE es seen with
 |nil=>
  rw[hL]at hrun0
  have hr1:(choose (.mapNext 1)).run P w=.ok 0 w:=by simp[choose,Sem.run,Question.forced]
  have hrun:(execOp ev o).run P w=(Result.ok (Value.tuple #[.bool false]) w).andThen fun v w'=>.ok (.value v) w':=by
   unfold execOp
   rw[ho]
   simp only[run_value,hy]
   rw[hrun0]
   simp[hr1]
  refine .inl ⟨_,_,w,hrun,.inl rfl,.inl ⟨rfl,?_⟩⟩
  exact⟨F,ρ,hm,Ext.refl _ _ _,HKeep.refl _ _ _,.imm _ _ (.tup _ _ (.cons _ _ _ _ (.bool _) .nil))⟩
 |cons e0 r0=>
  rw[hL]at hrun0
  have hsz:((if(e0::r0).isEmpty then #[none]else #[])++((e0::r0).map (entV kk vk)).toArray.map some).size=(e0::r0).length:=by simp
  rw[hsz]at hrun0
  obtain⟨j,w1,j1,j2,j3,j4⟩:=run_pick (P:=P) (G:=G) (w:=w) (e0::r0).length (by simp)
  have hget:((if(e0::r0).isEmpty then #[none]else #[])++((e0::r0).map (entV kk vk)).toArray.map some)[j]? =some (some (entV kk vk (e0::r0)[j])):=by
   have h1:(if(e0::r0).isEmpty then(#[none]:Array (Option MapEntry))else #[])= #[]:=by simp
   rw[h1,Array.empty_append]
   simp only[List.map_toArray,List.getElem?_toArray,List.getElem?_map,List.getElem?_eq_getElem j1,Option.map_some]
  generalize he:(e0::r0)[j]=e at hget
  have hmem:e∈leftE es seen:=by rw[hL,← he];exact List.getElem_mem _
  rw[j4]at hrun0
  simp only[Result.andThen_ok,hget]at hrun0
  have hlt1:b<w1.heap.size:=by rw[j2];exact hlt
  have hb1:w1.heap[b]? =some (.mapIter (some mb) ck seen.toArray ck):=by rw[j2];exact z3
  have hset:(do setObj b (.mapIter (some mb) ck (seen.toArray.push (entV kk vk e).born) ck);pure (.tuple #[.bool true,(entV kk vk e).key,(entV kk vk e).val]):Sem Value).run P w1=.ok (.tuple #[.bool true,kk.vl e.1,vk.vl e.2.1]) {w1 with heap:=w1.heap.setIfInBounds b (.mapIter (some mb) ck (seen++[e.2.2]).toArray ck)}:=by
   simp[setObj,Sem.run,hb1,entV]
  rw[hset]at hrun0
  have hrun:(execOp ev o).run P w=(Result.ok (Value.tuple #[.bool true,kk.vl e.1,vk.vl e.2.1]) {w1 with heap:=w1.heap.setIfInBounds b (.mapIter (some mb) ck (seen++[e.2.2]).toArray ck)}).andThen fun v w'=>.ok (.value v) w':=by
   unfold execOp
   rw[ho]
   simp only[run_value,hy]
   rw[hrun0]
  obtain⟨m1,x1,k1⟩:=hm.write (w':={w1 with heap:=w1.heap.setIfInBounds b (.mapIter (some mb) ck (seen++[e.2.2]).toArray ck)}) (o':=.mit mid ck (seen++[e.2.2])) hit z1 z2 (ob:=.mapIter (some mb) ck (seen++[e.2.2]).toArray ck)
   (by simp[hlt1]) (fun j hj=>by simp[Array.getElem?_setIfInBounds_ne (Ne.symm hj),j2]) (by simp[j2]) ⟨j3.1,j3.2.1,j3.2.2⟩ (fun cs ty fz h=>by rw[z3]at h;cases h) rfl (fun k h=>by cases h)
   (fun hk=>⟨b,mb,z1,z2,by simp[hlt1],z4.mono (fun b' hb'=>by
    have:b'≠b:=fun e=>z2 (e▸hb')
    simp[Array.getElem?_setIfInBounds_ne (Ne.symm this),j2]) (fun _ h=>h) hk⟩)
  refine .inl ⟨_,_,_,hrun,.inl rfl,.inr ⟨e,hL▸hmem,F,ρ,m1,x1,k1,?_⟩⟩
  exact .imm _ _ (.tup _ _ (.cons _ _ _ _ (.bool _) (.cons _ _ _ _ (MV.rel kk e.1) (.cons _ _ _ _ (MV.rel vk e.2.1) .nil))))
end
end Go.Ab
