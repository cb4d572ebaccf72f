/- An abstract reading of the program: what its operations do to what is known of memory. Part 2 of 9. -/
import Derived.Test.YtfafinkgmhkdmaaGreatDoorAb1

/-
 Operations that only compute: parts of values, places, lengths, strings.
-/
set_option linter.unusedVariables false
set_option linter.unusedSimpArgs false
namespace Go.Ab
open Go
section
variable {P:Program}{F:Nat→Prop}{ρ:Nat→Option Nat}{H:Nat→Option HO}{w:World}{look:Nat→Option HO}
 {Sp:SpT} {D:Delta}

theorem RelVs.drop:∀{l:List AV} {xs:List Value} (n:Nat),RelVs w F ρ H l xs→RelVs w F ρ H (l.drop n) (xs.drop n)
 |_,_,0,h=>h
 |_,_,_+1,.nil=>.nil
 |_,_,n+1,.cons _ _ _ _ _ hs=>hs.drop n
theorem RelVs.take:∀{l:List AV} {xs:List Value} (n:Nat),RelVs w F ρ H l xs→RelVs w F ρ H (l.take n) (xs.take n)
 |_,_,0,h=>.nil
 |_,_,_+1,.nil=>.nil
 |_,_,n+1,.cons _ _ _ _ hv hs=>.cons _ _ _ _ hv (hs.take n)
theorem RelVs.app:∀{l m:List AV} {xs ys:List Value},RelVs w F ρ H l xs→RelVs w F ρ H m ys→RelVs w F ρ H (l++m) (xs++ys)
 |_,_,_,_,.nil,k=>k
 |_,_,_,_,.cons _ _ _ _ hv hs,k=>.cons _ _ _ _ hv (hs.app k)
theorem RelVs.ext {l:List AV}{xs:Array Value}(a n:Nat)(h:RelVs w F ρ H l xs.toList):RelVs w F ρ H ((l.drop a).take n) (xs.extract a (a+n)).toList:=by
 have:=(h.drop a).take n
 rw[Array.toList_extract,List.extract_eq_take_drop]
 simpa using this
theorem RelVs.getD {l:List AV}{xs:Array Value}(h:RelVs w F ρ H l xs.toList){i:Nat}(hi:i<l.length):∃x,xs[i]? =some x∧RelV w F ρ H (l.getD i .undef) x:=by
 have hv:l[i]? =some l[i]:=List.getElem?_eq_getElem hi
 obtain⟨x,h1,h2⟩:=h.get hv
 exact⟨x,by simpa using h1,by simpa[List.getD,hi]using h2⟩

theorem run_underlying' {t:TypeId}{d:TypeDesc}(h:P.underlying t=some d):(underlying t).run P w=.ok d w:=by simp[underlying,h]

theorem run_part {t:TypeId}{agg:Option Nat}(hT:TyOk P t agg){l:List AV}{xs:Array Value}(h:RelVs w F ρ H l xs.toList)(off:Nat):
  (agg=none→off<l.length→∃x,(part t xs off).run P w=.ok x w∧RelV w F ρ H (l.getD off .undef) x)∧
  (∀n,agg=some n→∃x,(part t xs off).run P w=.ok x w∧RelV w F ρ H (.agg ((l.drop off).take n)) x):=by
 obtain⟨i,hi,hsz⟩:=hT.sz
 refine⟨fun e hlt=>?_,fun n e=>?_⟩
 ·subst e
  obtain⟨x,h1,h2⟩:=h.getD hlt
  exact⟨x,by simp[part,run_isAgg hT,h1],h2⟩
 ·subst e
  refine⟨.agg (xs.extract off (off+n)),?_,.agg _ _ (h.ext off n)⟩
  simp only[part,Sem.run_bind,run_isAgg hT,Result.andThen_ok,Option.isSome_some,if_true]
  simp[run_sizeOf' hi,hsz n rfl]

theorem opField_sound {off:Nat}{agg:Option Nat}{v:AV}{x:Value}{t:TypeId}{fs:Array Field}{f:Field}{ix:Nat}(ht:P.underlying t=some (.struct fs))(hf:fs[ix]? =some f)
  (hoff:f.offset=off) (hT:TyOk P f.type agg) (hx:RelV w F ρ H v x) (hD:opField off agg v=some D) (hcs:AllC Sp D.cs):Gives F ρ H w ((Instr.field t x ix).run P w) D:=by
 unfold opField at hD
 split at hD
 ·rename_i l
  obtain⟨xs,rfl,hs⟩:=hx.aggs
  have hrun:(Instr.field t (.agg xs) ix).run P w=(part f.type xs off).run P w:=by
   simp only[Instr.field,Sem.run_bind,run_underlying' ht,Result.andThen_ok,hf,asAgg,Sem.run_pure,hoff]
  rw[hrun]
  obtain⟨p1,p2⟩:=run_part hT hs off
  split at hD
  ·have hlt:off<l.length:=by have:=val_cs hD;rw[this]at hcs;simpa[AllC,Cd.holds,ltn]using hcs
   obtain⟨y,q1,q2⟩:=p1 rfl hlt
   exact Gives.val hD q1 q2
  ·rename_i n
   obtain⟨y,q1,q2⟩:=p2 n rfl
   exact Gives.val hD q1 q2
 ·cases hD

theorem getV_drop (c:Cont)(n i:Nat):(c.drop n).getV i=c.getV (n+i):=by
 cases c<;>simp[Cont.drop,Cont.getV,List.getD,List.getElem?_drop]
theorem size_drop (c:Cont)(n:Nat):(c.drop n).size=c.size-n:=by
 cases c<;>simp[Cont.drop,Cont.size]
theorem getV_take (c:Cont)(n i:Nat)(h:i<n):(c.take n).getV i=c.getV i:=by
 cases c<;>simp[Cont.take,Cont.getV,List.getD,List.getElem?_take,h]
theorem size_take (c:Cont)(n:Nat):(c.take n).size=min n c.size:=by
 cases c<;>simp[Cont.take,Cont.size]

theorem iptr_drop {c:Cont}{b o:Nat}(n:Nat)(h:RelI w F (.iptr c) (.pointer (some ⟨b,o,none⟩))):RelI w F (.iptr (c.drop n)) (.pointer (some ⟨b,o+n,none⟩)):=by
 cases h with
 |iptr _ _ _ xs hF hc hr ho=>
  refine .iptr _ b (o+n) (fun i=>xs (n+i)) hF (fun i hi=>?_) (fun i hi=>?_) (fun i hi=>by rw[size_drop]at hi;exact ho (n+i) (by omega))
  ·rw[size_drop]at hi
   have:=hc (n+i) (by omega)
   rw[show o+n+i=o+(n+i)by omega];exact this
  ·rw[size_drop]at hi
   rw[getV_drop];exact hr (n+i) (by omega)

theorem opFieldA_sound (hl:∀id o,look id=some o→H id=some o){off:Nat}{v:AV}{x:Value}{t:TypeId}{fs:Array Field}{f:Field}{ix:Nat}{inf:TypeInfo}(ht:P.underlying t=some (.struct fs))(hf:fs[ix]? =some f)
  (hoff:f.offset=off) (hi:P.info? f.type=some inf) (hsz:inf.size≠0) (hx:RelV w F ρ H v x) (hD:opFieldA look off v=some D) (hcs:AllC Sp D.cs):Gives F ρ H w ((Instr.fieldAt t x ix).run P w) D:=by
 have hrun:∀b o,(Instr.fieldAt t (.pointer (some ⟨b,o,none⟩)) ix).run P w=.ok (.pointer (some ⟨b,o+off,none⟩)) w:=fun b o=>by
  simp[Instr.fieldAt,run_underlying' ht,hf,Instr.sureAddr,fieldPlace,run_sizeOf' hi,hsz,addr_add,hoff]
 unfold opFieldA at hD
 split at hD
 ·rename_i id o
  cases hx with
  |imm _ _ hi=>cases hi
  |ptr _ _ b ob hb hh hbx=>exact Gives.val hD (hrun b o) (.ptr id _ b ob hb hh hbx)
 ·rename_i id n o
  split at hD
  ·rename_i k0 hk
   have hH:=hl _ _ hk
   cases hx with
   |imm _ _ hi=>cases hi
   |ep _ _ _ k _ hh hle hp hxx=>
    rw[hH]at hh;cases hh
    have hn:k0.n=n:=by have:=val_cs hD;rw[this]at hcs;exact hcs.1
    obtain⟨b,hb,rfl⟩:=hxx hn
    exact Gives.val hD (hrun b o) (.ep id n _ k0 _ hH hle ⟨_,rfl⟩ (fun _=>⟨b,hb,rfl⟩))
  ·cases hD
 ·rename_i c
  cases hx with
  |imm _ _ hi=>
   have hi':=hi
   cases hi with
   |iptr _ b o xs hF hc hr ho=>exact Gives.val hD (hrun b o) (.imm _ _ (iptr_drop off hi'))
 ·cases hD

theorem opNilck_sound (hl:∀id o,look id=some o→H id=some o){v:AV}{x:Value}{ρo:Operand→Value}{o:Oper}{xo:Operand}(ho:o.op=.nilCheck xo)(hxo:ρo xo=x)(hx:RelV w F ρ H v x)(hD:opNilck look v=some D)(hcs:AllC Sp D.cs):
  ∃y,(execOp ρo o).run P w=.ok (.value y) w∧RelV w F ρ H D.v y∧D.ws=[]∧D.al=[]:=by
 have key:∀y,((match x with
  |.pointer none|.nilIface|.nilFunc=>(runtimePanic .nilDeref:Sem Next)
  |.func (.method name) first captured=>
   match(first[0]? :Option Value)with
   |some .nilIface=>runtimePanic .nilDeref
   |some (.iface t w)=>do
    if(← nilAhead ((← program).types.size+Made.depth) t w name) !=some false then
     unsupported (.noEntry "op/nilCheck.the method's receiver behind this interface value is a nil pointer, or cannot be seen to be none, and the arguments act or may panic (ledger 612)")
    pure (.value (.func (.method name) first captured))
   |_=>pure (.value (.func (.method name) first captured))
  |x=>pure (.value x)):Sem Next).run P w=.ok (.value y) w→(execOp ρo o).run P w=.ok (.value y) w:=by
  intro y hy
  unfold execOp
  rw[ho]
  simp only[hxo]
  exact hy
 unfold opNilck at hD
 split at hD
 ·rename_i f a c
  obtain⟨xs,ys,rfl,h1,h2⟩:=hx.fns
  cases hD
  exact⟨_,key _ rfl,.fn f _ _ _ _ h1 h2,rfl,rfl⟩
 ·rename_i i
  cases hD
  cases hx with
  |imm _ _ hi=>cases hi
  |yld _ b ob hb hh hbx=>exact⟨_,key _ rfl,.yld i b ob hb hh hbx,rfl,rfl⟩
 ·rename_i i o
  cases hD
  cases hx with
  |imm _ _ hi=>cases hi
  |ptr _ _ b ob hb hh hbx=>exact⟨_,key _ rfl,.ptr i _ b ob hb hh hbx,rfl,rfl⟩
 ·rename_i i n o
  split at hD
  ·rename_i k0 hk
   have hH:=hl _ _ hk
   cases hx with
   |imm _ _ hi=>cases hi
   |ep _ _ _ k _ hh hle hp hxx=>
    rw[hH]at hh;cases hh
    have hn:k0.n=n:=by have:=val_cs hD;rw[this]at hcs;exact hcs.1
    obtain⟨b,hb,rfl⟩:=hxx hn
    cases hD
    exact⟨_,key _ rfl,.ep i n _ k0 _ hH hle ⟨_,rfl⟩ (fun _=>⟨b,hb,rfl⟩),rfl,rfl⟩
  ·cases hD
 ·rename_i c
  cases hD
  cases hx with
  |imm _ _ hi=>
   have hi':=hi
   cases hi with
   |iptr _ b o xs hF hc hr ho=>exact⟨_,key _ rfl,.imm _ _ hi',rfl,rfl⟩
 ·cases hD

theorem mz_eq (x sz:Nat):mz x sz=x*sz:=by
 unfold mz;split<;>simp
theorem az_eq (x y:Nat):az x y=x+y:=by
 unfold az;split<;>simp

theorem run_asIntOf (k:IntKind)(i:Int):(asIntOf (.int k i)).run P w=.ok (k,i) w:=rfl

theorem opIdxA_sound (hl:∀id o,look id=some o→H id=some o){arr:Option Nat}{sz:Nat}{u v:AV}{x y:Value}{t e:TypeId}{inf:TypeInfo}
  (ht:P.underlying t=some (match arr with|none=>.slice e|some n=>.array n e)) (hi:P.info? e=some inf) (hsz:inf.size=sz)
  (hx:RelV w F ρ H u x) (hy:RelV w F ρ H v y) (hD:opIdxA look arr sz u v=some D) (hcs:AllC Sp D.cs):Gives F ρ H w ((Instr.indexAt t x y).run P w) D:=by
 unfold opIdxA at hD
 split at hD
 ·rename_i k i
  have:=hy.ints;subst this
  split at hD
  ·have hrun:∀(b o len cap:Nat),0≤i→i<(len:Int)→(Instr.indexAt t (.slice (some ⟨b,o,none⟩) len cap) (.int k i)).run P w=.ok (.pointer (some ⟨b,o+i.toNat*sz,none⟩)) w:=fun b o len cap h0 h1=>by
    simp[Instr.indexAt,run_asIntOf,run_underlying' ht,h0,h1,run_sizeOf' hi,hsz,addr_add]
   split at hD
   ·rename_i id len
    split at hD
    ·rename_i k0 hk
     have hH:=hl _ _ hk
     simp only[cond_eq_ite]at hD
     split at hD
     ·cases hx with
      |imm _ _ hi=>cases hi
      |full _ _ k1 _ hh hle hp hxx=>
       rw[hH]at hh;cases hh
       have h3:=val_cs hD;rw[h3]at hcs
       obtain⟨g0,g1,g2,_⟩:=hcs
       have g0:0≤i:=by simpa[Cd.holds,leb]using g0
       have g1:i<len:=by simpa[Cd.holds,ltb]using g1
       rcases hxx g2 with⟨e,_⟩|⟨e,_⟩|⟨_,b,cap,cs,ty,fz,p1,p2,rfl,p3,p4,p5⟩
       ·omega
       ·omega
       ·refine Gives.val hD (hrun b 0 len cap g0 g1) ?_
        rw[mz_eq,Nat.zero_add]
        exact .ep id len _ k0 _ hH (Nat.le_of_eq g2.symm) ⟨_,rfl⟩ (fun _=>⟨b,p1,rfl⟩)
     ·cases hD
    ·cases hD
   ·rename_i id off len cap
    cases hx with
    |imm _ _ hi=>cases hi
    |sl _ _ _ _ b k1 hb hh hbx hlc=>
     have h3:=val_cs hD;rw[h3]at hcs
     obtain⟨g0,g1,_⟩:=hcs
     have g0:0≤i:=by simpa[Cd.holds,leb]using g0
     have g1:i<len:=by simpa[Cd.holds,ltb]using g1
     refine Gives.val hD (hrun b off len cap g0 g1) ?_
     rw[az_eq,mz_eq]
     exact .ptr id _ b _ hb hh hbx
   ·rename_i id n s off len
    split at hD
    ·rename_i k0 hk
     have hH:=hl _ _ hk
     simp only[cond_eq_ite]at hD
     split at hD
     ·rename_i hq
      rw[Bool.and_eq_true]at hq
      have e1:=Nat.eq_of_beq_eq_true hq.1
      have e2:=Nat.eq_of_beq_eq_true hq.2
      subst e2
      have h3:=val_cs hD;rw[h3]at hcs
      obtain⟨g0,g1,g2,_⟩:=hcs
      have g0:0≤i:=by simpa[Cd.holds,leb]using g0
      have g1:i<len:=by simpa[Cd.holds,ltb]using g1
      have g2:k0.n=n:=g2
      obtain⟨hle,⟨e,_⟩|⟨b,cap,cs,ty,fz,p1,p2,rfl,p3,p4⟩⟩:=hx.vws hH g2
      ·omega
      ·refine Gives.val hD (hrun b _ len _ g0 g1) ?_
       rw[mz_eq,az_eq,Nat.add_mul]
       exact .ep id n _ k0 _ hH (Nat.le_of_eq g2.symm) ⟨_,rfl⟩ (fun _=>⟨b,p1,rfl⟩)
     ·cases hD
    ·cases hD
   ·rename_i c len cap
    have h3:=val_cs hD;rw[h3]at hcs
    obtain⟨g0,g1,g2,_⟩:=hcs
    have g0:0≤i:=by simpa[Cd.holds,leb]using g0
    have g1:i<len:=by simpa[Cd.holds,ltb]using g1
    cases hx with
    |imm _ _ hi=>
     cases hi with
     |imm _ _ _ b o cap' xs hF hc hr ho hl hcap=>
      refine Gives.val hD (hrun b o len cap' g0 g1) ?_
      rw[mz_eq]
      exact .imm _ _ (iptr_drop _ (.iptr c b o xs hF hc hr ho))
     |imm0 _ _ _ hc _=>omega
   ·cases hD
  ·rename_i n
   have hrun:∀b o,0≤i→i<n→(Instr.indexAt t (.pointer (some ⟨b,o,none⟩)) (.int k i)).run P w=.ok (.pointer (some ⟨b,o+i.toNat*sz,none⟩)) w:=fun b o h0 h1=>by
    simp[Instr.indexAt,run_asIntOf,run_underlying' ht,h0,h1,run_sizeOf' hi,hsz,addr_add,Instr.sureAddr]
   split at hD
   ·rename_i id off
    have h3:=val_cs hD;rw[h3]at hcs
    obtain⟨g0,g1,_⟩:=hcs
    have g0:0≤i:=by simpa[Cd.holds,leb]using g0
    have g1:i<n:=by simpa[Cd.holds,ltb]using g1
    cases hx with
    |imm _ _ hi=>cases hi
    |ptr _ _ b ob hb hh hbx=>
     refine Gives.val hD (hrun b off g0 g1) ?_
     rw[az_eq,mz_eq]
     exact .ptr id _ b ob hb hh hbx
   ·rename_i c
    have h3:=val_cs hD;rw[h3]at hcs
    obtain⟨g0,g1,_⟩:=hcs
    have g0:0≤i:=by simpa[Cd.holds,leb]using g0
    have g1:i<n:=by simpa[Cd.holds,ltb]using g1
    cases hx with
    |imm _ _ hi=>
     have hi':=hi
     cases hi with
     |iptr _ b o xs hF hc hr ho=>
      refine Gives.val hD (hrun b o g0 g1) ?_
      rw[mz_eq]
      exact .imm _ _ (iptr_drop _ hi')
   ·cases hD
 ·cases hD

theorem opIdx_sound {n sz:Nat}{agg:Bool}{u v:AV}{x y:Value}{t e:TypeId}{inf:TypeInfo}(ht:P.underlying t=some (.array n e))(hT:TyOk P e (if agg then some sz else none))(hi:P.info? e=some inf)(hsz:inf.size=sz)
  (hx:RelV w F ρ H u x) (hy:RelV w F ρ H v y) (hD:opIdx n sz agg u v=some D) (hcs:AllC Sp D.cs):Gives F ρ H w ((Instr.index t x y).run P w) D:=by
 unfold opIdx at hD
 split at hD
 ·rename_i l k i
  have:=hy.ints;subst this
  obtain⟨xs,rfl,hs⟩:=hx.aggs
  have hrun:0≤i→i<n→(Instr.index t (.agg xs) (.int k i)).run P w=(part e xs (i.toNat*sz)).run P w:=fun h0 h1=>by
   simp[Instr.index,run_asIntOf,run_underlying' ht,h0,h1,run_sizeOf' hi,hsz]
  obtain⟨p1,p2⟩:=run_part hT hs (i.toNat*sz)
  split at hD
  ·have h3:=val_cs hD;rw[h3]at hcs
   obtain⟨g0,g1,g2,_⟩:=hcs
   have g0:0≤i:=by simpa[Cd.holds,leb]using g0
   have g1:i<n:=by simpa[Cd.holds,ltb]using g1
   have g2:mz i.toNat sz<l.length:=by simpa[Cd.holds,ltn]using g2
   rw[mz_eq]at g2 hD
   obtain⟨z,q1,q2⟩:=p1 rfl g2
   exact Gives.val hD ((hrun g0 g1).trans q1) q2
  ·have h3:=val_cs hD;rw[h3]at hcs
   obtain⟨g0,g1,g2,_⟩:=hcs
   have g0:0≤i:=by simpa[Cd.holds,leb]using g0
   have g1:i<n:=by simpa[Cd.holds,ltb]using g1
   rw[mz_eq]at hD
   obtain⟨z,q1,q2⟩:=p2 sz rfl
   exact Gives.val hD ((hrun g0 g1).trans q1) q2
 ·cases hD

theorem opIdxD_sound {d:Dir}{n sz:Nat}{agg:Bool}{u v:AV}{x y:Value}{t e:TypeId}{inf:TypeInfo}(ht:P.underlying t=some (.array n e))(hT:TyOk P e (if agg then some sz else none))(hi:P.info? e=some inf)(hsz:inf.size=sz)
  (hx:RelV w F ρ H u x) (hy:RelV w F ρ H v y) (hD:opIdxD d n sz agg u v=some D) (hcs:AllC Sp D.cs):Gives F ρ H w ((Instr.index t x y).run P w) D:=by
 unfold opIdxD at hD
 split at hD
 ·split at hD
  ·rename_i l k i v' _
   have h3:=val_cs hD
   rw[h3]at hcs
   obtain⟨g0,g1,g2,_⟩:=hcs
   have g2:l[mz i.toNat sz]? =some v':=g2
   have hv:v'=l.getD (mz i.toNat sz) .undef:=by rw[List.getD_eq_getElem?_getD,g2];rfl
   have hlt:mz i.toNat sz<l.length:=(List.getElem?_eq_some_iff.1 g2).1
   clear g2
   subst hv
   cases hD
   have hE:opIdx n sz false (.agg l) (.int k i)=some ⟨l.getD (mz i.toNat sz) .undef,[],[],[.b (leb 0 i),.b (ltb i n),.b (ltn (mz i.toNat sz) l.length)]⟩:=rfl
   have h:=opIdx_sound ht hT hi hsz hx hy hE ⟨g0,g1,by simpa[Cd.holds,ltn]using hlt,trivial⟩
   exact h
  ·cases hD
 ·exact opIdx_sound ht hT hi hsz hx hy hD hcs

theorem opIdxs_sound {u v:AV}{x y:Value}{t:TypeId}(ht:P.underlying t=some .string)(hx:RelV w F ρ H u x)(hy:RelV w F ρ H v y)(hD:opIdxs u v=some D)(hcs:AllC Sp D.cs):
  Gives F ρ H w ((Instr.index t x y).run P w) D:=by
 unfold opIdxs at hD
 split at hD
 ·rename_i l k i
  have:=hy.ints;subst this
  obtain⟨s,rfl,hs⟩:=hx.strs
  have h3:=val_cs hD;rw[h3]at hcs
  obtain⟨g0,g1,_⟩:=hcs
  have g0:0≤i:=by simpa[Cd.holds,leb]using g0
  have g1:i<l.length:=by simpa[Cd.holds,ltb]using g1
  subst hs
  have hlt:i.toNat<s.data.toList.length:=by omega
  have hb:s[i.toNat]? =some (s.data.toList.getD i.toNat 0):=by
   have h1:i.toNat<s.size:=by rw[show s.size=s.data.toList.length from(Array.length_toList).symm];exact hlt
   rw[getElem?_pos s i.toNat h1]
   congr 1
   simp only[List.getD,List.getElem?_eq_getElem hlt,Option.getD_some]
   simp[ByteArray.getElem_eq_getElem_data]
  have hrun:(Instr.index t (.string s) (.int k i)).run P w=.ok (.int .u8 (s.data.toList.getD i.toNat 0).toNat) w:=by
   simp only[Instr.index,Sem.run_bind,run_asIntOf,Result.andThen_ok,run_underlying' ht,g0,if_true,hb,Sem.run_pure]
  exact Gives.val hD hrun (relInt _ _)
 ·cases hD

theorem opLens_sound {v:AV}{x:Value}{t ty:TypeId}(ht:P.underlying t=some .string)(hx:RelV w F ρ H v x)
  (hD:opLens v=some D):Gives F ρ H w ((Builtin.len_ #[t] ty #[x]).run P w) D:=by
 unfold opLens at hD
 split at hD
 ·rename_i l
  obtain⟨s,rfl,hs⟩:=hx.strs
  have hsz:(s.size:Int)=(l.length:Int):=by rw[← hs,show s.data.toList.length=s.size from Array.length_toList]
  exact Gives.val hD (by simp[Builtin.len_,run_underlying' ht,goInt,hsz]) (relInt _ _)
 ·cases hD

theorem opLen_sound (hl:∀id o,look id=some o→H id=some o){v:AV}{x:Value}{t ty e:TypeId}(ht:P.underlying t=some (.slice e))(hx:RelV w F ρ H v x)
  (hD:opLen look v=some D) (hcs:AllC Sp D.cs):Gives F ρ H w ((Builtin.len_ #[t] ty #[x]).run P w) D:=by
 have hsl:∀a l c,x=.slice a l c→(Builtin.len_ #[t] ty #[x]).run P w=.ok (.int .i64 l) w:=by
  rintro a l c rfl
  simp[Builtin.len_,run_underlying' ht,goInt]
 unfold opLen at hD
 split at hD
 ·cases hx with|imm _ _ hi=>cases hi;exact Gives.val hD (hsl _ _ _ rfl) (relInt _ _)
 ·cases hx with
  |imm _ _ hi=>
   cases hi with
   |imm=>exact Gives.val hD (hsl _ _ _ rfl) (relInt _ _)
   |imm0=>exact Gives.val hD (hsl _ _ _ rfl) (relInt _ _)
 ·cases hx with
  |imm _ _ hi=>cases hi
  |sl=>exact Gives.val hD (hsl _ _ _ rfl) (relInt _ _)
 ·rename_i id n s off len
  split at hD
  ·rename_i k0 hk
   have h3:=val_cs hD;rw[h3]at hcs
   obtain⟨_,a,c,_,e⟩:=hx.vwf (hl _ _ hk) hcs.1
   exact Gives.val hD (hsl _ _ _ e) (relInt _ _)
  ·cases hD
 ·rename_i id len
  split at hD
  ·rename_i k0 hk
   have hH:=hl _ _ hk
   cases hx with
   |imm _ _ hi=>cases hi
   |full _ _ k1 _ hh hle hp hxx=>
    rw[hH]at hh;cases hh
    have h3:=val_cs hD;rw[h3]at hcs
    rcases hxx hcs.1 with⟨rfl,_,_,rfl⟩|⟨rfl,_,_,a,rfl⟩|⟨_,b,cap,cs,ty,fz,p1,p2,rfl,p3,p4,p5⟩
    ·exact Gives.val hD (hsl _ _ _ rfl) (relInt _ _)
    ·exact Gives.val hD (hsl _ _ _ rfl) (relInt _ _)
    ·exact Gives.val hD (hsl _ _ _ rfl) (relInt _ _)
  ·cases hD
 ·cases hD

theorem opCap_sound (hl:∀id o,look id=some o→H id=some o){v:AV}{x:Value}{t ty e:TypeId}(ht:P.underlying t=some (.slice e))(hx:RelV w F ρ H v x)
  (hD:opCap look v=some D) (hcs:AllC Sp D.cs):Gives F ρ H w ((Builtin.cap_ #[t] ty #[x]).run P w) D:=by
 have hsl:∀a l c,x=.slice a l c→(Builtin.cap_ #[t] ty #[x]).run P w=.ok (.int .i64 c) w:=by
  rintro a l c rfl
  simp[Builtin.cap_,run_underlying' ht,goInt]
 unfold opCap at hD
 split at hD
 ·cases hx with
  |imm _ _ hi=>cases hi
  |fullc=>exact Gives.val hD (hsl _ _ _ rfl) (relInt _ _)
 ·cases hx with|imm _ _ hi=>cases hi;exact Gives.val hD (hsl _ _ _ rfl) (relInt _ _)
 ·cases hx with
  |imm _ _ hi=>
   cases hi with
   |imm _ _ _ b o cap' xs hF hc hr ho hl hcap=>have:=hcap _ rfl;subst this;exact Gives.val hD (hsl _ _ _ rfl) (relInt _ _)
   |imm0 _ _ _ hc hcap=>have:=hcap _ rfl;subst this;exact Gives.val hD (hsl _ _ _ rfl) (relInt _ _)
 ·cases hx with
  |imm _ _ hi=>cases hi
  |sl=>exact Gives.val hD (hsl _ _ _ rfl) (relInt _ _)
 ·rename_i id len
  split at hD
  ·rename_i k0 hk
   have hH:=hl _ _ hk
   split at hD
   ·rename_i n hcap
    cases hx with
    |imm _ _ hi=>cases hi
    |full _ _ k1 _ hh hle hp hxx=>
     rw[hH]at hh;cases hh
     have h3:=val_cs hD;rw[h3]at hcs
     obtain⟨rfl,_,hc0,rfl⟩|⟨rfl,_,hc0,a,rfl⟩|⟨_,b,cap,cs,ty,fz,p1,p2,rfl,p3,p4,p5⟩:=hxx hcs.1
     ·have:=hc0 n hcap;subst this;exact Gives.val hD (hsl _ _ _ rfl) (relInt _ _)
     ·have:=hc0 n hcap;subst this;exact Gives.val hD (hsl _ _ _ rfl) (relInt _ _)
     ·have:=p5.1 n hcap;subst this;exact Gives.val hD (hsl _ _ _ rfl) (relInt _ _)
   ·cases hD
  ·cases hD
 ·cases hD

end
end Go.Ab

/-
 Strings cut, tuples, literals, function values, nil tests, extremes, comparison of structs and arrays.
-/
set_option linter.unusedVariables false
set_option linter.unusedSimpArgs false
namespace Go.Ab
open Go
section
variable {P:Program}{F:Nat→Prop}{ρ:Nat→Option Nat}{H:Nat→Option HO}{w:World}{look:Nat→Option HO}
 {Sp:SpT} {D:Delta}

theorem run_sliceBound (k:IntKind)(i:Int)(y:Nat)(c:BoundsCode)(h0:0≤i)(h1:i≤y):(Instr.sliceBound (.int k i) y c).run P w=.ok i.toNat w:=by
 simp[Instr.sliceBound,run_asIntOf,h0,h1]

theorem extract_toList (s:ByteArray)(a b:Nat):(s.extract a b).data.toList=(s.data.toList.drop a).take (b-a):=by
 rw[ByteArray.data_extract,Array.toList_extract,List.extract_eq_take_drop]

theorem opSlices_sound {lo hi:Bool}{v:AV}{bs:List AV}{x:Value}{xs:List Value}{t:TypeId}(ht:P.underlying t=some .string)(hx:RelV w F ρ H v x)(hb:RelVs w F ρ H bs xs)
  (hlen:bs.length=(if lo then 1 else 0)+(if hi then 1 else 0))
  (hD:opSlices lo hi v bs=some D) (hcs:AllC Sp D.cs):
  Gives F ρ H w ((Instr.slice t x (if lo then xs[0]? else none) (if hi then(if lo then xs[1]? else xs[0]?)else none) none).run P w) D:=by
 unfold opSlices at hD
 split at hD
 ·rename_i l
  obtain⟨s,rfl,hs⟩:=hx.strs
  have hsz:s.size=l.length:=by rw[← hs];exact(Array.length_toList).symm
  have hnone:∀a b,(Instr.slice t (.string s) a b none).run P w=((Instr.sliceBounds false s.size s.size a b none).run P w).andThen fun x w'=>.ok (.string (s.extract x.1 x.2.1)) w':=fun a b=>by
   simp[Instr.slice,run_underlying' ht]
  split at hD
  ·-- low alone
   cases bs with
   |nil=>simp at hlen
   |cons b bs=>
    cases bs with
    |cons=>simp at hlen
    |nil=>
     cases hb with
     |cons _ _ y _ hb1 hbs=>
      cases hbs
      split at hD
      ·rename_i k i hx1
       have hx1:b=.int k i:=by simpa[x1]using hx1
       subst hx1
       have:=hb1.ints;subst this
       have h3:=val_cs hD;rw[h3]at hcs
       obtain⟨g0,g1,_⟩:=hcs
       have g0:0≤i:=by simpa[Cd.holds,leb]using g0
       have g1:i.toNat≤l.length:=by simpa[Cd.holds,len']using g1
       have hrun:(Instr.slice t (.string s) (some (.int k i)) none none).run P w=.ok (.string (s.extract i.toNat s.size)) w:=by
        rw[hnone]
        simp[Instr.sliceBounds,run_sliceBound k i s.size _ g0 (by omega)]
       refine Gives.val hD (by simpa using hrun) (relStr _ _ ?_)
       rw[extract_toList,hs,hsz]
       exact List.take_of_length_le (by simp)
      ·cases hD
  ·cases bs with
   |nil=>simp at hlen
   |cons b bs=>
    cases bs with
    |cons=>simp at hlen
    |nil=>
     cases hb with
     |cons _ _ y _ hb1 hbs=>
      cases hbs
      split at hD
      ·rename_i k i hx1
       have hx1:b=.int k i:=by simpa[x1]using hx1
       subst hx1
       have:=hb1.ints;subst this
       have h3:=val_cs hD;rw[h3]at hcs
       obtain⟨g0,g1,_⟩:=hcs
       have g0:0≤i:=by simpa[Cd.holds,leb]using g0
       have g1:i.toNat≤l.length:=by simpa[Cd.holds,len']using g1
       have hrun:(Instr.slice t (.string s) none (some (.int k i)) none).run P w=.ok (.string (s.extract 0 i.toNat)) w:=by
        rw[hnone]
        simp[Instr.sliceBounds,run_sliceBound k i s.size _ g0 (by omega)]
       refine Gives.val hD (by simpa using hrun) (relStr _ _ ?_)
       rw[extract_toList,hs];simp
      ·cases hD
  ·cases bs with
   |nil=>simp at hlen
   |cons b bs=>
    cases bs with
    |nil=>simp at hlen
    |cons b' bs=>
     cases bs with
     |cons=>simp at hlen
     |nil=>
      cases hb with
      |cons _ _ y _ hb1 hbs=>
       cases hbs with
       |cons _ _ y' _ hb2 hbs=>
        cases hbs
        split at hD
        ·rename_i k i k' j hx1 hx2
         have hx1:b=.int k i:=by simpa[x1]using hx1
         have hx2:b'=.int k' j:=by simpa[x2]using hx2
         subst hx1 hx2
         have:=hb1.ints;subst this
         have:=hb2.ints;subst this
         have h3:=val_cs hD;rw[h3]at hcs
         obtain⟨g0,g1,g2,_⟩:=hcs
         have g0:0≤i:=by simpa[Cd.holds,leb]using g0
         have g1:i≤j:=by simpa[Cd.holds,leb]using g1
         have g2:j.toNat≤l.length:=by simpa[Cd.holds,len']using g2
         have hrun:(Instr.slice t (.string s) (some (.int k i)) (some (.int k' j)) none).run P w=.ok (.string (s.extract i.toNat j.toNat)) w:=by
          rw[hnone]
          simp[Instr.sliceBounds,run_sliceBound k' j s.size _ (by omega) (by omega),run_sliceBound k i j.toNat _ g0 (by omega)]
         refine Gives.val hD (by simpa using hrun) (relStr _ _ ?_)
         rw[extract_toList,hs]
        ·cases hD
  ·cases hD
 ·cases hD

theorem opExt_sound {i:Nat}{v:AV}{x:Value}(hx:RelV w F ρ H v x)(hD:opExt i v=some D)(hcs:AllC Sp D.cs):Gives F ρ H w ((Instr.extract x i).run P w) D:=by
 unfold opExt at hD
 split at hD
 ·rename_i l
  obtain⟨xs,rfl,hs⟩:=hx.tups
  have hlt:i<l.length:=by have:=val_cs hD;rw[this]at hcs;simpa[AllC,Cd.holds,ltn]using hcs
  obtain⟨y,h1,h2⟩:=hs.getD hlt
  exact Gives.val hD (by simp[Instr.extract,h1]) h2
 ·cases hD

/-! ### Literals -/

theorem RelVs.set:∀{l:List AV} {xs:List Value} {v:AV} {x:Value} (i:Nat),RelVs w F ρ H l xs→RelV w F ρ H v x→RelVs w F ρ H (l.set i v) (xs.set i x)
 |_,_,_,_,_,.nil,_=>.nil
 |_,_,_,_,0,.cons _ _ _ _ _ hs,hv=>.cons _ _ _ _ hv hs
 |_,_,_,_,i+1,.cons _ _ _ _ h hs,hv=>.cons _ _ _ _ h (hs.set i hv)

theorem setAll_rel:∀{vs:List AV} {ys:List Value} {l:List AV} {xs:Array Value} (off j:Nat),RelVs w F ρ H l xs.toList→RelVs w F ρ H vs ys→
  RelVs w F ρ H (setAll l (off+j) vs) ((ys.zipIdx j).foldl (fun cs (c,j)=>cs.setIfInBounds (off+j) c) xs).toList
 |_,_,_,_,_,_,h,.nil=>h
 |_,_,l,xs,off,j,h,.cons v vs y ys hv hs=>by
  simp only[List.zipIdx_cons,List.foldl_cons,setAll]
  have h1:RelVs w F ρ H (l.set (off+j) v) (xs.setIfInBounds (off+j) y).toList:=by
   rw[Array.toList_setIfInBounds];exact h.set _ hv
  have:=setAll_rel off (j+1) h1 hs
  rw[← Nat.add_assoc]at this
  exact this

theorem plain_inv {v:AV}(h:v.plain=true):(∀b u,v≠ .may b u)∧v≠ .undef:=by
 refine⟨fun b u e=>?_,fun e=>?_⟩<;>subst e<;>simp[AV.plain]at h

theorem fill_rel:∀{ps:List (Nat×Nat)} {vs:List AV} {ys:List Value} {z l:List AV} {zs:Array Value} {place:Nat→Option (Nat×Nat)} {ixs:List Nat},
  ixs.map place=ps.map some→RelVs w F ρ H vs ys→RelVs w F ρ H z zs.toList→fillL z ps vs=some l→
  ∃cs,Instr.fill place zs (ixs.zip ys)=some cs∧RelVs w F ρ H l cs.toList
 |[],vs,ys,z,l,zs,place,ixs,hp,hv,hz,hf=>by
  cases vs with
  |nil=>
   cases hv
   cases hf
   have:ixs=[]:=by simpa using hp
   subst this
   exact⟨zs,rfl,hz⟩
  |cons=>cases hf
 |(off,size)::ps,vs,ys,z,l,zs,place,ixs,hp,hv,hz,hf=>by
  cases vs with
  |nil=>cases hf
  |cons v vs=>
   cases hv with
   |cons _ _ y ys hv hs=>
    cases ixs with
    |nil=>simp at hp
    |cons ix ixs=>
     simp only[List.map_cons,List.cons.injEq]at hp
     obtain⟨hp1,hp2⟩:=hp
     simp only[fillL,cond_eq_ite]at hf
     split at hf
     ·rename_i hc
      simp only[Bool.and_eq_true]at hc
      obtain⟨c1,c2,c3⟩:=hc
      have c2:v.cs.length=size:=Nat.eq_of_beq_eq_true c2
      have c3:off+size≤z.length:=by simpa[len']using c3
      obtain⟨hm,hu⟩:=plain_inv c1
      have hcs:=hv.csOf hm hu
      have hyl:y.cells.size=size:=by have:=hcs.len;simp at this;omega
      have hzl:zs.size=z.length:=by have:=hz.len;simpa using this.symm
      have h1:RelVs w F ρ H (setAll z off v.cs) (y.cells.zipIdx.foldl (fun cs (c,j)=>cs.setIfInBounds (off+j) c) zs).toList:=by
       have:=setAll_rel off 0 hz hcs
       rw[← Array.foldl_toList,Array.toList_zipIdx]
       exact this
      obtain⟨cs,g1,g2⟩:=fill_rel hp2 hs h1 hf
      refine⟨cs,?_,g2⟩
      simp only[List.zip_cons_cons,Instr.fill,hp1]
      rw[if_neg (by simp[hyl];omega)]
      exact g1
     ·cases hf

/-! ### Nil tests -/

theorem opIsnil_sound (hl:∀id o,look id=some o→H id=some o){neq:Bool}{kd:Nat}{v:AV}{x:Value}(hx:RelV w F ρ H v x)(hD:opIsnil look neq kd v=some D)(hcs:AllC Sp D.cs):
  ∃b,D.v=.bool (negIf neq b)∧D.ws=[]∧D.al=[]∧((kd=0∧∃a l c,x=.slice a l c∧b=a.isNone)∨(kd=1∧((x=.nilFunc∧b=true)∨∃f a c,x=.func f a c∧b=false))∨
   (kd≠0∧kd≠1∧∃a,x=.pointer a∧b=a.isNone)):=by
 unfold opIsnil at hD
 split at hD
 ·split at hD
  ·rename_i id len
   split at hD
   ·rename_i k0 hk
    have hH:=hl _ _ hk
    split at hD
    ·rename_i nil hnil
     cases hx with
     |imm _ _ hi=>cases hi
     |full _ _ k1 _ hh hle hp hxx=>
      rw[hH]at hh;cases hh
      have h3:=val_cs hD;rw[h3]at hcs
      cases hD
      refine⟨_,rfl,rfl,rfl,.inl ⟨rfl,?_⟩⟩
      rcases hxx hcs.1 with⟨rfl,h2,_,rfl⟩|⟨rfl,h2,_,a,rfl⟩|⟨h2,b,cap,cs,ty,fz,p1,p2,rfl,p3,p4,p5⟩
      ·rw[hnil]at h2
       cases nil
       ·exact absurd rfl h2
       ·exact⟨_,_,_,rfl,rfl⟩
      ·rw[hnil]at h2
       cases nil
       ·exact⟨_,_,_,rfl,rfl⟩
       ·exact absurd rfl h2
      ·refine⟨_,_,_,rfl,?_⟩
       cases nil
       ·rfl
       ·have:=h2 hnil
        simp only[Bool.true_and]
        exact beq_ne (by omega)
    ·cases hD
   ·cases hD
  ·cases hD;cases hx with|imm _ _ hi=>cases hi;exact⟨_,rfl,rfl,rfl,.inl ⟨rfl,_,_,_,rfl,rfl⟩⟩
  ·have h3:=val_cs hD;rw[h3]at hcs
   cases hD
   cases hx with
   |imm _ _ hi=>
    cases hi with
    |imm=>exact⟨_,rfl,rfl,rfl,.inl ⟨rfl,_,_,_,rfl,rfl⟩⟩
    |imm0=>have:=hcs.1;simp[Cd.holds,ltn]at this
  ·cases hD
   cases hx with
   |imm _ _ hi=>cases hi
   |sl=>exact⟨_,rfl,rfl,rfl,.inl ⟨rfl,_,_,_,rfl,rfl⟩⟩
  ·cases hD
   cases hx with
   |imm _ _ hi=>cases hi with|nn=>exact⟨_,rfl,rfl,rfl,.inl ⟨rfl,_,_,_,rfl,rfl⟩⟩
  ·cases hD
 ·split at hD
  ·cases hD;cases hx with|imm _ _ hi=>cases hi;exact⟨_,rfl,rfl,rfl,.inr (.inl ⟨rfl,.inl ⟨rfl,rfl⟩⟩)⟩
  ·cases hD;obtain⟨xs,ys,rfl,_⟩:=hx.fns;exact⟨_,rfl,rfl,rfl,.inr (.inl ⟨rfl,.inr ⟨_,_,_,rfl,rfl⟩⟩)⟩
  ·cases hD
   cases hx with
   |imm _ _ hi=>cases hi
   |yld=>exact⟨_,rfl,rfl,rfl,.inr (.inl ⟨rfl,.inr ⟨_,_,_,rfl,rfl⟩⟩)⟩
  ·cases hD
 ·rename_i h0 h1
  split at hD
  ·cases hD;cases hx with|imm _ _ hi=>cases hi;exact⟨_,rfl,rfl,rfl,.inr (.inr ⟨h0,h1,_,rfl,rfl⟩)⟩
  ·cases hD
   cases hx with
   |imm _ _ hi=>cases hi
   |ptr=>exact⟨_,rfl,rfl,rfl,.inr (.inr ⟨h0,h1,_,rfl,rfl⟩)⟩
  ·cases hD
   cases hx with
   |imm _ _ hi=>cases hi with|iptr=>exact⟨_,rfl,rfl,rfl,.inr (.inr ⟨h0,h1,_,rfl,rfl⟩)⟩
  ·cases hD

/-! ### Extremes -/

theorem mmG_sound (max:Bool):∀{vs:List AV} {xs:List Value} {k:IntKind} {n:Int} {v:AV},RelVs w F ρ H vs xs→mmF.mmG max k n vs=some v→
  ∃x,((xs.foldlM (if max then Builtin.max2 else Builtin.min2) (Value.int k n):Sem Value)).run P w=.ok x w∧RelV w F ρ H v x
 |_,_,k,n,v,.nil,h=>by
  simp only[mmF.mmG]at h;cases h
  exact⟨_,rfl,relInt _ _⟩
 |_,_,k,n,v,.cons u us y ys hv hs,h=>by
  cases u<;>simp only[mmF.mmG,reduceCtorEq]at h
  case int k' m=>
   simp only[cond_eq_ite]at h
   split at h
   ·rename_i hk
    have hk:k=k':=by simpa[beqK]using hk
    subst hk
    have:=hv.ints;subst this
    obtain⟨x,h1,h2⟩:=mmG_sound max hs h
    refine⟨x,?_,h2⟩
    rw[← h1]
    cases max
    ·simp[Builtin.min2]
    ·simp[Builtin.max2]
   ·cases h

theorem mmF_sound {max:Bool}{vs:List AV}{xs:Array Value}{v:AV}{tys:Array TypeId}{ty:TypeId}(hs:RelVs w F ρ H vs xs.toList)(h:mmF max vs=some v):
  ∃x,((if max then Builtin.max_ else Builtin.min_) tys ty xs).run P w=.ok x w∧RelV w F ρ H v x:=by
 unfold mmF at h
 split at h
 ·cases h
 ·rename_i k n r
  generalize hl:xs.toList=l at hs
  cases hs with
  |cons _ _ y ys hv hr=>
   have:=hv.ints;subst this
   obtain⟨x,h1,h2⟩:=mmG_sound (P:=P) max hr h
   refine⟨x,?_,h2⟩
   rw[← h1]
   cases max
   ·simp only[Bool.false_eq_true,if_false,Builtin.min_,hl]
   ·simp only[if_true,Builtin.max_,hl]
 ·cases h

/-! ### Comparison, leaf by leaf -/

def aggD:TypeDesc→Bool
 |.struct _=>true
 |.array _ _=>true
 |_=>false
def fieldsT (P:Program)(g:TypeId→Nat→Option (List (Nat×Nat)))(size off:Nat):List Field→Option (List (Nat×Nat))
 |[]=>some []
 |f::r=>cond (f.name=="_") (fieldsT P g size off r) (match P.info? f.type with
  |some i=>cond (len' (f.offset+i.size) size) (match g f.type (off+f.offset),fieldsT P g size off r with
   |some a,some b=>some (a++b)
   |_,_=>none) none
  |none=>none)
def elemsT (g:TypeId→Nat→Option (List (Nat×Nat)))(e:TypeId)(sz off:Nat):List Nat→Option (List (Nat×Nat))
 |[]=>some []
 |i::r=>match g e (off+i*sz),elemsT g e sz off r with
  |some a,some b=>some (a++b)
  |_,_=>none
def leavesT (P:Program):Nat→TypeId→Nat→Option (List (Nat×Nat))
 |0,_,_=>none
 |d+1,t,off=>
  match P.underlying t,P.info? t with
  |some (.int _),some i=>cond (Nat.beq i.size 1) (some [(off,0)]) none
  |some .bool,some i=>cond (Nat.beq i.size 1) (some [(off,1)]) none
  |some .string,some i=>cond (Nat.beq i.size 1) (some [(off,2)]) none
  |some (.struct fs),some i=>cond (P.stoodInHeld t) none (fieldsT P (leavesT P d) i.size off fs.toList)
  |some (.array n e),some i=>match P.info? e with
   |some ie=>cond (Nat.beq i.size (n*ie.size)) (elemsT (leavesT P d) e ie.size off (List.range n)) none
   |none=>none
  |_,_=>none

theorem eqLeaves_cons {i kd:Nat}{r:List (Nat×Nat)}{xs ys:List AV}{b:Bool}(h:eqLeaves ((i,kd)::r) xs ys=some b):
  ∃a c,eqLeaf kd (xs.getD i .undef) (ys.getD i .undef)=some a∧eqLeaves r xs ys=some c∧b=(a&&c):=by
 cases r with
 |nil=>exact⟨b,true,h,rfl,by simp⟩
 |cons j r=>
  simp only[eqLeaves]at h
  split at h
  ·rename_i a c h1 h2
   cases h
   exact⟨a,c,h1,h2,rfl⟩
  ·cases h
theorem eqLeaves_app:∀{l r:List (Nat×Nat)} {xs ys:List AV} {b:Bool},eqLeaves (l++r) xs ys=some b→∃a c,eqLeaves l xs ys=some a∧eqLeaves r xs ys=some c∧b=(a&&c)
 |[],r,xs,ys,b,h=>⟨true,b,rfl,h,by simp⟩
 |(i,kd)::l,r,xs,ys,b,h=>by
  obtain⟨a,c,h1,h2,rfl⟩:=eqLeaves_cons h
  obtain⟨a',c',h3,h4,rfl⟩:=eqLeaves_app h2
  refine⟨a&&a',c',?_,h4,by rw[Bool.and_assoc]⟩
  cases l with
  |nil=>
   cases h3
   simpa[eqLeaves]using h1
  |cons j l=>
   obtain⟨j,kj⟩:=j
   simp only[eqLeaves,h1]
   rw[h3]

def PartOf (P:Program)(t:TypeId)(xs:Array Value)(off:Nat)(X:Value):Prop:=
 match P.underlying t with
 |some (.struct _)|some (.array _ _)=>∃i,P.info? t=some i∧off+i.size≤xs.size∧X=.agg (xs.extract off (off+i.size))
 |_=>xs[off]? =some X

theorem run_equalIn_leaf (d:Nat){t:TypeId}{u v:AV}{x y:Value}{b:Bool}{kd:Nat}(hx:RelV w F ρ H u x)(hy:RelV w F ρ H v y)(h:eqLeaf kd u v=some b)
  (hty:(kd=0∧∃k,P.underlying t=some (.int k))∨(kd=1∧P.underlying t=some .bool)∨(kd=2∧P.underlying t=some .string)):
  (Op.equalIn (d+1) t x y).run P w=.ok b w:=by
 rcases hty with⟨rfl,k0,h0⟩|⟨rfl,h0⟩|⟨rfl,h0⟩<;>simp only[eqLeaf]at h
 ·split at h
  ·rename_i k a k' c
   simp only[cond_eq_ite]at h
   split at h
   ·rename_i hk
    cases h
    have hk:k=k':=by simpa[beqK]using hk
    subst hk
    have:=hx.ints;subst this
    have:=hy.ints;subst this
    exact run_equalIn_int w d t k k0 a c h0
   ·cases h
  ·cases h
 ·split at h
  ·cases h
   have:=hx.bools;subst this
   have:=hy.bools;subst this
   exact run_equalIn_bool' w d t _ _ h0
  ·cases h
 ·split at h
  ·cases h
   obtain⟨s,rfl,hs⟩:=hx.strs
   obtain⟨r,rfl,hr⟩:=hy.strs
   rw[run_equalIn_string w d t s r h0,ByteArray.toList_eq,ByteArray.toList_eq,hs,hr]
  ·cases h

def Op.eqElems (d:Nat)(e:TypeId)(n:Nat)(xs ys:Array Value):List Nat→Sem Bool
 |[]=>pure true
 |i::r=>do
  let a ← part e xs (i*n)
  let b ← part e ys (i*n)
  let q ← Op.equalIn d e a b
  if(!q)=true then pure false else Op.eqElems d e n xs ys r

theorem run_equalIn_array (d:Nat)(t e:TypeId)(len:Nat)(ie:TypeInfo)(xs ys:Array Value)(ht:P.underlying t=some (.array len e))(hi:P.info? e=some ie):
  (Op.equalIn (d+1) t (.agg xs) (.agg ys)).run P w=(Op.eqElems d e ie.size xs ys (List.range len)).run P w:=by
 have h1:∀(l:List Nat) (w:World),((do
   for i in l do
    if !(← Op.equalIn d e (← part e xs (i*ie.size)) (← part e ys (i*ie.size)))then return false
   pure true:Sem Bool)).run P w=(Op.eqElems d e ie.size xs ys l).run P w:=by
  intro l
  induction l with
  |nil=>intro w;simp[Op.eqElems]
  |cons i l ih=>
   intro w
   simp only[List.forIn_cons,Op.eqElems,Sem.run_bind,Sem.run_ite]
   generalize (part e xs (i*ie.size)).run P w=r1
   cases r1 with
   |ok a w1=>
    simp only[Result.andThen_ok]
    generalize (part e ys (i*ie.size)).run P w1=r2
    cases r2 with
    |ok b w2=>
     simp only[Result.andThen_ok]
     generalize (Op.equalIn d e a b).run P w2=r3
     cases r3 with
     |ok r w3=>
      cases r
      ·simp only[Result.andThen_ok,Bool.not_false,if_true,Sem.run_pure]
      ·simp only[Result.andThen_ok,Bool.not_true,Bool.false_eq_true,if_false,Sem.run_pure]
       have:=ih w3
       simp only[Sem.run_bind]at this
       exact this
     |halt x w3=>simp[Result.andThen]
    |halt x w2=>simp[Result.andThen]
   |halt x w1=>simp[Result.andThen]
 rw[← h1]
 simp only[Op.equalIn,Sem.run_bind,run_underlying' ht,Result.andThen_ok,run_sizeOf' hi]
 rw[Std.Legacy.Range.forIn_eq_forIn_range']
 simp[List.range_eq_range']

theorem extract_extract' (xs:Array Value)(off n a m:Nat)(h:a+m≤n)(hn:off+n≤xs.size):(xs.extract off (off+n)).extract a (a+m)=xs.extract (off+a) (off+a+m):=by
 rw[Array.extract_extract]
 congr 1
 omega

theorem run_part_of {t:TypeId}{i:TypeInfo}{d:TypeDesc}(hd:P.underlying t=some d)(hi:P.info? t=some i){xs:Array Value}{off n a:Nat}(hn:off+n≤xs.size)(ha:a+i.size≤n)
  (h1:aggD d=false→i.size=1):
  ∃X,(part t (xs.extract off (off+n)) a).run P w=.ok X w∧PartOf P t xs (off+a) X:=by
 by_cases hagg:aggD d=true
 ·refine⟨.agg (xs.extract (off+a) (off+a+i.size)),?_,?_⟩
  ·have:(isAgg t).run P w=.ok true w:=by
    simp only[isAgg,Sem.run_bind,run_underlying' hd,Result.andThen_ok]
    cases d<;>simp[aggD]at hagg<;>rfl
   simp only[part,Sem.run_bind,this,Result.andThen_ok,if_true,run_sizeOf' hi,Sem.run_pure]
   rw[extract_extract' xs off n a i.size ha hn]
  ·unfold PartOf
   rw[hd]
   cases d<;>simp[aggD]at hagg
   ·exact⟨i,hi,by omega,rfl⟩
   ·exact⟨i,hi,by omega,rfl⟩
 ·have hs:i.size=1:=h1 (by simpa using hagg)
  have hlt:off+a<xs.size:=by omega
  refine⟨xs[off+a],?_,?_⟩
  ·have:(isAgg t).run P w=.ok false w:=by
    simp only[isAgg,Sem.run_bind,run_underlying' hd,Result.andThen_ok]
    cases d<;>simp[aggD]at hagg<;>rfl
   have h2:(xs.extract off (off+n))[a]? =some xs[off+a]:=by
    rw[Array.getElem?_extract]
    rw[if_pos (by omega)]
    simp[hlt]
   simp only[part,Sem.run_bind,this,Result.andThen_ok,Bool.false_eq_true,if_false,h2,Sem.run_pure]
  ·unfold PartOf
   rw[hd]
   cases d<;>simp[aggD]at hagg ⊢<;>exact⟨hlt,rfl⟩

theorem leaf_size {d:Nat}{t:TypeId}{off:Nat}{ls:List (Nat×Nat)}(h:leavesT P d t off=some ls):∃dd i,P.underlying t=some dd∧P.info? t=some i∧(aggD dd=false→i.size=1):=by
 cases d with
 |zero=>cases h
 |succ d=>
  simp only[leavesT]at h
  split at h
  ·rename_i k i hd hi
   refine⟨_,_,hd,hi,fun _=>?_⟩
   simp only[cond_eq_ite]at h
   split at h
   ·rename_i he;exact Nat.eq_of_beq_eq_true he
   ·cases h
  ·rename_i i hd hi
   refine⟨_,_,hd,hi,fun _=>?_⟩
   simp only[cond_eq_ite]at h
   split at h
   ·rename_i he;exact Nat.eq_of_beq_eq_true he
   ·cases h
  ·rename_i i hd hi
   refine⟨_,_,hd,hi,fun _=>?_⟩
   simp only[cond_eq_ite]at h
   split at h
   ·rename_i he;exact Nat.eq_of_beq_eq_true he
   ·cases h
  ·rename_i fs i hd hi
   exact⟨_,_,hd,hi,fun h=>by cases h⟩
  ·rename_i n e i hd hi
   exact⟨_,_,hd,hi,fun h=>by cases h⟩
  ·cases h

theorem leavesT_sound {lx ly:List AV}{xs ys:Array Value}(hx:RelVs w F ρ H lx xs.toList)(hy:RelVs w F ρ H ly ys.toList):
  ∀(d:Nat) (t:TypeId) (off:Nat) (ls:List (Nat×Nat)) (b:Bool) (X Y:Value),leavesT P d t off=some ls→eqLeaves ls lx ly=some b→PartOf P t xs off X→PartOf P t ys off Y→
   ∀D,d≤D→(Op.equalIn D t X Y).run P w=.ok b w:=by
 have hxl:xs.size=lx.length:=by have:=hx.len;simpa using this.symm
 have hyl:ys.size=ly.length:=by have:=hy.len;simpa using this.symm
 intro d
 induction d with
 |zero=>intro t off ls b X Y h;cases h
 |succ d ih=>
  intro t off ls b X Y h hb hX hY D hD
  obtain⟨D,rfl⟩:∃D',D=D'+1:=⟨D-1,by omega⟩
  have hD:d≤D:=by omega
  have leaf:∀kd,ls=[(off,kd)]→xs[off]? =some X→ys[off]? =some Y→
    ((kd=0∧∃k,P.underlying t=some (.int k))∨(kd=1∧P.underlying t=some .bool)∨(kd=2∧P.underlying t=some .string))→(Op.equalIn (D+1) t X Y).run P w=.ok b w:=by
   intro kd e hX hY hk
   subst e
   obtain⟨a,c,h1,h2,rfl⟩:=eqLeaves_cons hb
   cases h2
   rw[Bool.and_true]
   have hlx:off<lx.length:=by rw[← hxl];exact(Array.getElem?_eq_some_iff.1 hX).1
   have hly:off<ly.length:=by rw[← hyl];exact(Array.getElem?_eq_some_iff.1 hY).1
   obtain⟨x,p1,p2⟩:=hx.getD hlx
   obtain⟨y,q1,q2⟩:=hy.getD hly
   rw[hX]at p1;cases p1
   rw[hY]at q1;cases q1
   exact run_equalIn_leaf D p2 q2 h1 hk
  simp only[leavesT]at h
  split at h
  ·rename_i k i hd hi
   simp only[cond_eq_ite]at h
   split at h
   ·cases h
    unfold PartOf at hX hY;rw[hd]at hX hY
    exact leaf 0 rfl hX hY (.inl ⟨rfl,k,hd⟩)
   ·cases h
  ·rename_i i hd hi
   simp only[cond_eq_ite]at h
   split at h
   ·cases h
    unfold PartOf at hX hY;rw[hd]at hX hY
    exact leaf 1 rfl hX hY (.inr (.inl ⟨rfl,hd⟩))
   ·cases h
  ·rename_i i hd hi
   simp only[cond_eq_ite]at h
   split at h
   ·cases h
    unfold PartOf at hX hY;rw[hd]at hX hY
    exact leaf 2 rfl hX hY (.inr (.inr ⟨rfl,hd⟩))
   ·cases h
  ·rename_i fs i hd hi
   simp only[cond_eq_ite]at h
   split at h
   ·cases h
   ·rename_i hstood
    have hstood:P.stoodInHeld t=false:=by simpa using hstood
    unfold PartOf at hX hY;rw[hd]at hX hY
    obtain⟨i',hi',hxs,rfl⟩:=hX
    obtain⟨i'',hi'',hys,rfl⟩:=hY
    rw[hi]at hi' hi'';cases hi';cases hi''
    have hfo:P.fieldsOf t=fs:=by simp[Program.fieldsOf,hd]
    rw[run_equalIn_struct w D t _ _ (by rw[hfo];exact hd) hstood,hfo]
    generalize fs.toList=fl at h
    clear hd hfo leaf
    induction fl generalizing ls b with
    |nil=>cases h;cases hb;rfl
    |cons f fl ihf=>
     simp only[fieldsT,cond_eq_ite]at h
     simp only[Op.eqFields]
     by_cases hn:f.name="_"
     ·simp only[hn,BEq.rfl,if_true]at h
      simp only[hn,ne_eq,not_true_eq_false,if_false]
      exact ihf ls b hb h
     ·have hn':¬ (f.name=="_")=true:=by simpa using hn
      rw[if_neg hn']at h
      rw[if_pos hn]
      split at h
      ·rename_i fi hfi
       split at h
       ·rename_i hle
        have hle:f.offset+fi.size≤i.size:=by simpa[len']using hle
        split at h
        ·rename_i a c ha hc
         cases h
         obtain⟨q1,q2,e1,e2,rfl⟩:=eqLeaves_app hb
         obtain⟨dd,fi',g1,g2,g3⟩:=leaf_size ha
         rw[hfi]at g2;cases g2
         obtain⟨X',r1,r2⟩:=run_part_of (w:=w) g1 hfi hxs hle g3
         obtain⟨Y',s1,s2⟩:=run_part_of (w:=w) g1 hfi hys hle g3
         have:=ih f.type (off+f.offset) a q1 X' Y' ha e1 r2 s2 D hD
         simp only[Sem.run_bind,r1,s1,Result.andThen_ok,this]
         cases q1
         ·simp
         ·simp only[Bool.not_true,Bool.false_eq_true,if_false,Bool.true_and]
          exact ihf c q2 e2 hc
        ·cases h
       ·cases h
      ·cases h
  ·rename_i n e i hd hi
   split at h
   ·rename_i ie hie
    simp only[cond_eq_ite]at h
    split at h
    ·rename_i hsz
     have hsz:i.size=n*ie.size:=Nat.eq_of_beq_eq_true hsz
     unfold PartOf at hX hY;rw[hd]at hX hY
     obtain⟨i',hi',hxs,rfl⟩:=hX
     obtain⟨i'',hi'',hys,rfl⟩:=hY
     rw[hi]at hi' hi'';cases hi';cases hi''
     rw[run_equalIn_array D t e n ie _ _ hd hie]
     have hall:∀j∈List.range n,j*ie.size+ie.size≤i.size:=by
      intro j hj
      have hj:j<n:=by simpa using hj
      have:j+1≤n:=hj
      have:=Nat.mul_le_mul_right ie.size this
      rw[hsz];rw[Nat.add_mul]at this;omega
     generalize List.range n=l at h hall
     clear hd leaf
     induction l generalizing ls b with
     |nil=>cases h;cases hb;rfl
     |cons j l ihl=>
      simp only[elemsT]at h
      split at h
      ·rename_i a c ha hc
       cases h
       obtain⟨q1,q2,e1,e2,rfl⟩:=eqLeaves_app hb
       obtain⟨dd,fi',g1,g2,g3⟩:=leaf_size ha
       rw[hie]at g2;cases g2
       have hj:=hall j (by simp)
       obtain⟨X',r1,r2⟩:=run_part_of (w:=w) g1 hie hxs hj g3
       obtain⟨Y',s1,s2⟩:=run_part_of (w:=w) g1 hie hys hj g3
       have:=ih e (off+j*ie.size) a q1 X' Y' ha e1 r2 s2 D hD
       simp only[Op.eqElems,Sem.run_bind,r1,s1,Result.andThen_ok,this]
       cases q1
       ·simp
       ·simp only[Bool.not_true,Bool.false_eq_true,if_false,Bool.true_and]
        exact ihl c q2 e2 hc (fun j hj=>hall j (by simp[hj]))
      ·cases h
    ·cases h
   ·cases h
  ·cases h

theorem opEqa_sound {neq:Bool}{ls:List (Nat×Nat)}{u v:AV}{x y:Value}{t:TypeId}{o1 o2:Operand}{i:TypeInfo}(hl:leavesT P 16 t 0=some ls)(hg:P.eqGuardType P.depth t=false)(hi:P.info? t=some i)
  (hd:∃d,P.underlying t=some d∧aggD d=true)
  (hx:RelV w F ρ H u x) (hy:RelV w F ρ H v y) (hD:opEqa neq i.size ls u v=some D):
  Gives F ρ H w ((do eqGuard (if neq then .neq else .eql) t o1 o2 x y;binOp (if neq then .neq else .eql) t x y:Sem Value).run P w) D:=by
 unfold opEqa at hD
 split at hD
 ·rename_i a b
  obtain⟨xs,rfl,hx'⟩:=hx.aggs
  obtain⟨ys,rfl,hy'⟩:=hy.aggs
  simp only[cond_eq_ite]at hD
  split at hD
  case isFalse=>cases hD
  rename_i hlens
  simp only[Bool.and_eq_true]at hlens
  have hxs:a.length=i.size:=Nat.eq_of_beq_eq_true hlens.1
  have hys:b.length=i.size:=Nat.eq_of_beq_eq_true hlens.2
  split at hD
  ·rename_i r hr
   have hxl:xs.size=i.size:=by have:=hx'.len;rw[hxs]at this;simpa using this.symm
   have hyl:ys.size=i.size:=by have:=hy'.len;rw[hys]at this;simpa using this.symm
   have hp:∀zs:Array Value,zs.size=i.size→PartOf P t zs 0 (.agg zs):=by
    intro zs hz
    obtain⟨d,hd1,hd2⟩:=hd
    unfold PartOf
    rw[hd1]
    have he:zs.extract 0 (0+i.size)=zs:=by rw[Nat.zero_add,← hz];simp
    cases d<;>simp[aggD]at hd2
    ·exact⟨i,hi,by omega,by rw[he]⟩
    ·exact⟨i,hi,by omega,by rw[he]⟩
   have he:=leavesT_sound (P:=P) hx' hy' 16 t 0 ls r _ _ hl hr (hp xs hxl) (hp ys hyl) 10000 (by omega)
   cases neq
   ·refine Gives.val hD ?_ (relBool _)
    simp only[Bool.false_eq_true,if_false,Sem.run_bind,run_eqGuard_agg w _ t _ _ xs ys hg,Result.andThen_ok,run_eql_struct,he,negIf]
   ·refine Gives.val hD ?_ (relBool _)
    simp only[if_true,Sem.run_bind,run_eqGuard_agg w _ t _ _ xs ys hg,Result.andThen_ok,run_neq_struct,he,negIf]
  ·cases hD
 ·cases hD

end
end Go.Ab

/-
 Values by value: what freezes; sources of elements; contents put together.
-/
set_option linter.unusedVariables false
set_option linter.unusedSimpArgs false
namespace Go.Ab
open Go
section
variable {P:Program}{G:GL}{F F':Nat→Prop}{ρ:Nat→Option Nat}{H:Nat→Option HO}{w:World}{look:Nat→Option HO}
 {Sp:SpT} {D:Delta}

theorem updL_app (H:Nat→Option HO):∀(a b:List (Nat×HO)),updL H (a++b)=updL (updL H a) b
 |[],b=>rfl
 |(i,o)::a,b=>by simp only[List.cons_append,updL];exact updL_app _ a b

theorem frzAll (ids:List Nat):∀(F:Nat→Prop) (H:Nat→Option HO),MRel G F ρ H w→(∀id k,look id=some (.blk k)→H id=some (.blk k)∨H id=some (.blk {k with mu:=false}))→
  ∃F',MRel G F' ρ (updL H (frzW look ids)) w∧Ext G F ρ w F' ρ w∧HKeep w ρ H w ρ (updL H (frzW look ids))∧
   (∀id,id∈ids→(∃k,look id=some (.blk k))→∀b,ρ id=some b→F' b)∧
   (∀id k,look id=some (.blk k)→updL H (frzW look ids) id=H id∨(id∈ids∧updL H (frzW look ids) id=some (.blk {k with mu:=false})))∧
   (∀id,look id=none→updL H (frzW look ids) id=H id):=by
 induction ids with
 |nil=>intro F H hm _;exact⟨F,hm,Ext.refl _ _ _,HKeep.refl _ _ _,fun id h=>by simp at h,fun id k _=>.inl rfl,fun _ _=>rfl⟩
 |cons i r ih=>
  intro F H hm hcur
  cases hl:look i with
  |none=>
   have:frzW look (i::r)=frzW look r:=by simp[frzW,hl]
   rw[this]
   obtain⟨F',h1,h2,h3,h4,h5,h6⟩:=ih F H hm hcur
   refine⟨F',h1,h2,h3,fun id hid hk b hb=>?_,fun id k hk=>(h5 id k hk).imp (fun h=>h) (fun h=>⟨List.mem_cons_of_mem _ h.1,h.2⟩),h6⟩
   rcases List.mem_cons.1 hid with rfl|hid
   ·obtain⟨k,hk⟩:=hk;rw[hl]at hk;cases hk
   ·exact h4 id hid hk b hb
  |some o=>
   cases o with
   |iter s p|loop s=>
    have:frzW look (i::r)=frzW look r:=by simp[frzW,hl]
    rw[this]
    obtain⟨F',h1,h2,h3,h4,h5,h6⟩:=ih F H hm hcur
    refine⟨F',h1,h2,h3,fun id hid hk b hb=>?_,fun id k hk=>(h5 id k hk).imp (fun h=>h) (fun h=>⟨List.mem_cons_of_mem _ h.1,h.2⟩),h6⟩
    rcases List.mem_cons.1 hid with rfl|hid
    ·obtain⟨k,hk⟩:=hk;rw[hl]at hk;cases hk
    ·exact h4 id hid hk b hb
   |blk k=>
    -- where the block is frozen already
    have old:(∃k',H i=some (.blk k')∧k'.mu=false)→∀b,ρ i=some b→F b:=by
     rintro⟨k',hk',hmu⟩ b hb
     obtain⟨_,h1|⟨b',h1,h2⟩⟩:=hm.heap i _ hk'
     ·rw[hb]at h1;cases h1.2
     ·rw[hb]at h1;cases h1;exact h2.fr hmu
    cases hmu:k.mu with
    |false=>
     have:frzW look (i::r)=frzW look r:=by simp[frzW,hl,hmu]
     rw[this]
     obtain⟨F',h1,h2,h3,h4,h5,h6⟩:=ih F H hm hcur
     refine⟨F',h1,h2,h3,fun id hid hk b hb=>?_,fun id k hk=>(h5 id k hk).imp (fun h=>h) (fun h=>⟨List.mem_cons_of_mem _ h.1,h.2⟩),h6⟩
     rcases List.mem_cons.1 hid with rfl|hid
     ·refine h2.keep b (old ?_ b hb)
      rcases hcur id k hl with h|h
      ·exact⟨k,h,hmu⟩
      ·exact⟨_,h,rfl⟩
     ·exact h4 id hid hk b hb
    |true=>
     have:frzW look (i::r)=(i,.blk {k with mu:=false})::frzW look r:=by simp[frzW,hl,hmu]
     rw[this]
     simp only[updL]
     have step:∃F1,MRel G F1 ρ (upd H i (some (.blk {k with mu:=false}))) w∧Ext G F ρ w F1 ρ w∧HKeep w ρ H w ρ (upd H i (some (.blk {k with mu:=false})))∧(∀b,ρ i=some b→F1 b):=by
      rcases hcur i k hl with h|h
      ·exact hm.freeze h hmu
      ·have he:upd H i (some (.blk {k with mu:=false}))=H:=by
        funext j
        by_cases e:j=i
        ·subst e;rw[upd_same,h]
        ·rw[upd_other _ _ e]
       rw[he]
       exact⟨F,hm,Ext.refl _ _ _,HKeep.refl _ _ _,old ⟨_,h,rfl⟩⟩
     obtain⟨F1,g1,g2,g3,g4⟩:=step
     obtain⟨F',h1,h2,h3,h4,h5,h6⟩:=ih F1 _ g1 (fun id k' hk'=>by
      by_cases e:id=i
      ·subst e;rw[hl]at hk';cases hk';rw[upd_same];exact .inr rfl
      ·rw[upd_other _ _ e];exact hcur id k' hk')
     refine⟨F',h1,g2.trans h2,g3.trans h3,fun id hid hk b hb=>?_,fun id k' hk'=>?_,fun id hid=>?_⟩
     ·rcases List.mem_cons.1 hid with rfl|hid
      ·exact h2.keep b (g4 b hb)
      ·exact h4 id hid hk b hb
     ·rcases h5 id k' hk' with h|h
      ·by_cases e:id=i
       ·subst e;rw[hl]at hk';cases hk';rw[upd_same]at h;exact .inr ⟨by simp,h⟩
       ·rw[upd_other _ _ e]at h;exact .inl h
      ·exact .inr ⟨List.mem_cons_of_mem _ h.1,h.2⟩
     ·have e:id≠i:=fun e=>by subst e;rw[hl]at hid;cases hid
      rw[h6 id hid,upd_other _ _ e]

def FrzV (F F':Nat→Prop)(ρ:Nat→Option Nat)(H:Nat→Option HO)(w:World)(v v':AV):Prop:=∀x,RelV w F ρ H v x→RelI w F' v' x

theorem holds_of_blk (hm:MRel G F ρ H w){id b:Nat}{k:Blk}(hH:H id=some (.blk k))(hb:ρ id=some b){c:Cont}(hs:c.size=k.c.size)
  (hr:∀i,i<k.c.size→∀x,RelE w F ρ H k.c i x→RelI w F' (c.getV i) x):∃xs:Nat→Value,(∀i,i<c.size→w.cell? ⟨b,0+i,none⟩=some (xs i))∧(∀i,i<c.size→RelI w F' (c.getV i) (xs i))∧(∀i,i<c.size→(xs i).oneCell'=true):=by
 obtain⟨h0,h1|⟨b',h1,h2⟩⟩:=hm.heap id _ hH
 ·rw[hb]at h1;cases h1.2
 rw[hb]at h1;cases h1
 by_cases hmap:k.c.isMap=true
 ·have h0:=Cont.map_size hmap
  exact⟨fun _=>undef,fun i hi=>by omega,fun i hi=>by omega,fun i hi=>by omega⟩
 obtain⟨cs,ty,fz,g1,g2,g3,g4⟩:=h2.ex (by simpa using hmap)
 refine⟨fun i=>(cs[i]?).getD default,fun i hi=>?_,fun i hi=>?_,fun i hi=>?_⟩
 ·obtain⟨x,p1,p2⟩:=g4 i (hs▸hi)
  simp[World.cell?,g1,p1]
 ·obtain⟨x,p1,p2⟩:=g4 i (hs▸hi)
  simp only[p1,Option.getD_some]
  exact hr i (hs▸hi) x p2
 ·obtain⟨x,p1,p2⟩:=g4 i (hs▸hi)
  simp only[p1,Option.getD_some]
  exact p2.2

theorem relI_of (hF:∀b,F b→F' b){v:AV}(hv:refsV v=[]∧(∀l,v≠ .agg l)∧(∀l,v≠ .tup l)∧(∀f a b,v≠ .fn f a b)∧(∀b u,v≠ .may b u)∧(∀t u,v≠ .iface t u)):FrzV F F' ρ H w v v:=by
 intro x hx
 obtain⟨h1,h2,h3,h4,h5,h6⟩:=hv
 cases hx with
 |imm _ _ hi=>exact hi.mono (fun _ _=>rfl) hF
 |ptr=>simp[refsV]at h1
 |ep=>simp[refsV]at h1
 |full=>simp[refsV]at h1
 |sl=>simp[refsV]at h1
 |yld=>simp[refsV]at h1
 |spare=>simp[refsV]at h1
 |mp=>simp[refsV]at h1
 |vw=>simp[refsV]at h1
 |fullc=>simp[refsV]at h1
 |fn=>exact absurd rfl (h4 _ _ _)
 |agg=>exact absurd rfl (h2 _)
 |tup=>exact absurd rfl (h3 _)
 |may=>exact absurd rfl (h5 _ _)
 |iface=>exact absurd rfl (h6 _ _)

theorem relVs_frz {l l':List AV}(hlen:l'.length=l.length)(h:∀(i:Nat) (v:AV),l[i]? =some v→∃v',l'[i]? =some v'∧FrzV F F' ρ H w v v'):∀{xs:List Value},RelVs w F ρ H l xs→RelIs w F' l' xs:=by
 induction l generalizing l' with
 |nil=>
  intro xs hr
  cases hr
  have:l'=[]:=by simpa using hlen
  subst this;exact .nil
 |cons v l ih=>
  intro xs hr
  cases hr with
  |cons _ _ x xs hv hs=>
   cases l' with
   |nil=>simp at hlen
   |cons v' l'=>
    obtain⟨u,h1,h2⟩:=h 0 v (by simp)
    simp at h1;subst h1
    exact .cons _ _ _ _ (h2 _ hv) (ih (by simpa using hlen) (fun i u hu=>by obtain⟨u',g1,g2⟩:=h (i+1) u (by simpa using hu);exact⟨u',by simpa using g1,g2⟩) hs)

theorem frz_sound (hm:MRel G F ρ H w)(hl:∀id o,look id=some o→H id=some o)(hF:∀b,F b→F' b):
  ∀n,(∀v v' ids cs,frzV look n v=some (v',ids,cs)→AllC Sp cs→(∀id,id∈ids→∀b,ρ id=some b→F' b)→FrzV F F' ρ H w v v')∧
   (∀l l' ids cs,frzL look n l=some (l',ids,cs)→AllC Sp cs→(∀id,id∈ids→∀b,ρ id=some b→F' b)→l'.length=l.length∧∀(i:Nat) (v:AV),l[i]? =some v→∃v',l'[i]? =some v'∧FrzV F F' ρ H w v v')∧
   (∀c c' ids cs,frzC look n c=some (c',ids,cs)→AllC Sp cs→(∀id,id∈ids→∀b,ρ id=some b→F' b)→c'.size=c.size∧∀i,i<c.size→∀x,RelE w F ρ H c i x→RelI w F' (c'.getV i) x):=by
 intro n
 induction n with
 |zero=>exact⟨fun v v' ids cs h=>by simp[frzV]at h,fun l l' ids cs h=>by simp[frzL]at h,fun c c' ids cs h=>by simp[frzC]at h⟩
 |succ n ih=>
  obtain⟨ihV,ihL,ihC⟩:=ih
  refine⟨fun v v' ids cs h hc hids=>?_,fun l l' ids cs h hc hids=>?_,fun c c' ids cs h hc hids=>?_⟩
  ·cases v<;>simp only[frzV]at h
   case ptr id off=>
    split at h
    ·rename_i k hk
     split at h
     ·rename_i c' ids' cs' hfc
      cases h
      intro x hx
      cases hx with
      |imm _ _ hi=>cases hi
      |ptr _ _ b o hb hh hbx=>
       obtain⟨g1,g2⟩:=ihC _ _ _ _ hfc hc (fun i hi=>hids i (List.mem_cons_of_mem _ hi))
       obtain⟨xs,p1,p2,p3⟩:=holds_of_blk hm (hl _ _ hk) hb g1 g2
       have:=iptr_drop off (RelI.iptr c' b 0 xs (hids id (by simp) b hb) p1 p2 p3)
       simpa using this
     ·cases h
    ·cases h
   case ep id m off=>
    split at h
    ·rename_i k hk
     split at h
     ·rename_i c' ids' cs' hfc
      cases h
      intro x hx
      cases hx with
      |imm _ _ hi=>cases hi
      |ep _ _ _ k' _ hh hle hp hxx=>
       rw[hl _ _ hk]at hh;cases hh
       obtain⟨b,hb,rfl⟩:=hxx hc.1
       obtain⟨g1,g2⟩:=ihC _ _ _ _ hfc hc.2 (fun i hi=>hids i (List.mem_cons_of_mem _ hi))
       obtain⟨xs,p1,p2,p3⟩:=holds_of_blk hm (hl _ _ hk) hb g1 g2
       have:=iptr_drop off (RelI.iptr c' b 0 xs (hids id (by simp) b hb) p1 p2 p3)
       simpa using this
     ·cases h
    ·cases h
   case full id len=>
    split at h
    ·rename_i k hk
     split at h
     ·rename_i c' ids' cs' hfc
      cases h
      intro x hx
      obtain⟨g1,g2⟩:=ihC _ _ _ _ hfc hc.2 (fun i hi=>hids i (List.mem_cons_of_mem _ hi))
      cases hx with
      |imm _ _ hi=>cases hi
      |full _ _ k' _ hh hle hp hxx=>
       have hH:=hl _ _ hk
       rw[hH]at hh;cases hh
       have hn:k.n=len:=hc.1
       have hsz:k.c.size=k.n*k.sz:=(hm.heap id _ hH).1
       rcases hxx hn with⟨rfl,_,h3,rfl⟩|⟨rfl,_,h3,a,rfl⟩|⟨_,b,cap,cs0,ty,fz,q1,q2,rfl,q3,q4,q5⟩
       ·exact .imm0 _ _ _ (by rw[g1,hsz,hn];simp) h3
       ·exact .imm0 _ _ _ (by rw[g1,hsz,hn];simp) h3
       ·obtain⟨xs,p1,p2,p3⟩:=holds_of_blk hm hH q1 g1 g2
        exact .imm c' len k.cap b 0 cap xs (hids id (by simp) b q1) p1 p2 p3 q3 q5.1
     ·cases h
    ·cases h
   case fullc id len cap=>
    split at h
    ·rename_i k hk
     split at h
     ·rename_i c' ids' cs' hfc
      cases h
      intro x hx
      obtain⟨g1,g2⟩:=ihC _ _ _ _ hfc hc.2 (fun i hi=>hids i (List.mem_cons_of_mem _ hi))
      cases hx with
      |imm _ _ hi=>cases hi
      |fullc _ _ _ ad hf=>
       cases hf with
       |imm _ _ hi=>cases hi
       |full _ _ k' _ hh hle hp hxx=>
        have hH:=hl _ _ hk
        rw[hH]at hh;cases hh
        have hn:k.n=len:=hc.1
        have hsz:k.c.size=k.n*k.sz:=(hm.heap id _ hH).1
        rcases hxx hn with⟨rfl,_,h3,hv⟩|⟨rfl,_,h3,a,hv⟩|⟨_,b,cap,cs0,ty,fz,q1,q2,hv,q3,q4,q5⟩
        ·cases hv;exact .imm0 _ _ _ (by rw[g1,hsz,hn];simp) (fun n e=>by cases e;rfl)
        ·cases hv;exact .imm0 _ _ _ (by rw[g1,hsz,hn];simp) (fun n e=>by cases e;rfl)
        ·cases hv
         obtain⟨xs,p1,p2,p3⟩:=holds_of_blk hm hH q1 g1 g2
         exact .imm c' len _ b 0 _ xs (hids id (by simp) b q1) p1 p2 p3 q3 (fun n e=>by cases e;rfl)
     ·cases h
    ·cases h
   case sl id off len cap=>
    split at h
    ·rename_i k hk
     split at h
     ·rename_i c' ids' cs' hfc
      cases h
      intro x hx
      obtain⟨g1,g2⟩:=ihC _ _ _ _ hfc hc.2 (fun i hi=>hids i (List.mem_cons_of_mem _ hi))
      have hle:off+mz len k.sz≤k.c.size:=by simpa[Cd.holds,len']using hc.1
      cases hx with
      |imm _ _ hi=>cases hi
      |sl _ _ _ _ b k' hb hh hbx hlc=>
       rw[hl _ _ hk]at hh;cases hh
       obtain⟨xs,p1,p2,p3⟩:=holds_of_blk hm (hl _ _ hk) hb g1 g2
       have hsz:((c'.drop off).take (mz len k.sz)).size≤mz len k.sz:=by rw[size_take];omega
       refine .imm _ len (some cap) b off cap (fun i=>xs (off+i)) (hids id (by simp) b hb) (fun i hi=>?_) (fun i hi=>?_) (fun i hi=>p3 (off+i) (by rw[g1];omega)) hlc (fun n e=>by cases e;rfl)
       ·have:=p1 (off+i) (by rw[g1];omega)
        rw[Nat.zero_add]at this;exact this
       ·rw[getV_take _ _ _ (by omega),getV_drop]
        exact p2 (off+i) (by rw[g1];omega)
     ·cases h
    ·cases h
   case vw id m sz off len=>
    split at h
    ·rename_i k hk
     split at h
     ·rename_i c' ids' cs' hfc
      rw[cond_eq_ite]at h
      split at h
      ·rename_i hsz
       have hsz:=Nat.eq_of_beq_eq_true hsz
       cases h
       intro x hx
       obtain⟨g1,g2⟩:=ihC _ _ _ _ hfc hc.2 (fun i hi=>hids i (List.mem_cons_of_mem _ hi))
       have hH:=hl _ _ hk
       have hn:k.n=m:=hc.1
       have hks:k.c.size=k.n*k.sz:=(hm.heap id _ hH).1
       obtain⟨hle,⟨e,a,rfl⟩|⟨b,cap,cs,ty,fz,p1,p2,rfl,p3,p4⟩⟩:=hx.vws hH hn
       ·have:len=0:=by omega
        subst this
        exact .imm0 _ _ _ (by rw[size_take];simp[mz_eq]) (fun n e=>by cases e)
       ·obtain⟨xs,q1,q2,q3⟩:=holds_of_blk hm hH p1 g1 g2
        have hm1:(off+len)*sz≤c'.size:=by rw[g1,hks,hn,hsz];exact Nat.mul_le_mul_right _ hle
        rw[Nat.add_mul]at hm1
        have hz:((c'.drop (mz off sz)).take (mz len sz)).size≤len*sz:=by rw[size_take,mz_eq,mz_eq];omega
        refine .imm _ len none b (off*sz) (cap-off) (fun i=>xs (off*sz+i)) (hids id (by simp) b p1) (fun i hi=>?_) (fun i hi=>?_) (fun i hi=>q3 _ (by omega)) (by omega) (fun n e=>by cases e)
        ·have:=q1 (off*sz+i) (by omega)
         rw[Nat.zero_add]at this;exact this
        ·rw[getV_take _ _ _ (by rw[mz_eq];omega),getV_drop,mz_eq]
         exact q2 (off*sz+i) (by omega)
      ·cases h
     ·cases h
    ·cases h
   case fn f a b=>
    split at h
    ·rename_i a' i1 c1 b' i2 c2 h1 h2
     cases h
     obtain⟨hc1,hc2⟩:=hc.app
     obtain⟨l1,r1⟩:=ihL _ _ _ _ h1 hc1 (fun i hi=>hids i (by simp[hi]))
     obtain⟨l2,r2⟩:=ihL _ _ _ _ h2 hc2 (fun i hi=>hids i (by simp[hi]))
     intro x hx
     obtain⟨xs,ys,rfl,q1,q2⟩:=hx.fns
     exact .fn f _ _ _ _ (relVs_frz l1 r1 q1) (relVs_frz l2 r2 q2)
    ·cases h
   case agg l=>
    split at h
    ·rename_i l' i1 c1 h1
     cases h
     obtain⟨l1,r1⟩:=ihL _ _ _ _ h1 hc hids
     intro x hx
     obtain⟨xs,rfl,q1⟩:=hx.aggs
     exact .agg _ _ (relVs_frz l1 r1 q1)
    ·cases h
   case tup l=>
    split at h
    ·rename_i l' i1 c1 h1
     cases h
     obtain⟨l1,r1⟩:=ihL _ _ _ _ h1 hc hids
     intro x hx
     obtain⟨xs,rfl,q1⟩:=hx.tups
     exact .tup _ _ (relVs_frz l1 r1 q1)
    ·cases h
   case iface t u=>
    split at h
    ·rename_i u' i1 c1 h1
     cases h
     have:=ihV _ _ _ _ h1 hc hids
     intro x hx
     cases hx with
     |imm _ _ hi=>cases hi with|iface _ _ y hy=>exact .iface _ _ _ (this _ hy.toV)
     |iface _ _ y hy=>exact .iface _ _ _ (this _ hy)
    ·cases h
   case may=>cases h
   case yld=>cases h
   case spare=>cases h
   case mp=>cases h
   case undef=>cases h
   all_goals
    cases h
    exact relI_of hF (by simp[refsV])
  ·cases l with
   |nil=>simp only[frzL]at h;cases h;exact⟨rfl,fun i v h=>by simp at h⟩
   |cons v r=>
    simp only[frzL]at h
    split at h
    ·rename_i v' i1 c1 r' i2 c2 h1 h2
     cases h
     obtain⟨hc1,hc2⟩:=hc.app
     have hv:=ihV _ _ _ _ h1 hc1 (fun i hi=>hids i (by simp[hi]))
     obtain⟨l2,r2⟩:=ihL _ _ _ _ h2 hc2 (fun i hi=>hids i (by simp[hi]))
     refine⟨by simp[l2],fun i u hu=>?_⟩
     cases i with
     |zero=>simp at hu;subst hu;exact⟨v',by simp,hv⟩
     |succ i=>obtain⟨u',g1,g2⟩:=r2 i u (by simpa using hu);exact⟨u',by simpa using g1,g2⟩
    ·cases h
  ·cases c<;>simp only[frzC]at h
   case cells l=>
    split at h
    ·rename_i l' i1 c1 h1
     cases h
     obtain⟨l1,r1⟩:=ihL _ _ _ _ h1 hc hids
     refine⟨l1,fun i hi x hx=>?_⟩
     simp only[Cont.size]at hi
     have hv:l[i]? =some l[i]:=List.getElem?_eq_getElem hi
     obtain⟨v',g1,g2⟩:=r1 i _ hv
     have hx:=hx.1
     simp only[List.getD,hv,Option.getD_some]at hx
     simp only[Cont.getV,List.getD,g1,Option.getD_some]
     exact g2 x hx
    ·cases h
   all_goals
    cases h
    exact⟨rfl,fun i hi x hx=>RelI.mono (fun _ _=>rfl) hF hx.1⟩

theorem frz_ids:∀n,(∀v v' ids cs,frzV look n v=some (v',ids,cs)→∀id,id∈ids→∃k,look id=some (.blk k))∧
   (∀l l' ids cs,frzL look n l=some (l',ids,cs)→∀id,id∈ids→∃k,look id=some (.blk k))∧
   (∀c c' ids cs,frzC look n c=some (c',ids,cs)→∀id,id∈ids→∃k,look id=some (.blk k)):=by
 intro n
 induction n with
 |zero=>exact⟨fun v v' ids cs h=>by simp[frzV]at h,fun l l' ids cs h=>by simp[frzL]at h,fun c c' ids cs h=>by simp[frzC]at h⟩
 |succ n ih=>
  obtain⟨ihV,ihL,ihC⟩:=ih
  refine⟨fun v v' ids cs h id hid=>?_,fun l l' ids cs h id hid=>?_,fun c c' ids cs h id hid=>?_⟩
  ·cases v<;>simp only[frzV]at h
   case ptr|ep|full|fullc|sl=>
    split at h
    ·rename_i k hk
     split at h
     ·rename_i c' ids' cs' hfc
      cases h
      rcases List.mem_cons.1 hid with rfl|hid
      ·exact⟨k,hk⟩
      ·exact ihC _ _ _ _ hfc id hid
     ·cases h
    ·cases h
   case vw=>
    split at h
    ·rename_i k hk
     split at h
     ·rename_i c' ids' cs' hfc
      rw[cond_eq_ite]at h
      split at h
      ·cases h
       rcases List.mem_cons.1 hid with rfl|hid
       ·exact⟨k,hk⟩
       ·exact ihC _ _ _ _ hfc id hid
      ·cases h
     ·cases h
    ·cases h
   case fn=>
    split at h
    ·rename_i a' i1 c1 b' i2 c2 h1 h2
     cases h
     rcases List.mem_append.1 hid with hid|hid
     ·exact ihL _ _ _ _ h1 id hid
     ·exact ihL _ _ _ _ h2 id hid
    ·cases h
   case agg|tup=>
    split at h
    ·rename_i l' i1 c1 h1
     cases h
     exact ihL _ _ _ _ h1 id hid
    ·cases h
   case iface=>
    split at h
    ·rename_i l' i1 c1 h1
     cases h
     exact ihV _ _ _ _ h1 id hid
    ·cases h
   case may=>cases h
   case yld=>cases h
   case spare=>cases h
   case mp=>cases h
   case undef=>cases h
   all_goals (cases h;simp at hid)
  ·cases l with
   |nil=>simp only[frzL]at h;cases h;simp at hid
   |cons v r=>
    simp only[frzL]at h
    split at h
    ·rename_i v' i1 c1 r' i2 c2 h1 h2
     cases h
     rcases List.mem_append.1 hid with hid|hid
     ·exact ihV _ _ _ _ h1 id hid
     ·exact ihL _ _ _ _ h2 id hid
    ·cases h
  ·cases c<;>simp only[frzC]at h
   case cells=>
    split at h
    ·rename_i l' i1 c1 h1
     cases h
     exact ihL _ _ _ _ h1 id hid
    ·cases h
   all_goals (cases h;simp at hid)

end
end Go.Ab

/-
 Slices that grow, are cut, are laid; results of calls.
-/
set_option linter.unusedVariables false
set_option linter.unusedSimpArgs false
namespace Go.Ab
open Go

theorem MRel.setH {G:GL}{F:Nat→Prop}{ρ:Nat→Option Nat}{H:Nat→Option HO}{w:World}(hm:MRel G F ρ H w)
  {id:Nat} {k k':Blk} (hi:H id=some (.blk k)) (hbx:k'.bx=k.bx) (hn:k'.n=k.n) (hnil:k'.nil=k.nil) (hsz:k'.sz=k.sz) (hcap:k'.cap=k.cap∨k'.cap=none)
  (hO:HKeep w ρ H w ρ (upd H id (some (.blk k')))→RelO G w F ρ (upd H id (some (.blk k'))) id (.blk k')):
  MRel G F ρ (upd H id (some (.blk k'))) w∧Ext G F ρ w F ρ w∧HKeep w ρ H w ρ (upd H id (some (.blk k'))):=by
 have hk:HKeep w ρ H w ρ (upd H id (some (.blk k'))):=
  ⟨fun i o h1 h2=>by
   by_cases e:i=id
   ·subst e;rw[hi]at h1;cases h1;exact⟨_,upd_same _ _ _,hbx.trans h2,rfl⟩
   ·exact⟨o,by rw[upd_other _ _ e];exact h1,h2,rfl⟩,
   fun i k1 h1=>by
   by_cases e:i=id
   ·subst e;rw[hi]at h1;cases h1
    exact⟨_,upd_same _ _ _,hbx,Nat.le_of_eq hn.symm,fun e=>⟨hnil,hsz,hcap,rfl⟩⟩
   ·exact⟨k1,by rw[upd_other _ _ e];exact h1,rfl,Nat.le_refl _,fun _=>⟨rfl,rfl,.inl rfl,rfl⟩⟩,
   fun b cs ty fz hb=>⟨cs,ty,fz,hb,rfl⟩⟩
 refine⟨⟨fun i o h1=>?_,fun i b hb=>?_,hm.inj,hm.lt,hm.frz,hm.glob⟩,Ext.refl _ _ _,hk⟩
 ·by_cases e:i=id
  ·subst e;rw[upd_same]at h1;cases h1;exact hO hk
  ·rw[upd_other _ _ e]at h1
   exact(hm.heap i o h1).mono (fun _ _=>rfl) (fun _ h=>h) hk rfl (fun b hb=>⟨rfl,fun h=>h⟩)
 ·obtain⟨o',ho'⟩:=hm.dom i b hb
  by_cases e:i=id
  ·subst e;exact⟨_,upd_same _ _ _⟩
  ·exact⟨o',by rw[upd_other _ _ e];exact ho'⟩

theorem MRel.ghost {G:GL}{F:Nat→Prop}{ρ:Nat→Option Nat}{H:Nat→Option HO}{w:World}(hm:MRel G F ρ H w)
  {site:Nat} {k:Blk} (hs:H site=none) (hn:k.n=0) (hc:k.c.size=0):
  MRel G F ρ (upd H site (some (.blk k))) w∧Ext G F ρ w F ρ w∧HKeep w ρ H w ρ (upd H site (some (.blk k))):=by
 have hρ:ρ site=none:=by
  cases e:ρ site with
  |none=>rfl
  |some b=>obtain⟨o,h⟩:=hm.dom site b e;rw[hs]at h;cases h
 have hne:∀id o,H id=some o→id≠site:=fun id o h e=>by rw[e,hs]at h;cases h
 have hk:HKeep w ρ H w ρ (upd H site (some (.blk k))):=
  ⟨fun id o' h1 h2=>⟨o',by rw[upd_other _ _ (hne id o' h1)];exact h1,h2,rfl⟩,
   fun id k1 h1=>⟨k1,by rw[upd_other _ _ (hne id _ h1)];exact h1,rfl,Nat.le_refl _,fun _=>⟨rfl,rfl,.inl rfl,rfl⟩⟩,
   fun b cs ty fz hb=>⟨cs,ty,fz,hb,rfl⟩⟩
 refine⟨⟨fun i o h1=>?_,fun i b hb=>?_,hm.inj,hm.lt,hm.frz,hm.glob⟩,Ext.refl _ _ _,hk⟩
 ·by_cases e:i=site
  ·subst e;rw[upd_same]at h1;cases h1;exact⟨by rw[hc,hn];simp,.inl ⟨hn,hρ⟩⟩
  ·rw[upd_other _ _ e]at h1
   exact(hm.heap i o h1).mono (fun _ _=>rfl) (fun _ h=>h) hk rfl (fun b hb=>⟨rfl,fun h=>h⟩)
 ·obtain⟨o',ho'⟩:=hm.dom i b hb
  by_cases e:i=site
  ·subst e;exact⟨_,upd_same _ _ _⟩
  ·exact⟨o',by rw[upd_other _ _ e];exact ho'⟩

section
variable {P:Program}{G:GL}{F F':Nat→Prop}{ρ:Nat→Option Nat}{H:Nat→Option HO}{w:World}{look:Nat→Option HO}
 {Sp:SpT} {D:Delta}

theorem app_nmap {a b c:Cont}(h:a.app b=some c):a.isMap=false∧c.isMap=false:=by
 cases a<;>cases b<;>simp only[Cont.app,reduceCtorEq]at h<;>first|(cases h;exact⟨rfl,rfl⟩)|(rw[cond_eq_ite]at h;split at h<;>cases h;exact⟨rfl,rfl⟩)
theorem app_spec {a b c:Cont}(h:a.app b=some c):c.size=a.size+b.size∧
  (∀i x,i<a.size→RelE w F ρ H a i x→RelE w F ρ H c i x)∧(∀i x,i<b.size→RelI w F (b.getV i) x→x.oneCell'=true→RelE w F ρ H c (a.size+i) x):=by
 cases a<;>cases b<;>simp only[Cont.app,reduceCtorEq]at h
 case ints.ints k l k' l'=>
  simp only[cond_eq_ite]at h
  split at h
  ·rename_i hk
   have hk:k=k':=by simpa[beqK]using hk
   subst hk
   cases h
   refine⟨by simp[Cont.size],fun i x hi hr=>?_,fun i x hi hr hone=>?_⟩
   ·simp only[Cont.size]at hi
    simp only[RelE,Cont.getV]at hr ⊢
    rw[show(l++l').getD i 0=l.getD i 0 by simp[List.getD,List.getElem?_append_left hi]];exact hr
   ·simp only[Cont.size]at hi ⊢
    simp only[RelE,Cont.getV]at hr ⊢
    rw[show(l++l').getD (l.length+i) 0=l'.getD i 0 by simp[List.getD,List.getElem?_append_right]];exact⟨hr,hone⟩
  ·cases h
 case bools.bools l l'=>
  cases h
  refine⟨by simp[Cont.size],fun i x hi hr=>?_,fun i x hi hr hone=>?_⟩
  ·simp only[Cont.size]at hi
   simp only[RelE,Cont.getV]at hr ⊢
   rw[show(l++l').getD i false=l.getD i false by simp[List.getD,List.getElem?_append_left hi]];exact hr
  ·simp only[Cont.size]at hi ⊢
   simp only[RelE,Cont.getV]at hr ⊢
   rw[show(l++l').getD (l.length+i) false=l'.getD i false by simp[List.getD,List.getElem?_append_right]];exact⟨hr,hone⟩
 case strs.strs l l'=>
  cases h
  refine⟨by simp[Cont.size],fun i x hi hr=>?_,fun i x hi hr hone=>?_⟩
  ·simp only[Cont.size]at hi
   simp only[RelE,Cont.getV]at hr ⊢
   rw[show(l++l').getD i []=l.getD i []by simp[List.getD,List.getElem?_append_left hi]];exact hr
  ·simp only[Cont.size]at hi ⊢
   simp only[RelE,Cont.getV]at hr ⊢
   rw[show(l++l').getD (l.length+i) []=l'.getD i []by simp[List.getD,List.getElem?_append_right]];exact⟨hr,hone⟩
 case vals.vals l l'=>
  cases h
  refine⟨by simp[Cont.size],fun i x hi hr=>?_,fun i x hi hr hone=>?_⟩
  ·simp only[Cont.size]at hi
   simp only[RelE,Cont.getV]at hr ⊢
   rw[show(l++l').getD i .undef=l.getD i .undef by simp[List.getD,List.getElem?_append_left hi]];exact hr
  ·simp only[Cont.size]at hi ⊢
   simp only[RelE,Cont.getV]at hr ⊢
   rw[show(l++l').getD (l.length+i) .undef=l'.getD i .undef by simp[List.getD,List.getElem?_append_right]];exact⟨hr,hone⟩

theorem src_sound (hm:MRel G F ρ H w)(hl:∀id o,look id=some o→H id=some o){sz:Nat}{v:AV}{c:Cont}{m:Nat}{cs:List Cd}{x:Value}(h:srcOf look sz v=some (c,m,cs))(hc:AllC Sp cs)(hx:RelV w F ρ H v x):
  ∃(a:Option Addr) (cap:Nat) (cells:List Value),x=.slice a m cap∧c.size=m*sz∧cells.length=m*sz∧(a=none→m=0)∧
   (∀b,a=some b→∀j y,cells[j]? =some y→w.cell? (b.add j)=some y)∧(∀j y,cells[j]? =some y→RelE w F ρ H c j y):=by
 have ofHolds:∀(b o cap:Nat) (c:Cont),x=.slice (some ⟨b,o,none⟩) m cap→c.size=m*sz→(∀i,i<c.size→∃y,w.cell? ⟨b,o+i,none⟩=some y∧RelE w F ρ H c i y)→
   ∃(a:Option Addr) (cap:Nat) (cells:List Value),x=.slice a m cap∧c.size=m*sz∧cells.length=m*sz∧(a=none→m=0)∧
   (∀b,a=some b→∀j y,cells[j]? =some y→w.cell? (b.add j)=some y)∧(∀j y,cells[j]? =some y→RelE w F ρ H c j y):=by
  intro b o cap c hx hs hh
  refine⟨some ⟨b,o,none⟩,cap,(List.range c.size).map (fun i=>(w.cell? ⟨b,o+i,none⟩).getD default),hx,hs,by simp[hs],(fun e=>by cases e),?_,?_⟩
  ·intro b' e j y hj
   cases e
   have hlt:j<c.size:=by
    have:=(List.getElem?_eq_some_iff.1 hj).1;simpa using this
   obtain⟨z,g1,g2⟩:=hh j hlt
   rw[addr_add]
   simp[hlt,g1]at hj
   rw[g1,hj]
  ·intro j y hj
   have hlt:j<c.size:=by
    have:=(List.getElem?_eq_some_iff.1 hj).1;simpa using this
   obtain⟨z,g1,g2⟩:=hh j hlt
   simp[hlt,g1]at hj
   rw[← hj];exact g2
 have ofZero:∀(a:Option Addr) (c:Cont),x=.slice a 0 0→m=0→c.size=0→
   ∃(a:Option Addr) (cap:Nat) (cells:List Value),x=.slice a m cap∧c.size=m*sz∧cells.length=m*sz∧(a=none→m=0)∧
   (∀b,a=some b→∀j y,cells[j]? =some y→w.cell? (b.add j)=some y)∧(∀j y,cells[j]? =some y→RelE w F ρ H c j y):=by
  intro a c hx hm0 hs
  subst hm0
  exact⟨a,0,[],hx,by simp[hs],by simp,fun _=>rfl,fun b _ j y h=>by simp at h,fun j y h=>by simp at h⟩
 unfold srcOf at h
 split at h
 ·rename_i c' len cap
  cases h
  have hs:c.size=m*sz:=by have:=hc.1;simp only[Cd.holds,mz_eq]at this;exact this
  cases hx with
  |imm _ _ hi=>
   cases hi with
   |imm _ _ _ b o cap' xs hF hcell hr ho hle hcap=>
    refine ofHolds b o cap' c rfl hs (fun i hi=>⟨xs i,hcell i hi,?_⟩)
    have:=hr i hi
    refine⟨?_,ho i hi⟩
    cases c<;>first|exact this|exact this.toV
   |imm0 _ _ a hc0 hcap=>exact ofZero a c rfl rfl hc0
 ·rename_i id len
  split at h
  ·rename_i k hk
   have hH:=hl _ _ hk
   simp only[cond_eq_ite]at h
   split at h
   ·rename_i hsz
    have hsz:k.sz=sz:=Nat.eq_of_beq_eq_true hsz
    cases h
    have hn:k.n=m:=hc.1
    have hs:k.c.size=m*sz:=by rw[(hm.heap id _ hH).1,hn,hsz]
    cases hx with
    |imm _ _ hi=>cases hi
    |full _ _ k' _ hh hle hp hxx=>
     rw[hH]at hh;cases hh
     rcases hxx hn with⟨rfl,_,_,rfl⟩|⟨rfl,_,_,a,rfl⟩|⟨_,b,cap,cs0,ty,fz,q1,q2,rfl,q3,q4,q5⟩
     ·exact ofZero none _ rfl rfl (by rw[hs];simp)
     ·exact ofZero _ _ rfl rfl (by rw[hs];simp)
     ·refine ofHolds b 0 cap k.c rfl hs (fun i hi=>?_)
      obtain⟨_,h1|⟨b',h1,h2⟩⟩:=hm.heap id _ hH
      ·rw[q1]at h1;cases h1.2
      ·rw[q1]at h1;cases h1
       obtain⟨cs1,ty1,fz1,g1,g2,g3,g4⟩:=h2.ex (Cont.nmap hi)
       obtain⟨y,p1,p2⟩:=g4 i hi
       exact⟨y,by simp[World.cell?,g1,p1],p2⟩
   ·cases h
  ·cases h
 ·rename_i id off len cap
  split at h
  ·rename_i k hk
   have hH:=hl _ _ hk
   simp only[cond_eq_ite]at h
   split at h
   ·rename_i hsz
    have hsz:k.sz=sz:=Nat.eq_of_beq_eq_true hsz
    cases h
    have hle:off+m*sz≤k.c.size:=by have:=hc.1;simp only[Cd.holds,len',mz_eq,decide_eq_true_eq]at this;exact this
    cases hx with
    |imm _ _ hi=>cases hi
    |sl _ _ _ _ b k' hb hh hbx hlc=>
     rw[hH]at hh;cases hh
     rw[mz_eq]
     refine ofHolds b off cap _ rfl (by rw[size_take,size_drop];omega) (fun i hi=>?_)
     rw[size_take,size_drop]at hi
     obtain⟨_,h1|⟨b',h1,h2⟩⟩:=hm.heap id _ hH
     ·rw[hb]at h1;cases h1.2
     ·rw[hb]at h1;cases h1
      obtain⟨cs1,ty1,fz1,g1,g2,g3,g4⟩:=h2.ex (Cont.nmap (i:=off+i) (by omega))
      obtain⟨y,p1,p2⟩:=g4 (off+i) (by omega)
      refine⟨y,by simp[World.cell?,g1,p1],?_,p2.2⟩
      have p2:=p2.1
      have hv:((k.c.drop off).take (m*sz)).getV i=k.c.getV (off+i):=by rw[getV_take _ _ _ (by omega),getV_drop]
      cases hkc:k.c with
      |cells l=>
       rw[hkc]at p2 hv
       simp only[Cont.drop,Cont.take]at hv p2 ⊢
       simp only[Cont.getV]at hv
       rw[hv];exact p2
      |_=>
       rw[hkc]at p2 hv
       simp only[Cont.drop,Cont.take]at hv p2 ⊢
       rw[hv];exact p2
   ·cases h
  ·cases h
 ·rename_i id n s off len
  split at h
  ·rename_i k hk
   have hH:=hl _ _ hk
   simp only[cond_eq_ite]at h
   split at h
   ·rename_i hsz
    rw[Bool.and_eq_true]at hsz
    have hs2:=Nat.eq_of_beq_eq_true hsz.2
    have hsz:k.sz=sz:=Nat.eq_of_beq_eq_true hsz.1
    subst hs2
    cases h
    have hn:k.n=n:=hc.1
    have hks:k.c.size=n*s:=by rw[(hm.heap id _ hH).1,hn,hsz]
    obtain⟨hle,⟨e,a,rfl⟩|⟨b,cap,cs,ty,fz,p1,p2,rfl,p3,p4⟩⟩:=hx.vws hH hn
    ·have e2:m=0:=by omega
     subst e2
     exact ofZero a _ rfl rfl (by rw[size_take];simp[mz_eq])
    ·have hm1:(off+m)*s≤k.c.size:=by rw[hks];exact Nat.mul_le_mul_right _ hle
     rw[Nat.add_mul]at hm1
     rw[mz_eq,mz_eq]
     refine ofHolds b (off*s) _ _ rfl (by rw[size_take,size_drop];omega) (fun i hi=>?_)
     rw[size_take,size_drop]at hi
     obtain⟨_,h1|⟨b',h1,h2⟩⟩:=hm.heap id _ hH
     ·rw[p1]at h1;cases h1.2
     ·rw[p1]at h1;cases h1
      obtain⟨cs1,ty1,fz1,g1,g2,g3,g4⟩:=h2.ex (Cont.nmap (i:=off*s+i) (by omega))
      obtain⟨y,r1,r2⟩:=g4 (off*s+i) (by omega)
      refine⟨y,by simp[World.cell?,g1,r1],?_,r2.2⟩
      have r2:=r2.1
      have hv:((k.c.drop (off*s)).take (m*s)).getV i=k.c.getV (off*s+i):=by rw[getV_take _ _ _ (by omega),getV_drop]
      cases hkc:k.c with
      |cells l=>
       rw[hkc]at r2 hv
       simp only[Cont.drop,Cont.take]at hv r2 ⊢
       simp only[Cont.getV]at hv
       rw[hv];exact r2
      |_=>
       rw[hkc]at r2 hv
       simp only[Cont.drop,Cont.take]at hv r2 ⊢
       rw[hv];exact r2
   ·cases h
  ·cases h
 ·cases h

theorem run_firstCells {a:Option Addr}{m cap sz:Nat}{cells:List Value}(hlen:cells.length=m*sz)(hz:a=none→m=0)
  (hcell:∀b,a=some b→∀j y,cells[j]? =some y→w.cell? (b.add j)=some y):(Builtin.firstCells sz m (.slice a m cap)).run P w=.ok cells.toArray w:=by
 cases a with
 |none=>
  have:=hz rfl;subst this
  have:cells=[]:=by simpa using hlen
  subst this
  simp[Builtin.firstCells]
 |some b=>
  simp only[Builtin.firstCells]
  have:=run_loadCells_list (P:=P) (w:=w) b cells (hcell b rfl)
  rw[hlen]at this
  exact this

end
end Go.Ab

/-
 append.
-/
set_option linter.unusedVariables false
set_option linter.unusedSimpArgs false
namespace Go.Ab
open Go

structure ElOk (P:Program)(e:TypeId)(sz by_:Nat):Prop where
 inf:∃i z,P.info? e=some i∧i.size=sz∧i.bytes=by_∧i.zero=some z∧z.cells.size=sz
 pos:by_≠0

section
variable {P:Program}{G:GL}{F F':Nat→Prop}{ρ:Nat→Option Nat}{H:Nat→Option HO}{w:World}{look:Nat→Option HO}
 {Sp:SpT} {D:Delta}

theorem run_append_room {sT xT e ty:TypeId}{sz by_:Nat}(hs:P.underlying sT=some (.slice e)){dx:TypeDesc}(hx:P.underlying xT=some dx)(hx':∀k,dx≠ .int k)(he:ElOk P e sz by_)
  {base a:Option Addr} {sLen sCap m cap:Nat} {cells:List Value} (hc:(Builtin.firstCells sz m (.slice a m cap)).run P w=.ok cells.toArray w) (hroom:sLen+m≤sCap):
  (Builtin.append_ #[sT,xT] ty #[.slice base sLen sCap,.slice a m cap]).run P w=
   (match base with
    |some b=>((storeCells (b.add (sLen*sz)) cells).run P w).andThen fun _ w'=>.ok (.slice (some b) (sLen+m) sCap) w'
    |none=>.ok (.slice none (sLen+m) sCap) w):=by
 obtain⟨i,z,h1,h2,h3,h4,h5⟩:=he.inf
 have hz:(match dx with|.int _=>true|_=>false)=false:=by cases dx<;>simp;exact hx' _ rfl
 unfold Builtin.append_
 simp only[List.getElem?_toArray,List.getElem?_cons_zero,List.getElem?_cons_succ]
 simp only[Sem.run_bind,run_underlying' hs,Result.andThen_ok,run_sizeOf' h1,run_underlying' hx,Sem.run_pure,Builtin.lenOf,h2]
 cases dx<;>simp[Builtin.lenOf,hroom,hc]<;>first|exact absurd rfl (hx' _)|(cases base<;>simp)

theorem run_append_grow {sT xT e ty:TypeId}{sz by_:Nat}(hs:P.underlying sT=some (.slice e)){dx:TypeDesc}(hx:P.underlying xT=some dx)(hx':∀k,dx≠ .int k)(he:ElOk P e sz by_)
  {base a:Option Addr} {sLen sCap m cap:Nat} {cells old:List Value} (hc:∀w':World,w'.heap=w.heap→(Builtin.firstCells sz m (.slice a m cap)).run P w'=.ok cells.toArray w')
  (ho:∀w':World,w'.heap=w.heap→(Builtin.firstCells sz sLen (.slice base sLen sCap)).run P w'=.ok old.toArray w') (hroom:¬ sLen+m≤sCap) (hb:(sLen+m)*by_≤roomMax):
  ∃(newCap:Nat) (rest:List Value) (w':World),(sLen+m≤newCap∧newCap≤capMax)∧w'.heap=w.heap.push (.cells (old++cells++rest).toArray e)∧(rest.length=(newCap-(sLen+m))*sz∧IoEq G w w')∧
   (Builtin.append_ #[sT,xT] ty #[.slice base sLen sCap,.slice a m cap]).run P w=.ok (.slice (some ⟨w.heap.size,0,none⟩) (sLen+m) newCap) w':=by
 have hb:(sLen+m)*by_≤140737488355328:=hb
 obtain⟨i,z,h1,h2,h3,h4,h5⟩:=he.inf
 have hpos:i.bytes≠0:=by rw[h3];exact he.pos
 have hfit:Builtin.nextslicecap (sLen+m) sCap*i.bytes≤281474976710656:=growslice_fits (by omega) (by rw[h3];exact hb)
 have hneed:sLen+m≤140737488355328:=by
  have:(sLen+m)*1≤(sLen+m)*by_:=Nat.mul_le_mul_left _ (Nat.pos_of_ne_zero he.pos)
  omega
 let q:Question:=.appendCap (sLen+m) sCap e
 let newCap:=q.cut (w.tape w.drawn q)
 have hnew:sLen+m≤newCap:=Nat.le_add_right _ _
 have hmaxc:newCap≤capMax:=by
  show sLen+m+_%(2 ^ 63-(sLen+m))≤9223372036854775807
  have:=Nat.mod_lt (w.tape w.drawn q) (show 2 ^ 63-(sLen+m)>0 by omega)
  omega
 let rest:=(Builtin.zeroCells z.cells (newCap-(sLen+m))).toList
 refine⟨newCap,rest,{w with heap:=w.heap.push (.cells (old++cells++rest).toArray e),drawn:=w.drawn+1},⟨hnew,hmaxc⟩,rfl,⟨by simp[rest,Builtin.zeroCells,h5],⟨rfl,rfl,fun _=>⟨rfl,Nat.le_succ _⟩⟩⟩,?_⟩
 unfold Builtin.append_
 simp only[List.getElem?_toArray,List.getElem?_cons_zero,List.getElem?_cons_succ]
 simp only[Sem.run_bind,run_underlying' hs,Result.andThen_ok,run_sizeOf' h1,run_underlying' hx,Sem.run_pure,Builtin.lenOf,h2]
 have hmax:¬ ((sLen+m:Nat):Int)>IntKind.i64.max:=by
  have:IntKind.i64.max=9223372036854775807:=by decide
  omega
 have hti:∀w:World,(typeInfo e).run P w=.ok i w:=fun w=>by simp[typeInfo,h1]
 have hzv:∀w:World,(zeroValue e).run P w=.ok z w:=fun w=>by simp[zeroValue,typeInfo,h1,h4]
 have hfit':¬ (Builtin.nextslicecap (sLen+m) sCap*i.bytes>2 ^ 48):=by omega
 have hch:(choose q).run P w=.ok newCap {w with drawn:=w.drawn+1}:=by
  simp only[choose,Sem.run,q,Question.forced];rfl
 have hc':=hc {w with drawn:=w.drawn+1} rfl
 have ho':=ho {w with drawn:=w.drawn+1} rfl
 have hfin:(match dx with|.int _=>true|_=>false)=false:=by cases dx<;>simp;exact hx' _ rfl
 cases dx
 case int k=>exact absurd rfl (hx' k)
 all_goals
  simp only[Bool.false_eq_true,if_false,Sem.run_bind,Builtin.lenOf,Sem.run_pure,Result.andThen_ok,hroom,hti,false_or,hpos,and_false,hfit',Bool.not_false,if_true]
  rw[show(choose (.appendCap (sLen+m) sCap e))=choose q from rfl,hch]
  simp only[Result.andThen_ok,run_askRoom,ho',hc',hzv,newRow,Sem.run_bind,run_newObj,Sem.run_pure]
  have harr:∀Z:Array Value,(old++cells).toArray++Z=(old++(cells++Z.toList)).toArray:=fun Z=>by
   apply Array.toList_inj.1;simp
  simp[rest,harr]

def Old (F:Nat→Prop)(ρ:Nat→Option Nat)(H:Nat→Option HO)(w:World)(c:Cont)(old:List Value):Prop:=
 old.length=c.size∧∀j y,old[j]? =some y→RelE w F ρ H c j y

theorem relE_app {c yc c':Cont}{old cells rest:List Value}(hc:c.app yc=some c')(ho:Old F ρ H w c old)(hl:cells.length=yc.size)(hr:∀j y,cells[j]? =some y→RelI w F (yc.getV j) y∧y.oneCell'=true):
  c'.size≤(old++cells++rest).length∧∀i,i<c'.size→∃x,(old++cells++rest)[i]? =some x∧RelE w F ρ H c' i x:=by
 obtain⟨s1,s2,s3⟩:=app_spec (w:=w) (F:=F) (ρ:=ρ) (H:=H) hc
 refine⟨by simp[ho.1,hl];omega,fun i hi=>?_⟩
 by_cases h:i<c.size
 ·have h':i<old.length:=by rw[ho.1];exact h
  refine⟨old[i],by simp[List.getElem?_append,h'],s2 i _ h (ho.2 i _ (List.getElem?_eq_getElem h'))⟩
 ·have h':i-c.size<cells.length:=by rw[hl];omega
  refine⟨cells[i-c.size],?_,?_⟩
  ·have h1:old.length≤i:=by rw[ho.1];omega
   rw[List.append_assoc,List.getElem?_append_right h1,List.getElem?_append_left (by rw[ho.1];exact h'),ho.1]
   exact List.getElem?_eq_getElem h'
  ·have:=s3 (i-c.size) _ (by rw[← hl];exact h') (hr _ _ (List.getElem?_eq_getElem h')).1 (hr _ _ (List.getElem?_eq_getElem h')).2
   rw[show c.size+(i-c.size)=i by omega]at this
   exact this

theorem relE_keep {w':World}{ρ':Nat→Option Nat}{H':Nat→Option HO}{F':Nat→Prop}{c:Cont}{xs:List Value}(hw:∀b,F b→w'.heap[b]? =w.heap[b]?)(hF:∀b,F b→F' b)(hk:HKeep w ρ H w' ρ' H')
  (h:∀i,i<c.size→∃x,xs[i]? =some x∧RelE w F ρ H c i x):∀i,i<c.size→∃x,xs[i]? =some x∧RelE w' F' ρ' H' c i x:=
 fun i hi=>by obtain⟨x,h1,h2⟩:=h i hi;exact⟨x,h1,h2.mono hw hF hk⟩

theorem memN_of_mem {id:Nat}:∀{ids:List Nat},id∈ids→memN id ids=true
 |[],h=>by simp at h
 |i::r,h=>by
  simp only[memN]
  by_cases e:i=id
  ·subst e;simp[beq_self]
  ·rcases List.mem_cons.1 h with h|h
   ·exact absurd h.symm e
   ·simp[beq_ne e,memN_of_mem h]

theorem of_len' {x y:Nat}(h:(Cd.b (len' x y)).holds Sp):x≤y:=of_decide_eq_true h

theorem emptyOf_nmap (ty:Nat):(emptyOf ty).isMap=false:=by
 unfold emptyOf;split<;>rfl
theorem emptyOf_size (ty:Nat):(emptyOf ty).size=0:=by
 unfold emptyOf;split<;>rfl

theorem relE_take {c:Cont}{p i:Nat}{x:Value}(hi:i<p)(h:RelE w F ρ H c i x):RelE w F ρ H (c.take p) i x:=by
 refine⟨?_,h.2⟩
 have h1:=h.1
 have hv:(c.take p).getV i=c.getV i:=getV_take _ _ _ hi
 cases c with
 |cells l=>
  simp only[Cont.take,Cont.getV]at hv h1 ⊢
  rw[hv];exact h1
 |maps=>exact h1
 |_=>
  simp only[Cont.take]at hv h1 ⊢
  rw[hv];exact h1
theorem relE_dropI {c d e:Cont}{q i:Nat}{x:Value}(ha:d.app (c.drop q)=some e)(h:RelE w F ρ H c (q+i) x):RelI w F ((c.drop q).getV i) x:=by
 have h1:=h.1
 have hv:(c.drop q).getV i=c.getV (q+i):=getV_drop ..
 cases c with
 |cells l=>cases d<;>simp only[Cont.drop,Cont.app,reduceCtorEq]at ha
 |maps=>cases d<;>simp only[Cont.drop,Cont.app,reduceCtorEq]at ha
 |ints=>exact hv.symm▸h1
 |bools=>exact hv.symm▸h1
 |strs=>exact hv.symm▸h1
 |vals=>exact hv.symm▸h1
theorem take_nmap (c:Cont)(p:Nat):(c.take p).isMap=c.isMap:=by cases c<;>rfl
set_option maxHeartbeats 1000000 in
theorem vw_append (hm:MRel G F ρ H w){site sz by_:Nat}{x:Value}{sT xT e ty:TypeId}(hs:P.underlying sT=some (.slice e)){dx:TypeDesc}(hx:P.underlying xT=some dx)(hx':∀k,dx≠ .int k)(he:ElOk P e sz by_)
  {ids:List Nat} {F1:Nat→Prop} (f1:MRel G F1 ρ (updL H (frzW look ids)) w) (f2:Ext G F ρ w F1 ρ w) (f3:HKeep w ρ H w ρ (updL H (frzW look ids))) {id n len m:Nat} {k:Blk} (hH:H id=some (.blk k)) (hH1:updL H (frzW look ids) id=some (.blk k))
  (hmu:k.mu=true) (hbx:k.bx=false) (hsz:k.sz=sz) (hn:k.n=n) (hbound:(len+m)*by_≤roomMax) {yc c1 c':Cont} (ha:(k.c.take (len*sz)).app yc=some c1) (hb:c1.app (k.c.drop ((len+m)*sz))=some c')
  (hu:RelV w F ρ H (.vw id n sz 0 len) x) {a:Option Addr} {cap:Nat} {cells:List Value} (q2:yc.size=m*sz) (q3:cells.length=m*sz) (q4:a=none→m=0) (q5:∀b,a=some b→∀j y,cells[j]? =some y→w.cell? (b.add j)=some y)
  (q6:∀j y,cells[j]? =some y→RelI w F1 (yc.getV j) y∧y.oneCell'=true) (cs0:List Cd):
  Eff G F ρ H w ((Builtin.append_ #[sT,xT] ty #[x,.slice a m cap]).run P w)
   {v:=.vw id (max n (len+m)) sz 0 (len+m),ws:=frzW look ids++[(id,.blk {k with c:=c',n:=max n (len+m),cap:=none})],al:=[],cs:=cs0}:=by
 have first:∀{a:Option Addr} {n cap:Nat} {cells:List Value},cells.length=n*sz→(a=none→n=0)→(∀b,a=some b→∀j y,cells[j]? =some y→w.cell? (b.add j)=some y)→
   ∀w':World,w'.heap=w.heap→(Builtin.firstCells sz n (.slice a n cap)).run P w'=.ok cells.toArray w':=by
  intro a n cap cells h1 h2 h3 w' hw
  refine run_firstCells h1 h2 (fun b hb j z hj=>?_)
  have:=h3 b hb j z hj
  simp only[World.cell?]at this ⊢
  rw[hw];exact this
 have hcs:cells.length=yc.size:=by rw[q2,q3]
 obtain⟨s1,s2,s3⟩:=app_spec (w:=w) (F:=F1) (ρ:=ρ) (H:=updL H (frzW look ids)) ha
 obtain⟨t1,t2,t3⟩:=app_spec (w:=w) (F:=F1) (ρ:=ρ) (H:=updL H (frzW look ids)) hb
 have hks:k.c.size=n*sz:=by rw[(hm.heap id _ hH).1,hn,hsz]
 have hnm:k.c.isMap=false:=by have:=(app_nmap ha).1;rwa [take_nmap]at this
 have hnm':c'.isMap=false:=(app_nmap hb).2
 obtain⟨hle,-⟩:=hu.vws hH hn
 rw[Nat.zero_add]at hle
 have hmul:len*sz≤n*sz:=Nat.mul_le_mul_right _ hle
 have hts:(k.c.take (len*sz)).size=len*sz:=by rw[size_take,hks];omega
 have hds:(k.c.drop ((len+m)*sz)).size=n*sz-(len+m)*sz:=by rw[size_drop,hks]
 have hadd:(len+m)*sz=len*sz+m*sz:=Nat.add_mul ..
 rw[hts,q2]at s1
 rw[hts]at s2 s3
 rw[s1]at t1 t3
 let k':Blk:={k with c:=c',n:=max n (len+m),cap:=none}
 have hcz:c'.size=max n (len+m)*sz:=by
  rw[t1,hds]
  rcases Nat.le_total n (len+m)with h|h
  ·rw[Nat.max_eq_right h]
   have:=Nat.mul_le_mul_right sz h
   omega
  ·rw[Nat.max_eq_left h]
   have:=Nat.mul_le_mul_right sz h
   omega
 have hk'sz:k'.c.size=k'.n*k'.sz:=by
  show c'.size=max n (len+m)*k.sz
  rw[hsz];exact hcz
 have grow:∀(base:Option Addr) (sCap:Nat) (old:List Value),x=.slice base len sCap→¬ len+m≤sCap→n≤sCap→(old.length=len*sz∧∀j y,old[j]? =some y→RelE w F1 ρ (updL H (frzW look ids)) k.c j y)→
   (base=none→len=0)→(∀b,base=some b→∀j y,old[j]? =some y→w.cell? (b.add j)=some y)→
   Eff G F ρ H w ((Builtin.append_ #[sT,xT] ty #[x,.slice a m cap]).run P w)
    {v:=.vw id (max n (len+m)) sz 0 (len+m),ws:=frzW look ids++[(id,.blk k')],al:=[],cs:=cs0}:=by
  intro base sCap old hxs hroom hnc hold hbn hbc
  subst hxs
  obtain⟨newCap,rest,w',⟨r1,rM⟩,r2,r3,r4⟩:=run_append_grow (G:=G) (ty:=ty) hs hx hx' he (first (cap:=cap) q3 q4 q5) (first (a:=base) (n:=len) (cap:=sCap) (cells:=old) hold.1 hbn hbc) hroom hbound
  have hmx:max n (len+m)=len+m:=Nat.max_eq_right (by omega)
  have hz0:n*sz≤(len+m)*sz:=Nat.mul_le_mul_right _ (by omega)
  have hsz':c'.size=len*sz+m*sz:=by rw[hcz,hmx,hadd]
  have g1:c'.size≤(old++cells++rest).length:=by simp[hold.1,q3];omega
  have g2:∀i,i<c'.size→∃x,(old++cells++rest)[i]? =some x∧RelE w F1 ρ (updL H (frzW look ids)) c' i x:=fun i hi=>by
   by_cases h:i<len*sz
   ·have h':i<old.length:=by rw[hold.1];exact h
    exact⟨old[i],by simp[List.getElem?_append,h'],t2 i _ (by rw[s1];omega) (s2 i _ h (relE_take h (hold.2 i _ (List.getElem?_eq_getElem h'))))⟩
   ·have h':i-len*sz<cells.length:=by rw[q3];omega
    refine⟨cells[i-len*sz],?_,?_⟩
    ·have h1:old.length≤i:=by rw[hold.1];omega
     rw[List.append_assoc,List.getElem?_append_right h1,List.getElem?_append_left (by rw[hold.1];exact h'),hold.1]
     exact List.getElem?_eq_getElem h'
    ·have:=s3 (i-len*sz) _ (by rw[← hcs];exact h') (q6 _ _ (List.getElem?_eq_getElem h')).1 (q6 _ _ (List.getElem?_eq_getElem h')).2
     rw[show len*sz+(i-len*sz)=i by omega]at this
     exact t2 i _ (by rw[s1];omega) this
  obtain⟨ρ',p1,p2,p3,p4⟩:=f1.move (w':=w') (k':=k') hH1 hbx hbx (show k.n<max n (len+m)by omega) r2 r3.2 (fun ρ' hk hρ=>by
   refine⟨hk'sz,.inr ⟨w.heap.size,hρ,RelB.ofCells hnm' ⟨(old++cells++rest).toArray,e,(0,0),push_new r2,by simp,by simpa using g1,fun i hi=>?_⟩ (fun _ h=>absurd (f1.frz _ h) (Nat.lt_irrefl _)) (fun e=>by rw[show k'.mu=k.mu from rfl,hmu]at e;cases e)⟩⟩
   obtain⟨z,z1,z2⟩:=relE_keep (fun b hb=>push_old r2 (f1.frz b hb)) (fun _ h=>h) hk g2 i hi
   exact⟨z,by simpa using z1,z2⟩)
  refine⟨_,w',F1,ρ',r4,?_⟩
  rw[updL_app]
  refine⟨p1,f2.trans p2,f3.trans p3,?_⟩
  have hfull:FullOk w' ρ' id (max n (len+m)) k' (.slice (some ⟨w.heap.size,0,none⟩) (max n (len+m)) newCap):=by
   refine .inr (.inr ⟨fun _=>by omega,w.heap.size,newCap,(old++cells++rest).toArray,e,(0,0),p4,push_new r2,rfl,by omega,?_,(fun n e=>by cases e),rM⟩)
   show newCap*k.sz≤_
   rw[hsz]
   simp only[List.size_toArray,List.length_append,r3,q3,hold.1]
   rw[← Nat.add_mul,← Nat.add_mul]
   exact Nat.mul_le_mul_right _ (by omega)
  exact .vw id _ sz 0 (len+m) k' _ (upd_same _ _ _) (Nat.le_refl _) ⟨_,_,_,rfl⟩ (fun _=>⟨by omega,_,_,hfull,by simp[Addr.add]⟩)
 obtain⟨ad,cd,hxe,hfo⟩:∃ad cd,x=.slice (ad.map fun p=>p.add (0*sz)) len (cd-0)∧FullOk w ρ id n k (.slice ad n cd):=by
  obtain⟨_,a,c,h1,h2⟩:=hu.vwf hH hn
  exact⟨a,c,h2,h1⟩
 clear hu
 have empty:n=0→cd=0→(∀k2:Blk,k2.nil=k.nil→k2.cap=none→FullOk w ρ id 0 k2 (.slice ad 0 0))→Eff G F ρ H w ((Builtin.append_ #[sT,xT] ty #[x,.slice a m cap]).run P w)
    {v:=.vw id (max n (len+m)) sz 0 (len+m),ws:=frzW look ids++[(id,.blk k')],al:=[],cs:=cs0}:=by
  intro hn0 hcd hfo
  have hl0:len=0:=by omega
  have eqx:x=.slice ad 0 0:=by
   rw[hxe,hcd,hl0]
   cases ad<;>simp[Addr.add]
  have hc0:k.c.size=0:=by rw[hks,hn0];simp
  by_cases hroom:0+m≤0
  ·have hm0:m=0:=by omega
   have hcl:cells=[]:=by
    have:=q3;rw[hm0,Nat.zero_mul]at this;exact List.length_eq_zero_iff.1 this
   have hrun0:=run_append_room (ty:=ty) (base:=ad) (sLen:=0) (sCap:=0) hs hx hx' he (first (cap:=cap) q3 q4 q5 w rfl) hroom
   have hrun:(Builtin.append_ #[sT,xT] ty #[x,.slice a m cap]).run P w=.ok (.slice ad 0 0) w:=by
    rw[eqx,hrun0,hcl,hm0]
    cases ad with
    |none=>rfl
    |some b=>simp only[storeCells,Sem.run_pure,Result.andThen_ok,Nat.add_zero]
   have hmx:max n (len+m)=0:=by omega
   have hrel:RelO G w F1 ρ (updL H (frzW look ids)) id (.blk k):=f1.heap id _ hH1
   obtain⟨p1,p2,p3⟩:=f1.setH (k':=k') hH1 rfl (show max n (len+m)=k.n by omega) rfl rfl (.inr rfl) (fun hk=>by
    refine⟨hk'sz,?_⟩
    have hz:k'.c.size=0:=by show c'.size=0;rw[hcz,hmx];simp
    rcases hrel.2 with h|⟨b,h1,h2⟩
    ·exact .inl ⟨hmx,h.2⟩
    ·obtain⟨cs1,ty1,fz1,z1,z2,z3,z4⟩:=h2.ex hnm
     exact .inr ⟨b,h1,RelB.ofCells hnm' ⟨cs1,ty1,fz1,z1,z2,by omega,fun i hi=>by omega⟩ h2.mu h2.fr⟩)
   refine⟨_,w,F1,ρ,hrun,?_⟩
   rw[updL_app]
   refine⟨p1,f2.trans p2,f3.trans p3,?_⟩
   show RelV _ _ _ _ (.vw id (max n (len+m)) sz 0 (len+m)) _
   have hl2:len+m=0:=by omega
   rw[hmx,hl2]
   have e2:(Value.slice (ad.map fun p=>p.add (0*sz)) 0 (0-0))=.slice ad 0 0:=by cases ad<;>simp[Addr.add]
   exact .vw id 0 sz 0 0 k' _ (upd_same _ _ _) (Nat.zero_le _) ⟨_,_,_,rfl⟩ (fun _=>⟨Nat.le_refl _,_,_,hfo k' rfl rfl,e2.symm⟩)
  ·exact grow ad 0 [] (by rw[eqx,hl0]) (by omega) (by omega) ⟨by simp[hl0],fun j y h=>by simp at h⟩ (fun _=>hl0) (fun b hb j y h=>by simp at h)
 rcases hfo with⟨e0,hnil,hcap0,hv⟩|⟨e0,hnil,hcap0,a0,hv⟩|⟨hnil,b,sCap,ocs,oty,ofz,e1,e2,hv,e3,e4,e5⟩
 ·cases hv
  exact empty e0 rfl (fun k2 h1 h2=>.inl ⟨rfl,h1▸hnil,(fun n e=>by rw[h2]at e;cases e),rfl⟩)
 ·cases hv
  exact empty e0 rfl (fun k2 h1 h2=>.inr (.inl ⟨rfl,h1▸hnil,(fun n e=>by rw[h2]at e;cases e),_,rfl⟩))
 ·cases hv
  have eqx:x=.slice (some ⟨b,0,none⟩) len cd:=by rw[hxe];simp[Addr.add]
  clear hxe empty
  obtain⟨_,h1|⟨b',h1,hB⟩⟩:=f1.heap id _ hH1
  ·rw[e1]at h1;cases h1.2
  rw[e1]at h1;cases h1
  obtain⟨ocs',oty',ofz',z1,z2,z3,z4⟩:=hB.ex hnm
  rw[e2]at z1;cases z1
  have hFb:¬ F1 b:=hB.mu hmu
  by_cases hroom:len+m≤cd
  ·-- there is room
   have hcd:=Nat.mul_le_mul_right sz hroom
   rw[hsz]at e4
   have hfit:len*sz+cells.length≤ocs.size:=by rw[q3,← Nat.add_mul];omega
   have hone:∀v∈cells,v.oneCell'=true:=by
    intro z hz
    obtain⟨j,hj,rfl⟩:=List.getElem_of_mem hz
    exact(q6 j _ (List.getElem?_eq_getElem hj)).2
   obtain⟨w',cs',p1,p2,p3,p4,p5,p6,p7,p8⟩:=run_storeCells (G:=G) (P:=P) b oty ofz cells (len*sz) 0 ocs w hone e2 (fun j _=>z2 j) (by omega)
   have hrun:=run_append_room (ty:=ty) (base:=some ⟨b,0,none⟩) (sLen:=len) (sCap:=cd) hs hx hx' he (first (cap:=cap) q3 q4 q5 w rfl) hroom
   simp only[addr_add,Nat.zero_add,p1,Result.andThen_ok]at hrun
   rw[← eqx]at hrun
   have hmx:max n (len+m)≤cd:=by omega
   have hmx2:=Nat.mul_le_mul_right sz hmx
   obtain⟨g1,g2,g3⟩:=f1.write (w':=w') (o':=.blk k') hH1 e1 hFb p2 p6 p7 p8 (fun cs0 ty0 fz0 h=>by rw[e2]at h;cases h;exact⟨cs',oty,ofz,rfl,p3⟩) rfl
    (fun k0 h=>by cases h;exact⟨k',rfl,show k.n≤max n (len+m)by omega,fun _=>⟨rfl,rfl,.inr rfl⟩⟩) (fun hk=>by
     refine⟨hk'sz,.inr ⟨b,e1,RelB.ofCells hnm' ⟨cs',oty,ofz,p2,z2,?_,fun i hi=>?_⟩ (fun _=>hFb) (fun e=>by rw[show k'.mu=k.mu from rfl,hmu]at e;cases e)⟩⟩
     ·rw[p3];show c'.size≤_;rw[hcz];omega
     ·have hwF:∀b,F1 b→w'.heap[b]? =w.heap[b]? :=fun j hj=>p6 j (fun e=>hFb (e▸hj))
      have hi:i<c'.size:=hi
      by_cases hin:i<len*sz
      ·obtain⟨z,y1,y2⟩:=z4 i (by omega)
       refine⟨z,?_,(t2 i z (by rw[s1];omega) (s2 i z hin (relE_take hin y2))).mono hwF (fun _ h=>h) hk⟩
       rw[p5 i (by omega)];exact y1
      ·by_cases hmid:i<len*sz+m*sz
       ·have hj:i-len*sz<cells.length:=by rw[q3];omega
        refine⟨cells[i-len*sz],?_,?_⟩
        ·have:=p4 (i-len*sz) hj
         rw[show len*sz+0+(i-len*sz)=i by omega]at this
         rw[this];exact List.getElem?_eq_getElem hj
        ·have:=s3 (i-len*sz) _ (by rw[← hcs];exact hj) (q6 _ _ (List.getElem?_eq_getElem hj)).1 (q6 _ _ (List.getElem?_eq_getElem hj)).2
         rw[show len*sz+(i-len*sz)=i by omega]at this
         exact(t2 i _ (by rw[s1];omega) this).mono hwF (fun _ h=>h) hk
       ·rw[t1,hds]at hi
        obtain⟨z,y1,y2⟩:=z4 i (by rw[hks];omega)
        refine⟨z,?_,?_⟩
        ·rw[p5 i (by rw[q3];omega)];exact y1
        ·rw[show i=(len+m)*sz+(i-(len+m)*sz)by omega]at y2
         have:=t3 (i-(len+m)*sz) z (by rw[hds];omega) (relE_dropI hb y2) y2.2
         rw[show len*sz+m*sz+(i-(len+m)*sz)=i by omega]at this
         exact this.mono hwF (fun _ h=>h) hk)
   refine⟨_,w',F1,ρ,hrun,?_⟩
   rw[updL_app]
   refine⟨g1,f2.trans g2,f3.trans g3,?_⟩
   have hfull:FullOk w' ρ id (max n (len+m)) k' (.slice (some ⟨b,0,none⟩) (max n (len+m)) cd):=
    .inr (.inr ⟨fun h=>by have:=hnil h;omega,b,cd,cs',oty,ofz,e1,p2,rfl,hmx,by show cd*k.sz≤_;rw[p3,hsz];exact e4,(fun n e=>by cases e),e5.2⟩)
   exact .vw id _ sz 0 (len+m) k' _ (upd_same _ _ _) (Nat.le_refl _) ⟨_,_,_,rfl⟩ (fun _=>⟨by omega,_,_,hfull,by simp[Addr.add]⟩)
  ·-- it grows elsewhere
   refine grow (some ⟨b,0,none⟩) cd (ocs.toList.take (len*sz)) eqx hroom e3 ⟨by simp;omega,fun j y hj=>?_⟩ (fun e=>by cases e) (fun b' hb j y hj=>?_)
   ·have hlt:j<len*sz:=by have:=(List.getElem?_eq_some_iff.1 hj).1;simp at this;omega
    obtain⟨z,y1,y2⟩:=z4 j (by omega)
    rw[List.getElem?_take,if_pos hlt]at hj
    simp at hj y1
    rw[hj]at y1;cases y1;exact y2
   ·cases hb
    have hlt:j<len*sz:=by have:=(List.getElem?_eq_some_iff.1 hj).1;simp at this;omega
    rw[List.getElem?_take,if_pos hlt]at hj
    rw[addr_add]
    simp only[World.cell?,e2,Nat.zero_add]
    simpa using hj

set_option maxHeartbeats 400000 in
theorem opAppend_sound (hm:MRel G F ρ H w)(hl:∀id o,look id=some o→H id=some o)(hfresh:∀i,i∈D.al→H i=none){site sz by_ tk:Nat}{u v:AV}{x y:Value}{sT xT e ty:TypeId}
  (hs:P.underlying sT=some (.slice e)) {dx:TypeDesc} (hx:P.underlying xT=some dx) (hx':∀k,dx≠ .int k) (he:ElOk P e sz by_)
  (hu:RelV w F ρ H u x) (hv:RelV w F ρ H v y) {d:Dir} (hD:opAppend site look d sz by_ tk u v=some D) (hc:AllC Sp D.cs):
  Eff G F ρ H w ((Builtin.append_ #[sT,xT] ty #[x,y]).run P w) D:=by
 unfold opAppend at hD
 split at hD
 ·rename_i yc m cs hsrc
  split at hD
  ·rename_i yc' ids cs' hfrz
   -- what is frozen
   obtain⟨F1,f1,f2,f3,f4,f5,f6⟩:=frzAll (look:=look) ids F H hm (fun id k hk=>.inl (hl _ _ hk))
   have key:AllC Sp cs→AllC Sp cs'→∃(a:Option Addr) (cap:Nat) (cells:List Value),y=.slice a m cap∧yc'.size=m*sz∧cells.length=m*sz∧(a=none→m=0)∧
     (∀b,a=some b→∀j y,cells[j]? =some y→w.cell? (b.add j)=some y)∧(∀j y,cells[j]? =some y→RelI w F1 (yc'.getV j) y∧y.oneCell'=true):=by
    intro h1 h2
    obtain⟨a,cap,cells,q1,q2,q3,q4,q5,q6⟩:=src_sound hm hl hsrc h1 hv
    obtain⟨g1,g2⟩:=(frz_sound hm hl f2.keep 60).2.2 _ _ _ _ hfrz h2 (fun id hid b hb=>f4 id hid ((frz_ids 60).2.2 _ _ _ _ hfrz id hid) b hb)
    refine⟨a,cap,cells,q1,g1.trans q2,q3,q4,q5,fun j z hj=>?_⟩
    have hlt:j<yc.size:=by rw[q2,← q3];exact(List.getElem?_eq_some_iff.1 hj).1
    exact⟨g2 j hlt z (q6 j z hj),(q6 j z hj).2⟩
   have first:∀{a:Option Addr} {n cap:Nat} {cells:List Value},cells.length=n*sz→(a=none→n=0)→(∀b,a=some b→∀j y,cells[j]? =some y→w.cell? (b.add j)=some y)→
     ∀w':World,w'.heap=w.heap→(Builtin.firstCells sz n (.slice a n cap)).run P w'=.ok cells.toArray w':=by
    intro a n cap cells h1 h2 h3 w' hw
    refine run_firstCells h1 h2 (fun b hb j z hj=>?_)
    have:=h3 b hb j z hj
    simp only[World.cell?]at this ⊢
    rw[hw];exact this
   split at hD
   ·-- an own slice
    rename_i id len
    split at hD
    ·rename_i k hk
     have hH:=hl _ _ hk
     simp only[cond_eq_ite]at hD
     split at hD
     ·rename_i hcond
      simp only[Bool.and_eq_true,Bool.not_eq_true']at hcond
      obtain⟨hmu,hbx,hmem,hsz⟩:=hcond
      have hsz:k.sz=sz:=Nat.eq_of_beq_eq_true hsz
      have hmem:id∉ids:=by
       intro h
       have:memN id ids=true:=memN_of_mem h
       rw[this]at hmem;cases hmem
      split at hD
      ·rename_i c' happ
       cases hD
       obtain⟨c1,c2,c3⟩:=hc
       obtain⟨c5,c3⟩:=c3.app
       obtain⟨c3,c4⟩:=c3.app
       have hcap1:∀n,apCap d k.cap=some n→k.cap=some n∧len+m≤n:=fun n e=>by
        unfold apCap at e
        split at e
        ·unfold apCs at c5
         simp only[e]at c5
         exact⟨e,of_len' c5.1⟩
        ·cases e
       have hcap2:apCap d k.cap=k.cap∨apCap d k.cap=none:=by
        unfold apCap
        split
        ·exact .inl rfl
        ·exact .inr rfl
       have hn:k.n=len:=c1
       have hbound:(len+m)*by_≤roomMax:=of_len' c2
       obtain⟨a,cap,cells,q1,q2,q3,q4,q5,q6⟩:=key c3 c4
       subst q1
       have hcs:cells.length=yc'.size:=by rw[q2,q3]
       -- the block after the freeze
       have hH1:updL H (frzW look ids) id=some (.blk k):=by
        rcases f5 id k hk with h|h
        ·rw[h,hH]
        ·exact absurd h.1 hmem
       obtain⟨s1,s2,s3⟩:=app_spec (w:=w) (F:=F1) (ρ:=ρ) (H:=updL H (frzW look ids)) happ
       have hksz:k.c.size=len*sz:=by rw[(hm.heap id _ hH).1,hn,hsz]
       let k':Blk:={k with c:=c',n:=len+m,cap:=apCap d k.cap}
       have hk'sz:k'.c.size=k'.n*k'.sz:=by
        show c'.size=(len+m)*k.sz
        rw[s1,q2,hksz,hsz,Nat.add_mul]
       -- the three ways in which the slice may lie
       have fullGo:FullOk w ρ id len k x→Eff G F ρ H w ((Builtin.append_ #[sT,xT] ty #[x,.slice a m cap]).run P w)
         {v:=.full id (len+m),ws:=frzW look ids++[(id,.blk k')],al:=[],cs:=.eqn k.n len:: .b (len' ((len+m)*by_) roomMax)::(apCs d k.cap (len+m)++(cs++cs'))}:=by
        intro hfull
        -- growing into a new row
        have grow:∀(base:Option Addr) (sCap:Nat) (old:List Value),x=.slice base len sCap→¬ len+m≤sCap→(∀n,k.cap=some n→sCap=n)→Old F1 ρ (updL H (frzW look ids)) w k.c old→
          (base=none→len=0)→(∀b,base=some b→∀j y,old[j]? =some y→w.cell? (b.add j)=some y)→
          Eff G F ρ H w ((Builtin.append_ #[sT,xT] ty #[x,.slice a m cap]).run P w)
           {v:=.full id (len+m),ws:=frzW look ids++[(id,.blk k')],al:=[],cs:=.eqn k.n len:: .b (len' ((len+m)*by_) roomMax)::(apCs d k.cap (len+m)++(cs++cs'))}:=by
         intro base sCap old hxs hroom hcr hold hbn hbc
         subst hxs
         obtain⟨newCap,rest,w',⟨r1,rM⟩,r2,r3,r4⟩:=run_append_grow (G:=G) (ty:=ty) hs hx hx' he (first (cap:=cap) q3 q4 q5) (first (a:=base) (n:=len) (cap:=sCap) (cells:=old) (by rw[hold.1,hksz]) hbn hbc) hroom hbound
         have hmpos:0<m:=by
          rcases hfull with⟨rfl,_,_,e⟩|⟨rfl,_,_,_,e⟩|⟨_,_,_,_,_,_,_,_,e,hle,_,_⟩
          ·cases e;omega
          ·cases e;omega
          ·cases e;omega
         obtain⟨g1,g2⟩:=relE_app (rest:=rest) happ hold hcs q6
         obtain⟨ρ',p1,p2,p3,p4⟩:=f1.move (w':=w') (k':=k') hH1 hbx hbx (show k.n<len+m by omega) r2 r3.2 (fun ρ' hk hρ=>by
          refine⟨hk'sz,.inr ⟨w.heap.size,hρ,RelB.ofCells (app_nmap happ).2 ⟨(old++cells++rest).toArray,e,(0,0),push_new r2,by simp,by simpa using g1,fun i hi=>?_⟩ (fun _ h=>absurd (f1.frz _ h) (Nat.lt_irrefl _)) (fun e=>by rw[show k'.mu=k.mu from rfl,hmu]at e;cases e)⟩⟩
          obtain⟨z,z1,z2⟩:=relE_keep (fun b hb=>push_old r2 (f1.frz b hb)) (fun _ h=>h) hk g2 i hi
          exact⟨z,by simpa using z1,z2⟩)
         refine⟨_,w',F1,ρ',r4,?_⟩
         rw[updL_app]
         refine⟨p1,f2.trans p2,f3.trans p3,.full id (len+m) k' _ (upd_same _ _ _) (Nat.le_refl _) ⟨_,_,_,rfl⟩ (fun _=>.inr (.inr ⟨fun _=>by omega,w.heap.size,newCap,(old++cells++rest).toArray,e,(0,0),p4,push_new r2,rfl,r1,?_,(fun n e=>by have h1:=hcap1 n e;have h2:=hcr n h1.1;omega),rM⟩))⟩
         show newCap*k.sz≤_
         rw[hsz]
         simp only[List.size_toArray,List.length_append,r3,q3,hold.1,hksz]
         rw[← Nat.add_mul,← Nat.add_mul]
         exact Nat.mul_le_mul_right _ (by omega)
        rcases hfull with⟨rfl,hnil,hcap0,rfl⟩|⟨rfl,hnil,hcap0,a0,rfl⟩|⟨hnil,b,sCap,ocs,oty,ofz,e1,e2,rfl,e3,e4,e5⟩
        ·-- the nil slice
         have hc0:k.c.size=0:=by rw[hksz];simp
         by_cases hroom:0+m≤0
         ·have hm0:m=0:=by omega
          subst hm0
          have hrun:=run_append_room (ty:=ty) (base:=none) (sLen:=0) (sCap:=0) hs hx hx' he (first (cap:=cap) q3 q4 q5 w rfl) hroom
          have hrel:RelO G w F1 ρ (updL H (frzW look ids)) id (.blk k):=f1.heap id _ hH1
          obtain⟨p1,p2,p3⟩:=f1.setH (k':=k') hH1 rfl (show(0+0:Nat)=k.n by omega) rfl rfl hcap2 (fun hk=>by
           refine⟨hk'sz,?_⟩
           have hz:k'.c.size=0:=by show c'.size=0;rw[s1,q2,hc0];simp
           rcases hrel.2 with h|⟨b,h1,h2⟩
           ·exact .inl ⟨rfl,h.2⟩
           ·obtain⟨cs1,ty1,fz1,z1,z2,z3,z4⟩:=h2.ex (app_nmap happ).1
            exact .inr ⟨b,h1,RelB.ofCells (app_nmap happ).2 ⟨cs1,ty1,fz1,z1,z2,by omega,fun i hi=>by omega⟩ h2.mu h2.fr⟩)
          refine⟨_,w,F1,ρ,hrun,?_⟩
          rw[updL_app]
          exact⟨p1,f2.trans p2,f3.trans p3,.full id _ k' _ (upd_same _ _ _) (Nat.le_refl _) ⟨_,_,_,rfl⟩ (fun _=>.inl ⟨rfl,hnil,(fun n e=>hcap0 n (hcap1 n e).1),rfl⟩)⟩
         ·exact grow none 0 [] rfl hroom (fun n e=>(hcap0 n e).symm) ⟨by rw[hc0];rfl,fun j y h=>by simp at h⟩ (fun _=>rfl) (fun b hb=>by cases hb)
        ·have hc0:k.c.size=0:=by rw[hksz];simp
         by_cases hroom:0+m≤0
         ·have hm0:m=0:=by omega
          subst hm0
          have hrun:=run_append_room (ty:=ty) (base:=some a0) (sLen:=0) (sCap:=0) hs hx hx' he (first (cap:=cap) q3 q4 q5 w rfl) hroom
          have hcl:cells=[]:=by simpa using q3
          subst hcl
          simp only[storeCells,Sem.run_pure,Result.andThen_ok]at hrun
          have hrel:RelO G w F1 ρ (updL H (frzW look ids)) id (.blk k):=f1.heap id _ hH1
          obtain⟨p1,p2,p3⟩:=f1.setH (k':=k') hH1 rfl (show(0+0:Nat)=k.n by omega) rfl rfl hcap2 (fun hk=>by
           refine⟨hk'sz,?_⟩
           have hz:k'.c.size=0:=by show c'.size=0;rw[s1,q2,hc0];simp
           rcases hrel.2 with h|⟨b,h1,h2⟩
           ·exact .inl ⟨rfl,h.2⟩
           ·obtain⟨cs1,ty1,fz1,z1,z2,z3,z4⟩:=h2.ex (app_nmap happ).1
            exact .inr ⟨b,h1,RelB.ofCells (app_nmap happ).2 ⟨cs1,ty1,fz1,z1,z2,by omega,fun i hi=>by omega⟩ h2.mu h2.fr⟩)
          refine⟨_,w,F1,ρ,hrun,?_⟩
          rw[updL_app]
          exact⟨p1,f2.trans p2,f3.trans p3,.full id _ k' _ (upd_same _ _ _) (Nat.le_refl _) ⟨_,_,_,rfl⟩ (fun _=>.inr (.inl ⟨rfl,hnil,(fun n e=>hcap0 n (hcap1 n e).1),_,rfl⟩))⟩
         ·exact grow (some a0) 0 [] rfl hroom (fun n e=>(hcap0 n e).symm) ⟨by rw[hc0];rfl,fun j y h=>by simp at h⟩ (fun e=>by cases e) (fun b hb j y h=>by simp at h)
        ·-- it lies in its block
         obtain⟨_,h1|⟨b',h1,hB⟩⟩:=f1.heap id _ hH1
         ·rw[e1]at h1;cases h1.2
         rw[e1]at h1;cases h1
         obtain⟨ocs',oty',ofz',z1,z2,z3,z4⟩:=hB.ex (app_nmap happ).1
         rw[e2]at z1;cases z1
         have hFb:¬ F1 b:=hB.mu hmu
         by_cases hroom:len+m≤sCap
         ·-- there is room
          have hfit:len*sz+cells.length≤ocs.size:=by
           rw[q3,← Nat.add_mul]
           refine Nat.le_trans (Nat.mul_le_mul_right sz hroom) ?_
           rw[← hsz];exact e4
          have hone:∀v∈cells,v.oneCell'=true:=by
           intro z hz
           obtain⟨j,hj,rfl⟩:=List.getElem_of_mem hz
           exact(q6 j _ (List.getElem?_eq_getElem hj)).2
          obtain⟨w',cs',p1,p2,p3,p4,p5,p6,p7,p8⟩:=run_storeCells (G:=G) (P:=P) b oty ofz cells (len*sz) 0 ocs w hone e2 (fun j _=>z2 j) (by omega)
          have hrun:=run_append_room (ty:=ty) (base:=some ⟨b,0,none⟩) (sLen:=len) (sCap:=sCap) hs hx hx' he (first (cap:=cap) q3 q4 q5 w rfl) hroom
          simp only[addr_add,Nat.zero_add,p1,Result.andThen_ok]at hrun
          obtain⟨g1,g2,g3⟩:=f1.write (w':=w') (o':=.blk k') hH1 e1 hFb p2 p6 p7 p8 (fun cs0 ty0 fz0 h=>by rw[e2]at h;cases h;exact⟨cs',oty,ofz,rfl,p3⟩) rfl
           (fun k0 h=>by cases h;exact⟨k',rfl,show k.n≤len+m by omega,fun _=>⟨rfl,rfl,hcap2⟩⟩) (fun hk=>by
            refine⟨hk'sz,.inr ⟨b,e1,RelB.ofCells (app_nmap happ).2 ⟨cs',oty,ofz,p2,z2,?_,fun i hi=>?_⟩ (fun _=>hFb) (fun e=>by rw[show k'.mu=k.mu from rfl,hmu]at e;cases e)⟩⟩
            ·rw[p3];show c'.size≤_;rw[s1,q2,hksz,← q3];exact hfit
            ·have hwF:∀b,F1 b→w'.heap[b]? =w.heap[b]? :=fun j hj=>p6 j (fun e=>hFb (e▸hj))
             have hi:i<c'.size:=hi
             by_cases hin:i<k.c.size
             ·obtain⟨z,y1,y2⟩:=z4 i hin
              refine⟨z,?_,(s2 i z hin y2).mono hwF (fun _ h=>h) hk⟩
              rw[p5 i (by rw[hksz]at hin;omega)];exact y1
             ·have hj:i-k.c.size<cells.length:=by rw[hcs];omega
              refine⟨cells[i-k.c.size],?_,?_⟩
              ·have:=p4 (i-k.c.size) hj
               rw[show len*sz+0+(i-k.c.size)=i by rw[← hksz];omega]at this
               rw[this];exact List.getElem?_eq_getElem hj
              ·have:=s3 (i-k.c.size) _ (by rw[← hcs];exact hj) (q6 _ _ (List.getElem?_eq_getElem hj)).1 (q6 _ _ (List.getElem?_eq_getElem hj)).2
               rw[show k.c.size+(i-k.c.size)=i by omega]at this
               exact this.mono hwF (fun _ h=>h) hk)
          refine⟨_,w',F1,ρ,hrun,?_⟩
          rw[updL_app]
          refine⟨g1,f2.trans g2,f3.trans g3,.full id (len+m) k' _ (upd_same _ _ _) (Nat.le_refl _) ⟨_,_,_,rfl⟩ (fun _=>.inr (.inr ⟨fun h=>by have:=hnil h;omega,b,sCap,cs',oty,ofz,e1,p2,rfl,hroom,by rw[p3];exact e4,(fun n e=>e5.1 n (hcap1 n e).1),e5.2⟩))⟩
         ·-- it grows elsewhere
          refine grow (some ⟨b,0,none⟩) sCap (ocs.toList.take k.c.size) rfl hroom e5.1 ⟨by simp;omega,fun j y hj=>?_⟩ (fun e=>by cases e) (fun b' hb j y hj=>?_)
          ·have hlt:j<k.c.size:=by have:=(List.getElem?_eq_some_iff.1 hj).1;simp at this;omega
           obtain⟨z,y1,y2⟩:=z4 j hlt
           rw[List.getElem?_take,if_pos hlt]at hj
           simp at hj y1
           rw[hj]at y1;cases y1;exact y2
          ·cases hb
           have hlt:j<k.c.size:=by have:=(List.getElem?_eq_some_iff.1 hj).1;simp at this;omega
           rw[List.getElem?_take,if_pos hlt]at hj
           rw[addr_add]
           simp only[World.cell?,e2,Nat.zero_add]
           simpa using hj
       cases hu with
       |imm _ _ hi=>cases hi
       |full _ _ k1 _ hh hle hp hxx=>
        rw[hH]at hh;cases hh
        exact fullGo (hxx hn)
      ·cases hD
     ·cases hD
    ·cases hD
   ·-- a view
    rename_i id n s len
    split at hD
    ·rename_i k hk
     have hH:=hl _ _ hk
     simp only[cond_eq_ite]at hD
     split at hD
     ·rename_i hcond
      simp only[Bool.and_eq_true,Bool.not_eq_true']at hcond
      obtain⟨hmu,hbx,hmem,hsz,hs2⟩:=hcond
      have hsz:k.sz=sz:=Nat.eq_of_beq_eq_true hsz
      have hs2:s=sz:=Nat.eq_of_beq_eq_true hs2
      subst hs2
      have hmem:id∉ids:=by
       intro h
       have:memN id ids=true:=memN_of_mem h
       rw[this]at hmem;cases hmem
      split at hD
      ·rename_i c1 ha
       split at hD
       ·rename_i c' hb
        cases hD
        obtain⟨g1,g2,c3⟩:=hc
        obtain⟨c3,c4⟩:=c3.app
        obtain⟨a,cap,cells,q1,q2,q3,q4,q5,q6⟩:=key c3 c4
        subst q1
        have hH1:updL H (frzW look ids) id=some (.blk k):=by
         rcases f5 id k hk with h|h
         ·rw[h,hH]
         ·exact absurd h.1 hmem
        rw[mz_eq]at ha hb
        exact vw_append hm (site:=site) hs hx hx' he f1 f2 f3 hH hH1 hmu hbx hsz g1 (of_len' g2) ha hb hu q2 q3 q4 q5 q6 _
       ·cases hD
      ·cases hD
     ·cases hD
    ·cases hD
   ·-- the nil slice
    split at hD
    ·rename_i c' happ
     cases hD
     obtain⟨c2,c3⟩:=hc
     obtain⟨c3,c4⟩:=c3.app
     have hbound:m*by_≤roomMax:=of_len' c2
     obtain⟨a,cap,cells,q1,q2,q3,q4,q5,q6⟩:=key c3 c4
     subst q1
     have hcs:cells.length=yc'.size:=by rw[q2,q3]
     cases hu with
     |imm _ _ hi=>
      cases hi
      have hsite:H site=none:=hfresh site (by simp)
      have hlk:look site=none:=by
       cases e:look site with
       |none=>rfl
       |some o=>have:=hl _ _ e;rw[hsite]at this;cases this
      have hH1:updL H (frzW look ids) site=none:=by rw[f6 site hlk];exact hsite
      obtain⟨s1,s2,s3⟩:=app_spec (w:=w) (F:=F1) (ρ:=ρ) (H:=updL H (frzW look ids)) happ
      have hsz':c'.size=m*sz:=by rw[s1,emptyOf_size,q2,Nat.zero_add]
      by_cases hroom:0+m≤0
      ·have hm0:m=0:=by omega
       subst hm0
       have hrun:=run_append_room (ty:=ty) (base:=none) (sLen:=0) (sCap:=0) hs hx hx' he (first (cap:=cap) q3 q4 q5 w rfl) hroom
       obtain⟨p1,p2,p3⟩:=f1.ghost (k:={c:=c',sz,n:=0,cap:=none,nil:=some true,mu:=true,bx:=false}) hH1 rfl (by rw[hsz'];simp)
       refine⟨_,w,F1,ρ,hrun,?_⟩
       rw[updL_app]
       exact⟨p1,f2.trans p2,f3.trans p3,.full site _ _ _ (upd_same _ _ _) (Nat.le_refl _) ⟨_,_,_,rfl⟩ (fun _=>.inl ⟨rfl,by simp,(fun n e=>by cases e),rfl⟩)⟩
      ·have hmpos:0<m:=by omega
       obtain⟨newCap,rest,w',⟨r1,rM⟩,r2,r3,r4⟩:=run_append_grow (G:=G) (ty:=ty) (base:=none) (sLen:=0) (sCap:=0) (old:=[]) hs hx hx' he (first (cap:=cap) q3 q4 q5) (fun w' _=>by simp[Builtin.firstCells]) hroom (by simpa using hbound)
       obtain⟨g1,g2⟩:=relE_app (w:=w) (F:=F1) (ρ:=ρ) (H:=updL H (frzW look ids)) (old:=[]) (rest:=rest) happ ⟨by rw[emptyOf_size];rfl,fun j y h=>by simp at h⟩ hcs q6
       obtain⟨ρ',p1,p2,p3,p4,_⟩:=f1.alloc (w':=w') (o:=.blk {c:=c',sz,n:=m,cap:=none,nil:=some true,mu:=true,bx:=false}) hH1 r2 r3.2 (fun ρ' H' hk hρ=>by
        refine⟨hsz',.inr ⟨w.heap.size,hρ,RelB.ofCells (app_nmap happ).2 ⟨([]++cells++rest).toArray,e,(0,0),push_new r2,by simp,by simpa using g1,fun i hi=>?_⟩ (fun _ h=>absurd (f1.frz _ h) (Nat.lt_irrefl _)) (fun e=>by cases e)⟩⟩
        obtain⟨z,z1,z2⟩:=relE_keep (fun b hb=>push_old r2 (f1.frz b hb)) (fun _ h=>h) hk g2 i hi
        exact⟨z,by simpa using z1,z2⟩)
       refine⟨_,w',F1,ρ',r4,?_⟩
       rw[updL_app]
       refine⟨p1,f2.trans p2,f3.trans p3,?_⟩
       rw[Nat.zero_add]
       refine .full site m _ _ (upd_same _ _ _) (Nat.le_refl _) ⟨_,_,_,rfl⟩ (fun _=>.inr (.inr ⟨fun _=>hmpos,w.heap.size,newCap,([]++cells++rest).toArray,e,(0,0),p4,push_new r2,rfl,by omega,?_,(fun n e=>by cases e),rM⟩))
       simp only[List.nil_append,List.size_toArray,List.length_append,r3,q3]
       rw[← Nat.add_mul]
       exact Nat.mul_le_mul_right _ (by omega)
    ·cases hD
   ·-- a slice without spare room
    rename_i c len cap0
    simp only[cond_eq_ite]at hD
    split at hD
    ·-- nothing is appended
     cases hD
     obtain⟨c0,c1⟩:=hc
     obtain⟨c3,c4⟩:=c1.app
     have hm0:m=0:=c0
     subst hm0
     obtain⟨a,cap,cells,q1,q2,q3,q4,q5,q6⟩:=key c3 c4
     subst q1
     have hcl:cells=[]:=by simpa using q3
     subst hcl
     have fin:∀(base:Option Addr) (sCap:Nat),len≤sCap→x=.slice base len sCap→RelI w F (.imm c len (some cap0)) x→
       Eff G F ρ H w ((Builtin.append_ #[sT,xT] ty #[x,.slice a 0 cap]).run P w)
        {v:=.imm c len (some cap0),ws:=frzW look ids,al:=[],cs:=.eqn 0 0::(cs++cs')}:=by
      intro base sCap hle hxb hri
      subst hxb
      have hrun:=run_append_room (ty:=ty) (base:=base) (sLen:=len) (sCap:=sCap) hs hx hx' he (first (cap:=cap) q3 q4 q5 w rfl) (by omega)
      have hrun':(Builtin.append_ #[sT,xT] ty #[.slice base len sCap,.slice a 0 cap]).run P w=.ok (.slice base len sCap) w:=by
       rw[hrun]
       cases base<;>simp[storeCells]
      exact⟨_,w,F1,ρ,hrun',f1,f2,f3,.imm _ _ (hri.mono (fun _ _=>rfl) f2.keep)⟩
     cases hu with
     |imm _ _ hi=>
      have hi0:=hi
      cases hi with
      |imm _ _ _ b o cap' xs hF hcell hr ho hle hcap=>exact fin _ _ hle rfl hi0
      |imm0 _ _ a0 hc0 hcap=>exact fin _ _ (Nat.le_refl _) rfl hi0
    split at hD
    ·rename_i c' happ
     -- a new row
     have grow:∀(nil:Option Bool) (cs0:List Cd),AllC Sp cs→AllC Sp cs'→c.size=len*sz→(len+m)*by_≤roomMax→0<m→H site=none→cap0=len→
       Eff G F ρ H w ((Builtin.append_ #[sT,xT] ty #[x,y]).run P w)
        {v:=.full site (len+m),ws:=frzW look ids++[(site,.blk {c:=c',sz,n:=len+m,cap:=none,nil:=nil,mu:=true,bx:=false})],al:=[site],cs:=cs0}:=by
      intro nil cs0 c3 c4 hcsz hbound hmpos hsite hcap
      subst hcap
      obtain⟨a,cap,cells,q1,q2,q3,q4,q5,q6⟩:=key c3 c4
      subst q1
      have hcs:cells.length=yc'.size:=by rw[q2,q3]
      have hlk:look site=none:=by
       cases e:look site with
       |none=>rfl
       |some o=>have:=hl _ _ e;rw[hsite]at this;cases this
      have hH1:updL H (frzW look ids) site=none:=by rw[f6 site hlk];exact hsite
      obtain⟨s1,s2,s3⟩:=app_spec (w:=w) (F:=F1) (ρ:=ρ) (H:=updL H (frzW look ids)) happ
      have hsz':c'.size=(cap0+m)*sz:=by rw[s1,hcsz,q2,Nat.add_mul]
      have go:∀(base:Option Addr) (old:List Value),x=.slice base cap0 cap0→Old F1 ρ (updL H (frzW look ids)) w c old→(base=none→cap0=0)→(∀b,base=some b→∀j y,old[j]? =some y→w.cell? (b.add j)=some y)→
        Eff G F ρ H w ((Builtin.append_ #[sT,xT] ty #[x,.slice a m cap]).run P w)
         {v:=.full site (cap0+m),ws:=frzW look ids++[(site,.blk {c:=c',sz,n:=cap0+m,cap:=none,nil:=nil,mu:=true,bx:=false})],al:=[site],cs:=cs0}:=by
       intro base old hxs hold hbn hbc
       subst hxs
       obtain⟨newCap,rest,w',⟨r1,rM⟩,r2,r3,r4⟩:=run_append_grow (G:=G) (ty:=ty) hs hx hx' he (first (cap:=cap) q3 q4 q5) (first (a:=base) (n:=cap0) (cap:=cap0) (cells:=old) (by rw[hold.1,hcsz]) hbn hbc) (by omega) hbound
       obtain⟨g1,g2⟩:=relE_app (rest:=rest) happ hold hcs q6
       obtain⟨ρ',p1,p2,p3,p4,_⟩:=f1.alloc (w':=w') (o:=.blk {c:=c',sz,n:=cap0+m,cap:=none,nil:=nil,mu:=true,bx:=false}) hH1 r2 r3.2 (fun ρ' H' hk hρ=>by
        refine⟨hsz',.inr ⟨w.heap.size,hρ,RelB.ofCells (app_nmap happ).2 ⟨(old++cells++rest).toArray,e,(0,0),push_new r2,by simp,by simpa using g1,fun i hi=>?_⟩ (fun _ h=>absurd (f1.frz _ h) (Nat.lt_irrefl _)) (fun e=>by cases e)⟩⟩
        obtain⟨z,z1,z2⟩:=relE_keep (fun b hb=>push_old r2 (f1.frz b hb)) (fun _ h=>h) hk g2 i hi
        exact⟨z,by simpa using z1,z2⟩)
       refine⟨_,w',F1,ρ',r4,?_⟩
       rw[updL_app]
       refine⟨p1,f2.trans p2,f3.trans p3,.full site (cap0+m) _ _ (upd_same _ _ _) (Nat.le_refl _) ⟨_,_,_,rfl⟩ (fun _=>.inr (.inr ⟨fun _=>by omega,w.heap.size,newCap,(old++cells++rest).toArray,e,(0,0),p4,push_new r2,rfl,r1,?_,(fun n e=>by cases e),rM⟩))⟩
       simp only[List.size_toArray,List.length_append,r3,q3,hold.1,hcsz]
       rw[← Nat.add_mul,← Nat.add_mul]
       exact Nat.mul_le_mul_right _ (by omega)
      cases hu with
      |imm _ _ hi=>
       cases hi with
       |imm _ _ _ b o cap' xs hF hcell hr ho hle hcap=>
        have:=hcap _ rfl;subst this
        refine go (some ⟨b,o,none⟩) ((List.range c.size).map xs) rfl ⟨by simp,fun j y hj=>?_⟩ (fun e=>by cases e) (fun b' hb j y hj=>?_)
        ·have hlt:j<c.size:=by have:=(List.getElem?_eq_some_iff.1 hj).1;simpa using this
         simp[hlt]at hj
         subst hj
         have h1:RelI w F1 (c.getV j) (xs j):=(hr j hlt).mono (fun _ _=>rfl) f2.keep
         refine⟨?_,ho j hlt⟩
         cases c<;>first|exact h1|exact h1.toV
        ·cases hb
         have hlt:j<c.size:=by have:=(List.getElem?_eq_some_iff.1 hj).1;simpa using this
         simp[hlt]at hj
         subst hj
         rw[addr_add];exact hcell j hlt
       |imm0 _ _ a0 hc0 hcap=>
        exact go a0 [] rfl ⟨by rw[hc0];rfl,fun j y h=>by simp at h⟩ (fun _=>rfl) (fun b hb j y h=>by simp at h)
     split at hD
     ·cases hD
      obtain⟨c0,c1,c2,c5,c3⟩:=hc
      obtain⟨c3,c4⟩:=c3.app
      have hcsz:c.size=len*sz:=by have:=c1;simp only[Cd.holds,mz_eq]at this;exact this
      exact grow _ _ c3 c4 hcsz (of_len' c2) (by simpa[Cd.holds,ltn]using c5) (hfresh site (by simp)) c0
     ·cases hD
      obtain⟨c0,c1,c2,c5,c3⟩:=hc
      obtain⟨c3,c4⟩:=c3.app
      have hlen0:len=0:=c0
      have hcap0:cap0=0:=c1
      have hcs0:c.size=0:=c2
      subst hlen0 hcap0
      have hbound:m*by_≤roomMax:=of_len' c5
      have hsite:H site=none:=hfresh site (by simp)
      by_cases hm0:0<m
      ·have:=grow none (.eqn 0 0:: .eqn 0 0:: .eqn c.size 0:: .b (len' (m*by_) roomMax)::(cs++cs')) c3 c4 (by rw[hcs0];simp) (by rw[Nat.zero_add];exact hbound) hm0 hsite rfl
       rw[Nat.zero_add]at this
       exact this
      ·have hm0:m=0:=by omega
       subst hm0
       obtain⟨a,cap,cells,q1,q2,q3,q4,q5,q6⟩:=key c3 c4
       subst q1
       have hlk:look site=none:=by
        cases e:look site with
        |none=>rfl
        |some o=>have:=hl _ _ e;rw[hsite]at this;cases this
       have hH1:updL H (frzW look ids) site=none:=by rw[f6 site hlk];exact hsite
       obtain⟨s1,s2,s3⟩:=app_spec (w:=w) (F:=F1) (ρ:=ρ) (H:=updL H (frzW look ids)) happ
       have hcl:cells=[]:=by simpa using q3
       subst hcl
       obtain⟨p1,p2,p3⟩:=f1.ghost (k:={c:=c',sz,n:=0,cap:=none,nil:=none,mu:=true,bx:=false}) hH1 rfl (by rw[s1,hcs0,q2];simp)
       have fin:∀base:Option Addr,x=.slice base 0 0→Eff G F ρ H w ((Builtin.append_ #[sT,xT] ty #[x,.slice a 0 cap]).run P w)
         {v:=.full site 0,ws:=frzW look ids++[(site,.blk {c:=c',sz,n:=0,cap:=none,nil:=none,mu:=true,bx:=false})],al:=[site],cs:=.eqn 0 0:: .eqn 0 0:: .eqn c.size 0:: .b (len' (0*by_) roomMax)::(cs++cs')}:=by
        intro base hxb
        subst hxb
        have hrun:=run_append_room (ty:=ty) (base:=base) (sLen:=0) (sCap:=0) hs hx hx' he (first (cap:=cap) q3 q4 q5 w rfl) (Nat.le_refl _)
        have hrun':(Builtin.append_ #[sT,xT] ty #[.slice base 0 0,.slice a 0 cap]).run P w=.ok (.slice base 0 0) w:=by
         rw[hrun]
         cases base<;>simp[storeCells]
        refine⟨_,w,F1,ρ,hrun',?_⟩
        rw[updL_app]
        refine⟨p1,f2.trans p2,f3.trans p3,.full site 0 _ _ (upd_same _ _ _) (Nat.le_refl _) ⟨_,_,_,rfl⟩ (fun _=>?_)⟩
        cases base with
        |none=>exact .inl ⟨rfl,by simp,(fun n e=>by cases e),rfl⟩
        |some b=>exact .inr (.inl ⟨rfl,by simp,(fun n e=>by cases e),b,rfl⟩)
       cases hu with
       |imm _ _ hi=>
        cases hi with
        |imm _ _ _ b o cap' xs hF hcell hr ho hle hcap=>
         have:=hcap _ rfl;subst this
         exact fin _ rfl
        |imm0 _ _ a0 hc0 hcap=>exact fin _ rfl
    ·cases hD
   ·cases hD
  ·cases hD
 ·cases hD

end
end Go.Ab
