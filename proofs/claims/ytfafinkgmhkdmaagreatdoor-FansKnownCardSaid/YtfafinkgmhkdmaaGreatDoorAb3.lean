/- An abstract reading of the program: what its operations do to what is known of memory. Part 3 of 7. -/
import Derived.Test.YtfafinkgmhkdmaaGreatDoorAb2
import Derived.Laws.BytesString
set_option linter.unusedVariables false
set_option linter.unusedSimpArgs false
namespace Go.Ab
open Go
section
variable {P:Program}{G:GL}{F:Nat->Prop}{ρ:Nat->Option Nat}{H:Nat->Option HO}{w:World}{look:Nat->Option HO}{D:Delta}{o:Oper}{ev:Operand->Value}{T:List (Nat×AV)}
theorem B3n {z c:Cont}{n:Nat}(h:B38 z n=some c):c.size=n/\∀x,RelE w F ρ H z 0 x->∀i,i<n->RelE w F ρ H c i x:=by
 unfold B38 at h;split at h
 ·cases h;refine⟨by simp[Cont.size],fun x hx i hi=>?_⟩;simp only[RelE,Cont.getV,List.getD_cons_zero]at hx ⊢;rw[List.getD_eq_getElem?_getD,List.getElem?_replicate,if_pos hi];exact hx
 ·cases h;refine⟨by simp[Cont.size],fun x hx i hi=>?_⟩;simp only[RelE,Cont.getV,List.getD_cons_zero]at hx ⊢;rw[List.getD_eq_getElem?_getD,List.getElem?_replicate,if_pos hi];exact hx
 ·cases h;refine⟨by simp[Cont.size],fun x hx i hi=>?_⟩;simp only[RelE,Cont.getV,List.getD_cons_zero]at hx ⊢;rw[List.getD_eq_getElem?_getD,List.getElem?_replicate,if_pos hi];exact hx
 ·cases h;refine⟨by simp[Cont.size],fun x hx i hi=>?_⟩;simp only[RelE,List.getD_cons_zero]at hx ⊢;rw[List.getD_eq_getElem?_getD,List.getElem?_replicate,if_pos hi];exact hx
 ·cases h
theorem B4t {n:Nat}(h:n<=140737488355328):inR .i64 (n:Int)=true:=by
 have h1:IntKind.i64.min= -9223372036854775808:=by decide
 have h2:IntKind.i64.max=9223372036854775807:=by decide
 simp only[inR,decide_eq_true_eq];omega
theorem RelIs.getI:∀{l:List AV} {xs:List Value},RelIs w F l xs->∀{j:Nat} {v:AV},l[j]? =some v->∃x,xs[j]? =some x/\RelI w F v x
 |_,_,.nil,j,v,h=>by simp at h
 |_,_,.cons u l y ys hv hs,j,v,h=>by
  cases j with
  |zero=>simp at h;subst h;exact⟨y,by simp,hv⟩
  |succ j=>obtain⟨x,h1,h2⟩:=hs.getI (by simpa using h);exact⟨x,by simpa using h1,h2⟩
theorem A6S {t e:TypeId}{i:TypeInfo}{z:Value}{k k':IntKind}{l c:Nat}(ht:P.underlying t=some (.slice e))(h1:P.info? e=some i)(hz:i.zero=some z)(hzs:z.cells.size=i.size)(hb:i.bytes≠0)
  (hlc:l<=c) (hcb:c*i.bytes<=A0Y):
  (Instr.makeSlice t (.int k l) (.int k' c)).run P w=((newRow e ((Array.range (c*i.size)).map (fun j=>z.cells[j%i.size]!))).run P w).andThen fun a w'=>.ok (.slice (some a) l c) w':=by
 have hcb:c*i.bytes<=140737488355328:=hcb;have hc:c<=140737488355328:=by
  have:c*1<=c*i.bytes:=Nat.mul_le_mul_left _ (Nat.pos_of_ne_zero hb);omega
 have wl:IntKind.i64.wrap (l:Int)=l:=A5b (B4t (by omega));have wc:IntKind.i64.wrap (c:Int)=c:=A5b (B4t hc);have hzv:(zeroValue e).run P w=.ok z w:=by simp[zeroValue,typeInfo,h1,hz]
 have hti:(typeInfo e).run P w=.ok i w:=by simp[typeInfo,h1]
 have hnot:¬ ((i.bytes:Int)*(c:Int)>2 ^ 48):=by
  have h:(i.bytes:Int)*(c:Int)=((c*i.bytes:Nat):Int):=by rw[Nat.mul_comm,Int.natCast_mul]
  rw[h];omega
 have hcond:(decide ((c:Int)<0)||decide ((i.bytes:Int)*(c:Int)>2 ^ 48))=false:=by
  rw[decide_eq_false hnot,decide_eq_false (by omega)];rfl
 have hai:∀(k:IntKind) (n:Nat),(asIntOf (.int k (n:Int))).run P w=.ok (k,(n:Int)) w:=fun _ _=>rfl;have hB:((decide ((c:Int)<0)||decide ((i.bytes:Int)*(c:Int)>2 ^ 48))||decide ((l:Int)<0)||decide ((l:Int)>c))=false:=by
  rw[hcond,decide_eq_false (by omega:¬ ((l:Int)<0)),decide_eq_false (by omega:¬ ((l:Int)>c))];rfl
 have hsz:(sizeOf e).run P w=.ok i.size w:=A0l h1;unfold Instr.makeSlice;rw[Sem.run_bind,A0b ht,Result.andThen_ok];simp only[asInt,Sem.run_bind,hai,Sem.run_pure,Result.andThen_ok,hti,wl,wc,hB,Bool.false_eq_true,if_false,run_askRoom,hsz,Int.toNat_natCast]
 by_cases h0:c*i.size=0
 ·rw[if_pos h0,h0];have e0:∀f:Nat->Value,(Array.range 0).map f= #[]:=fun f=>by simp
  simp only[Sem.run_bind,Sem.run_pure,Result.andThen_ok,e0,newRow,run_newObj]
 ·rw[if_neg h0];simp only[Sem.run_bind,hzv,Sem.run_pure,Result.andThen_ok,hzs]
theorem B3o {z c:Cont}{n:Nat}(h:B38 z n=some c):c.isMap=false:=by
 unfold B38 at h;split at h<;>cases h<;>rfl
theorem B3p (d:Dir)(z:List AV)(n:Nat)(hz:0<z.length):(B0Y d z n).size=n*z.length/\(B0Y d z n).isMap=false/\∀i x,i<n*z.length->RelI w F (z.getD (i%z.length) .undef) x->x.oneCell'=true->RelE w F ρ H (B0Y d z n) i x:=by
 have hg:∀i,i<n*z.length->(A3a z n).getD i .undef=z.getD (i%z.length) .undef:=fun i hi=>by
  have:=A8d z.toArray (by simpa using hz) n i (by simpa using hi)
  change (A3a z n)[i]? =some z.toArray[i%z.length]! at this
  have hlt:i%z.length<z.length:=Nat.mod_lt _ hz;simp only[List.getD_eq_getElem?_getD];rw[this];simp[hlt]
 unfold B0Y;cases B6B d z
 ·refine⟨by simp[Cont.size,A1z],rfl,fun i x hi hx h1=>⟨?_,h1⟩⟩;simp only[cond_false];rw[hg i hi];exact hx.toV
 ·refine⟨by simp[Cont.size,A1z],rfl,fun i x hi hx h1=>⟨?_,h1⟩⟩;simp only[cond_true,Cont.getV];rw[hg i hi];exact hx
theorem B6P {t:TypeId}{L C:Operand}(ho:o.op=.makeSlice t L C){x:XOp}(hx:B1a P t L C=some x)(hm:MRel G F ρ H w)(hev:A3h G F ρ H w T ev){site:Nat}{d:Dir}
  (hD:A0L site look x d (x.opds.map (Opd.ev G T))=some D) (hc:A0M (A1n P G) D.cs) (hfresh:∀i,i∈D.al->H i=none):A1k P o ev w (KD G F ρ H w D):=by
 unfold B1a at hx;split at hx
 ·rename_i e a b ht hL hC;split at hx
  ·rename_i sz by_ z hel;obtain⟨hEl,hz⟩:=A4s hel;obtain⟨i,v,h1,h2,h3,h4,h5,h6⟩:=A2n (w:=w) hz;obtain⟨i',v',q1,q2,q3,q4,q5⟩:=hEl.inf;rw[h1]at q1;cases q1;rw[h2]at q4;cases q4;cases hx;simp only[A0L,XOp.opds,List.map_cons,List.map_nil,x1,x2,List.getD_cons_zero,List.getD_cons_succ]at hD;unfold B89 at hD;split at hD
   ·rename_i kl l kc c e1 e2;split at hD
    ·rename_i zs hzs;cases hD;have hx:=hev _ _ hL;have hy:=hev _ _ hC;rw[e1]at hx;rw[e2]at hy;have hx:=hx.ints;have hy:=hy.ints;simp only[A0M,Cd.holds,leb,decide_eq_true_eq]at hc;obtain⟨c1,c2,c3,_⟩:=hc;obtain⟨n,rfl⟩:∃n:Nat,l=n:=⟨l.toNat,(Int.toNat_of_nonneg c1).symm⟩;obtain⟨m,rfl⟩:∃m:Nat,c=m:=⟨c.toNat,(Int.toNat_of_nonneg (by omega)).symm⟩;have hle:n<=m:=by omega
     have hroom:m*i.bytes<=A0Y:=by
      rw[q3];have:((m*by_:Nat):Int)<=((A0Y:Nat):Int):=by rw[Int.natCast_mul];exact c3
      exact Int.ofNat_le.1 this
     have hrun:(execOp ev o).run P w=((Instr.makeSlice t (ev L) (ev C)).run P w).andThen fun v w'=>.ok (.value v) w':=by
      unfold execOp;rw[ho];simp only[A0B]
     refine A1k.eff hrun ?_;rw[hx,hy,A6S ht h1 h2 h3 (by rw[q3];exact hEl.pos) hle hroom,q2];have hlen:z.length=sz:=by have:=(h5 w F).toVs (ρ:=ρ) (h:=H) |>.len;simp[q5]at this;exact this
     have hfs:H site=none:=hfresh site (by simp);have hget:∀j,j<sz->∃y,v.cells[j]! =y/\z[j]? =some (z.getD j .undef)/\RelI w F (z.getD j .undef) y/\y.oneCell'=true:=fun j hj=>by
      have hj':z[j]? =some (z.getD j .undef):=by simp[List.getD_eq_getElem?_getD,List.getElem?_eq_getElem (by omega:j<z.length)]
      obtain⟨y,p1,p2⟩:=(h5 w F).getI hj';have py:v.cells[j]! =y:=by
       have:v.cells[j]? =some y:=by simpa using p1
       simp only[getElem!_def,this]
      exact⟨y,py,hj',p2,h4 y (List.mem_of_getElem? p1)⟩
     have hcl:zs.size=n*sz/\zs.isMap=false/\∀j,j<n*sz->RelE w F ρ H zs j (v.cells[j%sz]!):=by
      simp only[Int.toNat_natCast]at hzs;split at hzs
      ·split at hzs
       ·rename_i zc hzc;obtain⟨k1,k2⟩:=A3J (w:=w) (F:=F) (ρ:=ρ) (H:=H) hzc;obtain⟨r1,r2⟩:=B3n (w:=w) (F:=F) (ρ:=ρ) (H:=H) hzs;simp only[mz]at r1 r2;obtain⟨y,p0,p1,p2,p3⟩:=hget 0 (by omega);refine⟨by rw[r1,Nat.mul_one],B3o hzs,fun j hj=>?_⟩;rw[Nat.mod_one,p0];have hE:=k2 0 y (by omega) p2.toV p3;exact r2 y hE j (by omega)
       ·cases hzs
      ·rw[cond_eq_ite]at hzs;split at hzs
       ·cases hzs;rcases Nat.eq_zero_or_pos sz with h0|h0
        ·have hz0:z=[]:=List.length_eq_zero_iff.1 (by omega);refine⟨?_,?_,fun j hj=>by simp[h0]at hj⟩
         ·rw[h0,hz0];unfold B0Y;cases B6B d []<;>simp[Cont.size,A1z]
         ·unfold B0Y;cases B6B d z<;>rfl
        ·obtain⟨r1,r2,r3⟩:=B3p (w:=w) (F:=F) (ρ:=ρ) (H:=H) d z n (by omega);rw[hlen]at r1 r3;refine⟨r1,r2,fun j hj=>?_⟩;obtain⟨y,p0,p1,p2,p3⟩:=hget (j%sz) (Nat.mod_lt _ h0);rw[p0];exact r3 j y hj p2 p3
       ·cases hzs
     obtain⟨r1,r2,r3⟩:=hcl;refine A5O hm hfs r2 r1 (by rw[r1];simp;exact Nat.mul_le_mul_right _ hle) (fun j hj=>?_) hle (by simp) (by
      have h1:m*1<=m*i.bytes:=Nat.mul_le_mul_left _ (by rw[q3];exact Nat.pos_of_ne_zero hEl.pos);have:A0Y<=A4K:=by decide
      omega)
     rw[r1]at hj;refine⟨v.cells[j%sz]!,?_,r3 j hj⟩;have hj':j<m*sz:=Nat.lt_of_lt_of_le hj (Nat.mul_le_mul_right _ hle);simp[hj']
    ·cases hD
   ·cases hD
  ·cases hx
 ·cases hx
end
section
variable {P:Program}{G:GL}{F:Nat->Prop}{ρ:Nat->Option Nat}{H:Nat->Option HO}{w:World}{look:Nat->Option HO}{D:Delta}{o:Oper}{ev:Operand->Value}{T:List (Nat×AV)}{Sp:SpT}
theorem A5f {k k':IntKind}(h:A2R k k'=true):k=k':=of_decide_eq_true h
theorem B3q (l:List Int):∀(acc:ByteArray),(l.foldl (fun r n=>r.push (UInt8.ofNat n.toNat)) acc).data.toList=acc.data.toList++B1U l:=by
 induction l with
 |nil=>intro acc;simp[B1U]
 |cons n r ih=>
  intro acc;rw[List.foldl_cons,ih];simp[B1U,ByteArray.push]
theorem A9I (hm:MRel G F ρ H w)(hl:∀id o,look id=some o->H id=some o){v:AV}{x:Value}(hx:RelV w F ρ H v x)(hD:A65 look v=some D)(hc:A0M Sp D.cs):A0q F ρ H w ((Conv.bytesToString x).run P w) D:=by
 unfold A65 at hD;split at hD
 ·cases hx with
  |imm _ _ hi=>
   cases hi;exact A0q.val (x:=.string .empty) hD (by simp[Conv.bytesToString]) (.imm _ _ (.str _ _ rfl))
 ·split at hD
  ·rename_i k l m cs hs;rw[cond_eq_ite]at hD;split at hD
   ·rename_i hk;have hk:=A5f hk;subst hk;have hcs:=A0v hD;rw[hcs]at hc;obtain⟨a,cap,cells,e1,e2,e3,e4,e5,e6⟩:=A3f hm hl hs hc hx;have hlen:cells.length=l.length:=by rw[e3,<- e2];rfl
    have hcells:cells=l.map (Value.int .u8):=by
     apply List.ext_getElem
     ·simpa using hlen
     ·intro i h1 h2;have h3:=(e6 i cells[i] (List.getElem?_eq_getElem h1)).1;have h4:i<l.length:=by omega
      simp only[Cont.getV]at h3;rw[List.getD_eq_getElem?_getD,List.getElem?_eq_getElem h4,Option.getD_some]at h3;have h5:cells[i]=Value.int .u8 l[i]:=by
       generalize cells[i]=y at h3;cases h3;rfl
      simp[h5]
    subst e1;cases a with
    |none=>
     have hm0:=e4 rfl;subst hm0;have:l=[]:=by
      have:l.length=0:=by rw[<- hlen,e3]
      exact List.length_eq_zero_iff.1 this
     subst this;exact A0q.val (x:=.string .empty) hD (by simp[Conv.bytesToString]) (.imm _ _ (.str _ _ rfl))
    |some b=>
     have hrun:(loadCells b m).run P w=.ok (l.map (Value.int .u8)).toArray w:=by
      have:=run_loadCells_list (P:=P) (w:=w) b cells (e5 b rfl);rw[e3,Nat.mul_one]at this;rw[this,hcells]
     refine A0q.val hD (run_bytesToString w b m cap l hrun) (.imm _ _ (.str _ _ ?_));rw[B3q];simp
   ·cases hD
  ·cases hD
theorem B4u {src dst:TypeId}{X:Operand}(ho:o.op=.convert src dst X){x:XOp}(hx:A8q P src dst X=some x)(hm:MRel G F ρ H w)(hl:∀id o,look id=some o->H id=some o)(hev:A3h G F ρ H w T ev){site:Nat}{d:Dir}
  (hD:A0L site look x d (x.opds.map (Opd.ev G T))=some D) (hc:A0M (A1n P G) D.cs):A1k P o ev w (KD G F ρ H w D):=by
 unfold A8q at hx;split at hx
 ·rename_i e a h1 h2 hX;split at hx
  ·rename_i h3;cases hx;refine A1k.eff (r:=(convert src dst (ev X)).run P w) ?_ ?_
   ·unfold execOp;rw[ho];simp only[A0B]
   ·have hv:=hev _ _ hX;have hD:A65 look (a.ev G T)=some D:=hD;have hcv:∀y:Value,(∃b l c,y=.slice b l c)->(convert src dst y).run P w=(Conv.bytesToString y).run P w:=by
     rintro y ⟨b,l,c,rfl⟩;simp only[convert,Sem.run_bind,underlying,run_program,Result.andThen_ok,h1,h2,h3,Sem.run_pure]
    have hsl:∃b l c,ev X=.slice b l c:=by
     unfold A65 at hD;split at hD
     ·rename_i e1;rw[e1]at hv;generalize ev X=y at hv;cases hv with
      |imm _ _ hi=>cases hi;exact⟨_,_,_,rfl⟩
     ·split at hD
      ·rename_i k l m cs hs;rw[cond_eq_ite]at hD;split at hD
       ·have hcs:=A0v hD;rw[hcs]at hc;obtain⟨b,cap,cells,e1,_⟩:=A3f hm hl hs hc hv;exact⟨_,_,_,e1⟩
       ·cases hD
      ·cases hD
    rw[hcv _ hsl];exact(A9I hm hl hv hD hc).eff hm
  ·cases hx
 ·rename_i k a h1 h2 hX;cases hx;refine A1k.eff (r:=(convert src dst (ev X)).run P w) ?_ ?_
  ·unfold execOp;rw[ho];simp only[A0B]
  ·have hv:=hev _ _ hX;have hD:B1V (a.ev G T)=some D:=hD;unfold B1V at hD;split at hD
   ·rename_i k' n e1;rw[e1]at hv;have hi:=hv.ints;rw[hi];refine Eff.val hm hD (x:=.string (Utf8.encode n)) ?_ (.imm _ _ (.str _ _ rfl));simp only[convert,Sem.run_bind,underlying,run_program,Result.andThen_ok,h1,h2,Sem.run_pure,Conv.intToString]
   ·cases hD
 ·cases hx
theorem B6Q {t:TypeId}{X:Operand}(ho:o.op=.range t X){a:Opd}(hX:A0x X=some a)(ht:P.underlying t=some .string)(hm:MRel G F ρ H w)(hev:A3h G F ρ H w T ev){site:Nat}{d:Dir}
  (hD:A0L site look (.rng a) d [a.ev G T]=some D) (hfresh:∀i,i∈D.al->H i=none):A1k P o ev w (KD G F ρ H w D):=by
 have hv:=hev _ _ hX;have hD:B6D site (a.ev G T)=some D:=hD;unfold B6D at hD;split at hD
 ·rename_i s e1;cases hD;rw[e1]at hv;obtain⟨bs,hbs,hs⟩:=hv.strs;have hrun:(execOp ev o).run P w=(Result.ok (Value.pointer (some ⟨w.heap.size,0,none⟩)) {w with heap:=w.heap.push (.stringIter bs 0)}).andThen fun v w'=>.ok (.value v) w':=by
   unfold execOp;rw[ho];simp only[A0B,Instr.range,Sem.run_bind,underlying,run_program,Result.andThen_ok,ht,hbs,Sem.run_pure,run_newObj]
  obtain⟨ρ',m1,x1,k1,h1,h2⟩:=hm.alloc (w':={w with heap:=w.heap.push (.stringIter bs 0)}) (site:=site) (o:=.iter s 0) (hfresh site (by simp)) rfl ⟨rfl,rfl,fun _=>⟨rfl,Nat.le_refl _⟩⟩ (fun ρ' H' hk hsite=>
   ⟨w.heap.size,hsite,fun hF=>by have:=hm.frz _ hF;omega,bs,hs,A1m rfl⟩)
  exact A1k.eff hrun ⟨_,_,F,ρ',rfl,m1,x1,k1,.ptr site 0 w.heap.size (.iter s 0) h1 (A0e _ _ _) rfl⟩
 ·cases hD
theorem B6R {X:Operand}(ho:o.op=.next X true){a:Opd}(hX:A0x X=some a)(hm:MRel G F ρ H w)(hl:∀id o,look id=some o->H id=some o)(hev:A3h G F ρ H w T ev){site:Nat}{d:Dir}
  (hD:A0L site look (.nxt a) d [a.ev G T]=some D) (hc:A0M (A1n P G) D.cs):A1k P o ev w (KD G F ρ H w D):=by
 have hv:=hev _ _ hX;have hD:B6E look d (a.ev G T)=some D:=hD;unfold B6E at hD;split at hD
 ·rename_i id e1;split at hD
  ·rename_i s pos hlk;have hH:=hl _ _ hlk;obtain⟨b,z1,z2,bs,z3,z4⟩:=hm.heap id _ hH;rw[e1]at hv;generalize hy:ev X=y at hv;have hptr:y=.pointer (some ⟨b,0,none⟩):=by
    cases hv with
    |imm _ _ hi=>cases hi
    |ptr _ _ b' _ hb _ _=>rw[z1]at hb;cases hb;rfl
   subst hptr;have hbs:bs=⟨s.toArray⟩:=by cases bs;simp at z3;subst z3;simp
   have hsz:bs.size=s.length:=by rw[hbs];simp[ByteArray.size]
   have hlt:=A0D z4;have more:pos<s.length->A1k P o ev w (KD G F ρ H w {v:=C6C s pos,ws:=[(id,.iter s (C1U s pos))],al:=[],cs:=D.cs}):=by
    intro hp;have hrun:(execOp ev o).run P w=(Result.ok (Value.tuple #[.bool true,.int .i64 pos,.int .i32 (Utf8.decode bs pos).1]) {w with heap:=w.heap.setIfInBounds b (.stringIter bs (pos+(Utf8.decode bs pos).2))}).andThen fun v w'=>.ok (.value v) w':=by
     unfold execOp;rw[ho];simp only[A0B,hy,Instr.next,Sem.run_bind];simp[getObj,setObj,Sem.run,z4,hsz,hp,goInt]
    obtain⟨m1,x1,k1⟩:=hm.write (w':={w with heap:=w.heap.setIfInBounds b (.stringIter bs (pos+(Utf8.decode bs pos).2))}) (o':=.iter s (C1U s pos)) hH z1 z2 (ob:=.stringIter bs (pos+(Utf8.decode bs pos).2))
     (by simp[hlt]) (fun j hj=>by simp[Array.getElem?_setIfInBounds_ne (Ne.symm hj)]) (by simp) ⟨rfl,rfl,fun _=>⟨rfl,Nat.le_refl _⟩⟩ (fun cs ty fz h=>by rw[z4]at h;cases h) rfl (fun k h=>by cases h)
     (fun hk=>⟨b,z1,z2,bs,z3,by simp[hlt,C1U,hbs]⟩)
    refine A1k.eff hrun ⟨_,_,F,ρ,rfl,m1,x1,k1,?_⟩;rw[hbs];exact .imm _ _ (.tup _ _ (.cons _ _ _ _ (.bool _) (.cons _ _ _ _ (.int _ _) (.cons _ _ _ _ (.int _ _) .nil))))
   have over:¬ pos<s.length->A1k P o ev w (KD G F ρ H w {v:=.tup [.bool false],ws:=[],al:=[],cs:=D.cs}):=by
    intro hp;have hrun:(execOp ev o).run P w=(Result.ok (Value.tuple #[.bool false]) w).andThen fun v w'=>.ok (.value v) w':=by
     unfold execOp;rw[ho];simp only[A0B,hy,Instr.next,Sem.run_bind];simp[getObj,Sem.run,z4,hsz,hp]
    exact A1k.eff hrun (Eff.pure hm rfl rfl (.imm _ _ (.tup _ _ (.cons _ _ _ _ (.bool _) .nil))))
   split at hD
   ·rw[cond_eq_ite]at hD;split at hD
    ·rename_i h;cases hD;exact more (by simpa[ltn]using h)
    ·rename_i h;cases hD;exact over (by simpa[ltn]using h)
   ·cases hD;have:=hc.1;exact over (by simpa[Cd.holds,ltn]using this)
   ·cases hD;have:=hc.1;exact more (by simpa[Cd.holds,ltn]using this)
  ·cases hD
 ·cases hD
theorem A41 {sT xT e ty:TypeId}{sz by_:Nat}(hs:P.underlying sT=some (.slice e)){kx:IntKind}(hx:P.underlying xT=some (.int kx))(he:ElOk P e sz by_){k:IntKind}{n:Nat}(hn:0<n)(hb:n*by_<=A0Y):
  ∃(newCap:Nat) (cells:Array Value) (w':World),(n<=newCap/\newCap<=A4K)/\w'.heap=w.heap.push (.cells cells e)/\cells.size=newCap*sz/\IoEq G w w'/\
   (Builtin.append_ #[sT,xT] ty #[.slice none 0 0,.int k (n:Int)]).run P w=.ok (.slice (some ⟨w.heap.size,0,none⟩) n newCap) w':=by
 have hb:n*by_<=140737488355328:=hb;obtain⟨i,z,h1,h2,h3,h4,h5⟩:=he.inf;have hpos:i.bytes≠0:=by rw[h3];exact he.pos
 have hfit:Builtin.nextslicecap (0+n) 0*i.bytes<=281474976710656:=growslice_fits (by omega) (by rw[h3];simpa using hb);have hneed:n<=140737488355328:=by
  have:n*1<=n*by_:=Nat.mul_le_mul_left _ (Nat.pos_of_ne_zero he.pos);omega
 let q:Question:=.appendCap (0+n) 0 e
 let newCap:=q.cut (w.tape w.drawn q)
 have hnew:0+n<=newCap:=Nat.le_add_right _ _;have hnew':n<=newCap:=by omega
 have hmaxc:newCap<=A4K:=by
  show 0+n+_%(2 ^ 63-(0+n))<=9223372036854775807;have:=Nat.mod_lt (w.tape w.drawn q) (show 2 ^ 63-(0+n)>0 by omega);omega
 have hwrap:IntKind.i64.wrap (n:Int)=(n:Int):=A5b (B4t hneed);have hti:∀w:World,(typeInfo e).run P w=.ok i w:=fun w=>by simp[typeInfo,h1]
 have hzv:∀w:World,(zeroValue e).run P w=.ok z w:=fun w=>by simp[zeroValue,typeInfo,h1,h4]
 have hch:(choose q).run P w=.ok newCap {w with drawn:=w.drawn+1}:=by
  simp only[choose,Sem.run,q,Question.forced];rfl
 have hai:∀w:World,(asIntOf (.int k (n:Int))).run P w=.ok (k,(n:Int)) w:=fun _=>rfl;have hnot:¬ ((n:Int)*(i.bytes:Int)>2 ^ 48):=by
  have h:(n:Int)*(i.bytes:Int)=((n*i.bytes:Nat):Int):=by rw[Int.natCast_mul]
  rw[h,h3];omega
 have hmax:¬ ((0+n:Nat):Int)>IntKind.i64.max:=by
  have:IntKind.i64.max=9223372036854775807:=by decide
  omega
 have hroom:¬ 0+n<=0:=by omega
 have hfit':¬ (Builtin.nextslicecap (0+n) 0*i.bytes>2 ^ 48):=by omega
 have hneg:¬ (n:Int)<0:=by omega
 have happ:∀w':World,((if n*sz=0 then pure #[]else do pure (Builtin.zeroCells (<- zeroValue e).cells n):Sem (Array Value))).run P w'=.ok (Builtin.zeroCells z.cells n) w':=fun w'=>by
  by_cases h0:n*sz=0
  ·rw[if_pos h0];have:Builtin.zeroCells z.cells n= #[]:=by
    simp[Builtin.zeroCells,h5,h0]
   rw[this];rfl
  ·rw[if_neg h0];simp only[Sem.run_bind,hzv,Sem.run_pure,Result.andThen_ok]
 refine⟨newCap,Builtin.zeroCells z.cells n++Builtin.zeroCells z.cells (newCap-(0+n)),{w with heap:=w.heap.push (.cells (Builtin.zeroCells z.cells n++Builtin.zeroCells z.cells (newCap-(0+n))) e),drawn:=w.drawn+1},⟨hnew',hmaxc⟩,rfl,?_,⟨rfl,rfl,fun _=>⟨rfl,Nat.le_succ _⟩⟩,?_⟩
 ·simp only[Array.size_append,Builtin.zeroCells,Array.size_map,Array.size_range,h5];rw[<- Nat.add_mul];congr 1;omega
 unfold Builtin.append_;simp only[List.getElem?_toArray,List.getElem?_cons_zero,List.getElem?_cons_succ];simp only[Sem.run_bind,A0b hs,Result.andThen_ok,A0l h1,A0b hx,Sem.run_pure,if_true,asInt,hai,hwrap,hneg,if_false,hti,hnot,Int.toNat_natCast,hroom,h2];rw[if_neg (fun h=>hmax h.1)];simp only[Sem.run_bind,hti,Result.andThen_ok,hfit',if_false];rw[show(choose (.appendCap (0+n) 0 e))=choose q from rfl,hch];simp only[Result.andThen_ok,hti,run_askRoom,Builtin.firstCells,Sem.run_pure,Bool.not_true,Bool.false_eq_true,if_false,happ,hzv,newRow,Sem.run_bind,run_newObj];simp[newCap]
theorem A8w (hm:MRel G F ρ H w)(hfresh:∀i,i∈D.al->H i=none){site sz by_ tk:Nat}{u v:AV}{x y:Value}{sT xT e ty:TypeId}
  (hs:P.underlying sT=some (.slice e)) {kx:IntKind} (hx:P.underlying xT=some (.int kx)) (he:ElOk P e sz by_)
  (hu:RelV w F ρ H u x) (hv:RelV w F ρ H v y) (hD:A7R site sz by_ tk u v=some D) (hc:A0M Sp D.cs):
  Eff G F ρ H w ((Builtin.append_ #[sT,xT] ty #[x,y]).run P w) D:=by
 unfold A7R at hD;split at hD
 ·rename_i k n;cases hD;have:=hv.ints;subst this;obtain⟨c1,c2,_⟩:=hc;have c1:0<n:=by simpa[Cd.holds,ltb]using c1
  obtain⟨m,rfl⟩:∃m:Nat,n=m:=⟨n.toNat,(Int.toNat_of_nonneg (by omega)).symm⟩;have c2:m*by_<=A0Y:=by
   have h:(m:Int)*(by_:Int)<=((A0Y:Nat):Int):=of_decide_eq_true c2;have:((m*by_:Nat):Int)<=((A0Y:Nat):Int):=by rw[Int.natCast_mul];exact h
   exact Int.ofNat_le.1 this
  cases hu with
  |imm _ _ hi=>
   cases hi;obtain⟨newCap,cells,w',⟨r1,rM⟩,r2,r3,r4,r5⟩:=A41 (G:=G) (P:=P) (w:=w) (ty:=ty) (k:=k) hs hx he (by omega:0<m) c2;obtain⟨ρ',h1,h2,h3,h4,h5⟩:=hm.alloc (w':=w') (site:=site) (o:=.blk {c:=A2S tk,sz,n:=0,cap:=none,nil:=some false,mu:=true,bx:=false}) (hfresh site (by simp)) r2 r4 (fun ρ' H' hk hρ=>by
    refine⟨by rw[A12];simp,.inr ⟨w.heap.size,hρ,RelB.ofCells (A9x tk) ⟨cells,e,(0,0),A1m r2,by simp,by show(A2S tk).size<=_;rw[A12];omega,fun i hi=>?_⟩ (fun _ h=>absurd (hm.frz _ h) (Nat.lt_irrefl _)) (fun e=>by cases e)⟩⟩;have:i<(A2S tk).size:=hi;rw[A12]at this;omega)
   exact⟨_,_,F,ρ',r5,h1,h2,h3,.spare site _ _ _ (.full site 0 _ _ (A0e _ _ _) (Nat.le_refl _) ⟨_,_,_,rfl⟩ (fun _=>.inr (.inr ⟨(fun e=>by cases e),w.heap.size,newCap,cells,e,(0,0),h4,A1m r2,rfl,Nat.zero_le _,by show newCap*sz<=_;omega,(fun n e=>by cases e),rM⟩)))⟩
 ·cases hD
end
theorem A3i {w:World}{F:Nat->Prop}(l:List Int):∀(ks:List (Option IntKind)) (i:Nat),RelIs w F (A2h l i ks) (A1f l i ks)
 |[],i=>.nil
 |some k::r,i=>.cons _ _ _ _ (.int _ _) (A3i l r (i+1))
 |none::r,i=>.cons _ _ _ _ (.bool _) (A3i l r (i+1))
theorem MV.rel {w:World}{F:Nat->Prop}(m:MV)(l:List Int):RelI w F (m.av l) (m.vl l):=by
 obtain⟨agg,ks⟩:=m;cases agg with
 |true=>exact .agg _ _ (by simpa using A3i l ks 0)
 |false=>
  match ks with
  |[]=>exact .undef _
  |[some k]=>exact .int _ _
  |[none]=>exact .bool _
  |_::_::_=>exact .undef _
theorem B2c {a b:MV}(h:A9g a b=true):a=b:=by
 unfold A9g at h;simp only[Bool.and_eq_true,beq_iff_eq,decide_eq_true_eq]at h;cases a;cases b;simp only at h;rw[h.1,h.2]
theorem B4v {w:World}{F:Nat->Prop}{ρ:Nat->Option Nat}{H:Nat->Option HO}{k:Option IntKind}{v:AV}{n:Int}{x:Value}(h:C5x k v=some n)(hr:RelV w F ρ H v x):x=A2J k n:=by
 unfold C5x at h;split at h
 ·rw[cond_eq_ite]at h;split at h
  ·rename_i hk;cases A5f hk;cases h;exact hr.ints
  ·cases h
 ·cases h;rename_i b;rw[hr.bools];cases b<;>rfl
 ·cases h
theorem B2d {w:World}{F:Nat->Prop}{ρ:Nat->Option Nat}{H:Nat->Option HO}:∀{ks:List (Option IntKind)} {l:List AV} {ns:List Int} {xs:List Value} (pre:List Int),B6G ks l=some ns->RelVs w F ρ H l xs->ns.length=ks.length/\xs=A1f (pre++ns) pre.length ks
 |[],[],ns,xs,pre,h,hr=>by cases h;cases hr;exact⟨rfl,rfl⟩
 |k::ks,v::l,ns,xs,pre,h,hr=>by
  simp only[B6G]at h;split at h
  ·rename_i n ms h1 h2;cases h;cases hr with
   |cons _ _ x ys hx hs=>
    obtain⟨e1,e2⟩:=B2d (pre++[n]) h2 hs;refine⟨by simp[e1],?_⟩;have hx:=B4v h1 hx;rw[hx,e2];simp[A1f]
  ·cases h
 |[],_::_,ns,xs,pre,h,hr=>by cases h
 |_::_,[],ns,xs,pre,h,hr=>by cases h
theorem MV.rd_ok {w:World}{F:Nat->Prop}{ρ:Nat->Option Nat}{H:Nat->Option HO}{m:MV}{v:AV}{l:List Int}{x:Value}(h:m.rd v=some l)(hr:RelV w F ρ H v x):x=m.vl l/\l.length=m.ks.length:=by
 unfold MV.rd at h;split at h
 ·rename_i ha;split at h
  ·rename_i l';obtain⟨xs,rfl,hs⟩:=hr.aggs;obtain⟨e1,e2⟩:=B2d [] h hs;refine⟨?_,e1⟩;unfold MV.vl;rw[ha];simp only[List.nil_append,List.length_nil]at e2;rw[<- e2]
  ·cases h
 ·rename_i ha;split at h
  ·rename_i k hk;split at h
   ·rename_i n hn;cases h;refine⟨?_,by rw[hk];rfl⟩;unfold MV.vl;rw[ha,hk];exact B4v hn hr
   ·cases h
  ·cases h
theorem A9J {k:Option IntKind}{x:Value}(h:B19 k x=true):x=A2J k 0:=by
 unfold B19 at h;split at h
 ·simp only[Bool.and_eq_true,decide_eq_true_eq]at h;cases A5f h.1;rw[h.2];rfl
 ·rename_i b;cases b
  ·rfl
  ·cases h
 ·cases h
theorem A7g:∀{ks:List (Option IntKind)} {xs:List Value} (i:Nat),A8n ks xs=true->xs=A1f [] i ks
 |[],[],_,_=>rfl
 |k::ks,x::xs,i,h=>by
  simp only[A8n,Bool.and_eq_true]at h;rw[A9J h.1,A7g (i+1) h.2];simp[A1f]
 |[],_::_,_,h=>by cases h
 |_::_,[],_,h=>by cases h
theorem B4w {m:MV}{x:Value}(h:B4l m x=true):x=m.vl []:=by
 unfold B4l at h;unfold MV.vl;split at h
 ·rename_i ha;rw[ha];split at h
  ·rename_i xs;have:=A7g 0 h;simp only;rw[<- this]
  ·cases h
 ·rename_i ha;rw[ha];split at h
  ·rename_i k hk;rw[hk];exact A9J h
  ·cases h
section
variable {P:Program}{G:GL}{F:Nat->Prop}{ρ:Nat->Option Nat}{H:Nat->Option HO}{w:World}{look:Nat->Option HO}{Sp:SpT}{D:Delta}
theorem B1f {t:TypeId}{k:Option IntKind}(h:intK P t=some k):∃d i,P.underlying t=some d/\P.info? t=some i/\i.size=1/\(d=.bool\/∃kk,d=.int kk):=by
 unfold intK at h;split at h
 ·rename_i kk i h1 h2;rw[cond_eq_ite]at h;split at h
  ·rename_i hs;exact⟨_,i,h1,h2,Nat.eq_of_beq_eq_true hs,.inr ⟨kk,rfl⟩⟩
  ·cases h
 ·rename_i i h1 h2;rw[cond_eq_ite]at h;split at h
  ·rename_i hs;exact⟨_,i,h1,h2,Nat.eq_of_beq_eq_true hs,.inl rfl⟩
  ·cases h
 ·cases h
theorem A1H (e:Bool)(n:Nat){t:TypeId}{k:Option IntKind}(h:intK P t=some k)(x:Int):(Instr.checkKey e (n+1) t (A2J k x)).run P w=.ok () w:=by
 obtain⟨d,i,h1,h2,h3,h4⟩:=B1f h;unfold Instr.checkKey;simp only[Sem.run_bind,A0b h1,Result.andThen_ok];rcases h4 with rfl|⟨kk,rfl⟩<;>cases k<;>simp[A2J]
theorem A4S {t:TypeId}{k:Option IntKind}(h:intK P t=some k){xs:Array Value}{off:Nat}{x:Value}(hx:xs[off]? =some x):(part t xs off).run P w=.ok x w:=by
 obtain⟨d,i,h1,h2,h3,h4⟩:=B1f h;have:(isAgg t).run P w=.ok false w:=by
  simp only[isAgg,Sem.run_bind,A0b h1,Result.andThen_ok];rcases h4 with rfl|⟨kk,rfl⟩<;>rfl
 simp only[part,Sem.run_bind,this,Result.andThen_ok,Bool.false_eq_true,if_false,hx,Sem.run_pure]
theorem A3K (l:List Int):∀(ks:List (Option IntKind)) (i j:Nat) (k:Option IntKind),ks[j]? =some k->(A1f l i ks)[j]? =some (A2J k (l.getD (i+j) 0))
 |[],i,j,k,h=>by simp at h
 |k0::ks,i,0,k,h=>by simp at h;subst h;rfl
 |k0::ks,i,j+1,k,h=>by
  have:=A3K l ks (i+1) j k (by simpa using h);simp only[A1f,List.getElem?_cons_succ];rw[this,show i+1+j=i+(j+1)by omega]
theorem A2o (l:List Int):∀(ks:List (Option IntKind)) (i:Nat),(A1f l i ks).length=ks.length
 |[],i=>rfl
 |k::ks,i=>by simp[A1f,A2o l ks (i+1)]
theorem A23 (e:Bool)(n:Nat){xs:Array Value}:∀(fs:List Field) (i:Nat) (l:List (Option IntKind)),A8l P i fs=some l->(∀j k,l[j]? =some k->∃x,xs[i+j]? =some (A2J k x))->
  (forIn fs PUnit.unit fun(f:Field) (_:PUnit)=>(do
   if f.name≠"_" then Instr.checkKey e (n+1) f.type (<- part f.type xs f.offset)
   pure (ForInStep.yield PUnit.unit):Sem (ForInStep PUnit))).run P w=.ok PUnit.unit w
 |[],i,l,h,hx=>by simp
 |f::fs,i,l,h,hx=>by
  simp only[A8l]at h;split at h
  ·rename_i k l' h1 h2;rw[cond_eq_ite]at h;split at h
   ·rename_i ho;cases h;have ho:=Nat.eq_of_beq_eq_true ho;obtain⟨x,h0⟩:=hx 0 k rfl;have ih:=A23 e n fs (i+1) l' h2 (fun j k hj=>by
     obtain⟨x,hx⟩:=hx (j+1) k hj;exact⟨x,by rw[show i+1+j=i+(j+1)by omega];exact hx⟩)
    rw[List.forIn_cons];simp only[Sem.run_bind,Sem.run_ite]
    by_cases hn:f.name≠"_"
    ·rw[if_pos hn];rw[Nat.add_zero]at h0;rw[A4S h1 (by rw[ho];exact h0),Result.andThen_ok,A1H e n h1 x,Result.andThen_ok];simp only[Sem.run_pure,Result.andThen_ok];exact ih
    ·rw[if_neg hn];simp only[Sem.run_pure,Result.andThen_ok];exact ih
   ·cases h
  ·cases h
theorem A3j (e:Bool)(n:Nat){t:TypeId}{k:Option IntKind}{sz:Nat}(hk:intK P t=some k)(hsz:sz=1){xs:Array Value}:∀(is:List Nat),(∀i∈is,∃x,xs[i]? =some (A2J k x))->
  (forIn is PUnit.unit fun(i:Nat) (_:PUnit)=>(do
   Instr.checkKey e (n+1) t (<- part t xs (i*(<- sizeOf t)))
   pure (ForInStep.yield PUnit.unit):Sem (ForInStep PUnit))).run P w=.ok PUnit.unit w
 |[],h=>by simp
 |i::is,h=>by
  obtain⟨d,inf,h1,h2,h3,h4⟩:=B1f hk;obtain⟨x,hx⟩:=h i (by simp);have ih:=A3j e n hk hsz is (fun j hj=>h j (List.mem_cons_of_mem _ hj));rw[List.forIn_cons];simp only[Sem.run_bind];rw[A0l h2,Result.andThen_ok,h3,Nat.mul_one,A4S hk hx,Result.andThen_ok,A1H e n hk x,Result.andThen_ok];simp only[Sem.run_pure,Result.andThen_ok];exact ih
theorem A3k {t:TypeId}{m:MV}(h:A8m P t=some m)(e:Bool)(n:Nat)(l:List Int):(Instr.checkKey e (n+2) t (m.vl l)).run P w=.ok () w:=by
 unfold A8m at h;split at h
 ·split at h
  ·rename_i k hk;cases h;exact A1H e (n+1) hk _
  ·cases h
 ·split at h
  ·rename_i k hk;cases h;exact A1H e (n+1) hk _
  ·cases h
 ·rename_i fs hd;split at h
  ·rename_i ks hks;cases h;unfold Instr.checkKey;simp only[Sem.run_bind,A0b hd,Result.andThen_ok,MV.vl];have:=A23 (w:=w) e n fs.toList 0 ks hks (xs:=(A1f l 0 ks).toArray) (fun j k hj=>⟨_,by
    rw[Nat.zero_add];simpa using A3K l ks 0 j k hj⟩)
   rw[<- Array.forIn_toList];simp only[Sem.run_bind]at this ⊢;rw[this];rfl
  ·cases h
 ·rename_i len el hd;split at h
  ·rename_i k hk;cases h;unfold Instr.checkKey;simp only[Sem.run_bind,A0b hd,Result.andThen_ok,MV.vl];have:=A3j (w:=w) (sz:=1) e n hk rfl (xs:=(A1f l 0 (List.replicate len k)).toArray) (List.range' 0 len) (fun i hi=>⟨_,by
    have hlt:i<len:=by simpa using hi
    simpa using A3K l (List.replicate len k) 0 i k (by simp[hlt])⟩)
   rw[Std.Legacy.Range.forIn_eq_forIn_range'];simp only[Sem.run_bind]at this ⊢;simp at this ⊢;rw[this];rfl
  ·cases h
 ·cases h
theorem A7h:∀{ks:List (Option IntKind)},A9F ks=true->∀j:Nat,j<ks.length->∃k,ks[j]? =some (some k)
 |[],_,j,h=>by simp at h
 |some k::ks,h,0,_=>⟨k,rfl⟩
 |some k::ks,h,j+1,hj=>by
  have:=A7h (ks:=ks) h j (by simpa using hj);simpa using this
 |none::ks,h,j,_=>by cases h
theorem A4w (l:List Int):∀(ks:List (Option IntKind)) (i j:Nat) (k:Option IntKind),ks[j]? =some k->(A2h l i ks)[j]? =some (B6F k (l.getD (i+j) 0))
 |[],i,j,k,h=>by simp at h
 |k0::ks,i,0,k,h=>by simp at h;subst h;rfl
 |k0::ks,i,j+1,k,h=>by
  have:=A4w l ks (i+1) j k (by simpa using h);simp only[A2h,List.getElem?_cons_succ];rw[this,show i+1+j=i+(j+1)by omega]
theorem A35 {ks:List (Option IntKind)}(hk:A9F ks=true){a b:List Int}(ha:a.length=ks.length)(hb:b.length=ks.length):
  ∀(n i:Nat),i+n=ks.length->A1b ((List.range' i n).map fun j=>(j,0)) (A2h a 0 ks) (A2h b 0 ks)=some (decide (a.drop i=b.drop i))
 |0,i,h=>by
  have e1:a.drop i=[]:=List.drop_of_length_le (by omega);have e2:b.drop i=[]:=List.drop_of_length_le (by omega);rw[e1,e2];rfl
 |n+1,i,h=>by
  have ih:=A35 hk ha hb n (i+1) (by omega);obtain⟨kd,hkd⟩:=A7h hk i (by omega);have g1:=A4w a ks 0 i (some kd) hkd;have g2:=A4w b ks 0 i (some kd) hkd;rw[Nat.zero_add]at g1 g2;have hleaf:A5z 0 ((A2h a 0 ks).getD i .undef) ((A2h b 0 ks).getD i .undef)=some (a.getD i 0==b.getD i 0):=by
   rw[List.getD_eq_getElem?_getD,List.getD_eq_getElem?_getD,g1,g2];simp only[Option.getD_some,B6F,A5z,cond_eq_ite];rw[if_pos (by simp[A2R])]
  have hda:a.drop i=a.getD i 0::a.drop (i+1):=by
   rw[List.drop_eq_getElem_cons (by omega:i<a.length)];simp[List.getD_eq_getElem?_getD,List.getElem?_eq_getElem (by omega:i<a.length)]
  have hdb:b.drop i=b.getD i 0::b.drop (i+1):=by
   rw[List.drop_eq_getElem_cons (by omega:i<b.length)];simp[List.getD_eq_getElem?_getD,List.getElem?_eq_getElem (by omega:i<b.length)]
  rw[List.range'_succ,List.map_cons];have key:some ((a.getD i 0==b.getD i 0)&&decide (a.drop (i+1)=b.drop (i+1)))=some (decide (a.drop i=b.drop i)):=by
   rw[hda,hdb]
   congr 1
   rw[Bool.eq_iff_iff];simp
  rw[<- key];cases n with
  |zero=>
   have e1:a.drop (i+1)=[]:=List.drop_of_length_le (by omega);have e2:b.drop (i+1)=[]:=List.drop_of_length_le (by omega);show A1b [(i,0)] _ _=_;simp only[A1b];rw[hleaf,e1,e2];simp
  |succ n=>
   rw[List.range'_succ,List.map_cons]at ih ⊢;simp only[A1b]at ih ⊢;rw[hleaf];rw[show A1b ((i+1,0)::(List.range' (i+1+1) n).map fun j=>(j,0)) (A2h a 0 ks) (A2h b 0 ks)=some (decide (a.drop (i+1)=b.drop (i+1)))from ih]
theorem B9f {a b:List Int}(ha:a.length=1)(hb:b.length=1):(a.getD 0 0==b.getD 0 0)=decide (a=b):=by
 match a,b,ha,hb with
 |[x],[y],_,_=>rw[Bool.eq_iff_iff];simp
theorem A50 {t:TypeId}{m:MV}(h:B3Z P t=some m):A8m P t=some m/\A9F m.ks=true/\A2D P 16 t 0=some (C5z m.ks.length)/\∃i,P.info? t=some i/\i.size=m.ks.length:=by
 unfold B3Z at h;split at h
 ·rename_i m' ls i h1 h2 h3;rw[cond_eq_ite]at h;split at h
  ·rename_i hc;cases h;simp only[Bool.and_eq_true,decide_eq_true_eq]at hc;obtain⟨c1,rfl,c3⟩:=hc;exact⟨h1,c1,h2,i,h3,Nat.eq_of_beq_eq_true c3⟩
  ·cases h
 ·cases h
theorem B4x {t:TypeId}{m:MV}(h:B3Z P t=some m){a b:List Int}(ha:a.length=m.ks.length)(hb:b.length=m.ks.length):(Op.equal t (m.vl a) (m.vl b)).run P w=.ok (decide (a=b)) w:=by
 obtain⟨h1,h2,h3,i,h4,h5⟩:=A50 h;have hF:Nat->Prop:=fun _=>False;have hx:RelVs w hF noR noH (A2h a 0 m.ks) (A1f a 0 m.ks).toArray.toList:=by simpa using(A3i (w:=w) (F:=hF) a m.ks 0).toVs
 have hy:RelVs w hF noR noH (A2h b 0 m.ks) (A1f b 0 m.ks).toArray.toList:=by simpa using(A3i (w:=w) (F:=hF) b m.ks 0).toVs
 have hl:A1b (C5z m.ks.length) (A2h a 0 m.ks) (A2h b 0 m.ks)=some (decide (a=b)):=by
  have:=A35 h2 ha hb m.ks.length 0 (by omega);rw[List.drop_zero,List.drop_zero]at this;rw[<- this];unfold C5z;rw[List.range_eq_range']
 have hpart:∀l:List Int,A2v P t (A1f l 0 m.ks).toArray 0 (m.vl l):=by
  intro l;unfold A8m at h1;unfold A2v;split at h1
  ·rename_i k hd;rw[hd];split at h1
   ·cases h1;rfl
   ·cases h1
  ·rename_i hd;rw[hd];split at h1
   ·cases h1;rfl
   ·cases h1
  ·rename_i fs hd;rw[hd];split at h1
   ·cases h1;refine⟨i,h4,by simp[A2o,h5],?_⟩;simp only at h5;simp[MV.vl,h5,<- A2o l _ 0]
   ·cases h1
  ·rename_i n e hd;rw[hd];split at h1
   ·cases h1;refine⟨i,h4,by simp[A2o,h5],?_⟩;simp only at h5;simp[MV.vl,h5,<- A2o l _ 0]
   ·cases h1
  ·cases h1
 exact A30 hx hy 16 t 0 _ _ _ _ h3 hl (hpart a) (hpart b) 10000 (by omega)
def A2G (vk:MV):List (List Int×List Int×Nat)->List Int->Nat->Option (Nat×Value)
 |[],_,_=>none
 |e::r,k,i=>if k=e.1 then some (i,vk.vl e.2.1)else A2G vk r k (i+1)
theorem A7i {t:TypeId}{kk vk:MV}(h:B3Z P t=some kk){k:List Int}(hk:k.length=kk.ks.length):∀(es:List (List Int×List Int×Nat)) (i:Nat),(∀e∈es,e.1.length=kk.ks.length)->
  (Instr.findAsking t (kk.vl k) (es.map (entV kk vk)) i).run P w=.ok (A2G vk es k i) w
 |[],i,_=>by simp[Instr.findAsking,A2G]
 |e::r,i,he=>by
  rw[List.map_cons];simp only[Instr.findAsking,Sem.run_bind];have:(entV kk vk e).key=kk.vl e.1:=rfl;rw[this,B4x h hk (he e (by simp)),Result.andThen_ok];simp only[Sem.run_ite,A2G]
  by_cases heq:k=e.1
  ·simp only[heq,decide_true,if_true];rfl
  ·simp only[heq,decide_false,Bool.false_eq_true,if_false];exact A7i h hk r (i+1) fun e he'=>he e (List.mem_cons_of_mem _ he')
theorem A51 {kd:IntKind}{kk':IntKind}{vk:MV}{k:List Int}(hk:k.length=1):∀(es:List (List Int×List Int×Nat)) (i:Nat),(∀e∈es,e.1.length=1)->
  Instr.findNow (.int kk') ((⟨false,[some kd]⟩:MV).vl k) (es.map (entV ⟨false,[some kd]⟩ vk)) i=some (A2G vk es k i)
 |[],i,_=>rfl
 |e::r,i,he=>by
  have h1:Instr.sameNow (.int kk') ((⟨false,[some kd]⟩:MV).vl k) (entV ⟨false,[some kd]⟩ vk e).key=some (decide (k=e.1)):=by
   show(if kd=kd then some (k.getD 0 0==e.1.getD 0 0)else none)=_;rw[if_pos rfl,B9f hk (he e (by simp))]
  rw[List.map_cons];simp only[Instr.findNow,h1,A2G]
  by_cases heq:k=e.1
  ·simp only[heq,decide_true,if_true];rfl
  ·simp only[heq,decide_false,if_false];exact A51 hk r (i+1) fun e he'=>he e (List.mem_cons_of_mem _ he')
theorem A3L {t:TypeId}{kk vk:MV}(h:B3Z P t=some kk){k:List Int}(hk:k.length=kk.ks.length)(es:List (List Int×List Int×Nat))(he:∀e∈es,e.1.length=kk.ks.length):
  (Instr.findKey t (kk.vl k) (es.map (entV kk vk))).run P w=.ok (A2G vk es k 0) w:=by
 obtain⟨h1,h2,_⟩:=A50 h;have hask:=A7i (w:=w) (vk:=vk) h hk es 0 he;unfold Instr.findKey;unfold A8m at h1;split at h1
 ·rename_i k0 hd;simp only[Sem.run_bind,A0b hd,Result.andThen_ok];split at h1
  ·rename_i kd hkd;cases h1;cases kd with
   |none=>cases h2
   |some kd=>
    rw[A51 hk es 0 he];rfl
  ·cases h1
 ·rename_i hd;split at h1
  ·rename_i kd hkd;cases h1;unfold intK at hkd;rw[hd]at hkd;split at hkd
   ·rename_i g _;cases g
   ·rw[cond_eq_ite]at hkd;split at hkd
    ·cases hkd;cases h2
    ·cases hkd
   ·cases hkd
  ·cases h1
 ·rename_i fs hd;simp only[Sem.run_bind,A0b hd,Result.andThen_ok];cases es with
  |nil=>rfl
  |cons e r=>
   have:Instr.findNow (.struct fs) (kk.vl k) ((e::r).map (entV kk vk)) 0=none:=by
    simp[Instr.findNow,Instr.sameNow]
   rw[this];exact hask
 ·rename_i n e0 hd;simp only[Sem.run_bind,A0b hd,Result.andThen_ok];cases es with
  |nil=>rfl
  |cons e r=>
   have:Instr.findNow (.array n e0) (kk.vl k) ((e::r).map (entV kk vk)) 0=none:=by
    simp[Instr.findNow,Instr.sameNow]
   rw[this];exact hask
 ·cases h1
theorem A9K {vk:MV}:∀(es:List (List Int×List Int×Nat)) (k:List Int) (i:Nat),(A2G vk es k i).map (·.2)=(B3X es k).map vk.vl/\(A2G vk es k i).isSome=B1X es k
 |[],k,i=>⟨rfl,rfl⟩
 |e::r,k,i=>by
  obtain⟨h1,h2⟩:=A9K (vk:=vk) r k (i+1)
  by_cases heq:k=e.1
  ·simp[A2G,B3X,B1X,heq]
  ·simp[A2G,B3X,B1X,heq,h1,h2]
theorem A52 {kk vk:MV}{k v:List Int}{c:Nat}:∀(es:List (List Int×List Int×Nat)) (i:Nat),
  (∀j y,A2G vk es k i=some (j,y)->i<=j/\(((es.map (entV kk vk))[j-i]?).map (·.key))=some (kk.vl k)/\(es.map (entV kk vk)).modify (j-i) (fun e=>{e with key:=kk.vl k,val:=vk.vl v})=(mput es k v c).map (entV kk vk)/\B1X es k=true/\(es.map (entV kk vk)).eraseIdx (j-i)=(mdel es k).map (entV kk vk))/\
  (A2G vk es k i=none->es.map (entV kk vk)++[{key:=kk.vl k,val:=vk.vl v,born:=c}]=(mput es k v c).map (entV kk vk)/\B1X es k=false/\mdel es k=es)
 |[],i=>⟨fun j y h=>by simp[A2G]at h,fun _=>⟨rfl,rfl,rfl⟩⟩
 |e::r,i=>by
  obtain⟨h1,h2⟩:=A52 (kk:=kk) (vk:=vk) (k:=k) (v:=v) (c:=c) r (i+1)
  by_cases heq:k=e.1
  ·subst heq;refine⟨fun j y h=>?_,fun h=>?_⟩
   ·simp only[A2G,if_true,Option.some.injEq,Prod.mk.injEq]at h;obtain⟨rfl,rfl⟩:=h;refine⟨Nat.le_refl _,?_,?_,?_,?_⟩
    ·simp[entV]
    ·simp[mput,entV]
    ·simp[B1X]
    ·simp[mdel]
   ·simp[A2G]at h
  ·refine⟨fun j y h=>?_,fun h=>?_⟩
   ·simp only[A2G,if_neg heq]at h;obtain⟨g1,g2,g3,g4,g5⟩:=h1 j y h;obtain⟨m,rfl⟩:∃m,j=i+1+m:=⟨j-(i+1),by omega⟩;have e1:i+1+m-i=m+1:=by omega
    have e2:i+1+m-(i+1)=m:=by omega
    rw[e2]at g2 g3 g5;rw[e1];refine⟨by omega,?_,?_,?_,?_⟩
    ·simpa using g2
    ·simp only[List.map_cons,List.modify_succ_cons,mput,heq,decide_false,cond_false];rw[g3]
    ·simp[B1X,heq,g4]
    ·simp only[List.map_cons,List.eraseIdx_cons_succ,mdel,heq,decide_false,cond_false];rw[g5]
   ·simp only[A2G,if_neg heq]at h;obtain⟨g1,g2,g3⟩:=h2 h;refine⟨?_,?_,?_⟩
    ·simp only[List.map_cons,List.cons_append,mput,heq,decide_false,cond_false];rw[g1]
    ·simp[B1X,heq,g2]
    ·simp[mdel,heq,g3]
theorem B2e {n:Nat}:∀{es:List (List Int×List Int×Nat)} {k v:List Int} {c:Nat},(∀e∈es,e.1.length=n)->k.length=n->∀e∈mput es k v c,e.1.length=n
 |[],k,v,c,h,hk,e,he=>by simp[mput]at he;rw[he];exact hk
 |x::r,k,v,c,h,hk,e,he=>by
  simp only[mput,cond_eq_ite]at he;split at he
  ·rcases List.mem_cons.1 he with rfl|he
   ·exact hk
   ·exact h e (List.mem_cons_of_mem _ he)
  ·rcases List.mem_cons.1 he with rfl|he
   ·exact h e (by simp)
   ·exact B2e (fun y hy=>h y (List.mem_cons_of_mem _ hy)) hk e he
theorem B2f {n:Nat}:∀{es:List (List Int×List Int×Nat)} {k:List Int},(∀e∈es,e.1.length=n)->∀e∈mdel es k,e.1.length=n
 |[],k,h,e,he=>by simp[mdel]at he
 |x::r,k,h,e,he=>by
  simp only[mdel,cond_eq_ite]at he;split at he
  ·exact h e (List.mem_cons_of_mem _ he)
  ·rcases List.mem_cons.1 he with rfl|he
   ·exact h e (by simp)
   ·exact B2f (fun y hy=>h y (List.mem_cons_of_mem _ hy)) e he
theorem A7j (n:Nat)(l:List Int):∀(ks:List (Option IntKind)) (i:Nat),(((A1f l i ks).zip (A1f l i ks)).all fun p=>Instr.sameBits n p.1 p.2)=true
 |[],i=>rfl
 |k::ks,i=>by
  simp only[A1f,List.zip_cons_cons,List.all_cons,Bool.and_eq_true];refine⟨?_,A7j n l ks (i+1)⟩;cases k<;>simp[A2J,Instr.sameBits]
theorem B6S {t:TypeId}{m:MV}(h:A8m P t=some m)(n:Nat)(l:List Int):Instr.sameBits (n+1) (m.vl l) (m.vl l)=true:=by
 have hone:∀(k:Option IntKind) (x:Int),Instr.sameBits (n+1) (A2J k x) (A2J k x)=true:=fun k x=>by
  cases k<;>simp[A2J,Instr.sameBits]
 have hagg:∀ks:List (Option IntKind),Instr.sameBits (n+1) (.agg (A1f l 0 ks).toArray) (.agg (A1f l 0 ks).toArray)=true:=fun ks=>by
  have:=A7j n l ks 0;simp only[Instr.sameBits,beq_self_eq_true,Bool.true_and];simpa using this
 unfold A8m at h;split at h
 ·split at h
  ·cases h;exact hone _ _
  ·cases h
 ·split at h
  ·cases h;exact hone _ _
  ·cases h
 ·split at h
  ·cases h;exact hagg _
  ·cases h
 ·split at h
  ·cases h;exact hagg _
  ·cases h
 ·cases h
end
section
variable {P:Program}{G:GL}{F:Nat->Prop}{ρ:Nat->Option Nat}{H:Nat->Option HO}{w:World}{look:Nat->Option HO}{D:Delta}{o:Oper}{ev:Operand->Value}{T:List (Nat×AV)}{Sp:SpT}
theorem A3w {b:Nat}{es:Array MapEntry}{ck:Nat}(hb:w.heap[b]? =some (.map es ck)):(getObj b).run P w=.ok (.map es ck) w:=by
 simp[getObj,Sem.run,hb]
theorem A3x {b:Nat}{es:Array MapEntry}{ck:Nat}(x:Obj)(hb:w.heap[b]? =some (.map es ck)):(setObj b x).run P w=.ok () {w with heap:=w.heap.setIfInBounds b x}:=by
 simp[setObj,Sem.run,hb]
theorem A8x {kk vk:MV}{m:AV}{id:Nat}{k:Blk}{es:List (List Int×List Int×Nat)}{ck:Nat}(h:B39 look kk vk m=some (id,k,es,ck)):m=.mp id/\look id=some (.blk k)/\k.c=.maps kk vk es ck:=by
 unfold B39 at h;split at h
 ·split at h
  ·rename_i k' hk;split at h
   ·rename_i hc;rw[cond_eq_ite]at h;split at h
    ·rename_i hb;rw[Bool.and_eq_true]at hb;cases B2c hb.1;cases B2c hb.2;cases h;exact⟨rfl,hk,hc⟩
    ·cases h
   ·cases h
  ·cases h
 ·cases h
theorem A8y (hm:MRel G F ρ H w)(hl:∀id o,look id=some o->H id=some o){id:Nat}{k:Blk}(hk:look id=some (.blk k)){kk vk:MV}{es:List (List Int×List Int×Nat)}{ck:Nat}(hc:k.c=.maps kk vk es ck){x:Value}(hx:RelV w F ρ H (.mp id) x):
  ∃b,x=.map (some b)/\ρ id=some b/\RelB w F ρ H k b/\k.c.size=k.n*k.sz/\w.heap[b]? =some (.map (es.map (entV kk vk)).toArray ck)/\∀e∈es,e.1.length=kk.ks.length:=by
 cases hx with
 |imm _ _ hi=>cases hi
 |mp _ b o hb hh hbx=>
  obtain⟨h0,h1|⟨b',h1,h2⟩⟩:=hm.heap id _ (hl _ _ hk)
  ·rw[hb]at h1;cases h1.2
  ·rw[hb]at h1;cases h1;obtain⟨g1,g2⟩:=h2.mp _ _ _ _ hc;exact⟨b,rfl,hb,h2,h0,g1,g2⟩
theorem A36 (hm:MRel G F ρ H w)(hfresh:∀i,i∈D.al->H i=none){site n:Nat}{kk vk:MV}{vs:List AV}{t k e:TypeId}{r:Option Value}(ht:P.underlying t=some (.map k e))
  (hr:∀x,r=some x->n≠0/\∃v l,vs=v::l/\RelV w F ρ H v x) (hD:A7Z site kk vk n vs=some D):Eff G F ρ H w ((Instr.makeMap t r).run P w) D:=by
 unfold A7Z at hD;rw[cond_eq_ite]at hD;split at hD
 case isFalse=>cases hD
 rename_i hcond;cases hD;have hrun:(Instr.makeMap t r).run P w=.ok (.map (some w.heap.size)) (w.alloc (.map #[] 0)):=by
  unfold Instr.makeMap;cases r with
  |none=>simp
  |some x=>
   obtain⟨hn,v,l,rfl,hv⟩:=hr x rfl;unfold B8s at hcond;split at hcond
   ·exact absurd rfl hn
   ·rename_i kd q _ e1;cases e1;have:=hv.ints;subst this;simp[A0b ht,asInt,asIntOf]
   ·cases hcond
 obtain⟨ρ',h1,h2,h3,h4,h5⟩:=hm.alloc (w':=w.alloc (.map #[] 0)) (site:=site) (o:=.blk {c:=.maps kk vk [] 0,sz:=1,n:=0,cap:=none,nil:=some false,mu:=true,bx:=true}) (hfresh site (by simp)) rfl ⟨rfl,rfl,fun _=>⟨rfl,Nat.le_refl _⟩⟩ (fun ρ' H' hk hρ=>by
  refine⟨rfl,.inr ⟨w.heap.size,hρ,⟨fun h=>(by cases h),fun kk' vk' es ck e=>?_,fun _ h=>absurd (hm.frz _ h) (Nat.lt_irrefl _),fun e=>(by cases e)⟩⟩⟩;cases e;exact⟨A1m rfl,fun e h=>by simp at h⟩)
 exact⟨_,_,F,ρ',hrun,h1,h2,h3,.mp site _ _ h4 (A0e _ _ _) rfl⟩
theorem A8z (hm:MRel G F ρ H w)(hl:∀id o,look id=some o->H id=some o){kk vk:MV}{ok:Bool}{u v:AV}{x y:Value}{t k e:TypeId}(ht:P.underlying t=some (.map k e))(hk:B3Z P k=some kk)(hv:C1y P e=some vk)
  (hu:RelV w F ρ H u x) (hy:RelV w F ρ H v y) (hD:A70 look kk vk ok u v=some D):Eff G F ρ H w ((Instr.lookup t x y ok).run P w) D:=by
 unfold A70 at hD;split at hD
 ·rename_i id blk es ck kl h1 h2;obtain⟨rfl,g1,g2⟩:=A8x h1;obtain⟨b,rfl,g3,g4,g5,g6,g7⟩:=A8y hm hl g1 g2 hu;obtain⟨rfl,g8⟩:=MV.rd_ok h2 hy;obtain⟨f1,_⟩:=A50 hk;have hz:(zeroValue e).run P w=.ok (vk.vl []) w:=by
   unfold C1y at hv;split at hv
   ·rename_i m i q1 q2;split at hv
    ·rename_i z hz;rw[cond_eq_ite]at hv;split at hv
     ·rename_i hzz;cases hv;rw[<- B4w hzz];simp[zeroValue,typeInfo,q2,hz]
     ·cases hv
    ·cases hv
   ·cases hv
  have hf:=A3L (w:=w) (vk:=vk) hk g8 es g7;obtain⟨m1,m2⟩:=A9K (vk:=vk) es kl 0;have hrun:(Instr.lookup t (.map (some b)) (kk.vl kl) ok).run P w=.ok (cond ok (.tuple #[vk.vl ((B3X es kl).getD []),.bool (B1X es kl)]) (vk.vl ((B3X es kl).getD []))) w:=by
   unfold Instr.lookup;simp only[Sem.run_bind,A0b ht,Result.andThen_ok,A3w g6,Sem.run_pure];rw[A3k f1 _ 9998 kl];simp only[Result.andThen_ok];rw[hf];simp only[Result.andThen_ok];cases hmf:A2G vk es kl 0 with
   |none=>
    rw[hmf]at m1 m2;have m1:B3X es kl=none:=by
     cases hg:B3X es kl with
     |none=>rfl
     |some z=>rw[hg]at m1;cases m1
    have m2:B1X es kl=false:=m2.symm;rw[m1,m2];simp only[Sem.run_bind,hz,Sem.run_pure,Result.andThen_ok,Option.getD_none];cases ok<;>rfl
   |some p=>
    obtain⟨j,z⟩:=p;rw[hmf]at m1 m2;have m2:B1X es kl=true:=m2.symm;cases hg:B3X es kl with
    |none=>rw[hg]at m1;cases m1
    |some q=>
     rw[hg]at m1;simp only[Option.map_some,Option.some.injEq]at m1;rw[m2];simp only[Sem.run_pure,Result.andThen_ok,Option.getD_some,m1];cases ok<;>rfl
  have hrel:=(MV.rel (w:=w) (F:=F) vk ((B3X es kl).getD [])).toV (ρ:=ρ) (h:=H);cases ok with
  |true=>exact Eff.val hm hD hrun (.tup _ _ (.cons _ _ _ _ hrel (.cons _ _ _ _ (.imm _ _ (.bool _)) .nil)))
  |false=>exact Eff.val hm hD hrun hrel
 ·cases hD
theorem A9L (hm:MRel G F ρ H w){id b:Nat}{k:Blk}{kk vk:MV}{es es':List (List Int×List Int×Nat)}{ck ck':Nat}(hH:H id=some (.blk k))(hc:k.c=.maps kk vk es ck)(hb:ρ id=some b)(hB:RelB w F ρ H k b)(h0:k.c.size=k.n*k.sz)(hmu:k.mu=true)
  (hw:w.heap[b]? =some (.map (es.map (entV kk vk)).toArray ck)) (hlen:∀e∈es',e.1.length=kk.ks.length):
  MRel G F ρ (upd H id (some (.blk {k with c:=.maps kk vk es' ck'}))) {w with heap:=w.heap.setIfInBounds b (.map (es'.map (entV kk vk)).toArray ck')}/\
   Ext G F ρ w F ρ {w with heap:=w.heap.setIfInBounds b (.map (es'.map (entV kk vk)).toArray ck')}/\HKeep w ρ H {w with heap:=w.heap.setIfInBounds b (.map (es'.map (entV kk vk)).toArray ck')} ρ (upd H id (some (.blk {k with c:=.maps kk vk es' ck'}))):=by
 have hlt:b<w.heap.size:=(Array.getElem?_eq_some_iff.1 hw).1;have hn:({w with heap:=w.heap.setIfInBounds b (.map (es'.map (entV kk vk)).toArray ck')}:World).heap[b]? =some (.map (es'.map (entV kk vk)).toArray ck'):=by
  simp[hlt]
 refine hm.write hH hb (hB.mu hmu) hn (fun j hj=>?_) (by simp) ⟨rfl,rfl,fun _=>⟨rfl,Nat.le_refl _⟩⟩ (fun cs ty fz h=>by rw[hw]at h;cases h) rfl (fun k0 h=>?_) (fun hk=>?_)
 ·simp only[Array.getElem?_setIfInBounds];rw[if_neg (fun e=>hj e.symm)]
 ·cases h;exact⟨_,rfl,Nat.le_refl _,fun _=>⟨rfl,rfl,.inl rfl⟩⟩
 ·have hz:k.c.size=0:=by rw[hc];rfl
  refine⟨?_,.inr ⟨b,hb,⟨fun h=>(by cases h),fun kk' vk' es2 ck2 e=>?_,fun _=>hB.mu hmu,fun e=>(by rw[show k.mu=true from hmu]at e;cases e)⟩⟩⟩
  ·show 0=k.n*k.sz;rw[<- h0,hz]
  ·cases e;exact⟨hn,hlen⟩
theorem A9M (hm:MRel G F ρ H w)(hl:∀id o,look id=some o->H id=some o){kk vk:MV}{u v v2:AV}{x y z:Value}{t k e:TypeId}(ht:P.underlying t=some (.map k e))(hk:B3Z P k=some kk)
  (hu:RelV w F ρ H u x) (hy:RelV w F ρ H v y) (hz:RelV w F ρ H v2 z) (hD:B1Y look kk vk u v v2=some D):Eff G F ρ H w (((Instr.mapUpdate t x y z).run P w).andThen fun _ w'=>.ok undef w') D:=by
 unfold B1Y at hD;split at hD
 ·rename_i id blk es ck kl vl h1 h2 h3;rw[cond_eq_ite]at hD;split at hD
  ·rename_i hmu;cases hD;obtain⟨rfl,g1,g2⟩:=A8x h1;obtain⟨b,rfl,g3,g4,g5,g6,g7⟩:=A8y hm hl g1 g2 hu;obtain⟨rfl,g8⟩:=MV.rd_ok h2 hy;obtain⟨rfl,_⟩:=MV.rd_ok h3 hz;obtain⟨f1,_⟩:=A50 hk;have hf:=A3L (w:=w) (vk:=vk) hk g8 es g7;obtain⟨m1,m2⟩:=A52 (kk:=kk) (vk:=vk) (k:=kl) (v:=vl) (c:=ck) es 0;have hrun:(Instr.mapUpdate t (.map (some b)) (kk.vl kl) (vk.vl vl)).run P w=.ok () {w with heap:=w.heap.setIfInBounds b (.map ((mput es kl vl ck).map (entV kk vk)).toArray (mck es kl ck))}:=by
    unfold Instr.mapUpdate;simp only[Sem.run_bind,A0b ht,Result.andThen_ok,A3w g6];rw[A3k f1 _ 9998 kl];simp only[Result.andThen_ok];rw[hf];simp only[Result.andThen_ok];cases hmf:A2G vk es kl 0 with
    |none=>
     obtain⟨q1,q2,_⟩:=m2 hmf;simp only[A3x _ g6];have:(es.map (entV kk vk)).toArray.push {key:=kk.vl kl,val:=vk.vl vl,born:=ck}=((mput es kl vl ck).map (entV kk vk)).toArray:=by
      rw[<- q1];simp
     rw[this];simp only[mck,q2,cond_false]
    |some p=>
     obtain⟨j,y⟩:=p;obtain⟨_,q1,q2,q3,_⟩:=m1 j y hmf;simp only[Nat.sub_zero]at q1 q2;have hkey:((((es.map (entV kk vk)).toArray[j]?).map (·.key)).getD (kk.vl kl))=kk.vl kl:=by
      have:(es.map (entV kk vk)).toArray[j]? =(es.map (entV kk vk))[j]? :=by simp
      rw[this,q1];rfl
     have hst:(Instr.keyThatStays (kk.vl kl) (kk.vl kl)).run P w=.ok (kk.vl kl) w:=by
      unfold Instr.keyThatStays;rw[if_pos (B6S f1 9999 kl)];rfl
     simp only[Sem.run_bind,hkey,hst,Result.andThen_ok,A3x _ g6];have:(es.map (entV kk vk)).toArray.modify j (fun e=>{e with key:=kk.vl kl,val:=vk.vl vl})=((mput es kl vl ck).map (entV kk vk)).toArray:=by
      rw[<- q2];simp
     rw[this];simp only[mck,q3,cond_true]
   obtain⟨p1,p2,p3⟩:=A9L hm (hl _ _ g1) g2 g3 g4 g5 hmu g6 (es':=mput es kl vl ck) (ck':=mck es kl ck) (B2e g7 g8);exact⟨undef,_,F,ρ,by rw[hrun];rfl,p1,p2,p3,.imm _ _ (.undef _)⟩
  ·cases hD
 ·cases hD
theorem A9N (hm:MRel G F ρ H w)(hl:∀id o,look id=some o->H id=some o){kk vk:MV}{u v:AV}{x y:Value}{t t2 ty k e:TypeId}(ht:P.underlying t=some (.map k e))(hk:B3Z P k=some kk)
  (hu:RelV w F ρ H u x) (hy:RelV w F ρ H v y) (hD:B1Z look kk vk u v=some D):Eff G F ρ H w ((Builtin.delete_ #[t,t2] ty #[x,y]).run P w) D:=by
 unfold B1Z at hD;split at hD
 ·rename_i id blk es ck kl h1 h2;rw[cond_eq_ite]at hD;split at hD
  ·rename_i hmu;cases hD;obtain⟨rfl,g1,g2⟩:=A8x h1;obtain⟨b,rfl,g3,g4,g5,g6,g7⟩:=A8y hm hl g1 g2 hu;obtain⟨rfl,g8⟩:=MV.rd_ok h2 hy;obtain⟨f1,_⟩:=A50 hk;have hf:=A3L (w:=w) (vk:=vk) hk g8 es g7;obtain⟨m1,m2⟩:=A52 (kk:=kk) (vk:=vk) (k:=kl) (v:=[]) (c:=ck) es 0;have hrun:(Builtin.delete_ #[t,t2] ty #[.map (some b),kk.vl kl]).run P w=.ok (.tuple #[]) {w with heap:=w.heap.setIfInBounds b (.map ((mdel es kl).map (entV kk vk)).toArray ck)}:=by
    unfold Builtin.delete_;simp only[List.getElem?_toArray,List.getElem?_cons_zero,List.getElem?_cons_succ];simp only[Sem.run_bind,A0b ht,Result.andThen_ok,A3w g6];rw[A3k f1 _ 9998 kl];simp only[Result.andThen_ok];rw[hf];simp only[Result.andThen_ok];cases hmf:A2G vk es kl 0 with
    |none=>
     obtain⟨_,_,q3⟩:=m2 hmf;simp only[Sem.run_bind,A3x _ g6,Result.andThen_ok,Sem.run_pure,q3]
    |some p=>
     obtain⟨j,y⟩:=p;obtain⟨_,_,_,_,q5⟩:=m1 j y hmf;simp only[Nat.sub_zero]at q5;simp only[Sem.run_bind,A3x _ g6,Result.andThen_ok,Sem.run_pure];have:(es.map (entV kk vk)).toArray.eraseIdxIfInBounds j=((mdel es kl).map (entV kk vk)).toArray:=by
      rw[<- q5];apply Array.toList_inj.1;simp
     rw[this]
   obtain⟨p1,p2,p3⟩:=A9L hm (hl _ _ g1) g2 g3 g4 g5 hmu g6 (es':=mdel es kl) (ck':=ck) (B2f g7);exact⟨_,_,F,ρ,hrun,p1,p2,p3,.tup _ _ .nil⟩
  ·cases hD
 ·cases hD
theorem A9O (hm:MRel G F ρ H w)(hl:∀id o,look id=some o->H id=some o){u:AV}{x:Value}{t ty k e:TypeId}(ht:P.underlying t=some (.map k e))
  (hu:RelV w F ρ H u x) (hD:B10 look u=some D):Eff G F ρ H w ((Builtin.len_ #[t] ty #[x]).run P w) D:=by
 unfold B10 at hD;split at hD
 ·split at hD
  ·rename_i k' hk;split at hD
   ·rename_i hc;obtain⟨b,rfl,g3,g4,g5,g6,g7⟩:=A8y hm hl hk hc hu;refine Eff.val hm hD (x:=.int .i64 _) ?_ (A04 _ _);simp[Builtin.len_,A0b ht,goInt,A3w g6]
   ·cases hD
  ·cases hD
 ·cases hD
end
section
variable {P:Program}{G:GL}{F F':Nat->Prop}{ρ:Nat->Option Nat}{H:Nat->Option HO}{w:World}{look:Nat->Option HO}{Sp:SpT}{D:Delta}
theorem A7k (c:Cont):(c.take 0).size=0:=by cases c<;>simp[Cont.take,Cont.size]
theorem A9P (hm:MRel G F ρ H w)(hl:∀id o,look id=some o->H id=some o){sz by_:Nat}{u v:AV}{x y:Value}{sT xT e ty:TypeId}
  (hs:P.underlying sT=some (.slice e)) (he:ElOk P e sz by_)
  (hu:RelV w F ρ H u x) (hv:RelV w F ρ H v y) (hD:B1S look sz u v=some D) (hc:A0M Sp D.cs):
  Eff G F ρ H w ((Builtin.copy_ #[sT,xT] ty #[x,y]).run P w) D:=by
 obtain⟨inf,z0,t1,t2,t3,t4,t5⟩:=he.inf;unfold B1S at hD;split at hD
 ·rename_i yc m cs hsrc;split at hD
  ·rename_i yc' ids cs' hfrz;obtain⟨F1,f1,f2,f3,f4,f5,f6⟩:=A68 (look:=look) ids F H hm (fun id k hk=>.inl (hl _ _ hk));have key:A0M Sp cs->A0M Sp cs'->∃(a:Option Addr) (cap:Nat) (cells:List Value),y=.slice a m cap/\yc'.size=m*sz/\cells.length=m*sz/\(a=none->m=0)/\
     (∀b,a=some b->∀j y,cells[j]? =some y->w.cell? (b.add j)=some y)/\(∀j y,cells[j]? =some y->RelI w F1 (yc'.getV j) y/\y.oneCell'=true):=by
    intro h1 h2;obtain⟨a,cap,cells,q1,q2,q3,q4,q5,q6⟩:=A3f hm hl hsrc h1 hv;obtain⟨g1,g2⟩:=(A2l hm hl f2.keep 60).2.2 _ _ _ _ hfrz h2 (fun id hid b hb=>f4 id hid ((A3I 60).2.2 _ _ _ _ hfrz id hid) b hb);refine⟨a,cap,cells,q1,g1.trans q2,q3,q4,q5,fun j z hj=>?_⟩;have hlt:j<yc.size:=by rw[q2,<- q3];exact(List.getElem?_eq_some_iff.1 hj).1
    exact⟨g2 j hlt z (q6 j z hj),(q6 j z hj).2⟩
   split at hD
   ·rename_i id len;split at hD
    ·rename_i k hk;have hH:=hl _ _ hk;simp only[cond_eq_ite]at hD;split at hD
     ·rename_i hcond;simp only[Bool.and_eq_true,Bool.not_eq_true']at hcond;obtain⟨hmu,hbx,hmem,hsz⟩:=hcond;have hsz:k.sz=sz:=Nat.eq_of_beq_eq_true hsz;have hmem:id∉ids:=by
       intro h;have:A1K id ids=true:=A2m h;rw[this]at hmem;cases hmem
      split at hD
      ·rename_i c' happ;cases hD;obtain⟨c1,c2,c3⟩:=hc;obtain⟨c3,c4⟩:=c3.app;have hn:k.n=len:=c1;have hml:m=len:=c2;subst hml;obtain⟨a,cap,cells,q1,q2,q3,q4,q5,q6⟩:=key c3 c4;subst q1;have hcs:cells.length=yc'.size:=by rw[q2,q3]
       have first:(Builtin.firstCells sz m (.slice a m cap)).run P w=.ok cells.toArray w:=A11 q3 q4 (fun b hb j z hj=>q5 b hb j z hj)
       have hH1:A00 H (A1l look ids) id=some (.blk k):=by
        rcases f5 id k hk with h|h
        ·rw[h,hH]
        ·exact absurd h.1 hmem
       obtain⟨s1,s2,s3⟩:=A2w (w:=w) (F:=F1) (ρ:=ρ) (H:=A00 H (A1l look ids)) happ;rw[A7k,Nat.zero_add]at s1;rw[A7k]at s3;have hksz:k.c.size=m*sz:=by rw[(hm.heap id _ hH).1,hn,hsz]
       have hnm:k.c.isMap=false:=by
        have:=(A1v happ).1;cases hkc:k.c<;>rw[hkc]at this<;>first|rfl|cases this
       let k':Blk:={k with c:=c'}
       have hk'sz:k'.c.size=k'.n*k'.sz:=by
        show c'.size=k.n*k.sz;rw[s1,q2,hn,hsz]
       have run:∀(base:Option Addr) (cp:Nat) (w':World),x=.slice base m cp->((match base with|some b=>(storeCells b cells).run P w|none=>.ok () w)=.ok () w')->
         (Builtin.copy_ #[sT,xT] ty #[x,.slice a m cap]).run P w=.ok (.int .i64 m) w':=by
        intro base cp w' hx hst;subst hx;unfold Builtin.copy_;simp only[List.getElem?_toArray,List.getElem?_cons_zero,List.getElem?_cons_succ];have hmin:Nat.min m m=m:=Nat.min_self m;simp only[Sem.run_bind,A0b hs,Result.andThen_ok,A0l t1,t2,Sem.run_pure,Builtin.lenOf,hmin,first];cases base with
        |none=>cases hst;rfl
        |some b=>
         simp only[Sem.run_bind]at hst ⊢;rw[hst];rfl
       have fin:∀w' ρ',MRel G F1 ρ' (upd (A00 H (A1l look ids)) id (some (.blk k'))) w'->Ext G F1 ρ w F1 ρ' w'->HKeep w ρ (A00 H (A1l look ids)) w' ρ' (upd (A00 H (A1l look ids)) id (some (.blk k')))->
         (Builtin.copy_ #[sT,xT] ty #[x,.slice a m cap]).run P w=.ok (.int .i64 m) w'->Eff G F ρ H w ((Builtin.copy_ #[sT,xT] ty #[x,.slice a m cap]).run P w)
         {v:=.int .i64 m,ws:=A1l look ids++[(id,.blk k')],al:=[],cs:=.eqn k.n m:: .eqn m m::(cs++cs')}:=by
        intro w' ρ' p1 p2 p3 hrun;refine⟨_,w',F1,ρ',hrun,?_⟩;rw[A1c];exact⟨p1,f2.trans p2,f3.trans p3,A04 _ _⟩
       have still:m=0->x=.slice none 0 0\/(∃a0,x=.slice (some a0) 0 0)->Eff G F ρ H w ((Builtin.copy_ #[sT,xT] ty #[x,.slice a m cap]).run P w)
         {v:=.int .i64 m,ws:=A1l look ids++[(id,.blk k')],al:=[],cs:=.eqn k.n m:: .eqn m m::(cs++cs')}:=by
        intro hm0 hx;have hcl:cells=[]:=by rw[hm0]at q3;simpa using q3
        have hrel:RelO G w F1 ρ (A00 H (A1l look ids)) id (.blk k):=f1.heap id _ hH1;have hz:k'.c.size=0:=by show c'.size=0;rw[s1,q2,hm0];simp
        obtain⟨p1,p2,p3⟩:=f1.setH (k':=k') hH1 rfl rfl rfl rfl (.inl rfl) (fun hk=>by
         refine⟨hk'sz,?_⟩;rcases hrel.2 with h|⟨b,h1,h2⟩
         ·exact .inl h
         ·obtain⟨cs1,ty1,fz1,z1,z2,z3,z4⟩:=h2.ex hnm;exact .inr ⟨b,h1,RelB.ofCells (A1v happ).2 ⟨cs1,ty1,fz1,z1,z2,by omega,fun i hi=>by omega⟩ h2.mu h2.fr⟩)
        refine fin w ρ p1 p2 p3 ?_;rcases hx with hx|⟨a0,hx⟩
        ·exact run none 0 w (by rw[hm0];exact hx) rfl
        ·exact run (some a0) 0 w (by rw[hm0];exact hx) (by rw[hcl];rfl)
       have fullGo:FullOk w ρ id m k x->Eff G F ρ H w ((Builtin.copy_ #[sT,xT] ty #[x,.slice a m cap]).run P w)
         {v:=.int .i64 m,ws:=A1l look ids++[(id,.blk k')],al:=[],cs:=.eqn k.n m:: .eqn m m::(cs++cs')}:=by
        intro hfull;rcases hfull with⟨h0,hnil,hcap0,hx⟩|⟨h0,hnil,hcap0,a0,hx⟩|⟨hnil,b,sCap,ocs,oty,ofz,e1,e2,rfl,e3,e4,e5⟩
        ·exact still h0 (.inl hx)
        ·exact still h0 (.inr ⟨a0,hx⟩)
        ·obtain⟨_,h1|⟨b',h1,hB⟩⟩:=f1.heap id _ hH1
         ·rw[e1]at h1;cases h1.2
         rw[e1]at h1;cases h1;obtain⟨ocs',oty',ofz',z1,z2,z3,z4⟩:=hB.ex hnm;rw[e2]at z1;cases z1;have hFb:¬ F1 b:=hB.mu hmu;have hfit:0+cells.length<=ocs.size:=by
          rw[q3,Nat.zero_add,<- hksz];exact z3
         have hone:∀v∈cells,v.oneCell'=true:=by
          intro z hz;obtain⟨j,hj,rfl⟩:=List.getElem_of_mem hz;exact(q6 j _ (List.getElem?_eq_getElem hj)).2
         obtain⟨w',cs',p1,p2,p3,p4,p5,p6,p7,p8⟩:=A1g (G:=G) (P:=P) b oty ofz cells 0 0 ocs w hone e2 (fun j _=>z2 j) (by omega);obtain⟨g1,g2,g3⟩:=f1.write (w':=w') (o':=.blk k') hH1 e1 hFb p2 p6 p7 p8 (fun cs0 ty0 fz0 h=>by rw[e2]at h;cases h;exact⟨cs',oty,ofz,rfl,p3⟩) rfl
          (fun k0 h=>by cases h;exact⟨k',rfl,Nat.le_refl _,fun _=>⟨rfl,rfl,.inl rfl⟩⟩) (fun hk=>by
           refine⟨hk'sz,.inr ⟨b,e1,RelB.ofCells (A1v happ).2 ⟨cs',oty,ofz,p2,z2,?_,fun i hi=>?_⟩ (fun _=>hFb) (fun e=>by rw[show k'.mu=k.mu from rfl,hmu]at e;cases e)⟩⟩
           ·rw[p3];show c'.size<=_;rw[s1,q2,<- hksz];exact z3
           ·have hwF:∀b,F1 b->w'.heap[b]? =w.heap[b]? :=fun j hj=>p6 j (fun e=>hFb (e▸hj));have hi:i<c'.size:=hi;have hj:i<cells.length:=by rw[hcs,<- s1];exact hi
            refine⟨cells[i],?_,?_⟩
            ·have:=p4 i hj;rw[show 0+0+i=i by omega]at this;rw[this];exact List.getElem?_eq_getElem hj
            ·have:=s3 i _ (by rw[<- hcs];exact hj) (q6 _ _ (List.getElem?_eq_getElem hj)).1 (q6 _ _ (List.getElem?_eq_getElem hj)).2;rw[Nat.zero_add]at this;exact this.mono hwF (fun _ h=>h) hk)
         exact fin w' ρ g1 g2 g3 (run (some ⟨b,0,none⟩) sCap w' rfl p1)
       cases hu with
       |imm _ _ hi=>cases hi
       |full _ _ k1 _ hh hle hp hxx=>
        rw[hH]at hh;cases hh;exact fullGo (hxx hn)
      ·cases hD
     ·cases hD
    ·cases hD
   ·cases hD
  ·cases hD
 ·cases hD
theorem B1g (l1 l2:List Int)(off m:Nat):B1T l1 l2 off m=l1.take off++(l2++l1.drop (off+m)):=by
 cases off with
 |zero=>unfold B1T;rw[List.take_zero,List.nil_append,Nat.zero_add]
 |succ n=>rfl
theorem B6T {l1 l2:List Int}{off m:Nat}(h2:l2.length=m)(h:off+m<=l1.length):(B1T l1 l2 off m).length=l1.length:=by
 rw[B1g,List.length_append,List.length_append,List.length_take,List.length_drop];omega
theorem B9g {l1 l2:List Int}{off m i:Nat}(h2:l2.length=m)(h:off+m<=l1.length)(h3:off<=i)(h4:i<off+m):(B1T l1 l2 off m).getD i 0=l2.getD (i-off) 0:=by
 have ht:(l1.take off).length=off:=by rw[List.length_take];omega
 rw[B1g,List.getD_eq_getElem?_getD,List.getElem?_append_right (by omega),ht,List.getElem?_append_left (by omega),List.getD_eq_getElem?_getD]
theorem B6U {l1 l2:List Int}{off m i:Nat}(h2:l2.length=m)(h:off+m<=l1.length)(h3:i<off\/off+m<=i):(B1T l1 l2 off m).getD i 0=l1.getD i 0:=by
 have ht:(l1.take off).length=off:=by rw[List.length_take];omega
 rw[B1g,List.getD_eq_getElem?_getD,List.getD_eq_getElem?_getD];rcases h3 with h3|h3
 ·rw[List.getElem?_append_left (by omega),List.getElem?_take,if_pos h3]
 ·rw[List.getElem?_append_right (by omega),ht,List.getElem?_append_right (by omega),List.getElem?_drop,show off+m+(i-off-l2.length)=i by omega]
theorem A8A (hm:MRel G F ρ H w)(hl:∀id o,look id=some o->H id=some o){sz by_:Nat}{u v:AV}{x y:Value}{sT xT e ty:TypeId}
  (hs:P.underlying sT=some (.slice e)) (he:ElOk P e sz by_)
  (hu:RelV w F ρ H u x) (hv:RelV w F ρ H v y) (hD:A7U look sz u v=some D) (hc:A0M Sp D.cs):
  Eff G F ρ H w ((Builtin.copy_ #[sT,xT] ty #[x,y]).run P w) D:=by
 obtain⟨inf,z0,t1,t2,t3,t4,t5⟩:=he.inf;unfold A7U at hD;split at hD
 ·rename_i id off len wn hdst;split at hD
  ·rename_i c2 m cs k hsrc hk;split at hD
   ·rename_i k2 l2 k1 l1 hkc;rw[cond_eq_ite]at hD;split at hD
    ·rename_i hcond;simp only[Bool.and_eq_true]at hcond;obtain⟨hmu,hks,hsz,hkk⟩:=hcond;obtain rfl:=Nat.eq_of_beq_eq_true hsz;have hks:=Nat.eq_of_beq_eq_true hks;obtain rfl:=A5f hkk;cases hD;obtain⟨c1,c3,c4,hcs⟩:=hc;have c1:m<=len:=Nat.le_of_ble_eq_true c1;have c3:off+len<=l1.length:=Nat.le_of_ble_eq_true c3;have c4:k.n=wn.getD k.n:=c4;obtain⟨a,cap,cells,q1,q2,q3,q4,q5,q6⟩:=A3f hm hl hsrc hcs hv;have hl2:l2.length=m:=by simpa[Cont.size]using q2
     have q3:cells.length=m:=by simpa using q3
     subst q1;have hH:=hl _ _ hk;have core:∀b cp,ρ id=some b->x=.slice (some ⟨b,off,none⟩) len cp->Eff G F ρ H w ((Builtin.copy_ #[sT,xT] ty #[x,.slice a m cap]).run P w)
       {v:=.int .i64 m,ws:=[(id,.blk {k with c:=.ints k1 (B1T l1 l2 off m)})],al:=[],cs:=.b (Nat.ble m len):: .b (Nat.ble (off+len) l1.length):: .eqn k.n (wn.getD k.n)::cs}:=by
      intro b cp hb hxx;subst hxx;obtain⟨hksz,h1|⟨b',h1,hB⟩⟩:=hm.heap id _ hH
      ·rw[hb]at h1;cases h1.2
      rw[hb]at h1;cases h1;have hnm:k.c.isMap=false:=by rw[hkc];rfl
      obtain⟨ocs,oty,ofz,z1,z2,z3,z4⟩:=hB.ex hnm;rw[hkc]at z3 z4;have z3:l1.length<=ocs.size:=z3;have hFb:¬ F b:=hB.mu hmu;have hone:∀v∈cells,v.oneCell'=true:=by
       intro z hz;obtain⟨j,hj,rfl⟩:=List.getElem_of_mem hz;exact(q6 j _ (List.getElem?_eq_getElem hj)).2
      have first:(Builtin.firstCells 1 m (.slice a m cap)).run P w=.ok cells.toArray w:=A11 (by simpa using q3) q4 (fun b hb j z hj=>q5 b hb j z hj)
      obtain⟨w',cs',p1,p2,p3,p4,p5,p6,p7,p8⟩:=A1g (G:=G) (P:=P) b oty ofz cells off 0 ocs w hone z1 (fun j _=>z2 j) (by omega);have hmin:Nat.min m len=m:=Nat.min_eq_left c1;have hrun:(Builtin.copy_ #[sT,xT] ty #[.slice (some ⟨b,off,none⟩) len cp,.slice a m cap]).run P w=.ok (.int .i64 m) w':=by
       unfold Builtin.copy_;simp only[List.getElem?_toArray,List.getElem?_cons_zero,List.getElem?_cons_succ];simp only[Sem.run_bind,A0b hs,Result.andThen_ok,A0l t1,t2,Sem.run_pure,Builtin.lenOf,hmin,first];rw[p1];rfl
      let k':Blk:={k with c:=.ints k1 (B1T l1 l2 off m)}
      have hsz':(B1T l1 l2 off m).length=l1.length:=B6T hl2 (by omega);have hksz:l1.length=k.n*k.sz:=by rw[hkc]at hksz;exact hksz
      have hwF:∀b,F b->w'.heap[b]? =w.heap[b]? :=fun j hj=>p6 j (fun e=>hFb (e▸hj));obtain⟨g1,g2,g3⟩:=hm.write (w':=w') (o':=.blk k') hH hb hFb p2 p6 p7 p8 (fun cs0 ty0 fz0 h=>by rw[z1]at h;cases h;exact⟨cs',oty,ofz,rfl,p3⟩) rfl
       (fun k0 h=>by cases h;exact⟨k',rfl,Nat.le_refl _,fun _=>⟨rfl,rfl,.inl rfl⟩⟩) (fun hkp=>by
        refine⟨by show(B1T l1 l2 off m).length=k.n*k.sz;rw[hsz',hksz],.inr ⟨b,hb,RelB.ofCells rfl ⟨cs',oty,ofz,p2,z2,?_,fun i hi=>?_⟩ (fun _=>hFb) (fun e=>by rw[show k'.mu=k.mu from rfl,hmu]at e;cases e)⟩⟩
        ·show(B1T l1 l2 off m).length<=_;rw[p3,hsz'];exact z3
        ·have hi:i<(B1T l1 l2 off m).length:=hi;rw[hsz']at hi
         by_cases him:off<=i/\i<off+m
         ·have hj:i-off<cells.length:=by omega
          refine⟨cells[i-off],?_,?_⟩
          ·have:=p4 (i-off) hj;rw[show off+0+(i-off)=i by omega]at this;rw[this];exact List.getElem?_eq_getElem hj
          ·obtain⟨r1,r2⟩:=q6 (i-off) _ (List.getElem?_eq_getElem hj);refine⟨?_,r2⟩;have r1:RelI w F (.int k1 (l2.getD (i-off) 0)) cells[i-off]:=r1;show RelI w' F (.int k1 ((B1T l1 l2 off m).getD i 0)) _;rw[B9g hl2 (by omega) him.1 him.2];exact r1.mono hwF (fun _ h=>h)
         ·obtain⟨x,x1,x2,x3⟩:=z4 i hi;refine⟨x,?_,?_,x3⟩
          ·rw[p5 i (by omega)];exact x1
          ·have x2:RelI w F (.int k1 (l1.getD i 0)) x:=x2;show RelI w' F (.int k1 ((B1T l1 l2 off m).getD i 0)) x;rw[B6U hl2 (by omega) (by omega)];exact x2.mono hwF (fun _ h=>h))
      exact⟨_,w',F,ρ,hrun,g1,g2,g3,A04 _ _⟩
     unfold C95 at hdst;split at hdst
     ·cases hdst;cases hu with
      |imm _ _ hi=>cases hi
      |sl _ _ _ _ b k' hb hh hx hlc=>exact core b _ hb rfl
     ·rename_i id' n';rw[cond_eq_ite]at hdst;split at hdst
      ·rename_i hn0;cases hdst;have hn0:0<len:=Nat.le_of_ble_eq_true hn0;have hkn:k.n=len:=c4;cases hu with
       |imm _ _ hi=>cases hi
       |full _ _ k' _ hh hle hp hxx=>
        rw[hH]at hh;cases hh;rcases hxx hkn with⟨h0,_⟩|⟨h0,_⟩|⟨_,b,cp,_,_,_,e1,_,e3,_⟩
        ·omega
        ·omega
        ·exact core b cp e1 e3
      ·cases hdst
     ·rename_i id' n' sz' off' A0X;rw[cond_eq_ite]at hdst;split at hdst
      ·rename_i hn0;rw[Bool.and_eq_true]at hn0;cases hdst;have hn1:0<n':=Nat.le_of_ble_eq_true hn0.1;obtain rfl:=Nat.eq_of_beq_eq_true hn0.2;have hkn:k.n=n':=c4;cases hu with
       |imm _ _ hi=>cases hi
       |vw _ _ _ _ _ k' _ hh hle hp hxx=>
        rw[hH]at hh;cases hh;obtain⟨_,a0,c0,hfo,rfl⟩:=hxx hkn;rcases hfo with⟨h0,_⟩|⟨h0,_⟩|⟨_,b,cp,_,_,_,e1,_,e3,_⟩
        ·omega
        ·omega
        ·cases e3;refine core b (c0-off) e1 ?_;simp[Addr.add];omega
      ·cases hdst
     ·cases hdst
    ·cases hD
   ·cases hD
  ·cases hD
 ·cases hD
theorem A8B (hm:MRel G F ρ H w)(hl:∀id o,look id=some o->H id=some o){sz by_:Nat}{u v:AV}{x y:Value}{sT xT e ty:TypeId}
  (hs:P.underlying sT=some (.slice e)) (he:ElOk P e sz by_)
  (hu:RelV w F ρ H u x) (hv:RelV w F ρ H v y) (hD:A7V look sz u v=some D) (hc:A0M Sp D.cs):
  Eff G F ρ H w ((Builtin.copy_ #[sT,xT] ty #[x,y]).run P w) D:=by
 unfold A7V at hD;split at hD
 ·rename_i hS;cases hD;exact A8A hm hl hs he hu hv hS hc
 ·exact A9P hm hl hs he hu hv hD hc
end
section
variable {P:Program}{G:GL}{F:Nat->Prop}{ρ:Nat->Option Nat}{H:Nat->Option HO}{w:World}{look:Nat->Option HO}{D:Delta}{Sp:SpT}
theorem A9Q (hm:MRel G F ρ H w)(hfresh:∀i,i∈D.al->H i=none){site:Nat}{v:AV}{e:TypeId}{x:Value}(hx:RelV w F ρ H v x)(hD:B1W site v=some D)(hc:A0M Sp D.cs):
  ∃s,x=.string s/\Eff G F ρ H w ((Conv.stringToBytes e s).run P w) D:=by cases hD
theorem A42 (z:Array Value)(n:Nat)(hz:0<z.size):(Builtin.zeroCells z n).toList=A3a z.toList n:=B8t z n hz
theorem A8C (hm:MRel G F ρ H w)(hl:∀id o,look id=some o->H id=some o){sz:Nat}{z:List AV}{v:AV}{x:Value}{t e ty:TypeId}{i:TypeInfo}{zv:Value}
  (ht:P.underlying t=some (.slice e)) (hi:P.info? e=some i) (hiz:i.zero=some zv) (hzs:zv.cells.size=sz) (hz1:∀y∈zv.cells.toList,y.oneCell'=true) (hzr:RelIs w F z zv.cells.toList) (hpos:0<sz)
  (hx:RelV w F ρ H v x) (hD:A7Y look sz z v=some D) (hc:A0M Sp D.cs):Eff G F ρ H w ((Builtin.clear_ #[t] ty #[x]).run P w) D:=by
 unfold A7Y at hD;split at hD
 ·rename_i id n s off len;split at hD
  ·rename_i k hk;have hH:=hl _ _ hk;rw[cond_eq_ite]at hD;split at hD
   ·rename_i hcond;simp only[Bool.and_eq_true,Bool.not_eq_true']at hcond;obtain⟨hmu,hbx,hsz,hs2,hzl,hlit⟩:=hcond;have hsz:k.sz=sz:=Nat.eq_of_beq_eq_true hsz;have hs2:s=sz:=Nat.eq_of_beq_eq_true hs2;subst hs2;have hzl:z.length=s:=Nat.eq_of_beq_eq_true hzl;split at hD
    ·rename_i l hkc;cases hD;obtain⟨c0,c1,_⟩:=hc;have c0:k.n=n:=c0;have c1:0<len:=by simpa[Cd.holds,ltn]using c1
     obtain⟨hle,⟨e0,_⟩|⟨b,cap,cs,ty1,fz,p1,p2,rfl,p3,p4⟩⟩:=hx.vws hH c0
     ·omega
     obtain⟨hks,h1|⟨b',h1,hB⟩⟩:=hm.heap id _ hH
     ·rw[p1]at h1;cases h1.2
     rw[p1]at h1;cases h1;have hnm:k.c.isMap=false:=by rw[hkc];rfl
     obtain⟨cs',ty',fz',z1,z2,z3,z4⟩:=hB.ex hnm;rw[p2]at z1;cases z1;have hFb:¬ F b:=hB.mu hmu;have hll:l.length=n*s:=by
      rw[hkc,c0,hsz]at hks;exact hks
     have m1:(off+len)*s<=n*s:=Nat.mul_le_mul_right _ hle;have m2:(off+len)*s=off*s+len*s:=Nat.add_mul ..
     rw[hkc]at z3 z4;simp only[Cont.size]at z3 z4;have hzc:(Builtin.zeroCells zv.cells len).toList=A3a zv.cells.toList len:=A42 _ _ (by omega);have hrl:(A3a zv.cells.toList len).length=len*s:=by rw[A1z,Array.length_toList,hzs]
     have hrz:(A3a z len).length=len*s:=by rw[A1z,hzl]
     obtain⟨w',cs',q1,q2,q3,q4,q5,q6,q7,q8⟩:=A1g (G:=G) (P:=P) b ty1 fz (A3a zv.cells.toList len) (off*s) 0 cs w (fun v hv=>hz1 v (A5e hv)) p2 (fun j _=>z2 j) (by rw[hrl];omega);have hrun:(Builtin.clear_ #[t] ty #[.slice (some ⟨b,off*s,none⟩) len (cap-off)]).run P w=.ok (.tuple #[]) w':=by
      have hzv:∀w:World,(zeroValue e).run P w=.ok zv w:=fun w=>by simp[zeroValue,typeInfo,hi,hiz]
      obtain⟨A0X,rfl⟩:∃j,len=j+1:=⟨len-1,by omega⟩;unfold Builtin.clear_;simp only[List.getElem?_toArray,List.getElem?_cons_zero,Sem.run_bind,A0b ht,Result.andThen_ok,hzv,hzc,q1,Sem.run_pure]
     let c':Cont:=.vals (l.take (off*s)++A3a z len++l.drop ((off+len)*s))
     let k':Blk:={k with c:=c'}
     have hcz:c'.size=n*s:=by
      show(l.take (off*s)++A3a z len++l.drop ((off+len)*s)).length=_;rw[List.length_append,List.length_append,List.length_take,List.length_drop,hrz,hll];omega
     have hzi:∀j,j<len*s->∃y,(A3a zv.cells.toList len)[j]? =some y/\RelI w F ((A3a z len).getD j .undef) y/\y.oneCell'=true:=fun j hj=>by
      have hr:RelVs w F ρ H (A3a z len) (A3a zv.cells.toList len):=A8c hzr.toVs len;obtain⟨y,y1,y2⟩:=hr.getD (show j<(A3a z len).length by rw[hrz];exact hj);rw[List.getElem?_toArray]at y1;refine⟨y,y1,?_,hz1 y (A5e (List.mem_of_getElem? y1))⟩;have hlr:A1T (A3a z len)=true:=by
       clear hcz k' c' q4 q1 hrl hzc hrun hr y1 y2 hrz
       induction len with
       |zero=>rfl
       |succ m ih=>exact A4o hlit (A7a hlit m)
      exact B15 hlr (by rw[hrz];exact hj) y2
     obtain⟨g1,g2,g3⟩:=hm.write (w':=w') (o':=.blk k') hH p1 hFb q2 q6 q7 q8 (fun cs0 ty0 fz0 h=>by rw[p2]at h;cases h;exact⟨cs',ty1,fz,rfl,q3⟩) rfl
      (fun k0 h=>by cases h;exact⟨k',rfl,Nat.le_refl _,fun _=>⟨rfl,rfl,.inl rfl⟩⟩) (fun hk=>by
       refine⟨by show c'.size=k.n*k.sz;rw[hcz,c0,hsz],.inr ⟨b,p1,RelB.ofCells rfl ⟨cs',ty1,fz,q2,z2,by rw[q3];show c'.size<=_;rw[hcz,<- hll];exact z3,fun j hj=>?_⟩ (fun _=>hFb) (fun e=>by rw[show k'.mu=k.mu from rfl,hmu]at e;cases e)⟩⟩;have hwF:∀b,F b->w'.heap[b]? =w.heap[b]? :=fun j hj=>q6 j (fun e=>hFb (e▸hj));have hj:j<c'.size:=hj;rw[hcz]at hj;have hge:∀i,c'.getV i=(l.take (off*s)++A3a z len++l.drop ((off+len)*s)).getD i .undef:=fun _=>rfl
       by_cases hin:j<off*s
       ·obtain⟨y,y1,y2⟩:=z4 j (by omega);refine⟨y,?_,?_,y2.2⟩
        ·rw[q5 j (by omega)];exact y1
        ·show RelI w' F (c'.getV j) y;rw[hge,List.getD_eq_getElem?_getD,List.append_assoc,List.getElem?_append_left (by rw[List.length_take];omega),List.getElem?_take,if_pos hin,<- List.getD_eq_getElem?_getD];exact RelI.mono hwF (fun _ h=>h) y2.1
       ·by_cases hmid:j<off*s+len*s
        ·obtain⟨y,y1,y2,y3⟩:=hzi (j-off*s) (by omega);refine⟨y,?_,?_,y3⟩
         ·have:=q4 (j-off*s) (by rw[hrl];omega);rw[show off*s+0+(j-off*s)=j by omega]at this;rw[this];exact y1
         ·show RelI w' F (c'.getV j) y;rw[hge,List.getD_eq_getElem?_getD,List.append_assoc,List.getElem?_append_right (by rw[List.length_take];omega),List.length_take,Nat.min_eq_left (by omega),List.getElem?_append_left (by rw[hrz];omega),<- List.getD_eq_getElem?_getD];exact y2.mono hwF (fun _ h=>h)
        ·obtain⟨y,y1,y2⟩:=z4 j (by omega);refine⟨y,?_,?_,y2.2⟩
         ·rw[q5 j (by rw[hrl];omega)];exact y1
         ·show RelI w' F (c'.getV j) y;rw[hge,List.getD_eq_getElem?_getD,List.getElem?_append_right (by rw[List.length_append,List.length_take,hrz];omega),List.length_append,List.length_take,hrz,Nat.min_eq_left (by omega),List.getElem?_drop,
           show(off+len)*s+(j-(off*s+len*s))=j by omega,<- List.getD_eq_getElem?_getD]
          exact RelI.mono hwF (fun _ h=>h) y2.1)
     rw[A1F,A1F];exact⟨_,w',F,ρ,hrun,g1,g2,g3,.imm _ _ (.tup [] #[] .nil)⟩
    ·cases hD
   ·cases hD
  ·cases hD
 ·cases hD
theorem B4y {o:Oper}{ev:Operand->Value}{T:List (Nat×AV)}{src dst:TypeId}{X:Operand}(ho:o.op=.convert src dst X){x:XOp}(hx:A8r P src dst X=some x)(hm:MRel G F ρ H w)(hev:A3h G F ρ H w T ev){site:Nat}{d:Dir}
  (hD:A0L site look x d (x.opds.map (Opd.ev G T))=some D) (hc:A0M Sp D.cs) (hfresh:∀i,i∈D.al->H i=none):A1k P o ev w (KD G F ρ H w D):=by
 unfold A8r at hx;split at hx
 ·rename_i e a h1 h2 hX;split at hx
  ·rename_i h3;cases hx;have hv:=hev _ _ hX;have hD:B1W site (a.ev G T)=some D:=hD;obtain⟨s,e1,e2⟩:=A9Q (P:=P) (e:=e) hm hfresh hv hD hc;refine A1k.eff (r:=(convert src dst (ev X)).run P w) ?_ ?_
   ·unfold execOp;rw[ho];simp only[A0B]
   ·rw[e1];have:(convert src dst (.string s)).run P w=(Conv.stringToBytes e s).run P w:=by
     simp only[convert,Sem.run_bind,underlying,run_program,Result.andThen_ok,h1,h2,h3,Sem.run_pure]
    rw[this];exact e2
  ·cases hx
 ·cases hx
end
section
variable {P:Program}{G:GL}{F:Nat->Prop}{ρ:Nat->Option Nat}{H:Nat->Option HO}{w:World}{look:Nat->Option HO}{D:Delta}{o:Oper}{ev:Operand->Value}{T:List (Nat×AV)}
theorem B6V {f:FuncId}{A C:Array Operand}(ho:o.op=.makeFunc (.func f) A C){a c:List Opd}(hA:A1U A.toList=some a)(hC:A1U C.toList=some c)(hm:MRel G F ρ H w)(hev:A3h G F ρ H w T ev){site:Nat}{d:Dir}
  (hD:A0L site look (.mkf f a c) d ((XOp.mkf f a c).opds.map (Opd.ev G T))=some D):A1k P o ev w (KD G F ρ H w D):=by
 have h1:=hev.list hA;have h2:=hev.list hC;have hlen:(a.map (Opd.ev G T)).length=a.length:=by simp
 simp only[A0L,XOp.opds,List.map_append]at hD;rw[List.take_left' hlen,List.drop_left' hlen]at hD;have hrun:(execOp ev o).run P w=(Result.ok (.func (.func f) (A.map ev) (C.map ev)) w).andThen fun v w'=>.ok (.value v) w':=by
  unfold execOp;rw[ho];rfl
 exact A1k.eff hrun (Eff.val hm hD rfl (.fn _ _ _ _ _ (by simpa using h1) (by simpa using h2)))
theorem B6W {X:Operand}{i:Nat}(ho:o.op=.extract X i){a:Opd}(hX:A0x X=some a)(hm:MRel G F ρ H w)(hev:A3h G F ρ H w T ev){site:Nat}{d:Dir}
  (hD:A0L site look (.ext a i) d [a.ev G T]=some D) (hc:A0M (A1n P G) D.cs):A1k P o ev w (KD G F ρ H w D):=by
 have hrun:(execOp ev o).run P w=((Instr.extract (ev X) i).run P w).andThen fun v w'=>.ok (.value v) w':=by
  unfold execOp;rw[ho];simp only[A0B]
 exact A1k.eff hrun ((B02 (hev _ _ hX) hD hc).eff hm)
theorem B3r {X:Operand}(ho:o.op=.nilCheck X){a:Opd}(hX:A0x X=some a)(hm:MRel G F ρ H w)(hl:∀id o,look id=some o->H id=some o)(hev:A3h G F ρ H w T ev){site:Nat}{d:Dir}
  (hD:A0L site look (.nilck a) d [a.ev G T]=some D) (hc:A0M (A1n P G) D.cs):A1k P o ev w (KD G F ρ H w D):=by
 obtain⟨y,h1,h2,h3,h4⟩:=A75 (P:=P) (ρo:=ev) hl ho rfl (hev _ _ hX) hD hc;refine A1k.eff (r:=.ok y w) (by rw[h1];rfl) (Eff.pure hm rfl h3 h2)
theorem B2g (base:Nat):∀(hs:List Blk) (j i:Nat),i<hs.length->base+(j+i)∈B35 base j hs
 |[],j,i,h=>by simp at h
 |b::r,j,0,h=>by simp[B35]
 |b::r,j,i+1,h=>by
  have:=B2g base r (j+1) i (by simpa using h);simp only[B35,List.mem_cons];right;rw[show j+(i+1)=j+1+i by omega];exact this
theorem A3M (hm:MRel G F ρ H w)(hl:∀id o,look id=some o->H id=some o){site f:Nat}{vs:List AV}{xs:Array Value}{args:List AV}{ids:List Nat}{cs:List Cd}{v:AV}{hs:List Blk}(hz:A6L look 60 vs=some (args,ids,cs))(hc:A0M (A1n P G) (cs++[.call f args v hs]))(hfresh:∀i,i∈B35 (64*site) 0 hs->H i=none)
  (hv:RelVs w F ρ H vs xs.toList):A19 P f xs w (KD G F ρ H w {v:=A2s (64*site) v,ws:=A1l look ids++A18 (64*site) 0 hs,al:=B35 (64*site) 0 hs,cs:=cs++[.call f args v hs]}):=by
 obtain⟨hc1,hc2⟩:=hc.app;have hsp:SpecP P G f args v hs:=hc2.1;obtain⟨F1,f1,f2,f3,f4,f5,f6⟩:=A68 (look:=look) ids F H hm (fun id k hk=>.inl (hl _ _ hk));have hids:=(A3I 60).2.1 _ _ _ _ hz;obtain⟨g1,g2⟩:=(A2l (Sp:=A1n P G) hm hl f2.keep 60).2.1 _ _ _ _ hz hc1 (fun id hid b hb=>f4 id hid (hids id hid) b hb);have hargs:=A3e g1 g2 hv;have hfr:∀j,j<hs.length->A00 H (A1l look ids) (64*site+j)=none:=fun j hj=>by
  have h0:H (64*site+j)=none:=hfresh _ (by have:=B2g (64*site) hs 0 j hj;simpa using this);have hlk:look (64*site+j)=none:=by
   cases e:look (64*site+j)with
   |none=>rfl
   |some o=>rw[hl _ _ e]at h0;cases h0
  rw[f6 _ hlk];exact h0
 have fin:∀(y:Value) (w':World),(∃F' ρ',MRel G F' ρ' (hsH hs) w'/\Ext G F1 noR w F' ρ' w'/\RelV w' F' ρ' (hsH hs) v y)->KD G F ρ H w {v:=A2s (64*site) v,ws:=A1l look ids++A18 (64*site) 0 hs,al:=B35 (64*site) 0 hs,cs:=cs++[.call f args v hs]} y w':=by
  rintro y w' ⟨F',ρ',q1,q2,q3⟩;obtain⟨ρ2,r1,r2,r3,r4⟩:=f1.join hfr q1 q2;refine⟨F',ρ2,?_,f2.trans r2,?_,?_⟩
  ·simp only[A1c];exact r1
  ·simp only[A1c];exact f3.trans r3
  ·simp only[A1c];exact r4 _ _ q3
 exact(hsp F1 w xs f1.bare hargs).mono fin
theorem A7l (hm:MRel G F ρ H w)(hl:∀id o,look id=some o->H id=some o){site f:Nat}{d:Dir}{vs:List AV}{xs:Array Value}(hD:A4N site look d f vs=some D)(hc:A0M (A1n P G) D.cs)(hfresh:∀i,i∈D.al->H i=none)
  (hv:RelVs w F ρ H vs xs.toList):A19 P f xs w (KD G F ρ H w D):=by
 unfold A4N at hD;split at hD
 ·split at hD
  ·rename_i args ids cs hz;split at hD
   ·rename_i v hs _;cases hD;exact A3M hm hl hz hc hfresh hv
   ·cases hD
  ·cases hD
 ·split at hD
  ·rename_i args ids cs hz;cases hD;exact A3M hm hl hz hc hfresh hv
  ·cases hD
 ·exact A2W (cv:=.fn f [] []) hm hl hD hc hfresh hv
 ·cases hD
theorem A19.op {f:FuncId}{args:Array Value}{K:Value->World->Prop}(h:A19 P f args w K)(hr:(execOp ev o).run P w=(callFunc f args).run P w):A1k P o ev w K:=by
 unfold A1k;rw[hr];exact h
theorem B4z {c:Call}{X:Operand}{l:Nat}(ho:o.op=.call c)(hc:c.callee=.value X)(hX:ev X=.func (.yield l) #[] #[]):
  (execOp ev o).run P w=(Instr.yield l (c.args.map ev)).run P w:=by
 unfold execOp;rw[ho];simp only[resolve,hc,Deferred.ofValue,hX,Sem.run_bind,Sem.run_pure,Result.andThen_ok,invoke];simp
theorem A9R {c:Call}{X:Operand}{f:FuncId}{a cp:Array Value}(ho:o.op=.call c)(hc:c.callee=.value X)(hX:ev X=.func (.func f) a cp):
  (execOp ev o).run P w=(callFunc f (a++c.args.map ev++cp)).run P w:=by
 unfold execOp;rw[ho];simp only[resolve,hc,Deferred.ofValue,hX,Sem.run_bind,Sem.run_pure,Result.andThen_ok,invoke]
theorem B4A {c:Call}{b:Builtin}(ho:o.op=.call c)(hc:c.callee=.builtin b):
  (execOp ev o).run P w=(builtin b c.argTypes o.type (c.args.map fun|.const _=>true|_=>false) (c.args.map ev)).run P w:=by
 unfold execOp;rw[ho];simp only[resolve,hc,Sem.run_bind,Sem.run_pure,Result.andThen_ok,invoke];rfl
theorem C1W {X:Operand}:(#[X]:Array Operand).map ev= #[ev X]:=by simp
theorem C5A {X Y:Operand}:(#[X,Y]:Array Operand).map ev= #[ev X,ev Y]:=by simp
theorem B6X {α:Type}{a:Array α}{x y:α}(h:a.toList=[x,y]):a= #[x,y]:=by
 apply Array.toList_inj.1;simpa using h
theorem B2h {α:Type}{a:Array α}{x:α}(h:a.toList=[x]):a= #[x]:=by
 apply Array.toList_inj.1;simpa using h
theorem B1h {A:Array Operand}{a:Opd}(h:A1U A.toList=some [a]):∃X,A= #[X]/\A0x X=some a:=by
 generalize hl:A.toList=l at h;cases l with
 |nil=>simp[A1U]at h
 |cons X r=>
  simp only[A1U]at h;split at h
  ·rename_i h1 h2;cases h;cases r with
   |nil=>exact⟨X,B2h hl,h1⟩
   |cons Y r=>simp only[A1U]at h2;split at h2<;>cases h2
  ·cases h
theorem B1i {A:Array Operand}{a b:Opd}(h:A1U A.toList=some [a,b]):∃X Y,A= #[X,Y]/\A0x X=some a/\A0x Y=some b:=by
 generalize hl:A.toList=l at h;cases l with
 |nil=>simp[A1U]at h
 |cons X r=>
  simp only[A1U]at h;split at h
  ·rename_i h1 h2;cases h;cases r with
   |nil=>simp[A1U]at h2
   |cons Y r=>
    simp only[A1U]at h2;split at h2
    ·rename_i h3 h4;cases h2;cases r with
     |nil=>exact⟨X,Y,B6X hl,h1,h3⟩
     |cons Z r=>simp only[A1U]at h4;split at h4<;>cases h4
    ·cases h2
  ·cases h
theorem B3s {t:TypeId}{r:Option Operand}(ho:o.op=.makeMap t r){x:XOp}(hx:A5X P t r=some x)(hm:MRel G F ρ H w)(hev:A3h G F ρ H w T ev){site:Nat}{d:Dir}
  (hD:A0L site look x d (x.opds.map (Opd.ev G T))=some D) (hfresh:∀i,i∈D.al->H i=none):A1k P o ev w (KD G F ρ H w D):=by
 have hrun:(execOp ev o).run P w=((Instr.makeMap t (r.map ev)).run P w).andThen fun v w'=>.ok (.value v) w':=by
  unfold execOp;rw[ho];simp only[A0B]
 unfold A5X at hx;split at hx
 ·rename_i k e ht;split at hx
  ·rename_i kk vk hk hv;split at hx
   ·cases hx;exact A1k.eff hrun (A36 hm hfresh ht (fun x h=>by cases h) hD)
   ·rename_i X;split at hx
    ·rename_i a hX;cases hx;refine A1k.eff hrun (A36 hm hfresh ht (fun x h=>?_) hD);cases h;exact⟨by simp,_,[],rfl,hev _ _ hX⟩
    ·cases hx
  ·cases hx
 ·cases hx
theorem B4B {t:TypeId}{X Y:Operand}{ok:Bool}(ho:o.op=.lookup t X Y ok){x:XOp}(hx:A8o P t X Y ok=some x)(hm:MRel G F ρ H w)(hl:∀id o,look id=some o->H id=some o)(hev:A3h G F ρ H w T ev){site:Nat}{d:Dir}
  (hD:A0L site look x d (x.opds.map (Opd.ev G T))=some D):A1k P o ev w (KD G F ρ H w D):=by
 have hrun:(execOp ev o).run P w=((Instr.lookup t (ev X) (ev Y) ok).run P w).andThen fun v w'=>.ok (.value v) w':=by
  unfold execOp;rw[ho];simp only[A0B]
 unfold A8o at hx;split at hx
 ·rename_i k e a b ht hX hY;split at hx
  ·rename_i kk vk hk hv;cases hx;exact A1k.eff hrun (A8z hm hl ht hk hv (hev _ _ hX) (hev _ _ hY) hD)
  ·cases hx
 ·cases hx
theorem A9S {t:TypeId}{X Y Z:Operand}(ho:o.op=.mapUpdate t X Y Z\/o.op=.insert t X Y Z){x:XOp}(hx:A5c P t X Y Z=some x)(hm:MRel G F ρ H w)(hl:∀id o,look id=some o->H id=some o)(hev:A3h G F ρ H w T ev){site:Nat}{d:Dir}
  (hD:A0L site look x d (x.opds.map (Opd.ev G T))=some D):A1k P o ev w (KD G F ρ H w D):=by
 unfold A5c at hx;split at hx
 ·rename_i k e a b c ht hX hY hZ;split at hx
  ·rename_i kk vk hk hv;cases hx;obtain⟨y,w',F',ρ',g1,g2⟩:=A9M (P:=P) hm hl ht hk (hev _ _ hX) (hev _ _ hY) (hev _ _ hZ) hD;cases hr:(Instr.mapUpdate t (ev X) (ev Y) (ev Z)).run P w with
   |halt q w'=>rw[hr]at g1;cases g1
   |ok u w1=>
    rw[hr]at g1;simp only[Result.andThen_ok]at g1;cases g1;refine .inl ⟨.skip,undef,w',?_,.inr ⟨rfl,rfl⟩,F',ρ',g2⟩;unfold execOp;rcases ho with ho|ho<;>rw[ho]<;>simp[hr]
  ·cases hx
 ·cases hx
theorem B4C {c:Call}(ho:o.op=.call c){x:XOp}(hx:A8p P c=some x)(hcon:A5Y ev)(hm:MRel G F ρ H w)(hl:∀id o,look id=some o->H id=some o)(hev:A3h G F ρ H w T ev){site:Nat}{d:Dir}
  (hD:A0L site look x d (x.opds.map (Opd.ev G T))=some D) (hc:A0M (A1n P G) D.cs) (hfresh:∀i,i∈D.al->H i=none):A1k P o ev w (KD G F ρ H w D):=by
 unfold A8p at hx;split at hx
 ·rename_i as has;have hargs:=hev.list has;have bi:∀{b:Builtin} {s:Sem Value},c.callee=.builtin b->(builtin b c.argTypes o.type (c.args.map fun|.const _=>true|_=>false) (c.args.map ev))=(do pure (.value (<- s)))->Eff G F ρ H w (s.run P w) D->A1k P o ev w (KD G F ρ H w D):=by
   intro b s h1 h2 h3;refine A1k.eff ?_ h3;rw[B4A ho h1,h2,A0B]
  split at hx
  ·rename_i f hcal;cases hx;refine A19.op (A7l (xs:=c.args.map ev) hm hl hD hc hfresh (by simpa[XOp.opds]using hargs)) ?_;rw[A9R ho hcal (hcon.2 f)];simp
  ·rename_i X hnf hcal;split at hx
   ·rename_i a hX;cases hx;simp only[A0L,XOp.opds,List.map_cons,List.drop_succ_cons,List.drop_zero,x1,List.getD_cons_zero]at hD;unfold A7W at hD;split at hD
    ·rename_i f l1 l2 e1;have hfv:=hev _ _ hX;rw[e1]at hfv;obtain⟨y1,y2,e2,p1,p2⟩:=hfv.fns;refine A19.op (A7l (xs:=y1++c.args.map ev++y2) hm hl hD hc hfresh ?_) (A9R ho hcal e2);simp only[Array.toList_append,Array.toList_map];exact(p1.app hargs).app p2
    ·rename_i id e1;have hfv:=hev _ _ hX;rw[e1]at hfv;split at hD
     ·generalize hy:ev X=y at hfv;cases hfv with
      |imm _ _ hi=>cases hi
      |yld _ b ob hb hh hbx=>
       have:=A2W (cv:=.yld id) (xs:=c.args.map ev) hm hl hD hc hfresh (by simpa using hargs);unfold A1k;rw[B4z ho hcal hy];exact this b hb
     ·cases hD
    ·cases hD
   ·cases hx
  ·rename_i hcal;split at hx
   ·rename_i t a htys;obtain⟨X,hA,hX⟩:=B1h has;have hty:=B2h htys;split at hx
    ·rename_i ht;cases hx;refine bi hcal (s:=Builtin.len_ c.argTypes o.type (c.args.map ev)) rfl ?_;rw[hty,hA,C1W];exact(A9t ht (hev _ _ hX) hD).eff hm
    ·rename_i e ht;cases hx;refine bi hcal (s:=Builtin.len_ c.argTypes o.type (c.args.map ev)) rfl ?_;rw[hty,hA,C1W];exact(B00 hl ht (hev _ _ hX).unc hD hc).eff hm
    ·rename_i n e ht;cases hx;refine bi hcal (s:=Builtin.len_ c.argTypes o.type (c.args.map ev)) rfl ?_;rw[hty,hA];refine Eff.val hm hD (x:=.int .i64 n) ?_ (A04 _ _);simp[Builtin.len_,A0b ht,goInt]
    ·rename_i k e ht;cases hx;refine bi hcal (s:=Builtin.len_ c.argTypes o.type (c.args.map ev)) rfl ?_;rw[hty,hA,C1W];exact A9O hm hl ht (hev _ _ hX) hD
    ·cases hx
   ·cases hx
  ·rename_i hcal;split at hx
   ·rename_i t u a b htys;obtain⟨X,Y,hA,hX,hY⟩:=B1i has;have hty:=B6X htys;split at hx
    ·rename_i e e' ht hu;split at hx
     ·rename_i sz by_ z hel;cases hx;refine bi hcal (s:=Builtin.copy_ c.argTypes o.type (c.args.map ev)) rfl ?_;rw[hty,hA,C5A];exact A8B hm hl ht (A4s hel).1 (hev _ _ hX).unc (hev _ _ hY).unc hD hc
     ·cases hx
    ·cases hx
   ·cases hx
  ·rename_i hcal;split at hx
   ·rename_i t u a b htys;obtain⟨X,Y,hA,hX,hY⟩:=B1i has;have hty:=B6X htys;split at hx
    ·rename_i k e ht;split at hx
     ·rename_i kk vk hk hv;cases hx;refine bi hcal (s:=Builtin.delete_ c.argTypes o.type (c.args.map ev)) rfl ?_;rw[hty,hA,C5A];exact A9N hm hl ht hk (hev _ _ hX) (hev _ _ hY) hD
     ·cases hx
    ·cases hx
   ·cases hx
  ·rename_i hcal;split at hx
   ·rename_i t a htys;obtain⟨X,hA,hX⟩:=B1h has;have hty:=B2h htys;split at hx
    ·rename_i e ht;cases hx;refine bi hcal (s:=Builtin.cap_ c.argTypes o.type (c.args.map ev)) rfl ?_;rw[hty,hA,C1W];exact(B01 hl ht (hev _ _ hX) hD hc).eff hm
    ·cases hx
   ·cases hx
  ·rename_i hcal;split at hx
   ·rename_i t u a b htys;obtain⟨X,Y,hA,hX,hY⟩:=B1i has;have hty:=B6X htys;split at hx
    ·rename_i e e' ht hu;split at hx
     ·rename_i sz by_ z hel;cases hx;refine bi hcal (s:=Builtin.append_ c.argTypes o.type (c.args.map ev)) rfl ?_;rw[hty,hA,C5A];exact A6O hm hl hfresh ht hu (fun k h=>by cases h) (A4s hel).1 (hev _ _ hX).unc (hev _ _ hY).unc hD hc
     ·cases hx
    ·rename_i e k ht hu;split at hx
     ·rename_i sz by_ z hel;cases hx;refine bi hcal (s:=Builtin.append_ c.argTypes o.type (c.args.map ev)) rfl ?_;rw[hty,hA,C5A];exact A8w hm hfresh ht hu (A4s hel).1 (hev _ _ hX) (hev _ _ hY) hD hc
     ·cases hx
    ·cases hx
   ·cases hx
  ·rename_i hcal;split at hx
   ·rename_i t a htys;obtain⟨X,hA,hX⟩:=B1h has;have hty:=B2h htys;split at hx
    ·rename_i e ht;split at hx
     ·rename_i sz by_ z hel;split at hx
      ·cases hx
      ·rename_i hsz0;cases hx;refine bi hcal (s:=Builtin.clear_ c.argTypes o.type (c.args.map ev)) rfl ?_;rw[hty,hA,C1W];obtain⟨hEl,hz⟩:=A4s hel;obtain⟨i,v,h1,h2,h3,h4,h5,h6⟩:=A2n (w:=w) hz;obtain⟨i',v',g1,g2,g3,g4,g5⟩:=hEl.inf;rw[h1]at g1;cases g1;rw[h2]at g4;cases g4;exact A8C hm hl ht h1 h2 g5 h4 (h5 w F) (Nat.pos_of_ne_zero (fun e=>hsz0 e)) (hev _ _ hX) hD hc
     ·cases hx
    ·cases hx
   ·cases hx
  ·rename_i hcal;cases hx;simp only[A0L,XOp.opds]at hD;split at hD
   ·rename_i v hv;obtain⟨y,h1,h2⟩:=A9v (P:=P) (xs:=c.args.map ev) (tys:=c.argTypes) (ty:=o.type) (by simpa using hargs) hv;refine bi hcal (s:=Builtin.max_ c.argTypes o.type (c.args.map ev)) rfl ?_;exact Eff.val hm hD h1 h2
   ·cases hD
  ·rename_i hcal;cases hx;simp only[A0L,XOp.opds]at hD;split at hD
   ·rename_i v hv;obtain⟨y,h1,h2⟩:=A9v (P:=P) (xs:=c.args.map ev) (tys:=c.argTypes) (ty:=o.type) (by simpa using hargs) hv;refine bi hcal (s:=Builtin.min_ c.argTypes o.type (c.args.map ev)) rfl ?_;exact Eff.val hm hD h1 h2
   ·cases hD
  ·cases hx
 ·cases hx
end
section
variable {P:Program}{G:GL}{F:Nat->Prop}{ρ:Nat->Option Nat}{H:Nat->Option HO}{w:World}{look:Nat->Option HO}{D:Delta}{o:Oper}{ev:Operand->Value}{T:List (Nat×AV)}
theorem B2i {x:XOp}(hx:A9G P o.op=some x)(hcon:A5Y ev)(hm:MRel G F ρ H w)(hl:∀id o,look id=some o->H id=some o)(hev:A3h G F ρ H w T ev){site:Nat}{d:Dir}
  (hD:A0L site look x d (x.opds.map (Opd.ev G T))=some D) (hc:A0M (A1n P G) D.cs) (hfresh:∀i,i∈D.al->H i=none):A1k P o ev w (KD G F ρ H w D):=by
 unfold A9G at hx;split at hx
 ·rename_i X ho;split at hx
  ·rename_i a hX;cases hx;exact B4m (.inl ho) hX hm hev hD
  ·cases hx
 ·rename_i X ho;split at hx
  ·rename_i a hX;cases hx;exact B4m (.inr ho) hX hm hev hD
  ·cases hx
 ·rename_i ho;split at hx
  ·rename_i h1 h2 h3;cases hx;exact B4n ho h1 h2 h3 hm hev hD hc
  ·cases hx
 ·rename_i ho;exact B3h ho hx hm hD hfresh
 ·rename_i ho;split at hx
  ·rename_i hX;cases hx;exact B6M ho hX hm hev hD hfresh
  ·cases hx
 ·rename_i ho;exact B3m ho hx hm hev hD
 ·rename_i ho;exact B1e ho hx hm hev hD hfresh
 ·rename_i ho;exact B4o ho hx hm hl hev hD hc
 ·rename_i ho;exact B3i ho hx hm hl hev hD hc
 ·rename_i ho;split at hx
  ·rename_i hX;cases hx;exact B3r ho hX hm hl hev hD hc
  ·cases hx
 ·rename_i ho;exact B6N ho hx hcon hm hl hev hD hc
 ·rename_i ho;split at hx
  ·rename_i hX;cases hx;exact B9e ho hX hm hev hD hc
  ·cases hx
 ·rename_i ho;split at hx
  ·rename_i h;cases hx;exact B4r ho h hm hev hD hc
  ·split at hx
   ·rename_i hq;cases hx;exact B4u ho hq hm hl hev hD hc
   ·exact B4y ho hx hm hev hD hc hfresh
 ·rename_i ho;split at hx
  ·rename_i h1 h2;cases hx;exact B6Q ho h2 h1 hm hev hD hfresh
  ·cases hx
 ·rename_i ho;split at hx
  ·rename_i h1;cases hx;exact B6R ho h1 hm hl hev hD hc
  ·cases hx
 ·rename_i ho;split at hx
  ·rename_i h1 h2;cases hx;exact B6V ho h1 h2 hm hev hD
  ·cases hx
 ·rename_i ho;exact B6P ho hx hm hev hD hc hfresh
 ·rename_i ho;exact B3s ho hx hm hev hD hfresh
 ·rename_i ho;exact B4B ho hx hm hl hev hD
 ·rename_i ho;exact A9S (.inl ho) hx hm hl hev hD
 ·rename_i ho;exact A9S (.inr ho) hx hm hl hev hD
 ·rename_i ho;exact B3l ho hx hm hl hev hD hc
 ·rename_i ho;exact B1d ho hx hm hl hev hD hc
 ·rename_i ho;exact B3k ho hx hm hev hD hc
 ·rename_i ho;exact B4s ho hx hm hl hev hD hc
 ·rename_i ho;exact B6O ho hx hm hev hD hc
 ·rename_i ho;split at hx
  ·rename_i hX;cases hx;exact B6W ho hX hm hev hD hc
  ·cases hx
 ·rename_i ho;exact B4C ho hx hcon hm hl hev hD hc hfresh
 ·cases hx
end
structure RSf (G:GL)(F:Nat->Prop)(ρ:Nat->Option Nat)(T:Nat->Option AV)(H:Nat->Option HO)(n:Nat)(a:Act)(w:World):Prop where
 size:a.tmps.size=n
 tmps:∀t v,T t=some v->RelV w F ρ H v (a.tmps.getD t undef)
 mem:MRel G F ρ H w
 defs:DefOk F ρ a w
theorem DefOk.ext {G:GL}{ρ ρ':Nat->Option Nat}{F F':Nat->Prop}{a a':Act}{w w':World}(h:DefOk F ρ a w)(he:Ext G F ρ w F' ρ' w')(hd:a'.defers=a.defers):DefOk F' ρ' a' w':=by
 obtain⟨rs,h1,h2,h3⟩:=h;refine⟨rs,h1,hd.trans h2,fun r hr=>?_⟩;obtain⟨g1,g2,g3⟩:=h3 r hr;have hlt:r<w.heap.size:=A0D g1;refine⟨(he.same r hlt g2).trans g1,fun id e=>?_,fun hF=>?_⟩
 ·rcases he.im id r e with⟨id',h'⟩|h'
  ·exact g2 id' h'
  ·omega
 ·rcases he.more r hF with h'|h'|⟨id,h'⟩
  ·exact g3 h'
  ·omega
  ·exact g2 id h'
def A6T (T:List (Nat×AV)):List Opd->List (Nat×AV)
 |[]=>[]
 |.t n::r=>match aget T n with
  |some v=>(n,v)::A6T T r
  |none=>A6T T r
 |_::r=>A6T T r
def B4D:AV->AV
 |.may _ v=>v
 |v=>v
def A9T:List (Nat×AV)->List (Nat×AV)
 |[]=>[]
 |(t,v)::r=>(t,B4D v)::A9T r
def A7m:AV->List Cd->List Cd
 |.may b _,cs=>.b b::cs
 |_,cs=>cs
def A53:List (Nat×AV)->List Cd->List Cd
 |[],cs=>cs
 |(_,v)::r,cs=>A7m v (A53 r cs)
def B4E:XOp->Bool
 |.mv _=>true
 |.pick _ _ _=>true
 |_=>false
inductive GDir where
 |auto
 |on
 |onl
 |off
 |may
def B2j (G:GL)(site:Nat)(look:Nat->Option HO)(op:XOp)(d:Dir)(rt:List (Nat×AV)):Option Delta:=
 match B4E op with
 |true=>A0L site look op d (op.opds.map (Opd.ev G rt))
 |false=>match A0L site look op d (op.opds.map (Opd.ev G (A9T rt)))with
  |some D=>some {D with cs:=A53 rt D.cs}
  |none=>none
def geC (b want:Bool):List Cd->List Cd
 |[]=>[]
 |c::r=>.ge b want c::geC b want r
def B6Y (cs:List Cd):Delta:={v:=.may false (.bool false),ws:=[],al:=[],cs}
def C6E:Option AV->Option (Bool×Bool)
 |none=>none
 |some v=>B88 8 v
def B30 (G:GL)(site:Nat)(look:Nat->Option HO)(x:XO)(g:GDir)(d:Dir)(gv:Option AV)(rt:List (Nat×AV)):Option Delta:=
 match x.guard with
 |none=>B2j G site look x.op d rt
 |some (_,want)=>match C6E gv with
  |some (dd,b)=>match g with
   |.auto=>cond (dd&&A1o (!want) b) (B2j G site look x.op d rt) (some (B6Y []))
   |.on=>match B2j G site look x.op d rt with
    |some D=>some {D with cs:=.b (dd&&A1o (!want) b)::D.cs}
    |none=>none
   |.onl=>match B2j G site look x.op d rt with
    |some D=>some {D with cs:=.b (dd&&A1o (!want) b)::D.cs}
    |none=>none
   |.off=>some (B6Y [.b (!(dd&&A1o (!want) b))])
   |.may=>match B2j G site look x.op d rt with
    |some D=>match D.ws,D.al with
     |[],[]=>some {v:=B6w (dd&&A1o (!want) b) D.v,ws:=[],al:=[],cs:=geC (dd&&A1o (!want) b) true D.cs}
     |_,_=>none
    |none=>none
  |none=>none
def B9h (ops:Array Oper):Option (Nat×Bool)->Option (Option (Nat×Bool))
 |none=>some none
 |some (j,want)=>match(ops[j]?).bind (·.dst)with
  |some t=>some (some (t,want))
  |none=>none
def A54 (P:Program)(ops:Array Oper)(o:Oper):Option XO:=
 match A8s P o.op,B9h ops o.guard with
 |some op,some g=>some {dst:=o.dst,op:=op,guard:=g}
 |_,_=>none
def A7n (T:Nat->Option AV):Option Nat->AV->Nat->Option AV
 |none,_=>T
 |some t,v=>upd T t (some v)
def A6U (P:Program)(ops:Array Oper)(i:Nat)(K:Act->World->Prop)(a:Act)(w:World):Prop:=
 match ops[i]? with
 |none=>K a w
 |some o=>if Region.wanted o (yielded ops a.tmps)then A1k P o a.eval w (fun v w'=>K (a.put o.dst v) w')else K (a.put o.dst undef) w
def A2a (P:Program)(ops:Array Oper)(R:Act->World->Prop):List Nat->Act->World->Prop
 |[],a,w=>R a w
 |i::r,a,w=>A6U P ops i (A2a P ops R r) a w
def A7o (P:Program)(ops:Array Oper)(R:Act->World->Prop):Nat->Array Bool->Act->World->Prop
 |0,listed,a,w=>Region.ready .any ops listed=[]/\R a w
 |fuel+1,listed,a,w=>(Region.ready .any ops listed=[]->R a w)/\∀i∈Region.ready .any ops listed,A6U P ops i (A7o P ops R fuel (listed.setIfInBounds i true)) a w
theorem A7p {P:Program}{ops:Array Oper}{i:Nat}{K K':Act->World->Prop}{a:Act}{w:World}(hk:∀a w,K a w->K' a w)(h:A6U P ops i K a w):A6U P ops i K' a w:=by
 unfold A6U at h ⊢;split
 ·rename_i e;rw[e]at h;exact hk _ _ h
 ·rename_i o e;rw[e]at h;simp only at h;split
  ·rename_i hw;rw[if_pos hw]at h;exact A4R.mono h fun v w'=>hk _ _
  ·rename_i hw;rw[if_neg hw]at h;exact hk _ _ h
theorem A9U {P:Program}{ops:Array Oper}{R:Act->World->Prop}:∀(fuel t:Nat) (listed:Array Bool) (a:Act) (w:World),A7o P ops R fuel listed a w->A2a P ops R (Region.linearise.go .any ops fuel t listed []) a w:=by
 intro fuel
 induction fuel with
 |zero=>intro t listed a w h;simpa[Region.linearise.go,A2a]using h.2
 |succ fuel ih=>
  intro t listed a w h;obtain⟨h₀,h₁⟩:=h;simp only[Region.linearise.go]
  change A2a P ops R (match(Region.ready .any ops listed)[t%(Region.ready .any ops listed).length]? with
   |some i=>Region.linearise.go .any ops fuel (t/(Region.ready .any ops listed).length) (listed.setIfInBounds i true) [i]
   |none=>[].reverse) a w
  cases hi:(Region.ready .any ops listed)[t%(Region.ready .any ops listed).length]? with
  |none=>
   have hnil:Region.ready .any ops listed=[]:=by
    cases hr:Region.ready .any ops listed with
    |nil=>rfl
    |cons x xs=>
     rw[hr]at hi;have hlt:t%(x::xs).length<(x::xs).length:=Nat.mod_lt _ (by simp);simp at hi;simp at hlt;omega
   simpa[A2a]using h₀ hnil
  |some i=>
   simp only[];rw[linearise_go_acc,List.reverse_singleton,List.singleton_append];exact A7p (fun a w=>ih _ _ a w) (h₁ i (List.mem_of_getElem? hi))
section
variable {P:Program}{G:GL}{F:Nat->Prop}{ρ:Nat->Option Nat}{T:Nat->Option AV}{H:Nat->Option HO}{n:Nat}{a:Act}{w:World}{look:Nat->Option HO}{D:Delta}{o:Oper}{rt:List (Nat×AV)}
theorem A8D (hm:MRel G F ρ H w)(hrt:∀t v,aget rt t=some v->RelV w F ρ H v (a.tmps.getD t undef)):A3h G F ρ H w rt a.eval:=by
 intro X o hX;cases X with
 |tmp t=>
  cases hX;simp only[Opd.ev,Act.eval];cases h:aget rt t with
  |none=>exact .imm _ _ (.undef _)
  |some v=>exact hrt t v h
 |const v=>
  simp only[A0x]at hX;split at hX
  ·rename_i u hu;cases hX;exact .imm _ _ ((A5R w F 12).1 _ _ hu)
  ·cases hX
 |global g=>
  cases hX;simp only[Opd.ev,Act.eval];cases h:G.g g with
  |none=>exact .imm _ _ (.undef _)
  |some c=>
   obtain⟨h1,xs,h2,h3,h4⟩:=hm.glob g c h;exact .imm _ _ (.iptr c g 0 xs h1 (fun i hi=>by rw[Nat.zero_add];exact h2 i hi) h3 h4)
 |func f=>
  cases hX;exact .imm _ _ (.fn f [] [] #[] #[] .nil .nil)
theorem A4T:A5Y a.eval:=⟨fun _=>rfl,fun _=>rfl⟩
theorem B4F {Sp:SpT}{v:AV}{cs:List Cd}(h:A0M Sp (A7m v cs)):A0M Sp cs/\(B4D v=v\/v=.may true (B4D v)):=by
 cases v with
 |may b v=>
  obtain⟨h1,h2⟩:=h;have:b=true:=h1;subst this;exact⟨h2,.inr rfl⟩
 |_=>exact⟨h,.inl rfl⟩
theorem A9V {Sp:SpT}:∀{rt:List (Nat×AV)} {cs:List Cd},A0M Sp (A53 rt cs)->A0M Sp cs/\∀t v,aget (A9T rt) t=some v->aget rt t=some v\/aget rt t=some (.may true v)
 |[],cs,h=>⟨h,fun t v h=>by cases h⟩
 |(k,u)::r,cs,h=>by
  obtain⟨h1,h2⟩:=B4F h;obtain⟨h3,h4⟩:=A9V h1;refine⟨h3,fun t v hv=>?_⟩;simp only[A9T,aget]at hv ⊢;cases e:Nat.beq k t with
  |false=>
   rw[e]at hv;simp only[cond_false]at hv ⊢;exact h4 t v hv
  |true=>
   rw[e]at hv;simp only[cond_true]at hv ⊢;cases hv;rcases h2 with h2|h2
   ·left;rw[h2]
   ·right;rw[<- h2]
theorem B3t {op:XOp}(hx:A8s P o.op=some op):A9G P o.op=some op\/op=.bad:=by
 unfold A8s at hx;split at hx
 ·cases hx
 ·split at hx
  ·rename_i h;cases hx;exact .inl h
  ·cases hx;exact .inr rfl
theorem B1j {op:XOp}(hx:A9G P o.op=some op)(hm:MRel G F ρ H w)(hrt:∀t v,aget rt t=some v->RelV w F ρ H v (a.tmps.getD t undef))(hl:∀id o,look id=some o->H id=some o){site:Nat}{d:Dir}
  (hD:B2j G site look op d rt=some D) (hc:A0M (A1n P G) D.cs) (hfresh:∀i,i∈D.al->H i=none):A1k P o a.eval w (KD G F ρ H w D):=by
 unfold B2j at hD;split at hD
 ·exact B2i hx A4T hm hl (A8D hm hrt) hD hc hfresh
 ·split at hD
  ·rename_i D' hD';cases hD;obtain⟨h1,h2⟩:=A9V hc;have hrt':∀t v,aget (A9T rt) t=some v->RelV w F ρ H v (a.tmps.getD t undef):=fun t v h=>by
    rcases h2 t v h with h|h
    ·exact hrt t v h
    ·exact(hrt t _ h).mayInv rfl
   have:=B2i (D:=D') hx A4T hm hl (A8D hm hrt') hD' h1 hfresh;exact this
  ·cases hD
theorem B3u {op:XOp}(hx:A8s P o.op=some op)(hm:MRel G F ρ H w)(hrt:∀t v,aget rt t=some v->RelV w F ρ H v (a.tmps.getD t undef))(hl:∀id o,look id=some o->H id=some o){site:Nat}{d:Dir}
  (hD:B2j G site look op d rt=some D) (hc:A0M (A1n P G) D.cs) (hfresh:∀i,i∈D.al->H i=none):A1k P o a.eval w (KD G F ρ H w D):=by
 rcases B3t hx with h|rfl
 ·exact B1j h hm hrt hl hD hc hfresh
 ·simp[B2j,B4E,A0L]at hD
theorem B8v {Sp:SpT}{b want:Bool}(hb:A1o (!want) b=true):∀{cs:List Cd},A0M Sp (geC b want cs)->A0M Sp cs
 |[],_=>trivial
 |c::r,h=>⟨h.1 hb,B8v hb h.2⟩
variable {ops:Array Oper}{Q:Exit->Act->World->Prop}
theorem B4G {tmps:Array Value}{t:Nat}{b:Bool}(h:tmps.getD t undef=.bool b):tmps[t]? =some (.bool b):=by
 cases e:tmps[t]? with
 |none=>simp[Array.getD_eq_getD_getElem?,e,undef]at h
 |some v=>simp[Array.getD_eq_getD_getElem?,e]at h;rw[h]
theorem B4H {x:XO}(hg:B9h ops o.guard=some x.guard):match x.guard with
  |none=>∀(a:Act),Region.wanted o (yielded ops a.tmps)=true
  |some (t,want)=>∀(a:Act) (d b:Bool),(d=true->a.tmps.getD t undef=.bool b)->(d=false->a.tmps.getD t undef=undef)->Region.wanted o (yielded ops a.tmps)=(d&&A1o (!want) b):=by
 unfold B9h at hg;split at hg
 ·rename_i e;cases hx:x.guard with
  |none=>intro a;simp[Region.wanted,e]
  |some p=>rw[hx]at hg;cases hg
 ·rename_i j want e;split at hg
  ·rename_i t ht;cases hx:x.guard with
   |none=>rw[hx]at hg;cases hg
   |some p=>
    rw[hx]at hg;cases hg;intro a d b h1 h0;cases d with
    |true=>
     have hb:=B4G (h1 rfl);simp only[Region.wanted,e,yielded,ht,Option.bind_some,hb];cases want<;>cases b<;>rfl
    |false=>
     have h0:=h0 rfl;simp only[Region.wanted,e,yielded,ht,Option.bind_some];cases hh:a.tmps[t]? with
     |none=>rfl
     |some y=>
      have:y=undef:=by
       simp[Array.getD_eq_getD_getElem?,hh]at h0;exact h0
      subst this;rfl
  ·cases hg
theorem B9i {x:XO}{site:Nat}{d:Dir}{gv:Option AV}{Sp:SpT}{t:Nat}{want:Bool}{y:Value}(hD:B30 G site look x .onl d gv rt=some D)(hc:A0M Sp D.cs)(hg:x.guard=some (t,want))(hrel:∀v,gv=some v->RelV w F ρ H v y):y=.bool want:=by
 unfold B30 at hD;rw[hg]at hD;simp only at hD;split at hD
 ·rename_i dd b hgd;split at hD
  ·rename_i D' hD';cases hD;have he:(dd&&A1o (!want) b)=true:=hc.1;rw[Bool.and_eq_true]at he;cases gv with
   |none=>cases hgd
   |some v=>
    have:=(A5I 8 hgd (hrel v rfl)).1 he.1;rw[this];have h2:=he.2;cases want<;>cases b<;>simp_all [A1o]
  ·cases hD
 ·cases hD
theorem B4I {F':Nat->Prop}{ρ':Nat->Option Nat}{H':Nat->Option HO}{w':World}(hr:RSf G F ρ T H n a w)(hm:MRel G F' ρ' H' w')(he:Ext G F ρ w F' ρ' w')(hk:HKeep w ρ H w' ρ' H'){dst:Option Nat}(hd:∀t,dst=some t->t<n){v:AV}{y:Value}(hv:RelV w' F' ρ' H' v y):
  RSf G F' ρ' (A7n T dst v) H' n (a.put dst y) w':=by
 have hold:∀t v,T t=some v->RelV w' F' ρ' H' v (a.tmps.getD t undef):=fun t v h=>(hr.tmps t v h).mono he.frz he.keep hk;cases dst with
 |none=>exact⟨hr.size,hold,hm,hr.defs.ext he rfl⟩
 |some d=>
  refine⟨by simp[Act.put];exact hr.size,fun t u h=>?_,hm,hr.defs.ext he rfl⟩;have hd:=hd d rfl;rw[<- hr.size]at hd;simp only[A7n]at h
  by_cases e:t=d
  ·subst e;rw[A0e]at h;cases h;simp[Act.put,Array.getD_eq_getD_getElem?,hd];exact hv
  ·rw[A0a _ _ e]at h;have:=hold t u h;simpa[Act.put,Array.getD_eq_getD_getElem?,Array.getElem?_setIfInBounds_ne (Ne.symm e)]using this
theorem A55 {i:Nat}(hi:ops[i]? =some o){x:XO}(hx:A54 P ops o=some x)(hr:RSf G F ρ T H n a w)(hrt:∀t v,aget rt t=some v->T t=some v){gv:Option AV}
  (hgv:∀t want v,x.guard=some (t,want)->gv=some v->T t=some v) (hl:∀id o,look id=some o->H id=some o) {site:Nat} {g:GDir} {d:Dir}
  (hD:B30 G site look x g d gv rt=some D) (hdst:∀t,x.dst=some t->t<n) (hfresh:∀i,i∈D.al->H i=none) (hc:A0M (A1n P G) D.cs) {K:Act->World->Prop}
  (hK:∀y w' F' ρ',RSf G F' ρ' (A7n T x.dst D.v) (A00 H D.ws) n (a.put x.dst y) w'->Ext G F ρ w F' ρ' w'->HKeep w ρ H w' ρ' (A00 H D.ws)->K (a.put x.dst y) w'):A6U P ops i K a w:=by
 unfold A54 at hx;split at hx
 ·rename_i op gd hop hg;cases hx;have hw:=B4H (x:={dst:=o.dst,op:=op,guard:=gd}) hg;have hrel:∀t v,aget rt t=some v->RelV w F ρ H v (a.tmps.getD t undef):=fun t v h=>hr.tmps t v (hrt t v h);have skip:∀{D':Delta},D'.ws=[]->(∀y w' F' ρ',RSf G F' ρ' (A7n T o.dst D'.v) (A00 H D'.ws) n (a.put o.dst y) w'->Ext G F ρ w F' ρ' w'->HKeep w ρ H w' ρ' (A00 H D'.ws)->K (a.put o.dst y) w')->RelV w F ρ H D'.v undef->K (a.put o.dst undef) w:=by
   intro D' hws hK hv;rw[hws]at hK;exact hK undef w F ρ (B4I hr hr.mem (Ext.refl _ _ _) (HKeep.refl _ _ _) hdst hv) (Ext.refl _ _ _) (HKeep.refl _ _ _)
  have run:∀{D':Delta},B2j G site look op d rt=some D'->A0M (A1n P G) D'.cs->(∀i,i∈D'.al->H i=none)->
    (∀y w' F' ρ',RSf G F' ρ' (A7n T o.dst D'.v) (A00 H D'.ws) n (a.put o.dst y) w'->Ext G F ρ w F' ρ' w'->HKeep w ρ H w' ρ' (A00 H D'.ws)->K (a.put o.dst y) w')->A1k P o a.eval w (fun v w'=>K (a.put o.dst v) w'):=by
   intro D' hD' hc' hf' hK';have hok:=B3u (a:=a) hop hr.mem hrel hl hD' hc' hf';refine hok.mono ?_;rintro y w' ⟨F',ρ',q1,q2,q3,q4⟩;exact hK' y w' F' ρ' (B4I hr q1 q2 q3 hdst q4) q2 q3
  unfold A6U;rw[hi];simp only;unfold B30 at hD;split at hD
  ·rename_i hgn;simp only at hgn;subst hgn;rw[if_pos (hw a)];exact(run hD hc hfresh hK)
  ·rename_i t want hgs;simp only at hgs;subst hgs;split at hD
   ·rename_i d0 b hgd;have hbb:(d0=true->a.tmps.getD t undef=.bool b)/\(d0=false->a.tmps.getD t undef=undef):=by
     cases gv with
     |none=>cases hgd
     |some v=>exact A5I 8 hgd (hr.tmps t _ (hgv t want _ rfl rfl))
    have hwant:Region.wanted o (yielded ops a.tmps)=(d0&&A1o (!want) b):=hw a d0 b hbb.1 hbb.2;rw[hwant];generalize (d0&&A1o (!want) b)=e at hD ⊢;split at hD
    ·cases hn:e with
     |true=>
      rw[hn]at hD;rw[if_pos rfl];exact(run hD hc hfresh hK)
     |false=>
      rw[hn]at hD;cases hD;rw[if_neg (by simp)];exact skip (D':=B6Y []) rfl hK (.may _ _ _ (fun h=>by cases h) (fun _=>rfl))
    ·split at hD
     ·rename_i D' hD';cases hD;have hn:e=true:=hc.1;rw[hn,if_pos rfl];exact(run hD' hc.2 hfresh hK)
     ·cases hD
    ·split at hD
     ·rename_i D' hD';cases hD;have hn:e=true:=hc.1;rw[hn,if_pos rfl];exact(run hD' hc.2 hfresh hK)
     ·cases hD
    ·cases hD;have hn:(!e)=true:=hc.1;have hn':e=false:=by cases e<;>simp_all
     rw[hn',if_neg (by simp)];exact skip (D':=B6Y [.b (!e)]) rfl hK (.may _ _ _ (fun h=>by cases h) (fun _=>rfl))
    ·split at hD
     ·rename_i D' hD';split at hD
      ·rename_i hws hal;cases hD;cases hn:e with
       |true=>
        rw[if_pos rfl];subst hn;refine(run hD' (B8v (b:=true) (want:=true) rfl hc) (fun i hi=>by rw[hal]at hi;cases hi) fun y w' F' ρ' h1 h2 h3=>hK y w' F' ρ' ?_ h2 (by rw[hws]at h3;exact h3));rw[hws]at h1;refine⟨h1.size,fun t v h=>?_,h1.mem,h1.defs⟩;cases hdd:o.dst with
        |none=>rw[hdd]at h h1;exact h1.tmps t v h
        |some d'=>
         rw[hdd]at h h1;simp only[A7n]at h
         by_cases e:t=d'
         ·subst e;rw[A0e]at h;cases h;exact A9n (fun _=>h1.tmps t _ (A0e _ _ _)) (fun e=>by cases e)
         ·rw[A0a _ _ e]at h;exact h1.tmps t v (by simp only[A7n];rw[A0a _ _ e];exact h)
       |false=>
        rw[if_neg (by simp)];subst hn;exact skip (D':={v:=B6w false D'.v,ws:=[],al:=[],cs:=geC false true D'.cs}) rfl hK (A9n (fun e=>by cases e) (fun _=>rfl))
      ·cases hD
     ·cases hD
   ·cases hD
 ·cases hx
end
abbrev Dirs:=List (Nat×(GDir×Dir))
def A6V (ds:Dirs)(s:Nat):GDir×Dir:=match aget ds s with
 |some d=>d
 |none=>(aget ds 0).getD (.auto,.plain)
def B6s (S:St)(dst:Option Nat)(D:Delta):St:=
 {t:=match dst with|some t=>A1B S.t t D.v|none=>S.t,h:=A29 S.h D.ws,n:=S.n}
def B6Z:Option Nat->Nat->Bool
 |none,_=>true
 |some t,n=>Nat.ble (t+1) n
def A24 (h:List (Nat×HO)):List Nat->Bool
 |[]=>true
 |i::r=>match aget h i with
  |none=>A24 h r
  |some _=>false
def C5B (T:List (Nat×AV)):Option (Nat×Bool)->Option AV
 |some (t,_)=>aget T t
 |none=>none
def C1z (S:St):GDir->Option (Nat×Bool)->St
 |.onl,some (t,want)=>{S with t:=A1B S.t t (.bool want)}
 |_,_=>S
def A6W (G:GL)(ds:Dirs):List XO->Nat->St->Option (St×List Cd)
 |[],_,S=>some (S,[])
 |x::r,s,S=>match B30 G s (aget S.h) x (A6V ds s).1 (A6V ds s).2 (C5B S.t x.guard) (A6T S.t x.op.opds)with
  |some D=>cond (B6Z x.dst S.n&&A24 S.h D.al) (match A6W G ds r (s+1) (B6s (C1z S (A6V ds s).1 x.guard) x.dst D)with
   |some (S',cs)=>some (S',D.cs++cs)
   |none=>none) none
  |none=>none
def A0N (P:Program)(ops:Array Oper):List Oper->Option (List XO)
 |[]=>some []
 |o::r=>match A54 P ops o,A0N P ops r with
  |some x,some l=>some (x::l)
  |_,_=>none
def RS (G:GL)(F:Nat->Prop)(ρ:Nat->Option Nat)(S:St)(a:Act)(w:World):Prop:=RSf G F ρ (aget S.t) (aget S.h) S.n a w
section
variable {P:Program}{G:GL}{F:Nat->Prop}{ρ:Nat->Option Nat}{a:Act}{w:World}{ops:Array Oper}{R:Act->World->Prop}
theorem A13 {T:List (Nat×AV)}:∀{os:List Opd} {t:Nat} {v:AV},aget (A6T T os) t=some v->aget T t=some v
 |[],t,v,h=>by cases h
 |.t n::r,t,v,h=>by
  simp only[A6T]at h;split at h
  ·rename_i u hu;simp only[aget]at h
   by_cases e:n=t
   ·subst e;rw[A0t,cond_true]at h;cases h;exact hu
   ·rw[A0O e,cond_false]at h;exact A13 h
  ·exact A13 h
 |.c _::r,t,v,h=>A13 (os:=r) h
 |.g _::r,t,v,h=>A13 (os:=r) h
theorem A1s {h:List (Nat×HO)}:∀{l:List Nat},A24 h l=true->∀i,i∈l->aget h i=none
 |[],_,i,hi=>by simp at hi
 |j::r,hf,i,hi=>by
  simp only[A24]at hf;split at hf
  ·rename_i hn;rcases List.mem_cons.1 hi with rfl|hi
   ·exact hn
   ·exact A1s hf i hi
  ·cases hf
theorem A5g {dst:Option Nat}{n:Nat}(h:B6Z dst n=true):∀t,dst=some t->t<n:=by
 rintro t rfl;exact Nat.le_of_ble_eq_true h
theorem B2k (S:St)(dst:Option Nat)(D:Delta):aget (B6s S dst D).t=A7n (aget S.t) dst D.v:=by
 cases dst with
 |none=>rfl
 |some t=>exact A0o _ _ _
theorem A3D (S:St)(dst:Option Nat)(D:Delta):aget (B6s S dst D).h=A00 (aget S.h) D.ws:=A1C _ _
theorem A56 {T:List (Nat×AV)}{g:Option (Nat×Bool)}{t:Nat}{want:Bool}{v:AV}(hg:g=some (t,want))(hv:C5B T g=some v):aget T t=some v:=by
 subst hg;exact hv
theorem A3N (a:Act)(d:Option Nat)(y:Value):(a.put d y).defers=a.defers:=by cases d<;>rfl
theorem A1Y {ds:Dirs}:∀(l:List Oper) (k:Nat) (xs:List XO) (s:Nat) (S S':St) (cs:List Cd) (F:Nat->Prop) (ρ:Nat->Option Nat) (a:Act) (w:World),(∀j,j<l.length->l[j]? =ops[k+j]?)->A0N P ops l=some xs->A6W G ds xs s S=some (S',cs)->A0M (A1n P G) cs->
  RS G F ρ S a w->(∀a' w' F' ρ',RS G F' ρ' S' a' w'->Ext G F ρ w F' ρ' w'->HKeep w ρ (aget S.h) w' ρ' (aget S'.h)->a'.defers=a.defers->R a' w')->A2a P ops R (List.range' k l.length) a w
 |[],k,xs,s,S,S',cs,F,ρ,a,w,hl,hx,he,hc,hr,hQ=>by
  cases hx;simp only[A6W]at he;cases he;exact hQ a w F ρ hr (Ext.refl _ _ _) (HKeep.refl _ _ _) rfl
 |o::l,k,xs,s,S,S',cs,F,ρ,a,w,hl,hx,he,hc,hr,hQ=>by
  simp only[A0N]at hx;split at hx
  ·rename_i x xl hxo hxl;cases hx;simp only[A6W]at he;split at he
   ·rename_i D hD;rw[cond_eq_ite]at he;split at he
    ·rename_i hcond;split at he
     ·rename_i S'' cs' he';cases he;rw[Bool.and_eq_true]at hcond;obtain⟨c1,c2⟩:=hc.app;have h0:ops[k]? =some o:=by simpa using(hl 0 (by simp)).symm
      rw[List.length_cons,List.range'_succ];show A6U P ops k _ a w;refine A55 h0 hxo hr (fun t v h=>A13 h) (fun t want v hg hv=>A56 hg hv) (fun _ _ h=>h) hD (A5g hcond.1) (A1s hcond.2) c1 ?_;intro y w' F' ρ' hr' hx' hk';obtain⟨l1,l2,l3⟩:(C1z S (A6V ds s).1 x.guard).h=S.h/\(C1z S (A6V ds s).1 x.guard).n=S.n/\RSf G F' ρ' (A7n (aget (C1z S (A6V ds s).1 x.guard).t) x.dst D.v) (A00 (aget S.h) D.ws) S.n (a.put x.dst y) w':=by
       unfold C1z;split
       ·rename_i t want hdir hgd;refine⟨rfl,rfl,hr'.size,?_,hr'.mem,hr'.defs⟩;intro u v hu;show RelV w' F' ρ' (A00 (aget S.h) D.ws) v _;have hy:a.tmps.getD t undef=.bool want:=B9i (by rw[<- hdir];exact hD) c1 hgd fun v hv=>hr.tmps t v (A56 hgd hv);have e1:aget (A1B S.t t (AV.bool want))=upd (aget S.t) t (some (.bool want)):=A0o _ _ _;simp only[e1]at hu;cases hdd:x.dst with
        |none=>
         rw[hdd]at hu hr';simp only[A7n]at hu
         by_cases e:u=t
         ·subst e;rw[A0e]at hu;cases hu;show RelV _ _ _ _ _ (a.tmps.getD u undef);rw[hy];exact A01 _
         ·rw[A0a _ _ e]at hu;exact hr'.tmps u v hu
        |some d'=>
         rw[hdd]at hu hr';simp only[A7n]at hu
         by_cases ed:u=d'
         ·subst ed;rw[A0e]at hu;exact hr'.tmps u v (by simp only[A7n];rw[A0e];exact hu)
         ·rw[A0a _ _ ed]at hu
          by_cases e:u=t
          ·subst e;rw[A0e]at hu;cases hu;have:(a.put (some d') y).tmps.getD u undef=a.tmps.getD u undef:=by
            simp[Act.put,Array.getD_eq_getD_getElem?,Array.getElem?_setIfInBounds_ne (Ne.symm ed)]
           rw[this,hy];exact A01 _
          ·rw[A0a _ _ e]at hu;exact hr'.tmps u v (by simp only[A7n];rw[A0a _ _ ed];exact hu)
       ·exact⟨rfl,rfl,hr'⟩
      generalize C1z S (A6V ds s).1 x.guard=S1 at l1 l2 l3 he';rw[<- l1]at hk' l3;rw[<- l2]at l3;rw[<- A3D S1 x.dst D]at hk';rw[l1]at hk';clear hr';have hr':=l3;refine A1Y l (k+1) xl (s+1) (B6s S1 x.dst D) S' cs' F' ρ' _ w' (fun j hj=>by have:=hl (j+1) (by simpa using hj);simpa[Nat.add_assoc,Nat.add_comm 1 j]using this) hxl he' c2 ?_ ?_
      ·unfold RS;rw[B2k,A3D];exact hr'
      ·intro a' w'' F'' ρ'' h1 h2 h3 h4;exact hQ a' w'' F'' ρ'' h1 (hx'.trans h2) (hk'.trans h3) (h4.trans (A3N _ _ _))
     ·cases he
    ·cases he
   ·cases he
  ·cases hx
end
structure Ent where
 x:XO
 s:Nat
 g:GDir
 d:Dir
 gv:Option AV
 rt:List (Nat×AV)
 rh:List (Nat×HO)
 D:Delta
def B1k:List (Nat×AV)->List Nat
 |[]=>[]
 |(_,.ep id _ _)::r=>id::B1k r
 |(_,.full id _)::r=>id::B1k r
 |(_,.fullc id _ _)::r=>id::B1k r
 |(_,.sl id _ _ _)::r=>id::B1k r
 |(_,.vw id _ _ _ _)::r=>id::B1k r
 |_::r=>B1k r
def D2R (look:Nat->Option HO)(op:XOp)(rt:List (Nat×AV)):List Nat:=
 match op with
 |.store _ _ _=>A5u rt++A4L look 1000000 (A5u (rt.drop 1)) []
 |.load _ _|.nxt _|.mlook _ _ _ _ _|.mput _ _ _ _ _|.mdel _ _ _ _|.mlen _=>A5u rt
 |.fieldA _ _|.nilck _|.idxA _ _ _ _|.len _|.cap _|.isnil _ _ _=>B1k rt
 |.slice _ _ _ _ _|.slicea _ _ _ _ _ _|.append _ _ _ _ _|.copy _ _ _|.bstr _|.call _ _|.callv _ _=>A4L look 1000000 (A5u rt) []
 |_=>[]
def B4J (G:GL)(S:St)(x:XO)(s:Nat)(dd:GDir×Dir):Option Ent:=
 let rt:=A6T S.t x.op.opds
 let rh:=A4X (aget S.h) (D2R (aget S.h) x.op rt)
 let gv:=C5B S.t x.guard
 match B30 G s (aget rh) x dd.1 dd.2 gv rt with
 |some D=>cond (B6Z x.dst S.n&&A24 S.h D.al) (some {x,s,g:=dd.1,d:=dd.2,gv,rt,rh,D}) none
 |none=>none
def A6K {α:Type}:List α->Nat->Option α
 |[],_=>none
 |x::_,0=>some x
 |_::r,n+1=>A6K r n
def A37 (G:GL)(ds:Dirs)(xs:List XO)(s:Nat):List Nat->St->Option (St×List (Nat×Ent)×List Cd)
 |[],S=>some (S,[],[])
 |i::r,S=>match A6K xs i with
  |some x=>match B4J G S x (s+i) (A6V ds (s+i))with
   |some e=>match A37 G ds xs s r (B6s S x.dst e.D)with
    |some (S',es,cs)=>some (S',(i,e)::es,e.D.cs++cs)
    |none=>none
   |none=>none
  |none=>none
def optL:Option Nat->List Nat
 |some x=>[x]
 |none=>[]
def gL:Option (Nat×Bool)->List Nat
 |some (x,_)=>[x]
 |none=>[]
def A9W (e f:Ent):Bool:=
 A1O (optL e.x.dst) (keys f.rt++(gL f.x.guard++optL f.x.dst))&&(A1O (optL f.x.dst) (keys e.rt++gL e.x.guard)&&
 (A1O (keys e.D.ws) (keys f.rh++(f.D.al++keys f.D.ws))&&A1O (keys f.D.ws) (keys e.rh++e.D.al)))
section
variable {P:Program}{G:GL}{ops:Array Oper}{R:Act->World->Prop}
theorem A02 {x:Nat}:∀{l:List Nat},A1K x l=true↔x∈l
 |[]=>by simp[A1K]
 |y::r=>by
  simp only[A1K,cond_eq_ite]
  by_cases e:y=x
  ·subst e;simp[A0t]
  ·rw[if_neg (by simp[A0O e]),A02 (l:=r)];simp[Ne.symm e]
theorem A3l:∀{a l:List Nat},A1O a l=true->∀x,x∈a->x∉l
 |[],l,_,x,hx=>by simp at hx
 |y::r,l,h,x,hx=>by
  simp only[A1O,cond_eq_ite]at h;split at h
  ·cases h
  ·rename_i hm;rcases List.mem_cons.1 hx with rfl|hx
   ·exact fun hl=>hm (A02.2 hl)
   ·exact A3l h x hx
theorem A1p {α:Type}:∀{l:List (Nat×α)} {k:Nat} {v:α},aget l k=some v->k∈keys l
 |[],k,v,h=>by cases h
 |(j,u)::r,k,v,h=>by
  simp only[aget]at h
  by_cases e:j=k
  ·subst e;simp[keys]
  ·rw[A0O e,cond_false]at h;simp only[keys,List.mem_cons];right;exact A1p h
structure En (e:Ent)(T:Nat->Option AV)(H:Nat->Option HO):Prop where
 rt:∀t v,aget e.rt t=some v->T t=some v
 gv:∀t want v,e.x.guard=some (t,want)->e.gv=some v->T t=some v
 rh:∀i o,aget e.rh i=some o->H i=some o
 al:∀i,i∈e.D.al->H i=none
theorem A1E {H:Nat->Option HO}:∀{ws:List (Nat×HO)} {i:Nat},i∉keys ws->A00 H ws i=H i
 |[],i,h=>rfl
 |(j,o)::r,i,h=>by
  simp only[keys,List.mem_cons,not_or]at h;simp only[A00];rw[A1E h.2,A0a _ _ h.1]
theorem A7q {H H':Nat->Option HO}{ws:List (Nat×HO)}{i:Nat}(h:H i=H' i):A00 H ws i=A00 H' ws i:=by
 induction ws generalizing H H' with
 |nil=>exact h
 |cons p r ih=>
  obtain⟨j,o⟩:=p;simp only[A00];refine ih ?_
  by_cases e:i=j
  ·subst e;rw[A0e,A0e]
  ·rw[A0a _ _ e,A0a _ _ e];exact h
theorem B4K {H:Nat->Option HO}{a b:List (Nat×HO)}(h:∀i,i∈keys a->i∉keys b):A00 (A00 H a) b=A00 (A00 H b) a:=by
 funext i
 by_cases hb:i∈keys b
 ·have ha:i∉keys a:=fun ha=>h i ha hb;rw[A1E (H:=A00 H b) ha];exact A7q (A1E ha)
 ·rw[A1E hb];exact A7q (A1E hb).symm
theorem A3y {T:Nat->Option AV}{dst:Option Nat}{v:AV}{t:Nat}(h:t∉optL dst):A7n T dst v t=T t:=by
 cases dst with
 |none=>rfl
 |some d=>exact A0a _ _ (by simpa[optL]using h)
theorem B4L {T:Nat->Option AV}{d e:Option Nat}{u v:AV}(h:∀t,t∈optL d->t∉optL e):A7n (A7n T d u) e v=A7n (A7n T e v) d u:=by
 cases d with
 |none=>rfl
 |some d=>
  cases e with
  |none=>rfl
  |some e=>
   have hne:d≠e:=by simpa[optL]using h d (by simp[optL])
   funext t
   simp only[A7n,upd]
   by_cases h1:t=d
   ·subst h1;simp[hne]
   ·simp[h1]
structure Apart (e f:Ent):Prop where
 d1:∀t,t∈optL e.x.dst->t∉keys f.rt
 d2:∀t,t∈optL e.x.dst->t∉gL f.x.guard
 d3:∀t,t∈optL e.x.dst->t∉optL f.x.dst
 d4:∀t,t∈optL f.x.dst->t∉keys e.rt
 d5:∀t,t∈optL f.x.dst->t∉gL e.x.guard
 h1:∀i,i∈keys e.D.ws->i∉keys f.rh
 h2:∀i,i∈keys e.D.ws->i∉f.D.al
 h3:∀i,i∈keys e.D.ws->i∉keys f.D.ws
 h4:∀i,i∈keys f.D.ws->i∉keys e.rh
 h5:∀i,i∈keys f.D.ws->i∉e.D.al
theorem A9X {e f:Ent}(h:A9W e f=true):Apart e f:=by
 simp only[A9W,Bool.and_eq_true]at h;obtain⟨h1,h2,h3,h4⟩:=h;have a1:=A3l h1;have a2:=A3l h2;have a3:=A3l h3;have a4:=A3l h4;simp only[List.mem_append,not_or]at a1 a2 a3 a4;exact⟨fun t h=>(a1 t h).1,fun t h=>(a1 t h).2.1,fun t h=>(a1 t h).2.2,fun t h=>(a2 t h).1,fun t h=>(a2 t h).2,fun t h=>(a3 t h).1,fun t h=>(a3 t h).2.1,fun t h=>(a3 t h).2.2,fun t h=>(a4 t h).1,fun t h=>(a4 t h).2⟩
def B3v (e:Ent)(T:Nat->Option AV):Nat->Option AV:=A7n T e.x.dst e.D.v
def B3w (e:Ent)(H:Nat->Option HO):Nat->Option HO:=A00 H e.D.ws
theorem En.later {e f:Ent}{T:Nat->Option AV}{H:Nat->Option HO}(ha:Apart e f)(he:En e T H):En e (B3v f T) (B3w f H):=
 ⟨fun t v h=>by rw[B3v,A3y (fun hm=>ha.d4 t hm (A1p h))];exact he.rt t v h,
  fun t want v hg hv=>by rw[B3v,A3y (fun hm=>ha.d5 t hm (by rw[hg];simp[gL]))];exact he.gv t want v hg hv,
  fun i o h=>by rw[B3w,A1E (fun hm=>ha.h4 i hm (A1p h))];exact he.rh i o h,
  fun i h=>by rw[B3w,A1E (fun hm=>ha.h5 i hm h)];exact he.al i h⟩
theorem En.earlier {e f:Ent}{T:Nat->Option AV}{H:Nat->Option HO}(ha:Apart e f)(hf:En f (B3v e T) (B3w e H)):En f T H:=
 ⟨fun t v h=>by have:=hf.rt t v h;rwa [B3v,A3y (fun hm=>ha.d1 t hm (A1p h))]at this,
  fun t want v hg hv=>by have:=hf.gv t want v hg hv;rwa [B3v,A3y (fun hm=>ha.d2 t hm (by rw[hg];simp[gL]))]at this,
  fun i o h=>by have:=hf.rh i o h;rwa [B3w,A1E (fun hm=>ha.h1 i hm (A1p h))]at this,
  fun i h=>by have:=hf.al i h;rwa [B3w,A1E (fun hm=>ha.h2 i hm h)]at this⟩
theorem B60 {e f:Ent}{T:Nat->Option AV}{H:Nat->Option HO}(ha:Apart e f):B3v f (B3v e T)=B3v e (B3v f T)/\B3w f (B3w e H)=B3w e (B3w f H):=
 ⟨B4L ha.d3,B4K ha.h3⟩
def A8E (TF:Nat->Option AV)(HF:Nat->Option HO):List (Nat×Ent)->(Nat->Option AV)->(Nat->Option HO)->Prop
 |[],T,H=>T=TF/\H=HF
 |(_,e)::r,T,H=>En e T H/\A8E TF HF r (B3v e T) (B3w e H)
theorem A8E.pull {TF:Nat->Option AV}{HF:Nat->Option HO}{i:Nat}{f:Ent}{post:List (Nat×Ent)}:∀{pre:List (Nat×Ent)} {T:Nat->Option AV} {H:Nat->Option HO},(∀p∈pre,Apart p.2 f)->A8E TF HF (pre++(i,f)::post) T H->
  En f T H/\A8E TF HF (pre++post) (B3v f T) (B3w f H)
 |[],T,H,_,h=>h
 |(j,e)::pre,T,H,ha,h=>by
  have hae:=ha (j,e) (by simp);obtain⟨h1,h2⟩:=h;obtain⟨h3,h4⟩:=A8E.pull (fun p hp=>ha p (by simp[hp])) h2;obtain⟨c1,c2⟩:=B60 (T:=T) (H:=H) hae;rw[c1,c2]at h4;exact⟨h3.earlier hae,h1.later hae,h4⟩
def A6X (o:Oper):List Nat:=(o.after.toList.filter (Region.binds .any)).map (·.on)
def B6t (ops:Array Oper)(i:Nat):List Nat:=match ops[i]? with
 |some o=>A6X o
 |none=>[]
def DC (dp:Nat->List Nat)(listed:Array Bool):Prop:=∀j,listed.getD j false=true->∀k,k∈dp j->listed.getD k false=true
def B9j (dp an:Nat->List Nat):Prop:=∀j i,i∈an j->∀listed,DC dp listed->(∀k,k∈dp j->listed.getD k false=true)->listed.getD i false=true
def A8F (dp an:Nat->List Nat):List (Nat×Ent)->Prop
 |[]=>True
 |(i,e)::r=>i∉dp i/\i∉keys r/\(∀p∈r,p.1∉dp i/\(i∈an p.1\/Apart e p.2))/\A8F dp an r
theorem A38 {α:Type}:∀{a b:List (Nat×α)},keys (a++b)=keys a++keys b
 |[],b=>rfl
 |(k,_)::r,b=>by simp[keys,A38 (a:=r)]
theorem A8G {α:Type}{k:Nat}:∀{l:List (Nat×α)},k∈keys l->∃e,(k,e)∈l
 |[],h=>by simp[keys]at h
 |(j,u)::r,h=>by
  simp only[keys,List.mem_cons]at h;rcases h with rfl|h
  ·exact⟨u,by simp⟩
  ·obtain⟨e,he⟩:=A8G h;exact⟨e,by simp[he]⟩
theorem B2l {α:Type}{k:Nat}{e:α}:∀{l:List (Nat×α)},(k,e)∈l->k∈keys l
 |[],h=>by simp at h
 |(j,u)::r,h=>by
  simp only[keys,List.mem_cons];rcases List.mem_cons.1 h with h|h
  ·cases h;exact .inl rfl
  ·exact .inr (B2l h)
theorem A8F.split {dp an:Nat->List Nat}{i:Nat}{f:Ent}{post:List (Nat×Ent)}:∀{pre:List (Nat×Ent)},A8F dp an (pre++(i,f)::post)->
  (∀p∈pre,p.1∈an i\/Apart p.2 f)/\A8F dp an (pre++post)/\i∉keys (pre++post)
 |[],h=>⟨fun p hp=>by simp at hp,h.2.2.2,h.2.1⟩
 |(j,e)::pre,h=>by
  have h:A8F dp an ((j,e)::(pre++(i,f)::post)):=h;obtain⟨h1,h2,h3,h4⟩:=h;obtain⟨g1,g2,g3⟩:=A8F.split h4;have H2:j∉keys (pre++post):=by
   intro hm;refine h2 ?_;rw[A38]at hm ⊢;simp only[List.mem_append,keys,List.mem_cons]at hm ⊢;rcases hm with hm|hm
   ·exact .inl hm
   ·exact .inr (.inr hm)
  have H3:∀p,p∈pre++post->p.1∉dp j/\(j∈an p.1\/Apart e p.2):=fun p hp=>h3 p (by
   simp only[List.mem_append,List.mem_cons]at hp ⊢;rcases hp with hp|hp
   ·exact .inl hp
   ·exact .inr (.inr hp))
  have H4:i∉keys ((j,e)::(pre++post)):=by
   simp only[keys,List.mem_cons,not_or];refine⟨fun e'=>?_,g3⟩;subst e';refine h2 ?_;rw[A38];simp[keys]
  refine⟨fun p hp=>?_,⟨h1,H2,H3,g2⟩,H4⟩;rcases List.mem_cons.1 hp with rfl|hp
  ·exact(h3 (i,f) (by simp)).2
  ·exact g1 p hp
def B9k (P:Program)(G:GL)(ops:Array Oper)(n:Nat)(p:Nat×Ent):Prop:=
 ∃o,ops[p.1]? =some o/\A54 P ops o=some p.2.x/\B30 G p.2.s (aget p.2.rh) p.2.x p.2.g p.2.d p.2.gv p.2.rt=some p.2.D/\(∀t,p.2.x.dst=some t->t<n)/\A0M (A1n P G) p.2.D.cs
theorem A8H {listed:Array Bool}{i:Nat}(d:Bool)(h:i<listed.size):(listed.setIfInBounds i true).getD i d=true:=by
 simp[h]
theorem A9Y {an:Nat->List Nat}(han:B9j (B6t ops) an)(hdl:∀i k,k∈B6t ops i->k<ops.size){TF:Nat->Option AV}{HF:Nat->Option HO}{n:Nat}:∀(fuel:Nat) (listed:Array Bool) (rem:List (Nat×Ent)) (F:Nat->Prop) (ρ:Nat->Option Nat) (T:Nat->Option AV) (H:Nat->Option HO) (a:Act) (w:World),
  rem.length=fuel->A8F (B6t ops) an rem->listed.size=ops.size->(∀i,listed.getD i true=false↔i∈keys rem)->(∀p,p∈rem->B9k P G ops n p)->DC (B6t ops) listed->A8E TF HF rem T H->RSf G F ρ T H n a w->
  (∀a' w' F' ρ',RSf G F' ρ' TF HF n a' w'->Ext G F ρ w F' ρ' w'->HKeep w ρ H w' ρ' HF->a'.defers=a.defers->R a' w')->A7o P ops R fuel listed a w:=by
 intro fuel
 induction fuel with
 |zero=>
  intro listed rem F ρ T H a w hlen hp hsz hun hok hdc hch hr hQ;have:rem=[]:=by simpa using hlen
  subst this;refine⟨?_,?_⟩
  ·cases e:Region.ready .any ops listed with
   |nil=>rfl
   |cons j r=>
    have hj:j∈Region.ready .any ops listed:=by rw[e];simp
    have:=(mem_ready.1 hj).1;rw[hun]at this;simp[keys]at this
  ·obtain⟨h1,h2⟩:=hch;subst h1;subst h2;exact hQ a w F ρ hr (Ext.refl _ _ _) (HKeep.refl _ _ _) rfl
 |succ fuel ih=>
  intro listed rem F ρ T H a w hlen hp hsz hun hok hdc hch hr hQ;refine⟨fun hnil=>?_,fun i hi=>?_⟩
  ·
   exfalso;cases rem with
   |nil=>simp at hlen
   |cons p r=>
    obtain⟨i,e⟩:=p;obtain⟨h1,h2,h3,h4⟩:=hp;obtain⟨o,ho,_⟩:=hok (i,e) (by simp);have hready:i∈Region.ready .any ops listed:=by
     refine mem_ready.2 ⟨(hun i).2 (by simp[keys]),o,ho,fun ed hed hb=>?_⟩;have hmem:ed.on∈B6t ops i:=by
      simp only[B6t,ho,A6X,List.mem_map,List.mem_filter];exact⟨ed,⟨by simpa using hed,hb⟩,rfl⟩
     have hnot:ed.on∉keys ((i,e)::r):=by
      simp only[keys,List.mem_cons,not_or];refine⟨fun e'=>h1 (e'▸hmem),fun hm=>?_⟩;obtain⟨f,hf⟩:=A8G hm;exact(h3 _ hf).1 hmem
     have hnf:¬ listed.getD ed.on true=false:=fun h=>hnot ((hun _).1 h)
     by_cases hlt:ed.on<listed.size
     ·simp only[Array.getD,hlt,dite_true]at hnf ⊢;simpa using hnf
     ·have:=hdl i _ hmem;omega
    rw[hnil]at hready;cases hready
  ·obtain⟨h0,o,ho,hall⟩:=mem_ready.1 hi;have him:=(hun i).1 h0;obtain⟨f,hf⟩:=A8G him;obtain⟨pre,post,rfl⟩:=List.append_of_mem hf;obtain⟨g1,g2,g3⟩:=hp.split;have hpl:∀k,k∈B6t ops i->listed.getD k false=true:=fun k hk=>by
    simp only[B6t,ho,A6X,List.mem_map,List.mem_filter]at hk;obtain⟨ed,⟨h1,h2⟩,rfl⟩:=hk;exact hall ed (by simpa using h1) h2
   have hap:∀p∈pre,Apart p.2 f:=fun p hp=>by
    rcases g1 p hp with h|h
    ·exfalso;have h5:=han i p.1 h listed hdc hpl;have h6:listed.getD p.1 true=false:=(hun p.1).2 (B2l (l:=pre++(i,f)::post) (e:=p.2) (by simp[hp]));simp only[Array.getD_eq_getD_getElem?]at h5 h6;cases e:listed[p.1]? with
     |none=>rw[e]at h5;cases h5
     |some b=>rw[e]at h5 h6;simp at h5 h6;rw[h5]at h6;cases h6
    ·exact h
   obtain⟨c1,c2⟩:=A8E.pull hap hch;obtain⟨o',ho',hx,hD,hdst,hcs⟩:=hok (i,f) (by simp);rw[ho]at ho';cases ho';have hilt:i<listed.size:=by
    rw[hsz];exact(Array.getElem?_eq_some_iff.1 ho).1
   refine A55 (T:=T) ho hx hr c1.rt c1.gv c1.rh hD hdst c1.al hcs ?_;intro y w' F' ρ' hr' hx' hk';refine ih (listed.setIfInBounds i true) (pre++post) F' ρ' (B3v f T) (B3w f H) _ w' ?_ g2 (by simpa using hsz) (fun j=>?_) (fun p hp=>hok p ?_) ?_ c2 hr' (fun a' w'' F'' ρ'' q1 q2 q3 q4=>hQ a' w'' F'' ρ'' q1 (hx'.trans q2) (hk'.trans q3) (q4.trans (A3N _ _ _)))
   ·simp at hlen ⊢; omega
   ·by_cases e:i=j
    ·subst e;rw[A8H true hilt];exact⟨fun h=>by simp at h,fun h=>absurd h g3⟩
    ·rw[getD_set_ne true e,hun j];rw[A38,A38];simp only[keys,List.mem_append,List.mem_cons];exact⟨fun h=>by rcases h with h|h|h;exact .inl h;exact absurd h.symm e;exact .inr h,fun h=>by rcases h with h|h;exact .inl h;exact .inr (.inr h)⟩
   ·simp only[List.mem_append,List.mem_cons]at hp ⊢;rcases hp with hp|hp
    ·exact .inl hp
    ·exact .inr (.inr hp)
   ·intro j hj k hk
    by_cases e:i=j
    ·subst e;exact getD_set_true (hpl k hk)
    ·rw[getD_set_ne false e]at hj;exact getD_set_true (hdc j hj k hk)
end
def B2m (dep:List (List Nat))(i:Nat):List Nat:=(A6K dep i).getD []
def uni:List Nat->List Nat->List Nat
 |[],acc=>acc
 |x::r,acc=>uni r (cond (A1K x acc) acc (x::acc))
def tbN (tbl:List (Nat×List Nat))(i:Nat):List Nat:=(aget tbl i).getD []
def B61 (tbl:List (Nat×List Nat)):List Nat->List Nat->List Nat
 |[],acc=>acc
 |k::r,acc=>B61 tbl r (uni (k::tbN tbl k) acc)
def A4U (dep:List (List Nat)):List Nat->List (Nat×List Nat)->List (Nat×List Nat)
 |[],tbl=>tbl
 |j::r,tbl=>A4U dep r ((j,B61 tbl (B2m dep j) [])::tbl)
def B4M (dep:List (List Nat))(tbl:List (Nat×List Nat))(i:Nat)(e:Ent):List (Nat×Ent)->Bool
 |[]=>true
 |(j,f)::r=>cond (Nat.beq i j) false (cond (A1K j (B2m dep i)) false (cond (cond (A1K i (tbN tbl j)) true (A9W e f)) (B4M dep tbl i e r) false))
def B2n (dep:List (List Nat))(tbl:List (Nat×List Nat)):List (Nat×Ent)->Bool
 |[]=>true
 |(i,e)::r=>cond (A1K i (B2m dep i)) false (cond (B4M dep tbl i e r) (B2n dep tbl r) false)
def A9Z (ord:List Nat):Nat->Bool
 |0=>true
 |n+1=>cond (A1K n ord) (A9Z ord n) false
def B3x (n:Nat):List Nat->Bool
 |[]=>true
 |i::r=>cond (Nat.ble (i+1) n) (B3x n r) false
def C1X (n:Nat):List (List Nat)->Bool
 |[]=>true
 |l::r=>cond (B3x n l) (C1X n r) false
def B62 (dep:List (List Nat))(ord:List Nat)(n:Nat)(es:List (Nat×Ent)):Bool:=
 Nat.beq ord.length n&&(A9Z ord n&&(C1X n dep&&(B3x n ord&&B2n dep (A4U dep ord []) es)))
section
variable {P:Program}{G:GL}{ops:Array Oper}{R:Act->World->Prop}
theorem B4N {i:Nat}:∀{l acc:List Nat},i∈uni l acc->i∈l\/i∈acc
 |[],acc,h=>.inr h
 |x::r,acc,h=>by
  simp only[uni]at h;rcases B4N h with h|h
  ·exact .inl (by simp[h])
  ·rw[cond_eq_ite]at h;split at h
   ·exact .inr h
   ·rcases List.mem_cons.1 h with rfl|h
    ·exact .inl (by simp)
    ·exact .inr h
theorem A90 {tbl:List (Nat×List Nat)}{i:Nat}:∀{l acc:List Nat},i∈B61 tbl l acc->(∃k,k∈l/\(i=k\/i∈tbN tbl k))\/i∈acc
 |[],acc,h=>.inr h
 |x::r,acc,h=>by
  simp only[B61]at h;rcases A90 h with⟨k,h1,h2⟩|h
  ·exact .inl ⟨k,by simp[h1],h2⟩
  ·rcases B4N h with h|h
   ·rcases List.mem_cons.1 h with h|h
    ·exact .inl ⟨x,by simp,.inl h⟩
    ·exact .inl ⟨x,by simp,.inr h⟩
   ·exact .inr h
theorem A57 {dep:List (List Nat)}{dp:Nat->List Nat}(hd:∀i,dp i=B2m dep i):∀{l:List Nat} {tbl:List (Nat×List Nat)},B9j dp (tbN tbl)->B9j dp (tbN (A4U dep l tbl))
 |[],tbl,h=>h
 |j::r,tbl,h=>by
  refine A57 hd (l:=r) ?_;intro k i hi listed hdc hpl;simp only[tbN,aget]at hi
  by_cases e:j=k
  ·subst e;rw[A0t,cond_true]at hi;rcases A90 hi with⟨q,h1,h2⟩|h1
   ·rw[<- hd]at h1;have hq:=hpl q h1;rcases h2 with rfl|h2
    ·exact hq
    ·exact h q i h2 listed hdc (hdc q hq)
   ·simp at h1
  ·rw[A0O e,cond_false]at hi;exact h k i hi listed hdc hpl
theorem B2o {dep:List (List Nat)}{tbl:List (Nat×List Nat)}{i:Nat}{e:Ent}:∀{l:List (Nat×Ent)},B4M dep tbl i e l=true->i∉keys l/\∀p,p∈l->p.1∉B2m dep i/\(i∈tbN tbl p.1\/Apart e p.2)
 |[],_=>⟨by simp[keys],fun p hp=>by simp at hp⟩
 |(j,f)::r,h=>by
  simp only[B4M,cond_eq_ite]at h;split at h
  ·cases h
  ·rename_i h1;split at h
   ·cases h
   ·rename_i h2;have key:(i∈tbN tbl j\/Apart e f)/\B4M dep tbl i e r=true:=by
     cases hm:A1K i (tbN tbl j)with
     |true=>rw[hm]at h;simp at h;exact⟨.inl (A02.1 hm),h⟩
     |false=>
      cases ha:A9W e f with
      |true=>rw[hm,ha]at h;simp at h;exact⟨.inr (A9X ha),h⟩
      |false=>rw[hm,ha]at h;simp at h
    obtain⟨g1,g2⟩:=B2o key.2;refine⟨?_,fun p hp=>?_⟩
    ·simp only[keys,List.mem_cons,not_or];exact⟨fun e=>h1 (e▸A0t i),g1⟩
    ·rcases List.mem_cons.1 hp with rfl|hp
     ·exact⟨fun hm=>h2 (A02.2 hm),key.1⟩
     ·exact g2 p hp
theorem A91 {dep:List (List Nat)}{tbl:List (Nat×List Nat)}{dp:Nat->List Nat}(hd:∀i,dp i=B2m dep i):∀{l:List (Nat×Ent)},B2n dep tbl l=true->A8F dp (tbN tbl) l
 |[],_=>trivial
 |(i,e)::r,h=>by
  simp only[B2n,cond_eq_ite]at h;split at h
  ·cases h
  ·rename_i h1;split at h
   ·rename_i h2;obtain⟨g1,g2⟩:=B2o h2;exact⟨fun hm=>h1 (A02.2 (hd i▸hm)),g1,fun p hp=>⟨fun hm=>(g2 p hp).1 (hd i▸hm),(g2 p hp).2⟩,A91 hd h⟩
   ·cases h
theorem A58 {ord:List Nat}:∀{n:Nat},A9Z ord n=true->∀i,i<n->i∈ord
 |0,_,i,h=>by omega
 |n+1,h,i,hi=>by
  simp only[A9Z,cond_eq_ite]at h;split at h
  ·rename_i h1
   by_cases e:i=n
   ·subst e;exact A02.1 h1
   ·exact A58 h i (by omega)
  ·cases h
theorem A5h {n:Nat}:∀{l:List Nat},B3x n l=true->∀i,i∈l->i<n
 |[],_,i,h=>by simp at h
 |j::r,h,i,hi=>by
  simp only[B3x,cond_eq_ite]at h;split at h
  ·rename_i h1;rcases List.mem_cons.1 hi with rfl|hi
   ·exact Nat.le_of_ble_eq_true h1
   ·exact A5h h i hi
  ·cases h
theorem A8I {α:Type}:∀{l:List α} {i:Nat} {x:α},A6K l i=some x->x∈l
 |[],i,x,h=>by cases h
 |y::r,0,x,h=>by cases h;simp
 |y::r,i+1,x,h=>by simp only[List.mem_cons];right;exact A8I (by simpa[A6K]using h)
theorem B1l {n:Nat}:∀{l:List (List Nat)},C1X n l=true->∀d,d∈l->∀i,i∈d->i<n
 |[],_,d,h=>by simp at h
 |j::r,h,d,hi=>by
  simp only[C1X,cond_eq_ite]at h;split at h
  ·rename_i h1;rcases List.mem_cons.1 hi with rfl|hi
   ·exact A5h h1
   ·exact B1l h d hi
  ·cases h
theorem A59 {α:Type}:∀{l:List α} {i:Nat},A6K l i=l[i]?
 |[],i=>by simp[A6K]
 |x::r,0=>by simp[A6K]
 |x::r,i+1=>by simp[A6K,A59 (l:=r)]
theorem B8w {dep:List (List Nat)}(h:ops.toList.map A6X=dep)(i:Nat):B6t ops i=B2m dep i:=by
 subst h;simp only[B6t,B2m,A59,List.getElem?_map,Array.getElem?_toList];cases ops[i]? <;>rfl
theorem A3O {l:List Oper}:∀{xs:List XO},A0N P ops l=some xs->∀{i:Nat} {x:XO},A6K xs i=some x->∃o,l[i]? =some o/\A54 P ops o=some x:=by
 induction l with
 |nil=>intro xs h i x hx;cases h;cases hx
 |cons o r ih=>
  intro xs h i x hx;simp only[A0N]at h;split at h
  ·rename_i y l' h1 h2;cases h;cases i with
   |zero=>simp only[A6K]at hx;cases hx;exact⟨o,by simp,h1⟩
   |succ i=>
    obtain⟨o',g1,g2⟩:=ih h2 (by simpa[A6K]using hx);exact⟨o',by simpa using g1,g2⟩
  ·cases h
theorem A3P {l:List Oper}:∀{xs:List XO},A0N P ops l=some xs->xs.length=l.length:=by
 induction l with
 |nil=>intro xs h;cases h;rfl
 |cons o r ih=>
  intro xs h;simp only[A0N]at h;split at h
  ·rename_i y l' h1 h2;cases h;simp[ih h2]
  ·cases h
theorem A92 {ds:Dirs}{xs:List XO}{s:Nat}(hx:A0N P ops ops.toList=some xs):∀{ord:List Nat} {S S':St} {es:List (Nat×Ent)} {cs:List Cd},A37 G ds xs s ord S=some (S',es,cs)->A0M (A1n P G) cs->
  keys es=ord/\S'.n=S.n/\(∀p,p∈es->B9k P G ops S.n p)/\A8E (aget S'.t) (aget S'.h) es (aget S.t) (aget S.h)
 |[],S,S',es,cs,h,hc=>by
  simp only[A37]at h;cases h;exact⟨rfl,rfl,fun p hp=>by simp at hp,rfl,rfl⟩
 |i::r,S,S',es,cs,h,hc=>by
  simp only[A37]at h;split at h
  ·rename_i x hxi;split at h
   ·rename_i e he;split at h
    ·rename_i S'' es' cs' h';cases h;obtain⟨c1,c2⟩:=hc.app;obtain⟨g1,g2,g3,g4⟩:=A92 hx h' c2;obtain⟨o,ho,hxo⟩:=A3O hx hxi;simp only[B4J]at he;split at he
     ·rename_i D hD;rw[cond_eq_ite]at he;split at he
      ·rename_i hcond;cases he;rw[Bool.and_eq_true]at hcond;refine⟨by simp[keys,g1],g2,fun p hp=>?_,⟨?_,?_,?_,?_⟩,?_⟩
       ·rcases List.mem_cons.1 hp with rfl|hp
        ·exact⟨o,by simpa using ho,hxo,hD,A5g hcond.1,c1⟩
        ·exact g3 p hp
       ·intro t v hv;exact A13 hv
       ·intro t want v hg hv;exact A56 hg hv
       ·intro j o' hj;exact A2K hj
       ·exact A1s hcond.2
       ·rw[B2k,A3D]at g4;exact g4
      ·cases he
     ·cases he
    ·cases h
   ·cases h
  ·cases h
theorem B3y {F:Nat->Prop}{ρ:Nat->Option Nat}{a:Act}{w:World}{xs:List XO}{dep:List (List Nat)}{ord:List Nat}{s:Nat}{ds:Dirs}{S S':St}{es:List (Nat×Ent)}{cs:List Cd}
  (hx:A0N P ops ops.toList=some xs) (hdep:ops.toList.map A6X=dep) (he:A37 G ds xs s ord S=some (S',es,cs)) (hB:B62 dep ord xs.length es=true) (hc:A0M (A1n P G) cs) (hr:RS G F ρ S a w)
  (hQ:∀a' w' F' ρ',RS G F' ρ' S' a' w'->Ext G F ρ w F' ρ' w'->HKeep w ρ (aget S.h) w' ρ' (aget S'.h)->a'.defers=a.defers->R a' w'):A7o P ops R ops.size (Array.replicate ops.size false) a {w with drawn:=w.drawn+1}:=by
 obtain⟨k1,k2,k3,k4⟩:=A92 hx he hc;simp only[B62,Bool.and_eq_true]at hB;obtain⟨b1,b2,b3,b4,b5⟩:=hB;have hlen:xs.length=ops.size:=by rw[A3P hx];simp
 have hd:=B8w (ops:=ops) hdep;have hsame:=hr.mem.same (w':={w with drawn:=w.drawn+1}) rfl ⟨rfl,rfl,fun _=>⟨rfl,Nat.le_succ _⟩⟩;refine(A9Y (an:=tbN (A4U dep ord [])) (A57 hd (fun j i hi=>by simp[tbN,aget]at hi)) (fun i k hk=>?_) (n:=S.n) (TF:=aget S'.t) (HF:=aget S'.h) ops.size _ es F ρ (aget S.t) (aget S.h) a _ ?_ (A91 hd b5) (by simp) (fun i=>?_) k3 (fun j hj=>?_) k4 ?_ ?_)
 ·rw[hd]at hk;simp only[B2m]at hk;cases e:A6K dep i with
  |none=>rw[e]at hk;simp at hk
  |some l=>
   rw[e]at hk;rw[<- hlen];exact B1l b3 l (A8I e) k (by simpa using hk)
 ·have hk:∀(l:List (Nat×Ent)),(keys l).length=l.length:=fun l=>by
   induction l with
   |nil=>rfl
   |cons p r ih=>obtain⟨i,e⟩:=p;simp[keys,ih]
  rw[<- hk es,k1,Nat.eq_of_beq_eq_true b1,hlen]
 ·rw[k1];have:(Array.replicate ops.size false).getD i true=false↔i<ops.size:=by
   by_cases h:i<ops.size<;>simp[Array.getD,h]
  rw[this,<- hlen];exact⟨A58 b2 i,A5h b4 i⟩
 ·exfalso
  by_cases h:j<ops.size<;>simp[Array.getD,h]at hj
 ·exact⟨hr.size,fun t v h=>(hr.tmps t v h).mono hsame.2.1.frz hsame.2.1.keep hsame.2.2,hsame.1,hr.defs.ext hsame.2.1 rfl⟩
 ·intro a' w' F' ρ' h1 h2 h3 h4;refine hQ a' w' F' ρ' ?_ (hsame.2.1.trans h2) (hsame.2.2.trans h3) h4;unfold RS;rw[k2];exact h1
end
def B6u (P:Program)(m:Machine)(b:Frame)(k:List Item)(cs:List Frame):Ex->Act->World->Prop
 |.normal,a,w=>Steps P m (lone (b.atR a k) cs w)
 |.exit id,a,w=>∃k0,exitTo id k0=exitTo id k/\Steps P m (lone (b.atR a (.code (.exit id)::k0)) cs w)
 |.ret,a,w=>∃todo,Steps P m (lone (b.atR a (.code .ret::todo)) cs w)
def wpR (P:Program)(ro:Option Nat)(c:Code)(Q:Ex->Act->World->Prop)(a:Act)(w:World):Prop:=
 ∀(b:Frame) (k:List Item) (cs:List Frame),b.roundOf=ro->∃e a' w',Q e a' w'/\B6u P (lone (b.atR a (.code c::k)) cs w) b k cs e a' w'
section
variable {P:Program}{ro:Option Nat}{Q:Ex->Act->World->Prop}{a:Act}{w:World}
theorem B6u.of_steps {m m₁:Machine}{b:Frame}{k:List Item}{cs:List Frame}{e:Ex}{a:Act}{w:World}(h:Steps P m m₁)(h':B6u P m₁ b k cs e a w):B6u P m b k cs e a w:=by
 cases e with
 |normal=>exact h.trans h'
 |exit id=>obtain⟨k0,h1,h2⟩:=h';exact⟨k0,h1,h.trans h2⟩
 |ret=>obtain⟨todo,hs⟩:=h';exact⟨todo,h.trans hs⟩
theorem B6u.pass {m:Machine}{b:Frame}{k k':List Item}{cs:List Frame}{e:Ex}{a:Act}{w:World}(hn:e≠ .normal)(hk:∀id,e=.exit id->exitTo id k=exitTo id k')(h:B6u P m b k cs e a w):B6u P m b k' cs e a w:=by
 cases e with
 |normal=>exact absurd rfl hn
 |exit id=>obtain⟨k0,h1,h2⟩:=h;exact⟨k0,h1.trans (hk id rfl),h2⟩
 |ret=>exact h
theorem wpR.mono {c:Code}{Q':Ex->Act->World->Prop}(h:wpR P ro c Q a w)(hq:∀e a w,Q e a w->Q' e a w):wpR P ro c Q' a w:=
 fun b k cs hb=>let ⟨e,a',w',q,r⟩:=h b k cs hb;⟨e,a',w',hq _ _ _ q,r⟩
theorem B63 (h:Q .normal a w):wpR P ro .skip Q a w:=fun _ _ _ _=>⟨.normal,a,w,h,.one stepR_skip⟩
theorem B4O {l:Nat}(h:Q .normal a w):wpR P ro (.label l) Q a w:=by
 intro b k cs hb;have s1:step P (lone (b.atR a (.code (.label l)::k)) cs w)=.next (lone (b.atR a k) cs w):=step_lone_go (by simp[stepG,stepG.exec,Frame.atR]);exact⟨.normal,a,w,h,.one s1⟩
theorem B64 {id:Nat}(h:Q (.exit id) a w):wpR P ro (.exit id) Q a w:=fun b k cs hb=>⟨.exit id,a,w,h,k,rfl,Steps.refl _ _⟩
theorem B9l (h:Q .ret a w):wpR P ro .ret Q a w:=fun b k cs hb=>⟨.ret,a,w,h,k,Steps.refl _ _⟩
theorem B9m {x y:Code}(h:wpR P ro x (fun e a w=>(e=.normal/\wpR P ro y Q a w)\/(e≠ .normal/\Q e a w)) a w):wpR P ro (.seq x y) Q a w:=by
 intro b k cs hb;obtain⟨e,a₁,w₁,hq,harr⟩:=h b (.code y::k) cs hb;rcases hq with⟨rfl,hy⟩|⟨hn,hq⟩
 ·obtain⟨e₂,a₂,w₂,hq₂,harr₂⟩:=hy b k cs hb;exact⟨e₂,a₂,w₂,hq₂,.of_steps (.head stepR_seq harr) harr₂⟩
 ·exact⟨e,a₁,w₁,hq,.of_steps (.one stepR_seq) (B6u.pass (k:=.code y::k) (k':=k) hn (fun id _=>rfl) harr)⟩
theorem B65 {c:Operand}{x y:Code}{t:Bool}(hc:a.eval c=.bool t)(h:wpR P ro (if t then x else y) Q a w):wpR P ro (.cond c x y) Q a w:=by
 intro b k cs hb;obtain⟨e,a₁,w₁,hq,harr⟩:=h b k cs hb;exact⟨e,a₁,w₁,hq,.of_steps (.one (stepR_cond hc)) harr⟩
theorem B4P {id:Nat}{c:Code}(h:wpR P ro c (fun e a w=>(e=.exit id/\Q .normal a w)\/(e≠ .exit id/\Q e a w)) a w):wpR P ro (.block id c) Q a w:=by
 intro b k cs hb;obtain⟨e,a₁,w₁,hq,harr⟩:=h b (.inBlock id::k) cs hb;rcases hq with⟨rfl,hq⟩|⟨hn,hq⟩
 ·obtain⟨k0,h1,h2⟩:=harr;refine⟨.normal,a₁,w₁,hq,?_⟩;exact Steps.head stepR_block (h2.trans (.one (stepR_exit (k':=k) (by rw[h1];simp[exitTo]))))
 ·cases e with
  |normal=>exact⟨.normal,a₁,w₁,hq,.head stepR_block (Steps.trans harr (.one stepR_inBlock))⟩
  |exit id'=>
   refine⟨.exit id',a₁,w₁,hq,.of_steps (.one stepR_block) (harr.pass (by simp) (fun i e=>?_))⟩;cases e;have hne:id≠id':=fun e=>hn (by rw[e]);have:(id==id')=false:=by simpa using hne
   simp[exitTo,this]
  |ret=>exact⟨.ret,a₁,w₁,hq,.of_steps (.one stepR_block) (harr.pass (by simp) (fun i e=>by cases e))⟩
theorem B4Q {c:Code}(h:wpR P ro c Q a w):wpR P ro (.scope c) Q a w:=by
 intro b k cs hb;obtain⟨e,a₁,w₁,hq,harr⟩:=h b (.inScope c::k) cs hb;have s1:step P (lone (b.atR a (.code (.scope c)::k)) cs w)=.next (lone (b.atR a (.code c:: .inScope c::k)) cs w):=step_lone_go (by simp[stepG,stepG.exec,Frame.atR]);refine⟨e,a₁,w₁,hq,.of_steps (.one s1) ?_⟩;cases e with
 |normal=>exact Steps.trans harr (.one (step_lone_go (by simp[stepG,stepG.exec,Frame.atR])))
 |exit id=>obtain⟨k0,h1,h2⟩:=harr;exact⟨k0,h1.trans rfl,h2⟩
 |ret=>exact harr
theorem B3z {c:Code}(h:wpR P ro (.loop c) Q a w)(b:Frame)(k:List Item)(cs:List Frame)(hb:b.roundOf=ro):
  ∃e a' w',Q e a' w'/\B6u P (lone (b.atR a (.code c:: .inLoop c::k)) cs w) b k cs e a' w':=by
 obtain⟨e,a',w',hq,harr⟩:=h b k cs hb;refine⟨e,a',w',hq,?_⟩;have tail:∀{m},m≠lone (b.atR a (.code (.loop c)::k)) cs w->Steps P (lone (b.atR a (.code (.loop c)::k)) cs w) m->Steps P (lone (b.atR a (.code c:: .inLoop c::k)) cs w) m:=by
  intro m hne hs;obtain⟨n,hs⟩:=hs;cases n with
  |zero=>simp[runN]at hs;exact absurd hs.symm hne
  |succ n=>
   simp only[runN,stepR_loop]at hs;exact⟨n,hs⟩
 cases e with
 |normal=>exact tail (fun e=>by simp[lone,Frame.atR]at e) harr
 |exit id=>obtain⟨k0,h1,h2⟩:=harr;exact⟨k0,h1,tail (fun e=>by simp[lone,Frame.atR]at e) h2⟩
 |ret=>obtain⟨t,h2⟩:=harr;exact⟨t,tail (fun e=>by simp[lone,Frame.atR]at e) h2⟩
theorem B4R {c:Code}(h:wpR P ro c (fun e a' w'=>(e=.normal/\wpR P ro (.loop c) Q a' w')\/(e≠ .normal/\Q e a' w')) a w):wpR P ro (.loop c) Q a w:=by
 intro b k cs hb;obtain⟨e,a₁,w₁,hq,harr⟩:=h b (.inLoop c::k) cs hb;rcases hq with⟨rfl,hl⟩|⟨hn,hq⟩
 ·obtain⟨e₂,a₂,w₂,hq₂,harr₂⟩:=B3z hl b k cs hb;exact⟨e₂,a₂,w₂,hq₂,.of_steps (.head stepR_loop (Steps.trans harr (.one stepR_inLoop))) harr₂⟩
 ·exact⟨e,a₁,w₁,hq,.of_steps (.one stepR_loop) (B6u.pass (k:=.inLoop c::k) (k':=k) hn (fun id _=>rfl) harr)⟩
theorem A6a {ops:Array Oper}{R:Act->World->Prop}(hdef:∀(i:Nat) (o:Oper),ops[i]? =some o->∀c,o.op≠ .defer c)(l:List Nat):
  ∀(a:Act) (w:World),A2a P ops R l a w->∀(b:Frame) (k:List Item) (cs:List Frame),
   ∃a' w',R a' w'/\Steps P (lone (b.atR a (.inRegion ops l::k)) cs w) (lone (b.atR a' k) cs w'):=by
 induction l with
 |nil=>exact fun a w h b k cs=>⟨a,w,h,.one stepR_region_end⟩
 |cons i rest ih=>
  intro a w h b k cs;simp only[A2a,A6U]at h;cases ho:ops[i]? with
  |none=>
   simp only[ho]at h;obtain⟨a',w',hq,hs'⟩:=ih a w h b k cs;have hs:=stepR_op_skip (P:=P) (b:=b) (a:=a) (k:=k) (cs:=cs) (w:=w) (ops:=ops) (i:=i) (rest:=rest) (by simp[ho]);simp only[ho,Option.bind_none,Act.put]at hs;exact⟨a',w',hq,.head hs hs'⟩
  |some o=>
   simp only[ho]at h
   by_cases hw:Region.wanted o (yielded ops a.tmps)=true
   ·simp only[hw,if_true]at h;have hg:=stepGR_op (P:=P) (b:=b) (k:=k) (cs:=cs) (w:=w) (rest:=rest) ho hw;rw[Oper.semAt_eq _ _ _ (hdef i o ho)]at hg;have hfin:∀v,(b.atR a (.inRegion ops (i::rest)::k)).finish v=b.atR (a.put o.dst v) (.inRegion ops rest::k):=by
     intro v;rw[Frame.finish_atR,ho];rfl
    rcases h with⟨nx,y,w₁,hr,hy,hK⟩|⟨f,args,w₁,hr,h⟩|⟨l,fn,tmps,as,bd,w₁,hr,h⟩
    ·obtain⟨a',w'',hq,hs⟩:=ih _ _ hK b k cs;refine⟨a',w'',hq,.head (step_lone_go ?_) hs⟩;rcases hy with rfl|⟨rfl,rfl⟩
     ·rw[hg,<- hfin];simp[stepG.apply,hr]
     ·rw[hg,<- hfin];simp[stepG.apply,hr]
    ·obtain⟨e,w'',fr,⟨v,rfl,hR⟩,hsteps,_,hleave⟩:=h (b.atR a (.inRegion ops (i::rest)::k)::cs);have henter:step P (lone (b.atR a (.inRegion ops (i::rest)::k)) cs w)=
       .next (lone (Frame.enter P f args .normal) (b.atR a (.inRegion ops (i::rest)::k)::cs) w₁):=
      step_lone_go (by rw[hg];simp[stepG.apply,hr,Frame.atR])
     obtain⟨a',w₃,hq,hs⟩:=ih _ _ hR b k cs;refine⟨a',w₃,hq,.head henter (hsteps.trans (.head ?_ hs))⟩;rw[<- hfin];exact step_leave_returned hleave
    ·obtain⟨v,w'',hR,hsteps⟩:=h (b.atR a (.inRegion ops (i::rest)::k)) cs;have henter:step P (lone (b.atR a (.inRegion ops (i::rest)::k)) cs w)=
       .next (lone (Frame.round l fn tmps as bd .normal) (b.atR a (.inRegion ops (i::rest)::k)::cs) w₁):=
      step_lone_go (by rw[hg];simp[stepG.apply,hr,Frame.atR])
     obtain⟨a',w₃,hq,hs⟩:=ih _ _ hR b k cs;refine⟨a',w₃,hq,.head henter (hsteps.trans ?_)⟩;rw[hfin];exact hs
   ·simp only[hw,if_false,Bool.false_eq_true]at h;obtain⟨a',w',hq,hs'⟩:=ih _ _ h b k cs;have hs:=stepR_op_skip (P:=P) (b:=b) (a:=a) (k:=k) (cs:=cs) (w:=w) (ops:=ops) (i:=i) (rest:=rest) (by simp[ho];simpa using hw);simp only[ho,Option.bind_some]at hs;exact⟨a',w',hq,.head hs hs'⟩
end
def A3E:List Prop->Prop
 |[]=>True
 |p::r=>p/\A3E r
theorem A3E.app:∀{a b:List Prop},A3E (a++b)->A3E a/\A3E b
 |[],_,h=>⟨trivial,h⟩
 |_::_,_,h=>let ⟨h1,h2⟩:=A3E.app h.2;⟨⟨h.1,h1⟩,h2⟩
def C6F (cap:Option Nat):Option Nat->List Prop
 |none=>[]
 |some n'=>match cap with
  |some n=>[n=n']
  |none=>[False]
def B0M:Option Nat->List Prop
 |none=>[]
 |some n'=>[n'=0]
mutual
def A39 (σ:List (Nat×Nat))(dom:List Nat):Nat->AV->AV->Option (List Prop)
 |0,_,_=>none
 |n+1,v,v'=>
  match v' with
  |.undef=>some []
  |.bool b'=>match v with
   |.bool b=>some [b=b']
   |_=>none
  |.int k' x'=>match v with
   |.int k x=>cond (A2R k k') (some [x=x']) none
   |_=>none
  |.str s'=>match v with
   |.str s=>some [s=s']
   |_=>none
  |.nilp=>match v with
   |.nilp=>some []
   |_=>none
  |.nils=>match v with
   |.nils=>some []
   |_=>none
  |.nilf=>match v with
   |.nilf=>some []
   |_=>none
  |.nili=>match v with
   |.nili=>some []
   |_=>none
  |.iptr c'=>match v with
   |.iptr c=>some [c=c']
   |_=>none
  |.imm c' l' cap'=>match v with
   |.imm c l cap=>some ((c=c')::(l=l')::C6F cap cap')
   |.nils=>some ((c'.size=0)::(l'=0)::B0M cap')
   |_=>none
  |.ptr j o'=>match v with
   |.ptr i o=>match aget σ j with
    |some i'=>cond (Nat.beq i i'&&A1K j dom) (some [o=o']) none
    |none=>none
   |_=>none
  |.ep j m' o'=>match v with
   |.ep i m o=>match aget σ j with
    |some i'=>cond (Nat.beq i i'&&A1K j dom) (some [m=m',o=o']) none
    |none=>none
   |_=>none
  |.full j m'=>match unc v with
   |.full i m=>match aget σ j with
    |some i'=>cond (Nat.beq i i'&&A1K j dom) (some [m=m']) none
    |none=>none
   |_=>none
  |.fullc j m' c'=>match v with
   |.fullc i m c=>match aget σ j with
    |some i'=>cond (Nat.beq i i'&&A1K j dom) (some [m=m',c=c']) none
    |none=>none
   |_=>none
  |.sl j o' l' c'=>match v with
   |.sl i o l c=>match aget σ j with
    |some i'=>cond (Nat.beq i i'&&A1K j dom) (some [o=o',l=l',c=c']) none
    |none=>none
   |_=>none
  |.fn f' a' b'=>match v with
   |.fn f a b=>cond (Nat.beq f f') (match A25 σ dom n a a',A25 σ dom n b b' with
    |some p,some q=>some (p++q)
    |_,_=>none) none
   |_=>none
  |.agg l'=>match v with
   |.agg l=>A25 σ dom n l l'
   |_=>none
  |.tup l'=>match v with
   |.tup l=>A25 σ dom n l l'
   |_=>none
  |.may b' u'=>match v with
   |.may b u=>match A39 σ dom n u u' with
    |some p=>some ((b=b')::p)
    |none=>none
   |_=>none
  |.iface t' u'=>match v with
   |.iface t u=>cond (Nat.beq t t') (A39 σ dom n u u') none
   |_=>none
  |.yld j=>match v with
   |.yld i=>match aget σ j with
    |some i'=>cond (Nat.beq i i'&&A1K j dom) (some []) none
    |none=>none
   |_=>none
  |.mp j=>match v with
   |.mp i=>match aget σ j with
    |some i'=>cond (Nat.beq i i'&&A1K j dom) (some []) none
    |none=>none
   |_=>none
  |.vw j n' s' o' l'=>match v with
   |.vw i n s o l=>match aget σ j with
    |some i'=>cond (Nat.beq i i'&&A1K j dom) (some [n=n',s=s',o=o',l=l']) none
    |none=>none
   |.full i m=>match aget σ j with
    |some i'=>cond (Nat.beq i i'&&A1K j dom) (some [m=n',0=o',m=l']) none
    |none=>none
   |_=>none
  |.spare _=>none
  |.nn=>none
def A25 (σ:List (Nat×Nat))(dom:List Nat):Nat->List AV->List AV->Option (List Prop)
 |0,_,_=>none
 |n+1,l,l'=>
  match l,l' with
  |[],[]=>some []
  |v::r,v'::r'=>match A39 σ dom n v v',A25 σ dom n r r' with
   |some p,some q=>some (p++q)
   |_,_=>none
  |_,_=>none
end
def A7r (σ:List (Nat×Nat))(dom:List Nat)(n:Nat)(c c':Cont):Option (List Prop):=
 match c,c' with
 |.cells l,.cells l'=>A25 σ dom n l l'
 |.ints k l,.ints k' l'=>cond (A2R k k') (some [l=l']) none
 |.bools l,.bools l'=>some [l=l']
 |.strs l,.strs l'=>some [l=l']
 |.vals l,.vals l'=>some [l=l']
 |.maps kk vk es ck,.maps kk' vk' es' ck'=>cond (A9g kk kk'&&A9g vk vk') (some [es=es',ck=ck']) none
 |_,_=>none
theorem B2p {a b:MV}(h:A9g a b=true):a=b:=by
 unfold A9g at h;simp only[Bool.and_eq_true,beq_iff_eq,decide_eq_true_eq]at h;cases a;cases b;simp only at h;rw[h.1,h.2]
theorem A6b {σ:List (Nat×Nat)}{dom:List Nat}{n:Nat}{c c':Cont}{qs:List Prop}(h:A7r σ dom n c c'=some qs)(hp:A3E qs):
  (c'.isMap=false->c.isMap=false)/\∀kk vk es ck,c'=.maps kk vk es ck->c=.maps kk vk es ck:=by
 cases c<;>cases c'<;>simp only[A7r,reduceCtorEq]at h
 case maps.maps kk vk es ck kk' vk' es' ck'=>
  rw[cond_eq_ite]at h;split at h
  ·rename_i hb;rw[Bool.and_eq_true]at hb;cases B2p hb.1;cases B2p hb.2;cases h;obtain⟨rfl,rfl,_⟩:=hp;exact⟨fun h=>h,fun _ _ _ _ h=>h⟩
  ·cases h
 all_goals exact⟨fun _=>rfl,fun kk vk es ck e=>by cases e⟩
structure BOk (k k':Blk):Prop where
 sz:k'.sz=k.sz
 n:k'.n=k.n
 bx:k'.bx=k.bx
 mu:k'.mu=k.mu
 nil:k'.nil=k.nil\/k'.nil=none
 cap:k'.cap=k.cap\/k'.cap=none
section
variable {G:GL}{F:Nat->Prop}{ρ ρ':Nat->Option Nat}{H H':Nat->Option HO}{w:World}{σ:List (Nat×Nat)}{dom:List Nat}
def B9n (ρ ρ':Nat->Option Nat)(H H':Nat->Option HO)(σ:List (Nat×Nat))(dom:List Nat):Prop:=
 ∀j i,A1K j dom=true->aget σ j=some i->ρ' j=ρ i/\(∀k,H i=some (.blk k)->∃k',H' j=some (.blk k')/\BOk k k')/\(∀o,H i=some o->∃o',H' j=some o'/\o'.box=o.box)
theorem A0u {k k':IntKind}(h:A2R k k'=true):k=k':=of_decide_eq_true h
theorem FullOk.ren {i j len:Nat}{k k':Blk}{x:Value}(h:FullOk w ρ i len k x)(hb:BOk k k')(hρ:ρ' j=ρ i):FullOk w ρ' j len k' x:=by
 have hc:∀n,k'.cap=some n->k.cap=some n:=fun n h=>by
  rcases hb.cap with e|e
  ·rw[<- e];exact h
  ·rw[e]at h;cases h
 have hn:∀q,k'.nil=some q->k.nil=some q:=fun q h=>by
  rcases hb.nil with e|e
  ·rw[<- e];exact h
  ·rw[e]at h;cases h
 rcases h with⟨h1,h2,h3,h4⟩|⟨h1,h2,h3,h4⟩|⟨h1,b,cap,cs,ty,fz,g1,g2,g3,g4,g5,g6⟩
 ·exact .inl ⟨h1,fun e=>h2 (hn _ e),fun n e=>h3 n (hc n e),h4⟩
 ·exact .inr (.inl ⟨h1,fun e=>h2 (hn _ e),fun n e=>h3 n (hc n e),h4⟩)
 ·exact .inr (.inr ⟨fun e=>h1 (hn _ e),b,cap,cs,ty,fz,hρ.trans g1,g2,g3,g4,by rw[hb.sz];exact g5,fun n e=>g6.1 n (hc n e),g6.2⟩)
theorem A3Q (hσ:B9n ρ ρ' H H' σ dom):∀n,(∀v v' ps,A39 σ dom n v v'=some ps->A3E ps->∀x,RelV w F ρ H v x->RelV w F ρ' H' v' x)/\
  (∀l l' ps,A25 σ dom n l l'=some ps->A3E ps->∀xs,RelVs w F ρ H l xs->RelVs w F ρ' H' l' xs):=by
 intro n
 induction n with
 |zero=>exact⟨fun v v' ps h=>by simp[A39]at h,fun l l' ps h=>by simp[A25]at h⟩
 |succ n ih=>
  obtain⟨ihV,ihL⟩:=ih;have ref:∀{i i' j:Nat} {qs:List Prop} {ps:List Prop},(cond (Nat.beq i i'&&A1K j dom) (some qs) none)=some ps->i=i'/\A1K j dom=true/\qs=ps:=by
   intro i i' j qs ps h;rw[cond_eq_ite]at h;split at h
   ·rename_i hc;rw[Bool.and_eq_true]at hc;cases h;exact⟨Nat.eq_of_beq_eq_true hc.1,hc.2,rfl⟩
   ·cases h
  refine⟨fun v v' ps h hp x hx=>?_,fun l l' ps h hp xs hx=>?_⟩
  ·simp only[A39]at h;split at h
   ·exact .imm _ _ (.undef _)
   ·split at h
    ·cases h;obtain⟨rfl,_⟩:=hp;have:=hx.bools;subst this;exact .imm _ _ (.bool _)
    ·cases h
   ·split at h
    ·rw[cond_eq_ite]at h;split at h
     ·rename_i hk;cases h;obtain⟨rfl,_⟩:=hp;have:=hx.ints;subst this;rw[<- A0u hk];exact .imm _ _ (.int _ _)
     ·cases h
    ·cases h
   ·split at h
    ·cases h;obtain⟨rfl,_⟩:=hp;obtain⟨s,rfl,hs⟩:=hx.strs;exact .imm _ _ (.str _ _ hs)
    ·cases h
   ·split at h
    ·cases h;cases hx with|imm _ _ hi=>cases hi;exact .imm _ _ .nilp
    ·cases h
   ·split at h
    ·cases h;cases hx with|imm _ _ hi=>cases hi;exact .imm _ _ .nils
    ·cases h
   ·split at h
    ·cases h;cases hx with|imm _ _ hi=>cases hi;exact .imm _ _ .nilf
    ·cases h
   ·split at h
    ·cases h;cases hx with|imm _ _ hi=>cases hi;exact .imm _ _ .nili
    ·cases h
   ·split at h
    ·cases h;obtain⟨rfl,_⟩:=hp;cases hx with|imm _ _ hi=>exact .imm _ _ hi
    ·cases h
   ·split at h
    ·rename_i c' l' cap' _ c l cap;cases h;obtain⟨rfl,rfl,hcap⟩:=hp;have key:cap'=cap\/cap'=none:=by
      cases cap' with
      |none=>exact .inr rfl
      |some n'=>
       cases cap with
       |none=>exact absurd hcap.1 id
       |some n=>obtain⟨rfl,_⟩:=hcap;exact .inl rfl
     cases hx with
     |imm _ _ hi=>
      rcases key with rfl|rfl
      ·exact .imm _ _ hi
      ·cases hi with
       |imm _ _ _ b o cap' xs hF hc hr ho hl hcap=>exact .imm _ _ (.imm _ _ _ b o cap' xs hF hc hr ho hl (fun n e=>by cases e))
       |imm0 _ _ a hc hcap=>exact .imm _ _ (.imm0 _ _ a hc (fun n e=>by cases e))
    ·rename_i c' l' cap';cases h;obtain⟨h1,rfl,hcap⟩:=hp;cases hx with
     |imm _ _ hi=>
      cases hi;refine .imm _ _ (.imm0 _ _ none h1 (fun n e=>?_));subst e;exact hcap.1
    ·cases h
   ·split at h
    ·split at h
     ·rename_i i' hi';obtain⟨rfl,hm,rfl⟩:=ref h;obtain⟨rfl,_⟩:=hp;obtain⟨q1,q2,q3⟩:=hσ _ _ hm hi';cases hx with
      |imm _ _ hi=>cases hi
      |ptr _ _ b o hb hh hxb=>
       obtain⟨o',p1,p2⟩:=q3 _ hh;exact .ptr _ _ b o' (q1.trans hb) p1 (p2.trans hxb)
     ·cases h
    ·cases h
   ·split at h
    ·split at h
     ·rename_i i' hi';obtain⟨rfl,hm,rfl⟩:=ref h;obtain⟨rfl,rfl,_⟩:=hp;obtain⟨q1,q2,q3⟩:=hσ _ _ hm hi';cases hx with
      |imm _ _ hi=>cases hi
      |ep _ _ _ k _ hh hle hpp hxx=>
       obtain⟨k',p1,p2⟩:=q2 _ hh;refine .ep _ _ _ k' _ p1 (by rw[p2.n];exact hle) hpp (fun e=>?_);rw[p2.n]at e;obtain⟨b,hb,hxb⟩:=hxx e;exact⟨b,q1.trans hb,hxb⟩
     ·cases h
    ·cases h
   ·split at h
    ·split at h
     ·rename_i i' hi';obtain⟨rfl,hm,rfl⟩:=ref h;obtain⟨rfl,_⟩:=hp;obtain⟨q1,q2,q3⟩:=hσ _ _ hm hi';have hx:=hx.unc;have hu:=‹unc v=_›;rw[hu]at hx;cases hx with
      |imm _ _ hi=>cases hi
      |full _ _ k _ hh hle hpp hxx=>
       obtain⟨k',p1,p2⟩:=q2 _ hh;refine .full _ _ k' _ p1 (by rw[p2.n];exact hle) hpp (fun e=>?_);rw[p2.n]at e;exact(hxx e).ren p2 q1
     ·cases h
    ·cases h
   ·split at h
    ·split at h
     ·rename_i i' hi';obtain⟨rfl,hm,rfl⟩:=ref h;obtain⟨rfl,rfl,_⟩:=hp;obtain⟨q1,q2,q3⟩:=hσ _ _ hm hi';cases hx with
      |imm _ _ hi=>cases hi
      |fullc _ _ _ a hf=>
       cases hf with
       |imm _ _ hi=>cases hi
       |full _ _ k _ hh hle hpp hxx=>
        obtain⟨k',p1,p2⟩:=q2 _ hh;refine .fullc _ _ _ a (.full _ _ k' _ p1 (by rw[p2.n];exact hle) hpp (fun e=>?_));rw[p2.n]at e;exact(hxx e).ren p2 q1
     ·cases h
    ·cases h
   ·split at h
    ·split at h
     ·rename_i i' hi';obtain⟨rfl,hm,rfl⟩:=ref h;obtain⟨rfl,rfl,rfl,_⟩:=hp;obtain⟨q1,q2,q3⟩:=hσ _ _ hm hi';cases hx with
      |imm _ _ hi=>cases hi
      |sl _ _ _ _ b k hb hh hxb hlc=>
       obtain⟨k',p1,p2⟩:=q2 _ hh;exact .sl _ _ _ _ b k' (q1.trans hb) p1 (p2.bx.trans hxb) hlc
     ·cases h
    ·cases h
   ·split at h
    ·rw[cond_eq_ite]at h;split at h
     ·rename_i hf;split at h
      ·rename_i p q h1 h2;cases h;obtain⟨hp1,hp2⟩:=hp.app;obtain⟨y1,y2,rfl,r1,r2⟩:=hx.fns;rw[<- Nat.eq_of_beq_eq_true hf];exact .fn _ _ _ _ _ (ihL _ _ _ h1 hp1 _ r1) (ihL _ _ _ h2 hp2 _ r2)
      ·cases h
     ·cases h
    ·cases h
   ·split at h
    ·obtain⟨y,rfl,r⟩:=hx.aggs;exact .agg _ _ (ihL _ _ _ h hp _ r)
    ·cases h
   ·split at h
    ·obtain⟨y,rfl,r⟩:=hx.tups;exact .tup _ _ (ihL _ _ _ h hp _ r)
    ·cases h
   ·split at h
    ·split at h
     ·rename_i p h1;cases h;obtain⟨rfl,hp'⟩:=hp;exact .may _ _ _ (fun e=>ihV _ _ _ h1 hp' _ (hx.mayInv e)) hx.mayNot
     ·cases h
    ·cases h
   ·split at h
    ·rw[cond_eq_ite]at h;split at h
     ·rename_i ht;rw[<- Nat.eq_of_beq_eq_true ht];cases hx with
      |imm _ _ hi=>cases hi with|iface _ _ y hi=>exact .iface _ _ y (ihV _ _ _ h hp _ hi.toV)
      |iface _ _ y hv=>exact .iface _ _ y (ihV _ _ _ h hp _ hv)
     ·cases h
    ·cases h
   ·split at h
    ·split at h
     ·rename_i i' hi';obtain⟨rfl,hm,rfl⟩:=ref h;obtain⟨q1,q2,q3⟩:=hσ _ _ hm hi';cases hx with
      |imm _ _ hi=>cases hi
      |yld _ b o hb hh hxb=>
       obtain⟨o',p1,p2⟩:=q3 _ hh;exact .yld _ b o' (q1.trans hb) p1 (p2.trans hxb)
     ·cases h
    ·cases h
   ·split at h
    ·split at h
     ·rename_i i' hi';obtain⟨rfl,hm,rfl⟩:=ref h;obtain⟨q1,q2,q3⟩:=hσ _ _ hm hi';cases hx with
      |imm _ _ hi=>cases hi
      |mp _ b o hb hh hxb=>
       obtain⟨o',p1,p2⟩:=q3 _ hh;exact .mp _ b o' (q1.trans hb) p1 (p2.trans hxb)
     ·cases h
    ·cases h
   ·split at h
    ·split at h
     ·rename_i i' hi';obtain⟨rfl,hm,rfl⟩:=ref h;obtain⟨rfl,rfl,rfl,rfl,_⟩:=hp;obtain⟨q1,q2,q3⟩:=hσ _ _ hm hi';cases hx with
      |imm _ _ hi=>cases hi
      |vw _ _ _ _ _ k _ hh hle hpp hxx=>
       obtain⟨k',p1,p2⟩:=q2 _ hh;refine .vw _ _ _ _ _ k' _ p1 (by rw[p2.n];exact hle) hpp (fun e=>?_);rw[p2.n]at e;obtain⟨z1,a,c,z2,z3⟩:=hxx e;exact⟨z1,a,c,z2.ren p2 q1,z3⟩
     ·cases h
    ·split at h
     ·rename_i i' hi';obtain⟨rfl,hm,rfl⟩:=ref h;obtain⟨rfl,rfl,rfl,_⟩:=hp;obtain⟨q1,q2,q3⟩:=hσ _ _ hm hi';cases hx with
      |imm _ _ hi=>cases hi
      |full _ _ k _ hh hle hpp hxx=>
       obtain⟨k',p1,p2⟩:=q2 _ hh;refine .vw _ _ _ _ _ k' _ p1 (by rw[p2.n];exact hle) hpp (fun e=>?_);rw[p2.n]at e;have hf:=(hxx e).ren p2 q1;obtain⟨a,l,c,rfl⟩:=hpp;have hl:l=_:=FullOk.len hf;subst hl;refine⟨by omega,a,c,hf,?_⟩;cases a<;>simp[Addr.add]
     ·cases h
    ·cases h
   ·cases h
   ·cases h
  ·simp only[A25]at h;split at h
   ·cases hx;exact .nil
   ·split at h
    ·rename_i p q h1 h2;cases h;obtain⟨hp1,hp2⟩:=hp.app;cases hx with
     |cons _ _ y ys hv hs=>exact .cons _ _ _ _ (ihV _ _ _ h1 hp1 _ hv) (ihL _ _ _ h2 hp2 _ hs)
    ·cases h
   ·cases h
end
def B3A:Bool->Bool->Bool
 |true,true=>true
 |false,false=>true
 |_,_=>false
def C96:Option Bool->Option Bool->Bool
 |_,none=>true
 |some a,some b=>B3A a b
 |none,some _=>false
def A7s (σ:List (Nat×Nat))(dom:List Nat)(T:List (Nat×AV)):List (Nat×AV)->Option (List Prop)
 |[]=>some []
 |(t,v')::r=>match aget T t with
  |some v=>match A39 σ dom 1000 v v',A7s σ dom T r with
   |some p,some q=>some (p++q)
   |_,_=>none
  |none=>none
def B2q (σ:List (Nat×Nat))(dom:List Nat):HO->HO->Option (List Prop)
 |.blk b,.blk b'=>cond (Nat.beq b.sz b'.sz&&(B3A b.mu b'.mu&&(B3A b.bx b'.bx&&C96 b.nil b'.nil))) (match A7r σ dom 1000 b.c b'.c with
  |some p=>some ((b.n=b'.n)::(C6F b.cap b'.cap++p))
  |none=>none) none
 |.iter s p,.iter s' p'=>some [s=s',p=p']
 |.loop l,.loop l'=>match A7s σ dom l.t l'.t with
  |some p=>some ((l'.st=l.st)::(l'.pend=l.pend)::(l'.n=l.n)::(l'.ps=l.ps)::(l'.as=l.as)::(l'.bd=l.bd)::p)
  |none=>none
 |_,_=>none
def B2r (σ:List (Nat×Nat))(dom:List Nat)(h:List (Nat×HO)):List (Nat×HO)->Option (List Prop)
 |[]=>some []
 |(j,o')::r=>match aget σ j with
  |some i=>match aget h i with
   |some o=>match B2q σ dom o o',B2r σ dom h r with
    |some p,some q=>some (p++q)
    |_,_=>none
   |none=>none
  |none=>none
def A7t:List (Nat×Nat)->Bool
 |[]=>true
 |(_,v)::r=>cond (hasV v r) false (A7t r)
where hasV (v:Nat):List (Nat×Nat)->Bool
 |[]=>false
 |(_,u)::r=>cond (Nat.beq u v) true (hasV v r)
def B4S:HO->HO->Bool
 |.blk b,.blk b'=>match b.nil,b'.nil with
  |some x,some y=>B3A x y
  |none,none=>true
  |_,_=>false
 |_,_=>true
def A43 (σ:List (Nat×Nat))(S S':St):List Nat->Bool
 |[]=>true
 |i::r=>match aget S.h i with
  |none=>A43 σ S S' r
  |some o=>match aget σ i,aget S'.h i with
   |some j,some o'=>cond (Nat.beq i j&&B4S o o') (A43 σ S S' r) false
   |_,_=>false
def B4T (σ:List (Nat×Nat))(S S':St):Option (List Prop):=
 match B2r σ (keys S'.h) S.h S'.h,A7s σ (keys S'.h) S.t S'.t with
 |some p,some q=>cond (A7t σ&&Nat.beq S'.n S.n) (some (p++q)) none
 |_,_=>none
section
variable {G:GL}{F:Nat->Prop}{ρ ρ':Nat->Option Nat}{H H':Nat->Option HO}{w:World}{σ:List (Nat×Nat)}{dom:List Nat}
theorem A7u:∀{n:Nat} {l l':List AV} {ps:List Prop},A25 σ dom n l l'=some ps->A3E ps->l'.length=l.length/\∀i,i<l.length->∃m qs,A39 σ dom m (l.getD i .undef) (l'.getD i .undef)=some qs/\A3E qs
 |0,l,l',ps,h,hp=>by simp[A25]at h
 |n+1,l,l',ps,h,hp=>by
  simp only[A25]at h;split at h
  ·exact⟨rfl,fun i hi=>by simp at hi⟩
  ·split at h
   ·rename_i p q h1 h2;cases h;obtain⟨hp1,hp2⟩:=hp.app;obtain⟨g1,g2⟩:=A7u h2 hp2;refine⟨by simp[g1],fun i hi=>?_⟩;cases i with
    |zero=>exact⟨n,p,by simpa using h1,hp1⟩
    |succ i=>
     obtain⟨m,qs,k1,k2⟩:=g2 i (by simpa using hi);exact⟨m,qs,by simpa using k1,k2⟩
   ·cases h
  ·cases h
theorem B4U (hσ:B9n ρ ρ' H H' σ dom){n:Nat}{c c':Cont}{ps:List Prop}(h:A7r σ dom n c c'=some ps)(hp:A3E ps):
  c'.size=c.size/\∀i x,i<c.size->RelE w F ρ H c i x->RelE w F ρ' H' c' i x:=by
 unfold A7r at h;split at h
 ·obtain⟨g1,g2⟩:=A7u h hp;refine⟨g1,fun i x hi hx=>⟨?_,hx.2⟩⟩;obtain⟨m,qs,k1,k2⟩:=g2 i hi;exact(A3Q hσ m).1 _ _ _ k1 k2 _ hx.1
 ·rw[cond_eq_ite]at h;split at h
  ·rename_i hk;cases h;obtain⟨rfl,_⟩:=hp;rw[A0u hk];exact⟨rfl,fun i x hi hx=>hx⟩
  ·cases h
 ·cases h;obtain⟨rfl,_⟩:=hp;exact⟨rfl,fun i x hi hx=>hx⟩
 ·cases h;obtain⟨rfl,_⟩:=hp;exact⟨rfl,fun i x hi hx=>hx⟩
 ·cases h;obtain⟨rfl,_⟩:=hp;exact⟨rfl,fun i x hi hx=>hx⟩
 ·exact⟨rfl,fun i x hi=>by simp[Cont.size]at hi⟩
 ·cases h
theorem A5i {a b:Bool}(h:B3A a b=true):a=b:=by cases a<;>cases b<;>first|rfl|cases h
theorem B9o {a b:Option Bool}(h:C96 a b=true):b=a\/b=none:=by
 cases b with
 |none=>exact .inr rfl
 |some b=>
  cases a with
  |none=>cases h
  |some a=>have:B3A a b=true:=h;rw[A5i this];exact .inl rfl
theorem B9p {a b:Option Nat}(h:A3E (C6F a b)):b=a\/b=none:=by
 cases b with
 |none=>exact .inr rfl
 |some b=>
  cases a with
  |none=>exact absurd h.1 id
  |some a=>obtain⟨rfl,_⟩:=h;exact .inl rfl
theorem A6c {o o':HO}{ps:List Prop}(h:B2q σ dom o o'=some ps)(hp:A3E ps):
  (∃k k' qs,o=.blk k/\o'=.blk k'/\BOk k k'/\A7r σ dom 1000 k.c k'.c=some qs/\A3E qs)\/(∃s p,o=.iter s p/\o'=.iter s p)\/(∃l l' qs,o=.loop l/\o'=.loop l'/\A7s σ dom l.t l'.t=some qs/\A3E qs/\l'.st=l.st/\l'.pend=l.pend/\l'.n=l.n/\l'.ps=l.ps/\l'.as=l.as/\l'.bd=l.bd):=by
 unfold B2q at h;split at h
 ·rename_i b b';rw[cond_eq_ite]at h;split at h
  ·rename_i hc;simp only[Bool.and_eq_true]at hc;obtain⟨c1,c2,c3,c4⟩:=hc;split at h
   ·rename_i p h1;cases h;obtain⟨e1,h2⟩:=hp;obtain⟨e2,e3⟩:=h2.app;exact .inl ⟨b,b',p,rfl,rfl,⟨(Nat.eq_of_beq_eq_true c1).symm,e1.symm,(A5i c3).symm,(A5i c2).symm,B9o c4,B9p e2⟩,h1,e3⟩
   ·cases h
  ·cases h
 ·cases h;obtain⟨rfl,rfl,_⟩:=hp;exact .inr (.inl ⟨_,_,rfl,rfl⟩)
 ·split at h
  ·rename_i p h1;cases h;obtain⟨q1,q2,q3,q4,q5,q6,q7⟩:=hp;exact .inr (.inr ⟨_,_,p,rfl,rfl,h1,q7,q1,q2,q3,q4,q5,q6⟩)
  ·cases h
 ·cases h
theorem A4x {h:List (Nat×HO)}:∀{l:List (Nat×HO)} {ps:List Prop},B2r σ dom h l=some ps->A3E ps->∀j o',aget l j=some o'->∃i o qs,aget σ j=some i/\aget h i=some o/\B2q σ dom o o'=some qs/\A3E qs
 |[],ps,hm,hp,j,o',e=>by cases e
 |(k,u)::r,ps,hm,hp,j,o',e=>by
  simp only[B2r]at hm;split at hm
  ·rename_i i hi;split at hm
   ·rename_i o ho;split at hm
    ·rename_i p q h1 h2;cases hm;obtain⟨hp1,hp2⟩:=hp.app;simp only[aget]at e
     by_cases hk:k=j
     ·subst hk;rw[A0t,cond_true]at e;cases e;exact⟨i,o,p,hi,ho,h1,hp1⟩
     ·rw[A0O hk,cond_false]at e;exact A4x h2 hp2 j o' e
    ·cases hm
   ·cases hm
  ·cases hm
theorem A4y {T:List (Nat×AV)}:∀{l:List (Nat×AV)} {ps:List Prop},A7s σ dom T l=some ps->A3E ps->∀t v',aget l t=some v'->∃v qs,aget T t=some v/\A39 σ dom 1000 v v'=some qs/\A3E qs
 |[],ps,hm,hp,j,o',e=>by cases e
 |(k,u)::r,ps,hm,hp,j,o',e=>by
  simp only[A7s]at hm;split at hm
  ·rename_i v hv;split at hm
   ·rename_i p q h1 h2;cases hm;obtain⟨hp1,hp2⟩:=hp.app;simp only[aget]at e
    by_cases hk:k=j
    ·subst hk;rw[A0t,cond_true]at e;cases e;exact⟨v,p,hv,h1,hp1⟩
    ·rw[A0O hk,cond_false]at e;exact A4y h2 hp2 j o' e
   ·cases hm
  ·cases hm
theorem A6d {α:Type}{k:Nat}:∀{l:List (Nat×α)},k∈keys l->∃v,aget l k=some v
 |[],h=>by simp[keys]at h
 |(j,u)::r,h=>by
  simp only[aget]
  by_cases e:j=k
  ·subst e;rw[A0t];exact⟨u,rfl⟩
  ·rw[A0O e,cond_false];simp only[keys,List.mem_cons]at h;exact A6d (h.resolve_left (fun h=>e h.symm))
theorem B1m {v:Nat}:∀{r:List (Nat×Nat)} {k:Nat},aget r k=some v->A7t.hasV v r=true
 |[],k,h=>by cases h
 |(j,u)::r,k,h=>by
  simp only[aget]at h;simp only[A7t.hasV]
  by_cases e:j=k
  ·subst e;rw[A0t,cond_true]at h;cases h;rw[A0t];rfl
  ·rw[A0O e,cond_false]at h;rw[B1m h];cases Nat.beq u v<;>rfl
theorem A93:∀{σ:List (Nat×Nat)},A7t σ=true->∀{i j v:Nat},aget σ i=some v->aget σ j=some v->i=j
 |[],_,i,j,v,h,_=>by cases h
 |(k,u)::r,hn,i,j,v,hi,hj=>by
  simp only[A7t,cond_eq_ite]at hn;split at hn
  ·cases hn
  ·rename_i hh;simp only[aget]at hi hj
   by_cases e1:k=i<;>by_cases e2:k=j
   ·exact e1.symm.trans e2
   ·subst e1;rw[A0t,cond_true]at hi;cases hi;rw[A0O e2,cond_false]at hj;exact absurd (B1m hj) hh
   ·subst e2;rw[A0t,cond_true]at hj;cases hj;rw[A0O e1,cond_false]at hi;exact absurd (B1m hi) hh
   ·rw[A0O e1,cond_false]at hi;rw[A0O e2,cond_false]at hj;exact A93 hn hi hj
structure HKp (kp:List Nat)(w:World)(ρ:Nat->Option Nat)(h:Nat->Option HO)(w':World)(ρ':Nat->Option Nat)(h':Nat->Option HO):Prop where
 box:∀id o,id∈kp->h id=some o->o.box=true->∃o',h' id=some o'/\o'.box=true/\ρ' id=ρ id
 blk:∀id k,id∈kp->h id=some (.blk k)->∃k',h' id=some (.blk k')/\k'.bx=k.bx/\k.n<=k'.n/\
  (k'.n=k.n->k'.nil=k.nil/\k'.sz=k.sz/\(k'.cap=k.cap\/k'.cap=none)/\ρ' id=ρ id)
 sz:∀(b:Nat) (cs:Array Value) (ty:TypeId) (fz:Nat×Nat),w.heap[b]? =some (.cells cs ty fz)->∃cs' ty' fz',w'.heap[b]? =some (.cells cs' ty' fz')/\cs'.size=cs.size
theorem HKeep.kp {kp:List Nat}{w w':World}{ρ ρ':Nat->Option Nat}{h h':Nat->Option HO}(hk:HKeep w ρ h w' ρ' h'):HKp kp w ρ h w' ρ' h':=
 ⟨fun id o _=>hk.box id o,fun id k _=>hk.blk id k,hk.sz⟩
theorem HKp.trans {kp:List Nat}{w w' w'':World}{ρ ρ' ρ'':Nat->Option Nat}{h h' h'':Nat->Option HO}(a:HKp kp w ρ h w' ρ' h')(b:HKp kp w' ρ' h' w'' ρ'' h''):HKp kp w ρ h w'' ρ'' h'' where
 box:=fun id o hid h1 h2=>by
  obtain⟨o',g1,g2,g3⟩:=a.box id o hid h1 h2;obtain⟨o'',k1,k2,k3⟩:=b.box id o' hid g1 g2;exact⟨o'',k1,k2,k3.trans g3⟩
 blk:=fun id k hid h1=>by
  obtain⟨k',g1,g2,g3,g4⟩:=a.blk id k hid h1;obtain⟨k'',l1,l2,l3,l4⟩:=b.blk id k' hid g1;refine⟨k'',l1,l2.trans g2,Nat.le_trans g3 l3,fun e=>?_⟩;have e1:k'.n=k.n:=by omega
  obtain⟨p1,p2,p3,p4⟩:=g4 e1;obtain⟨q1,q2,q3,q4⟩:=l4 (by omega);exact⟨q1.trans p1,q2.trans p2,by rcases q3 with q|q<;>rcases p3 with p|p<;>simp_all,q4.trans p4⟩
 sz:=fun b1 cs ty fz h1=>by
  obtain⟨cs1,ty1,fz1,g1,g2⟩:=a.sz b1 cs ty fz h1;obtain⟨cs2,ty2,fz2,g3,g4⟩:=b.sz b1 cs1 ty1 fz1 g1;exact⟨cs2,ty2,fz2,g3,g4.trans g2⟩
theorem HKp.refl (kp:List Nat)(w:World)(ρ:Nat->Option Nat)(h:Nat->Option HO):HKp kp w ρ h w ρ h:=(HKeep.refl w ρ h).kp
theorem B66 {k k':Blk}(h:B4S (.blk k) (.blk k')=true):k'.nil=k.nil:=by
 simp only[B4S]at h;split at h
 ·rename_i e1 e2;rw[e1,e2,A5i h]
 ·rename_i e1 e2;rw[e1,e2]
 ·cases h
theorem A8J {S S':St}:∀{kp:List Nat},A43 σ S S' kp=true->∀id o,id∈kp->aget S.h id=some o->aget σ id=some id/\∃o',aget S'.h id=some o'/\B4S o o'=true
 |[],h,id,o,hid,ho=>by simp at hid
 |i::r,h,id,o,hid,ho=>by
  simp only[A43]at h;split at h
  ·rename_i hn;rcases List.mem_cons.1 hid with rfl|hid
   ·rw[hn]at ho;cases ho
   ·exact A8J h id o hid ho
  ·rename_i o1 h1;split at h
   ·rename_i j o' h2 h3;rw[cond_eq_ite]at h;split at h
    ·rename_i hc;rw[Bool.and_eq_true]at hc;rcases List.mem_cons.1 hid with rfl|hid
     ·rw[h1]at ho;cases ho;exact⟨by rw[h2,Nat.eq_of_beq_eq_true hc.1],o',h3,hc.2⟩
     ·exact A8J h id o hid ho
    ·cases h
   ·cases h
theorem A3z {S S':St}{ps:List Prop}(h:B4T σ S S'=some ps)(hp:A3E ps)(hm0:MRel G F ρ (aget S.h) w):S'.n=S.n/\∃ρ',MRel G F ρ' (aget S'.h) w/\Ext G F ρ w F ρ' w/\(∀tmps:Array Value,(∀t v,aget S.t t=some v->RelV w F ρ (aget S.h) v (tmps.getD t undef))->∀t v,aget S'.t t=some v->RelV w F ρ' (aget S'.h) v (tmps.getD t undef))/\∀kp,A43 σ S S' kp=true->HKp kp w ρ (aget S.h) w ρ' (aget S'.h):=by
 unfold B4T at h;split at h
 ·rename_i p q h1 h2;rw[cond_eq_ite]at h;split at h
  ·rename_i hc;rw[Bool.and_eq_true]at hc;cases h;obtain⟨hp1,hp2⟩:=hp.app
   let ρ':Nat->Option Nat:=fun j=>cond (A1K j (keys S'.h)) ((aget σ j).bind ρ) none
   have hρ:∀j i,A1K j (keys S'.h)=true->aget σ j=some i->ρ' j=ρ i:=fun j i h1 h2=>by simp only[ρ',h1,h2,cond_true,Option.bind_some]
   have hinv:∀j b,ρ' j=some b->A1K j (keys S'.h)=true/\∃i,aget σ j=some i/\ρ i=some b:=fun j b hb=>by
    simp only[ρ']at hb;cases hm:A1K j (keys S'.h)with
    |false=>rw[hm]at hb;cases hb
    |true=>
     rw[hm,cond_true]at hb;cases hs:aget σ j with
     |none=>rw[hs]at hb;cases hb
     |some i=>rw[hs,Option.bind_some]at hb;exact⟨rfl,i,rfl,hb⟩
   have hσ:B9n ρ ρ' (aget S.h) (aget S'.h) σ (keys S'.h):=fun j i hm hi=>by
    obtain⟨o',ho'⟩:=A6d (A02.1 hm);obtain⟨i',o,qs,g1,g2,g3,g4⟩:=A4x h1 hp1 j o' ho';rw[hi]at g1;cases g1;refine⟨hρ j i hm hi,fun k hk=>?_,fun o2 ho2=>?_⟩
    ·rw[g2]at hk;cases hk;rcases A6c g3 g4 with⟨k1,k',qs',e1,e2,e3,_⟩|⟨s,p,e1,e2⟩|⟨l,l',_,e1,e2,_⟩
     ·cases e1;exact⟨k',e2▸ho',e3⟩
     ·cases e1
     ·cases e1
    ·rw[g2]at ho2;cases ho2;rcases A6c g3 g4 with⟨k1,k',qs',e1,e2,e3,_⟩|⟨s,p,e1,e2⟩|⟨l,l',_,e1,e2,_⟩
     ·subst e1;subst e2;exact⟨_,ho',e3.bx⟩
     ·subst e1;subst e2;exact⟨_,ho',rfl⟩
     ·subst e1;subst e2;exact⟨_,ho',rfl⟩
   have hext:Ext G F ρ w F ρ' w:=⟨IoEq.refl _,Nat.le_refl _,fun _ _ _=>rfl,fun _ _=>rfl,fun _ h=>h,fun _ h=>.inl h,fun j b hb=>by
    obtain⟨_,i,_,h⟩:=hinv j b hb;exact .inl ⟨i,h⟩⟩
   refine⟨Nat.eq_of_beq_eq_true hc.2,ρ',⟨fun j o' ho'=>?_,fun j b hb=>?_,fun i j b hi hj=>?_,fun j b hb=>?_,hm0.frz,hm0.glob⟩,hext,fun tmps htm t v' hv'=>?_,fun kp hkp=>?_⟩
   ·have hm:A1K j (keys S'.h)=true:=A02.2 (A1p ho');obtain⟨i,o,qs,g1,g2,g3,g4⟩:=A4x h1 hp1 j o' ho';have hO:=hm0.heap i o g2;rcases A6c g3 g4 with⟨k,k',qs',rfl,rfl,e3,e4,e5⟩|⟨s,p,rfl,rfl⟩|⟨l,l',qs',rfl,rfl,e4,e5,e6,e7,e8,e9,e10,e11⟩
    ·obtain⟨s1,s2⟩:=B4U (w:=w) (F:=F) hσ e4 e5;obtain⟨o1,o2⟩:=hO;refine⟨by rw[s1,e3.n,e3.sz];exact o1,?_⟩;rcases o2 with⟨z1,z2⟩|⟨b,z1,z2⟩
     ·exact .inl ⟨by rw[e3.n];exact z1,(hρ j i hm g1).trans z2⟩
     ·refine .inr ⟨b,(hρ j i hm g1).trans z1,⟨fun hnm=>?_,fun kk vk es ck e=>z2.mp kk vk es ck ((A6b e4 e5).2 _ _ _ _ e),fun e=>z2.mu (by rw[<- e3.mu];exact e),fun e=>z2.fr (by rw[<- e3.mu];exact e)⟩⟩;obtain⟨cs,ty,fz,y1,y2,y3,y4⟩:=z2.ex ((A6b e4 e5).1 hnm);refine⟨cs,ty,fz,y1,y2,by rw[s1];exact y3,fun q hq=>?_⟩;rw[s1]at hq;obtain⟨x,x1,x2⟩:=y4 q hq;exact⟨x,x1,s2 q x hq x2⟩
    ·obtain⟨b,z1,z2⟩:=hO;exact⟨b,(hρ j i hm g1).trans z1,z2⟩
    ·obtain⟨b,z1,z2,r,z3,z4⟩:=hO;refine⟨b,(hρ j i hm g1).trans z1,z2,r,z3,⟨by rw[e6];exact z4.st,by rw[e7];exact z4.pend,by rw[e8];exact z4.size,fun t v' hv'=>?_,by rw[e9];exact z4.ps,by rw[e10];exact z4.as,by rw[e11];exact z4.bd⟩⟩;obtain⟨v,qs2,y1,y2,y3⟩:=A4y e4 e5 t v' hv';exact(A3Q hσ 1000).1 _ _ _ y2 y3 _ (z4.tmps t v y1)
   ·exact A6d (A02.1 (hinv j b hb).1)
   ·obtain⟨_,i',hi1,hi2⟩:=hinv i b hi;obtain⟨_,j',hj1,hj2⟩:=hinv j b hj;have:=hm0.inj i' j' b hi2 hj2;subst this;exact A93 hc.1 hi1 hj1
   ·obtain⟨_,i,_,h⟩:=hinv j b hb;exact hm0.lt i b h
   ·obtain⟨v,qs,g1,g2,g3⟩:=A4y h2 hp2 t v' hv';exact(A3Q hσ 1000).1 _ _ _ g2 g3 _ (htm t v g1)
   ·have hkeep:∀id o,id∈kp->aget S.h id=some o->aget σ id=some id/\∃o',aget S'.h id=some o'/\B4S o o'=true:=fun id o hid ho=>A8J hkp id o hid ho;refine⟨fun id o hid ho hb=>?_,fun id k hid ho=>?_,fun b cs ty fz hb=>⟨cs,ty,fz,hb,rfl⟩⟩
    ·obtain⟨p1,o',p2,_⟩:=hkeep id o hid ho;have hm:A1K id (keys S'.h)=true:=A02.2 (A1p p2);obtain⟨r1,_,r3⟩:=hσ id id hm p1;obtain⟨o2,r4,r5⟩:=r3 o ho;exact⟨o2,r4,r5.trans hb,r1⟩
    ·obtain⟨p1,o',p2,p3⟩:=hkeep id _ hid ho;have hm:A1K id (keys S'.h)=true:=A02.2 (A1p p2);obtain⟨r1,r2,_⟩:=hσ id id hm p1;obtain⟨k',r4,r5⟩:=r2 k ho;rw[p2]at r4;cases r4;exact⟨k',p2,r5.bx,Nat.le_of_eq r5.n.symm,fun _=>⟨B66 p3,r5.sz,r5.cap,r1⟩⟩
  ·cases h
 ·cases h
theorem A6e {S S':St}{a:Act}{ps:List Prop}(h:B4T σ S S'=some ps)(hp:A3E ps)(hr:RS G F ρ S a w):∃ρ',RS G F ρ' S' a w/\Ext G F ρ w F ρ' w/\∀kp,A43 σ S S' kp=true->HKp kp w ρ (aget S.h) w ρ' (aget S'.h):=by
 obtain⟨h1,ρ',h2,h3,h4,h5⟩:=A3z h hp hr.mem;exact⟨ρ',⟨hr.size.trans h1.symm,h4 a.tmps hr.tmps,h2,hr.defs.ext h3 rfl⟩,h3,h5⟩
end
abbrev A0i:=List (Nat×(List Nat×List Nat))
def A1a (P:Program)(hs:A0i):Code->Option XC
 |.skip=>some .skip
 |.region id ops drw=>match A0N P ops ops.toList with
  |some xs=>match drw with
   |false=>some (.reg (64*(id+1)) xs ((aget hs id).getD ([],[])).2)
   |true=>some (.draw (64*(id+1)) xs (ops.toList.map A6X) ((aget hs id).getD ([],[])).1 ((aget hs id).getD ([],[])).2)
  |none=>none
 |.seq a b=>match A1a P hs a,A1a P hs b with
  |some x,some y=>some (.seq x y)
  |_,_=>none
 |.cond c a b=>match A0x c,A1a P hs a,A1a P hs b with
  |some c,some x,some y=>some (.cond c x y)
  |_,_,_=>none
 |.block id a=>match A1a P hs a with
  |some x=>some (.block id x)
  |none=>none
 |.loop a=>match A1a P hs a with
  |some x=>some (.loop x)
  |none=>none
 |.exit id=>some (.exit id)
 |.ret=>some .ret
 |.rangeFunc g ps a b=>match A0x g,A1a P hs a,A1a P hs b with
  |some g,some x,some y=>some (.rangeF g ps.toList x y)
  |_,_,_=>none
 |.scope a=>match A1a P hs a with
  |some x=>some (.scope x)
  |none=>none
 |.label _=>some .skip
 |_=>some .bad
def A2x (P:Program)(c:Code)(xc:XC):Prop:=∃hs,A1a P hs c=some xc
structure Md where
 rid:Option Nat
 kp:List Nat
def Md.ks (m:Md):List Nat:=m.rid.toList++m.kp
mutual
inductive Pl where
 |nil
 |r (ds:Dirs) (p:Pl)
 |frz (t:Nat) (p:Pl)
 |gho (t id sz:Nat) (c:Cont) (p:Pl)
 |ren (σ:List (Nat×Nat)) (S:St) (p:Pl)
 |br (b:Bool) (p q:Pl)
 |tt (p:Pl)
 |ff (p:Pl)
 |cnd (p q:Pl)
 |lit (p:Pl)
 |lp (outs:Tree)
 |un (p:Pl)
inductive Tree where
 |leaf (e:Ex) (S:St) (p:Pl)
 |ob (p:Prop) (t:Tree)
 |br (b:Bool) (t u:Tree)
 |lp (a:XC) (S:St) (outs t:Tree)
end
def C1Y {α:Type}:List (Nat×α)->List Nat->List (Nat×α)
 |l,[]=>l
 |l,k::r=>C1Y (B1J l k) r
def B4V (S:St)(dead:List Nat):St:={S with t:=C1Y S.t dead}
def C1Z (S:St)(t:Nat):Option (St×List Cd):=
 match aget S.t t with
 |some v=>match A5w (aget S.h) 60 v with
  |some (v',ids,cs)=>cond (Nat.ble (t+1) S.n) (some ({t:=A1B S.t t v',h:=A29 S.h (A1l (aget S.h) ids),n:=S.n},cs)) none
  |none=>none
 |none=>none
def C6G (S:St)(t id sz:Nat)(c:Cont):Option St:=
 match aget S.t t with
 |some .nils=>cond (A24 S.h [id]&&Nat.beq c.size 0) (some {t:=A1B S.t t (.full id 0),h:=A1B S.h id (.blk {c,sz,n:=0,cap:=some 0,nil:=some true,mu:=true,bx:=false}),n:=S.n}) none
 |_=>none
def Tree.bindN (f:St->Pl->Option Tree):Tree->Option Tree
 |.leaf e S p=>match e with
  |.normal=>f S p
  |e=>some (.leaf e S p)
 |.ob p t=>match t.bindN f with
  |some t=>some (.ob p t)
  |none=>none
 |.br b t u=>match t.bindN f,u.bindN f with
  |some t,some u=>some (.br b t u)
  |_,_=>none
 |.lp a S outs t=>match t.bindN f with
  |some t=>some (.lp a S outs t)
  |none=>none
def Tree.catch (id:Nat):Tree->Tree
 |.leaf e S p=>match e with
  |.exit i=>.leaf (cond (Nat.beq i id) .normal (.exit i)) S p
  |e=>.leaf e S p
 |.ob p t=>.ob p (t.catch id)
 |.br b t u=>.br b (t.catch id) (u.catch id)
 |.lp a S outs t=>.lp a S outs (t.catch id)
def Tree.Sel:Tree->Ex->St->Pl->Prop
 |.leaf e S p,e',S',p'=>e=e'/\S=S'/\p=p'
 |.ob _ t,e,S,p=>t.Sel e S p
 |.br b t u,e,S,p=>(b=true/\t.Sel e S p)\/(b=false/\u.Sel e S p)
 |.lp _ _ _ t,e,S,p=>t.Sel e S p
section
variable (P:Program)(G:GL)(md:Md)
def DX (ds:List Deferred)(w:World)(ds':List Deferred):Prop:=∃new:List Nat,ds'=new.map A2u++ds/\∀r,r∈new->w.heap.size<=r
def B4W (ρ:Nat->Option Nat)(H:Nat->Option HO)(ro:Option Nat):Prop:=
 match md.rid with
 |none=>ro=none
 |some id=>∃b o,ro=some b/\ρ id=some b/\H id=some o/\o.box=true
def Aft (F:Nat->Prop)(ρ:Nat->Option Nat)(H:Nat->Option HO)(w:World)(ds:List Deferred)(S':St)(a':Act)(w':World):Prop:=
 ∃F' ρ',RS G F' ρ' S' a' w'/\Ext G F ρ w F' ρ' w'/\HKp md.ks w ρ H w' ρ' (aget S'.h)/\DX ds w a'.defers
def WpX (xc:XC)(S:St)(Q:Ex->St->Prop):Prop:=
 ∀c,G.cm c xc->∀F ρ a w ro,RS G F ρ S a w->B4W md ρ (aget S.h) ro->wpR P ro c (fun e a' w'=>∃S',Q e S'/\Aft G md F ρ (aget S.h) w a.defers S' a' w') a w
def Tree.all (Q:Ex->St->Pl->Prop):Tree->Prop
 |.leaf e S p=>Q e S p
 |.ob p t=>p/\t.all Q
 |.br b t u=>(b=true->t.all Q)/\(b=false->u.all Q)
 |.lp a S outs t=>WpX P G md (.loop a) S (fun e S'=>∃p,outs.Sel e S' p)/\t.all Q
end
section
variable {P:Program}{G:GL}{md:Md}
end
end Go.Ab
