/-
 The contracts of the opposite, of patterns from plain data.
-/
import Derived.Test.YtfpcbimohikhmaaDoorQC6Z
import Derived.Test.YtfpcbimohikhmaaDoorQO5Z
set_option maxRecDepth 1000000
set_option linter.unusedVariables false
set_option linter.unusedSimpArgs false
namespace Go.Proofs.YtfpcbimohikhmaaDoor.X
open Go Go.Ab

/-! ### Patterns of plain data -/
theorem dim_ok {W:Int}(h:0≤W∧W≤255):1≤dim W∧dim W≤4∧W.tmod 4=W%4:=by
 unfold dim
 rw[Int.tmod_eq_emod_of_nonneg h.1];omega
theorem dims_ok {W H:Int}(h1:0≤W∧W≤255)(h2:0≤H∧H≤255):s5 (dim W) (dim H)∧6≤6*dim W*dim H∧6*dim W*dim H≤96:=by
 have a:=dim_ok h1
 have b:=dim_ok h2
 have c:=mul_le (a:=dim W) (b:=dim H) (c:=4) (d:=4) (by omega) (by omega) (by omega) (by omega)
 have d:=mul_le (a:=1) (b:=1) (c:=dim W) (d:=dim H) (by omega) (by omega) (by omega) (by omega)
 have e:6*dim W*dim H=6*(dim W*dim H):=Int.mul_assoc _ _ _
 unfold s5
 omega
theorem pk_end {N:Int}{ks:List Int}{m:Nat}(hm:(m:Int)≤N)(hk:m≤ks.length)(he:(m:Int)=N∨m=ks.length):(ks.take m).map (fun(k:Int)=>k.tmod 4)++List.replicate (N.toNat-m) 0=pkL N ks:=by
 unfold pkL
 rcases he with he|he
 ·rw[show N.toNat=m by omega,Nat.sub_self,show m-ks.length=0 by omega]
 ·subst he
  rw[List.take_length,List.take_of_length_le (by omega)]
theorem pk_len (N:Int)(ks:List Int):(pkL N ks).length=N.toNat:=by
 unfold pkL
 rw[List.length_append,List.length_map,List.length_take,List.length_replicate];omega
theorem cQ5ok:CtsOk Tryd.prog G cQ5':=⟨ct23,trivial⟩
theorem CQ5ok:TabOk Tryd.prog G CQ5:=tabL_ok noCh_ok cQ5ok
theorem sp14 (W H:Int)(ks:List Int)(h1:0≤W∧W≤255)(h2:0≤H∧H≤255)(hu:u8s ks):SpecP Tryd.prog G 14 [.agg [.int .u8 W,.int .u8 H,.imm (.ints .u8 ks) ks.length none]] (.agg [.int .i64 (dim W),.int .i64 (dim H),.full 0 (ofL W H ks).length]) [blkC (flatC (ofL W H ks)) (ofL W H ks).length]:=by
 refine fnP_spec hcm hmx CQ5ok ok14 rfl (ob_o14 W H ks) ?_
 dsimp -failIfUnchanged -proj -eta -iota -zeta only[rd,rdw,qs,ql,qx]
 have hd1:=dim_ok h1
 have hd2:=dim_ok h2
 obtain⟨hs,hb1,hb2⟩:=dims_ok h1 h2
 have e1:1+Int.tmod W 4=dim W:=rfl
 have e2:1+Int.tmod H 4=dim H:=rfl
 rw[e1,e2]
 unfold ofL
 have hm0:0≤6*dim W*dim H:=by omega
 generalize hN:6*dim W*dim H=N at*
 simp only[ltb_iff,ltb_no,leb_iff,leb_no,len'_iff,ltn_iff,inR_i64,inR_u8,and_true,true_and,size_ints]
 refine⟨by omega,by omega,by omega,by omega,by omega,by omega,by omega,by omega,by omega,⟨0,by simp,by omega,by omega,by simp⟩,?_⟩
 rintro⟨i,a⟩ ⟨m,hi,hm,hk,ha⟩
 simp only at hi ha ⊢
 subst hi;subst ha
 simp only[Int.toNat_natCast]
 have hlen:((ks.take m).map (fun(k:Int)=>k.tmod 4)++List.replicate (N.toNat-m) 0).length=N.toNat:=by
  rw[List.length_append,List.length_map,List.length_take,List.length_replicate];omega
 have hend:((m:Int)=N∨m=ks.length)→N.toNat=N.toNat∧(s5 (dim W) (dim H)∧N.toNat=((ks.take m).map (fun(k:Int)=>k.tmod 4)++List.replicate (N.toNat-m) 0).length∧((ks.take m).map (fun(k:Int)=>k.tmod 4)++List.replicate (N.toNat-m) 0).length<1000000000)∧
   ((ks.take m).map (fun(k:Int)=>k.tmod 4)++List.replicate (N.toNat-m) 0)=pkL N ks:=fun he=>⟨rfl,⟨hs,hlen.symm,by omega⟩,pk_end hm hk he⟩
 refine⟨fun hlt=>⟨fun h3=>?_,fun h3=>?_⟩,fun hge=>?_⟩
 ·have g1:m<ks.length:=by omega
  refine⟨by omega,by omega,by omega,by simp;omega,by omega,by omega,by rw[hlen];omega,by omega,⟨m+1,by omega,by omega,by omega,?_⟩,by omega⟩
  have hq:List.getD (List.drop m ks) 0 0=ks[m]:=by simp[List.getD_eq_getElem?_getD,g1]
  rw[hq,show N.toNat-m=(N.toNat-(m+1))+1 by omega,List.replicate_succ]
  have hl:((ks.take m).map (fun(k:Int)=>k.tmod 4)).length=m:=by rw[List.length_map,List.length_take];omega
  have:=set_mid (ks[m].tmod 4) 0 ((ks.take m).map (fun(k:Int)=>k.tmod 4)) (List.replicate (N.toNat-(m+1)) 0)
  rw[hl]at this
  rw[this,take_at g1,List.map_append,List.append_assoc];rfl
 ·obtain⟨q1,q2,q3⟩:=hend (.inr (by omega))
  rw[q3]
  exact⟨⟨hs,by rw[← q3];exact q2.2.1,by rw[← q3];exact q2.2.2⟩,rfl,rfl,rfl⟩
 ·obtain⟨q1,q2,q3⟩:=hend (.inl (by omega))
  rw[q3]
  exact⟨⟨hs,by rw[← q3];exact q2.2.1,by rw[← q3];exact q2.2.2⟩,rfl,rfl,rfl⟩
theorem ct14:CtOk Tryd.prog G 14 e14:=by
 intro args r h hp
 unfold e14 at h
 split at h<;>cases h
 obtain⟨h1,h2,h3,h4,rfl,h5⟩:=hp
 exact(sp14 _ _ _ ⟨h1,h2⟩ ⟨h3,h4⟩ h5).caps
/-- A unit of a sheet. -/
theorem un_ok {w h:Int}{n:Nat}(hn:n<(units w h).length)(hs:s5 w h):0≤uC (units w h) n∧uC (units w h) n<4*w*h∧0≤uE (units w h) n∧uE (units w h) n≤2:=by
 have hm:=unL_mem (List.getElem_mem hn)
 obtain⟨u1,u2,u3⟩:=uAt hn
 have:=s5_len hs
 rw[u2,u3]
 have h3:((3*(4*w*h).toNat:Nat):Int)=3*(4*w*h):=by omega
 omega
/-! ### Checks over all sheets of at most 5 by 5 squares -/
def overS (m:Nat)(f:Int→Int→Int→Int→Bool):Bool:=(List.range m).all fun a=>(List.range m).all fun b=>(List.range (4*(a+1)*(b+1))).all fun i=>(List.range 3).all fun e=>f ((a:Int)+1) ((b:Int)+1) i e
theorem overS_ok {m:Nat}{f:Int→Int→Int→Int→Bool}(h:overS m f=true){w h' i e:Int}(hw:1≤w∧w≤m)(hh:1≤h'∧h'≤m)(hi:0≤i∧i<4*w*h')(he:0≤e∧e≤2):f w h' i e=true:=by
 unfold overS at h
 obtain⟨a,ha⟩:=Int.eq_ofNat_of_zero_le (show 0≤w-1 by omega)
 obtain⟨b,hb⟩:=Int.eq_ofNat_of_zero_le (show 0≤h'-1 by omega)
 obtain⟨i,rfl⟩:=Int.eq_ofNat_of_zero_le hi.1
 obtain⟨e,rfl⟩:=Int.eq_ofNat_of_zero_le he.1
 obtain rfl:w=(a:Int)+1:=by omega
 obtain rfl:h'=(b:Int)+1:=by omega
 have h1:=List.all_eq_true.1 h a (List.mem_range.2 (by omega))
 have h2:=List.all_eq_true.1 h1 b (List.mem_range.2 (by omega))
 have hlt:i<4*(a+1)*(b+1):=by
  have:(i:Int)<((4*(a+1)*(b+1):Nat):Int):=by push_cast;exact hi.2
  exact Int.ofNat_lt.1 this
 have h3:=List.all_eq_true.1 h2 i (List.mem_range.2 hlt)
 exact List.all_eq_true.1 h3 e (List.mem_range.2 (by omega))
end Go.Proofs.YtfpcbimohikhmaaDoor.X
