/-
 Cones: the law of turning.
-/
import Derived.Test.YthiammkiobbclaaGreatDoorO15Z
import Derived.Test.YthiammkiobbclaaGreatDoorP10Z
import Derived.Test.YthiammkiobbclaaGreatDoorTVZ
set_option maxRecDepth 1000000
set_option linter.unusedVariables false
set_option linter.unusedSimpArgs false
namespace Go.Proofs.YthiammkiobbclaaGreatDoor.X
open Go Go.Ab

theorem cntE0 {a k:List Int}(hc:chk a k=0):cntE a k=0:=by
 unfold cntE ofE
 rw[if_pos hc]
 split<;>simp
theorem ev_z22:evM G (aget xpl) nats (fun _ _ _ _=>none) 100000 1000 1 [] (.fn 22 [] []) ([AV.agg [AV.imm (Cont.ints IntKind.i64 []) 0 none,AV.imm (Cont.ints IntKind.u8 []) 0 none],.int .i64 0])=some ⟨AV.tup [AV.agg [AV.fullc 4 0 0,AV.fullc 6 0 0],AV.int IntKind.i64 0],[(6,HO.blk {c:=Cont.ints IntKind.u8 [],sz:=1,n:=0,cap:=none,nil:=some true,mu:=true,bx:=false}),(4,HO.blk {c:=Cont.ints IntKind.i64 [],sz:=1,n:=0,cap:=none,nil:=some true,mu:=true,bx:=false})],[6,4],[]⟩:=by kernel_rfl
theorem me_z22:SpecP Tryz.prog G 22 ([AV.agg [AV.imm (Cont.ints IntKind.i64 []) 0 none,AV.imm (Cont.ints IntKind.u8 []) 0 none],.int .i64 0]) (AV.tup [AV.agg [AV.fullc 1 0 0,AV.fullc 0 0 0],AV.int IntKind.i64 0]) ([⟨Cont.ints IntKind.u8 [],1,0,none,some true,true,false⟩,⟨Cont.ints IntKind.i64 [],1,0,none,some true,true,false⟩]):=
 specP_of_evS hcm hmx xpOk natsOk noMe ev_z22 [(0,6),(1,4)] (by repeat (first|exact True.intro|refine And.intro rfl ?_))
theorem ct22z:CtOk Tryz.prog G 22 e22z:=by
 intro args r h hp
 unfold e22z at h
 split at h<;>cases h
 obtain⟨rfl,rfl,rfl,rfl,rfl⟩:=hp
 exact me_z22.caps
theorem t5ok:CtsOk Tryz.prog G t5:=⟨ct25,ctc16,ct20,ct21,ct11t,trivial⟩
theorem T5ok:TabOk Tryz.prog G T5:=tabL_ok noCh_ok ⟨ct19,t5ok⟩
theorem T5zok:TabOk Tryz.prog G T5z:=tabL_ok noCh_ok ⟨ct22z,t5ok⟩
theorem sp5 (c l:Int)(ks:List Int)(y:Int)(hk:okK ks)(hy:0≤y∧y≤255):SpecP Tryz.prog G 5 [fV c l ks,.int .u8 y] (.bool true) []:=by
 obtain⟨h1,h2,h3,h4⟩:=of_ok (c:=c) (l:=l) hk
 have hc:=of_chk (c:=c) (l:=l) hk
 by_cases hA:(ofA c l ks).length=0
 ·refine fnP_spec hcm hmx T5zok ok5 rfl (ob_o5z c l ks y) ?_
  generalize ofA c l ks=a at*
  generalize ofK c ks=k at*
  obtain rfl:a=[]:=List.length_eq_zero_iff.1 hA
  obtain rfl:k=[]:=List.length_eq_zero_iff.1 (by simpa using h1.symm)
  have e1:mirK' []=[]:=rfl
  have e2:ovK' []=[]:=rfl
  have e3:(if(1:Int)>((0:Nat):Int)then(1:Int)else((0:Nat):Int))=1:=rfl
  have h0:=cntE0 hc
  simp only[List.length_nil,e3,Int.tmod_one,e1,e2,List.reverse_nil,h0,ltb_iff,ltb_no,inR_i64,beq_iff_eq,and_true,true_and,beq_self_eq_true]
  have hcw:(cwL [] []).length=1:=by decide +kernel
  refine⟨hk,fun _=>trivial,fun _=>⟨by omega,rfl,by omega,by omega,by omega,by omega,by omega,by omega,by rw[hcw];rfl⟩⟩
 ·refine fnP_spec hcm hmx T5ok ok5 rfl (ob_o5p c l ks y) ?_
  generalize ofA c l ks=a at*
  generalize ofK c ks=k at*
  have e:(if(1:Int)>(a.length:Int)then(1:Int)else(a.length:Int))=a.length:=by split<;>omega
  have i0:0≤y.tmod a.length:=Int.tmod_nonneg _ hy.1
  have i1:y.tmod a.length<a.length:=Int.tmod_lt_of_pos _ (by omega)
  simp only[e]
  generalize y.tmod a.length=t at*
  obtain⟨j,rfl⟩:∃j:Nat,t=j:=⟨t.toNat,by omega⟩
  simp only[Int.toNat_natCast,ltb_iff,ltb_no,inR_i64,beq_iff_eq,and_true,true_and,Int.natCast_inj,Bool.not_eq_true',beq_eq_false_iff_ne,ne_eq]
  refine⟨hk,fun _=>trivial,fun h6=>?_⟩
  obtain⟨r1,r2⟩:=cnt_rot hc (by omega) j (by omega)
  obtain⟨m1,m2⟩:=cnt_mir hc (by omega)
  obtain⟨o1,o2⟩:=cnt_ov hc (by omega)
  have lr:=(rot_perm a j).length_eq
  exact⟨by omega,by omega,⟨by omega,hc,by omega,by omega⟩,by omega,by omega,⟨by omega,by omega⟩,by rw[List.length_reverse];omega,⟨by omega,by omega⟩,by rw[List.length_reverse];omega,cntE0 hc,cntE0 r1,cntE0 m1,cntE0 o1,r2.symm,m2.symm,o2.symm⟩
end Go.Proofs.YthiammkiobbclaaGreatDoor.X
