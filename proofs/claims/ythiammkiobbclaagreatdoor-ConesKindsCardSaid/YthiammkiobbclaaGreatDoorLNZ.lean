/-
 The chapter's examples hold (the functions are run by the kernel).
-/
import Derived.Test.YthiammkiobbclaaGreatDoorC9Z
import Derived.Test.YthiammkiobbclaaGreatDoorAb6
import Derived.KernelRfl
set_option maxRecDepth 1000000
set_option linter.unusedVariables false
namespace Go.Proofs.YthiammkiobbclaaGreatDoor.X
open Go Go.Ab

theorem nat110:NatOk Tryz.prog (natIdx 110):=
 natIdx_ok Tryz.func110 (by kernel_rfl) (by kernel_rfl) (by kernel_rfl) (by kernel_rfl)
theorem nat118:NatOk Tryz.prog (natCnt 118):=
 natCnt_ok Tryz.func118 (by kernel_rfl) (by kernel_rfl) (by kernel_rfl) (by kernel_rfl)
def nats:Nat→List AV→Option AV:=natOr (natIdx 110) (natCnt 118)
theorem natsOk:NatOk Tryz.prog nats:=natOr_ok nat110 nat118
theorem nilfan {f:Nat}{rest:List AV}{v:AV}{bs:List Blk}(h:SpecP Tryz.prog G f (.agg [.imm (.ints .i64 []) 0 none,.imm (.ints .u8 []) 0 none]::rest) v bs):SpecP Tryz.prog G f (.agg [.nils,.nils]::rest) v bs:=h.args fun w F xs h=>by
 cases h with
 |cons _ _ _ _ h1 h2=>
  refine .cons _ _ _ _ ?_ h2
  cases h1 with
  |agg _ x h3=>
   refine .agg _ x ?_
   cases h4:x.toList with
   |nil=>rw[h4]at h3;cases h3
   |cons y ys=>
    rw[h4]at h3
    cases h3 with
    |cons _ _ _ _ g1 g2=>
     cases g2 with
     |cons _ _ _ _ g3 g4=>exact .cons _ _ _ _ (by cases g1;exact .imm0 _ _ _ rfl (fun n e=>by cases e)) (.cons _ _ _ _ (by cases g3;exact .imm0 _ _ _ rfl (fun n e=>by cases e)) g4)
theorem mk_c (a k:List Int)(n m:Nat)(c1 c2:Option Nat)(hn:n=a.length)(hm:m=k.length)(hz:a.length<1000000)(hz2:k.length<1000000){v:AV}(hv:(e16c [AV.agg [AV.imm (Cont.ints IntKind.i64 a) n c1,AV.imm (Cont.ints IntKind.u8 k) m c2]]).map (·.v)=some v):SpecP Tryz.prog G 16 [AV.agg [AV.imm (Cont.ints IntKind.i64 a) n c1,AV.imm (Cont.ints IntKind.u8 k) m c2]] v []:=by
 cases hv
 exact ctc16 _ _ rfl ⟨hn,hm,hz⟩
theorem mk_s (a k:List Int)(n m:Nat)(c1 c2:Option Nat)(hn:n=a.length)(hm:m=k.length)(hz:a.length<1000000)(hz2:k.length<1000000){v:AV}(hv:(e17c [AV.agg [AV.imm (Cont.ints IntKind.i64 a) n c1,AV.imm (Cont.ints IntKind.u8 k) m c2]]).map (·.v)=some v):SpecP Tryz.prog G 17 [AV.agg [AV.imm (Cont.ints IntKind.i64 a) n c1,AV.imm (Cont.ints IntKind.u8 k) m c2]] v []:=by
 cases hv
 exact ctc17 _ _ rfl ⟨hn,hm,hz⟩
theorem mk_r (a k:List Int)(n m:Nat)(c1 c2:Option Nat)(hn:n=a.length)(hm:m=k.length)(hz:a.length<1000000)(hz2:k.length<1000000){v:AV}(hv:(ec26 [AV.agg [AV.imm (Cont.ints IntKind.i64 a) n c1,AV.imm (Cont.ints IntKind.u8 k) m c2]]).map (·.v)=some v):SpecP Tryz.prog G 26 [AV.agg [AV.imm (Cont.ints IntKind.i64 a) n c1,AV.imm (Cont.ints IntKind.u8 k) m c2]] v []:=by
 cases hv
 exact ctc26 _ _ rfl ⟨hn,hm,hz⟩
end Go.Proofs.YthiammkiobbclaaGreatDoor.X
