/-
 What is to be shown of the functions (made by a program).
-/
import Derived.Test.YthiammkiobbclaaD7Z
import Derived.KernelRfl
import Derived.Test.YthiammkiobbclaaC6Z
set_option maxRecDepth 1000000
set_option linter.unusedVariables false
namespace Go.Proofs.Ythiammkiobbclaa.X
open Go Go.Ab

end Go.Proofs.Ythiammkiobbclaa.X

/-
 What is to be shown of the functions (made by a program).
-/
set_option maxRecDepth 1000000
set_option linter.unusedVariables false
namespace Go.Proofs.Ythiammkiobbclaa.X
open Go Go.Ab
open List IntKind

theorem ob_o67 (a:List Int):fnP (T0) G 10000 fe29 (.r [] 0 (.r [] 0 (.lit (.r [] 1 .nil)))) ([.imm (.ints .i64 a) a.length none]) ([.full 0 a.length]) ([blkN .i64 a])=(
 ltn 0 (length a)=true∧len' ((0+length a)*8) 140737488355328=true∧Cont.size (Cont.ints i64 a)=length a∧0+length a=length a∧[]++a=a∧0+length a=length a∧True):=by kernel_rfl

end Go.Proofs.Ythiammkiobbclaa.X
/-
 What is to be shown of the functions (made by a program).
-/
set_option maxRecDepth 1000000
set_option linter.unusedVariables false
namespace Go.Proofs.Ythiammkiobbclaa.X
open Go Go.Ab

end Go.Proofs.Ythiammkiobbclaa.X
/-
 The contracts of the functions that fold angles away.
-/
set_option maxRecDepth 1000000
set_option linter.unusedVariables false
set_option linter.unusedSimpArgs false
namespace Go.Proofs.Ythiammkiobbclaa.X
open Go Go.Ab

theorem memB_iff:∀{l:List Int} {x:Int} {i:Int},0≤i→(0≤idxL x l i↔x∈l)
 |[],x,i,h=>by simp[idxL]
 |y::l,x,i,h=>by
  simp only[idxL]
  split
  ·rename_i e;simp[e,h]
  ·rename_i e
   rw[memB_iff (by omega)]
   simp[e]
theorem memB_true {l:List Int}{x:Int}:memB l x=true↔x∈l:=by
 unfold memB
 rw[leb_iff];exact memB_iff (by omega)
end Go.Proofs.Ythiammkiobbclaa.X
/-
 The contracts of slices joined, cloned, reversed; of fans turned, mirrored, turned over.
-/
set_option maxRecDepth 1000000
set_option linter.unusedVariables false
set_option linter.unusedSimpArgs false
namespace Go.Proofs.Ythiammkiobbclaa.X
open Go Go.Ab

theorem sp67 (a:List Int)(h0:0<a.length)(hl:a.length<100000000000):SpecP Try.prog G 29 [.imm (.ints .i64 a) a.length none] (.full 0 a.length) [blkN .i64 a]:=by
 refine fnP_spec hcm hmx T0ok ok29 rfl (ob_o67 a) ?_
 simp[h0]
 omega
theorem ct67:CtOk Try.prog G 29 (eCloneP .i64):=by
 intro args r h hp
 unfold eCloneP at h
 split at h
 ·rw[cond_eq_ite]at h
  split at h
  ·rename_i hk
   cases h
   cases beqK_ok hk
   obtain⟨rfl,h0,hl⟩:=hp
   exact(sp67 _ h0 hl).caps
  ·cases h
 ·cases h
end Go.Proofs.Ythiammkiobbclaa.X
/-
 The contracts of the functions that reduce fans.
-/
set_option maxRecDepth 1000000
set_option linter.unusedVariables false
set_option linter.unusedSimpArgs false
namespace Go.Proofs.Ythiammkiobbclaa.X
open Go Go.Ab

end Go.Proofs.Ythiammkiobbclaa.X
