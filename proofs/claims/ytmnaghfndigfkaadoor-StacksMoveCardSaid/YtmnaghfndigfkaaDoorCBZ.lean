/-
 The contracts of the check of sets.
-/
import Derived.Test.YtmnaghfndigfkaaDoorCAZ
import Derived.Test.YtmnaghfndigfkaaDoorOBZ
set_option maxRecDepth 1000000
set_option linter.unusedVariables false
set_option linter.unusedSimpArgs false
namespace Go.Proofs.YtmnaghfndigfkaaDoor.X
open Go Go.Ab

theorem cmpI_neg {a b:Int}:cmpI a b<0↔a<b:=by unfold cmpI;split<;>(try split)<;>omega
theorem cmpI_eq {a b:Int}:cmpI a b=0↔a=b:=by unfold cmpI;split<;>(try split)<;>omega
theorem cmpC_neg {a b:Cl}:cmpC a b<0↔ltC a b=true:=by
 rw[ltC_iff]
 unfold cmpC ord3
 split
 ·rename_i h
  have:a.2.1≠b.2.1:=fun e=>h (cmpI_eq.2 e)
  rw[cmpI_neg];omega
 ·rename_i h
  have h:=cmpI_eq.1 (by omega:cmpI a.2.1 b.2.1=0)
  split
  ·rename_i h1
   have:a.1≠b.1:=fun e=>h1 (cmpI_eq.2 e)
   rw[cmpI_neg];omega
  ·rename_i h1
   have h1:=cmpI_eq.1 (by omega:cmpI a.1 b.1=0)
   rw[cmpI_neg];omega
end Go.Proofs.YtmnaghfndigfkaaDoor.X
