/-
 What is to be shown of the functions (made by a program).
-/
import Derived.Test.YtfafinkgmhkdmaaGreatDoorFGZ
set_option maxRecDepth 1000000
set_option linter.unusedVariables false
namespace Go.Proofs.YtfafinkgmhkdmaaGreatDoor.X
open Go Go.Ab
open List IntKind
theorem C9w (c l:Int)(ks:List Int):fnP (T5) G 10000 fe5 (.r [] 0 (.r [] 1 (.r [] 5 (.frz 2 0 .nil)))) ([fV c l ks]) ([A3T (ofA c 0 ks) (ofK c ks)]) ([])=(
 (length ks=length ks/\okK ks)/\length (ofA c 0 ks)=length (ofA c 0 ks)/\length (ofK c ks)=length (ofK c ks)/\Cont.ints i64 (ofA c 0 ks)=Cont.ints i64 (ofA c 0 ks)/\length (ofA c 0 ks)=
 length (ofA c 0 ks)/\Cont.ints u8 (ofK c ks)=Cont.ints u8 (ofK c ks)/\length (ofK c ks)=length (ofK c ks)/\True):=by kernel_rfl
end Go.Proofs.YtfafinkgmhkdmaaGreatDoor.X
