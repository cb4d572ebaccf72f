/-
 What is to be shown of the functions (made by a program).
-/
import Derived.Test.YthiammkiobbclaaDoorD16Z
import Derived.KernelRfl
set_option maxRecDepth 1000000
set_option linter.unusedVariables false
namespace Go.Proofs.YthiammkiobbclaaDoor.X
open Go Go.Ab
open List IntKind

theorem ob_o33 (c l:Int)(ks:List Int):fnP (T33) G 10000 fe3 (.r [] 0 (.r [] 5 (.r [] 49 (.r [] 49 (.r [yL 323,yL 327,yL 333] 950 .nil))))) ([fV c l ks]) ([.bool true]) ([])=(
 (fun(zz0:Nat)=>(qx (length ks) (okK ks))∧qx zz0 (qx (length (ofK c ks)) ((qx zz0 (qx (length (ofK c ks)) (length (ofA c l ks)<1000000)))∧qx zz0 (qx (length (ofK c ks)) ((qx zz0
 (qx (length (ofK c ks)) (length (ofA c l ks)<1000000∧length (ofK c ks)<1000000)))∧(cntE (ofA c l ks) (ofK c ks)==0)=true∧(chk (ofA c l ks) (ofK c ks)==0)=true∧(fldB (ofA
 c l ks) (ofK c ks)==ltb 0 (↑(length (cwL (ofA c l ks) (ofK c ks))):Int))=true∧true=true∧True))))) (length (ofA c l ks))):=by kernel_rfl

end Go.Proofs.YthiammkiobbclaaDoor.X
