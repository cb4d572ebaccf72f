/-
 Cones: the law of folding.
-/
import Derived.Test.YthiammkiobbclaaDoorO16Z
import Derived.Test.YthiammkiobbclaaDoorP11Z
import Derived.Test.YthiammkiobbclaaDoorLVZ
set_option maxRecDepth 1000000
set_option linter.unusedVariables false
set_option linter.unusedSimpArgs false
namespace Go.Proofs.YthiammkiobbclaaDoor.X
open Go Go.Ab

theorem cntE_0 {a k:List Int}(hc:chk a k=0):cntE a k=0:=by
 unfold cntE ofE
 rw[if_pos hc]
 split<;>simp
theorem T33ok:TabOk Tryd.prog G T33:=tabL_ok noCh_ok ⟨ct25,ctc16,ctc31,ct11l,trivial⟩
theorem sp33 (c l:Int)(ks:List Int)(hk:okK ks):SpecP Tryd.prog G 3 [fV c l ks] (.bool true) []:=by
 refine fnP_spec hcm hmx T33ok ok3 rfl (ob_o33 c l ks) ?_
 dsimp -failIfUnchanged -proj -eta -iota -zeta only[rd,rdw,qs,ql,qx]
 obtain⟨h1,h2,h3,h4⟩:=of_ok (c:=c) (l:=l) hk
 have hc:=of_chk (c:=c) (l:=l) hk
 generalize ofA c l ks=a at*
 generalize ofK c ks=k at*
 have hf:=fld_iff hc
 have h0:=cntE_0 hc
 rw[hf,h0,hc]
 simp only[and_true,true_and,beq_self_eq_true]
 exact⟨hk,by omega,⟨by omega,by omega⟩⟩
end Go.Proofs.YthiammkiobbclaaDoor.X
