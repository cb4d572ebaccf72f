/-
 Contract: the reference's Of.
-/
import Derived.Test.YtfpcbimohikhmaaDoorQYC4Z
set_option maxRecDepth 1000000
set_option linter.unusedVariables false
set_option linter.unusedSimpArgs false
namespace Go.Proofs.YtfpcbimohikhmaaDoor.X
open Go Go.Ab

theorem gI_getD (m:List Int)(i:Nat):m.getD i 0=gI m i:=by unfold gI;rw[List.getD_eq_getElem?_getD]
theorem kP_at {w h:Int}{l:List Cr}(hs:s5 w h){n:Nat}(hn:n<nC w h):rP w h l n≤n∧rP w h l (rP w h l n)=rP w h l n:=by
 have hR:=rep_P hs l
 exact⟨hR.inv.le n hn,hR.inv.idem n hn⟩
end Go.Proofs.YtfpcbimohikhmaaDoor.X
