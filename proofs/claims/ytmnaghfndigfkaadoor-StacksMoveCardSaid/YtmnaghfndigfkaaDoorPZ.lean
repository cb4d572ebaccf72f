/-
 Sets as ascending lists: members, merging.
-/
import Derived.Test.YtmnaghfndigfkaaDoorCDZ
set_option maxRecDepth 1000000
set_option linter.unusedVariables false
set_option linter.unusedSimpArgs false
namespace Go.Proofs.YtmnaghfndigfkaaDoor.X
open Go Go.Ab

theorem ltC_trans {a b c:Cl}(h:ltC a b=true)(g:ltC b c=true):ltC a c=true:=by
 rw[ltC_iff]at *; omega
theorem ltC_irr (a:Cl):ltC a a=false:=by rw[ltC_no];omega
theorem ltC_tri {a b:Cl}(h:ltC a b=false)(g:ltC b a=false):a=b:=by
 rw[ltC_no]at h g
 obtain⟨x,y,q⟩:=a
 obtain⟨x',y',q'⟩:=b
 simp only at h g
 simp only[Prod.mk.injEq]
 omega
def Srt (l:List Cl):Prop:=l.Pairwise fun a b=>ltC a b=true
theorem srt_cons {a:Cl}{l:List Cl}:Srt (a::l)↔(∀x∈l,ltC a x=true)∧Srt l:=List.pairwise_cons
theorem srtB_iff:∀{l:List Cl},srtB l=true↔Srt l
 |[]=>by simp[srtB,Srt]
 |[a]=>by simp[srtB,Srt]
 |a::b::r=>by
  rw[srt_cons]
  simp only[srtB]
  cases h:ltC a b with
  |false=>simp[h]
  |true=>
   rw[cond_true,srtB_iff (l:=b::r)]
   constructor
   ·intro g
    refine⟨?_,g⟩
    intro x hx
    rcases List.mem_cons.1 hx with rfl|hx
    ·exact h
    ·exact ltC_trans h ((srt_cons.1 g).1 x hx)
   ·exact fun g=>g.2
/-! ### Add, Of -/
/-! ### Merging -/
end Go.Proofs.YtmnaghfndigfkaaDoor.X
