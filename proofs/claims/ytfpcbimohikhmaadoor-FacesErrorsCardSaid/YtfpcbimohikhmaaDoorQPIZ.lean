/-
 What the functions that turn a pattern over compute; the ends of a unit; the reference's back side.
-/
import Derived.Test.YtfpcbimohikhmaaDoorQD5Z
import Derived.Test.YtfpcbimohikhmaaDoorQPFZ
import Derived.KernelRfl
import Derived.Test.YtfpcbimohikhmaaDoorQC8Z
import Derived.Test.YtfpcbimohikhmaaDoorQYC7Z

set_option maxRecDepth 1000000
set_option linter.unusedVariables false
namespace Go.Proofs.YtfpcbimohikhmaaDoor.X
open Go Go.Ab

/-! ### Sorting creases -/
def bndC (x:Cr):Prop:= -1000000≤x.1∧x.1≤1000000∧0≤x.2.1∧x.2.1≤2
instance (x:Cr):Decidable (bndC x):=by unfold bndC;infer_instance
abbrev Cb:Type:={x:Cr // bndC x}
instance:Inhabited Cb:=⟨⟨(0,0,0),by decide⟩⟩
/-! ### The back side -/
structure L24 where (i:Int)(l:List AV)
structure L2b where (c e:Int)
/-! ### Ends of a unit -/
structure L3b where (x y q:Int)
/-! ### The reference's back side -/
end Go.Proofs.YtfpcbimohikhmaaDoor.X

/-
 Mirror images of units of small sheets, by the kernel.
-/
set_option maxRecDepth 1000000
set_option linter.unusedVariables false
namespace Go.Proofs.YtfpcbimohikhmaaDoor.X
open Go Go.Ab

end Go.Proofs.YtfpcbimohikhmaaDoor.X
/-
 What is to be shown of the functions (made by a program).
-/
set_option maxRecDepth 1000000
set_option linter.unusedVariables false
namespace Go.Proofs.YtfpcbimohikhmaaDoor.X
open Go Go.Ab

end Go.Proofs.YtfpcbimohikhmaaDoor.X
/-
 Sorting creases: the library's contract, laid (by the kit's own command), under the closure's contract.
-/
set_option maxRecDepth 1000000
set_option linter.unusedVariables false
set_option linter.unusedSimpArgs false
namespace Go.Proofs.YtfpcbimohikhmaaDoor.X
open Go Go.Ab Go.Shelf Go.Proofs

end Go.Proofs.YtfpcbimohikhmaaDoor.X
/-
 What is to be shown of the functions (made by a program).
-/
set_option maxRecDepth 1000000
set_option linter.unusedVariables false
namespace Go.Proofs.YtfpcbimohikhmaaDoor.X
open Go Go.Ab

end Go.Proofs.YtfpcbimohikhmaaDoor.X
/-
 The contracts of the back side of a pattern, of the ends of a unit, of the reference's back side.
-/
set_option maxRecDepth 1000000
set_option linter.unusedVariables false
set_option linter.unusedSimpArgs false
namespace Go.Proofs.YtfpcbimohikhmaaDoor.X
open Go Go.Ab

/-- What is known of a crease on a unit. -/
theorem unit_ok {w h:Int}{x:Cr}(hx:unitB w h x=true)(he:0≤x.2.1):okS w h=true∧hasB w h x.1=true∧okI w h x.1=true∧x.2.1≤2∧0≤nbI w h x.1 x.2.1∧x.1≤nbI w h x.1 x.2.1:=by
 unfold unitB okN at hx
 simp only[Bool.and_eq_true,decide_eq_true_eq,leb_iff]at hx
 obtain⟨⟨h1,h2,h3⟩,h4⟩:=hx
 have h1':=h1
 unfold okI at h1'
 simp only[Bool.and_eq_true]at h1'
 exact⟨h1'.1,h1'.2,h1,h2,h3,h4⟩
end Go.Proofs.YtfpcbimohikhmaaDoor.X
/-
 The contracts of the ends of a unit, of the reference's back side.
-/
set_option maxRecDepth 1000000
set_option linter.unusedVariables false
set_option linter.unusedSimpArgs false
namespace Go.Proofs.YtfpcbimohikhmaaDoor.X
open Go Go.Ab

end Go.Proofs.YtfpcbimohikhmaaDoor.X
/-
 The contract of the reference's back side.
-/
set_option maxRecDepth 1000000
set_option linter.unusedVariables false
set_option linter.unusedSimpArgs false
namespace Go.Proofs.YtfpcbimohikhmaaDoor.X
open Go Go.Ab

end Go.Proofs.YtfpcbimohikhmaaDoor.X
/-
 The plain law of patterns: the back side.
-/
set_option maxRecDepth 1000000
set_option linter.unusedVariables false
set_option linter.unusedSimpArgs false
namespace Go.Proofs.YtfpcbimohikhmaaDoor.X
open Go Go.Ab
/-! ### The back side -/
/-- A pattern by a function of kinds. -/
def patF (us:List Int)(f:Int→Int):List Cr:=(us.filter fun c=>f c !=0).map fun c=>(c/3,c%3,f c)
theorem wthL_map:∀(us:List Int) (f:Int→Int),wthL us (us.map f)=patF us f
 |[],f=>rfl
 |c::us,f=>by
  have ih:=wthL_map us f
  unfold patF at ih ⊢
  simp only[List.map_cons,wthL,List.filter_cons]
  by_cases hk:f c=0
  ·rw[if_pos hk,if_neg (by simp[hk]),ih]
  ·rw[if_neg hk,if_pos (by simpa using hk),ih,List.map_cons]
end Go.Proofs.YtfpcbimohikhmaaDoor.X
/-
 Faces, plainly: the back side; each number is some cell's; sums.
-/
set_option maxRecDepth 1000000
set_option linter.unusedVariables false
set_option linter.unusedSimpArgs false
namespace Go.Proofs.YtfpcbimohikhmaaDoor.X
open Go Go.Ab

/-! ### The back side -/
/-! ### Each number is some cell's -/
theorem gI_facL {w h:Int}{l:List Cr}(hs:s5 w h){i:Nat}(hi:i<nC w h):gI (facL w h l) i=kP w h l (rP w h l i):=by
 have hlt:rP w h l i<nC w h:=Nat.lt_of_le_of_lt ((rep_P hs l).inv.le i hi) hi
 rw[← labF_all l hs,gI_labF hi,if_pos hlt]
theorem kP_onto (w h:Int)(l:List Cr):∀(m:Nat) (j:Int),0≤j→j<kP w h l m→∃r,r<m∧rP w h l r=r∧kP w h l r=j
 |0,j,h0,hj=>by simp[kP,rk]at hj;omega
 |m+1,j,h0,hj=>by
  rw[kP_next]at hj
  by_cases hlt:j<kP w h l m
  ·obtain⟨r,h1,h2,h3⟩:=kP_onto w h l m j h0 hlt
   exact⟨r,by omega,h2,h3⟩
  ·by_cases hr:rP w h l m=m
   ·rw[if_pos hr]at hj
    exact⟨m,by omega,hr,by omega⟩
   ·rw[if_neg hr]at hj;omega
theorem fac_onto {w h:Int}(l:List Cr)(hs:s5 w h){j:Int}(h0:0≤j)(hj:j≤maxL (facL w h l)):∃i,i<nC w h∧gI (facL w h l) i=j:=by
 have hl:=facL_len hs l
 obtain⟨n100,n4⟩:=nC_le hs
 have hm:=maxL_mem (l:=facL w h l) (fun e=>by rw[e]at hl;simp at hl;omega)
 obtain⟨i,hi,he⟩:=List.getElem_of_mem hm
 have hi':i<nC w h:=by omega
 have hR:=rep_P hs l
 have hri:rP w h l i<nC w h:=Nat.lt_of_le_of_lt (hR.inv.le i hi') hi'
 have hx:maxL (facL w h l)=kP w h l (rP w h l i):=by rw[← gI_facL hs hi',gI_at hi,he]
 by_cases e:j=maxL (facL w h l)
 ·exact⟨i,hi',by rw[gI_facL hs hi',← hx,e]⟩
 ·obtain⟨r,r1,r2,r3⟩:=kP_onto w h l (rP w h l i) j h0 (by omega)
  exact⟨r,by omega,by rw[gI_facL hs (by omega),r2,r3]⟩
theorem fac_max {w h:Int}(l:List Cr)(hs:s5 w h):0≤maxL (facL w h l)∧maxL (facL w h l)<nC w h∧∀x∈facL w h l,x≤maxL (facL w h l):=by
 have hl:=facL_len hs l
 obtain⟨n100,n4⟩:=nC_le hs
 have hm:=facL_le hs l _ (maxL_mem (l:=facL w h l) (fun e=>by rw[e]at hl;simp at hl;omega))
 exact⟨hm.1,hm.2,fun x hx=>le_maxL hx⟩
theorem mem_celL {F:List Int}{f:Int}{x:Int}:x∈celL F f↔∃i:Nat,i<F.length∧gI F i=f∧x=i:=by
 unfold celL celP
 rw[List.mem_map]
 constructor
 ·rintro⟨i,h1,rfl⟩
  obtain⟨h1,h2⟩:=List.mem_filter.1 h1
  exact⟨i,List.mem_range.1 h1,by simpa using h2,rfl⟩
 ·rintro⟨i,h1,h2,rfl⟩
  exact⟨i,List.mem_filter.2 ⟨List.mem_range.2 h1,by simpa using h2⟩,rfl⟩
theorem celL_ne {w h:Int}(l:List Cr)(hs:s5 w h){j:Int}(h0:0≤j)(hj:j≤maxL (facL w h l)):celL (facL w h l) j≠[]:=by
 obtain⟨i,h1,h2⟩:=fac_onto l hs h0 hj
 intro e
 have:(i:Int)∈celL (facL w h l) j:=mem_celL.2 ⟨i,by rw[facL_len hs];exact h1,h2,rfl⟩
 rw[e]at this;simp at this
/-! ### The units of the joints -/
end Go.Proofs.YtfpcbimohikhmaaDoor.X
