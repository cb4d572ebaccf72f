/-
 What the functions that turn a pattern over compute; the ends of a unit; the reference's back side.
-/
import Derived.Test.YtfpcbimohikhmaaDoorQD5Z
import Derived.Test.YtfpcbimohikhmaaDoorQPFZ
import Derived.KernelRfl
import Derived.Test.YtfpcbimohikhmaaDoorQC8Z
import Derived.Test.YtfpcbimohikhmaaDoorQYC7Z
import Derived.Test.YtfpcbimohikhmaaDoorQD7Z
import Derived.Test.YtfpcbimohikhmaaDoorQYD6Z
set_option maxRecDepth 1000000
set_option linter.unusedVariables false
namespace Go.Proofs.YtfpcbimohikhmaaDoor.X
open Go Go.Ab

/-! ### Sorting creases -/
def bndC (x:Cr):Prop:= -1000000≤x.1∧x.1≤1000000∧0≤x.2.1∧x.2.1≤2
instance (x:Cr):Decidable (bndC x):=by unfold bndC;infer_instance
abbrev Cb:Type:={x:Cr // bndC x}
instance:Inhabited Cb:=⟨⟨(0,0,0),by decide⟩⟩
/-! ### The back side -/
structure L24 where (i:Int)(l:List AV)
structure L2b where (c e:Int)
/-! ### Ends of a unit -/
structure L3b where (x y q:Int)
/-! ### The reference's back side -/
end Go.Proofs.YtfpcbimohikhmaaDoor.X

/-
 Mirror images of units of small sheets, by the kernel.
-/
set_option maxRecDepth 1000000
set_option linter.unusedVariables false
namespace Go.Proofs.YtfpcbimohikhmaaDoor.X
open Go Go.Ab

end Go.Proofs.YtfpcbimohikhmaaDoor.X
/-
 What is to be shown of the functions (made by a program).
-/
set_option maxRecDepth 1000000
set_option linter.unusedVariables false
namespace Go.Proofs.YtfpcbimohikhmaaDoor.X
open Go Go.Ab

end Go.Proofs.YtfpcbimohikhmaaDoor.X
/-
 Sorting creases: the library's contract, laid (by the kit's own command), under the closure's contract.
-/
set_option maxRecDepth 1000000
set_option linter.unusedVariables false
set_option linter.unusedSimpArgs false
namespace Go.Proofs.YtfpcbimohikhmaaDoor.X
open Go Go.Ab Go.Shelf Go.Proofs

end Go.Proofs.YtfpcbimohikhmaaDoor.X
/-
 What is to be shown of the functions (made by a program).
-/
set_option maxRecDepth 1000000
set_option linter.unusedVariables false
namespace Go.Proofs.YtfpcbimohikhmaaDoor.X
open Go Go.Ab

end Go.Proofs.YtfpcbimohikhmaaDoor.X
/-
 The contracts of the back side of a pattern, of the ends of a unit, of the reference's back side.
-/
set_option maxRecDepth 1000000
set_option linter.unusedVariables false
set_option linter.unusedSimpArgs false
namespace Go.Proofs.YtfpcbimohikhmaaDoor.X
open Go Go.Ab

end Go.Proofs.YtfpcbimohikhmaaDoor.X
/-
 The contracts of the ends of a unit, of the reference's back side.
-/
set_option maxRecDepth 1000000
set_option linter.unusedVariables false
set_option linter.unusedSimpArgs false
namespace Go.Proofs.YtfpcbimohikhmaaDoor.X
open Go Go.Ab

end Go.Proofs.YtfpcbimohikhmaaDoor.X
/-
 The contract of the reference's back side.
-/
set_option maxRecDepth 1000000
set_option linter.unusedVariables false
set_option linter.unusedSimpArgs false
namespace Go.Proofs.YtfpcbimohikhmaaDoor.X
open Go Go.Ab

end Go.Proofs.YtfpcbimohikhmaaDoor.X
/-
 The plain law of patterns: the back side.
-/
set_option maxRecDepth 1000000
set_option linter.unusedVariables false
set_option linter.unusedSimpArgs false
namespace Go.Proofs.YtfpcbimohikhmaaDoor.X
open Go Go.Ab
/-! ### The back side -/
end Go.Proofs.YtfpcbimohikhmaaDoor.X
/-
 Faces, plainly: the back side; each number is some cell's; sums.
-/
set_option maxRecDepth 1000000
set_option linter.unusedVariables false
set_option linter.unusedSimpArgs false
namespace Go.Proofs.YtfpcbimohikhmaaDoor.X
open Go Go.Ab

/-! ### The back side -/
/-! ### Each number is some cell's -/
theorem mem_celL {F:List Int}{f:Int}{x:Int}:x∈celL F f↔∃i:Nat,i<F.length∧gI F i=f∧x=i:=by
 unfold celL celP
 rw[List.mem_map]
 constructor
 ·rintro⟨i,h1,rfl⟩
  obtain⟨h1,h2⟩:=List.mem_filter.1 h1
  exact⟨i,List.mem_range.1 h1,by simpa using h2,rfl⟩
 ·rintro⟨i,h1,h2,rfl⟩
  exact⟨i,List.mem_filter.2 ⟨List.mem_range.2 h1,by simpa using h2⟩,rfl⟩
/-! ### The units of the joints -/
def sumU (L:List Jt):Int:=(L.map fun x=>x.2.2).sum
def sumE (es:List Ent3):Int:=(es.map fun e=>e.2.1.getD 0 0).sum
theorem put_sum {k:List Int}{z:Int}{c:Nat}:∀(es:List Ent3),sumE (mput es k [z] c)=sumE es+z-((mget es k).getD []).getD 0 0
 |[]=>by simp[mput,mget,sumE]
 |e::r=>by
  have ih:=put_sum (k:=k) (z:=z) (c:=c) r
  unfold sumE at ih ⊢
  simp only[mput,mget,cond_eq_ite,decide_eq_true_eq]
  by_cases h:k=e.1
  ·rw[if_pos h,if_pos h];simp;omega
  ·rw[if_neg h,if_neg h,List.map_cons,List.map_cons,List.sum_cons,List.sum_cons,ih];omega
theorem grF_sum (w h:Int)(F:List Int)(l:List Cr):sumE (grF w h F l).1=l.length:=by
 refine snoc_ind (P:=fun l=>sumE (grF w h F l).1=l.length) rfl (fun l c ih=>?_) l
 rw[grF_snoc,List.length_append]
 unfold grS
 simp only
 rw[put_sum,ih]
 unfold grV
 simp;omega
theorem perm_sum {l l':List Int}(h:l.Perm l'):l.sum=l'.sum:=by
 induction h with
 |nil=>rfl
 |cons x _ ih=>rw[List.sum_cons,List.sum_cons,ih]
 |swap x y l=>rw[List.sum_cons,List.sum_cons,List.sum_cons,List.sum_cons];omega
 |trans _ _ h1 h2=>rw[h1,h2]
theorem sumU_jnL {w h:Int}{F:List Int}{l:List Cr}(hs:s5 w h)(hv:vP w h l)(hF:okF w h F):sumU (jnL w h F l)=l.length:=by
 obtain⟨p1,p2,p3,p4⟩:=jn_perm hs hv hF (List.Perm.refl ((grF w h F l).1.map entJ))
 have p5:=(srtJ_ok p4).1
 rw[p1]at p5
 have h1:((jnL w h F l).map fun x=>x.2.2).Perm (((grF w h F l).1.map entJ).map fun x=>x.2.2):=p5.map _
 have h2:=grF_sum w h F l
 unfold sumU
 rw[perm_sum h1,List.map_map,← h2];rfl
end Go.Proofs.YtfpcbimohikhmaaDoor.X
/-
 The law on the back side: contracts of valid patterns, the loop.
-/
set_option maxRecDepth 1000000
set_option linter.unusedVariables false
set_option linter.unusedSimpArgs false
namespace Go.Proofs.YtfpcbimohikhmaaDoor.X
open Go Go.Ab
end Go.Proofs.YtfpcbimohikhmaaDoor.X
/-
 The laws on faces: contracts, loops.
-/
set_option maxRecDepth 1000000
set_option linter.unusedVariables false
namespace Go.Proofs.YtfpcbimohikhmaaDoor.X
open Go Go.Ab

def e40:CtE
 |[]=>some ⟨.bool true,[],none⟩
 |_=>none
/-! ### Sizes -/
/-! ### Graph -/
noncomputable def T9:Tab:=tabL [(14,e14),(37,e37v),(38,e38v),(39,e39),(40,e40)] noCh
structure L9 where (i s:Int)(b:Bool)
def l9 (L:List Jt):LpS L9 where
 ov b:=[(11,.int .i64 b.i),(9,.int .i64 b.s),(10,.bool b.b)]
 bk b:=[]
 rd S:=match aget S.t 11,aget S.t 9,aget S.t 10 with
  |some (.int _ i),some (.int _ m),some (.bool b)=>some ⟨i,m,b⟩
  |_,_,_=>none
 pre b:=∃n:Nat,b.i=n∧n≤L.length∧b.s=sumU (L.take n)∧b.b=lseJ (L.take n)
 mu b:=L.length-b.i.toNat
end Go.Proofs.YtfpcbimohikhmaaDoor.X
