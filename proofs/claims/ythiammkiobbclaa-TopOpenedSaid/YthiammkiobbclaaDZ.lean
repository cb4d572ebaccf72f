/-
 What the functions on fans and their reductions compute.
-/
import Derived.Test.YthiammkiobbclaaXpZ
import Derived.Test.YthiammkiobbclaaAb6
import Derived.KernelRfl
import GoSem.PinnedTables
set_option maxRecDepth 1000000
set_option linter.unusedVariables false
namespace Go.Proofs.Ythiammkiobbclaa.X
open Go Go.Ab

/-- Package-level tables. -/
def gl:Nat→Option Cont:=fun _=>none
noncomputable def G:GL:={g:=gl,cm:=cmOf Try.prog}
theorem hcm:G.cm=cmOf Try.prog:=rfl
theorem hmx:Try.prog.follows .mixedOrders=true:=by kernel_rfl
/-- A fan, by value. -/
def fanV (a k:List Int):AV:=.agg [.imm (.ints .i64 a) a.length none,.imm (.ints .u8 k) k.length none]
structure L17 where (i s:Int)
def T0:Tab:=tabL [] noCh
theorem T0ok:TabOk Try.prog G T0:=tabL_ok noCh_ok trivial
/-- F.Of: what its first loop has found. -/
structure FS where (last first:Int)(a k:List Int)
structure L25 where (d last first:Int)(a k:List Int)
def blkI (a:List Int):Blk:=blkOf .i64 a
def blkK (a:List Int):Blk:=blkOf .u8 a
structure M25 where (i:Int)(a:List Int)
def okK (ks:List Int):Prop:=∀x∈ks,0≤x∧x≤255
/-- Where a number stands first. -/
def idxL (x:Int):List Int→Int→Int
 |[],_=> -1
 |y::r,i=>if x=y then i else idxL x r (i+1)
def memB (l:List Int)(x:Int):Bool:=leb 0 (idxL x l 0)
structure L83 where (i:Int)
def l83 (k:List Int)(x:Int):LpS L83 where
 ov b:=[(8,.int .i64 b.i)]
 bk b:=[]
 rd S:=match aget S.t 8 with
  |some (.int _ i)=>some ⟨i⟩
  |_=>none
 pre b:=∃n:Nat,b.i=n∧n≤k.length∧idxL x (k.drop n) n=idxL x k 0
 mu b:=k.length-b.i.toNat
def eIdx (k:IntKind):CtE
 |[.imm (.ints k1 a) n _,.int k2 x]=>cond (beqK k1 k&&beqK k2 k) (some ⟨.int .i64 (idxL x a 0),[],some (n=a.length∧a.length<1000000000000)⟩) none
 |_=>none
def eHas (k:IntKind):CtE
 |[.imm (.ints k1 a) n _,.int k2 x]=>cond (beqK k1 k&&beqK k2 k) (some ⟨.bool (memB a x),[],some (n=a.length∧a.length<1000000000000)⟩) none
 |_=>none
/-- Lists are equal. -/
def eqB (a b:List Int):Bool:=decide (a=b)
structure L55 where (i:Int)
/-- slices.Clip. -/
def eClip (k:IntKind):CtE
 |[.imm (.ints k1 a) n _]=>cond (beqK k1 k) (some ⟨.imm (.ints k a) n (some n),[],some (n=a.length)⟩) none
 |_=>none
def e32:CtE
 |[.agg [.imm (.ints .i64 a) n _,.imm (.ints .u8 k) m _],.agg [.imm (.ints .i64 b) n' _,.imm (.ints .u8 j) m' _]]=>some ⟨.bool (eqB a b&&eqB k j),[],some (n=a.length∧m=k.length∧n'=b.length∧m'=j.length∧a.length<1000000000000∧k.length<1000000000000)⟩
 |_=>none
def tlA:List (Nat×CtE):=[(87,eIdx .i64),(21,eClip .i64),(14,eClip .u8)]
def TA:Tab:=tabL tlA noCh
abbrev rd (K:IntKind)(L:List Int)(X:Int)(p:Prop):Prop:=leb 0 X=true∧ltb X (↑(List.length L):Int)=true∧ltn 0 (Cont.size (Cont.ints K L))=true∧ltn 0 (Cont.size (Cont.ints K (List.drop (Int.toNat X) L)))=true∧p
abbrev rdw (K:IntKind)(L:List Int)(X:Int)(p:Prop):Prop:=leb 0 X=true∧ltb X (↑(List.length L):Int)=true∧ltn (Int.toNat X) (Cont.size (Cont.ints K L))=true∧p
abbrev qs (K:IntKind)(L:List Int)(p:Prop):Prop:=Cont.ints K L=Cont.ints K L∧List.length L=List.length L∧p
abbrev ql (L:List Int)(p:Prop):Prop:=(↑(List.length L):Int)=(↑(List.length L):Int)∧p
abbrev qx {α:Type}(x:α)(p:Prop):Prop:=x=x∧p
end Go.Proofs.Ythiammkiobbclaa.X
