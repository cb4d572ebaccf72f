/-
 The chapter's examples: the patterns, what the functions on faces say of them.
-/
import Derived.Test.YtfpcbimohikhmaaDoorQYC9Z
import Derived.Test.YtfpcbimohikhmaaDoorAb5
import Derived.KernelRfl
set_option maxRecDepth 1000000
set_option linter.unusedVariables false
namespace Go.Proofs.YtfpcbimohikhmaaDoor.X
open Go Go.Ab

/-- A pattern of the examples. -/
def yP0:AV:=.agg [.int .i64 2,.int .i64 1,.nils]
def yP (h:Int)(l:List Cr)(c:Option Nat):AV:=.agg [.int .i64 2,.int .i64 h,.imm (.vals (flatC l)) l.length c]
def yL1:List Cr:=[(1,0,3)]
def yL2:List Cr:=[(0,1,3)]
def yL3:List Cr:=[(0,1,3),(2,1,3)]
def yL4:List Cr:=[(0,1,3),(0,2,3)]
def yL5:List Cr:=[(8,1,3),(8,2,3),(12,1,3),(12,2,3)]
def mOf (p:AV)(F:List Int):Mem:=⟨49,[p],.tup [.imm (.ints .i64 F) F.length (some F.length),.int .i64 0],[]⟩
def mGr (p:AV)(L:List Jt):Mem:=⟨37,[p],.tup [.full 0 L.length,.int .i64 0],[blkJn L]⟩
def mLo (p:AV)(b:Bool):Mem:=⟨38,[p],.tup [.bool b,.int .i64 0],[]⟩
def mCv (p:AV)(f:Int)(b:Bool):Mem:=⟨44,[p,.int .i64 f],.tup [.bool b,.int .i64 0],[]⟩
def yMems:List Mem:=[
 mOf yP0 [0,0,0,0,0,0,0,0],mOf (yP 1 yL1 none) [0,0,0,0,1,1,1,1],mOf (yP 1 yL2 none) [0,0,0,0,0,0,0,0],mOf (yP 1 yL3 none) [0,1,1,0,1,1,1,1],
 mGr yP0 [],mGr (yP 1 yL1 none) [(0,1,1)],mGr (yP 1 yL2 none) [(0,0,1)],mGr (yP 1 yL3 none) [(0,1,2)],
 mLo yP0 false,mLo (yP 1 yL1 none) false,mLo (yP 1 yL2 none) true,mLo (yP 1 yL3 none) false,
 mCv (yP 1 yL3 none) 0 true,mCv (yP 1 yL3 none) 1 true,mCv (yP 1 yL4 none) 1 false,mCv (yP 1 yL4 none) 0 true,mCv (yP 2 yL5 none) 0 false]
end Go.Proofs.YtfpcbimohikhmaaDoor.X
