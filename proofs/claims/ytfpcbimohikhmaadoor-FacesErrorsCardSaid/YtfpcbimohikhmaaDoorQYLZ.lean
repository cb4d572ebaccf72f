/-
 The chapter's examples: the patterns, what the functions on faces say of them.
-/
import Derived.Test.YtfpcbimohikhmaaDoorQYC9Z
import Derived.Test.YtfpcbimohikhmaaDoorAb5
import Derived.KernelRfl
import Derived.Test.YtfpcbimohikhmaaDoorQYO8Z
set_option maxRecDepth 1000000
set_option linter.unusedVariables false
namespace Go.Proofs.YtfpcbimohikhmaaDoor.X
open Go Go.Ab

/-- A pattern of the examples. -/
def yP0:AV:=.agg [.int .i64 2,.int .i64 1,.nils]
def yP (h:Int)(l:List Cr)(c:Option Nat):AV:=.agg [.int .i64 2,.int .i64 h,.imm (.vals (flatC l)) l.length c]
def yL1:List Cr:=[(1,0,3)]
def yL2:List Cr:=[(0,1,3)]
def yL3:List Cr:=[(0,1,3),(2,1,3)]
def yL4:List Cr:=[(0,1,3),(0,2,3)]
def yL5:List Cr:=[(8,1,3),(8,2,3),(12,1,3),(12,2,3)]
def mOf (p:AV)(F:List Int):Mem:=⟨49,[p],.tup [.imm (.ints .i64 F) F.length (some F.length),.int .i64 0],[]⟩
def mGr (p:AV)(L:List Jt):Mem:=⟨37,[p],.tup [.full 0 L.length,.int .i64 0],[blkJn L]⟩
def mLo (p:AV)(b:Bool):Mem:=⟨38,[p],.tup [.bool b,.int .i64 0],[]⟩
def mCv (p:AV)(f:Int)(b:Bool):Mem:=⟨44,[p,.int .i64 f],.tup [.bool b,.int .i64 0],[]⟩
def yMems:List Mem:=[
 mOf yP0 [0,0,0,0,0,0,0,0],mOf (yP 1 yL1 none) [0,0,0,0,1,1,1,1],mOf (yP 1 yL2 none) [0,0,0,0,0,0,0,0],mOf (yP 1 yL3 none) [0,1,1,0,1,1,1,1],
 mGr yP0 [],mGr (yP 1 yL1 none) [(0,1,1)],mGr (yP 1 yL2 none) [(0,0,1)],mGr (yP 1 yL3 none) [(0,1,2)],
 mLo yP0 false,mLo (yP 1 yL1 none) false,mLo (yP 1 yL2 none) true,mLo (yP 1 yL3 none) false,
 mCv (yP 1 yL3 none) 0 true,mCv (yP 1 yL3 none) 1 true,mCv (yP 1 yL4 none) 1 false,mCv (yP 1 yL4 none) 0 true,mCv (yP 2 yL5 none) 0 false]
end Go.Proofs.YtfpcbimohikhmaaDoor.X

/-
 The chapter's examples hold (the function is run by the kernel, what the functions on faces say of them by their contracts).
-/
set_option maxRecDepth 1000000
set_option linter.unusedVariables false
namespace Go.Proofs.YtfpcbimohikhmaaDoor.X
open Go Go.Ab

theorem yS1:s5 2 1:=by unfold s5;decide
theorem yS2:s5 2 2:=by unfold s5;decide
theorem yV {w h:Int}{l:List Cr}(ks:List Int)(h1:(decide (ks.length=(units w h).length)&&ks.all fun k=>decide (0≤k)&&decide (k≤3))=true)(h2:l=wthL (units w h) ks):vP w h l:=by
 rw[Bool.and_eq_true,decide_eq_true_eq,List.all_eq_true]at h1
 exact⟨ks,⟨h1.1,fun k hk=>by simpa using h1.2 k hk⟩,h2⟩
theorem yV0:vP 2 1 []:=yV (kindsL (units 2 1) []) (by kernel_rfl) (by kernel_rfl)
theorem yV1:vP 2 1 yL1:=yV (kindsL (units 2 1) yL1) (by kernel_rfl) (by kernel_rfl)
theorem yV2:vP 2 1 yL2:=yV (kindsL (units 2 1) yL2) (by kernel_rfl) (by kernel_rfl)
theorem yV3:vP 2 1 yL3:=yV (kindsL (units 2 1) yL3) (by kernel_rfl) (by kernel_rfl)
theorem yV4:vP 2 1 yL4:=yV (kindsL (units 2 1) yL4) (by kernel_rfl) (by kernel_rfl)
theorem yV5:vP 2 2 yL5:=yV (kindsL (units 2 2) yL5) (by kernel_rfl) (by kernel_rfl)
theorem y_nil {f:Nat}{v:AV}{bs:List Blk}(h:SpecP Tryd.prog G f [patV 2 1 []] v bs):SpecP Tryd.prog G f [yP0] v bs:=
 (h.caps (args:=[.agg [.int .i64 2,.int .i64 1,.imm (.vals []) 0 (some 0)]])).args fun w F xs hr=>nil_args hr
theorem yOf {h:Int}{l:List Cr}{F:List Int}(hs:s5 2 h)(hv:vP 2 h l)(e:(facL 2 h l,nC 2 h)=(F,F.length)):SpecP Tryd.prog G 49 [patV 2 h l] (mOf yP0 F).v []:=by
 have:=sp49 hs hv
 unfold facV at this
 rw[(Prod.mk.inj e).1,(Prod.mk.inj e).2]at this
 exact this
theorem yGr {h:Int}{l:List Cr}{L:List Jt}(hs:s5 2 h)(hv:vP 2 h l)(e:jnC 2 h l=L):SpecP Tryd.prog G 37 [patV 2 h l] (mGr yP0 L).v [blkJn L]:=by
 have:=sp37 hs hv
 rw[e]at this
 exact this
theorem yLo {h:Int}{l:List Cr}{b:Bool}(hs:s5 2 h)(hv:vP 2 h l)(e:lseJ (jnC 2 h l)=b):SpecP Tryd.prog G 38 [patV 2 h l] (mLo yP0 b).v []:=by
 have:=ct38v [patV 2 h l] _ rfl ⟨hs,okV_of hs hv⟩
 rw[unC_flat,e]at this
 exact this
theorem yCv {h f:Int}{l:List Cr}{b:Bool}(hs:s5 2 h)(hv:vP 2 h l)(e:((celL (facL 2 h l) f).isEmpty,cvB 2 (celL (facL 2 h l) f))=(false,b)):SpecP Tryd.prog G 44 [patV 2 h l,.int .i64 f] (mCv yP0 f b).v []:=by
 have e1:=(Prod.mk.inj e).1
 have:=sp44 hs hv (f:=f) (fun e=>by rw[e]at e1;cases e1)
 rw[(Prod.mk.inj e).2]at this
 exact this
theorem yOk:MemOk Tryd.prog G yMems:=
 ⟨y_nil (yOf yS1 yV0 (by kernel_rfl)),yOf yS1 yV1 (by kernel_rfl),yOf yS1 yV2 (by kernel_rfl),yOf yS1 yV3 (by kernel_rfl),
  y_nil (yGr yS1 yV0 (by kernel_rfl)),yGr yS1 yV1 (by kernel_rfl),yGr yS1 yV2 (by kernel_rfl),yGr yS1 yV3 (by kernel_rfl),
  y_nil (yLo yS1 yV0 (by kernel_rfl)),yLo yS1 yV1 (by kernel_rfl),yLo yS1 yV2 (by kernel_rfl),yLo yS1 yV3 (by kernel_rfl),
  yCv yS1 yV3 (by kernel_rfl),yCv yS1 yV3 (by kernel_rfl),yCv yS1 yV4 (by kernel_rfl),yCv yS1 yV4 (by kernel_rfl),yCv yS2 yV5 (by kernel_rfl),trivial⟩
theorem yMe:TBok Tryd.prog G (memoT (memF yMems)):=memoT_ok (memF_ok yOk)
theorem ev40:evM G (aget xpl) (fun _ _=>none) (memoT (memF yMems)) 100000 1000 1 [] (.fn 40 [] []) []=some ⟨.bool true,[],[],[]⟩:=by kernel_rfl
theorem ct40:CtOk Tryd.prog G 40 e40:=by
 intro args r h hp
 unfold e40 at h
 split at h<;>cases h
 exact specP_of_evM hcm hmx xpOk natNo yMe ev40 rfl
end Go.Proofs.YtfpcbimohikhmaaDoor.X
