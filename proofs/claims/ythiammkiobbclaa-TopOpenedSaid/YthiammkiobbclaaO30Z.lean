/-
 What is to be shown of the functions (made by a program).
-/
import Derived.Test.YthiammkiobbclaaD36Z
import Derived.KernelRfl

set_option maxRecDepth 1000000
set_option linter.unusedVariables false
namespace Go.Proofs.Ythiammkiobbclaa.X
open Go Go.Ab
open List IntKind

theorem ob_s72 (a k:List Int):fnP (U72) G 10000 fe72 (.r [] 0 (.r [] 13 (.r [] 3 .nil))) ([.agg [.imm (.ints .i64 a) a.length none,.imm (.ints .u8 k) k.length none]]) ([folV a k,.int .i64 0]) ([])=(
 (length a=length a∧length k=length k∧okStrip a k)∧qs i64 a (qs u8 k (qs i64 (raysL a) (qx (length a+1) (iI 0=0∧True))))):=by kernel_rfl

end Go.Proofs.Ythiammkiobbclaa.X

/-
 What is to be shown of the functions (made by a program).
-/
set_option maxRecDepth 1000000
set_option linter.unusedVariables false
namespace Go.Proofs.Ythiammkiobbclaa.X
open Go Go.Ab
open List IntKind

theorem ob_s90 (a k:List Int):fnP (T0) G 10000 fe90 (.r [] 0 (.frz 1 0 (.r [] 0 .nil))) ([.agg [.imm (.ints .i64 a) a.length none,.imm (.ints .u8 k) k.length none]]) ([endV a k]) ([])=(
 Cont.vals [AV.imm (Cont.ints i64 a) (length a) none,AV.imm (Cont.ints u8 k) (length k) none]=Cont.vals [AV.imm (Cont.ints i64 a) (length a) none,AV.imm (Cont.ints u8 k) (length k) none]∧True):=by kernel_rfl

theorem ob_y_86 (a k L:List Int)(x:Int):fnY (T0) G 10000 (9004) (.r [] 0 (.r [(515,.auto,Dr.pk true)] 49 .nil)) ([.int .i64 x]) (hE a k L) (true) (wsE (a.length+1) (L++[x]))=(
 length L=length L∧len' ((length L+1)*8) 140737488355328=true∧len' (length L+1) (length a+1)=true∧length L+1=length (L++[x])∧qx (length a+1) (L++[x]=L++[x]
 ∧1=1∧length L+1=length (L++[x])∧0=0∧(none:Option Ex)=none∧25=25∧[19]=[19]∧XC.reg 448 [XO.mk (some 6) (XOp.mv (Opd.t 19)) none] [18,19]=XC.reg 448 [XO.mk
 (some 6) (XOp.mv (Opd.t 19)) none] [18,19]∧qx (XC.block 1 (XC.reg 512 [XO.mk (some 20) (XOp.load none (Opd.t 5)) none,XO.mk (some 21) (XOp.mv (Opd.t 6)) none,XO.mk (some 22) (XOp.buildS
 1 1 4 [AV.int i64 0] [(0,1,Opd.t 21)]) none,XO.mk (some 23) (XOp.append 1 8 4 (Opd.t 20) (Opd.t 22)) none,XO.mk none (XOp.store 1 (Opd.t 5) (Opd.t 23)) none] [6,20,21,22,23])) (0=0
 ∧Cont.vals [AV.imm (Cont.ints i64 a) (length a) none,AV.imm (Cont.ints u8 k) (length k) none]=Cont.vals [AV.imm (Cont.ints i64 a) (length a) none,AV.imm (Cont.ints u8 k) (length k)
 none]∧true=true∧True))):=by kernel_rfl

theorem ob_d_91 (a k:List Int):fnD (TE91 a k) G 10000 (fe91) (.r [] 0 (.r [(130,.auto,Dr.heap)] 0 (.lit (.r [] 1 (.lp (l91 a) [] [] (fun b=>(.r [] 0 (.cnd (.r [] 0 (.r [] 1 (.r [(450,.auto,Dr.heap)] 0 (.lit (.r [] 0 .nil))))) .nil)))))))) ([.yld 9004,.iptr (stpF a k)]) (hE a k []) ([]) (wsE (a.length+1) (raysL a))=(
 ([(324,HO.blk (Blk.mk (Cont.ints i64 []) 1 0 (some (length a+1)) (some false) true false)),(325,HO.blk (Blk.mk (Cont.cells [AV.full 324 0]) 1 1 none (some false) true true)),(9004,
 HO.loop (LoopS.mk 0 none [(5,AV.ptr 325 0),(18,AV.fn 91 [] [AV.iptr (Cont.vals [AV.imm (Cont.ints i64 a) (length a) none,AV.imm (Cont.ints u8 k) (length k) none])])] 25 [19] (XC.reg 448
 [XO.mk (some 6) (XOp.mv (Opd.t 19)) none] [18,19]) (XC.block 1 (XC.reg 512 [XO.mk (some 20) (XOp.load none (Opd.t 5)) none,XO.mk (some 21) (XOp.mv (Opd.t 6)) none,XO.mk (some 22)
 (XOp.buildS 1 1 4 [AV.int i64 0] [(0,1,Opd.t 21)]) none,XO.mk (some 23) (XOp.append 1 8 4 (Opd.t 20) (Opd.t 22)) none,XO.mk none (XOp.store 1 (Opd.t 5) (Opd.t 23)) none] [6,20,21,22,
 23]))))]=[(324,HO.blk (Blk.mk (Cont.ints i64 []) 1 0 (some (length a+1)) (some false) true false)),(325,HO.blk (Blk.mk (Cont.cells [AV.full 324 0]) 1 1 none (some false) true true)),
 (9004,HO.loop (LoopS.mk 0 none [(5,AV.ptr 325 0),(18,AV.fn 91 [] [AV.iptr (Cont.vals [AV.imm (Cont.ints i64 a) (length a) none,AV.imm (Cont.ints u8 k) (length k) none])])] 25 [19]
 (XC.reg 448 [XO.mk (some 6) (XOp.mv (Opd.t 19)) none] [18,19]) (XC.block 1 (XC.reg 512 [XO.mk (some 20) (XOp.load none (Opd.t 5)) none,XO.mk (some 21) (XOp.mv (Opd.t 6)) none,XO.mk (some
 22) (XOp.buildS 1 1 4 [AV.int i64 0] [(0,1,Opd.t 21)]) none,XO.mk (some 23) (XOp.append 1 8 4 (Opd.t 20) (Opd.t 22)) none,XO.mk none (XOp.store 1 (Opd.t 5) (Opd.t 23)) none] [6,20,21,
 22,23]))))]∧0<length a+1∧length a≤8)∧1=1∧qx (length a+1) (iL [0]=[0]∧1=1∧1=1∧0=0∧(none:Option Ex)=none∧25=25∧[19]=[19]∧XC.reg 448 [XO.mk
 (some 6) (XOp.mv (Opd.t 19)) none] [18,19]=XC.reg 448 [XO.mk (some 6) (XOp.mv (Opd.t 19)) none] [18,19]∧qx (XC.block 1 (XC.reg 512 [XO.mk (some 20) (XOp.load none (Opd.t 5)) none,
 XO.mk (some 21) (XOp.mv (Opd.t 6)) none,XO.mk (some 22) (XOp.buildS 1 1 4 [AV.int i64 0] [(0,1,Opd.t 21)]) none,XO.mk (some 23) (XOp.append 1 8 4 (Opd.t 20) (Opd.t 22)) none,XO.mk none
 (XOp.store 1 (Opd.t 5) (Opd.t 23)) none] [6,20,21,22,23])) (0=0∧Cont.vals [AV.imm (Cont.ints i64 a) (length a) none,AV.imm (Cont.ints u8 k) (length k) none]=Cont.vals [AV.imm
 (Cont.ints i64 a) (length a) none,AV.imm (Cont.ints u8 k) (length k) none]∧iI 0=0∧qs i64 a (ql a (iI 0=0∧(∃(m:Nat),0=(↑m:Int)∧m≤length a∧[0]=take (m+1) (raysL a)
 ∧0=gR (raysL a) (↑m:Int))∧∀(b:L91),(fun(zz0:List Int)=>(fun(zz1:Nat)=>(∃(m:Nat),b.i=(↑m:Int)∧m≤length a∧b.L=take (m+1) (raysL a)∧b.x=gR (raysL a)
 (↑m:Int))→(ltb b.i (↑(length a):Int)=true→rd i64 a b.i (inR i64 (2*Int.tmod b.i 2)=true∧inR i64 (1-2*Int.tmod b.i 2)=true∧inR i64 (getD zz0 0 0*(1-2*Int.tmod
 b.i 2))=true∧inR i64 (b.x+getD zz0 0 0*(1-2*Int.tmod b.i 2))=true∧([(324,HO.blk (Blk.mk (Cont.ints i64 b.L) 1 (length b.L) (some (length a+1)) (some false) true false)),
 (325,HO.blk (Blk.mk (Cont.cells [AV.full 324 (length b.L)]) 1 1 none (some false) true true)),(9004,HO.loop (LoopS.mk 0 none [(5,AV.ptr 325 0),(18,AV.fn 91 [] [AV.iptr (Cont.vals
 [AV.imm (Cont.ints i64 a) (length a) none,AV.imm (Cont.ints u8 k) (length k) none])])] 25 [19] (XC.reg 448 [XO.mk (some 6) (XOp.mv (Opd.t 19)) none] [18,19]) (XC.block 1 (XC.reg 512 [XO.mk
 (some 20) (XOp.load none (Opd.t 5)) none,XO.mk (some 21) (XOp.mv (Opd.t 6)) none,XO.mk (some 22) (XOp.buildS 1 1 4 [AV.int i64 0] [(0,1,Opd.t 21)]) none,XO.mk (some 23) (XOp.append 1 8
 4 (Opd.t 20) (Opd.t 22)) none,XO.mk none (XOp.store 1 (Opd.t 5) (Opd.t 23)) none] [6,20,21,22,23]))))]=[(324,HO.blk (Blk.mk (Cont.ints i64 b.L) 1 (length b.L) (some (length a+1))
 (some false) true false)),(325,HO.blk (Blk.mk (Cont.cells [AV.full 324 (length b.L)]) 1 1 none (some false) true true)),(9004,HO.loop (LoopS.mk 0 none [(5,AV.ptr 325 0),(18,AV.fn 91
 [] [AV.iptr (Cont.vals [AV.imm (Cont.ints i64 a) (length a) none,AV.imm (Cont.ints u8 k) (length k) none])])] 25 [19] (XC.reg 448 [XO.mk (some 6) (XOp.mv (Opd.t 19)) none] [18,19])
 (XC.block 1 (XC.reg 512 [XO.mk (some 20) (XOp.load none (Opd.t 5)) none,XO.mk (some 21) (XOp.mv (Opd.t 6)) none,XO.mk (some 22) (XOp.buildS 1 1 4 [AV.int i64 0] [(0,1,Opd.t 21)]) none,
 XO.mk (some 23) (XOp.append 1 8 4 (Opd.t 20) (Opd.t 22)) none,XO.mk none (XOp.store 1 (Opd.t 5) (Opd.t 23)) none] [6,20,21,22,23]))))]∧length b.L<length a+1∧length a≤8)∧inR
 i64 (b.i+1)=true∧qx zz1 (qx (length a+1) (b.L++[b.x+getD zz0 0 0*(1-2*Int.tmod b.i 2)]=b.L++[b.x+getD zz0 0 0*(1-2*Int.tmod b.i 2)]∧1=1∧qx zz1 (0=0∧
 (none:Option Ex)=none∧25=25∧[19]=[19]∧XC.reg 448 [XO.mk (some 6) (XOp.mv (Opd.t 19)) none] [18,19]=XC.reg 448 [XO.mk (some 6) (XOp.mv (Opd.t 19)) none] [18,19]∧qx
 (XC.block 1 (XC.reg 512 [XO.mk (some 20) (XOp.load none (Opd.t 5)) none,XO.mk (some 21) (XOp.mv (Opd.t 6)) none,XO.mk (some 22) (XOp.buildS 1 1 4 [AV.int i64 0] [(0,1,Opd.t 21)]) none,
 XO.mk (some 23) (XOp.append 1 8 4 (Opd.t 20) (Opd.t 22)) none,XO.mk none (XOp.store 1 (Opd.t 5) (Opd.t 23)) none] [6,20,21,22,23])) (0=0∧Cont.vals [AV.imm (Cont.ints i64 a) (length
 a) none,AV.imm (Cont.ints u8 k) (length k) none]=Cont.vals [AV.imm (Cont.ints i64 a) (length a) none,AV.imm (Cont.ints u8 k) (length k) none]∧qx (b.x+getD zz0 0 0*(1-2*Int.tmod
 b.i 2)) (qs i64 a (ql a (b.i+1=b.i+1∧(∃(m:Nat),b.i+1=(↑m:Int)∧m≤length a∧b.L++[b.x+getD zz0 0 0*(1-2*Int.tmod b.i 2)]=take (m+1) (raysL a)∧b.x+getD
 zz0 0 0*(1-2*Int.tmod b.i 2)=gR (raysL a) (↑m:Int))∧length a-Int.toNat (b.i+1)<length a-Int.toNat b.i∧True)))))))))∧(ltb b.i (↑(length a):Int)=false→length b.L
 =length (raysL a)∧qx (length a+1) (b.L=raysL a∧1=1∧length b.L=length (raysL a)∧0=0∧(none:Option Ex)=none∧25=25∧[19]=[19]∧XC.reg 448 [XO.mk (some 6) (XOp.mv
 (Opd.t 19)) none] [18,19]=XC.reg 448 [XO.mk (some 6) (XOp.mv (Opd.t 19)) none] [18,19]∧qx (XC.block 1 (XC.reg 512 [XO.mk (some 20) (XOp.load none (Opd.t 5)) none,XO.mk (some 21)
 (XOp.mv (Opd.t 6)) none,XO.mk (some 22) (XOp.buildS 1 1 4 [AV.int i64 0] [(0,1,Opd.t 21)]) none,XO.mk (some 23) (XOp.append 1 8 4 (Opd.t 20) (Opd.t 22)) none,XO.mk none (XOp.store 1
 (Opd.t 5) (Opd.t 23)) none] [6,20,21,22,23])) (0=0∧Cont.vals [AV.imm (Cont.ints i64 a) (length a) none,AV.imm (Cont.ints u8 k) (length k) none]=Cont.vals [AV.imm (Cont.ints i64 a)
 (length a) none,AV.imm (Cont.ints u8 k) (length k) none]∧True)))) (length (b.L++[b.x+getD zz0 0 0*(1-2*Int.tmod b.i 2)]))) (drop (Int.toNat b.i) a)))))):=by kernel_rfl

theorem ob_s86 (a k:List Int):fnP (TE86 a k) G 10000 fe86 (.r [] 0 (.r [] 1 (.r [] 0 (.lit (.r [] 45 (.r [] 1 (.rf 9004 0 (.r [] 1 (.frz 2 0 .nil))))))))) ([.agg [.imm (.ints .i64 a) a.length none,.imm (.ints .u8 k) k.length none]]) ([.imm (.ints .i64 (raysL a)) (raysL a).length (some (a.length+1)),.int .i64 0]) ([])=(
 (length a=length a∧length k=length k∧okStrip a k)∧inR i64 ((↑(length a):Int)+1)=true∧leb (((↑(length a):Int)+1)*8) 140737488355328=true∧(length a=length a∧
 length k=length k)∧([(324,HO.blk (Blk.mk (Cont.ints i64 []) 1 0 (some (Int.toNat ((↑(length a):Int)+1))) (some false) true false)),(325,HO.blk (Blk.mk (Cont.cells [AV.full 324 0])
 1 1 none (some false) true true)),(9004,HO.loop (LoopS.mk 0 none [(5,AV.ptr 325 0),(18,AV.fn 91 [] [AV.iptr (Cont.vals [AV.imm (Cont.ints i64 a) (length a) none,AV.imm (Cont.ints u8 k)
 (length k) none])])] 25 [19] (XC.reg 448 [XO.mk (some 6) (XOp.mv (Opd.t 19)) none] [18,19]) (XC.block 1 (XC.reg 512 [XO.mk (some 20) (XOp.load none (Opd.t 5)) none,XO.mk (some 21) (XOp.mv
 (Opd.t 6)) none,XO.mk (some 22) (XOp.buildS 1 1 4 [AV.int i64 0] [(0,1,Opd.t 21)]) none,XO.mk (some 23) (XOp.append 1 8 4 (Opd.t 20) (Opd.t 22)) none,XO.mk none (XOp.store 1 (Opd.t 5)
 (Opd.t 23)) none] [6,20,21,22,23]))))]=[(324,HO.blk (Blk.mk (Cont.ints i64 []) 1 0 (some (length a+1)) (some false) true false)),(325,HO.blk (Blk.mk (Cont.cells [AV.full 324 0]) 1
 1 none (some false) true true)),(9004,HO.loop (LoopS.mk 0 none [(5,AV.ptr 325 0),(18,AV.fn 91 [] [AV.iptr (Cont.vals [AV.imm (Cont.ints i64 a) (length a) none,AV.imm (Cont.ints u8 k)
 (length k) none])])] 25 [19] (XC.reg 448 [XO.mk (some 6) (XOp.mv (Opd.t 19)) none] [18,19]) (XC.block 1 (XC.reg 512 [XO.mk (some 20) (XOp.load none (Opd.t 5)) none,XO.mk (some 21) (XOp.mv
 (Opd.t 6)) none,XO.mk (some 22) (XOp.buildS 1 1 4 [AV.int i64 0] [(0,1,Opd.t 21)]) none,XO.mk (some 23) (XOp.append 1 8 4 (Opd.t 20) (Opd.t 22)) none,XO.mk none (XOp.store 1 (Opd.t 5)
 (Opd.t 23)) none] [6,20,21,22,23]))))]∧a=a∧k=k∧length a=length a∧length k=length k∧okStrip a k)∧qx (length (raysL a)) (qs i64 (raysL a) (qx (length a+1) (iI 0=0∧
 True)))):=by kernel_rfl

end Go.Proofs.Ythiammkiobbclaa.X
/-
 What is to be shown of the functions (made by a program).
-/
set_option maxRecDepth 1000000
set_option linter.unusedVariables false
namespace Go.Proofs.Ythiammkiobbclaa.X
open Go Go.Ab
open List IntKind

theorem ob_s84 (x0 x1 x2 x3 x4 x5 x6 x7 c x:Int):fnP (T0) G 10000 fe84 (.r [] 0 (.r [(130,.auto,Dr.val [AV.int i64 (gR [x0,x1,x2,x3,x4,x5,x6,x7] c)]),(134,.auto,Dr.val [AV.int i64 (gR [x0,x1,x2,x3,x4,x5,x6,x7] (c+1))]),yM 139,yM 140,yM 141,(142,.may,Dr.val [AV.int i64 (gR [x0,x1,x2,x3,x4,x5,x6,x7] c)]),yM 143,yM 144,yM 145,(146,.may,Dr.val [AV.int i64 (gR [x0,x1,x2,x3,x4,x5,x6,x7] (c+1))]),yM 147,yM 148] 8388608 .nil)) ([z32V x0 x1 x2 x3 x4 x5 x6 x7,.int .i64 c,.int .i64 x]) ([.bool (btS [x0,x1,x2,x3,x4,x5,x6,x7] c x)]) ([])=(
 (fun(zz0:Int)=>leb 0 c=true∧ltb c 32=true∧[AV.int i64 x0,AV.int i64 x1,AV.int i64 x2,AV.int i64 x3,AV.int i64 x4,AV.int i64 x5,AV.int i64 x6,AV.int i64 x7,AV.int i64 0,
 AV.int i64 0,AV.int i64 0,AV.int i64 0,AV.int i64 0,AV.int i64 0,AV.int i64 0,AV.int i64 0,AV.int i64 0,AV.int i64 0,AV.int i64 0,AV.int i64 0,AV.int i64 0,AV.int i64 0,AV.int
 i64 0,AV.int i64 0,AV.int i64 0,AV.int i64 0,AV.int i64 0,AV.int i64 0,AV.int i64 0,AV.int i64 0,AV.int i64 0,AV.int i64 0][Int.toNat c]? =some (AV.int i64 (gR [x0,x1,x2,x3,x4,
 x5,x6,x7] c))∧inR i64 (c+1)=true∧leb 0 (c+1)=true∧ltb (c+1) 32=true∧[AV.int i64 x0,AV.int i64 x1,AV.int i64 x2,AV.int i64 x3,AV.int i64 x4,AV.int i64 x5,AV.int
 i64 x6,AV.int i64 x7,AV.int i64 0,AV.int i64 0,AV.int i64 0,AV.int i64 0,AV.int i64 0,AV.int i64 0,AV.int i64 0,AV.int i64 0,AV.int i64 0,AV.int i64 0,AV.int i64 0,AV.int i64 0,
 AV.int i64 0,AV.int i64 0,AV.int i64 0,AV.int i64 0,AV.int i64 0,AV.int i64 0,AV.int i64 0,AV.int i64 0,AV.int i64 0,AV.int i64 0,AV.int i64 0,AV.int i64 0][Int.toNat (c+1)]? =
 some (AV.int i64 (gR [x0,x1,x2,x3,x4,x5,x6,x7] (c+1)))∧(ltb zz0 x=true→ltb zz0 x=true)∧(ltb zz0 x=true→leb 0 c=true)∧(ltb zz0 x=true→ltb c 32=true)∧(ltb
 zz0 x=true→ltb zz0 x=true)∧(ltb zz0 x=true→[AV.int i64 x0,AV.int i64 x1,AV.int i64 x2,AV.int i64 x3,AV.int i64 x4,AV.int i64 x5,AV.int i64 x6,AV.int i64 x7,AV.int i64 0,
 AV.int i64 0,AV.int i64 0,AV.int i64 0,AV.int i64 0,AV.int i64 0,AV.int i64 0,AV.int i64 0,AV.int i64 0,AV.int i64 0,AV.int i64 0,AV.int i64 0,AV.int i64 0,AV.int i64 0,AV.int
 i64 0,AV.int i64 0,AV.int i64 0,AV.int i64 0,AV.int i64 0,AV.int i64 0,AV.int i64 0,AV.int i64 0,AV.int i64 0,AV.int i64 0][Int.toNat c]? =some (AV.int i64 (gR [x0,x1,x2,x3,x4,
 x5,x6,x7] c)))∧(ltb zz0 x=true→ltb zz0 x=true)∧(ltb zz0 x=true→inR i64 (c+1)=true)∧(ltb zz0 x=true→ltb zz0 x=true)∧(ltb zz0 x=true→leb 0 (c+1)=true)∧
 (ltb zz0 x=true→ltb (c+1) 32=true)∧(ltb zz0 x=true→ltb zz0 x=true)∧(ltb zz0 x=true→[AV.int i64 x0,AV.int i64 x1,AV.int i64 x2,AV.int i64 x3,AV.int i64 x4,AV.int
 i64 x5,AV.int i64 x6,AV.int i64 x7,AV.int i64 0,AV.int i64 0,AV.int i64 0,AV.int i64 0,AV.int i64 0,AV.int i64 0,AV.int i64 0,AV.int i64 0,AV.int i64 0,AV.int i64 0,AV.int i64
 0,AV.int i64 0,AV.int i64 0,AV.int i64 0,AV.int i64 0,AV.int i64 0,AV.int i64 0,AV.int i64 0,AV.int i64 0,AV.int i64 0,AV.int i64 0,AV.int i64 0,AV.int i64 0,AV.int i64
 0][Int.toNat (c+1)]? =some (AV.int i64 (gR [x0,x1,x2,x3,x4,x5,x6,x7] (c+1))))∧(ltb zz0 x=true→ltb zz0 x=true)∧(ltb zz0 x=true→ltb zz0 x=true)∧(ltb zz0 x=true
 →ltb zz0 x=true)∧(ltb zz0 x=true→ltb zz0 x=true)∧(bif ltb zz0 x then ltb zz0 x&&true else true)=true∧(bif ltb zz0 x then ltb x (if gR [x0,x1,x2,x3,x4,x5,x6,x7] (c+
 1)>gR [x0,x1,x2,x3,x4,x5,x6,x7] c then gR [x0,x1,x2,x3,x4,x5,x6,x7] (c+1)else gR [x0,x1,x2,x3,x4,x5,x6,x7] c)else false)=btS [x0,x1,x2,x3,x4,x5,x6,x7] c x
 ∧True) (if gR [x0,x1,x2,x3,x4,x5,x6,x7] (c+1)<gR [x0,x1,x2,x3,x4,x5,x6,x7] c then gR [x0,x1,x2,x3,x4,x5,x6,x7] (c+1)else gR [x0,x1,x2,x3,x4,x5,x6,x7] c)):=by kernel_rfl

theorem ob_s85 (a k r:List Int)(t:Int)(b:Bool):fnP (T0) G 10000 fe85 (.r [] 0 (.frz 3 0 (.frz 4 0 (.frz 5 0 (.r [] 0 .nil))))) ([conV a k r,.int .i64 t,.bool b]) ([lopV a k r t b]) ([])=(
 Cont.vals [AV.imm (Cont.ints i64 a) (length a) none,AV.imm (Cont.ints u8 k) (length k) none,AV.imm (Cont.ints i64 r) (length r) none]=Cont.vals [AV.imm (Cont.ints i64 a) (length a) none,AV.imm
 (Cont.ints u8 k) (length k) none,AV.imm (Cont.ints i64 r) (length r) none]∧Cont.vals [AV.int i64 t]=Cont.vals [AV.int i64 t]∧Cont.vals [AV.bool b]=Cont.vals [AV.bool b]∧True):=by kernel_rfl

end Go.Proofs.Ythiammkiobbclaa.X
/-
 What is to be shown of the functions (made by a program).
-/
set_option maxRecDepth 1000000
set_option linter.unusedVariables false
namespace Go.Proofs.Ythiammkiobbclaa.X
open Go Go.Ab
open List IntKind

theorem ob_s74 (a k r:List Int)(i:Int):fnP (T0) G 10000 fe74 (.r [] 0 (.r [] 33 .nil)) ([conV a k r,.int .i64 i]) ([.int .i64 (mnI (gR r i) (gR r (i+1)))]) ([])=(
 rd i64 r i (inR i64 (i+1)=true∧rd i64 r (i+1) ((if getD (drop (Int.toNat (i+1)) r) 0 0<getD (drop (Int.toNat i) r) 0 0 then getD (drop (Int.toNat (i+1)) r) 0 0 else getD (drop
 (Int.toNat i) r) 0 0)=mnI (gR r i) (gR r (i+1))∧True))):=by kernel_rfl

theorem ob_s75 (a k r:List Int)(i:Int):fnP (T0) G 10000 fe75 (.r [] 0 (.r [] 33 .nil)) ([conV a k r,.int .i64 i]) ([.int .i64 (mxI (gR r i) (gR r (i+1)))]) ([])=(
 rd i64 r i (inR i64 (i+1)=true∧rd i64 r (i+1) ((if getD (drop (Int.toNat (i+1)) r) 0 0>getD (drop (Int.toNat i) r) 0 0 then getD (drop (Int.toNat (i+1)) r) 0 0 else getD (drop
 (Int.toNat i) r) 0 0)=mxI (gR r i) (gR r (i+1))∧True))):=by kernel_rfl

theorem ob_s55 (a k r:List Int)(i j:Int):fnP (U74) G 10000 fe55 (.r [] 0 (.r [yM 136,yM 137,yM 138,yM 139,yM 140,yM 141,yM 142] 16661 .nil)) ([conV a k r,.int .i64 i,.int .i64 j]) ([.bool (ovS r i j)]) ([])=(
 (fun(zz1:Int)=>(fun(zz0:Int)=>(cok a k r (length a) (length k) (length r)∧0≤i∧i+1<(↑(length r):Int)∧length r≤9)∧(cok a k r (length a) (length k) (length r)∧0≤
 j∧j+1<(↑(length r):Int)∧length r≤9)∧(ltb zz0 zz1=true→ltb zz0 zz1=true)∧(ltb zz0 zz1=true→ltb zz0 zz1=true)∧(ltb zz0 zz1=true→cok a k r (length a) (length
 k) (length r)∧0≤j∧j+1<(↑(length r):Int)∧length r≤9)∧(ltb zz0 zz1=true→ltb zz0 zz1=true)∧(ltb zz0 zz1=true→ltb zz0 zz1=true)∧(ltb zz0 zz1=true→cok a k r
 (length a) (length k) (length r)∧0≤i∧i+1<(↑(length r):Int)∧length r≤9)∧(ltb zz0 zz1=true→ltb zz0 zz1=true)∧(ltb zz0 zz1=true→ltb zz0 zz1=true)∧(bif ltb zz0
 zz1 then ltb zz0 zz1&&true else true)=true∧(bif ltb zz0 zz1 then ltb (mnI (gR r j) (gR r (j+1))) (mxI (gR r i) (gR r (i+1)))else false)=ovS r i j∧True) (mnI (gR r i) (gR r (i
 +1)))) (mxI (gR r j) (gR r (j+1)))):=by kernel_rfl

theorem ob_s71 (x0 x1 x2 x3 x4 x5 x6 x7 c:Int):fnP (T0) G 10000 fe71 (.r [] 0 (.r [] 2 (.r [(194,.auto,Dr.val [AV.int i64 (gR [x0,x1,x2,x3,x4,x5,x6,x7] (odI c))]),(201,.auto,Dr.val [AV.int i64 (gR [x0,x1,x2,x3,x4,x5,x6,x7] (evI c))])] 0 (.cnd (.r [] 0 .nil) (.r [] 0 .nil))))) ([z32V x0 x1 x2 x3 x4 x5 x6 x7,.int .i64 c]) ([.int .u8 (kdS [x0,x1,x2,x3,x4,x5,x6,x7] c)]) ([])=(
 (fun(zz1:Int)=>(fun(zz0:Int)=>inR i64 (c+1)=true∧inR i64 (c+1-Int.tmod c 2)=true∧leb 0 (c+1-Int.tmod c 2)=true∧ltb (c+1-Int.tmod c 2) 32=true∧[AV.int
 i64 x0,AV.int i64 x1,AV.int i64 x2,AV.int i64 x3,AV.int i64 x4,AV.int i64 x5,AV.int i64 x6,AV.int i64 x7,AV.int i64 0,AV.int i64 0,AV.int i64 0,AV.int i64 0,AV.int i64 0,AV.int
 i64 0,AV.int i64 0,AV.int i64 0,AV.int i64 0,AV.int i64 0,AV.int i64 0,AV.int i64 0,AV.int i64 0,AV.int i64 0,AV.int i64 0,AV.int i64 0,AV.int i64 0,AV.int i64 0,AV.int i64 0,
 AV.int i64 0,AV.int i64 0,AV.int i64 0,AV.int i64 0,AV.int i64 0][Int.toNat (c+1-Int.tmod c 2)]? =some (AV.int i64 zz0)∧inR i64 (2*c)=true∧inR i64 (2*c+1)=true∧inR
 i64 (2*c+1-(c+1-Int.tmod c 2))=true∧leb 0 (2*c+1-(c+1-Int.tmod c 2))=true∧ltb (2*c+1-(c+1-Int.tmod c 2)) 32=true∧[AV.int i64 x0,AV.int i64 x1,
 AV.int i64 x2,AV.int i64 x3,AV.int i64 x4,AV.int i64 x5,AV.int i64 x6,AV.int i64 x7,AV.int i64 0,AV.int i64 0,AV.int i64 0,AV.int i64 0,AV.int i64 0,AV.int i64 0,AV.int i64 0,
 AV.int i64 0,AV.int i64 0,AV.int i64 0,AV.int i64 0,AV.int i64 0,AV.int i64 0,AV.int i64 0,AV.int i64 0,AV.int i64 0,AV.int i64 0,AV.int i64 0,AV.int i64 0,AV.int i64 0,AV.int
 i64 0,AV.int i64 0,AV.int i64 0,AV.int i64 0][Int.toNat (2*c+1-(c+1-Int.tmod c 2))]? =some (AV.int i64 zz1)∧(ltb zz1 zz0=true→2=kdS [x0,x1,x2,x3,x4,x5,x6,x7] c∧
 True)∧(ltb zz1 zz0=false→1=kdS [x0,x1,x2,x3,x4,x5,x6,x7] c∧True)) (gR [x0,x1,x2,x3,x4,x5,x6,x7] (odI c))) (gR [x0,x1,x2,x3,x4,x5,x6,x7] (evI c))):=by kernel_rfl

theorem ob_s54 (o:List Int):fnP (T0) G 10000 fe54 (.r [] 0 (.r [] 0 (.r [] 0 (.lp (ls54 o) [] [] (fun b=>(.r [] 0 (.cnd (.r [] 0 (.r [] 0 (.r [] 0 .nil))) (.r [] 2 .nil)))))))) ([.imm (.ints .i64 o) o.length none]) ([rz32 o]) ([])=(
 32=32∧iL [0,0,0,0,0,0,0,0,0,0,0,0,0,0,0,0,0,0,0,0,0,0,0,0,0,0,0,0,0,0,0,0]=[0,0,0,0,0,0,0,0,0,0,0,0,0,0,0,0,0,0,0,0,0,0,0,0,0,0,
 0,0,0,0,0,0]∧32=32∧iL [0,0,0,0,0,0,0,0,0,0,0,0,0,0,0,0,0,0,0,0,0,0,0,0,0,0,0,0,0,0,0,0]=[0,0,0,0,0,0,0,0,0,0,0,0,0,0,0,0,0,0,0,
 0,0,0,0,0,0,0,0,0,0,0,0,0]∧0=0∧0=0∧qs i64 o (ql o (iI 0=0∧(∃(m:Nat),0=(↑m:Int)∧m≤length o∧32=32∧rkA [0,0,0,0,0,0,0,0,0,0,0,0,0,0,0,
 0,0,0,0,0,0,0,0,0,0,0,0,0,0,0,0,0] (↑m:Int) (drop m o)=rzG o)∧∀(b:L39),(fun(u0:Int)=>(∃(m:Nat),b.i=(↑m:Int)∧m≤length o∧length b.rk=32∧rkA
 b.rk (↑m:Int) (drop m o)=rzG o)→(ltb b.i (↑(length o):Int)=true→rd i64 o b.i (leb 0 u0=true∧ltb u0 32=true∧len' (Int.toNat u0+1) (Cont.size (Cont.ints i64 b.rk))=true
 ∧inR i64 (b.i+1)=true∧32=32∧iL [0,0,0,0,0,0,0,0,0,0,0,0,0,0,0,0,0,0,0,0,0,0,0,0,0,0,0,0,0,0,0,0]=[0,0,0,0,0,0,0,0,0,0,0,0,0,0,0,0,
 0,0,0,0,0,0,0,0,0,0,0,0,0,0,0,0]∧32=32∧qx (set b.rk (Int.toNat u0) b.i) (0=0∧0=0∧qs i64 o (ql o (b.i+1=b.i+1∧(∃(m:Nat),b.i+1=(↑m:Int)∧m≤
 length o∧length (set b.rk (Int.toNat u0) b.i)=32∧rkA (set b.rk (Int.toNat u0) b.i) (↑m:Int) (drop m o)=rzG o)∧length o-Int.toNat (b.i+1)<length o-Int.toNat b.i∧
 True)))))∧(ltb b.i (↑(length o):Int)=false→len' 32 (Cont.size (Cont.ints i64 b.rk))=true∧getD [getD b.rk 0 0,getD b.rk 1 0,getD b.rk 2 0,getD b.rk 3 0,getD b.rk 4 0,getD
 b.rk 5 0,getD b.rk 6 0,getD b.rk 7 0,getD b.rk 8 0,getD b.rk 9 0,getD b.rk 10 0,getD b.rk 11 0,getD b.rk 12 0,getD b.rk 13 0,getD b.rk 14 0,getD b.rk 15 0,getD b.rk 16 0,getD
 b.rk 17 0,getD b.rk 18 0,getD b.rk 19 0,getD b.rk 20 0,getD b.rk 21 0,getD b.rk 22 0,getD b.rk 23 0,getD b.rk 24 0,getD b.rk 25 0,getD b.rk 26 0,getD b.rk 27 0,getD b.rk 28 0,
 getD b.rk 29 0,getD b.rk 30 0,getD b.rk 31 0] 0 0=rzO o 0∧getD [getD b.rk 0 0,getD b.rk 1 0,getD b.rk 2 0,getD b.rk 3 0,getD b.rk 4 0,getD b.rk 5 0,getD b.rk 6 0,getD b.rk 7 0,
 getD b.rk 8 0,getD b.rk 9 0,getD b.rk 10 0,getD b.rk 11 0,getD b.rk 12 0,getD b.rk 13 0,getD b.rk 14 0,getD b.rk 15 0,getD b.rk 16 0,getD b.rk 17 0,getD b.rk 18 0,getD b.rk 19 0,
 getD b.rk 20 0,getD b.rk 21 0,getD b.rk 22 0,getD b.rk 23 0,getD b.rk 24 0,getD b.rk 25 0,getD b.rk 26 0,getD b.rk 27 0,getD b.rk 28 0,getD b.rk 29 0,getD b.rk 30 0,getD b.rk 31
 0] 1 0=rzO o 1∧getD [getD b.rk 0 0,getD b.rk 1 0,getD b.rk 2 0,getD b.rk 3 0,getD b.rk 4 0,getD b.rk 5 0,getD b.rk 6 0,getD b.rk 7 0,getD b.rk 8 0,getD b.rk 9 0,getD b.rk 10 0,
 getD b.rk 11 0,getD b.rk 12 0,getD b.rk 13 0,getD b.rk 14 0,getD b.rk 15 0,getD b.rk 16 0,getD b.rk 17 0,getD b.rk 18 0,getD b.rk 19 0,getD b.rk 20 0,getD b.rk 21 0,getD b.rk 22
 0,getD b.rk 23 0,getD b.rk 24 0,getD b.rk 25 0,getD b.rk 26 0,getD b.rk 27 0,getD b.rk 28 0,getD b.rk 29 0,getD b.rk 30 0,getD b.rk 31 0] 2 0=rzO o 2∧getD [getD b.rk 0 0,getD
 b.rk 1 0,getD b.rk 2 0,getD b.rk 3 0,getD b.rk 4 0,getD b.rk 5 0,getD b.rk 6 0,getD b.rk 7 0,getD b.rk 8 0,getD b.rk 9 0,getD b.rk 10 0,getD b.rk 11 0,getD b.rk 12 0,getD b.rk 13
 0,getD b.rk 14 0,getD b.rk 15 0,getD b.rk 16 0,getD b.rk 17 0,getD b.rk 18 0,getD b.rk 19 0,getD b.rk 20 0,getD b.rk 21 0,getD b.rk 22 0,getD b.rk 23 0,getD b.rk 24 0,getD b.rk
 25 0,getD b.rk 26 0,getD b.rk 27 0,getD b.rk 28 0,getD b.rk 29 0,getD b.rk 30 0,getD b.rk 31 0] 3 0=rzO o 3∧getD [getD b.rk 0 0,getD b.rk 1 0,getD b.rk 2 0,getD b.rk 3 0,getD
 b.rk 4 0,getD b.rk 5 0,getD b.rk 6 0,getD b.rk 7 0,getD b.rk 8 0,getD b.rk 9 0,getD b.rk 10 0,getD b.rk 11 0,getD b.rk 12 0,getD b.rk 13 0,getD b.rk 14 0,getD b.rk 15 0,getD b.rk
 16 0,getD b.rk 17 0,getD b.rk 18 0,getD b.rk 19 0,getD b.rk 20 0,getD b.rk 21 0,getD b.rk 22 0,getD b.rk 23 0,getD b.rk 24 0,getD b.rk 25 0,getD b.rk 26 0,getD b.rk 27 0,getD
 b.rk 28 0,getD b.rk 29 0,getD b.rk 30 0,getD b.rk 31 0] 4 0=rzO o 4∧getD [getD b.rk 0 0,getD b.rk 1 0,getD b.rk 2 0,getD b.rk 3 0,getD b.rk 4 0,getD b.rk 5 0,getD b.rk 6 0,getD
 b.rk 7 0,getD b.rk 8 0,getD b.rk 9 0,getD b.rk 10 0,getD b.rk 11 0,getD b.rk 12 0,getD b.rk 13 0,getD b.rk 14 0,getD b.rk 15 0,getD b.rk 16 0,getD b.rk 17 0,getD b.rk 18 0,getD
 b.rk 19 0,getD b.rk 20 0,getD b.rk 21 0,getD b.rk 22 0,getD b.rk 23 0,getD b.rk 24 0,getD b.rk 25 0,getD b.rk 26 0,getD b.rk 27 0,getD b.rk 28 0,getD b.rk 29 0,getD b.rk 30 0,
 getD b.rk 31 0] 5 0=rzO o 5∧getD [getD b.rk 0 0,getD b.rk 1 0,getD b.rk 2 0,getD b.rk 3 0,getD b.rk 4 0,getD b.rk 5 0,getD b.rk 6 0,getD b.rk 7 0,getD b.rk 8 0,getD b.rk 9 0,
 getD b.rk 10 0,getD b.rk 11 0,getD b.rk 12 0,getD b.rk 13 0,getD b.rk 14 0,getD b.rk 15 0,getD b.rk 16 0,getD b.rk 17 0,getD b.rk 18 0,getD b.rk 19 0,getD b.rk 20 0,getD b.rk 21
 0,getD b.rk 22 0,getD b.rk 23 0,getD b.rk 24 0,getD b.rk 25 0,getD b.rk 26 0,getD b.rk 27 0,getD b.rk 28 0,getD b.rk 29 0,getD b.rk 30 0,getD b.rk 31 0] 6 0=rzO o 6∧getD [getD
 b.rk 0 0,getD b.rk 1 0,getD b.rk 2 0,getD b.rk 3 0,getD b.rk 4 0,getD b.rk 5 0,getD b.rk 6 0,getD b.rk 7 0,getD b.rk 8 0,getD b.rk 9 0,getD b.rk 10 0,getD b.rk 11 0,getD b.rk 12
 0,getD b.rk 13 0,getD b.rk 14 0,getD b.rk 15 0,getD b.rk 16 0,getD b.rk 17 0,getD b.rk 18 0,getD b.rk 19 0,getD b.rk 20 0,getD b.rk 21 0,getD b.rk 22 0,getD b.rk 23 0,getD b.rk
 24 0,getD b.rk 25 0,getD b.rk 26 0,getD b.rk 27 0,getD b.rk 28 0,getD b.rk 29 0,getD b.rk 30 0,getD b.rk 31 0] 7 0=rzO o 7∧getD [getD b.rk 0 0,getD b.rk 1 0,getD b.rk 2 0,getD
 b.rk 3 0,getD b.rk 4 0,getD b.rk 5 0,getD b.rk 6 0,getD b.rk 7 0,getD b.rk 8 0,getD b.rk 9 0,getD b.rk 10 0,getD b.rk 11 0,getD b.rk 12 0,getD b.rk 13 0,getD b.rk 14 0,getD b.rk
 15 0,getD b.rk 16 0,getD b.rk 17 0,getD b.rk 18 0,getD b.rk 19 0,getD b.rk 20 0,getD b.rk 21 0,getD b.rk 22 0,getD b.rk 23 0,getD b.rk 24 0,getD b.rk 25 0,getD b.rk 26 0,getD
 b.rk 27 0,getD b.rk 28 0,getD b.rk 29 0,getD b.rk 30 0,getD b.rk 31 0] 8 0=0∧getD [getD b.rk 0 0,getD b.rk 1 0,getD b.rk 2 0,getD b.rk 3 0,getD b.rk 4 0,getD b.rk 5 0,getD b.rk
 6 0,getD b.rk 7 0,getD b.rk 8 0,getD b.rk 9 0,getD b.rk 10 0,getD b.rk 11 0,getD b.rk 12 0,getD b.rk 13 0,getD b.rk 14 0,getD b.rk 15 0,getD b.rk 16 0,getD b.rk 17 0,getD b.rk 18
 0,getD b.rk 19 0,getD b.rk 20 0,getD b.rk 21 0,getD b.rk 22 0,getD b.rk 23 0,getD b.rk 24 0,getD b.rk 25 0,getD b.rk 26 0,getD b.rk 27 0,getD b.rk 28 0,getD b.rk 29 0,getD b.rk
 30 0,getD b.rk 31 0] 9 0=0∧getD [getD b.rk 0 0,getD b.rk 1 0,getD b.rk 2 0,getD b.rk 3 0,getD b.rk 4 0,getD b.rk 5 0,getD b.rk 6 0,getD b.rk 7 0,getD b.rk 8 0,getD b.rk 9 0,
 getD b.rk 10 0,getD b.rk 11 0,getD b.rk 12 0,getD b.rk 13 0,getD b.rk 14 0,getD b.rk 15 0,getD b.rk 16 0,getD b.rk 17 0,getD b.rk 18 0,getD b.rk 19 0,getD b.rk 20 0,getD b.rk 21
 0,getD b.rk 22 0,getD b.rk 23 0,getD b.rk 24 0,getD b.rk 25 0,getD b.rk 26 0,getD b.rk 27 0,getD b.rk 28 0,getD b.rk 29 0,getD b.rk 30 0,getD b.rk 31 0] 10 0=0∧getD [getD b.rk
 0 0,getD b.rk 1 0,getD b.rk 2 0,getD b.rk 3 0,getD b.rk 4 0,getD b.rk 5 0,getD b.rk 6 0,getD b.rk 7 0,getD b.rk 8 0,getD b.rk 9 0,getD b.rk 10 0,getD b.rk 11 0,getD b.rk 12 0,
 getD b.rk 13 0,getD b.rk 14 0,getD b.rk 15 0,getD b.rk 16 0,getD b.rk 17 0,getD b.rk 18 0,getD b.rk 19 0,getD b.rk 20 0,getD b.rk 21 0,getD b.rk 22 0,getD b.rk 23 0,getD b.rk 24
 0,getD b.rk 25 0,getD b.rk 26 0,getD b.rk 27 0,getD b.rk 28 0,getD b.rk 29 0,getD b.rk 30 0,getD b.rk 31 0] 11 0=0∧getD [getD b.rk 0 0,getD b.rk 1 0,getD b.rk 2 0,getD b.rk 3
 0,getD b.rk 4 0,getD b.rk 5 0,getD b.rk 6 0,getD b.rk 7 0,getD b.rk 8 0,getD b.rk 9 0,getD b.rk 10 0,getD b.rk 11 0,getD b.rk 12 0,getD b.rk 13 0,getD b.rk 14 0,getD b.rk 15 0,
 getD b.rk 16 0,getD b.rk 17 0,getD b.rk 18 0,getD b.rk 19 0,getD b.rk 20 0,getD b.rk 21 0,getD b.rk 22 0,getD b.rk 23 0,getD b.rk 24 0,getD b.rk 25 0,getD b.rk 26 0,getD b.rk 27
 0,getD b.rk 28 0,getD b.rk 29 0,getD b.rk 30 0,getD b.rk 31 0] 12 0=0∧getD [getD b.rk 0 0,getD b.rk 1 0,getD b.rk 2 0,getD b.rk 3 0,getD b.rk 4 0,getD b.rk 5 0,getD b.rk 6 0,
 getD b.rk 7 0,getD b.rk 8 0,getD b.rk 9 0,getD b.rk 10 0,getD b.rk 11 0,getD b.rk 12 0,getD b.rk 13 0,getD b.rk 14 0,getD b.rk 15 0,getD b.rk 16 0,getD b.rk 17 0,getD b.rk 18 0,
 getD b.rk 19 0,getD b.rk 20 0,getD b.rk 21 0,getD b.rk 22 0,getD b.rk 23 0,getD b.rk 24 0,getD b.rk 25 0,getD b.rk 26 0,getD b.rk 27 0,getD b.rk 28 0,getD b.rk 29 0,getD b.rk 30
 0,getD b.rk 31 0] 13 0=0∧getD [getD b.rk 0 0,getD b.rk 1 0,getD b.rk 2 0,getD b.rk 3 0,getD b.rk 4 0,getD b.rk 5 0,getD b.rk 6 0,getD b.rk 7 0,getD b.rk 8 0,getD b.rk 9 0,getD
 b.rk 10 0,getD b.rk 11 0,getD b.rk 12 0,getD b.rk 13 0,getD b.rk 14 0,getD b.rk 15 0,getD b.rk 16 0,getD b.rk 17 0,getD b.rk 18 0,getD b.rk 19 0,getD b.rk 20 0,getD b.rk 21 0,
 getD b.rk 22 0,getD b.rk 23 0,getD b.rk 24 0,getD b.rk 25 0,getD b.rk 26 0,getD b.rk 27 0,getD b.rk 28 0,getD b.rk 29 0,getD b.rk 30 0,getD b.rk 31 0] 14 0=0∧getD [getD b.rk 0
 0,getD b.rk 1 0,getD b.rk 2 0,getD b.rk 3 0,getD b.rk 4 0,getD b.rk 5 0,getD b.rk 6 0,getD b.rk 7 0,getD b.rk 8 0,getD b.rk 9 0,getD b.rk 10 0,getD b.rk 11 0,getD b.rk 12 0,getD
 b.rk 13 0,getD b.rk 14 0,getD b.rk 15 0,getD b.rk 16 0,getD b.rk 17 0,getD b.rk 18 0,getD b.rk 19 0,getD b.rk 20 0,getD b.rk 21 0,getD b.rk 22 0,getD b.rk 23 0,getD b.rk 24 0,
 getD b.rk 25 0,getD b.rk 26 0,getD b.rk 27 0,getD b.rk 28 0,getD b.rk 29 0,getD b.rk 30 0,getD b.rk 31 0] 15 0=0∧getD [getD b.rk 0 0,getD b.rk 1 0,getD b.rk 2 0,getD b.rk 3 0,
 getD b.rk 4 0,getD b.rk 5 0,getD b.rk 6 0,getD b.rk 7 0,getD b.rk 8 0,getD b.rk 9 0,getD b.rk 10 0,getD b.rk 11 0,getD b.rk 12 0,getD b.rk 13 0,getD b.rk 14 0,getD b.rk 15 0,getD
 b.rk 16 0,getD b.rk 17 0,getD b.rk 18 0,getD b.rk 19 0,getD b.rk 20 0,getD b.rk 21 0,getD b.rk 22 0,getD b.rk 23 0,getD b.rk 24 0,getD b.rk 25 0,getD b.rk 26 0,getD b.rk 27 0,
 getD b.rk 28 0,getD b.rk 29 0,getD b.rk 30 0,getD b.rk 31 0] 16 0=0∧getD [getD b.rk 0 0,getD b.rk 1 0,getD b.rk 2 0,getD b.rk 3 0,getD b.rk 4 0,getD b.rk 5 0,getD b.rk 6 0,getD
 b.rk 7 0,getD b.rk 8 0,getD b.rk 9 0,getD b.rk 10 0,getD b.rk 11 0,getD b.rk 12 0,getD b.rk 13 0,getD b.rk 14 0,getD b.rk 15 0,getD b.rk 16 0,getD b.rk 17 0,getD b.rk 18 0,getD
 b.rk 19 0,getD b.rk 20 0,getD b.rk 21 0,getD b.rk 22 0,getD b.rk 23 0,getD b.rk 24 0,getD b.rk 25 0,getD b.rk 26 0,getD b.rk 27 0,getD b.rk 28 0,getD b.rk 29 0,getD b.rk 30 0,
 getD b.rk 31 0] 17 0=0∧getD [getD b.rk 0 0,getD b.rk 1 0,getD b.rk 2 0,getD b.rk 3 0,getD b.rk 4 0,getD b.rk 5 0,getD b.rk 6 0,getD b.rk 7 0,getD b.rk 8 0,getD b.rk 9 0,getD
 b.rk 10 0,getD b.rk 11 0,getD b.rk 12 0,getD b.rk 13 0,getD b.rk 14 0,getD b.rk 15 0,getD b.rk 16 0,getD b.rk 17 0,getD b.rk 18 0,getD b.rk 19 0,getD b.rk 20 0,getD b.rk 21 0,
 getD b.rk 22 0,getD b.rk 23 0,getD b.rk 24 0,getD b.rk 25 0,getD b.rk 26 0,getD b.rk 27 0,getD b.rk 28 0,getD b.rk 29 0,getD b.rk 30 0,getD b.rk 31 0] 18 0=0∧getD [getD b.rk 0
 0,getD b.rk 1 0,getD b.rk 2 0,getD b.rk 3 0,getD b.rk 4 0,getD b.rk 5 0,getD b.rk 6 0,getD b.rk 7 0,getD b.rk 8 0,getD b.rk 9 0,getD b.rk 10 0,getD b.rk 11 0,getD b.rk 12 0,getD
 b.rk 13 0,getD b.rk 14 0,getD b.rk 15 0,getD b.rk 16 0,getD b.rk 17 0,getD b.rk 18 0,getD b.rk 19 0,getD b.rk 20 0,getD b.rk 21 0,getD b.rk 22 0,getD b.rk 23 0,getD b.rk 24 0,
 getD b.rk 25 0,getD b.rk 26 0,getD b.rk 27 0,getD b.rk 28 0,getD b.rk 29 0,getD b.rk 30 0,getD b.rk 31 0] 19 0=0∧getD [getD b.rk 0 0,getD b.rk 1 0,getD b.rk 2 0,getD b.rk 3 0,
 getD b.rk 4 0,getD b.rk 5 0,getD b.rk 6 0,getD b.rk 7 0,getD b.rk 8 0,getD b.rk 9 0,getD b.rk 10 0,getD b.rk 11 0,getD b.rk 12 0,getD b.rk 13 0,getD b.rk 14 0,getD b.rk 15 0,getD
 b.rk 16 0,getD b.rk 17 0,getD b.rk 18 0,getD b.rk 19 0,getD b.rk 20 0,getD b.rk 21 0,getD b.rk 22 0,getD b.rk 23 0,getD b.rk 24 0,getD b.rk 25 0,getD b.rk 26 0,getD b.rk 27 0,
 getD b.rk 28 0,getD b.rk 29 0,getD b.rk 30 0,getD b.rk 31 0] 20 0=0∧getD [getD b.rk 0 0,getD b.rk 1 0,getD b.rk 2 0,getD b.rk 3 0,getD b.rk 4 0,getD b.rk 5 0,getD b.rk 6 0,getD
 b.rk 7 0,getD b.rk 8 0,getD b.rk 9 0,getD b.rk 10 0,getD b.rk 11 0,getD b.rk 12 0,getD b.rk 13 0,getD b.rk 14 0,getD b.rk 15 0,getD b.rk 16 0,getD b.rk 17 0,getD b.rk 18 0,getD
 b.rk 19 0,getD b.rk 20 0,getD b.rk 21 0,getD b.rk 22 0,getD b.rk 23 0,getD b.rk 24 0,getD b.rk 25 0,getD b.rk 26 0,getD b.rk 27 0,getD b.rk 28 0,getD b.rk 29 0,getD b.rk 30 0,
 getD b.rk 31 0] 21 0=0∧getD [getD b.rk 0 0,getD b.rk 1 0,getD b.rk 2 0,getD b.rk 3 0,getD b.rk 4 0,getD b.rk 5 0,getD b.rk 6 0,getD b.rk 7 0,getD b.rk 8 0,getD b.rk 9 0,getD
 b.rk 10 0,getD b.rk 11 0,getD b.rk 12 0,getD b.rk 13 0,getD b.rk 14 0,getD b.rk 15 0,getD b.rk 16 0,getD b.rk 17 0,getD b.rk 18 0,getD b.rk 19 0,getD b.rk 20 0,getD b.rk 21 0,
 getD b.rk 22 0,getD b.rk 23 0,getD b.rk 24 0,getD b.rk 25 0,getD b.rk 26 0,getD b.rk 27 0,getD b.rk 28 0,getD b.rk 29 0,getD b.rk 30 0,getD b.rk 31 0] 22 0=0∧getD [getD b.rk 0
 0,getD b.rk 1 0,getD b.rk 2 0,getD b.rk 3 0,getD b.rk 4 0,getD b.rk 5 0,getD b.rk 6 0,getD b.rk 7 0,getD b.rk 8 0,getD b.rk 9 0,getD b.rk 10 0,getD b.rk 11 0,getD b.rk 12 0,getD
 b.rk 13 0,getD b.rk 14 0,getD b.rk 15 0,getD b.rk 16 0,getD b.rk 17 0,getD b.rk 18 0,getD b.rk 19 0,getD b.rk 20 0,getD b.rk 21 0,getD b.rk 22 0,getD b.rk 23 0,getD b.rk 24 0,
 getD b.rk 25 0,getD b.rk 26 0,getD b.rk 27 0,getD b.rk 28 0,getD b.rk 29 0,getD b.rk 30 0,getD b.rk 31 0] 23 0=0∧getD [getD b.rk 0 0,getD b.rk 1 0,getD b.rk 2 0,getD b.rk 3 0,
 getD b.rk 4 0,getD b.rk 5 0,getD b.rk 6 0,getD b.rk 7 0,getD b.rk 8 0,getD b.rk 9 0,getD b.rk 10 0,getD b.rk 11 0,getD b.rk 12 0,getD b.rk 13 0,getD b.rk 14 0,getD b.rk 15 0,getD
 b.rk 16 0,getD b.rk 17 0,getD b.rk 18 0,getD b.rk 19 0,getD b.rk 20 0,getD b.rk 21 0,getD b.rk 22 0,getD b.rk 23 0,getD b.rk 24 0,getD b.rk 25 0,getD b.rk 26 0,getD b.rk 27 0,
 getD b.rk 28 0,getD b.rk 29 0,getD b.rk 30 0,getD b.rk 31 0] 24 0=0∧getD [getD b.rk 0 0,getD b.rk 1 0,getD b.rk 2 0,getD b.rk 3 0,getD b.rk 4 0,getD b.rk 5 0,getD b.rk 6 0,getD
 b.rk 7 0,getD b.rk 8 0,getD b.rk 9 0,getD b.rk 10 0,getD b.rk 11 0,getD b.rk 12 0,getD b.rk 13 0,getD b.rk 14 0,getD b.rk 15 0,getD b.rk 16 0,getD b.rk 17 0,getD b.rk 18 0,getD
 b.rk 19 0,getD b.rk 20 0,getD b.rk 21 0,getD b.rk 22 0,getD b.rk 23 0,getD b.rk 24 0,getD b.rk 25 0,getD b.rk 26 0,getD b.rk 27 0,getD b.rk 28 0,getD b.rk 29 0,getD b.rk 30 0,
 getD b.rk 31 0] 25 0=0∧getD [getD b.rk 0 0,getD b.rk 1 0,getD b.rk 2 0,getD b.rk 3 0,getD b.rk 4 0,getD b.rk 5 0,getD b.rk 6 0,getD b.rk 7 0,getD b.rk 8 0,getD b.rk 9 0,getD
 b.rk 10 0,getD b.rk 11 0,getD b.rk 12 0,getD b.rk 13 0,getD b.rk 14 0,getD b.rk 15 0,getD b.rk 16 0,getD b.rk 17 0,getD b.rk 18 0,getD b.rk 19 0,getD b.rk 20 0,getD b.rk 21 0,
 getD b.rk 22 0,getD b.rk 23 0,getD b.rk 24 0,getD b.rk 25 0,getD b.rk 26 0,getD b.rk 27 0,getD b.rk 28 0,getD b.rk 29 0,getD b.rk 30 0,getD b.rk 31 0] 26 0=0∧getD [getD b.rk 0
 0,getD b.rk 1 0,getD b.rk 2 0,getD b.rk 3 0,getD b.rk 4 0,getD b.rk 5 0,getD b.rk 6 0,getD b.rk 7 0,getD b.rk 8 0,getD b.rk 9 0,getD b.rk 10 0,getD b.rk 11 0,getD b.rk 12 0,getD
 b.rk 13 0,getD b.rk 14 0,getD b.rk 15 0,getD b.rk 16 0,getD b.rk 17 0,getD b.rk 18 0,getD b.rk 19 0,getD b.rk 20 0,getD b.rk 21 0,getD b.rk 22 0,getD b.rk 23 0,getD b.rk 24 0,
 getD b.rk 25 0,getD b.rk 26 0,getD b.rk 27 0,getD b.rk 28 0,getD b.rk 29 0,getD b.rk 30 0,getD b.rk 31 0] 27 0=0∧getD [getD b.rk 0 0,getD b.rk 1 0,getD b.rk 2 0,getD b.rk 3 0,
 getD b.rk 4 0,getD b.rk 5 0,getD b.rk 6 0,getD b.rk 7 0,getD b.rk 8 0,getD b.rk 9 0,getD b.rk 10 0,getD b.rk 11 0,getD b.rk 12 0,getD b.rk 13 0,getD b.rk 14 0,getD b.rk 15 0,getD
 b.rk 16 0,getD b.rk 17 0,getD b.rk 18 0,getD b.rk 19 0,getD b.rk 20 0,getD b.rk 21 0,getD b.rk 22 0,getD b.rk 23 0,getD b.rk 24 0,getD b.rk 25 0,getD b.rk 26 0,getD b.rk 27 0,
 getD b.rk 28 0,getD b.rk 29 0,getD b.rk 30 0,getD b.rk 31 0] 28 0=0∧getD [getD b.rk 0 0,getD b.rk 1 0,getD b.rk 2 0,getD b.rk 3 0,getD b.rk 4 0,getD b.rk 5 0,getD b.rk 6 0,getD
 b.rk 7 0,getD b.rk 8 0,getD b.rk 9 0,getD b.rk 10 0,getD b.rk 11 0,getD b.rk 12 0,getD b.rk 13 0,getD b.rk 14 0,getD b.rk 15 0,getD b.rk 16 0,getD b.rk 17 0,getD b.rk 18 0,getD
 b.rk 19 0,getD b.rk 20 0,getD b.rk 21 0,getD b.rk 22 0,getD b.rk 23 0,getD b.rk 24 0,getD b.rk 25 0,getD b.rk 26 0,getD b.rk 27 0,getD b.rk 28 0,getD b.rk 29 0,getD b.rk 30 0,
 getD b.rk 31 0] 29 0=0∧getD [getD b.rk 0 0,getD b.rk 1 0,getD b.rk 2 0,getD b.rk 3 0,getD b.rk 4 0,getD b.rk 5 0,getD b.rk 6 0,getD b.rk 7 0,getD b.rk 8 0,getD b.rk 9 0,getD
 b.rk 10 0,getD b.rk 11 0,getD b.rk 12 0,getD b.rk 13 0,getD b.rk 14 0,getD b.rk 15 0,getD b.rk 16 0,getD b.rk 17 0,getD b.rk 18 0,getD b.rk 19 0,getD b.rk 20 0,getD b.rk 21 0,
 getD b.rk 22 0,getD b.rk 23 0,getD b.rk 24 0,getD b.rk 25 0,getD b.rk 26 0,getD b.rk 27 0,getD b.rk 28 0,getD b.rk 29 0,getD b.rk 30 0,getD b.rk 31 0] 30 0=0∧getD [getD b.rk 0
 0,getD b.rk 1 0,getD b.rk 2 0,getD b.rk 3 0,getD b.rk 4 0,getD b.rk 5 0,getD b.rk 6 0,getD b.rk 7 0,getD b.rk 8 0,getD b.rk 9 0,getD b.rk 10 0,getD b.rk 11 0,getD b.rk 12 0,getD
 b.rk 13 0,getD b.rk 14 0,getD b.rk 15 0,getD b.rk 16 0,getD b.rk 17 0,getD b.rk 18 0,getD b.rk 19 0,getD b.rk 20 0,getD b.rk 21 0,getD b.rk 22 0,getD b.rk 23 0,getD b.rk 24 0,
 getD b.rk 25 0,getD b.rk 26 0,getD b.rk 27 0,getD b.rk 28 0,getD b.rk 29 0,getD b.rk 30 0,getD b.rk 31 0] 31 0=0∧True)) (getD (drop (Int.toNat b.i) o) 0 0)))):=by kernel_rfl

theorem ob_s33 (a k:List Int):fnP (T0) G 10000 fe33 (.r [] 0 (.r [] 1 (.cnd (.r [] 0 .nil) (.r [] 3 (.cnd (.r [] 0 .nil) (.r [] 1 (.lp (lsA 24 a) [] [] (fun b=>(.r [] 0 (.cnd (.r [] 0 (.rs 3 [] 0 30 (.r [] 3 (.lit (.r [] 0 .nil))) (.r [] 3 (.ff (.r [] 0 .nil))))) (.r [] 1 (.lp (lsA 38 k) [] [] (fun b_1=>(.r [] 0 (.cnd (.r [] 0 (.rs 3 [] 0 44 (.r [] 3 (.lit (.r [] 0 .nil))) (.r [] 3 (.ff (.r [] 0 .nil))))) (.r [] 0 .nil)))))))))))))))) ([.agg [.imm (.ints .i64 a) a.length none,.imm (.ints .u8 k) k.length none]]) ([.int .i64 0]) ([])=(
 (ltb 32 (↑(length a):Int)=true→iI 3=0∧True)∧(ltb 32 (↑(length a):Int)=false→inR i64 ((↑(length k):Int)+1)=true∧(((↑(length a):Int) !=(↑(length k):Int)+1)=
 true→iI 5=0∧True)∧(((↑(length a):Int) !=(↑(length k):Int)+1)=false→1=1∧qs i64 a (qs u8 k (0=0∧qs i64 a (ql a (iI 0=0∧(∃(m:Nat),0=(↑m:Int)∧m≤length
 a)∧∀(b:L83),(fun(zz1:Int)=>(∃(m:Nat),b.i=(↑m:Int)∧m≤length a)→(ltb b.i (↑(length a):Int)=true→rd i64 a b.i ((ltb zz1 1=true→iI 1=0∧True)∧(ltb zz1 1=
 false→ltb 64 zz1=false∧inR i64 (b.i+1)=true∧1=1∧qs i64 a (qs u8 k (0=0∧qs i64 a (ql a (b.i+1=b.i+1∧(∃(m:Nat),b.i+1=(↑m:Int)∧m≤length a)∧length a-
 Int.toNat (b.i+1)<length a-Int.toNat b.i∧True)))))))∧(ltb b.i (↑(length a):Int)=false→1=1∧qs i64 a (qs u8 k (qx (ltb b.i (↑(length a):Int)) (qs u8 k (ql k (iI 0=0∧
 (∃(m:Nat),0=(↑m:Int)∧m≤length k)∧∀(b_1:L83),(fun(zz0:Int)=>(∃(m:Nat),b_1.i=(↑m:Int)∧m≤length k)→(ltb b_1.i (↑(length k):Int)=true→rd u8 k b_1.i
 ((ltb zz0 1=true→iI 1=0∧True)∧(ltb zz0 1=false→ltb 3 zz0=false∧inR i64 (b_1.i+1)=true∧1=1∧qs i64 a (qs u8 k (qx (ltb b.i (↑(length a):Int)) (qs u8 k (ql k (qx
 (b_1.i+1) ((∃(m:Nat),b_1.i+1=(↑m:Int)∧m≤length k)∧length k-Int.toNat (b_1.i+1)<length k-Int.toNat b_1.i∧True)))))))))∧(ltb b_1.i (↑(length k):Int)=false→
 iI 0=0∧True)) (getD (drop (Int.toNat b_1.i) k) 0 0)))))))) (getD (drop (Int.toNat b.i) a) 0 0)))))))):=by kernel_rfl

end Go.Proofs.Ythiammkiobbclaa.X
