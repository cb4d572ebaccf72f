/-
 What is to be shown of the functions (made by a program).
-/
import Derived.Test.YtfafinkgmhkdmaaGreatDoorVC7Z
set_option maxRecDepth 1000000
set_option linter.unusedVariables false
namespace Go.Proofs.YtfafinkgmhkdmaaGreatDoor.X
open Go Go.Ab
open List IntKind
theorem C00 (d k d' k':Int):fnP (T0) Gs 10000 C53 (.r [] 0 (.r [] 3 .nil)) ([.agg [.int .i64 d,.int .u8 k],.agg [.int .i64 d',.int .u8 k']]) ([.int .i64 (d-d')]) ([])=(
 inR i64 (d-d')=true/\d-d'=d-d'/\True):=by kernel_rfl
open List IntKind
theorem C01 (x:Int):fnP (T0) Gs 10000 C2h (.r [] 0 (.r [] 0 .nil)) ([.int .i64 x]) ([.bool false]) ([])=(
 (x !=x)=false/\True):=by kernel_rfl
theorem C02 (x:Int):fnP (T0) Gs 10000 C59 (.r [] 0 (.r [] 0 .nil)) ([.int .u8 x]) ([.bool false]) ([])=(
 (x !=x)=false/\True):=by kernel_rfl
theorem C03 (x y:Int):fnP (SA') Gs 10000 C2a (.r [] 0 (.r [] 1 (.r [] 1 (.r [] 0 (.lit (.r [] 0 (.lit (.r [] 0 (.cnd (.r [] 0 .nil) (.r [] 0 (.cnd (.r [] 0 .nil) (.r [] 0 .nil)))))))))))) ([.int .i64 x,.int .i64 y]) ([.int .i64 (A28 x y)]) ([])=(
 (ltb x y=true-> -1=A28 x y/\True)/\(ltb x y=false->(ltb y x=true->1=A28 x y/\True)/\(ltb y x=false->0=A28 x y/\True))):=by kernel_rfl
theorem C04 (x y:Int):fnP (SA') Gs 10000 C5R (.r [] 0 (.r [] 1 (.r [] 1 (.r [] 0 (.lit (.r [] 0 (.lit (.r [] 0 (.cnd (.r [] 0 .nil) (.r [] 0 (.cnd (.r [] 0 .nil) (.r [] 0 .nil)))))))))))) ([.int .u8 x,.int .u8 y]) ([.int .i64 (A28 x y)]) ([])=(
 (ltb x y=true-> -1=A28 x y/\True)/\(ltb x y=false->(ltb y x=true->1=A28 x y/\True)/\(ltb y x=false->0=A28 x y/\True))):=by kernel_rfl
theorem C05 (x y:Int):fnP (T0) Gs 10000 C19 (.r [] 0 (.r [] 0 (.r [] 0 (.un (.r [] 0 (.lit (.r [] 15 (.r [] 0 (.cnd (.r [] 0 .nil) (.r [] 1 (.un (.r [] 0 (.lit (.r [] 15 (.r [] 0 (.cnd (.r [] 0 .nil) (.r [] 1 (.un (.r [] 0 (.lit (.r [] 0 .nil))))))))))))))))))))) ([.imm (.ints .i64 [x,y]) 2 none]) ([.int .i64 (orI x y)]) ([])=(
 ((getD [x,y] 0 0 !=0)=true->getD [x,y] 0 0=orI x y/\True)/\((getD [x,y] 0 0 !=0)=false->((getD [y] 0 0 !=0)=true->getD [y] 0 0=orI x y/\True)/\((getD [y] 0 0 !=0)=false->0=
 orI x y/\True))):=by kernel_rfl
theorem C06 (x y:Cr):fnP (SB') Gs 10000 C5Q (.r [] 0 (.r [] 255 .nil)) ([crV x,crV y]) ([.int .i64 (orI (A28 x.1 y.1) (A28 x.2.1 y.2.1))]) ([])=(
 orI (A28 x.fst y.fst) (A28 x.snd.fst y.snd.fst)=orI (A28 x.fst y.fst) (A28 x.snd.fst y.snd.fst)/\True):=by kernel_rfl
open List IntKind
theorem C07 (a k oa ok x y:List Int):fnY (WB) G 10000 (9002) (.r [] 1 (.r [] 219 (.cnd (.r [] 3 .nil) .nil))) ([A89 x y]) (H28 a k oa ok) (true) ([(133,B0o (A4G (ltF x y oa ok) x oa) (A4G (ltF x y oa ok) y ok))])=(
 (length x=length x/\qx (length oa) (length x<1000000000000/\length oa<1000000000000))/\(length y=length y/\qx (length ok) (length y<1000000000000/\length ok<1000000000000))
 /\(ltb (orI (A1d x oa) (A1d y ok)) 0=true->1=1/\Cont.ints i64 x=Cont.ints i64 (A4G (ltF x y oa ok) x oa)/\length x=length (A4G (ltF x y oa ok) x oa)/\length x=length (A4G
 (ltF x y oa ok) x oa)/\Cont.ints u8 y=Cont.ints u8 (A4G (ltF x y oa ok) y ok)/\length y=length (A4G (ltF x y oa ok) y ok)/\length y=length (A4G (ltF x y oa ok) y ok)/\1=1/\0
 =0/\(none:Option Ex)=none/\34=34/\[18]=[18]/\XC.reg 384 [XO.mk (some 6) (XOp.new (Cont.cells [AV.nils,AV.nils]) 1 2) none,XO.mk none (XOp.store 2 (Opd.t 6) (Opd.t 18)) none]
 [17,18]=XC.reg 384 [XO.mk (some 6) (XOp.new (Cont.cells [AV.nils,AV.nils]) 1 2) none,XO.mk none (XOp.store 2 (Opd.t 6) (Opd.t 18)) none] [17,18]/\qx (XC.block 1 (XC.seq (XC.draw 448
 [XO.mk (some 19) (XOp.fieldA 0 (Opd.t 6)) none,XO.mk (some 20) (XOp.load none (Opd.t 19)) none,XO.mk (some 21) (XOp.fieldA 0 (Opd.t 4)) none,XO.mk (some 22) (XOp.load none (Opd.t 21))
 none,XO.mk (some 23) (XOp.call 69 [Opd.t 20,Opd.t 22]) none,XO.mk (some 24) (XOp.fieldA 1 (Opd.t 6)) none,XO.mk (some 25) (XOp.load none (Opd.t 24)) none,XO.mk (some 26) (XOp.fieldA 1
 (Opd.t 4)) none,XO.mk (some 27) (XOp.load none (Opd.t 26)) none,XO.mk (some 28) (XOp.call 70 [Opd.t 25,Opd.t 27]) none,XO.mk (some 29) (XOp.buildS 1 2 4 [AV.int i64 0] [(0,1,Opd.t 23),
 (1,1,Opd.t 28)]) none,XO.mk (some 30) (XOp.call 21 [Opd.t 29]) none,XO.mk (some 31) (XOp.bin BinOp.lss (Opd.t 30) (Opd.c (AV.int i64 0))) none] [[],[0],[],[2],[1,3],[],[5],[],
 [7],[6,8,4],[4,9],[10,9],[11]] [0,1,2,3,4,5,6,7,8,9,10,11,12] [19,20,21,22,23,24,25,26,27,28,29,30]) (XC.cond (Opd.t 31) (XC.reg 512 [XO.mk (some 32) (XOp.load
 (some 2) (Opd.t 6)) none,XO.mk none (XOp.store 2 (Opd.t 4) (Opd.t 32)) none] [6,31,32]) XC.skip))) (0=0/\0=0/\Cont.vals [AV.imm (Cont.ints i64 a) (length a) none,AV.imm (Cont.ints
 u8 k) (length k) none]=Cont.vals [AV.imm (Cont.ints i64 a) (length a) none,AV.imm (Cont.ints u8 k) (length k) none]/\true=true/\True))/\(ltb (orI (A1d x oa) (A1d y ok)) 0=false->
 1=1/\Cont.ints i64 oa=Cont.ints i64 (A4G (ltF x y oa ok) x oa)/\length oa=length (A4G (ltF x y oa ok) x oa)/\length oa=length (A4G (ltF x y oa ok) x oa)/\Cont.ints u8 ok=
 Cont.ints u8 (A4G (ltF x y oa ok) y ok)/\length ok=length (A4G (ltF x y oa ok) y ok)/\length ok=length (A4G (ltF x y oa ok) y ok)/\1=1/\0=0/\(none:Option Ex)=none/\34=
 34/\[18]=[18]/\XC.reg 384 [XO.mk (some 6) (XOp.new (Cont.cells [AV.nils,AV.nils]) 1 2) none,XO.mk none (XOp.store 2 (Opd.t 6) (Opd.t 18)) none] [17,18]=XC.reg 384 [XO.mk (some 6)
 (XOp.new (Cont.cells [AV.nils,AV.nils]) 1 2) none,XO.mk none (XOp.store 2 (Opd.t 6) (Opd.t 18)) none] [17,18]/\qx (XC.block 1 (XC.seq (XC.draw 448 [XO.mk (some 19) (XOp.fieldA 0 (Opd.t
 6)) none,XO.mk (some 20) (XOp.load none (Opd.t 19)) none,XO.mk (some 21) (XOp.fieldA 0 (Opd.t 4)) none,XO.mk (some 22) (XOp.load none (Opd.t 21)) none,XO.mk (some 23) (XOp.call 69 [Opd.t
 20,Opd.t 22]) none,XO.mk (some 24) (XOp.fieldA 1 (Opd.t 6)) none,XO.mk (some 25) (XOp.load none (Opd.t 24)) none,XO.mk (some 26) (XOp.fieldA 1 (Opd.t 4)) none,XO.mk (some 27) (XOp.load
 none (Opd.t 26)) none,XO.mk (some 28) (XOp.call 70 [Opd.t 25,Opd.t 27]) none,XO.mk (some 29) (XOp.buildS 1 2 4 [AV.int i64 0] [(0,1,Opd.t 23),(1,1,Opd.t 28)]) none,XO.mk (some 30)
 (XOp.call 21 [Opd.t 29]) none,XO.mk (some 31) (XOp.bin BinOp.lss (Opd.t 30) (Opd.c (AV.int i64 0))) none] [[],[0],[],[2],[1,3],[],[5],[],[7],[6,8,4],[4,9],[10,9],[11]] [0,
 1,2,3,4,5,6,7,8,9,10,11,12] [19,20,21,22,23,24,25,26,27,28,29,30]) (XC.cond (Opd.t 31) (XC.reg 512 [XO.mk (some 32) (XOp.load (some 2) (Opd.t 6)) none,XO.mk none
 (XOp.store 2 (Opd.t 4) (Opd.t 32)) none] [6,31,32]) XC.skip))) (0=0/\0=0/\Cont.vals [AV.imm (Cont.ints i64 a) (length a) none,AV.imm (Cont.ints u8 k) (length k) none]=Cont.vals
 [AV.imm (Cont.ints i64 a) (length a) none,AV.imm (Cont.ints u8 k) (length k) none]/\true=true/\True))):=by kernel_rfl
theorem C08 (a k:List Int):fnD (D2o a k) G 10000 (B7t) (.r [] 1 (.lp (l71 a k) [] [] (fun b=>(.r [] 0 (.cnd (.r [] 0 (.r [(266,.auto,Dr.heap)] 5 (.lit (.r [] 0 .nil)))) .nil))))) ([.yld 9002,.iptr (B1w a k)]) (H28 a k (rotL' a 0) (rotL' k 0)) ([]) ([(133,B0o (lsA a k) (lsK a k))])=(
 1=1/\qs i64 (rotL' a 0) (qx (length (rotL' a 0)) (qs u8 (rotL' k 0) (qx (length (rotL' k 0)) (1=1/\0=0/\(none:Option Ex)=none/\34=34/\[18]=[18]/\XC.reg 384 [XO.mk (some
 6) (XOp.new (Cont.cells [AV.nils,AV.nils]) 1 2) none,XO.mk none (XOp.store 2 (Opd.t 6) (Opd.t 18)) none] [17,18]=XC.reg 384 [XO.mk (some 6) (XOp.new (Cont.cells [AV.nils,AV.nils]) 1 2)
 none,XO.mk none (XOp.store 2 (Opd.t 6) (Opd.t 18)) none] [17,18]/\qx (XC.block 1 (XC.seq (XC.draw 448 [XO.mk (some 19) (XOp.fieldA 0 (Opd.t 6)) none,XO.mk (some 20) (XOp.load none (Opd.t
 19)) none,XO.mk (some 21) (XOp.fieldA 0 (Opd.t 4)) none,XO.mk (some 22) (XOp.load none (Opd.t 21)) none,XO.mk (some 23) (XOp.call 69 [Opd.t 20,Opd.t 22]) none,XO.mk (some 24)
 (XOp.fieldA 1 (Opd.t 6)) none,XO.mk (some 25) (XOp.load none (Opd.t 24)) none,XO.mk (some 26) (XOp.fieldA 1 (Opd.t 4)) none,XO.mk (some 27) (XOp.load none (Opd.t 26)) none,XO.mk (some
 28) (XOp.call 70 [Opd.t 25,Opd.t 27]) none,XO.mk (some 29) (XOp.buildS 1 2 4 [AV.int i64 0] [(0,1,Opd.t 23),(1,1,Opd.t 28)]) none,XO.mk (some 30) (XOp.call 21 [Opd.t 29]) none,XO.mk
 (some 31) (XOp.bin BinOp.lss (Opd.t 30) (Opd.c (AV.int i64 0))) none] [[],[0],[],[2],[1,3],[],[5],[],[7],[6,8,4],[4,9],[10,9],[11]] [0,1,2,3,4,5,6,7,8,9,10,11,
 12] [19,20,21,22,23,24,25,26,27,28,29,30]) (XC.cond (Opd.t 31) (XC.reg 512 [XO.mk (some 32) (XOp.load (some 2) (Opd.t 6)) none,XO.mk none (XOp.store 2 (Opd.t 4) (Opd.t 32)) none]
 [6,31,32]) XC.skip))) (0=0/\0=0/\Cont.vals [AV.imm (Cont.ints i64 a) (length a) none,AV.imm (Cont.ints u8 k) (length k) none]=Cont.vals [AV.imm (Cont.ints i64 a) (length a) none,
 AV.imm (Cont.ints u8 k) (length k) none]/\Cont.vals [AV.imm (Cont.ints i64 a) (length a) none,AV.imm (Cont.ints u8 k) (length k) none]=Cont.vals [AV.imm (Cont.ints i64 a) (length a)
 none,AV.imm (Cont.ints u8 k) (length k) none]/\ql a (iI 0=0/\(∃(n:Nat),0=(↑n:Int)/\n<=length a/\rotL' a 0=rotL' a (A1e (trn a k) n)/\rotL' k 0=rotL' k (A1e (trn a k)
 n))/\∀(b:L71),(∃(n:Nat),b.i=(↑n:Int)/\n<=length a/\b.a=rotL' a (A1e (trn a k) n)/\b.k=rotL' k (A1e (trn a k) n))->(ltb b.i (↑(length a):Int)=true->(length a=
 length a/\length a<100000000000/\0<=b.i/\b.i<=(↑(length a):Int))/\(length k=length k/\length k<100000000000/\0<=b.i/\b.i<=(↑(length k):Int))/\([(133,HO.blk (Blk.mk
 (Cont.cells [AV.imm (Cont.ints i64 b.a) (length b.a) (some (length b.a)),AV.imm (Cont.ints u8 b.k) (length b.k) (some (length b.k))]) 2 1 none (some false) true true)),(65,HO.blk (Blk.mk
 (Cont.cells [AV.nils,AV.nils]) 2 1 none (some false) true true)),(9002,HO.loop (LoopS.mk 0 none [(2,AV.ptr 65 0),(4,AV.ptr 133 0),(17,AV.fn 108 [] [AV.iptr (Cont.vals [AV.imm
 (Cont.ints i64 a) (length a) none,AV.imm (Cont.ints u8 k) (length k) none])])] 34 [18] (XC.reg 384 [XO.mk (some 6) (XOp.new (Cont.cells [AV.nils,AV.nils]) 1 2) none,XO.mk none (XOp.store
 2 (Opd.t 6) (Opd.t 18)) none] [17,18]) (XC.block 1 (XC.seq (XC.draw 448 [XO.mk (some 19) (XOp.fieldA 0 (Opd.t 6)) none,XO.mk (some 20) (XOp.load none (Opd.t 19)) none,XO.mk (some 21)
 (XOp.fieldA 0 (Opd.t 4)) none,XO.mk (some 22) (XOp.load none (Opd.t 21)) none,XO.mk (some 23) (XOp.call 69 [Opd.t 20,Opd.t 22]) none,XO.mk (some 24) (XOp.fieldA 1 (Opd.t 6)) none,XO.mk
 (some 25) (XOp.load none (Opd.t 24)) none,XO.mk (some 26) (XOp.fieldA 1 (Opd.t 4)) none,XO.mk (some 27) (XOp.load none (Opd.t 26)) none,XO.mk (some 28) (XOp.call 70 [Opd.t 25,Opd.t 27])
 none,XO.mk (some 29) (XOp.buildS 1 2 4 [AV.int i64 0] [(0,1,Opd.t 23),(1,1,Opd.t 28)]) none,XO.mk (some 30) (XOp.call 21 [Opd.t 29]) none,XO.mk (some 31) (XOp.bin BinOp.lss (Opd.t
 30) (Opd.c (AV.int i64 0))) none] [[],[0],[],[2],[1,3],[],[5],[],[7],[6,8,4],[4,9],[10,9],[11]] [0,1,2,3,4,5,6,7,8,9,10,11,12] [19,20,21,22,23,24,25,26,
 27,28,29,30]) (XC.cond (Opd.t 31) (XC.reg 512 [XO.mk (some 32) (XOp.load (some 2) (Opd.t 6)) none,XO.mk none (XOp.store 2 (Opd.t 4) (Opd.t 32)) none] [6,31,32]) XC.skip)))))]=[(133,
 HO.blk (Blk.mk (Cont.cells [AV.imm (Cont.ints i64 b.a) (length b.a) (some (length b.a)),AV.imm (Cont.ints u8 b.k) (length b.k) (some (length b.k))]) 2 1 none (some false) true true)),(65,
 HO.blk (Blk.mk (Cont.cells [AV.nils,AV.nils]) 2 1 none (some false) true true)),(9002,HO.loop (LoopS.mk 0 none [(2,AV.ptr 65 0),(4,AV.ptr 133 0),(17,AV.fn 108 [] [AV.iptr (Cont.vals
 [AV.imm (Cont.ints i64 a) (length a) none,AV.imm (Cont.ints u8 k) (length k) none])])] 34 [18] (XC.reg 384 [XO.mk (some 6) (XOp.new (Cont.cells [AV.nils,AV.nils]) 1 2) none,XO.mk none
 (XOp.store 2 (Opd.t 6) (Opd.t 18)) none] [17,18]) (XC.block 1 (XC.seq (XC.draw 448 [XO.mk (some 19) (XOp.fieldA 0 (Opd.t 6)) none,XO.mk (some 20) (XOp.load none (Opd.t 19)) none,XO.mk
 (some 21) (XOp.fieldA 0 (Opd.t 4)) none,XO.mk (some 22) (XOp.load none (Opd.t 21)) none,XO.mk (some 23) (XOp.call 69 [Opd.t 20,Opd.t 22]) none,XO.mk (some 24) (XOp.fieldA 1 (Opd.t 6))
 none,XO.mk (some 25) (XOp.load none (Opd.t 24)) none,XO.mk (some 26) (XOp.fieldA 1 (Opd.t 4)) none,XO.mk (some 27) (XOp.load none (Opd.t 26)) none,XO.mk (some 28) (XOp.call 70 [Opd.t 25,
 Opd.t 27]) none,XO.mk (some 29) (XOp.buildS 1 2 4 [AV.int i64 0] [(0,1,Opd.t 23),(1,1,Opd.t 28)]) none,XO.mk (some 30) (XOp.call 21 [Opd.t 29]) none,XO.mk (some 31) (XOp.bin
 BinOp.lss (Opd.t 30) (Opd.c (AV.int i64 0))) none] [[],[0],[],[2],[1,3],[],[5],[],[7],[6,8,4],[4,9],[10,9],[11]] [0,1,2,3,4,5,6,7,8,9,10,11,12] [19,20,21,22,
 23,24,25,26,27,28,29,30]) (XC.cond (Opd.t 31) (XC.reg 512 [XO.mk (some 32) (XOp.load (some 2) (Opd.t 6)) none,XO.mk none (XOp.store 2 (Opd.t 4) (Opd.t 32)) none] [6,31,32])
 XC.skip)))))]/\qx (length (rotL' a (Int.toNat b.i))) (qx (length (rotL' k (Int.toNat b.i))) (qx (length (rotL' a (Int.toNat b.i))) (qx (length (rotL' k (Int.toNat b.i))) (length (rotL' a
 (Int.toNat b.i))<1000000000/\length (rotL' k (Int.toNat b.i))<1000000000/\length b.a<1000000000/\length b.k<1000000000)))))/\inR i64 (b.i+1)=true/\1=1/\qs i64 (A4G (ltF
 (rotL' a (Int.toNat b.i)) (rotL' k (Int.toNat b.i)) b.a b.k) (rotL' a (Int.toNat b.i)) b.a) (qx (length (A4G (ltF (rotL' a (Int.toNat b.i)) (rotL' k (Int.toNat b.i)) b.a b.k) (rotL' a
 (Int.toNat b.i)) b.a)) (qs u8 (A4G (ltF (rotL' a (Int.toNat b.i)) (rotL' k (Int.toNat b.i)) b.a b.k) (rotL' k (Int.toNat b.i)) b.k) (qx (length (A4G (ltF (rotL' a (Int.toNat b.i)) (rotL' k
 (Int.toNat b.i)) b.a b.k) (rotL' k (Int.toNat b.i)) b.k)) (1=1/\0=0/\(none:Option Ex)=none/\34=34/\[18]=[18]/\XC.reg 384 [XO.mk (some 6) (XOp.new (Cont.cells [AV.nils,
 AV.nils]) 1 2) none,XO.mk none (XOp.store 2 (Opd.t 6) (Opd.t 18)) none] [17,18]=XC.reg 384 [XO.mk (some 6) (XOp.new (Cont.cells [AV.nils,AV.nils]) 1 2) none,XO.mk none (XOp.store 2
 (Opd.t 6) (Opd.t 18)) none] [17,18]/\qx (XC.block 1 (XC.seq (XC.draw 448 [XO.mk (some 19) (XOp.fieldA 0 (Opd.t 6)) none,XO.mk (some 20) (XOp.load none (Opd.t 19)) none,XO.mk (some 21)
 (XOp.fieldA 0 (Opd.t 4)) none,XO.mk (some 22) (XOp.load none (Opd.t 21)) none,XO.mk (some 23) (XOp.call 69 [Opd.t 20,Opd.t 22]) none,XO.mk (some 24) (XOp.fieldA 1 (Opd.t 6)) none,XO.mk
 (some 25) (XOp.load none (Opd.t 24)) none,XO.mk (some 26) (XOp.fieldA 1 (Opd.t 4)) none,XO.mk (some 27) (XOp.load none (Opd.t 26)) none,XO.mk (some 28) (XOp.call 70 [Opd.t 25,Opd.t 27])
 none,XO.mk (some 29) (XOp.buildS 1 2 4 [AV.int i64 0] [(0,1,Opd.t 23),(1,1,Opd.t 28)]) none,XO.mk (some 30) (XOp.call 21 [Opd.t 29]) none,XO.mk (some 31) (XOp.bin BinOp.lss (Opd.t
 30) (Opd.c (AV.int i64 0))) none] [[],[0],[],[2],[1,3],[],[5],[],[7],[6,8,4],[4,9],[10,9],[11]] [0,1,2,3,4,5,6,7,8,9,10,11,12] [19,20,21,22,23,24,25,26,
 27,28,29,30]) (XC.cond (Opd.t 31) (XC.reg 512 [XO.mk (some 32) (XOp.load (some 2) (Opd.t 6)) none,XO.mk none (XOp.store 2 (Opd.t 4) (Opd.t 32)) none] [6,31,32]) XC.skip))) (0=0/\0=
 0/\Cont.vals [AV.imm (Cont.ints i64 a) (length a) none,AV.imm (Cont.ints u8 k) (length k) none]=Cont.vals [AV.imm (Cont.ints i64 a) (length a) none,AV.imm (Cont.ints u8 k) (length k)
 none]/\Cont.vals [AV.imm (Cont.ints i64 a) (length a) none,AV.imm (Cont.ints u8 k) (length k) none]=Cont.vals [AV.imm (Cont.ints i64 a) (length a) none,AV.imm (Cont.ints u8 k) (length
 k) none]/\ql a (b.i+1=b.i+1/\(∃(n:Nat),b.i+1=(↑n:Int)/\n<=length a/\A4G (ltF (rotL' a (Int.toNat b.i)) (rotL' k (Int.toNat b.i)) b.a b.k) (rotL' a (Int.toNat b.i)) b.a
 =rotL' a (A1e (trn a k) n)/\A4G (ltF (rotL' a (Int.toNat b.i)) (rotL' k (Int.toNat b.i)) b.a b.k) (rotL' k (Int.toNat b.i)) b.k=rotL' k (A1e (trn a k) n))/\length a-Int.toNat
 (b.i+1)<length a-Int.toNat b.i/\True)))))))/\(ltb b.i (↑(length a):Int)=false->1=1/\Cont.ints i64 b.a=Cont.ints i64 (lsA a k)/\length b.a=length (lsA a k)/\length b.a=
 length (lsA a k)/\Cont.ints u8 b.k=Cont.ints u8 (lsK a k)/\length b.k=length (lsK a k)/\length b.k=length (lsK a k)/\1=1/\0=0/\(none:Option Ex)=none/\34=34/\[18]=
 [18]/\XC.reg 384 [XO.mk (some 6) (XOp.new (Cont.cells [AV.nils,AV.nils]) 1 2) none,XO.mk none (XOp.store 2 (Opd.t 6) (Opd.t 18)) none] [17,18]=XC.reg 384 [XO.mk (some 6) (XOp.new
 (Cont.cells [AV.nils,AV.nils]) 1 2) none,XO.mk none (XOp.store 2 (Opd.t 6) (Opd.t 18)) none] [17,18]/\qx (XC.block 1 (XC.seq (XC.draw 448 [XO.mk (some 19) (XOp.fieldA 0 (Opd.t 6)) none,
 XO.mk (some 20) (XOp.load none (Opd.t 19)) none,XO.mk (some 21) (XOp.fieldA 0 (Opd.t 4)) none,XO.mk (some 22) (XOp.load none (Opd.t 21)) none,XO.mk (some 23) (XOp.call 69 [Opd.t 20,Opd.t
 22]) none,XO.mk (some 24) (XOp.fieldA 1 (Opd.t 6)) none,XO.mk (some 25) (XOp.load none (Opd.t 24)) none,XO.mk (some 26) (XOp.fieldA 1 (Opd.t 4)) none,XO.mk (some 27) (XOp.load none
 (Opd.t 26)) none,XO.mk (some 28) (XOp.call 70 [Opd.t 25,Opd.t 27]) none,XO.mk (some 29) (XOp.buildS 1 2 4 [AV.int i64 0] [(0,1,Opd.t 23),(1,1,Opd.t 28)]) none,XO.mk (some 30)
 (XOp.call 21 [Opd.t 29]) none,XO.mk (some 31) (XOp.bin BinOp.lss (Opd.t 30) (Opd.c (AV.int i64 0))) none] [[],[0],[],[2],[1,3],[],[5],[],[7],[6,8,4],[4,9],[10,9],[11]] [0,
 1,2,3,4,5,6,7,8,9,10,11,12] [19,20,21,22,23,24,25,26,27,28,29,30]) (XC.cond (Opd.t 31) (XC.reg 512 [XO.mk (some 32) (XOp.load (some 2) (Opd.t 6)) none,XO.mk none
 (XOp.store 2 (Opd.t 4) (Opd.t 32)) none] [6,31,32]) XC.skip))) (0=0/\0=0/\Cont.vals [AV.imm (Cont.ints i64 a) (length a) none,AV.imm (Cont.ints u8 k) (length k) none]=Cont.vals
 [AV.imm (Cont.ints i64 a) (length a) none,AV.imm (Cont.ints u8 k) (length k) none]/\True))))))))):=by kernel_rfl
theorem C4L (a k:List Int):fnP (T28 a k) G 10000 C2f (.r [] 0 (.r [] 29 (.r [] 0 (.cnd (.r [] 1 .nil) (.r [] 1 (.rf 9002 0 (.r [] 3 .nil))))))) ([A3T a k]) ([A89 (lsA a k) (lsK a k),.int .i64 0]) ([])=(
 (length a=length a/\length k=length k/\length a<100000000000/\chk a k=0)/\((bI (tOk a 0) 0 1 !=0)=true->Cont.size (Cont.ints i64 (lsA a k))=0/\length (lsA a k)=0/\
 length (lsA a k)=0/\Cont.size (Cont.ints u8 (lsK a k))=0/\length (lsK a k)=0/\length (lsK a k)=0/\bI (tOk a 0) 0 1=0/\True)/\((bI (tOk a 0) 0 1 !=0)=false->(length a=
 length a/\length k=length k)/\([(133,HO.blk (Blk.mk (Cont.cells [AV.imm (Cont.ints i64 (bLt (tOk a 0) (rotL' a 0))) (length (bLt (tOk a 0) (rotL' a 0))) (some (length (bLt (tOk a 0)
 (rotL' a 0)))),AV.imm (Cont.ints u8 (bLt (tOk a 0) (rotL' k 0))) (length (bLt (tOk a 0) (rotL' k 0))) (some (length (bLt (tOk a 0) (rotL' k 0))))]) 2 1 none (some false) true true)),(65,
 HO.blk (Blk.mk (Cont.cells [AV.nils,AV.nils]) 2 1 none (some false) true true)),(9002,HO.loop (LoopS.mk 0 none [(2,AV.ptr 65 0),(4,AV.ptr 133 0),(17,AV.fn 108 [] [AV.iptr (Cont.vals
 [AV.imm (Cont.ints i64 a) (length a) none,AV.imm (Cont.ints u8 k) (length k) none])])] 34 [18] (XC.reg 384 [XO.mk (some 6) (XOp.new (Cont.cells [AV.nils,AV.nils]) 1 2) none,XO.mk none
 (XOp.store 2 (Opd.t 6) (Opd.t 18)) none] [17,18]) (XC.block 1 (XC.seq (XC.draw 448 [XO.mk (some 19) (XOp.fieldA 0 (Opd.t 6)) none,XO.mk (some 20) (XOp.load none (Opd.t 19)) none,XO.mk
 (some 21) (XOp.fieldA 0 (Opd.t 4)) none,XO.mk (some 22) (XOp.load none (Opd.t 21)) none,XO.mk (some 23) (XOp.call 69 [Opd.t 20,Opd.t 22]) none,XO.mk (some 24) (XOp.fieldA 1 (Opd.t 6))
 none,XO.mk (some 25) (XOp.load none (Opd.t 24)) none,XO.mk (some 26) (XOp.fieldA 1 (Opd.t 4)) none,XO.mk (some 27) (XOp.load none (Opd.t 26)) none,XO.mk (some 28) (XOp.call 70 [Opd.t 25,
 Opd.t 27]) none,XO.mk (some 29) (XOp.buildS 1 2 4 [AV.int i64 0] [(0,1,Opd.t 23),(1,1,Opd.t 28)]) none,XO.mk (some 30) (XOp.call 21 [Opd.t 29]) none,XO.mk (some 31) (XOp.bin
 BinOp.lss (Opd.t 30) (Opd.c (AV.int i64 0))) none] [[],[0],[],[2],[1,3],[],[5],[],[7],[6,8,4],[4,9],[10,9],[11]] [0,1,2,3,4,5,6,7,8,9,10,11,12] [19,20,21,22,
 23,24,25,26,27,28,29,30]) (XC.cond (Opd.t 31) (XC.reg 512 [XO.mk (some 32) (XOp.load (some 2) (Opd.t 6)) none,XO.mk none (XOp.store 2 (Opd.t 4) (Opd.t 32)) none] [6,31,32])
 XC.skip)))))]=[(133,HO.blk (Blk.mk (Cont.cells [AV.imm (Cont.ints i64 (rotL' a 0)) (length (rotL' a 0)) (some (length (rotL' a 0))),AV.imm (Cont.ints u8 (rotL' k 0)) (length (rotL' k 0))
 (some (length (rotL' k 0)))]) 2 1 none (some false) true true)),(65,HO.blk (Blk.mk (Cont.cells [AV.nils,AV.nils]) 2 1 none (some false) true true)),(9002,HO.loop (LoopS.mk 0 none [(2,
 AV.ptr 65 0),(4,AV.ptr 133 0),(17,AV.fn 108 [] [AV.iptr (Cont.vals [AV.imm (Cont.ints i64 a) (length a) none,AV.imm (Cont.ints u8 k) (length k) none])])] 34 [18] (XC.reg 384 [XO.mk
 (some 6) (XOp.new (Cont.cells [AV.nils,AV.nils]) 1 2) none,XO.mk none (XOp.store 2 (Opd.t 6) (Opd.t 18)) none] [17,18]) (XC.block 1 (XC.seq (XC.draw 448 [XO.mk (some 19) (XOp.fieldA 0
 (Opd.t 6)) none,XO.mk (some 20) (XOp.load none (Opd.t 19)) none,XO.mk (some 21) (XOp.fieldA 0 (Opd.t 4)) none,XO.mk (some 22) (XOp.load none (Opd.t 21)) none,XO.mk (some 23) (XOp.call 69
 [Opd.t 20,Opd.t 22]) none,XO.mk (some 24) (XOp.fieldA 1 (Opd.t 6)) none,XO.mk (some 25) (XOp.load none (Opd.t 24)) none,XO.mk (some 26) (XOp.fieldA 1 (Opd.t 4)) none,XO.mk (some 27)
 (XOp.load none (Opd.t 26)) none,XO.mk (some 28) (XOp.call 70 [Opd.t 25,Opd.t 27]) none,XO.mk (some 29) (XOp.buildS 1 2 4 [AV.int i64 0] [(0,1,Opd.t 23),(1,1,Opd.t 28)]) none,XO.mk
 (some 30) (XOp.call 21 [Opd.t 29]) none,XO.mk (some 31) (XOp.bin BinOp.lss (Opd.t 30) (Opd.c (AV.int i64 0))) none] [[],[0],[],[2],[1,3],[],[5],[],[7],[6,8,4],[4,9],[10,9],
 [11]] [0,1,2,3,4,5,6,7,8,9,10,11,12] [19,20,21,22,23,24,25,26,27,28,29,30]) (XC.cond (Opd.t 31) (XC.reg 512 [XO.mk (some 32) (XOp.load (some 2) (Opd.t 6)) none,XO.mk
 none (XOp.store 2 (Opd.t 4) (Opd.t 32)) none] [6,31,32]) XC.skip)))))]/\[AV.yld 9002,AV.iptr (Cont.vals [AV.imm (Cont.ints i64 a) (length a) none,AV.imm (Cont.ints u8 k) (length k)
 none])]=[AV.yld 9002,AV.iptr (Cont.vals [AV.imm (Cont.ints i64 a) (length a) none,AV.imm (Cont.ints u8 k) (length k) none])]/\length k=length a/\length a<1000000000)/\qs i64 (lsA
 a k) (qx (length (lsA a k)) (qs u8 (lsK a k) (qx (length (lsK a k)) (iI 0=0/\True)))))):=by kernel_rfl
theorem C9j (c l:Int)(ks:List Int)(x:Int):fnP (WL) G 10000 C5K (.r [] 0 (.r [] 5 (.r [] 1 (.r [] 113 (.r [yL 323,yL 330,yL 337,yL 344] 61167 (.ff (.r [] 0 (.r [] 0 (.lp (l9 (ofA c l ks) (ofK c ks)) [] [] (fun b=>(.r [] 0 (.cnd (.r [] 113 (.r [] 29 (.r [yL 835,yL 839,yL 846,yL 853,yL 860,yL 867] 28800894 (.ff (.r [] 0 (.lp (m9 (ofA c l ks)) [] [] (fun b_1=>(.r [] 0 (.cnd (.r [yO 1168,yO 1169,yO 1170,yO 1171,yO 1172,yO 1173,yO 1174,yO 1175,yO 1176,yO 1177,yO 1178,yO 1179,yO 1180,yO 1181,yO 1182] 2199056842785 (.ff (.r [] 0 .nil))) (.rs 2 [] 0 155 (.r [] 3 (.r [] 3 (.ff (.r [] 0 .nil)))) (.r [] 27 (.r [] 3 (.ff (.r [] 0 .nil)))))))))))))) (.r [] 113 (.rs 3 [] 0 171 (.rs 4 [] 0 175 (.r [] 15 (.r [yL 1602,yL 1608] 2038 .nil)) (.r [] 15 (.rs 10 [yL 1602,yL 1608] 6 189 (.r [] 127 .nil) (.r [yL 1613,yL 1621] 3838 .nil)))) (.r [] 3 (.r [yL 1602,yL 1608,yL 1613,yL 1621] 61414 .nil)))))))))))))))) ([fV c l ks,.int .i64 x]) ([.bool true]) ([])=(
 (fun(A K:List Int)=>(fun(zz14:Bool)=>(fun(zz10:Nat)=>(fun(zz9:Nat)=>(qx (length ks) (okK ks))/\length A=length A/\length A=length A/\length K=length K/\(length
 A=length A/\length K=length K/\length A<1000000000/\chk A K=0)/\(!(↑zz9:Int) !=(↑(length A):Int))=true/\(!(↑zz10:Int) !=(↑(length A):Int))=true/\(!(↑zz9:Int) !=
 (↑(length A):Int))=true/\((↑zz10:Int) !=(↑(length A):Int))=false/\1=1/\c=c/\l=l/\qs u8 ks (length A=length A/\qx (ofA c l ks) (length K=length K/\ofK c ks=ofK c
 ks/\1=1/\length A=length A/\length K=length K/\1=1/\qs i64 (lsA A K) (qx zz9 (qs u8 (lsK A K) (qx zz10 (x=x/\0=0/\ql A (0=0/\qx ((↑(length A):Int)==0) (iI 0=0/\
 (∃(n:Nat),0=(↑n:Int)/\n<=length A/\((↑(length A):Int)==0)=B33 A K n)/\∀(b:L9),(fun(zz12:Bool)=>(fun(zz5:Nat)=>(fun(zz4:Nat)=>(fun(zz3:Nat)=>(fun
 (zz7:Bool)=>(fun(zz2:Nat)=>(fun(zz8:Bool)=>(fun(zz1:Bool)=>(∃(n:Nat),b.k=(↑n:Int)/\n<=length A/\b.f=B33 A K n)->(ltb b.k (↑(length A):Int)=true->length
 A=length A/\length K=length K/\(length A=length A/\length K=length K/\length A<100000000000/\chk A K=0)/\(qx zz3 (qx zz2 (length (bLt (tOk A b.k) (rotL' A (Int.toNat b.k)))
 <1000000000/\chk (bLt (tOk A b.k) (rotL' A (Int.toNat b.k))) (bLt (tOk A b.k) (rotL' K (Int.toNat b.k)))=0)))/\(!bI (tOk A b.k) 0 1 !=0)=true/\(!(↑zz3:Int) !=(↑(length A):Int))
 =true/\(!(↑zz2:Int) !=(↑(length A):Int))=true/\(!(↑zz3:Int) !=(↑(length A):Int))=true/\(!(↑zz2:Int) !=(↑(length A):Int))=true/\(qx zz4 (qx zz5 (qx zz9 (qx zz10 (qx
 zz4 (qx zz5 (length (lsA (bLt (tOk A b.k) (rotL' A (Int.toNat b.k))) (bLt (tOk A b.k) (rotL' K (Int.toNat b.k))))=length (lsA A K)/\length (lsK (bLt (tOk A b.k) (rotL' A (Int.toNat b.k)))
 (bLt (tOk A b.k) (rotL' K (Int.toNat b.k))))=length (lsK A K)/\length (lsA (bLt (tOk A b.k) (rotL' A (Int.toNat b.k))) (bLt (tOk A b.k) (rotL' K (Int.toNat b.k))))<1000000000000/\
 length (lsK (bLt (tOk A b.k) (rotL' A (Int.toNat b.k))) (bLt (tOk A b.k) (rotL' K (Int.toNat b.k))))<1000000000000)))))))/\(!zz1)=false/\1=1/\c=c/\l=l/\qs u8 ks (length A=
 length A/\qx (ofA c l ks) (length K=length K/\ofK c ks=ofK c ks/\1=1/\length A=length A/\length K=length K/\1=1/\qs i64 (lsA A K) (qx zz9 (qs u8 (lsK A K) (qx zz10 (1=1
 /\qs i64 (bLt (tOk A b.k) (rotL' A (Int.toNat b.k))) (qx zz3 (qs u8 (bLt (tOk A b.k) (rotL' K (Int.toNat b.k))) (qx zz2 (1=1/\qs i64 (lsA (bLt (tOk A b.k) (rotL' A (Int.toNat b.k))) (bLt
 (tOk A b.k) (rotL' K (Int.toNat b.k)))) (qx zz4 (qs u8 (lsK (bLt (tOk A b.k) (rotL' A (Int.toNat b.k))) (bLt (tOk A b.k) (rotL' K (Int.toNat b.k)))) (qx zz5 (x=x/\0=0/\ql A (0=0/\
 b.f=b.f/\b.k=b.k/\0=0/\iI 0=0/\false=false/\0=0/\qs i64 (bLt (tOk A b.k) (rotL' A (Int.toNat b.k))) (qx zz3 (ql (bLt (tOk A b.k) (rotL' A (Int.toNat b.k))) (ql A (zz7=zz7
 /\1=1/\qs u8 (bLt (tOk A b.k) (rotL' K (Int.toNat b.k))) (qx zz2 (ql (bLt (tOk A b.k) (rotL' K (Int.toNat b.k))) (ql A (zz8=zz8/\0=0/\qs i64 (bLt (tOk A b.k) (rotL' A (Int.toNat
 b.k))) (qx zz3 (ql (bLt (tOk A b.k) (rotL' A (Int.toNat b.k))) (ql A (zz7=zz7/\1=1/\qs u8 (bLt (tOk A b.k) (rotL' K (Int.toNat b.k))) (qx zz2 (ql (bLt (tOk A b.k) (rotL' K (Int.toNat
 b.k))) (ql A (zz8=zz8/\qs i64 (lsA (bLt (tOk A b.k) (rotL' A (Int.toNat b.k))) (bLt (tOk A b.k) (rotL' K (Int.toNat b.k)))) (qx zz4 (qs u8 (lsK (bLt (tOk A b.k) (rotL' A (Int.toNat b.k)))
 (bLt (tOk A b.k) (rotL' K (Int.toNat b.k)))) (qx zz5 (qs i64 (lsA A K) (qx zz9 (qs u8 (lsK A K) (qx zz10 (qx zz1 ((!zz1)= !zz1/\iI 0=0/\(∃(n:Nat),0=(↑n:Int)/\n<=length A)/\∀
 (b_1:L26),(fun(zz13:List Int)=>(fun(zz11:List Int)=>(fun(zz6:Int)=>(fun(zz0:Bool)=>(∃(n:Nat),b_1.i=(↑n:Int)/\n<=length A)->(ltb b_1.i (↑(length A):Int)=
 true->rd i64 (bLt (tOk A b.k) (rotL' A (Int.toNat b.k))) b_1.i (inR i64 (b_1.i+b.k)=true/\(!(↑(length A):Int)==0)=true/\leb 0 zz6=true/\ltb zz6 (↑(length A):Int)=true/\
 length A=length A/\length A=length A/\ltn (Int.toNat zz6) (Cont.size (Cont.ints i64 A))=true/\zz0=true/\zz0=true/\zz0=true/\zz0=true/\leb 0 b_1.i=true/\ltb b_1.i
 (↑zz2:Int)=true/\ltn 0 (Cont.size (Cont.ints u8 (bLt (tOk A b.k) (rotL' K (Int.toNat b.k)))))=true/\zz0=true/\ltn 0 (Cont.size (Cont.ints u8 zz13))=true/\zz0=true/\zz0=
 true/\zz0=true/\zz0=true/\zz0=true/\inR i64 (b_1.i+b.k)=true/\zz0=true/\zz0=true/\(!(↑(length A):Int)==0)=true/\zz0=true/\leb 0 zz6=true/\ltb zz6 (↑(length
 K):Int)=true/\length K=length K/\zz0=true/\length K=length K/\ltn (Int.toNat zz6) (Cont.size (Cont.ints u8 K))=true/\zz0=true/\(bif getD zz11 0 0 !=getD A (Int.toNat
 zz6) 0 then true else true)=true/\(bif getD zz11 0 0 !=getD A (Int.toNat zz6) 0 then true else getD zz13 0 0 !=getD K (Int.toNat zz6) 0)=false/\inR i64 (b_1.i+1)=true/\1=1/\c
 =c/\l=l/\qs u8 ks (length A=length A/\qx (ofA c l ks) (length K=length K/\ofK c ks=ofK c ks/\1=1/\length A=length A/\length K=length K/\1=1/\qs i64 (lsA A K) (qx
 zz9 (qs u8 (lsK A K) (qx zz10 (1=1/\qs i64 (bLt (tOk A b.k) (rotL' A (Int.toNat b.k))) (qx zz3 (qs u8 (bLt (tOk A b.k) (rotL' K (Int.toNat b.k))) (qx zz2 (1=1/\qs i64 (lsA (bLt (tOk A
 b.k) (rotL' A (Int.toNat b.k))) (bLt (tOk A b.k) (rotL' K (Int.toNat b.k)))) (qx zz4 (qs u8 (lsK (bLt (tOk A b.k) (rotL' A (Int.toNat b.k))) (bLt (tOk A b.k) (rotL' K (Int.toNat b.k)))) (qx
 zz5 (x=x/\0=0/\ql A (0=0/\b.f=b.f/\b.k=b.k/\0=0/\iI 0=0/\false=false/\0=0/\qs i64 (bLt (tOk A b.k) (rotL' A (Int.toNat b.k))) (qx zz3 (ql (bLt (tOk A b.k) (rotL' A
 (Int.toNat b.k))) (ql A (zz7=zz7/\1=1/\qs u8 (bLt (tOk A b.k) (rotL' K (Int.toNat b.k))) (qx zz2 (ql (bLt (tOk A b.k) (rotL' K (Int.toNat b.k))) (ql A (zz8=zz8/\0=0/\qs i64 (bLt
 (tOk A b.k) (rotL' A (Int.toNat b.k))) (qx zz3 (ql (bLt (tOk A b.k) (rotL' A (Int.toNat b.k))) (ql A (zz7=zz7/\1=1/\qs u8 (bLt (tOk A b.k) (rotL' K (Int.toNat b.k))) (qx zz2 (ql (bLt
 (tOk A b.k) (rotL' K (Int.toNat b.k))) (ql A (zz8=zz8/\qs i64 (lsA (bLt (tOk A b.k) (rotL' A (Int.toNat b.k))) (bLt (tOk A b.k) (rotL' K (Int.toNat b.k)))) (qx zz4 (qs u8 (lsK (bLt (tOk A
 b.k) (rotL' A (Int.toNat b.k))) (bLt (tOk A b.k) (rotL' K (Int.toNat b.k)))) (qx zz5 (qs i64 (lsA A K) (qx zz9 (qs u8 (lsK A K) (qx zz10 (qx zz1 ((!zz1)= !zz1/\qx (b_1.i+1) ((∃(n:
 Nat),b_1.i+1=(↑n:Int)/\n<=length A)/\length A-Int.toNat (b_1.i+1)<length A-Int.toNat b_1.i/\True)))))))))))))))))))))))))))))))))))))))))))/\(ltb b_1.i (↑(length A):
 Int)=false->(b.f=true->(qx zz3 (qx zz2 (qx zz9 (qx zz10 (length (bLt (tOk A b.k) (rotL' A (Int.toNat b.k)))=length (lsA A K)/\length (bLt (tOk A b.k) (rotL' K (Int.toNat b.k)))=
 length (lsK A K)/\length (bLt (tOk A b.k) (rotL' A (Int.toNat b.k)))<1000000000000/\length (bLt (tOk A b.k) (rotL' K (Int.toNat b.k)))<1000000000000)))))/\B3Q (bLt (tOk A b.k) (rotL'
 A (Int.toNat b.k))) (bLt (tOk A b.k) (rotL' K (Int.toNat b.k))) (lsA A K) (lsK A K)=false/\inR i64 (b.k+1)=true/\1=1/\c=c/\l=l/\qs u8 ks (length A=length A/\qx (ofA c l
 ks) (length K=length K/\ofK c ks=ofK c ks/\1=1/\length A=length A/\length K=length K/\1=1/\qs i64 (lsA A K) (qx zz9 (qs u8 (lsK A K) (qx zz10 (x=x/\0=0/\ql A (0=0/\
 true=true/\b.k+1=b.k+1/\(∃(n:Nat),b.k+1=(↑n:Int)/\n<=length A/\true=B33 A K n)/\length A-Int.toNat (b.k+1)<length A-Int.toNat b.k/\True))))))))/\(b.f=
 false->(qx zz3 (qx zz2 (qx zz9 (qx zz10 (qx zz3 (qx zz2 (length (bLt (tOk A b.k) (rotL' A (Int.toNat b.k)))=length (lsA A K)/\length (bLt (tOk A b.k) (rotL' K (Int.toNat b.k)))=length
 (lsK A K)/\length (bLt (tOk A b.k) (rotL' A (Int.toNat b.k)))<1000000000000/\length (bLt (tOk A b.k) (rotL' K (Int.toNat b.k)))<1000000000000)))))))/\(qx zz3 (qx zz2 (qx zz9 (qx zz10
 (length (bLt (tOk A b.k) (rotL' A (Int.toNat b.k)))=length (lsA A K)/\length (bLt (tOk A b.k) (rotL' K (Int.toNat b.k)))=length (lsK A K)/\length (bLt (tOk A b.k) (rotL' A (Int.toNat
 b.k)))<1000000000000/\length (bLt (tOk A b.k) (rotL' K (Int.toNat b.k)))<1000000000000)))))/\B3Q (bLt (tOk A b.k) (rotL' A (Int.toNat b.k))) (bLt (tOk A b.k) (rotL' K (Int.toNat
 b.k))) (lsA A K) (lsK A K)=false/\inR i64 (b.k+1)=true/\1=1/\c=c/\l=l/\qs u8 ks (length A=length A/\qx (ofA c l ks) (length K=length K/\ofK c ks=ofK c ks/\1=1/\
 length A=length A/\length K=length K/\1=1/\qs i64 (lsA A K) (qx zz9 (qs u8 (lsK A K) (qx zz10 (x=x/\0=0/\ql A (0=0/\qx zz12 (b.k+1=b.k+1/\(∃(n:Nat),b.k+1=(↑n
 :Int)/\n<=length A/\zz12=B33 A K n)/\length A-Int.toNat (b.k+1)<length A-Int.toNat b.k/\True))))))))))) (!getD zz11 0 0 !=getD A (Int.toNat zz6) 0)) (Int.tmod (b_1.i+b.k)
 (↑(length A):Int))) (drop (Int.toNat b_1.i) (bLt (tOk A b.k) (rotL' A (Int.toNat b.k))))) (drop (Int.toNat b_1.i) (bLt (tOk A b.k) (rotL' K (Int.toNat
 b.k)))))))))))))))))))))))))))))))))))))))))))))/\(ltb b.k (↑(length A):Int)=false->length A=length A/\length K=length K/\(length A=length A/\length K=length K/\length A<
 100000000000/\chk A K=0)/\(leb 0 x=true->(ltb x (↑(length A):Int)=true->b.f=true/\(true==(bI (tOk A x) 0 1==0))=true/\true=true/\True)/\(ltb x (↑(length A):Int)=
 false->b.f=true/\((x==0)==(bI (tOk A x) 0 1==0))=true/\((x==0)=true->true=true/\True)/\((x==0)=false->(bI (tOk A x) 0 1==1)=true/\zz14=true/\true=true/\
 True)))/\(leb 0 x=false->b.f=true/\(false==(bI (tOk A x) 0 1==0))=true/\(bI (tOk A x) 0 1==1)=true/\zz14=true/\true=true/\True))) (eqB (lsA (bLt (tOk A b.k) (rotL' A
 (Int.toNat b.k))) (bLt (tOk A b.k) (rotL' K (Int.toNat b.k)))) (lsA A K)&&eqB (lsK (bLt (tOk A b.k) (rotL' A (Int.toNat b.k))) (bLt (tOk A b.k) (rotL' K (Int.toNat b.k)))) (lsK A K)))
 ((↑zz2:Int) !=(↑(length A):Int))) (length (bLt (tOk A b.k) (rotL' K (Int.toNat b.k))))) ((↑zz3:Int) !=(↑(length A):Int))) (length (bLt (tOk A b.k) (rotL' A (Int.toNat b.k)))))
 (length (lsA (bLt (tOk A b.k) (rotL' A (Int.toNat b.k))) (bLt (tOk A b.k) (rotL' K (Int.toNat b.k)))))) (length (lsK (bLt (tOk A b.k) (rotL' A (Int.toNat b.k))) (bLt (tOk A b.k) (rotL' K
 (Int.toNat b.k)))))) (eqB (bLt (tOk A b.k) (rotL' A (Int.toNat b.k))) (lsA A K)&&eqB (bLt (tOk A b.k) (rotL' K (Int.toNat b.k))) (lsK A K))))))))))) (length (lsA A K))) (length (lsK A K)))
 ((↑(length (bLt (tOk A x) (rotL' A (Int.toNat x)))):Int)==0)) (ofA c l ks) (ofK c ks)):=by kernel_rfl
set_option linter.unusedSimpArgs false
theorem D4p (a k oa ok x y:List Int)(h1:x.length<1000000000)(h2:y.length<1000000000)(h3:oa.length<1000000000)(h4:ok.length<1000000000):SpecD Tryz.prog G (.yld 9002) [A89 x y] (H28 a k oa ok) (.bool true) [(133,B0o (A4G (ltF x y oa ok) x oa) (A4G (ltF x y oa ok) y ok))] []:=by
 refine B2E hcm hmx D2F (C07 a k oa ok x y) ?_;dsimp -failIfUnchanged -proj -eta -iota -zeta only[rd,rdw,qs,ql,qx];have e1:ltb (orI (A1d x oa) (A1d y ok)) 0=ltF x y oa ok:=rfl;rw[e1];cases hc:ltF x y oa ok<;>simp[A4G]<;>omega
theorem C4M (a k:List Int):B7i Tryz.prog G (C8a a k):=by
 intro h cv args r hr hp;unfold C8a at hr;split at hr
 ·rename_i id x n c y m d oa _ _ ok _ _ _ _ _ _ _ _ hh;rw[cond_eq_ite]at hr;split at hr
  ·rename_i hid;cases hr;obtain⟨rfl,rfl,rfl,rfl,rfl,h1,h2,h3,h4⟩:=hp;have:=Nat.eq_of_beq_eq_true hid;subst this;exact D4p a k _ _ _ _ h1 h2 h3 h4
  ·cases hr
 ·cases hr
theorem C4N (a k:List Int):TabOk Tryz.prog G (D2o a k):=A0m (C4M a k) ⟨C4F,C4G,trivial⟩
theorem C09 {x y oa ok:List Int}(h:x.length=oa.length):ltF x y oa ok=true↔A1d (x++y) (oa++ok)<0:=by
 unfold ltF orI;rw[A0n,B2N h]
theorem B0y {a k:List Int}{n:Nat}:A4G (ltF (rotL' a n) (rotL' k n) (rotL' a (A1e (trn a k) n)) (rotL' k (A1e (trn a k) n))) (rotL' a n) (rotL' a (A1e (trn a k) n))=rotL' a (A1e (trn a k) (n+1))/\A4G (ltF (rotL' a n) (rotL' k n) (rotL' a (A1e (trn a k) n)) (rotL' k (A1e (trn a k) n))) (rotL' k n) (rotL' k (A1e (trn a k) n))=rotL' k (A1e (trn a k) (n+1)):=by
 have hl:=C09 (x:=rotL' a n) (y:=rotL' k n) (oa:=rotL' a (A1e (trn a k) n)) (ok:=rotL' k (A1e (trn a k) n)) (by rw[A1i,A1i]);have e:A1e (trn a k) (n+1)=if A1d (trn a k n) (trn a k (A1e (trn a k) n))<0 then n else A1e (trn a k) n:=by
  conv=>lhs;unfold A1e
 rw[e];have e2:A1d (trn a k n) (trn a k (A1e (trn a k) n))=A1d (rotL' a n++rotL' k n) (rotL' a (A1e (trn a k) n)++rotL' k (A1e (trn a k) n)):=rfl;rw[e2];cases hc:ltF (rotL' a n) (rotL' k n) (rotL' a (A1e (trn a k) n)) (rotL' k (A1e (trn a k) n))with
 |true=>rw[if_pos (hl.1 hc)];exact⟨rfl,rfl⟩
 |false=>rw[if_neg (fun h=>by rw[hl.2 h]at hc;cases hc)];exact⟨rfl,rfl⟩
theorem D4q (a k:List Int)(hk:k.length=a.length)(hz:a.length<1000000000):SpecD Tryz.prog G (.fn 108 [] []) [.yld 9002,.iptr (B1w a k)] (H28 a k (rotL' a 0) (rotL' k 0)) (.tup []) [(133,B0o (lsA a k) (lsK a k))] []:=by
 refine A1I hcm hmx (C4N a k) C2w rfl (C08 a k) ?_;dsimp -failIfUnchanged -proj -eta -iota -zeta only[rd,rdw,qs,ql,qx];simp only[A0n,A0K,A0H,A09,A0Q,A1x,A0E,A03,A0w,A1t,A1q,A0F,A0I,A0r,A0J,A0G,List.getElem?_drop,beq_iff_eq,beq_eq_false_iff_ne,bne_iff_ne,bne_eq_false_iff_eq,ne_eq,Nat.zero_add,Nat.add_zero,Nat.mul_one,Int.toNat_natCast,and_true,true_and,List.length_drop,List.length_append,List.length_cons,List.length_nil,List.length_set,List.getD_eq_getElem?_getD,implies_true,iI,iL,Bool.not_eq_true',Bool.not_eq_false',Int.natCast_inj];refine⟨⟨0,rfl,by omega,rfl,rfl⟩,?_⟩;rintro⟨i,oa,ok⟩ ⟨n,rfl,hn,rfl,rfl⟩;simp only[Int.toNat_natCast,A1i];refine⟨fun hlt=>⟨by omega,by omega,by omega,by omega,⟨n+1,by omega,by omega,B0y.1,B0y.2⟩,by omega⟩,fun hge=>?_⟩;obtain rfl:n=a.length:=by omega
 have e1:rotL' a (A1e (trn a k) a.length)=lsA a k:=rfl;have e2:rotL' k (A1e (trn a k) a.length)=lsK a k:=rfl;have l1:=congrArg List.length e1;have l2:=congrArg List.length e2;rw[A1i]at l1 l2;rw[e1,e2];exact⟨rfl,l1,l1,rfl,l2,l2⟩
theorem C4O (a k:List Int):B7i Tryz.prog G (C8b a k):=by
 intro h cv args r hr hp;unfold C8b at hr;split at hr
 ·rename_i f id c;rw[cond_eq_ite]at hr;split at hr
  ·rename_i hi;rw[Bool.and_eq_true]at hi;have e1:=Nat.eq_of_beq_eq_true hi.1;have e2:=Nat.eq_of_beq_eq_true hi.2;subst e1;subst e2;cases hr;obtain⟨rfl,ha,h1,h2⟩:=hp;rw[ha];exact D4q a k h1 h2
  ·cases hr
 ·cases hr
theorem C9k (a k:List Int):TabOk Tryz.prog G (T28 a k):=A0m (C4O a k) ⟨C0X,D4o,C9c⟩
theorem D4r (a k:List Int)(hl:a.length<1000000000)(hc:chk a k=0):SpecP Tryz.prog G 44 [A3T a k] (.tup [A89 (lsA a k) (lsK a k),.int .i64 0]) []:=by
 refine A0d hcm hmx (C9k a k) D09 rfl (C4L a k) ?_;dsimp -failIfUnchanged -proj -eta -iota -zeta only[rd,rdw,qs,ql,qx];have hk:=B58 hc;have e:tOk a 0=true:=by unfold tOk;rw[decide_eq_true_eq];omega
 simp only[e,bLt,bI,cond_true];refine⟨⟨trivial,trivial,by omega,hc⟩,fun h=>absurd h (by decide),fun _=>⟨⟨trivial,trivial⟩,⟨trivial,trivial,hk.symm,hl⟩,trivial,trivial,trivial,trivial,trivial,trivial,trivial,trivial⟩⟩
theorem D4s:A06 Tryz.prog G 44 e28:=by
 intro args r h hp;unfold e28 at h;split at h<;>cases h;obtain⟨rfl,rfl,h1,h2⟩:=hp;exact(D4r _ _ h1 h2).caps
theorem B6b {x y:Int}{a b:List Int}:A1d (x::a) (y::b)=if x=y then A1d a b else if x<y then -1 else 1:=by
 simp only[A1d]
 by_cases h:x=y
 ·rw[if_pos h,if_neg (by omega),if_neg (by omega)]
 ·rw[if_neg h]
  by_cases h2:x<y
  ·rw[if_pos h2,if_pos h2]
  ·rw[if_neg h2,if_pos (by omega),if_neg h2]
theorem D4t (a k b j:List Int)(h1:a.length=b.length)(h2:k.length=j.length)(hz:a.length<1000000000000)(hk:k.length<1000000000000):SpecP Tryz.prog G 45 [A3T a k,A3T b j] (.bool (B3Q a k b j)) []:=by
 refine A0d hcm hmx A26 D1b rfl (C4m a k b j) ?_;dsimp -failIfUnchanged -proj -eta -iota -zeta only[rd,rdw,qs,ql,qx];simp only[A0n,A0K,A0H,A09,A0Q,A1x,A0E,A03,A0w,A1t,A1q,A0F,A0I,A0r,A0J,A0G,List.getElem?_drop,beq_iff_eq,beq_eq_false_iff_ne,bne_iff_ne,bne_eq_false_iff_eq,ne_eq,Nat.zero_add,Nat.add_zero,Nat.mul_one,Int.toNat_natCast,and_true,true_and,List.length_drop,List.length_append,List.length_cons,List.length_nil,List.length_set,List.getD_eq_getElem?_getD,implies_true,iI,iL,Bool.not_eq_true',Bool.not_eq_false',Int.natCast_inj];refine⟨⟨0,rfl,by omega,rfl⟩,?_⟩;rintro⟨i⟩ ⟨n,rfl,hn,hi⟩;simp only[Int.toNat_natCast]at hi ⊢;refine⟨fun hlt=>?_,fun hge=>⟨⟨0,rfl,by omega,?_⟩,?_⟩⟩
 ·rw[A07 (show n<a.length by omega),A07 (show n<b.length by omega),List.cons_append,List.cons_append,B6b]at hi;refine⟨by omega,by omega,by omega,by omega,by omega,by omega,by omega,by omega,fun he=>⟨by omega,by omega,by omega,by omega,by omega,by omega,by omega,by omega,?_⟩,fun he=>⟨by omega,⟨n+1,by omega,by omega,?_⟩,by omega⟩⟩
  ·rw[if_neg he]at hi;unfold B3Q;rw[<- hi,Bool.eq_iff_iff,A0n,A0n];split<;>omega
  ·rw[if_pos he]at hi;exact hi
 ·rw[<- hi,List.drop_of_length_le (show a.length<=n by omega),List.drop_of_length_le (show b.length<=n by omega)];rfl
 ·rintro⟨i2⟩ ⟨m,rfl,hm,hj⟩;simp only[Int.toNat_natCast]at hj ⊢;refine⟨fun hl2=>?_,fun hg2=>?_⟩
  ·rw[A07 (show m<k.length by omega),A07 (show m<j.length by omega),B6b]at hj;refine⟨by omega,by omega,by omega,by omega,by omega,by omega,by omega,by omega,fun he=>⟨by omega,by omega,by omega,by omega,by omega,by omega,by omega,by omega,?_⟩,fun he=>⟨by omega,⟨m+1,by omega,by omega,?_⟩,by omega⟩⟩
   ·rw[if_neg he]at hj;unfold B3Q;rw[<- hj,Bool.eq_iff_iff,A0n,A0n];split<;>omega
   ·rw[if_pos he]at hj;exact hj
  ·rw[List.drop_of_length_le (show k.length<=m by omega),List.drop_of_length_le (show j.length<=m by omega)]at hj;unfold B3Q;rw[<- hj];rfl
theorem D4u:A06 Tryz.prog G 45 e29:=by
 intro args r h hp;unfold e29 at h;split at h<;>cases h;obtain⟨rfl,rfl,rfl,rfl,h1,h2,h3,h4⟩:=hp;exact(D4t _ _ _ _ h1 h2 h3 h4).caps
end Go.Proofs.YtfafinkgmhkdmaaGreatDoor.X
