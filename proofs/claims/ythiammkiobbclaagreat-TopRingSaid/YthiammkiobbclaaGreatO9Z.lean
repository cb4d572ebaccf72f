/-
 What is to be shown of the functions (made by a program).
-/
import Derived.Test.YthiammkiobbclaaGreatD9Z
import Derived.KernelRfl
set_option maxRecDepth 1000000
set_option linter.unusedVariables false
namespace Go.Proofs.YthiammkiobbclaaGreat.X
open Go Go.Ab
open List IntKind

theorem ob_d_58 (a k r o:List Int)(L:List (List Int)):fnD (TG a k r (o.length+1)) G 10000 (fe27) (.r [] 0 (.r [] 2 (.rs 4 [] 3 17 (.r [] 3 (.lit .nil)) (.r [] 27 (.cnd .nil (.r [] 1 (.cnd (.r [] 0 (.lp (l58 a k r o L) [] [] (fun b=>(.r [] 0 (.cnd (.r [] 0 (.r [(518,.auto,Dr.heap),(519,.auto,Dr.heap)] 1 (.r [] 0 .nil))) .nil))))) (.r [] 1 (.r [] 1 (.cnd (.r [] 1 (.r [] 25 .nil)) .nil)))))))))) ([immN .i64 o,.ptr 64 0,.ptr 256 0,.ptr 129 0,.ptr 192 0]) (hpG a k r L) ([]) (wsG (grwO a.length r k L o))=(
 (fun(zz1:Nat)=>(fun(zz0:Bool)=>(length o=length o∧okO o)∧(cok a k r (length a) (length k) (length r)∧length a≤8∧length r=length a+1)∧(crsB (length a) r (rkL o)=
 true→length L=length (grwO (length a) r k L o)∧outV L=outV (grwO (length a) r k L o)∧1=1∧length L=length (grwO (length a) r k L o)∧0=0∧fnE L=fnE (grwO (length a) r k
 L o)∧fnK L=fnK (grwO (length a) r k L o)∧1=1∧1=1∧0=0∧0=0∧0=0∧0=0∧1=1∧qs i64 a (qs u8 k (qs i64 r (True))))∧(crsB (length a) r (rkL o)=false→(cok a k r
 (length a) (length k) (length r)∧length a≤8∧length k=length a)∧(wrgB k (rkL o)=true→length L=length (grwO (length a) r k L o)∧outV L=outV (grwO (length a) r k L o)∧1=
 1∧length L=length (grwO (length a) r k L o)∧0=0∧fnE L=fnE (grwO (length a) r k L o)∧fnK L=fnK (grwO (length a) r k L o)∧1=1∧1=1∧0=0∧0=0∧0=0∧0=0∧1=
 1∧qs i64 a (qs u8 k (qs i64 r (True))))∧(wrgB k (rkL o)=false→(ltb (↑(length o):Int) (↑(length a):Int)=true→inR i64 ((↑(length o):Int)+1)=true∧length L=length (unO
 (outV L))∧outV L=outV (unO (outV L))∧1=1∧length L=length (unO (outV L))∧0=0∧fnE L=fnE (unO (outV L))∧fnK L=fnK (unO (outV L))∧1=1∧1=1∧0=0∧0=0∧0=0
 ∧0=0∧1=1∧qs i64 a (qs u8 k (qs i64 r (8=8∧(rkL o)=(rkL o)∧qs i64 o (0=0∧ql o (qx ((↑(length o):Int)+1) (iI 0=0∧(∃(m:Nat),0=(↑m:Int)∧m≤length o+1∧
 unO (outV L)=grwM (length a) r k L o m∧okL a (unO (outV L)))∧∀(b:L58),(∃(m:Nat),b.i=(↑m:Int)∧m≤length o+1∧b.L=grwM (length a) r k L o m∧okL a b.L)→(ltb b.i
 ((↑(length o):Int)+1)=true→(length o=length o∧0<length o∧length o<100000000000)∧([(517,HO.blk (Blk.mk (Cont.ints i64 [(↑(length o):Int)]) 1 1 (some 1) (some false)
 true false)),(32896,HO.blk (Blk.mk (Cont.ints i64 o) 1 (length o) none (some false) true false))]=[(517,HO.blk (Blk.mk (Cont.ints i64 [(↑(length o):Int)]) 1 1 (some 1) (some false)
 true false)),(32896,HO.blk (Blk.mk (Cont.ints i64 o) 1 (length o) none (some false) true false))]∧length o=length o∧1=1∧0<length o∧length o<1000000∧0≤b.i∧b.i≤
 (↑(length o):Int))∧([(9700,HO.blk (Blk.mk (Cont.vals (outV b.L)) 1 (length b.L) none (some true) true false)),(192,HO.blk (Blk.mk (Cont.cells [AV.full 9700 (length b.L)]) 1 1 none
 (some false) true true)),(128,HO.blk (Blk.mk (Cont.maps (MV.mk true [some i64,some i64,some i64,some i64,some i64,some i64,some i64,some i64]) (MV.mk false [none]) (fnE b.L) (fnK
 b.L)) 1 0 none (some false) true true)),(129,HO.blk (Blk.mk (Cont.cells [AV.mp 128]) 1 1 none (some false) true true)),(256,HO.blk (Blk.mk (Cont.cells [AV.fn 27 [] [AV.ptr 64 0,AV.ptr
 256 0,AV.ptr 129 0,AV.ptr 192 0]]) 1 1 none (some false) true true)),(64,HO.blk (Blk.mk (Cont.cells [AV.imm (Cont.ints i64 a) (length a) none,AV.imm (Cont.ints u8 k) (length k) none,
 AV.imm (Cont.ints i64 r) (length r) none]) 3 1 none (some false) true true))]=[(9700,HO.blk (Blk.mk (Cont.vals (outV (unO (outV b.L)))) 1 (length (unO (outV b.L))) none (some true) true
 false)),(192,HO.blk (Blk.mk (Cont.cells [AV.full 9700 (length (unO (outV b.L)))]) 1 1 none (some false) true true)),(128,HO.blk (Blk.mk (Cont.maps (MV.mk true [some i64,some i64,some
 i64,some i64,some i64,some i64,some i64,some i64]) (MV.mk false [none]) (fnE (unO (outV b.L))) (fnK (unO (outV b.L)))) 1 0 none (some false) true true)),(129,HO.blk (Blk.mk
 (Cont.cells [AV.mp 128]) 1 1 none (some false) true true)),(256,HO.blk (Blk.mk (Cont.cells [AV.fn 27 [] [AV.ptr 64 0,AV.ptr 256 0,AV.ptr 129 0,AV.ptr 192 0]]) 1 1 none (some false) true
 true)),(64,HO.blk (Blk.mk (Cont.cells [AV.imm (Cont.ints i64 a) (length a) none,AV.imm (Cont.ints u8 k) (length k) none,AV.imm (Cont.ints i64 r) (length r) none]) 3 1 none (some false)
 true true))]∧qx (length (insA o (Int.toNat b.i) (↑(length o):Int))) (length (insA o (Int.toNat b.i) (↑(length o):Int))=length o+1∧length o+1≤length a∧0<length o+1∧okG
 (insA o (Int.toNat b.i) (↑(length o):Int))∧okL a (unO (outV b.L))))∧inR i64 (b.i+1)=true∧length (grwO (length a) r k (unO (outV b.L)) (insA o (Int.toNat b.i) (↑(length o):
 Int)))=length (unO (outV (grwO (length a) r k (unO (outV b.L)) (insA o (Int.toNat b.i) (↑(length o):Int)))))∧outV (grwO (length a) r k (unO (outV b.L)) (insA o (Int.toNat b.i)
 (↑(length o):Int)))=outV (unO (outV (grwO (length a) r k (unO (outV b.L)) (insA o (Int.toNat b.i) (↑(length o):Int)))))∧1=1∧length (grwO (length a) r k (unO (outV b.L)) (insA o
 (Int.toNat b.i) (↑(length o):Int)))=length (unO (outV (grwO (length a) r k (unO (outV b.L)) (insA o (Int.toNat b.i) (↑(length o):Int)))))∧0=0∧fnE (grwO (length a) r k (unO (outV
 b.L)) (insA o (Int.toNat b.i) (↑(length o):Int)))=fnE (unO (outV (grwO (length a) r k (unO (outV b.L)) (insA o (Int.toNat b.i) (↑(length o):Int)))))∧fnK (grwO (length a) r k (unO
 (outV b.L)) (insA o (Int.toNat b.i) (↑(length o):Int)))=fnK (unO (outV (grwO (length a) r k (unO (outV b.L)) (insA o (Int.toNat b.i) (↑(length o):Int)))))∧1=1∧1=1∧0=0∧0=
 0∧0=0∧0=0∧1=1∧qs i64 a (qs u8 k (qs i64 r (8=8∧(rkL o)=(rkL o)∧qs i64 o (0=0∧ql o (qx ((↑(length o):Int)+1) (b.i+1=b.i+1∧(∃(m:Nat),b.i+1=(↑m:
 Int)∧m≤length o+1∧unO (outV (grwO (length a) r k (unO (outV b.L)) (insA o (Int.toNat b.i) (↑(length o):Int))))=grwM (length a) r k L o m∧okL a (unO (outV (grwO (length a) r k
 (unO (outV b.L)) (insA o (Int.toNat b.i) (↑(length o):Int))))))∧length o+1-Int.toNat (b.i+1)<length o+1-Int.toNat b.i∧True)))))))∧(ltb b.i ((↑(length o):Int)+1)=
 false→length b.L=length (grwO (length a) r k L o)∧outV b.L=outV (grwO (length a) r k L o)∧1=1∧length b.L=length (grwO (length a) r k L o)∧0=0∧fnE b.L=fnE (grwO
 (length a) r k L o)∧fnK b.L=fnK (grwO (length a) r k L o)∧1=1∧1=1∧0=0∧0=0∧0=0∧0=0∧1=1∧qs i64 a (qs u8 k (qs i64 r (True)))))))))))∧(ltb (↑(length o):
 Int) (↑(length a):Int)=false→(cok a k r (length a) (length k) (length r)∧length o=length o∧okO o∧length o<length r∧length r≤9)∧(qx zz1 (okO (leastL r o)))∧(zz0=true
 →(qx zz1 (okO (leastL r o)))∧length L=length L∧len' ((length L+1)*24) 140737488355328=true∧length L+1=length (grwO (length a) r k L o)∧outV L++[AV.imm (Cont.ints i64
 (leastL r o)) zz1 (some zz1)]=outV (grwO (length a) r k L o)∧1=1∧length L+1=length (grwO (length a) r k L o)∧0=0∧mput (fnE L) (rkL (leastL r o)) [1] (fnK L)=fnE (grwO
 (length a) r k L o)∧mck (fnE L) (rkL (leastL r o)) (fnK L)=fnK (grwO (length a) r k L o)∧1=1∧1=1∧0=0∧0=0∧0=0∧0=0∧1=1∧qs i64 a (qs u8 k (qs i64 r (True))))∧
 (zz0=false→length L=length (grwO (length a) r k L o)∧outV L=outV (grwO (length a) r k L o)∧1=1∧length L=length (grwO (length a) r k L o)∧0=0∧fnE L=fnE (grwO (length
 a) r k L o)∧fnK L=fnK (grwO (length a) r k L o)∧1=1∧1=1∧0=0∧0=0∧0=0∧0=0∧1=1∧qs i64 a (qs u8 k (qs i64 r (True)))))))) (!getD (Option.getD (mget (fnE L) (rkL
 (leastL r o))) []) 0 0 !=0)) (length (leastL r o))):=by kernel_rfl

theorem ob_d_58n (a k r:List Int):fnD (TGn a k r) G 10000 (fe27) (.r [] 0 (.r [] 3 (.rs 4 [] 3 17 (.r [] 3 (.lit .nil)) (.r [] 27 (.cnd .nil (.r [] 1 (.cnd (.r [] 1 (.un (.r [] 0 (.lit (.r [] 0 (.r [(518,.auto,Dr.heap),(519,.auto,Dr.heap)] 3 (.r [] 1 (.un (.r [] 0 (.lit .nil)))))))))) (.r [] 1 (.r [] 1 (.lit (.r [] 1 (.r [] 31 .nil)))))))))))) ([.nils,.ptr 64 0,.ptr 256 0,.ptr 129 0,.ptr 192 0]) (hpG a k r []) ([]) (wsG (grwO a.length r k [] []))=(
 (cok a k r (length a) (length k) (length r)∧length a≤8∧length r=length a+1)∧(crsB (length a) r [-1,-1,-1,-1,-1,-1,-1,-1]=true→0=length (grwO (length a) r k [] [])∧
 []=outV (grwO (length a) r k [] [])∧1=1∧0=length (grwO (length a) r k [] [])∧0=0∧[]=fnE (grwO (length a) r k [] [])∧0=fnK (grwO (length a) r k [] [])∧1=1∧1=1∧
 0=0∧0=0∧0=0∧0=0∧1=1∧qs i64 a (qs u8 k (qs i64 r (True))))∧(crsB (length a) r [-1,-1,-1,-1,-1,-1,-1,-1]=false→(cok a k r (length a) (length k) (length r)∧
 length a≤8∧length k=length a)∧(wrgB k [-1,-1,-1,-1,-1,-1,-1,-1]=true→0=length (grwO (length a) r k [] [])∧[]=outV (grwO (length a) r k [] [])∧1=1∧0=length
 (grwO (length a) r k [] [])∧0=0∧[]=fnE (grwO (length a) r k [] [])∧0=fnK (grwO (length a) r k [] [])∧1=1∧1=1∧0=0∧0=0∧0=0∧0=0∧1=1∧qs i64 a (qs u8 k
 (qs i64 r (True))))∧(wrgB k [-1,-1,-1,-1,-1,-1,-1,-1]=false→(ltb 0 (↑(length a):Int)=true→([(517,HO.blk (Blk.mk (Cont.ints i64 [0]) 1 1 (some 1) (some false) true
 false))]=[(517,HO.blk (Blk.mk (Cont.ints i64 [0]) 1 1 (some 1) (some false) true false))]∧1=1∧iI 0=0)∧([(9700,HO.blk (Blk.mk (Cont.vals []) 1 0 none (some true) true false)),
 (192,HO.blk (Blk.mk (Cont.cells [AV.full 9700 0]) 1 1 none (some false) true true)),(128,HO.blk (Blk.mk (Cont.maps (MV.mk true [some i64,some i64,some i64,some i64,some i64,some i64,
 some i64,some i64]) (MV.mk false [none]) [] 0) 1 0 none (some false) true true)),(129,HO.blk (Blk.mk (Cont.cells [AV.mp 128]) 1 1 none (some false) true true)),(256,HO.blk (Blk.mk
 (Cont.cells [AV.fn 27 [] [AV.ptr 64 0,AV.ptr 256 0,AV.ptr 129 0,AV.ptr 192 0]]) 1 1 none (some false) true true)),(64,HO.blk (Blk.mk (Cont.cells [AV.imm (Cont.ints i64 a) (length a)
 none,AV.imm (Cont.ints u8 k) (length k) none,AV.imm (Cont.ints i64 r) (length r) none]) 3 1 none (some false) true true))]=[(9700,HO.blk (Blk.mk (Cont.vals []) 1 0 none (some true) true
 false)),(192,HO.blk (Blk.mk (Cont.cells [AV.full 9700 0]) 1 1 none (some false) true true)),(128,HO.blk (Blk.mk (Cont.maps (MV.mk true [some i64,some i64,some i64,some i64,some i64,
 some i64,some i64,some i64]) (MV.mk false [none]) [] 0) 1 0 none (some false) true true)),(129,HO.blk (Blk.mk (Cont.cells [AV.mp 128]) 1 1 none (some false) true true)),(256,HO.blk
 (Blk.mk (Cont.cells [AV.fn 27 [] [AV.ptr 64 0,AV.ptr 256 0,AV.ptr 129 0,AV.ptr 192 0]]) 1 1 none (some false) true true)),(64,HO.blk (Blk.mk (Cont.cells [AV.imm (Cont.ints i64 a)
 (length a) none,AV.imm (Cont.ints u8 k) (length k) none,AV.imm (Cont.ints i64 r) (length r) none]) 3 1 none (some false) true true))]∧1=1∧1=1∧1≤length a∧0<1∧okG [0]∧okL
 a [])∧length (grwO (length a) r k [] [0])=length (grwO (length a) r k [] [])∧outV (grwO (length a) r k [] [0])=outV (grwO (length a) r k [] [])∧1=1∧length (grwO (length a) r k
 [] [0])=length (grwO (length a) r k [] [])∧0=0∧fnE (grwO (length a) r k [] [0])=fnE (grwO (length a) r k [] [])∧fnK (grwO (length a) r k [] [0])=fnK (grwO (length a) r k [] [])
 ∧1=1∧1=1∧0=0∧0=0∧0=0∧0=0∧1=1∧qs i64 a (qs u8 k (qs i64 r (True))))∧(ltb 0 (↑(length a):Int)=false→cok a k r (length a) (length k) (length r)∧(0=0∧
 okO [])∧(0=0∧okO [])∧1=length (grwO (length a) r k [] [])∧[AV.imm (Cont.ints i64 []) 0 (some 0)]=outV (grwO (length a) r k [] [])∧1=1∧1=length (grwO (length a) r k []
 [])∧0=0∧[([-1,-1,-1,-1,-1,-1,-1,-1],[1],0)]=fnE (grwO (length a) r k [] [])∧1=fnK (grwO (length a) r k [] [])∧1=1∧1=1∧0=0∧0=0∧0=0∧0=0∧1=1∧
 qs i64 a (qs u8 k (qs i64 r (True))))))):=by kernel_rfl

theorem ob_o60z (a k r:List Int):fnP (T60z) G 10000 fe33 (.r [] 0 (.r [] 3 (.r [] 7 (.un (.r [] 1 (.lit (.r [] 0 (.frz 4 1 .nil)))))))) ([conV a k r,.nils]) ([immL .i64 []]) ([])=(
 Cont.ints i64 []=Cont.ints i64 []∧0=0∧0=0∧True):=by kernel_rfl

theorem ob_o41n:fnP (T0) G 10000 fe32 (.r [] 0 (.r [] 0 (.lit (.r [] 0 .nil)))) ([.nils]) ([.nils]) ([])=(
 True):=by kernel_rfl

theorem ob_o38c (a k r:List Int):fnP (TW a k r) G 10000 fe17 (.r [] 0 (.r [] 1 (.r [] 0 (.r [] 0 (.ghc 192 0 9700 1 (Cont.vals []) (.jn (j38) [1,3] [] (.r [] 1 .nil) (fun b=>(.r [(385,.auto,Dr.heap)] 1 (.r [(449,.auto,Dr.heap)] 1 (.r [] 1 (.frz 2 0 .nil))))))))))) ([conV a k r]) ([.imm (.vals (outV (waysL a.length r k))) (waysL a.length r k).length none]) ([])=(
 (1=1∧qs i64 a (qs u8 k (qs i64 r (0=0∧([]:List (List Int×List Int×Nat))=[]∧0=0∧1=1∧1=1∧0=0∧1=1∧0=0∧0=0∧0=0∧0=0∧0=0∧([]:List AV)=
 []∧0=0∧0=0∧True∧True))))∧∀(b:Unit),True→([(9700,HO.blk (Blk.mk (Cont.vals []) 1 0 none (some true) true false)),(192,HO.blk (Blk.mk (Cont.cells [AV.full 9700 0]) 1 1
 none (some false) true true)),(128,HO.blk (Blk.mk (Cont.maps (MV.mk true [some i64,some i64,some i64,some i64,some i64,some i64,some i64,some i64]) (MV.mk false [none]) [] 0) 1 0
 none (some false) true true)),(129,HO.blk (Blk.mk (Cont.cells [AV.mp 128]) 1 1 none (some false) true true)),(256,HO.blk (Blk.mk (Cont.cells [AV.fn 27 [] [AV.ptr 64 0,AV.ptr 256 0,
 AV.ptr 129 0,AV.ptr 192 0]]) 1 1 none (some false) true true)),(64,HO.blk (Blk.mk (Cont.cells [AV.imm (Cont.ints i64 a) (length a) none,AV.imm (Cont.ints u8 k) (length k) none,AV.imm
 (Cont.ints i64 r) (length r) none]) 3 1 none (some false) true true))]=[(9700,HO.blk (Blk.mk (Cont.vals []) 1 0 none (some true) true false)),(192,HO.blk (Blk.mk (Cont.cells [AV.full
 9700 0]) 1 1 none (some false) true true)),(128,HO.blk (Blk.mk (Cont.maps (MV.mk true [some i64,some i64,some i64,some i64,some i64,some i64,some i64,some i64]) (MV.mk false [none])
 [] 0) 1 0 none (some false) true true)),(129,HO.blk (Blk.mk (Cont.cells [AV.mp 128]) 1 1 none (some false) true true)),(256,HO.blk (Blk.mk (Cont.cells [AV.fn 27 [] [AV.ptr 64 0,AV.ptr
 256 0,AV.ptr 129 0,AV.ptr 192 0]]) 1 1 none (some false) true true)),(64,HO.blk (Blk.mk (Cont.cells [AV.imm (Cont.ints i64 a) (length a) none,AV.imm (Cont.ints u8 k) (length k) none,
 AV.imm (Cont.ints i64 r) (length r) none]) 3 1 none (some false) true true))]∧okN a k r)∧([(9700,HO.blk (Blk.mk (Cont.vals (outV (grwO (length a) r k [] []))) 1 (length (grwO (length a)
 r k [] [])) none (some true) true false))]=[(9700,HO.blk (Blk.mk (Cont.vals (outV (unO (outV (grwO (length a) r k [] []))))) 1 (length (unO (outV (grwO (length a) r k [] [])))) none (some
 true) true false))]∧length (grwO (length a) r k [] [])=length (unO (outV (grwO (length a) r k [] [])))∧okL a (unO (outV (grwO (length a) r k [] []))))∧length (unO (outV (grwO (length
 a) r k [] [])))=length (grwO (length a) r k [] [])∧Cont.vals (outV (srtL (unO (outV (grwO (length a) r k [] [])))))=Cont.vals (outV (waysL (length a) r k))∧length (grwO (length a) r
 k [] [])=length (waysL (length a) r k)∧True):=by kernel_rfl

theorem ob_o16c (a k:List Int):fnP (TC) G 10000 fe7 (.r [] 0 (.r [] 29 (.r [] 0 (.r [] 0 (.cnd (.r [] 1 .nil) (.r [] 0 (.cnd (.r [] 0 .nil) (.r [] 0 .nil)))))))) ([fanV a k]) ([.int .i64 ((cwL a k).length:Nat),.int .i64 (cntE a k)]) ([])=(
 (length a=length a∧length k=length k∧length a<1000000)∧((ofE a k==0)=true→(cok (bLs (altS a k) a) (bLs (altS a k) k) (bLs (altS a k) (raysL a)) (length (bLs (altS a k) a)) (length
 (bLs (altS a k) k)) (length (bLs (altS a k) (raysL a)))∧okN (bLs (altS a k) a) (bLs (altS a k) k) (bLs (altS a k) (raysL a)))∧(↑(length (waysL (length (bLs (altS a k) a)) (bLs (altS a k) (raysL
 a)) (bLs (altS a k) k))):Int)=(↑(length (cwL a k)):Int)∧0=cntE a k∧True)∧((ofE a k==0)=false→((ofE a k==14)=true→0=(↑(length (cwL a k)):Int)∧0=cntE a k∧True)∧
 ((ofE a k==14)=false→0=(↑(length (cwL a k)):Int)∧ofE a k=cntE a k∧True))):=by kernel_rfl

theorem ob_o17c (a k:List Int):fnP (TC) G 10000 fe9 (.r [] 0 (.r [] 29 (.rs 3 [] 0 14 (.r [] 3 (.cnd (.r [] 0 .nil) (.r [] 0 (.cnd (.r [] 1 (.r [] 0 (.cnd (.r [(514,.auto,Dr.val [immL i64 (fstL a k)])] 1 .nil) (.r [] 0 .nil)))) (.r [] 0 .nil))))) (.r [] 3 (.lit (.r [] 0 (.cnd (.r [] 1 (.r [] 0 (.cnd (.r [(514,.auto,Dr.val [immL i64 (fstL a k)])] 1 .nil) (.r [] 0 .nil)))) (.r [] 0 .nil)))))))) ([fanV a k]) ([immL .i64 (fstL a k),.int .i64 (fstE a k)]) ([])=(
 (fun(zz2:Nat)=>(fun(zz1:Nat)=>(fun(zz0:Nat)=>(length a=length a∧length k=length k∧length a<1000000)∧((ofE a k !=0)=true→((ofE a k !=14)=true→Cont.size
 (Cont.ints i64 (fstL a k))=0∧length (fstL a k)=0∧length (fstL a k)=0∧ofE a k=fstE a k∧True)∧((ofE a k !=14)=false→((ofE a k==0)=true→(cok (bLs (altS a k) a) (bLs
 (altS a k) k) (bLs (altS a k) (raysL a)) zz1 (length (bLs (altS a k) k)) (length (bLs (altS a k) (raysL a)))∧okN (bLs (altS a k) a) (bLs (altS a k) k) (bLs (altS a k) (raysL a)))∧(ltb 0
 (↑zz0:Int)=true→ltb 0 (↑zz0:Int)=true∧ltn 0 (Cont.size (Cont.vals (outV (waysL zz1 (bLs (altS a k) (raysL a)) (bLs (altS a k) k)))))=true∧(drop 0 (outV (waysL zz1 (bLs (altS
 a k) (raysL a)) (bLs (altS a k) k))))[0]? =some (AV.imm (Cont.ints i64 (fstL a k)) zz2 (some zz2))∧qs i64 (fstL a k) (qx zz2 (0=fstE a k∧True)))∧(ltb 0 (↑zz0:Int)=false→
 Cont.size (Cont.ints i64 (fstL a k))=0∧length (fstL a k)=0∧length (fstL a k)=0∧7=fstE a k∧True))∧((ofE a k==0)=false→Cont.size (Cont.ints i64 (fstL a k))=0∧length
 (fstL a k)=0∧length (fstL a k)=0∧7=fstE a k∧True)))∧((ofE a k !=0)=false→((ofE a k==0)=true→(cok (bLs (altS a k) a) (bLs (altS a k) k) (bLs (altS a k) (raysL a)) zz1
 (length (bLs (altS a k) k)) (length (bLs (altS a k) (raysL a)))∧okN (bLs (altS a k) a) (bLs (altS a k) k) (bLs (altS a k) (raysL a)))∧(ltb 0 (↑zz0:Int)=true→ltb 0 (↑zz0:Int)=
 true∧ltn 0 (Cont.size (Cont.vals (outV (waysL zz1 (bLs (altS a k) (raysL a)) (bLs (altS a k) k)))))=true∧(drop 0 (outV (waysL zz1 (bLs (altS a k) (raysL a)) (bLs (altS a k) k))))[0]? =
 some (AV.imm (Cont.ints i64 (fstL a k)) zz2 (some zz2))∧qs i64 (fstL a k) (qx zz2 (0=fstE a k∧True)))∧(ltb 0 (↑zz0:Int)=false→Cont.size (Cont.ints i64 (fstL a k))=0∧length
 (fstL a k)=0∧length (fstL a k)=0∧7=fstE a k∧True))∧((ofE a k==0)=false→Cont.size (Cont.ints i64 (fstL a k))=0∧length (fstL a k)=0∧length (fstL a k)=0∧7=fstE
 a k∧True))) (length (waysL zz1 (bLs (altS a k) (raysL a)) (bLs (altS a k) k)))) (length (bLs (altS a k) a))) (length (fstL a k))):=by kernel_rfl

end Go.Proofs.YthiammkiobbclaaGreat.X
