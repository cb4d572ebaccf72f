/-
 What is to be shown of the functions (made by a program).
-/
import Derived.Test.YthiammkiobbclaaGreatDoorD9Z
set_option maxRecDepth 1000000
set_option linter.unusedVariables false
namespace Go.Proofs.YthiammkiobbclaaGreatDoor.X
open Go Go.Ab
open List IntKind
theorem C1Y (a k r o:List Int)(L:List (List Int)):fnD (TG a k r (o.length+1)) G 10000 (C4A) (.r [] 0 (.r [] 2 (.rs 4 [] 3 17 (.r [] 3 (.lit .nil)) (.r [] 27 (.cnd .nil (.r [] 1 (.cnd (.r [] 0 (.lp (l58 a k r o L) [] [] (fun b=>(.r [] 0 (.cnd (.r [] 0 (.r [(518,.auto,Dr.heap),(519,.auto,Dr.heap)] 1 (.r [] 0 .nil))) .nil))))) (.r [] 1 (.r [] 1 (.cnd (.r [] 1 (.r [] 25 .nil)) .nil)))))))))) ([A3X .i64 o,.ptr 64 0,.ptr 256 0,.ptr 129 0,.ptr 192 0]) (hpG a k r L) ([]) (wsG (A05 a.length r k L o))=(
 (fun(zz1:Nat)=>(fun(zz0:Bool)=>(length o=length o/\okO o)/\(cok a k r (length a) (length k) (length r)/\length a<=8/\length r=length a+1)/\(A4y (length a) r (rkL o)=
 true->length L=length (A05 (length a) r k L o)/\A1w L=A1w (A05 (length a) r k L o)/\1=1/\length L=length (A05 (length a) r k L o)/\0=0/\fnE L=fnE (A05 (length a) r k
 L o)/\fnK L=fnK (A05 (length a) r k L o)/\1=1/\1=1/\0=0/\0=0/\0=0/\0=0/\1=1/\qs i64 a (qs u8 k (qs i64 r (True))))/\(A4y (length a) r (rkL o)=false->(cok a k r
 (length a) (length k) (length r)/\length a<=8/\length k=length a)/\(A7h k (rkL o)=true->length L=length (A05 (length a) r k L o)/\A1w L=A1w (A05 (length a) r k L o)/\1=
 1/\length L=length (A05 (length a) r k L o)/\0=0/\fnE L=fnE (A05 (length a) r k L o)/\fnK L=fnK (A05 (length a) r k L o)/\1=1/\1=1/\0=0/\0=0/\0=0/\0=0/\1=
 1/\qs i64 a (qs u8 k (qs i64 r (True))))/\(A7h k (rkL o)=false->(ltb (↑(length o):Int) (↑(length a):Int)=true->inR i64 ((↑(length o):Int)+1)=true/\length L=length (unO
 (A1w L))/\A1w L=A1w (unO (A1w L))/\1=1/\length L=length (unO (A1w L))/\0=0/\fnE L=fnE (unO (A1w L))/\fnK L=fnK (unO (A1w L))/\1=1/\1=1/\0=0/\0=0/\0=0
 /\0=0/\1=1/\qs i64 a (qs u8 k (qs i64 r (8=8/\(rkL o)=(rkL o)/\qs i64 o (0=0/\ql o (qx ((↑(length o):Int)+1) (iI 0=0/\(∃(m:Nat),0=(↑m:Int)/\m<=length o+1/\
 unO (A1w L)=B9j (length a) r k L o m/\okL a (unO (A1w L)))/\∀(b:L58),(∃(m:Nat),b.i=(↑m:Int)/\m<=length o+1/\b.L=B9j (length a) r k L o m/\okL a b.L)->(ltb b.i
 ((↑(length o):Int)+1)=true->(length o=length o/\0<length o/\length o<100000000000)/\([(517,HO.blk (Blk.mk (Cont.ints i64 [(↑(length o):Int)]) 1 1 (some 1) (some false)
 true false)),(32896,HO.blk (Blk.mk (Cont.ints i64 o) 1 (length o) none (some false) true false))]=[(517,HO.blk (Blk.mk (Cont.ints i64 [(↑(length o):Int)]) 1 1 (some 1) (some false)
 true false)),(32896,HO.blk (Blk.mk (Cont.ints i64 o) 1 (length o) none (some false) true false))]/\length o=length o/\1=1/\0<length o/\length o<1000000/\0<=b.i/\b.i<=
 (↑(length o):Int))/\([(9700,HO.blk (Blk.mk (Cont.vals (A1w b.L)) 1 (length b.L) none (some true) true false)),(192,HO.blk (Blk.mk (Cont.cells [AV.full 9700 (length b.L)]) 1 1 none
 (some false) true true)),(128,HO.blk (Blk.mk (Cont.maps (MV.mk true [some i64,some i64,some i64,some i64,some i64,some i64,some i64,some i64]) (MV.mk false [none]) (fnE b.L) (fnK
 b.L)) 1 0 none (some false) true true)),(129,HO.blk (Blk.mk (Cont.cells [AV.mp 128]) 1 1 none (some false) true true)),(256,HO.blk (Blk.mk (Cont.cells [AV.fn 58 [] [AV.ptr 64 0,AV.ptr
 256 0,AV.ptr 129 0,AV.ptr 192 0]]) 1 1 none (some false) true true)),(64,HO.blk (Blk.mk (Cont.cells [AV.imm (Cont.ints i64 a) (length a) none,AV.imm (Cont.ints u8 k) (length k) none,
 AV.imm (Cont.ints i64 r) (length r) none]) 3 1 none (some false) true true))]=[(9700,HO.blk (Blk.mk (Cont.vals (A1w (unO (A1w b.L)))) 1 (length (unO (A1w b.L))) none (some true) true
 false)),(192,HO.blk (Blk.mk (Cont.cells [AV.full 9700 (length (unO (A1w b.L)))]) 1 1 none (some false) true true)),(128,HO.blk (Blk.mk (Cont.maps (MV.mk true [some i64,some i64,some
 i64,some i64,some i64,some i64,some i64,some i64]) (MV.mk false [none]) (fnE (unO (A1w b.L))) (fnK (unO (A1w b.L)))) 1 0 none (some false) true true)),(129,HO.blk (Blk.mk
 (Cont.cells [AV.mp 128]) 1 1 none (some false) true true)),(256,HO.blk (Blk.mk (Cont.cells [AV.fn 58 [] [AV.ptr 64 0,AV.ptr 256 0,AV.ptr 129 0,AV.ptr 192 0]]) 1 1 none (some false) true
 true)),(64,HO.blk (Blk.mk (Cont.cells [AV.imm (Cont.ints i64 a) (length a) none,AV.imm (Cont.ints u8 k) (length k) none,AV.imm (Cont.ints i64 r) (length r) none]) 3 1 none (some false)
 true true))]/\qx (length (A2u o (Int.toNat b.i) (↑(length o):Int))) (length (A2u o (Int.toNat b.i) (↑(length o):Int))=length o+1/\length o+1<=length a/\0<length o+1/\okG
 (A2u o (Int.toNat b.i) (↑(length o):Int))/\okL a (unO (A1w b.L))))/\inR i64 (b.i+1)=true/\length (A05 (length a) r k (unO (A1w b.L)) (A2u o (Int.toNat b.i) (↑(length o):
 Int)))=length (unO (A1w (A05 (length a) r k (unO (A1w b.L)) (A2u o (Int.toNat b.i) (↑(length o):Int)))))/\A1w (A05 (length a) r k (unO (A1w b.L)) (A2u o (Int.toNat b.i)
 (↑(length o):Int)))=A1w (unO (A1w (A05 (length a) r k (unO (A1w b.L)) (A2u o (Int.toNat b.i) (↑(length o):Int)))))/\1=1/\length (A05 (length a) r k (unO (A1w b.L)) (A2u o
 (Int.toNat b.i) (↑(length o):Int)))=length (unO (A1w (A05 (length a) r k (unO (A1w b.L)) (A2u o (Int.toNat b.i) (↑(length o):Int)))))/\0=0/\fnE (A05 (length a) r k (unO (A1w
 b.L)) (A2u o (Int.toNat b.i) (↑(length o):Int)))=fnE (unO (A1w (A05 (length a) r k (unO (A1w b.L)) (A2u o (Int.toNat b.i) (↑(length o):Int)))))/\fnK (A05 (length a) r k (unO
 (A1w b.L)) (A2u o (Int.toNat b.i) (↑(length o):Int)))=fnK (unO (A1w (A05 (length a) r k (unO (A1w b.L)) (A2u o (Int.toNat b.i) (↑(length o):Int)))))/\1=1/\1=1/\0=0/\0=
 0/\0=0/\0=0/\1=1/\qs i64 a (qs u8 k (qs i64 r (8=8/\(rkL o)=(rkL o)/\qs i64 o (0=0/\ql o (qx ((↑(length o):Int)+1) (b.i+1=b.i+1/\(∃(m:Nat),b.i+1=(↑m:
 Int)/\m<=length o+1/\unO (A1w (A05 (length a) r k (unO (A1w b.L)) (A2u o (Int.toNat b.i) (↑(length o):Int))))=B9j (length a) r k L o m/\okL a (unO (A1w (A05 (length a) r k
 (unO (A1w b.L)) (A2u o (Int.toNat b.i) (↑(length o):Int))))))/\length o+1-Int.toNat (b.i+1)<length o+1-Int.toNat b.i/\True)))))))/\(ltb b.i ((↑(length o):Int)+1)=
 false->length b.L=length (A05 (length a) r k L o)/\A1w b.L=A1w (A05 (length a) r k L o)/\1=1/\length b.L=length (A05 (length a) r k L o)/\0=0/\fnE b.L=fnE (A05
 (length a) r k L o)/\fnK b.L=fnK (A05 (length a) r k L o)/\1=1/\1=1/\0=0/\0=0/\0=0/\0=0/\1=1/\qs i64 a (qs u8 k (qs i64 r (True)))))))))))/\(ltb (↑(length o):
 Int) (↑(length a):Int)=false->(cok a k r (length a) (length k) (length r)/\length o=length o/\okO o/\length o<length r/\length r<=9)/\(qx zz1 (okO (A0I r o)))/\(zz0=true
 ->(qx zz1 (okO (A0I r o)))/\length L=length L/\A0R ((length L+1)*24) 140737488355328=true/\length L+1=length (A05 (length a) r k L o)/\A1w L++[AV.imm (Cont.ints i64
 (A0I r o)) zz1 (some zz1)]=A1w (A05 (length a) r k L o)/\1=1/\length L+1=length (A05 (length a) r k L o)/\0=0/\mput (fnE L) (rkL (A0I r o)) [1] (fnK L)=fnE (A05
 (length a) r k L o)/\mck (fnE L) (rkL (A0I r o)) (fnK L)=fnK (A05 (length a) r k L o)/\1=1/\1=1/\0=0/\0=0/\0=0/\0=0/\1=1/\qs i64 a (qs u8 k (qs i64 r (True))))/\
 (zz0=false->length L=length (A05 (length a) r k L o)/\A1w L=A1w (A05 (length a) r k L o)/\1=1/\length L=length (A05 (length a) r k L o)/\0=0/\fnE L=fnE (A05 (length
 a) r k L o)/\fnK L=fnK (A05 (length a) r k L o)/\1=1/\1=1/\0=0/\0=0/\0=0/\0=0/\1=1/\qs i64 a (qs u8 k (qs i64 r (True)))))))) (!getD (Option.getD (A8N (fnE L) (rkL
 (A0I r o))) []) 0 0 !=0)) (length (A0I r o))):=by kernel_rfl
theorem B9k (a k r:List Int):fnD (TGn a k r) G 10000 (C4A) (.r [] 0 (.r [] 3 (.rs 4 [] 3 17 (.r [] 3 (.lit .nil)) (.r [] 27 (.cnd .nil (.r [] 1 (.cnd (.r [] 1 (.un (.r [] 0 (.lit (.r [] 0 (.r [(518,.auto,Dr.heap),(519,.auto,Dr.heap)] 3 (.r [] 1 (.un (.r [] 0 (.lit .nil)))))))))) (.r [] 1 (.r [] 1 (.lit (.r [] 1 (.r [] 31 .nil)))))))))))) ([.nils,.ptr 64 0,.ptr 256 0,.ptr 129 0,.ptr 192 0]) (hpG a k r []) ([]) (wsG (A05 a.length r k [] []))=(
 (cok a k r (length a) (length k) (length r)/\length a<=8/\length r=length a+1)/\(A4y (length a) r [-1,-1,-1,-1,-1,-1,-1,-1]=true->0=length (A05 (length a) r k [] [])/\
 []=A1w (A05 (length a) r k [] [])/\1=1/\0=length (A05 (length a) r k [] [])/\0=0/\[]=fnE (A05 (length a) r k [] [])/\0=fnK (A05 (length a) r k [] [])/\1=1/\1=1/\
 0=0/\0=0/\0=0/\0=0/\1=1/\qs i64 a (qs u8 k (qs i64 r (True))))/\(A4y (length a) r [-1,-1,-1,-1,-1,-1,-1,-1]=false->(cok a k r (length a) (length k) (length r)/\
 length a<=8/\length k=length a)/\(A7h k [-1,-1,-1,-1,-1,-1,-1,-1]=true->0=length (A05 (length a) r k [] [])/\[]=A1w (A05 (length a) r k [] [])/\1=1/\0=length
 (A05 (length a) r k [] [])/\0=0/\[]=fnE (A05 (length a) r k [] [])/\0=fnK (A05 (length a) r k [] [])/\1=1/\1=1/\0=0/\0=0/\0=0/\0=0/\1=1/\qs i64 a (qs u8 k
 (qs i64 r (True))))/\(A7h k [-1,-1,-1,-1,-1,-1,-1,-1]=false->(ltb 0 (↑(length a):Int)=true->([(517,HO.blk (Blk.mk (Cont.ints i64 [0]) 1 1 (some 1) (some false) true
 false))]=[(517,HO.blk (Blk.mk (Cont.ints i64 [0]) 1 1 (some 1) (some false) true false))]/\1=1/\iI 0=0)/\([(9700,HO.blk (Blk.mk (Cont.vals []) 1 0 none (some true) true false)),
 (192,HO.blk (Blk.mk (Cont.cells [AV.full 9700 0]) 1 1 none (some false) true true)),(128,HO.blk (Blk.mk (Cont.maps (MV.mk true [some i64,some i64,some i64,some i64,some i64,some i64,
 some i64,some i64]) (MV.mk false [none]) [] 0) 1 0 none (some false) true true)),(129,HO.blk (Blk.mk (Cont.cells [AV.mp 128]) 1 1 none (some false) true true)),(256,HO.blk (Blk.mk
 (Cont.cells [AV.fn 58 [] [AV.ptr 64 0,AV.ptr 256 0,AV.ptr 129 0,AV.ptr 192 0]]) 1 1 none (some false) true true)),(64,HO.blk (Blk.mk (Cont.cells [AV.imm (Cont.ints i64 a) (length a)
 none,AV.imm (Cont.ints u8 k) (length k) none,AV.imm (Cont.ints i64 r) (length r) none]) 3 1 none (some false) true true))]=[(9700,HO.blk (Blk.mk (Cont.vals []) 1 0 none (some true) true
 false)),(192,HO.blk (Blk.mk (Cont.cells [AV.full 9700 0]) 1 1 none (some false) true true)),(128,HO.blk (Blk.mk (Cont.maps (MV.mk true [some i64,some i64,some i64,some i64,some i64,
 some i64,some i64,some i64]) (MV.mk false [none]) [] 0) 1 0 none (some false) true true)),(129,HO.blk (Blk.mk (Cont.cells [AV.mp 128]) 1 1 none (some false) true true)),(256,HO.blk
 (Blk.mk (Cont.cells [AV.fn 58 [] [AV.ptr 64 0,AV.ptr 256 0,AV.ptr 129 0,AV.ptr 192 0]]) 1 1 none (some false) true true)),(64,HO.blk (Blk.mk (Cont.cells [AV.imm (Cont.ints i64 a)
 (length a) none,AV.imm (Cont.ints u8 k) (length k) none,AV.imm (Cont.ints i64 r) (length r) none]) 3 1 none (some false) true true))]/\1=1/\1=1/\1<=length a/\0<1/\okG [0]/\okL
 a [])/\length (A05 (length a) r k [] [0])=length (A05 (length a) r k [] [])/\A1w (A05 (length a) r k [] [0])=A1w (A05 (length a) r k [] [])/\1=1/\length (A05 (length a) r k
 [] [0])=length (A05 (length a) r k [] [])/\0=0/\fnE (A05 (length a) r k [] [0])=fnE (A05 (length a) r k [] [])/\fnK (A05 (length a) r k [] [0])=fnK (A05 (length a) r k [] [])
 /\1=1/\1=1/\0=0/\0=0/\0=0/\0=0/\1=1/\qs i64 a (qs u8 k (qs i64 r (True))))/\(ltb 0 (↑(length a):Int)=false->cok a k r (length a) (length k) (length r)/\(0=0/\
 okO [])/\(0=0/\okO [])/\1=length (A05 (length a) r k [] [])/\[AV.imm (Cont.ints i64 []) 0 (some 0)]=A1w (A05 (length a) r k [] [])/\1=1/\1=length (A05 (length a) r k []
 [])/\0=0/\[([-1,-1,-1,-1,-1,-1,-1,-1],[1],0)]=fnE (A05 (length a) r k [] [])/\1=fnK (A05 (length a) r k [] [])/\1=1/\1=1/\0=0/\0=0/\0=0/\0=0/\1=1/\
 qs i64 a (qs u8 k (qs i64 r (True))))))):=by kernel_rfl
theorem C1Z (a k r:List Int):fnP (D4H) G 10000 C4B (.r [] 0 (.r [] 3 (.r [] 7 (.un (.r [] 1 (.lit (.r [] 0 (.frz 4 1 .nil)))))))) ([B5u a k r,.nils]) ([A10 .i64 []]) ([])=(
 Cont.ints i64 []=Cont.ints i64 []/\0=0/\0=0/\True):=by kernel_rfl
theorem C10:fnP (T0) G 10000 C1v (.r [] 0 (.r [] 0 (.lit (.r [] 0 .nil)))) ([.nils]) ([.nils]) ([])=(
 True):=by kernel_rfl
theorem C11 (a k r:List Int):fnP (TW a k r) G 10000 C7Q (.r [] 0 (.r [] 1 (.r [] 0 (.r [] 0 (.ghc 192 0 9700 1 (Cont.vals []) (.jn (j38) [1,3] [] (.r [] 1 .nil) (fun b=>(.r [(385,.auto,Dr.heap)] 1 (.r [(449,.auto,Dr.heap)] 1 (.r [] 1 (.frz 2 0 .nil))))))))))) ([B5u a k r]) ([.imm (.vals (A1w (A2s a.length r k))) (A2s a.length r k).length none]) ([])=(
 (1=1/\qs i64 a (qs u8 k (qs i64 r (0=0/\([]:List (List Int×List Int×Nat))=[]/\0=0/\1=1/\1=1/\0=0/\1=1/\0=0/\0=0/\0=0/\0=0/\0=0/\([]:List AV)=
 []/\0=0/\0=0/\True/\True))))/\∀(b:Unit),True->([(9700,HO.blk (Blk.mk (Cont.vals []) 1 0 none (some true) true false)),(192,HO.blk (Blk.mk (Cont.cells [AV.full 9700 0]) 1 1
 none (some false) true true)),(128,HO.blk (Blk.mk (Cont.maps (MV.mk true [some i64,some i64,some i64,some i64,some i64,some i64,some i64,some i64]) (MV.mk false [none]) [] 0) 1 0
 none (some false) true true)),(129,HO.blk (Blk.mk (Cont.cells [AV.mp 128]) 1 1 none (some false) true true)),(256,HO.blk (Blk.mk (Cont.cells [AV.fn 58 [] [AV.ptr 64 0,AV.ptr 256 0,
 AV.ptr 129 0,AV.ptr 192 0]]) 1 1 none (some false) true true)),(64,HO.blk (Blk.mk (Cont.cells [AV.imm (Cont.ints i64 a) (length a) none,AV.imm (Cont.ints u8 k) (length k) none,AV.imm
 (Cont.ints i64 r) (length r) none]) 3 1 none (some false) true true))]=[(9700,HO.blk (Blk.mk (Cont.vals []) 1 0 none (some true) true false)),(192,HO.blk (Blk.mk (Cont.cells [AV.full
 9700 0]) 1 1 none (some false) true true)),(128,HO.blk (Blk.mk (Cont.maps (MV.mk true [some i64,some i64,some i64,some i64,some i64,some i64,some i64,some i64]) (MV.mk false [none])
 [] 0) 1 0 none (some false) true true)),(129,HO.blk (Blk.mk (Cont.cells [AV.mp 128]) 1 1 none (some false) true true)),(256,HO.blk (Blk.mk (Cont.cells [AV.fn 58 [] [AV.ptr 64 0,AV.ptr
 256 0,AV.ptr 129 0,AV.ptr 192 0]]) 1 1 none (some false) true true)),(64,HO.blk (Blk.mk (Cont.cells [AV.imm (Cont.ints i64 a) (length a) none,AV.imm (Cont.ints u8 k) (length k) none,
 AV.imm (Cont.ints i64 r) (length r) none]) 3 1 none (some false) true true))]/\okN a k r)/\([(9700,HO.blk (Blk.mk (Cont.vals (A1w (A05 (length a) r k [] []))) 1 (length (A05 (length a)
 r k [] [])) none (some true) true false))]=[(9700,HO.blk (Blk.mk (Cont.vals (A1w (unO (A1w (A05 (length a) r k [] []))))) 1 (length (unO (A1w (A05 (length a) r k [] [])))) none (some
 true) true false))]/\length (A05 (length a) r k [] [])=length (unO (A1w (A05 (length a) r k [] [])))/\okL a (unO (A1w (A05 (length a) r k [] []))))/\length (unO (A1w (A05 (length
 a) r k [] [])))=length (A05 (length a) r k [] [])/\Cont.vals (A1w (B8j (unO (A1w (A05 (length a) r k [] [])))))=Cont.vals (A1w (A2s (length a) r k))/\length (A05 (length a) r
 k [] [])=length (A2s (length a) r k)/\True):=by kernel_rfl
theorem C12 (a k:List Int):fnP (TC) G 10000 C7w (.r [] 0 (.r [] 29 (.r [] 0 (.r [] 0 (.cnd (.r [] 1 .nil) (.r [] 0 (.cnd (.r [] 0 .nil) (.r [] 0 .nil)))))))) ([A2W a k]) ([.int .i64 ((cwL a k).length:Nat),.int .i64 (A39 a k)]) ([])=(
 (length a=length a/\length k=length k/\length a<1000000)/\((ofE a k==0)=true->(cok (bLs (A0l a k) a) (bLs (A0l a k) k) (bLs (A0l a k) (A0b a)) (length (bLs (A0l a k) a)) (length
 (bLs (A0l a k) k)) (length (bLs (A0l a k) (A0b a)))/\okN (bLs (A0l a k) a) (bLs (A0l a k) k) (bLs (A0l a k) (A0b a)))/\(↑(length (A2s (length (bLs (A0l a k) a)) (bLs (A0l a k) (A0b
 a)) (bLs (A0l a k) k))):Int)=(↑(length (cwL a k)):Int)/\0=A39 a k/\True)/\((ofE a k==0)=false->((ofE a k==14)=true->0=(↑(length (cwL a k)):Int)/\0=A39 a k/\True)/\
 ((ofE a k==14)=false->0=(↑(length (cwL a k)):Int)/\ofE a k=A39 a k/\True))):=by kernel_rfl
theorem C13 (a k:List Int):fnP (TC) G 10000 C7x (.r [] 0 (.r [] 29 (.rs 3 [] 0 14 (.r [] 3 (.cnd (.r [] 0 .nil) (.r [] 0 (.cnd (.r [] 1 (.r [] 0 (.cnd (.r [(514,.auto,Dr.val [A10 i64 (A4e a k)])] 1 .nil) (.r [] 0 .nil)))) (.r [] 0 .nil))))) (.r [] 3 (.lit (.r [] 0 (.cnd (.r [] 1 (.r [] 0 (.cnd (.r [(514,.auto,Dr.val [A10 i64 (A4e a k)])] 1 .nil) (.r [] 0 .nil)))) (.r [] 0 .nil)))))))) ([A2W a k]) ([A10 .i64 (A4e a k),.int .i64 (B3V a k)]) ([])=(
 (fun(zz2:Nat)=>(fun(zz1:Nat)=>(fun(zz0:Nat)=>(length a=length a/\length k=length k/\length a<1000000)/\((ofE a k !=0)=true->((ofE a k !=14)=true->Cont.size
 (Cont.ints i64 (A4e a k))=0/\length (A4e a k)=0/\length (A4e a k)=0/\ofE a k=B3V a k/\True)/\((ofE a k !=14)=false->((ofE a k==0)=true->(cok (bLs (A0l a k) a) (bLs
 (A0l a k) k) (bLs (A0l a k) (A0b a)) zz1 (length (bLs (A0l a k) k)) (length (bLs (A0l a k) (A0b a)))/\okN (bLs (A0l a k) a) (bLs (A0l a k) k) (bLs (A0l a k) (A0b a)))/\(ltb 0
 (↑zz0:Int)=true->ltb 0 (↑zz0:Int)=true/\ltn 0 (Cont.size (Cont.vals (A1w (A2s zz1 (bLs (A0l a k) (A0b a)) (bLs (A0l a k) k)))))=true/\(drop 0 (A1w (A2s zz1 (bLs (A0l
 a k) (A0b a)) (bLs (A0l a k) k))))[0]? =some (AV.imm (Cont.ints i64 (A4e a k)) zz2 (some zz2))/\qs i64 (A4e a k) (qx zz2 (0=B3V a k/\True)))/\(ltb 0 (↑zz0:Int)=false->
 Cont.size (Cont.ints i64 (A4e a k))=0/\length (A4e a k)=0/\length (A4e a k)=0/\7=B3V a k/\True))/\((ofE a k==0)=false->Cont.size (Cont.ints i64 (A4e a k))=0/\length
 (A4e a k)=0/\length (A4e a k)=0/\7=B3V a k/\True)))/\((ofE a k !=0)=false->((ofE a k==0)=true->(cok (bLs (A0l a k) a) (bLs (A0l a k) k) (bLs (A0l a k) (A0b a)) zz1
 (length (bLs (A0l a k) k)) (length (bLs (A0l a k) (A0b a)))/\okN (bLs (A0l a k) a) (bLs (A0l a k) k) (bLs (A0l a k) (A0b a)))/\(ltb 0 (↑zz0:Int)=true->ltb 0 (↑zz0:Int)=
 true/\ltn 0 (Cont.size (Cont.vals (A1w (A2s zz1 (bLs (A0l a k) (A0b a)) (bLs (A0l a k) k)))))=true/\(drop 0 (A1w (A2s zz1 (bLs (A0l a k) (A0b a)) (bLs (A0l a k) k))))[0]? =
 some (AV.imm (Cont.ints i64 (A4e a k)) zz2 (some zz2))/\qs i64 (A4e a k) (qx zz2 (0=B3V a k/\True)))/\(ltb 0 (↑zz0:Int)=false->Cont.size (Cont.ints i64 (A4e a k))=0/\length
 (A4e a k)=0/\length (A4e a k)=0/\7=B3V a k/\True))/\((ofE a k==0)=false->Cont.size (Cont.ints i64 (A4e a k))=0/\length (A4e a k)=0/\length (A4e a k)=0/\7=B3V
 a k/\True))) (length (A2s zz1 (bLs (A0l a k) (A0b a)) (bLs (A0l a k) k)))) (length (bLs (A0l a k) a))) (length (A4e a k))):=by kernel_rfl
open List IntKind
theorem C5b (a k r o:List Int):fnP (T60 o.length) G 10000 C4B (.r [] 0 (.jn (j60 o) [] [] (.r [] 2 .nil) (fun b=>(.r [] 3 (.lp (l60 r o) [] [] (fun b_1=>(.r [] 0 (.cnd (.r [] 0 (.lp (m60 r o b_1.o) [] [] (fun b_2=>(.r [] 0 (.cnd (.r [] 0 (.r [(514,.auto,Dr.heap)] 0 (.r [] 0 (.lp (n60 r o b_1.o b_2.i) [] [] (fun b_3=>(.r [] 0 (.cnd (.r [] 0 (.br (b_3.f) (.br (A1q b_1.o b_3.k) (.r [yO 770,yO 771,(772,.on,Dr.heap),yO 773,(774,.off,Dr.plain),(775,.off,Dr.plain),(776,.off,Dr.plain),(777,.off,Dr.plain),(778,.off,Dr.plain),(779,.off,Dr.plain),(780,.off,Dr.plain),(781,.on,Dr.pk true),yO 782,(783,.off,Dr.plain),(784,.off,Dr.plain),(785,.off,Dr.plain),(786,.off,Dr.plain),(787,.off,Dr.plain),(788,.on,Dr.pk true),(789,.auto,Dr.pk true)] 398368768 (.r [] 0 .nil)) (.br (leb (gR (rkF o) b_2.i) (gR (rkF o) b_3.k)) (.r [yO 770,yO 771,(772,.on,Dr.heap),yO 773,yO 774,yO 775,yO 776,yO 777,yO 778,yO 779,yO 780,(781,.on,Dr.pk false),yO 782,(783,.off,Dr.plain),(784,.off,Dr.plain),(785,.off,Dr.plain),(786,.off,Dr.plain),(787,.off,Dr.plain),(788,.on,Dr.pk true),(789,.auto,Dr.pk true)] 24161812480 (.r [] 0 .nil)) (.r [yO 770,yO 771,(772,.on,Dr.heap),yO 773,yO 774,yO 775,yO 776,yO 777,yO 778,yO 779,yO 780,(781,.on,Dr.pk false),yO 782,yO 783,yO 784,yO 785,yO 786,yO 787,(788,.on,Dr.pk false),(789,.auto,Dr.pk true)] 96656162816 (.r [] 0 .nil)))) (.r [(770,.off,Dr.plain),(771,.off,Dr.plain),(772,.off,Dr.plain),(773,.off,Dr.plain),(774,.off,Dr.plain),(775,.off,Dr.plain),(776,.off,Dr.plain),(777,.off,Dr.plain),(778,.off,Dr.plain),(779,.off,Dr.plain),(780,.off,Dr.plain),(781,.off,Dr.plain),(782,.off,Dr.plain),(783,.off,Dr.plain),(784,.off,Dr.plain),(785,.off,Dr.plain),(786,.off,Dr.plain),(787,.off,Dr.plain),(788,.off,Dr.plain),(789,.auto,Dr.pk false)] 2877424 (.r [] 0 .nil)))) (.r [] 0 (.cnd (.r [(963,.auto,Dr.pk true)] 8 .nil) (.r [] 0 .nil)))))))))) .nil))))) (.r [] 0 (.frz 4 0 .nil)))))))))) ([B5u a k r,A3X .i64 o]) ([A10 .i64 (A0I r o)]) ([])=(
 ((length o=length o/\okO o)/\1=1/\qs i64 a (qs u8 k (qs i64 r (8=8/\[rkO o 0,rkO o 1,rkO o 2,rkO o 3,rkO o 4,rkO o 5,rkO o 6,rkO o 7]=rkF o/\qs i64 o (0=0/\0=0/\
 True/\True)))))/\∀(b:Unit),True->leb ((↑(length o):Int)*8) 140737488355328=true/\1=1/\qs i64 a (qs u8 k (qs i64 r (8=8/\rkF o=rkF o/\0=0/\Int.toNat (↑(length o):
 Int)=length o/\iL []=[]/\qs i64 o (0=0/\0=0/\0=0/\(∃(m:Nat),m<=length o/\[]=A3H r (rkF o) (length o) m)/\∀(b_1:L60),(fun(zz7:Prop)=>zz7->qx (length b_1.o)
 ((ltb (↑(length b_1.o):Int) (↑(length o):Int)=true->1=1/\qs i64 a (qs u8 k (qs i64 r (8=8/\rkF o=rkF o/\qx (length b_1.o) (length o=length o/\b_1.o=b_1.o/\qs i64 o (0=
 0/\0=0/\qx (length b_1.o) (ql o (iI 0=0/\(∃(m:Nat),0=(↑m:Int)/\m<=length o/\∀(j:Nat),j<m->frK r (rkF o) b_1.o (↑j:Int) (length o)=false)/\∀(b_2:L83),(fun
 (zz5:Int)=>(∃(m:Nat),b_2.i=(↑m:Int)/\m<=length o/\∀(j:Nat),j<m->frK r (rkF o) b_1.o (↑j:Int) (length o)=false)->(ltb b_2.i (↑(length o):Int)=true->([(194,
 HO.blk (Blk.mk (Cont.ints i64 b_1.o) 1 (length b_1.o) (some (length o)) (some false) true false))]=[(194,HO.blk (Blk.mk (Cont.ints i64 b_1.o) 1 (length b_1.o) (some (length o)) (some
 false) true false))]/\qx (length b_1.o) (length b_1.o<1000000))/\1=1/\qs i64 a (qs u8 k (qs i64 r (8=8/\rkF o=rkF o/\qx (length b_1.o) (length o=length o/\b_1.o=b_1.o/\qs
 i64 o (0=0/\0=0/\qx (length b_1.o) (ql o (b_2.i=b_2.i/\b_2.i=b_2.i/\(!A1q b_1.o b_2.i)= !A1q b_1.o b_2.i/\ql o (iI 0=0/\(∃(m:Nat),0=(↑m:Int)/\m<=length o/\
 (!A1q b_1.o b_2.i)=frK r (rkF o) b_1.o b_2.i m)/\∀(b_3:N60),(fun(zz6:Int)=>(fun(zz4:Prop)=>(fun(zz3:Bool)=>(fun(zz2:Bool)=>(fun(zz1:Bool)=>(fun(zz0:Bool)
 =>(∃(m:Nat),b_3.k=(↑m:Int)/\m<=length o/\b_3.f=frK r (rkF o) b_1.o b_2.i m)->(ltb b_3.k (↑(length o):Int)=true->(b_3.f=true->(A1q b_1.o b_3.k=true->b_3.f=true/\
 b_3.f=true/\b_3.f=true/\([(194,HO.blk (Blk.mk (Cont.ints i64 b_1.o) 1 (length b_1.o) (some (length o)) (some false) true false))]=[(194,HO.blk (Blk.mk (Cont.ints i64 b_1.o) 1
 (length b_1.o) (some (length o)) (some false) true false))]/\qx (length b_1.o) (length b_1.o<1000000))/\b_3.f=true/\zz3=true/\zz3=true/\zz3=true/\zz3=true/\zz3=true/\
 zz3=true/\zz3=true/\b_3.f=true/\A1q b_1.o b_3.k=true/\b_3.f=true/\b_3.f=true/\b_3.f=true/\inR i64 (b_3.k+1)=true/\1=1/\qs i64 a (qs u8 k (qs i64 r (8=8/\rkF
 o=rkF o/\qx (length b_1.o) (length o=length o/\b_1.o=b_1.o/\qs i64 o (0=0/\0=0/\qx (length b_1.o) (ql o (b_2.i=b_2.i/\b_2.i=b_2.i/\true=true/\ql o (qx (b_3.k+1)
 (zz4/\length o-Int.toNat (b_3.k+1)<length o-Int.toNat b_3.k/\True))))))))))/\(A1q b_1.o b_3.k=false->(leb (gR (rkF o) b_2.i) (gR (rkF o) b_3.k)=true->b_3.f=true/\b_3.f=
 true/\b_3.f=true/\([(194,HO.blk (Blk.mk (Cont.ints i64 b_1.o) 1 (length b_1.o) (some (length o)) (some false) true false))]=[(194,HO.blk (Blk.mk (Cont.ints i64 b_1.o) 1 (length
 b_1.o) (some (length o)) (some false) true false))]/\qx (length b_1.o) (length b_1.o<1000000))/\b_3.f=true/\zz2=true/\zz2=true/\leb 0 b_3.k=true/\ltb b_3.k 8=true/\zz2=
 true/\ltn (Int.toNat b_3.k) (Cont.size (Cont.ints i64 (rkF o)))=true/\zz2=true/\zz2=true/\leb 0 b_2.i=true/\ltb b_2.i 8=true/\zz2=true/\ltn (Int.toNat b_2.i) (Cont.size
 (Cont.ints i64 (rkF o)))=true/\zz2=true/\b_3.f=true/\zz2=true/\b_3.f=true/\zz1=true/\zz1=true/\zz1=true/\zz1=true/\zz1=true/\b_3.f=true/\leb zz5 zz6=true/\
 b_3.f=true/\inR i64 (b_3.k+1)=true/\1=1/\qs i64 a (qs u8 k (qs i64 r (8=8/\rkF o=rkF o/\qx (length b_1.o) (length o=length o/\b_1.o=b_1.o/\qs i64 o (0=0/\0=0/\qx
 (length b_1.o) (ql o (b_2.i=b_2.i/\b_2.i=b_2.i/\true=true/\ql o (qx (b_3.k+1) (zz4/\length o-Int.toNat (b_3.k+1)<length o-Int.toNat b_3.k/\True))))))))))/\(leb (gR (rkF
 o) b_2.i) (gR (rkF o) b_3.k)=false->b_3.f=true/\b_3.f=true/\b_3.f=true/\([(194,HO.blk (Blk.mk (Cont.ints i64 b_1.o) 1 (length b_1.o) (some (length o)) (some false) true false))]
 =[(194,HO.blk (Blk.mk (Cont.ints i64 b_1.o) 1 (length b_1.o) (some (length o)) (some false) true false))]/\qx (length b_1.o) (length b_1.o<1000000))/\b_3.f=true/\zz2=true/\zz2=
 true/\leb 0 b_3.k=true/\ltb b_3.k 8=true/\zz2=true/\ltn (Int.toNat b_3.k) (Cont.size (Cont.ints i64 (rkF o)))=true/\zz2=true/\zz2=true/\leb 0 b_2.i=true/\ltb b_2.i 8=
 true/\zz2=true/\ltn (Int.toNat b_2.i) (Cont.size (Cont.ints i64 (rkF o)))=true/\zz2=true/\b_3.f=true/\zz2=true/\b_3.f=true/\zz0=true/\zz0=true/\zz0=true/\zz0=
 true/\(cok a k r (length a) (length k) (length r)/\0<=b_2.i/\b_2.i+1<(↑(length r):Int)/\0<=b_3.k/\b_3.k+1<(↑(length r):Int)/\length r<=9)/\zz0=true/\b_3.f=true/\
 zz0=true/\b_3.f=true/\inR i64 (b_3.k+1)=true/\1=1/\qs i64 a (qs u8 k (qs i64 r (8=8/\rkF o=rkF o/\qx (length b_1.o) (length o=length o/\b_1.o=b_1.o/\qs i64 o (0=0
 /\0=0/\qx (length b_1.o) (ql o (b_2.i=b_2.i/\b_2.i=b_2.i/\(!ovlB r b_2.i b_3.k)= !ovlB r b_2.i b_3.k/\ql o (qx (b_3.k+1) ((∃(m:Nat),b_3.k+1=(↑m:Int)/\m<=length o/\
 (!ovlB r b_2.i b_3.k)=frK r (rkF o) b_1.o b_2.i m)/\length o-Int.toNat (b_3.k+1)<length o-Int.toNat b_3.k/\True))))))))))))/\(b_3.f=false->(!b_3.f)=true/\(!b_3.f)=true/\
 (!b_3.f)=true/\(!b_3.f)=true/\(!b_3.f)=true/\(!b_3.f)=true/\(!b_3.f)=true/\(!b_3.f)=true/\inR i64 (b_3.k+1)=true/\1=1/\qs i64 a (qs u8 k (qs i64 r (8=8/\rkF o=
 rkF o/\qx (length b_1.o) (length o=length o/\b_1.o=b_1.o/\qs i64 o (0=0/\0=0/\qx (length b_1.o) (ql o (b_2.i=b_2.i/\b_2.i=b_2.i/\false=false/\ql o (qx (b_3.k+1) ((∃
 (m:Nat),b_3.k+1=(↑m:Int)/\m<=length o/\false=frK r (rkF o) b_1.o b_2.i m)/\length o-Int.toNat (b_3.k+1)<length o-Int.toNat b_3.k/\True)))))))))))/\(ltb b_3.k
 (↑(length o):Int)=false->(b_3.f=true->qx (length b_1.o) (A0R ((length b_1.o+1)*8) 140737488355328=true/\A0R (length b_1.o+1) (length o)=true/\1=1/\qs i64 a (qs u8 k
 (qs i64 r (8=8/\rkF o=rkF o/\length b_1.o+1=length (b_1.o++[b_2.i])/\length o=length o/\b_1.o++[b_2.i]=b_1.o++[b_2.i]/\qs i64 o (0=0/\0=0/\length b_1.o+1=
 length (b_1.o++[b_2.i])/\(∃(m:Nat),m<=length o/\b_1.o++[b_2.i]=A3H r (rkF o) (length o) m)/\length o-length (b_1.o++[b_2.i])<length o-length b_1.o/\True))))))/\
 (b_3.f=false->inR i64 (b_2.i+1)=true/\1=1/\qs i64 a (qs u8 k (qs i64 r (8=8/\rkF o=rkF o/\qx (length b_1.o) (length o=length o/\b_1.o=b_1.o/\qs i64 o (0=0/\0=0/\
 qx (length b_1.o) (ql o (qx (b_2.i+1) ((∃(m:Nat),b_2.i+1=(↑m:Int)/\m<=length o/\∀(j:Nat),j<m->frK r (rkF o) b_1.o (↑j:Int) (length o)=false)/\length o-Int.toNat
 (b_2.i+1)<length o-Int.toNat b_2.i/\True))))))))))) (!leb zz5 zz6)) (!!leb zz5 zz6)) (!A1q b_1.o b_3.k)) (!!A1q b_1.o b_3.k)) (∃(m:Nat),b_3.k+1=(↑m:Int)/\m<=length o/\
 true=frK r (rkF o) b_1.o b_2.i m)) (getD (rkF o) (Int.toNat b_3.k) 0))))))))))/\(ltb b_2.i (↑(length o):Int)=false->1=1/\qs i64 a (qs u8 k (qs i64 r (8=8/\rkF o=rkF o/\qx
 (length b_1.o) (length o=length o/\b_1.o=b_1.o/\qs i64 o (0=0/\0=0/\qx (length b_1.o) (zz7/\length o-length b_1.o<length o-length b_1.o/\True)))))))) (getD (rkF o)
 (Int.toNat b_2.i) 0)))))))))/\(ltb (↑(length b_1.o):Int) (↑(length o):Int)=false->qx (length b_1.o) (Cont.ints i64 b_1.o=Cont.ints i64 (A0I r o)/\length b_1.o=length (A0I
 r o)/\length o=length (A0I r o)/\True)))) (∃(m:Nat),m<=length o/\b_1.o=A3H r (rkF o) (length o) m)))))):=by kernel_rfl
open List IntKind
theorem C14 (x:Int):fnP (T0) Gs 10000 B9c (.r [] 0 (.r [] 0 .nil)) ([.int .i64 x]) ([.bool false]) ([])=(
 (x !=x)=false/\True):=by kernel_rfl
theorem C15 (x y:Int):fnP (TS1) Gs 10000 C8i (.r [] 0 (.r [] 1 (.r [] 1 (.r [] 0 (.lit (.r [] 0 (.lit (.r [] 0 (.cnd (.r [] 0 .nil) (.r [] 0 (.cnd (.r [] 0 .nil) (.r [] 0 .nil)))))))))))) ([.int .i64 x,.int .i64 y]) ([.int .i64 (cmI x y)]) ([])=(
 (ltb x y=true-> -1=cmI x y/\True)/\(ltb x y=false->(ltb y x=true->1=cmI x y/\True)/\(ltb y x=false->0=cmI x y/\True))):=by kernel_rfl
theorem C16 (a b:List Int):fnP (TS2) Gs 10000 C75 (.r [] 0 (.r [] 0 (.lp (l62 a b) [] [] (fun b_1=>(.r [] 0 (.cnd (.r [] 0 (.r [] 0 (.cnd (.r [] 0 .nil) (.r [] 0 (.r [] 1 (.r [] 0 (.cnd (.r [] 0 .nil) (.r [] 0 .nil)))))))) (.r [] 0 (.cnd (.r [] 0 .nil) (.r [] 0 .nil))))))))) ([A3X .i64 a,A3X .i64 b]) ([.int .i64 (A2l a b)]) ([])=(
 qs i64 a (qs i64 b (qs i64 a (ql a (iI 0=0/\(∃(m:Nat),0=(↑m:Int)/\m<=length a/\m<=length b/\A2l (drop m a) (drop m b)=A2l a b)/\∀(b_1:L83),(fun(zz0:Bool)=>(∃(m
 :Nat),b_1.i=(↑m:Int)/\m<=length a/\m<=length b/\A2l (drop m a) (drop m b)=A2l a b)->(ltb b_1.i (↑(length a):Int)=true->rd i64 a b_1.i ((leb (↑(length b):Int) b_1.i=
 true->1=A2l a b/\True)/\(leb (↑(length b):Int) b_1.i=false->rd i64 b b_1.i ((zz0=true->cmI (getD (drop (Int.toNat b_1.i) a) 0 0) (getD (drop (Int.toNat b_1.i) b) 0 0)=A2l a
 b/\True)/\(zz0=false->inR i64 (b_1.i+1)=true/\qs i64 a (qs i64 b (qs i64 a (ql a (qx (b_1.i+1) ((∃(m:Nat),b_1.i+1=(↑m:Int)/\m<=length a/\m<=length b/\A2l (drop m
 a) (drop m b)=A2l a b)/\length a-Int.toNat (b_1.i+1)<length a-Int.toNat b_1.i/\True))))))))))/\(ltb b_1.i (↑(length a):Int)=false->(ltb (↑(length a):Int) (↑(length b):
 Int)=true-> -1=A2l a b/\True)/\(ltb (↑(length a):Int) (↑(length b):Int)=false->0=A2l a b/\True))) (cmI (getD (drop (Int.toNat b_1.i) a) 0 0) (getD (drop (Int.toNat b_1.i)
 b) 0 0) !=0)))))):=by kernel_rfl
def C90 (q:Nat)(h:List (Nat×HO))(cv:AV)(args:List AV):Option Cx:=
 match cv,args,aget h 194 with
 |.fn f [] [],[.full i n,.int .i64 x],some (.blk ⟨.ints _ l,_,_,_,_,_,_⟩)=>cond (Nat.beq f 90&&Nat.beq i 194) (some ⟨.int .i64 (A2P x l 0),[],some (h=[(194,.blk (C0v l q))]/\n=l.length/\l.length<1000000)⟩) none
 |_,_,_=>none
def T72 (q:Nat):Tab:=A2t [] (C90 q)
open List IntKind
theorem C17 (l:List Int)(q:Nat)(x:Int):fnD (T0) G 10000 (C4G) (.r [] 0 (.r [] 0 (.lp (l83 l x) [] [] (fun b=>(.r [] 0 (.cnd (.r [] 0 (.r [] 0 (.cnd (.r [] 0 .nil) (.r [] 0 .nil)))) (.r [] 0 .nil))))))) ([.full 194 l.length,.int .i64 x]) ([(194,.blk (C0v l q))]) ([.int .i64 (A2P x l 0)]) ([])=(
 length l=length l/\length l=length l/\q=q/\l=l/\length l=length l/\x=x/\ql l (iI 0=0/\(∃(n:Nat),0=(↑n:Int)/\n<=length l/\A2P x (drop n l) (↑n:Int)=A2P x
 l 0)/\∀(b:L83),(∃(n:Nat),b.i=(↑n:Int)/\n<=length l/\A2P x (drop n l) (↑n:Int)=A2P x l 0)->(ltb b.i (↑(length l):Int)=true->leb 0 b.i=true/\ltb b.i (↑(length l)
 :Int)=true/\length l=length l/\length l=length l/\ltn (Int.toNat b.i) (Cont.size (Cont.ints i64 l))=true/\((x==getD l (Int.toNat b.i) 0)=true->length l=length l/\q=q/\
 l=l/\b.i=A2P x l 0/\True)/\((x==getD l (Int.toNat b.i) 0)=false->inR i64 (b.i+1)=true/\length l=length l/\q=q/\l=l/\length l=length l/\x=x/\ql l (b.i+1=
 b.i+1/\(∃(n:Nat),b.i+1=(↑n:Int)/\n<=length l/\A2P x (drop n l) (↑n:Int)=A2P x l 0)/\length l-Int.toNat (b.i+1)<length l-Int.toNat b.i/\True)))/\(ltb b.i
 (↑(length l):Int)=false->length l=length l/\q=q/\l=l/\ -1=A2P x l 0/\True))):=by kernel_rfl
theorem C18 (l:List Int)(q:Nat)(x:Int):fnD (T72 q) G 10000 (C4F) (.r [] 0 (.r [(130,.auto,Dr.heap)] 0 .nil)) ([.full 194 l.length,.int .i64 x]) ([(194,.blk (C0v l q))]) ([.bool (A1q l x)]) ([])=(
 ([(194,HO.blk (Blk.mk (Cont.ints i64 l) 1 (length l) (some q) (some false) true false))]=[(194,HO.blk (Blk.mk (Cont.ints i64 l) 1 (length l) (some q) (some false) true false))]/\length l=length
 l/\length l<1000000)/\length l=length l/\q=q/\l=l/\leb 0 (A2P x l 0)=A1q l x/\True):=by kernel_rfl
open List IntKind
theorem C19 (a k:List Int):fnP (T0) G 10000 C8g (.r [] 0 (.r [] 1 (.lp (D5P a) [] [] (fun b=>(.r [] 0 (.cnd (.r [] 0 (.r [] 1 (.cnd (.r [] 0 (.r [] 0 .nil)) (.r [] 0 (.r [] 0 .nil))))) (.r [] 0 .nil))))))) ([A2W a k]) ([.int .i64 (A2X true a),.int .i64 (A2X false a)]) ([])=(
 1=1/\qs i64 a (qs u8 k (iI 0=0/\iI 0=0/\qs i64 a (ql a (iI 0=0/\(∃(m:Nat),0=(↑m:Int)/\m<=length a/\0=A2X true (take m a)/\0=A2X false (take m a))/\∀(b:L79),
 (fun(zz0:List Int)=>(∃(m:Nat),b.i=(↑m:Int)/\m<=length a/\b.e=A2X true (take m a)/\b.o=A2X false (take m a))->(ltb b.i (↑(length a):Int)=true->rd i64 a b.i
 (((Int.tmod b.i 2==0)=true->inR i64 (b.e+getD zz0 0 0)=true/\inR i64 (b.i+1)=true/\1=1/\qs i64 a (qs u8 k (qx (b.e+getD zz0 0 0) (b.o=b.o/\qs i64 a (ql a (b.i+1=
 b.i+1/\(∃(m:Nat),b.i+1=(↑m:Int)/\m<=length a/\b.e+getD zz0 0 0=A2X true (take m a)/\b.o=A2X false (take m a))/\length a-Int.toNat (b.i+1)<length a-Int.toNat
 b.i/\True))))))/\((Int.tmod b.i 2==0)=false->inR i64 (b.o+getD zz0 0 0)=true/\inR i64 (b.i+1)=true/\1=1/\qs i64 a (qs u8 k (b.e=b.e/\qx (b.o+getD zz0 0 0) (qs i64 a
 (ql a (b.i+1=b.i+1/\(∃(m:Nat),b.i+1=(↑m:Int)/\m<=length a/\b.e=A2X true (take m a)/\b.o+getD zz0 0 0=A2X false (take m a))/\length a-Int.toNat (b.i+1)<
 length a-Int.toNat b.i/\True))))))))/\(ltb b.i (↑(length a):Int)=false->b.e=A2X true a/\b.o=A2X false a/\True)) (drop (Int.toNat b.i) a)))))):=by kernel_rfl
theorem C2a (a k:List Int):fnP (T0) G 10000 C73 (.r [] 0 (.r [] 3 .nil)) ([A2W a k]) ([.bool ((a.length:Int).tmod 2==1)]) ([])=(
 (Int.tmod (↑(length a):Int) 2==1)=(Int.tmod (↑(length a):Int) 2==1)/\True):=by kernel_rfl
theorem C2b (a k:List Int):fnP (D4D) G 10000 C74 (.r [] 0 (.r [] 13 (.r [] 0 .nil))) ([A2W a k]) ([.bool (A2X true a !=A2X false a)]) ([])=(
 (length a=length a/\length k=length k/\chk a k=0)/\(A2X true a !=A2X false a)=(A2X true a !=A2X false a)/\True):=by kernel_rfl
theorem C2c (a k:List Int):fnP (TB2) G 10000 C7M (.r [] 0 (.r [] 1 (.r [] 0 (.cnd (.r [] 0 .nil) (.rs 4 [] 1 13 (.r [] 13 .nil) (.r [] 3 .nil)))))) ([A2W a k]) ([.bool (A0l a k),.int .i64 (chk a k)]) ([])=(
 (length a=length a/\length k=length k/\length a<1000000000000)/\((chk a k !=0)=true->false=A0l a k/\chk a k=chk a k/\True)/\((chk a k !=0)=false->(length a=length a/\length
 k=length k)/\((!Int.tmod (↑(length a):Int) 2==1)=true->(length a=length a/\length k=length k/\chk a k=0)/\(!A2X true a !=A2X false a)=A0l a k/\0=chk a k/\True)/\
 ((!Int.tmod (↑(length a):Int) 2==1)=false->false=A0l a k/\0=chk a k/\True))):=by kernel_rfl
theorem C2d (a k:List Int):fnP (TB3) G 10000 C7t (.r [] 0 (.r [] 13 (.rs 2 [] 0 11 (.r [] 3 .nil) (.r [] 3 .nil)))) ([A2W a k]) ([.bool (A0l a k)]) ([])=(
 (length a=length a/\length k=length k/\length a<1000000)/\(A0l a k=true->(chk a k==0)=A0l a k/\True)/\(A0l a k=false->false=A0l a k/\True)):=by kernel_rfl
theorem C2e (a k:List Int):fnP (TB3) G 10000 C7P (.r [] 0 (.r [] 13 (.br (chk a k==0) (.r [] 0 (.ff (.br (A0l a k) (.r [] 0 (.ff (.r [] 3 (.r [] 1 (.lp (D5Q a [AV.imm (Cont.ints i64 a) (length a) none,AV.imm (Cont.ints u8 k) (length k) none]) [] [] (fun b=>(.r [] 0 (.cnd (.r [] 0 (.r [] 49283 (.r [] 0 .nil))) (.frz 6 0 (.r [] 3 .nil)))))))))) (.r [] 0 (.tt (.r [] 1 .nil)))))) (.r [] 0 (.tt (.r [] 1 .nil)))))) ([A2W a k]) ([C8q a k,.int .i64 (ofE a k)]) ([])=(
 (length a=length a/\length k=length k/\length a<1000000)/\((chk a k==0)=true->(chk a k !=0)=false/\(A0l a k=true->(!A0l a k)=false/\1=1/\qs i64 a (qs u8 k (1=1
 /\1=1/\iL [0]=[0]/\1=1/\qs i64 a (qs u8 k (1=1/\0=0/\0=0/\qs i64 a (ql a (iI 0=0/\(∃(m:Nat),0=(↑m:Int)/\m<=length a/\[0]=take (m+1) (A0b a))/\∀(b:
 L37),(fun(zz0:List Int)=>(∃(m:Nat),b.i=(↑m:Int)/\m<=length a/\b.r=take (m+1) (A0b a))->(ltb b.i (↑(length a):Int)=true->rd i64 a b.i (leb 0 b.i=true/\ltb b.i
 (↑(length b.r):Int)=true/\qx (length b.r) (qx (length b.r) (ltn (Int.toNat b.i) (Cont.size (Cont.ints i64 b.r))=true/\inR i64 (2*Int.tmod b.i 2)=true/\inR i64 (1-2*Int.tmod
 b.i 2)=true/\inR i64 (getD zz0 0 0*(1-2*Int.tmod b.i 2))=true/\inR i64 (getD b.r (Int.toNat b.i) 0+getD zz0 0 0*(1-2*Int.tmod b.i 2))=true/\qx (length b.r) (A0R
 ((length b.r+1)*8) 140737488355328=true/\inR i64 (b.i+1)=true/\1=1/\qs i64 a (qs u8 k (1=1/\length b.r+1=length (b.r++[getD b.r (Int.toNat b.i) 0+getD zz0 0 0*(1
 -2*Int.tmod b.i 2)])/\b.r++[getD b.r (Int.toNat b.i) 0+getD zz0 0 0*(1-2*Int.tmod b.i 2)]=b.r++[getD b.r (Int.toNat b.i) 0+getD zz0 0 0*(1-2*Int.tmod b.i 2)]/\1=
 1/\qs i64 a (qs u8 k (length b.r+1=length (b.r++[getD b.r (Int.toNat b.i) 0+getD zz0 0 0*(1-2*Int.tmod b.i 2)])/\0=0/\0=0/\qs i64 a (ql a (b.i+1=b.i+1/\(∃(m:
 Nat),b.i+1=(↑m:Int)/\m<=length a/\b.r++[getD b.r (Int.toNat b.i) 0+getD zz0 0 0*(1-2*Int.tmod b.i 2)]=take (m+1) (A0b a))/\length a-Int.toNat (b.i+1)<length
 a-Int.toNat b.i/\True)))))))))))/\(ltb b.i (↑(length a):Int)=false->qx (length b.r) (Cont.ints i64 a=Cont.ints i64 (bLs (A0l a k) a)/\length a=length (bLs (A0l a k) a)/\
 Cont.ints u8 k=Cont.ints u8 (bLs (A0l a k) k)/\length k=length (bLs (A0l a k) k)/\Cont.ints i64 b.r=Cont.ints i64 (bLs (A0l a k) (A0b a))/\length b.r=length (bLs (A0l a k)
 (A0b a))/\0=ofE a k/\True))) (drop (Int.toNat b.i) a))))))))/\(A0l a k=false->(!A0l a k)=true/\Cont.size (Cont.ints i64 (bLs (A0l a k) a))=0/\length (bLs (A0l a k) a)=0
 /\Cont.size (Cont.ints u8 (bLs (A0l a k) k))=0/\length (bLs (A0l a k) k)=0/\Cont.size (Cont.ints i64 (bLs (A0l a k) (A0b a)))=0/\length (bLs (A0l a k) (A0b a))=0/\14=
 ofE a k/\True))/\((chk a k==0)=false->(chk a k !=0)=true/\Cont.size (Cont.ints i64 (bLs (A0l a k) a))=0/\length (bLs (A0l a k) a)=0/\Cont.size (Cont.ints u8 (bLs (A0l a
 k) k))=0/\length (bLs (A0l a k) k)=0/\Cont.size (Cont.ints i64 (bLs (A0l a k) (A0b a)))=0/\length (bLs (A0l a k) (A0b a))=0/\chk a k=ofE a k/\True)):=by kernel_rfl
theorem C2f (a k:List Int):fnP (TB4) G 10000 C7F (.r [] 0 (.r [] 29 (.br (ofE a k==0) (.r [] 0 (.ff (.r [] 7 .nil))) (.r [] 0 (.tt (.r [] 0 .nil)))))) ([A2W a k]) ([A10 .i64 (bLs (A0l a k) ((A0b a).take a.length)),.int .i64 (ofE a k)]) ([])=(
 (fun(zz1:List Int)=>(fun(zz0:List Int)=>(length a=length a/\length k=length k/\length a<1000000)/\((ofE a k==0)=true->(ofE a k !=0)=false/\A0R (Int.toNat
 (↑(length a):Int)) (length (bLs (A0l a k) (A0b a)))=true/\Cont.size (Cont.ints i64 (bLs (A0l a k) (A0b a)))=length (bLs (A0l a k) (A0b a))/\Int.toNat (↑(length a):Int)=
 length zz1/\Cont.ints i64 zz1=Cont.ints i64 (bLs (A0l a k) zz0)/\Int.toNat (↑(length a):Int)=length (bLs (A0l a k) zz0)/\Int.toNat (↑(length a):Int)=length (bLs (A0l a k)
 zz0)/\0=ofE a k/\True)/\((ofE a k==0)=false->(ofE a k !=0)=true/\Cont.size (Cont.ints i64 (bLs (A0l a k) zz0))=0/\length (bLs (A0l a k) zz0)=0/\length (bLs (A0l a k)
 zz0)=0/\ofE a k=ofE a k/\True)) (take (length a) (A0b a))) (take (Int.toNat (↑(length a):Int)) (bLs (A0l a k) (A0b a)))):=by kernel_rfl
theorem C2g (a k o:List Int):fnP (TB5) G 10000 C7Z (.r [] 0 (.r [] 29 (.br (ofE a k==0) (.r [] 0 (.ff (.r [] 1 (.cnd (.r [] 3 .nil) (.r [] 0 (.lp (D5R o) [] [] (fun b=>(.r [] 0 (.cnd (.r [] 0 (.r [] 0 (.cnd (.r [] 3 .nil) (.r [] 0 .nil)))) (.r [] 3 .nil)))))))))) (.r [] 0 (.tt (.r [] 3 .nil)))))) ([A2W a k,A3X .i64 o]) ([C8q a k,.int .i64 (A4v a k o)]) ([])=(
 (length a=length a/\length k=length k/\length a<1000000)/\((ofE a k==0)=true->(ofE a k !=0)=false/\(((↑(length o):Int) !=(↑(length a):Int))=true->qs i64 (bLs (A0l
 a k) a) (qs u8 (bLs (A0l a k) k) (qs i64 (bLs (A0l a k) (A0b a)) (5=A4v a k o/\True))))/\(((↑(length o):Int) !=(↑(length a):Int))=false->1=1/\qs i64 a (qs u8 k (1=1/\1
 =1/\qs i64 (bLs (A0l a k) a) (qs u8 (bLs (A0l a k) k) (qs i64 (bLs (A0l a k) (A0b a)) (qs i64 o (0=0/\0=0/\ql o (iI 0=0/\(∃(m:Nat),0=(↑m:Int)/\m<=length o/\∀(j:
 Nat),j<m->A1q o (↑j:Int)=true)/\∀(b:L83),(∃(m:Nat),b.i=(↑m:Int)/\m<=length o/\∀(j:Nat),j<m->A1q o (↑j:Int)=true)->(ltb b.i (↑(length o):Int)=true->
 (length o=length o/\length o<1000000000000)/\((!A1q o b.i)=true->qs i64 (bLs (A0l a k) a) (qs u8 (bLs (A0l a k) k) (qs i64 (bLs (A0l a k) (A0b a)) (1=A4v a k o/\True))))/\
 ((!A1q o b.i)=false->inR i64 (b.i+1)=true/\1=1/\qs i64 a (qs u8 k (1=1/\1=1/\qs i64 (bLs (A0l a k) a) (qs u8 (bLs (A0l a k) k) (qs i64 (bLs (A0l a k) (A0b a)) (qs i64
 o (0=0/\0=0/\ql o (b.i+1=b.i+1/\(∃(m:Nat),b.i+1=(↑m:Int)/\m<=length o/\∀(j:Nat),j<m->A1q o (↑j:Int)=true)/\length o-Int.toNat (b.i+1)<length o-
 Int.toNat b.i/\True)))))))))/\(ltb b.i (↑(length o):Int)=false->qs i64 (bLs (A0l a k) a) (qs u8 (bLs (A0l a k) k) (qs i64 (bLs (A0l a k) (A0b a)) (0=A4v a k o/\
 True)))))))))))))/\((ofE a k==0)=false->(ofE a k !=0)=true/\qs i64 (bLs (A0l a k) a) (qs u8 (bLs (A0l a k) k) (qs i64 (bLs (A0l a k) (A0b a)) (ofE a k=A4v a k o/\True))))):=by kernel_rfl
theorem C2h (a k o:List Int):fnP (TB6) G 10000 C7G (.r [] 0 (.r [] 29 (.r [] 0 (.cnd (.r [] 0 .nil) (.r [] 2 (.r [] 3 (.cnd (.r [] 0 .nil) (.r [] 3 (.cnd (.r [] 0 .nil) (.r [] 0 .nil)))))))))) ([A2W a k,A3X .i64 o]) ([.int .i64 (A3n a k o)]) ([])=(
 (length a=length a/\length k=length k/\length a<1000000/\length o=length o/\length o<1000000)/\((A4v a k o !=0)=true->A4v a k o=A3n a k o/\True)/\((A4v a k o !=0)=false->
 (length o=length o/\okO o)/\(cok (bLs (A0l a k) a) (bLs (A0l a k) k) (bLs (A0l a k) (A0b a)) (length (bLs (A0l a k) a)) (length (bLs (A0l a k) k)) (length (bLs (A0l a k) (A0b a)))/\
 length (bLs (A0l a k) a)<=8/\length (bLs (A0l a k) (A0b a))=length (bLs (A0l a k) a)+1)/\(A4y (length (bLs (A0l a k) a)) (bLs (A0l a k) (A0b a)) (rkL o)=true->12=A3n a k o/\
 True)/\(A4y (length (bLs (A0l a k) a)) (bLs (A0l a k) (A0b a)) (rkL o)=false->(cok (bLs (A0l a k) a) (bLs (A0l a k) k) (bLs (A0l a k) (A0b a)) (length (bLs (A0l a k) a)) (length (bLs
 (A0l a k) k)) (length (bLs (A0l a k) (A0b a)))/\length (bLs (A0l a k) a)<=8/\length (bLs (A0l a k) k)=length (bLs (A0l a k) a))/\(A7h (bLs (A0l a k) k) (rkL o)=true->13=A3n a k o
 /\True)/\(A7h (bLs (A0l a k) k) (rkL o)=false->0=A3n a k o/\True)))):=by kernel_rfl
theorem C2i (ks:List Int):fnP (T0) G 10000 C1v (.r [] 0 (.nl 1 [] 0 3 (.r [] 0 (.lit (.r [] 0 (.frz 2 0 .nil)))) (.r [] 0 (.lit (.r [] 1 (.frz 2 0 .nil)))))) ([A3X .i64 ks]) ([A3X .i64 ks]) ([])=(
 (length ks=0/\Cont.size (Cont.ints i64 ks)=0->Cont.size (Cont.ints i64 ks)=0/\length ks=0/\True)/\A0R ((0+length ks)*8) 140737488355328=true/\Cont.size (Cont.ints i64 ks)=length
 ks/\0+length ks=0+length ks/\Cont.ints i64 ([]++ks)=Cont.ints i64 ks/\0+length ks=length ks/\True):=by kernel_rfl
theorem C2j (a k o:List Int):fnP (TB7) G 10000 C7I (.r [] 0 (.r [] 1 (.br (A3n a k o !=0) (.r [yL 195,yL 196,(197,.auto,Dr.pk true)] 30 (.cnd (.r [] 1 .nil) (.r [] 29 (.r [] 153 (.r [] 1 (.lp (D4E a o k (A10 i64 a)) [] [] (fun b=>(.r [] 0 (.cnd (.r [] 0 (.r [] 3 (.r [] 0 .nil))) (.frz 9 0 (.r [] 3 .nil))))))))))) (.r [(195,.off,Dr.plain),(196,.off,Dr.plain),(197,.auto,Dr.pk false)] 20 (.lit (.r [] 29 (.r [] 153 (.r [] 1 (.lp (D4E a o k (A10 i64 a)) [] [] (fun b=>(.r [] 0 (.cnd (.r [] 0 (.r [] 3 (.r [] 0 .nil))) (.frz 9 0 (.r [] 3 .nil)))))))))))))) ([A2W a k,A3X .i64 o]) ([.agg [A10 .i64 (bLs (A1e a k o) a),A10 .u8 (bLs (A1e a k o) (kdL a o))],.int .i64 (B1j a k o)]) ([])=(
 (fun(zz1:Nat)=>(fun(zz0:Nat)=>(fun(zz2:Prop)=>(length a=length a/\length k=length k/\length a<1000000/\length o=length o/\length o<1000000)/\((A3n a k o !=0)
 =true->(A3n a k o !=0)=true/\((A3n a k o !=13)=true->Cont.size (Cont.ints i64 (bLs (A1e a k o) a))=0/\length (bLs (A1e a k o) a)=0/\length (bLs (A1e a k o) a)=0/\
 Cont.size (Cont.ints u8 (bLs (A1e a k o) (kdL a o)))=0/\length (bLs (A1e a k o) (kdL a o))=0/\length (bLs (A1e a k o) (kdL a o))=0/\A3n a k o=B1j a k o/\True)/\((A3n a k o
 !=13)=false->(length a=length a/\length k=length k/\length a<1000000)/\(length a=length a/\length a<1000000)/\length a=length a/\leb (↑(length k):Int) (↑(length k):
 Int)=true/\leb ((↑(length k):Int)*1) 140737488355328=true/\qx zz0 (1=1/\qs i64 a (qs u8 k (1=1/\1=1/\qs i64 (bLs (A0l a k) a) (qs u8 (bLs (A0l a k) k) (qs i64 (bLs (A0l
 a k) (A0b a)) (Int.toNat (↑(length k):Int)=length k/\Int.toNat (↑(length k):Int)=length k/\qx (replicate zz0 (0:Int)) (1=1/\qs i64 a (length a=length a/\qx zz0 (qs i64 o
 (0=0/\0=0/\0=0/\qx (↑zz0:Int) (iI 0=0/\zz2/\∀(b:L29),(∃(m:Nat),b.i=(↑m:Int)/\m<=length k/\b.k=take m (kdL a o)++replicate (length k-m) (0:Int))->(ltb
 b.i (↑zz0:Int)=true->(length o=length o/\okO o)/\(cok (bLs (A0l a k) a) (bLs (A0l a k) k) (bLs (A0l a k) (A0b a)) zz1 (length (bLs (A0l a k) k)) (length (bLs (A0l a k) (A0b
 a)))/\0<length (bLs (A0l a k) a)/\length (bLs (A0l a k) a)<=8/\0<=b.i/\b.i<(↑zz1:Int))/\leb 0 b.i=true/\ltb b.i (↑zz0:Int)=true/\length k=Int.toNat (↑(length k):
 Int)/\length k=Int.toNat (↑(length k):Int)/\A0R (Int.toNat b.i+1) (Cont.size (Cont.ints u8 b.k))=true/\inR i64 (b.i+1)=true/\1=1/\qs i64 a (qs u8 k (1=1/\1=1/\qs
 i64 (bLs (A0l a k) a) (qs u8 (bLs (A0l a k) k) (qs i64 (bLs (A0l a k) (A0b a)) (length k=length k/\length k=length k/\qx (set b.k (Int.toNat b.i) (kdI (↑zz1:Int) (rkL o) b.i))
 (1=1/\qs i64 a (length a=length a/\qx zz0 (qs i64 o (0=0/\0=0/\0=0/\qx (↑zz0:Int) (b.i+1=b.i+1/\(∃(m:Nat),b.i+1=(↑m:Int)/\m<=length k/\set b.k (Int.toNat
 b.i) (kdI (↑zz1:Int) (rkL o) b.i)=take m (kdL a o)++replicate (length k-m) (0:Int))/\length k-Int.toNat (b.i+1)<length k-Int.toNat b.i/\True)))))))))))/\(ltb b.i (↑zz0:
 Int)=false->length k=Int.toNat (↑(length k):Int)/\Cont.ints i64 a=Cont.ints i64 (bLs (A1e a k o) a)/\length a=length (bLs (A1e a k o) a)/\length a=length (bLs (A1e a k o)
 a)/\Cont.ints u8 b.k=Cont.ints u8 (bLs (A1e a k o) (kdL a o))/\Int.toNat (↑(length k):Int)=length (bLs (A1e a k o) (kdL a o))/\length k=length (bLs (A1e a k o) (kdL a o))/\0=
 B1j a k o/\True))))))))))))))/\((A3n a k o !=0)=false->(!A3n a k o !=0)=true/\(!A3n a k o !=0)=true/\(!A3n a k o !=0)=true/\(length a=length a/\length k=length k
 /\length a<1000000)/\(length a=length a/\length a<1000000)/\length a=length a/\leb (↑(length k):Int) (↑(length k):Int)=true/\leb ((↑(length k):Int)*1) 140737488355328
 =true/\qx zz0 (1=1/\qs i64 a (qs u8 k (1=1/\1=1/\qs i64 (bLs (A0l a k) a) (qs u8 (bLs (A0l a k) k) (qs i64 (bLs (A0l a k) (A0b a)) (Int.toNat (↑(length k):Int)=length k/\
 Int.toNat (↑(length k):Int)=length k/\qx (replicate zz0 (0:Int)) (1=1/\qs i64 a (length a=length a/\qx zz0 (qs i64 o (0=0/\0=0/\0=0/\qx (↑zz0:Int) (iI 0=0/\zz2/\∀
 (b:L29),(∃(m:Nat),b.i=(↑m:Int)/\m<=length k/\b.k=take m (kdL a o)++replicate (length k-m) (0:Int))->(ltb b.i (↑zz0:Int)=true->(length o=length o/\okO o)/\(cok
 (bLs (A0l a k) a) (bLs (A0l a k) k) (bLs (A0l a k) (A0b a)) zz1 (length (bLs (A0l a k) k)) (length (bLs (A0l a k) (A0b a)))/\0<length (bLs (A0l a k) a)/\length (bLs (A0l a k)
 a)<=8/\0<=b.i/\b.i<(↑zz1:Int))/\leb 0 b.i=true/\ltb b.i (↑zz0:Int)=true/\length k=Int.toNat (↑(length k):Int)/\length k=Int.toNat (↑(length k):Int)/\A0R
 (Int.toNat b.i+1) (Cont.size (Cont.ints u8 b.k))=true/\inR i64 (b.i+1)=true/\1=1/\qs i64 a (qs u8 k (1=1/\1=1/\qs i64 (bLs (A0l a k) a) (qs u8 (bLs (A0l a k) k) (qs i64
 (bLs (A0l a k) (A0b a)) (length k=length k/\length k=length k/\qx (set b.k (Int.toNat b.i) (kdI (↑zz1:Int) (rkL o) b.i)) (1=1/\qs i64 a (length a=length a/\qx zz0 (qs i64 o
 (0=0/\0=0/\0=0/\qx (↑zz0:Int) (b.i+1=b.i+1/\(∃(m:Nat),b.i+1=(↑m:Int)/\m<=length k/\set b.k (Int.toNat b.i) (kdI (↑zz1:Int) (rkL o) b.i)=take m (kdL a o)++
 replicate (length k-m) (0:Int))/\length k-Int.toNat (b.i+1)<length k-Int.toNat b.i/\True)))))))))))/\(ltb b.i (↑zz0:Int)=false->length k=Int.toNat (↑(length k):Int)/\
 Cont.ints i64 a=Cont.ints i64 (bLs (A1e a k o) a)/\length a=length (bLs (A1e a k o) a)/\length a=length (bLs (A1e a k o) a)/\Cont.ints u8 b.k=Cont.ints u8 (bLs (A1e a k o)
 (kdL a o))/\Int.toNat (↑(length k):Int)=length (bLs (A1e a k o) (kdL a o))/\length k=length (bLs (A1e a k o) (kdL a o))/\0=B1j a k o/\True)))))))))))))) (∃(m:Nat),0=(↑m
 :Int)/\m<=length k/\replicate zz0 (0:Int)=take m (kdL a o)++replicate (length k-m) (0:Int))) (Int.toNat (↑(length k):Int))) (length (bLs (A0l a k) a))):=by kernel_rfl
open List IntKind
theorem C5c (a k r:List Int)(c:Int):fnP (T0) G 10000 C8c (.r [] 0 (.r [] 1 (.r [] 0 .nil))) ([B5u a k r,.int .i64 c]) ([.int .i64 (bfI a.length c),.int .i64 c]) ([])=(
 inR i64 (c+(↑(length a):Int))=true/\inR i64 (c+(↑(length a):Int)-1)=true/\(!(↑(length a):Int)==0)=true/\Int.tmod (c+(↑(length a):Int)-1) (↑(length a):Int)=bfI
 (↑(length a):Int) c/\c=c/\True):=by kernel_rfl
theorem C5d (a k r:List Int)(y s:Int):fnP (T0) G 10000 C8d (.r [] 0 (.r [] 33 (.rs 6 [] 0 25 (.r [] 3 .nil) (.r [] 3 .nil)))) ([B5u a k r,.int .i64 y,.int .i64 s]) ([.bool (A5E r y s)]) ([])=(
 (fun(zz2:List Int)=>(fun(zz1:List Int)=>(fun(zz0:Int)=>rd i64 r s (inR i64 (s+1)=true/\rd i64 r (s+1) ((ltb zz0 y=true->ltb y (if getD zz1 0 0>getD zz2 0 0 then
 getD zz1 0 0 else getD zz2 0 0)=A5E r y s/\True)/\(ltb zz0 y=false->false=A5E r y s/\True)))) (if getD zz1 0 0<getD zz2 0 0 then getD zz1 0 0 else getD zz2 0 0)) (drop
 (Int.toNat (s+1)) r)) (drop (Int.toNat s) r)):=by kernel_rfl
theorem C5e (a k r:List Int)(c:Int):fnP (T0) G 10000 C8f (.r [] 0 (.r [] 65 .nil)) ([B5u a k r,.int .i64 c]) ([.bool (A42 r c)]) ([])=(
 inR i64 (c+1)=true/\rd i64 r (c+1) (rd i64 r c (ltb (getD (drop (Int.toNat c) r) 0 0) (getD (drop (Int.toNat (c+1)) r) 0 0)=A42 r c/\True))):=by kernel_rfl
theorem C5f (a k r:List Int)(c d:Int):fnP (T0) G 10000 C8h (.r [] 0 (.r [] 283606321185 .nil)) ([B5u a k r,.int .i64 c,.int .i64 d]) ([.bool (ovlB r c d)]) ([])=(
 (fun(zz3:List Int)=>(fun(zz2:List Int)=>(fun(zz1:List Int)=>(fun(zz0:List Int)=>rd i64 r c (inR i64 (c+1)=true/\rd i64 r (c+1) (rd i64 r d (inR i64 (d+1)=true
 /\rd i64 r (d+1) (rd i64 r c (inR i64 (c+1)=true/\rd i64 r (c+1) (rd i64 r d (inR i64 (d+1)=true/\rd i64 r (d+1) (ltb (if(if getD zz0 0 0<getD zz2 0 0 then getD zz0 0 0
 else getD zz2 0 0)>if getD zz1 0 0<getD zz3 0 0 then getD zz1 0 0 else getD zz3 0 0 then if getD zz0 0 0<getD zz2 0 0 then getD zz0 0 0 else getD zz2 0 0 else if getD zz1 0 0<getD
 zz3 0 0 then getD zz1 0 0 else getD zz3 0 0) (if(if getD zz0 0 0>getD zz2 0 0 then getD zz0 0 0 else getD zz2 0 0)<if getD zz1 0 0>getD zz3 0 0 then getD zz1 0 0 else getD zz3 0 0
 then if getD zz0 0 0>getD zz2 0 0 then getD zz0 0 0 else getD zz2 0 0 else if getD zz1 0 0>getD zz3 0 0 then getD zz1 0 0 else getD zz3 0 0)=ovlB r c d/\True))))))))) (drop (Int.toNat
 (d+1)) r)) (drop (Int.toNat (c+1)) r)) (drop (Int.toNat d) r)) (drop (Int.toNat c) r)):=by kernel_rfl
theorem C5g (a k r:List Int)(x0 x1 x2 x3 x4 x5 x6 x7 c s:Int):fnP (TA1) G 10000 C8e (.r [] 0 (.r [] 13 (.r [(194,.auto,Dr.val [AV.int i64 (gR [x0,x1,x2,x3,x4,x5,x6,x7] (bfI (↑(length a):Int) c))]),(197,.auto,Dr.val [AV.int i64 (gR [x0,x1,x2,x3,x4,x5,x6,x7] c)]),(201,.auto,Dr.val [AV.int i64 (gR [x0,x1,x2,x3,x4,x5,x6,x7] (bfI (↑(length a):Int) c))]),(204,.auto,Dr.val [AV.int i64 (gR [x0,x1,x2,x3,x4,x5,x6,x7] c)])] 0 (.rs 3 [] 0 35 (.rs 7 [(262,.auto,Dr.val [AV.int i64 (gR [x0,x1,x2,x3,x4,x5,x6,x7] s)])] 24 42 (.r [(268,.auto,Dr.val [AV.int i64 (gR [x0,x1,x2,x3,x4,x5,x6,x7] s)])] 24 .nil) (.r [(268,.auto,Dr.val [AV.int i64 (gR [x0,x1,x2,x3,x4,x5,x6,x7] s)])] 3 .nil)) (.r [(262,.auto,Dr.val [AV.int i64 (gR [x0,x1,x2,x3,x4,x5,x6,x7] s)]),(268,.auto,Dr.val [AV.int i64 (gR [x0,x1,x2,x3,x4,x5,x6,x7] s)])] 15 .nil))))) ([B5u a k r,r8V x0 x1 x2 x3 x4 x5 x6 x7,.int .i64 c,.int .i64 s]) ([.bool (A7g a.length [x0,x1,x2,x3,x4,x5,x6,x7] c s)]) ([])=(
 (fun(zz2:Int)=>(fun(zz1:Int)=>(fun(zz0:Int)=>(cok a k r (length a) (length k) (length r)/\0<length a/\length a<=8/\0<=c/\c<(↑(length a):Int))/\leb 0 zz1=true/\
 ltb zz1 8=true/\[AV.int i64 x0,AV.int i64 x1,AV.int i64 x2,AV.int i64 x3,AV.int i64 x4,AV.int i64 x5,AV.int i64 x6,AV.int i64 x7][Int.toNat zz1]? =some (AV.int i64 (gR [x0,x1,
 x2,x3,x4,x5,x6,x7] zz1))/\leb 0 c=true/\ltb c 8=true/\[AV.int i64 x0,AV.int i64 x1,AV.int i64 x2,AV.int i64 x3,AV.int i64 x4,AV.int i64 x5,AV.int i64 x6,AV.int i64
 x7][Int.toNat c]? =some (AV.int i64 (gR [x0,x1,x2,x3,x4,x5,x6,x7] c))/\leb 0 zz1=true/\ltb zz1 8=true/\[AV.int i64 x0,AV.int i64 x1,AV.int i64 x2,AV.int i64 x3,AV.int i64
 x4,AV.int i64 x5,AV.int i64 x6,AV.int i64 x7][Int.toNat zz1]? =some (AV.int i64 (gR [x0,x1,x2,x3,x4,x5,x6,x7] zz1))/\leb 0 c=true/\ltb c 8=true/\[AV.int i64 x0,AV.int i64
 x1,AV.int i64 x2,AV.int i64 x3,AV.int i64 x4,AV.int i64 x5,AV.int i64 x6,AV.int i64 x7][Int.toNat c]? =some (AV.int i64 (gR [x0,x1,x2,x3,x4,x5,x6,x7] c))/\(leb 0 zz0=true->
 leb 0 s=true/\ltb s 8=true/\[AV.int i64 x0,AV.int i64 x1,AV.int i64 x2,AV.int i64 x3,AV.int i64 x4,AV.int i64 x5,AV.int i64 x6,AV.int i64 x7][Int.toNat s]? =some (AV.int i64
 zz2)/\(ltb zz0 zz2=true->leb 0 s=true/\ltb s 8=true/\[AV.int i64 x0,AV.int i64 x1,AV.int i64 x2,AV.int i64 x3,AV.int i64 x4,AV.int i64 x5,AV.int i64 x6,AV.int i64
 x7][Int.toNat s]? =some (AV.int i64 zz2)/\ltb zz2 (if gR [x0,x1,x2,x3,x4,x5,x6,x7] c>gR [x0,x1,x2,x3,x4,x5,x6,x7] zz1 then gR [x0,x1,x2,x3,x4,x5,x6,x7] c else gR
 [x0,x1,x2,x3,x4,x5,x6,x7] zz1)=A7g (↑(length a):Int) [x0,x1,x2,x3,x4,x5,x6,x7] c s/\True)/\(ltb zz0 zz2=false->false=A7g (↑(length a):Int) [x0,x1,x2,x3,x4,
 x5,x6,x7] c s/\True))/\(leb 0 zz0=false->false=A7g (↑(length a):Int) [x0,x1,x2,x3,x4,x5,x6,x7] c s/\True)) (if gR [x0,x1,x2,x3,x4,x5,x6,x7] c<gR [x0,x1,x2,x3,
 x4,x5,x6,x7] zz1 then gR [x0,x1,x2,x3,x4,x5,x6,x7] c else gR [x0,x1,x2,x3,x4,x5,x6,x7] zz1)) (bfI (↑(length a):Int) c)) (gR [x0,x1,x2,x3,x4,x5,x6,x7] s)):=by kernel_rfl
theorem C5h (a k r:List Int)(x0 x1 x2 x3 x4 x5 x6 x7 c:Int):fnP (TA1) G 10000 C72 (.r [] 0 (.r [] 13 (.br (Int.tmod (bfI (↑(length a):Int) c) 2==0) (.r [] 1 (.tt (.r [] 0 (.r [(322,.auto,Dr.val [AV.int i64 (gR [x0,x1,x2,x3,x4,x5,x6,x7] c)]),(325,.auto,Dr.val [AV.int i64 (gR [x0,x1,x2,x3,x4,x5,x6,x7] (bfI (↑(length a):Int) c))])] 0 (.cnd (.r [] 0 .nil) (.r [] 0 .nil)))))) (.r [] 1 (.ff (.r [(322,.auto,Dr.val [AV.int i64 (gR [x0,x1,x2,x3,x4,x5,x6,x7] (bfI (↑(length a):Int) c))]),(325,.auto,Dr.val [AV.int i64 (gR [x0,x1,x2,x3,x4,x5,x6,x7] c)])] 0 (.cnd (.r [] 0 .nil) (.r [] 0 .nil)))))))) ([B5u a k r,r8V x0 x1 x2 x3 x4 x5 x6 x7,.int .i64 c]) ([.int .u8 (kdI a.length [x0,x1,x2,x3,x4,x5,x6,x7] c)]) ([])=(
 (fun(zz2:Int)=>(fun(zz0:Int)=>(fun(zz3:Bool)=>(fun(zz1:Int)=>(cok a k r (length a) (length k) (length r)/\0<length a/\length a<=8/\0<=c/\c<(↑(length a):Int))
 /\(zz3=true->zz3=true/\leb 0 c=true/\ltb c 8=true/\[AV.int i64 x0,AV.int i64 x1,AV.int i64 x2,AV.int i64 x3,AV.int i64 x4,AV.int i64 x5,AV.int i64 x6,AV.int i64
 x7][Int.toNat c]? =some (AV.int i64 zz2)/\leb 0 zz0=true/\ltb zz0 8=true/\[AV.int i64 x0,AV.int i64 x1,AV.int i64 x2,AV.int i64 x3,AV.int i64 x4,AV.int i64 x5,AV.int i64 x6,
 AV.int i64 x7][Int.toNat zz0]? =some (AV.int i64 zz1)/\(ltb zz1 zz2=true->2=kdI (↑(length a):Int) [x0,x1,x2,x3,x4,x5,x6,x7] c/\True)/\(ltb zz1 zz2=false->1=kdI
 (↑(length a):Int) [x0,x1,x2,x3,x4,x5,x6,x7] c/\True))/\(zz3=false->zz3=false/\leb 0 zz0=true/\ltb zz0 8=true/\[AV.int i64 x0,AV.int i64 x1,AV.int i64 x2,AV.int i64
 x3,AV.int i64 x4,AV.int i64 x5,AV.int i64 x6,AV.int i64 x7][Int.toNat zz0]? =some (AV.int i64 zz1)/\leb 0 c=true/\ltb c 8=true/\[AV.int i64 x0,AV.int i64 x1,AV.int i64 x2,
 AV.int i64 x3,AV.int i64 x4,AV.int i64 x5,AV.int i64 x6,AV.int i64 x7][Int.toNat c]? =some (AV.int i64 zz2)/\(ltb zz2 zz1=true->2=kdI (↑(length a):Int) [x0,x1,x2,x3,x4,x5,
 x6,x7] c/\True)/\(ltb zz2 zz1=false->1=kdI (↑(length a):Int) [x0,x1,x2,x3,x4,x5,x6,x7] c/\True))) (gR [x0,x1,x2,x3,x4,x5,x6,x7] zz0)) (Int.tmod zz0 2==0)) (bfI
 (↑(length a):Int) c)) (gR [x0,x1,x2,x3,x4,x5,x6,x7] c)):=by kernel_rfl
theorem C5i (o:List Int):fnP (T0) G 10000 C4z (.r [] 0 (.r [] 0 (.r [] 0 (.un (.r [] 0 (.lit (.r [] 0 (.r [] 7 (.r [] 1 (.un (.r [] 0 (.lit (.r [] 0 (.r [] 7 (.r [] 1 (.un (.r [] 0 (.lit (.r [] 0 (.r [] 7 (.r [] 1 (.un (.r [] 0 (.lit (.r [] 0 (.r [] 7 (.r [] 1 (.un (.r [] 0 (.lit (.r [] 0 (.r [] 7 (.r [] 1 (.un (.r [] 0 (.lit (.r [] 0 (.r [] 7 (.r [] 1 (.un (.r [] 0 (.lit (.r [] 0 (.r [] 7 (.r [] 1 (.un (.r [] 0 (.lit (.r [] 0 (.r [] 7 (.r [] 1 (.un (.r [] 0 (.lit (.r [] 0 (.lp (l51 o) [] [] (fun b=>(.r [] 0 (.cnd (.r [] 0 (.r [] 0 (.r [] 0 .nil))) (.r [] 2 .nil)))))))))))))))))))))))))))))))))))))))))))))))))))))))))))) ([.imm (.ints .i64 o) o.length none]) ([rkV o]) ([])=(
 8=8/\iL [0,0,0,0,0,0,0,0]=[0,0,0,0,0,0,0,0]/\8=8/\iL [-1,-1,-1,-1,-1,-1,-1,-1]=[-1,-1,-1,-1,-1,-1,-1,-1]/\0=0/\0=0/\false=false/\qs i64 o (ql
 o (iI 0=0/\(∃(m:Nat),0=(↑m:Int)/\m<=length o/\8=8/\rkA [-1,-1,-1,-1,-1,-1,-1,-1] (↑m:Int) (drop m o)=rkF o)/\∀(b:L51),(fun(zz0:Int)=>(∃(m:Nat),b.i=
 (↑m:Int)/\m<=length o/\length b.rk=8/\rkA b.rk (↑m:Int) (drop m o)=rkF o)->(ltb b.i (↑(length o):Int)=true->rd i64 o b.i (leb 0 zz0=true/\ltb zz0 8=true/\A0R
 (Int.toNat zz0+1) (Cont.size (Cont.ints i64 b.rk))=true/\inR i64 (b.i+1)=true/\8=8/\iL [0,0,0,0,0,0,0,0]=[0,0,0,0,0,0,0,0]/\8=8/\qx (set b.rk (Int.toNat zz0)
 b.i) (0=0/\0=0/\false=false/\qs i64 o (ql o (b.i+1=b.i+1/\(∃(m:Nat),b.i+1=(↑m:Int)/\m<=length o/\length (set b.rk (Int.toNat zz0) b.i)=8/\rkA (set b.rk
 (Int.toNat zz0) b.i) (↑m:Int) (drop m o)=rkF o)/\length o-Int.toNat (b.i+1)<length o-Int.toNat b.i/\True)))))/\(ltb b.i (↑(length o):Int)=false->A0R 8 (Cont.size
 (Cont.ints i64 b.rk))=true/\getD [getD b.rk 0 0,getD b.rk 1 0,getD b.rk 2 0,getD b.rk 3 0,getD b.rk 4 0,getD b.rk 5 0,getD b.rk 6 0,getD b.rk 7 0] 0 0=rkO o 0/\getD [getD b.rk 0
 0,getD b.rk 1 0,getD b.rk 2 0,getD b.rk 3 0,getD b.rk 4 0,getD b.rk 5 0,getD b.rk 6 0,getD b.rk 7 0] 1 0=rkO o 1/\getD [getD b.rk 0 0,getD b.rk 1 0,getD b.rk 2 0,getD b.rk 3 0,
 getD b.rk 4 0,getD b.rk 5 0,getD b.rk 6 0,getD b.rk 7 0] 2 0=rkO o 2/\getD [getD b.rk 0 0,getD b.rk 1 0,getD b.rk 2 0,getD b.rk 3 0,getD b.rk 4 0,getD b.rk 5 0,getD b.rk 6 0,
 getD b.rk 7 0] 3 0=rkO o 3/\getD [getD b.rk 0 0,getD b.rk 1 0,getD b.rk 2 0,getD b.rk 3 0,getD b.rk 4 0,getD b.rk 5 0,getD b.rk 6 0,getD b.rk 7 0] 4 0=rkO o 4/\getD [getD b.rk 0
 0,getD b.rk 1 0,getD b.rk 2 0,getD b.rk 3 0,getD b.rk 4 0,getD b.rk 5 0,getD b.rk 6 0,getD b.rk 7 0] 5 0=rkO o 5/\getD [getD b.rk 0 0,getD b.rk 1 0,getD b.rk 2 0,getD b.rk 3 0,
 getD b.rk 4 0,getD b.rk 5 0,getD b.rk 6 0,getD b.rk 7 0] 6 0=rkO o 6/\getD [getD b.rk 0 0,getD b.rk 1 0,getD b.rk 2 0,getD b.rk 3 0,getD b.rk 4 0,getD b.rk 5 0,getD b.rk 6 0,
 getD b.rk 7 0] 7 0=rkO o 7/\True)) (getD (drop (Int.toNat b.i) o) 0 0)))):=by kernel_rfl
theorem C2k:fnP (T0) G 10000 C4z (.r [] 0 (.r [] 0 (.r [] 0 (.un (.r [] 0 (.lit (.r [] 0 (.r [] 7 (.r [] 1 (.un (.r [] 0 (.lit (.r [] 0 (.r [] 7 (.r [] 1 (.un (.r [] 0 (.lit (.r [] 0 (.r [] 7 (.r [] 1 (.un (.r [] 0 (.lit (.r [] 0 (.r [] 7 (.r [] 1 (.un (.r [] 0 (.lit (.r [] 0 (.r [] 7 (.r [] 1 (.un (.r [] 0 (.lit (.r [] 0 (.r [] 7 (.r [] 1 (.un (.r [] 0 (.lit (.r [] 0 (.r [] 7 (.r [] 1 (.un (.r [] 0 (.lit (.r [] 0 (.r [] 7 (.r [] 1 (.un (.r [] 0 (.lit (.r [] 0 (.un (.r [] 0 (.lit (.r [] 3 .nil))))))))))))))))))))))))))))))))))))))))))))))))))))))))))) ([.nils]) ([rkV []]) ([])=(
 iI (-1)= -1/\iI (-1)= -1/\iI (-1)= -1/\iI (-1)= -1/\iI (-1)= -1/\iI (-1)= -1/\iI (-1)= -1/\iI (-1)= -1/\True):=by kernel_rfl
theorem C5j (a k r:List Int)(x0 x1 x2 x3 x4 x5 x6 x7:Int):fnP (TA2) G 10000 C70 (.r [] 0 (.r [] 1 (.lp (l52 (length a) r [x0,x1,x2,x3,x4,x5,x6,x7]) [] [] (fun b=>(.r [] 0 (.cnd (.r [] 0 (.r [] 1 (.lp (m52 (length a) r [x0,x1,x2,x3,x4,x5,x6,x7] b.i) [] [] (fun b_1=>(.r [] 0 (.cnd (.r [] 0 (.r [] 13 (.r [yM 585,yM 586,yM 587,yM 588,yM 589] 16771 (.cnd (.r [] 0 .nil) (.r [yM 708,yM 709,yM 710,yM 711,yM 712,yM 713,yM 714,yM 715,yM 716,yM 717,yM 718,yM 721,yM 722,yM 723,yM 724,yM 725,yM 726,yM 727,yM 730,yM 731,(732,.may,Dr.val [AV.int i64 (gR [x0,x1,x2,x3,x4,x5,x6,x7] (bfI (↑(length a):Int) b_1.i))]),yM 733,yM 734,(735,.may,Dr.val [AV.int i64 (gR [x0,x1,x2,x3,x4,x5,x6,x7] b_1.i)]),yM 736,yM 737,yM 740,yM 741,yM 742,yM 743,yM 744,yM 745,yM 746,yM 747,yM 748,yM 749,yM 750] 37111490521248826370 (.cnd (.r [] 0 .nil) (.r [] 0 .nil))))))) (.r [] 0 .nil))))))) (.r [] 0 .nil))))))) ([B5u a k r,r8V x0 x1 x2 x3 x4 x5 x6 x7]) ([.bool (A4y a.length r [x0,x1,x2,x3,x4,x5,x6,x7])]) ([])=(
 1=1/\qs i64 a (qs u8 k (qs i64 r (1=1/\x0=x0/\x1=x1/\x2=x2/\x3=x3/\x4=x4/\x5=x5/\x6=x6/\x7=x7/\0=0/\0=0/\ql a (iI 0=0/\(∃(m:Nat),0=(↑m:Int)/\m
 <=length a/\∀(j:Nat),j<m->(A5P (length a) fun(k:Int)=>A9K (↑(length a):Int) r [x0,x1,x2,x3,x4,x5,x6,x7] (↑j:Int) k)=false)/\∀(b:L83),(fun(zz4:List Int)=>
 (∃(m:Nat),b.i=(↑m:Int)/\m<=length a/\∀(j:Nat),j<m->(A5P (length a) fun(k:Int)=>A9K (↑(length a):Int) r [x0,x1,x2,x3,x4,x5,x6,x7] (↑j:Int) k)=false)->
 (ltb b.i (↑(length a):Int)=true->1=1/\qs i64 a (qs u8 k (qs i64 r (1=1/\x0=x0/\x1=x1/\x2=x2/\x3=x3/\x4=x4/\x5=x5/\x6=x6/\x7=x7/\0=0/\0=0/\ql a (b.i=
 b.i/\b.i=b.i/\ql a (iI 0=0/\(∃(m:Nat),0=(↑m:Int)/\m<=length a/\∀(j:Nat),j<m->A9K (↑(length a):Int) r [x0,x1,x2,x3,x4,x5,x6,x7] b.i (↑j:Int)=false)/\∀
 (b_1:L83),(fun(zz8:Bool)=>(fun(zz7:List Int)=>(fun(zz6:Int)=>(fun(zz3:Int)=>(fun(zz5:Bool)=>(fun(zz2:Bool)=>(fun(zz1:Bool)=>(fun(zz0:Bool)=>(∃(m:
 Nat),b_1.i=(↑m:Int)/\m<=length a/\∀(j:Nat),j<m->A9K (↑(length a):Int) r [x0,x1,x2,x3,x4,x5,x6,x7] b.i (↑j:Int)=false)->(ltb b_1.i (↑(length a):Int)=true->
 (cok a k r (length a) (length k) (length r)/\0<length a/\length a<=8/\0<=b_1.i/\b_1.i<(↑(length a):Int))/\rd i64 r b.i ((cok a k r (length a) (length k) (length r)/\0<=b_1.i/\
 b_1.i+1<(↑(length r):Int)/\length r<=9)/\(A5E r (getD zz4 0 0) b_1.i=true->A5E r (getD zz4 0 0) b_1.i=true)/\(A5E r (getD zz4 0 0) b_1.i=true->A5E r (getD zz4 0 0)
 b_1.i=true)/\(A5E r (getD zz4 0 0) b_1.i=true->A5E r (getD zz4 0 0) b_1.i=true)/\(A5E r (getD zz4 0 0) b_1.i=true->A5E r (getD zz4 0 0) b_1.i=true)/\(A5E r (getD zz4 0 0)
 b_1.i=true->cok a k r (length a) (length k) (length r)/\0<length a/\length a<=8/\0<=b.i/\b.i<(↑(length a):Int)/\0<=b_1.i/\b_1.i<(↑(length a):Int))/\(bif A5E r (getD
 zz4 0 0) b_1.i then A5E r (getD zz4 0 0) b_1.i&&true else true)=true/\(zz8=true->true=A4y (length a) r [x0,x1,x2,x3,x4,x5,x6,x7]/\True)/\(zz8=false->((b_1.i !=b.i)=
 true->(b_1.i !=b.i)=true)/\((b_1.i !=b.i)=true->(b_1.i !=b.i)=true)/\((b_1.i !=b.i)=true->(b_1.i !=b.i)=true)/\((b_1.i !=b.i)=true->leb 0 b_1.i=true)/\((b_1.i !=
 b.i)=true->ltb b_1.i (↑(length r):Int)=true)/\((b_1.i !=b.i)=true->ltn 0 (Cont.size (Cont.ints i64 r))=true)/\((b_1.i !=b.i)=true->(b_1.i !=b.i)=true)/\((b_1.i !=b.i)
 =true->ltn 0 (Cont.size (Cont.ints i64 zz7))=true)/\((b_1.i !=b.i)=true->(b_1.i !=b.i)=true)/\((b_1.i !=b.i)=true->(b_1.i !=b.i)=true)/\((b_1.i !=b.i)=true->(b_1.i
 !=b.i)=true)/\((b_1.i !=b.i)=true->leb 0 b.i=true)/\((b_1.i !=b.i)=true->ltb b.i (↑(length r):Int)=true)/\((b_1.i !=b.i)=true->ltn 0 (Cont.size (Cont.ints i64 r))=
 true)/\((b_1.i !=b.i)=true->(b_1.i !=b.i)=true)/\((b_1.i !=b.i)=true->ltn 0 (Cont.size (Cont.ints i64 zz4))=true)/\((b_1.i !=b.i)=true->(b_1.i !=b.i)=true)/\((b_1.i
 !=b.i)=true->(b_1.i !=b.i)=true)/\(bif b_1.i !=b.i then b_1.i !=b.i&&true else true)=true/\(zz2=true->zz2=true)/\(zz2=true->zz2=true)/\(zz2=true->cok a k r
 (length a) (length k) (length r)/\0<=b_1.i/\b_1.i+1<(↑(length r):Int)/\length r<=9)/\(zz2=true->zz2=true)/\(zz2=true->zz2=true)/\(zz2=true->cok a k r (length a)
 (length k) (length r)/\0<=b.i/\b.i+1<(↑(length r):Int)/\length r<=9)/\(zz2=true->zz2=true)/\(zz2=true->zz2=true)/\(bif bif b_1.i !=b.i then getD zz7 0 0==getD zz4
 0 0 else false then zz2&&true else true)=true/\(zz1=true->zz1=true)/\(zz1=true->leb 0 zz6=true)/\(zz1=true->ltb zz6 8=true)/\(zz1=true->zz1=true)/\(zz1=true->
 [AV.int i64 x0,AV.int i64 x1,AV.int i64 x2,AV.int i64 x3,AV.int i64 x4,AV.int i64 x5,AV.int i64 x6,AV.int i64 x7][Int.toNat zz6]? =some (AV.int i64 (gR [x0,x1,x2,x3,x4,x5,x6,
 x7] zz6)))/\(zz1=true->zz1=true)/\(zz1=true->leb 0 b_1.i=true)/\(zz1=true->ltb b_1.i 8=true)/\(zz1=true->zz1=true)/\(zz1=true->[AV.int i64 x0,AV.int i64 x1,
 AV.int i64 x2,AV.int i64 x3,AV.int i64 x4,AV.int i64 x5,AV.int i64 x6,AV.int i64 x7][Int.toNat b_1.i]? =some (AV.int i64 (gR [x0,x1,x2,x3,x4,x5,x6,x7] b_1.i)))/\(zz1=true->
 zz1=true)/\(zz1=true->zz1=true)/\(zz1=true->zz1=true)/\(bif bif bif b_1.i !=b.i then getD zz7 0 0==getD zz4 0 0 else false then A42 r b_1.i==A42 r b.i else false then
 zz1&&true else true)=true/\(zz0=true->zz0=true)/\(zz0=true->zz0=true)/\(zz0=true->zz0=true)/\(zz0=true->zz0=true)/\(zz0=true->cok a k r (length a) (length k)
 (length r)/\0<length a/\length a<=8/\0<=b.i/\b.i<(↑(length a):Int)/\0<=bfI (↑(length a):Int) b_1.i/\bfI (↑(length a):Int) b_1.i<(↑(length a):Int))/\(zz0=true->zz0
 =true)/\(zz0=true->zz0=true)/\(zz0=true->zz0=true)/\(zz0=true->zz0=true)/\(zz0=true->cok a k r (length a) (length k) (length r)/\0<length a/\length a<=8/\0<=b.i
 /\b.i<(↑(length a):Int)/\0<=b_1.i/\b_1.i<(↑(length a):Int))/\(zz0=true->zz0=true)/\(zz0=true->zz0=true)/\(bif bif bif bif b_1.i !=b.i then getD zz7 0 0==getD zz4 0
 0 else false then A42 r b_1.i==A42 r b.i else false then leb 0 zz3 else false then zz0&&true else true)=true/\(zz5=true->true=A4y (length a) r [x0,x1,x2,x3,x4,x5,x6,x7]
 /\True)/\(zz5=false->inR i64 (b_1.i+1)=true/\1=1/\qs i64 a (qs u8 k (qs i64 r (1=1/\x0=x0/\x1=x1/\x2=x2/\x3=x3/\x4=x4/\x5=x5/\x6=x6/\x7=x7/\0=0/\0=
 0/\ql a (b.i=b.i/\b.i=b.i/\ql a (qx (b_1.i+1) ((∃(m:Nat),b_1.i+1=(↑m:Int)/\m<=length a/\∀(j:Nat),j<m->A9K (↑(length a):Int) r [x0,x1,x2,x3,x4,x5,x6,x7]
 b.i (↑j:Int)=false)/\length a-Int.toNat (b_1.i+1)<length a-Int.toNat b_1.i/\True))))))))))/\(ltb b_1.i (↑(length a):Int)=false->inR i64 (b.i+1)=true/\1=1/\qs i64
 a (qs u8 k (qs i64 r (1=1/\x0=x0/\x1=x1/\x2=x2/\x3=x3/\x4=x4/\x5=x5/\x6=x6/\x7=x7/\0=0/\0=0/\ql a (b.i+1=b.i+1/\(∃(m:Nat),b.i+1=(↑m:Int)/\m
 <=length a/\∀(j:Nat),j<m->(A5P (length a) fun(k:Int)=>A9K (↑(length a):Int) r [x0,x1,x2,x3,x4,x5,x6,x7] (↑j:Int) k)=false)/\length a-Int.toNat (b.i+1)<
 length a-Int.toNat b.i/\True)))))) (bif bif bif b_1.i !=b.i then getD zz7 0 0==getD zz4 0 0 else false then A42 r b_1.i==A42 r b.i else false then leb 0 zz3 else false)) (bif bif
 b_1.i !=b.i then getD zz7 0 0==getD zz4 0 0 else false then A42 r b_1.i==A42 r b.i else false)) (bif b_1.i !=b.i then getD zz7 0 0==getD zz4 0 0 else false)) (bif bif bif bif b_1.i
 !=b.i then getD zz7 0 0==getD zz4 0 0 else false then A42 r b_1.i==A42 r b.i else false then leb 0 zz3 else false then !A7g (↑(length a):Int) [x0,x1,x2,x3,x4,x5,x6,x7] b.i
 zz6==A7g (↑(length a):Int) [x0,x1,x2,x3,x4,x5,x6,x7] b.i b_1.i else false)) (if gR [x0,x1,x2,x3,x4,x5,x6,x7] b_1.i<gR [x0,x1,x2,x3,x4,x5,x6,x7] zz6 then gR [x0,
 x1,x2,x3,x4,x5,x6,x7] b_1.i else gR [x0,x1,x2,x3,x4,x5,x6,x7] zz6)) (bfI (↑(length a):Int) b_1.i)) (drop (Int.toNat b_1.i) r)) (bif A5E r (getD zz4 0 0) b_1.i then A7g
 (↑(length a):Int) [x0,x1,x2,x3,x4,x5,x6,x7] b.i b_1.i else false)))))))/\(ltb b.i (↑(length a):Int)=false->false=A4y (length a) r [x0,x1,x2,x3,x4,x5,x6,x7]/\True))
 (drop (Int.toNat b.i) r)))))):=by kernel_rfl
theorem C5k (a k r:List Int)(x0 x1 x2 x3 x4 x5 x6 x7:Int):fnP (TA2) G 10000 C71 (.r [] 0 (.r [] 1 (.lp (l53 k [x0,x1,x2,x3,x4,x5,x6,x7]) [] [] (fun b=>(.r [] 0 (.cnd (.r [] 0 (.r [] 13 (.r [yM 387,yM 388,(389,.may,Dr.val [AV.int i64 (gR [x0,x1,x2,x3,x4,x5,x6,x7] (bfI (↑(length a):Int) b.i))]),yM 390,yM 391,(392,.may,Dr.val [AV.int i64 (gR [x0,x1,x2,x3,x4,x5,x6,x7] b.i)]),yM 393,yM 394,yM 397,yM 398,yM 399,yM 400,yM 401,yM 402] 8495104 (.cnd (.r [] 0 .nil) (.r [] 0 .nil))))) (.r [] 0 .nil))))))) ([B5u a k r,r8V x0 x1 x2 x3 x4 x5 x6 x7]) ([.bool (A7h k [x0,x1,x2,x3,x4,x5,x6,x7])]) ([])=(
 1=1/\qs i64 a (qs u8 k (qs i64 r (1=1/\x0=x0/\x1=x1/\x2=x2/\x3=x3/\x4=x4/\x5=x5/\x6=x6/\x7=x7/\0=0/\0=0/\qs u8 k (ql k (iI 0=0/\(∃(m:Nat),0=(↑m:
 Int)/\m<=length k/\∀(j:Nat),j<m->B1O k [x0,x1,x2,x3,x4,x5,x6,x7] (↑j:Int)=false)/\∀(b:L83),(fun(zz5:List Int)=>(fun(zz4:Int)=>(fun(zz2:Int)=>(fun
 (zz3:Bool)=>(fun(zz1:Bool)=>(fun(zz0:Bool)=>(∃(m:Nat),b.i=(↑m:Int)/\m<=length k/\∀(j:Nat),j<m->B1O k [x0,x1,x2,x3,x4,x5,x6,x7] (↑j:Int)=false)->
 (ltb b.i (↑(length k):Int)=true->rd u8 k b.i ((cok a k r (length a) (length k) (length r)/\0<length a/\length a<=8/\0<=b.i/\b.i<(↑(length a):Int))/\(zz1=true->zz1=
 true)/\(zz1=true->leb 0 zz4=true)/\(zz1=true->ltb zz4 8=true)/\(zz1=true->zz1=true)/\(zz1=true->[AV.int i64 x0,AV.int i64 x1,AV.int i64 x2,AV.int i64 x3,AV.int i64
 x4,AV.int i64 x5,AV.int i64 x6,AV.int i64 x7][Int.toNat zz4]? =some (AV.int i64 (gR [x0,x1,x2,x3,x4,x5,x6,x7] zz4)))/\(zz1=true->zz1=true)/\(zz1=true->leb 0 b.i=true)
 /\(zz1=true->ltb b.i 8=true)/\(zz1=true->zz1=true)/\(zz1=true->[AV.int i64 x0,AV.int i64 x1,AV.int i64 x2,AV.int i64 x3,AV.int i64 x4,AV.int i64 x5,AV.int i64 x6,AV.int
 i64 x7][Int.toNat b.i]? =some (AV.int i64 (gR [x0,x1,x2,x3,x4,x5,x6,x7] b.i)))/\(zz1=true->zz1=true)/\(zz1=true->zz1=true)/\(zz1=true->zz1=true)/\(bif getD zz5 0 0
 !=3 then getD zz5 0 0 !=3&&true else true)=true/\(zz0=true->zz0=true)/\(zz0=true->zz0=true)/\(zz0=true->zz0=true)/\(zz0=true->cok a k r (length a) (length k)
 (length r)/\0<length a/\length a<=8/\0<=b.i/\b.i<(↑(length a):Int))/\(zz0=true->zz0=true)/\(zz0=true->zz0=true)/\(bif bif getD zz5 0 0 !=3 then leb 0 zz2 else false
 then zz0&&true else true)=true/\(zz3=true->true=A7h k [x0,x1,x2,x3,x4,x5,x6,x7]/\True)/\(zz3=false->inR i64 (b.i+1)=true/\1=1/\qs i64 a (qs u8 k (qs i64 r (1=
 1/\x0=x0/\x1=x1/\x2=x2/\x3=x3/\x4=x4/\x5=x5/\x6=x6/\x7=x7/\0=0/\0=0/\qs u8 k (ql k (b.i+1=b.i+1/\(∃(m:Nat),b.i+1=(↑m:Int)/\m<=length k/\∀
 (j:Nat),j<m->B1O k [x0,x1,x2,x3,x4,x5,x6,x7] (↑j:Int)=false)/\length k-Int.toNat (b.i+1)<length k-Int.toNat b.i/\True))))))))/\(ltb b.i (↑(length k):Int)=
 false->false=A7h k [x0,x1,x2,x3,x4,x5,x6,x7]/\True)) (bif getD zz5 0 0 !=3 then leb 0 zz2 else false)) (getD zz5 0 0 !=3)) (bif bif getD zz5 0 0 !=3 then leb 0 zz2 else false
 then getD zz5 0 0 !=kdI (↑(length a):Int) [x0,x1,x2,x3,x4,x5,x6,x7] b.i else false)) (if gR [x0,x1,x2,x3,x4,x5,x6,x7] b.i<gR [x0,x1,x2,x3,x4,x5,x6,x7] zz4 then gR
 [x0,x1,x2,x3,x4,x5,x6,x7] b.i else gR [x0,x1,x2,x3,x4,x5,x6,x7] zz4)) (bfI (↑(length a):Int) b.i)) (drop (Int.toNat b.i) k))))))):=by kernel_rfl
open List IntKind
theorem C5l (a k:List Int):fnP (T0) G 10000 C7J (.r [] 0 (.r [] 3 (.cnd (.r [] 0 .nil) (.r [] 0 (.r [] 1 (.lp (l17 a k) [] [] (fun b=>(.r [] 0 (.cnd (.r [] 0 (.rs 3 [] 0 23 (.r [] 63 (.lit (.r [] 0 .nil))) (.rs 6 [] 6 29 (.r [] 15 (.lit (.r [] 0 .nil))) (.rs 8 [] 97 37 (.r [] 3 (.lit (.r [] 0 .nil))) (.r [] 97 (.cnd (.r [] 0 .nil) (.r [] 0 (.r [] 0 .nil)))))))) (.r [] 0 .nil)))))))))) ([A2W a k]) ([.int .i64 (chk a k)]) ([])=(
 (((↑(length a):Int) !=(↑(length k):Int))=true->5=chk a k/\True)/\(((↑(length a):Int) !=(↑(length k):Int))=false->1=1/\qs i64 a (qs u8 k (0=0/\iI 0=0/\qs i64 a
 (ql a (iI 0=0/\(∃(n:Nat),0=(↑n:Int)/\n<=length a/\iI 0<=iI 0/\iI 0<=iI 8/\A4s a k 0=A4s (drop n a) (drop n k) 0)/\∀(b:L17),(fun(zz1:Int)=>(fun(zz0:List
 Int)=>(∃(n:Nat),b.i=(↑n:Int)/\n<=length a/\0<=b.s/\b.s<=8/\A4s a k 0=A4s (drop n a) (drop n k) b.s)->(ltb b.i (↑(length a):Int)=true->rd i64 a b.i ((ltb (getD zz0
 0 0) 1=true->1=chk a k/\True)/\(ltb (getD zz0 0 0) 1=false->inR i64 (8-b.s)=true/\(ltb (8-b.s) (getD zz0 0 0)=true->1=chk a k/\True)/\(ltb (8-b.s) (getD zz0 0 0)=
 false->rd u8 k b.i ((ltb zz1 1=true->1=chk a k/\True)/\(ltb zz1 1=false->rd u8 k b.i ((ltb 3 zz1=true->1=chk a k/\True)/\(ltb 3 zz1=false->inR i64 (b.s+getD zz0 0 0)=
 true/\inR i64 (b.i+1)=true/\1=1/\qs i64 a (qs u8 k (0=0/\qx (b.s+getD zz0 0 0) (qs i64 a (ql a (b.i+1=b.i+1/\(∃(n:Nat),b.i+1=(↑n:Int)/\n<=length a/\0<=b.s
 +getD zz0 0 0/\b.s+getD zz0 0 0<=8/\A4s a k 0=A4s (drop n a) (drop n k) (b.s+getD zz0 0 0))/\length a-Int.toNat (b.i+1)<length a-Int.toNat b.i/\True)))))))))))))/\(ltb
 b.i (↑(length a):Int)=false->0=chk a k/\True)) (drop (Int.toNat b.i) a)) (getD (drop (Int.toNat b.i) k) 0 0))))))):=by kernel_rfl
theorem C5m (c l:Int)(ks:List Int):fnP (T0) G 10000 C7s (.r [] 0 (.r [] 0 (.r [] 0 (.r [] 0 (.r [] 0 (.ghc 128 0 9001 1 (Cont.ints i64 []) (.ghc 128 1 9002 1 (Cont.ints u8 []) (.lp (l25 c ks) [] [] (fun b=>(.r [] 0 (.cnd (.r [] 5 (.cnd (.r [] 0 .nil) (.r [] 0 (.cnd (.r [] 49 (.r [] 0 (.r [] 0 (.r [] 5 (.jn (jI 7 u8 (A9H ks (length b.k))) [37] [] (.cnd (.r [] 139 .nil) .nil) (fun b_1=>(.r [] 25 (.r [] 0 .nil)))))))) (.r [] 0 (.r [] 0 (.r [] 0 (.r [] 5 (.jn (jI 7 u8 (A9H ks (length b.k))) [37] [] (.cnd (.r [] 139 .nil) .nil) (fun b_1=>(.r [] 25 (.r [] 0 .nil)))))))))))) (.r [] 0 (.jn (jL 9001 i64 (C9E (ofK c ks)) (A01 (A1k c ks 8))) [4,5,54] [] (.cnd (.r [] 97 .nil) .nil) (fun b_1=>(.r [] 0 (.lp (m25 l (A01 (A1k c ks 8)) (ofK c ks)) [] [] (fun b_2=>(.r [] 1 (.cnd (.rs 7 [] 5 77 (.r [] 193 (.cnd (.r [] 1 (.r [] 0 .nil)) (.r [] 0 .nil))) (.r [] 3 (.lit (.r [] 0 .nil)))) (.r [] 3 .nil)))))))))))))))))))) ([fV c l ks]) ([.agg [.full 0 (ofA c l ks).length,.full 1 (ofK c ks).length]]) ([B8i (ofA c l ks),C35 (ofK c ks)])=(
 (fun(zz3:Nat)=>1=1/\c=c/\l=l/\qs u8 ks (1=1/\1=1/\0=0/\0=0/\0=0/\iL []=[]/\0=0/\iL []=[]/\0=0/\0=0/\0=0/\iI (-1)= -1/\iI (-1)= -1/\iI 0=0
 /\(∃(n:Nat),0=(↑n:Int)/\n<=8/\FS.mk (-1) (-1) [] []=A1k c ks n)/\∀(b:L25),(fun(zz5:Bool)=>(fun(zz0:List Int)=>(∃(n:Nat),b.d=(↑n:Int)/\n<=8/\FS.mk
 b.last b.first b.a b.k=A1k c ks n)->(ltb b.d 8=true->leb 0 b.d=true/\(zz5=true->inR i64 (b.d+1)=true/\1=1/\c=c/\l=l/\qs u8 ks (1=1/\1=1/\qx (length b.a) (qx
 (length b.k) (qx (length b.a) (b.a=b.a/\qx (length b.k) (b.k=b.k/\0=0/\0=0/\0=0/\b.last=b.last/\b.first=b.first/\b.d+1=b.d+1/\(∃(n:Nat),b.d+1=(↑n:Int)/\
 n<=8/\FS.mk b.last b.first b.a b.k=A1k c ks n)/\8-Int.toNat (b.d+1)<8-Int.toNat b.d/\True))))))/\(zz5=false->(leb 0 b.last=true->inR i64 (b.d-b.last)=true/\qx
 (length b.a) (A0R ((length b.a+1)*8) 140737488355328=true/\qx (length b.k) (((ltb (↑(length b.k):Int) (↑(length ks):Int)=true->qx (length b.k) (ltb (↑(length b.k):Int)
 (↑(length ks):Int)=true/\ltn 0 (Cont.size (Cont.ints u8 ks))=true/\ltn 0 (Cont.size (Cont.ints u8 zz0))=true/\inR u8 (1+Int.tmod (getD zz0 0 0) 3)=true/\1=1/\c=c/\l=l
 /\qs u8 ks (1=1/\1=1/\qx (length b.a+1) (qx (length b.k) (qx (length b.a+1) (b.a++[b.d-b.last]=b.a++[b.d-b.last]/\qx (length b.k) (b.k=b.k/\1=1/\1=1/\[b.d-
 b.last]=[b.d-b.last]/\0=0/\0=0/\0=0/\b.first=b.first/\b.d=b.d/\b.d=b.d/\qx (1+Int.tmod (getD zz0 0 0) 3) (1+Int.tmod (getD zz0 0 0) 3=A9H ks (length b.k)/\
 True))))))))/\(ltb (↑(length b.k):Int) (↑(length ks):Int)=false->1=1/\c=c/\l=l/\qs u8 ks (1=1/\1=1/\qx (length b.a+1) (qx (length b.k) (qx (length b.a+1) (b.a++
 [b.d-b.last]=b.a++[b.d-b.last]/\qx (length b.k) (b.k=b.k/\1=1/\1=1/\[b.d-b.last]=[b.d-b.last]/\0=0/\0=0/\0=0/\b.first=b.first/\b.d=b.d/\b.d=b.d/\iI
 1=1/\1=A9H ks (length b.k)/\True)))))))/\∀(b_1:VI),b_1.v=A9H ks (length b.k)->qx (length b.k) (A0R ((length b.k+1)*1) 140737488355328=true/\inR i64 (b.d+1)=true/\
 1=1/\c=c/\l=l/\qs u8 ks (1=1/\1=1/\length b.a+1=length (b.a++[b.d-b.last])/\length b.k+1=length (b.k++[b_1.v])/\length b.a+1=length (b.a++[b.d-b.last])
 /\b.a++[b.d-b.last]=b.a++[b.d-b.last]/\length b.k+1=length (b.k++[b_1.v])/\b.k++[b_1.v]=b.k++[b_1.v]/\0=0/\0=0/\0=0/\b.d=b.d/\b.first=b.first/\b.d+1
 =b.d+1/\(∃(n:Nat),b.d+1=(↑n:Int)/\n<=8/\FS.mk b.d b.first (b.a++[b.d-b.last]) (b.k++[b_1.v])=A1k c ks n)/\8-Int.toNat (b.d+1)<8-Int.toNat b.d/\True)))))
 /\(leb 0 b.last=false->qx (length b.k) (((ltb (↑(length b.k):Int) (↑(length ks):Int)=true->qx (length b.k) (ltb (↑(length b.k):Int) (↑(length ks):Int)=true/\ltn 0 (Cont.size
 (Cont.ints u8 ks))=true/\ltn 0 (Cont.size (Cont.ints u8 zz0))=true/\inR u8 (1+Int.tmod (getD zz0 0 0) 3)=true/\1=1/\c=c/\l=l/\qs u8 ks (1=1/\1=1/\qx (length b.a)
 (qx (length b.k) (qx (length b.a) (b.a=b.a/\qx (length b.k) (b.k=b.k/\0=0/\0=0/\0=0/\b.d=b.d/\b.d=b.d/\b.d=b.d/\qx (1+Int.tmod (getD zz0 0 0) 3) (1+Int.tmod (getD
 zz0 0 0) 3=A9H ks (length b.k)/\True))))))))/\(ltb (↑(length b.k):Int) (↑(length ks):Int)=false->1=1/\c=c/\l=l/\qs u8 ks (1=1/\1=1/\qx (length b.a) (qx (length
 b.k) (qx (length b.a) (b.a=b.a/\qx (length b.k) (b.k=b.k/\0=0/\0=0/\0=0/\b.d=b.d/\b.d=b.d/\b.d=b.d/\iI 1=1/\1=A9H ks (length b.k)/\True)))))))/\∀(b_1:VI),
 b_1.v=A9H ks (length b.k)->qx (length b.k) (A0R ((length b.k+1)*1) 140737488355328=true/\inR i64 (b.d+1)=true/\1=1/\c=c/\l=l/\qs u8 ks (1=1/\1=1/\qx (length
 b.a) (length b.k+1=length (b.k++[b_1.v])/\qx (length b.a) (b.a=b.a/\length b.k+1=length (b.k++[b_1.v])/\b.k++[b_1.v]=b.k++[b_1.v]/\0=0/\0=0/\0=0/\b.d=b.d/\
 b.d=b.d/\b.d+1=b.d+1/\(∃(n:Nat),b.d+1=(↑n:Int)/\n<=8/\FS.mk b.d b.d b.a (b.k++[b_1.v])=A1k c ks n)/\8-Int.toNat (b.d+1)<8-Int.toNat b.d/\True))))))))/\
 (ltb b.d 8=false->((leb 0 b.first=true->inR i64 (b.first+8)=true/\inR i64 (b.first+8-b.last)=true/\qx (length b.a) (A0R ((length b.a+1)*8) 140737488355328=true/\1=
 1/\c=c/\l=l/\qs u8 ks (1=1/\1=1/\length b.a+1=length (b.a++[b.first+8-b.last])/\length b.k=length (ofK c ks)/\length b.a+1=length (b.a++[b.first+8-
 b.last])/\b.a++[b.first+8-b.last]=b.a++[b.first+8-b.last]/\qx (length b.k) (b.k=b.k/\0=0/\0=0/\0=0/\qx (ltb b.d 8) (b.a++[b.first+8-b.last]=A01 (A1k
 c ks 8)/\True)))))/\(leb 0 b.first=false->1=1/\c=c/\l=l/\qs u8 ks (1=1/\1=1/\qx (length b.a) (length b.k=length (ofK c ks)/\qx (length b.a) (b.a=b.a/\qx (length
 b.k) (b.k=b.k/\0=0/\0=0/\0=0/\qx (ltb b.d 8) (b.a=A01 (A1k c ks 8)/\True)))))))/\∀(b_1:VL),b_1.v=A01 (A1k c ks 8)->1=1/\c=c/\l=l/\qs u8 ks (1=1/\
 1=1/\qx (length b_1.v) (qx zz3 (qx (length b_1.v) (b_1.v=b_1.v/\length b.k=length (ofK c ks)/\b.k=ofK c ks/\0=0/\0=0/\0=0/\qx (ltb b.d 8) (iI 0=0/\(∃(n:Nat),0=
 (↑n:Int)/\n<=length (A01 (A1k c ks 8))/\b_1.v=take n (A2z l 0 (A01 (A1k c ks 8)))++drop n (A01 (A1k c ks 8)))/\∀(b_2:M25),(fun(zz2:Prop)=>(fun(zz1:Nat)
 =>(fun(zz4:List Int)=>(∃(n:Nat),b_2.i=(↑n:Int)/\n<=length (A01 (A1k c ks 8))/\b_2.a=take n (A2z l 0 (A01 (A1k c ks 8)))++drop n (A01 (A1k c ks 8)))->qx
 (length b_2.a) ((ltb b_2.i (↑(length b_2.a):Int)=true->leb 0 b_2.i=true/\((Int.tmod (Int.fdiv l (2 ^ min zz1 8)) 2==1)=true->leb 0 b_2.i=true/\ltb b_2.i (↑(length b_2.a):
 Int)=true/\qx (length b_2.a) (qx (length b_2.a) (ltn zz1 (Cont.size (Cont.ints i64 b_2.a))=true/\(ltb 1 (getD b_2.a zz1 0)=true->leb 0 b_2.i=true/\ltb b_2.i (↑(length b_2.a):
 Int)=true/\qx (length b_2.a) (qx (length b_2.a) (ltn zz1 (Cont.size (Cont.ints i64 b_2.a))=true/\inR i64 (getD b_2.a zz1 0-1)=true/\leb 0 b_2.i=true/\ltb b_2.i (↑(length b_2.a)
 :Int)=true/\qx (length b_2.a) (qx (length b_2.a) (A0R (Int.toNat b_2.i+1) (Cont.size (Cont.ints i64 b_2.a))=true/\inR i64 (b_2.i+1)=true/\1=1/\c=c/\l=l/\qs u8 ks (1=
 1/\1=1/\length b_2.a=length zz4/\qx zz3 (length b_2.a=length zz4/\qx zz4 (qx zz3 (ofK c ks=ofK c ks/\0=0/\0=0/\0=0/\qx (ltb b.d 8) (qx (b_2.i+1) ((∃(n:Nat),b_2.i
 +1=(↑n:Int)/\n<=length (A01 (A1k c ks 8))/\set b_2.a zz1 (getD b_2.a zz1 0-1)=take n (A2z l 0 (A01 (A1k c ks 8)))++drop n (A01 (A1k c ks 8)))/\length (A01
 (A1k c ks 8))-Int.toNat (b_2.i+1)<length (A01 (A1k c ks 8))-Int.toNat b_2.i/\True)))))))))))/\(ltb 1 (getD b_2.a zz1 0)=false->inR i64 (b_2.i+1)=true/\1=1/\c=c
 /\l=l/\qs u8 ks (1=1/\1=1/\qx (length b_2.a) (qx zz3 (qx (length b_2.a) (b_2.a=b_2.a/\qx zz3 (ofK c ks=ofK c ks/\0=0/\0=0/\0=0/\qx (ltb b.d 8) (qx (b_2.i+1) (zz2/\
 length (A01 (A1k c ks 8))-Int.toNat (b_2.i+1)<length (A01 (A1k c ks 8))-Int.toNat b_2.i/\True)))))))))))/\((Int.tmod (Int.fdiv l (2 ^ min zz1 8)) 2==1)=false->inR
 i64 (b_2.i+1)=true/\1=1/\c=c/\l=l/\qs u8 ks (1=1/\1=1/\qx (length b_2.a) (qx zz3 (qx (length b_2.a) (b_2.a=b_2.a/\qx zz3 (ofK c ks=ofK c ks/\0=0/\0=0/\0=0/\
 qx (ltb b.d 8) (qx (b_2.i+1) (zz2/\length (A01 (A1k c ks 8))-Int.toNat (b_2.i+1)<length (A01 (A1k c ks 8))-Int.toNat b_2.i/\True)))))))))/\(ltb b_2.i (↑(length b_2.a)
 :Int)=false->length b_2.a=length (ofA c l ks)/\b_2.a=ofA c l ks/\qx zz3 (ofK c ks=ofK c ks/\length b_2.a=length (ofA c l ks)/\qx zz3 (True))))) (set b_2.a zz1 (getD b_2.a zz1
 0-1))) (Int.toNat b_2.i)) (∃(n:Nat),b_2.i+1=(↑n:Int)/\n<=length (A01 (A1k c ks 8))/\b_2.a=take n (A2z l 0 (A01 (A1k c ks 8)))++drop n (A01 (A1k c ks
 8)))))))))) (drop (Int.toNat (↑(length b.k):Int)) ks)) (Int.tmod (Int.fdiv c (2 ^ min (Int.toNat b.d) 8)) 2==0))) (length (ofK c ks))):=by kernel_rfl
theorem C5n (k:List Int)(x:Int):fnP (T0) G 10000 B9d (.r [] 0 (.r [] 0 (.lp (l83 k x) [] [] (fun b=>(.r [] 0 (.cnd (.r [] 0 (.r [] 0 (.cnd (.r [] 0 .nil) (.r [] 0 .nil)))) (.r [] 0 .nil))))))) ([.imm (.ints .u8 k) k.length none,.int .u8 x]) ([.int .i64 (A2P x k 0)]) ([])=(
 qs u8 k (x=x/\ql k (iI 0=0/\(∃(n:Nat),0=(↑n:Int)/\n<=length k/\A2P x (drop n k) (↑n:Int)=A2P x k 0)/\∀(b:L83),(∃(n:Nat),b.i=(↑n:Int)/\n<=length k/\A2P
 x (drop n k) (↑n:Int)=A2P x k 0)->(ltb b.i (↑(length k):Int)=true->rd u8 k b.i (((x==getD (drop (Int.toNat b.i) k) 0 0)=true->b.i=A2P x k 0/\True)/\((x==getD (drop
 (Int.toNat b.i) k) 0 0)=false->inR i64 (b.i+1)=true/\qs u8 k (x=x/\ql k (b.i+1=b.i+1/\(∃(n:Nat),b.i+1=(↑n:Int)/\n<=length k/\A2P x (drop n k) (↑n:Int)=
 A2P x k 0)/\length k-Int.toNat (b.i+1)<length k-Int.toNat b.i/\True)))))/\(ltb b.i (↑(length k):Int)=false-> -1=A2P x k 0/\True)))):=by kernel_rfl
theorem C5o (k:List Int)(x:Int):fnP (T0) G 10000 C4G (.r [] 0 (.r [] 0 (.lp (l83 k x) [] [] (fun b=>(.r [] 0 (.cnd (.r [] 0 (.r [] 0 (.cnd (.r [] 0 .nil) (.r [] 0 .nil)))) (.r [] 0 .nil))))))) ([.imm (.ints .i64 k) k.length none,.int .i64 x]) ([.int .i64 (A2P x k 0)]) ([])=(
 qs i64 k (x=x/\ql k (iI 0=0/\(∃(n:Nat),0=(↑n:Int)/\n<=length k/\A2P x (drop n k) (↑n:Int)=A2P x k 0)/\∀(b:L83),(∃(n:Nat),b.i=(↑n:Int)/\n<=length k/\
 A2P x (drop n k) (↑n:Int)=A2P x k 0)->(ltb b.i (↑(length k):Int)=true->rd i64 k b.i (((x==getD (drop (Int.toNat b.i) k) 0 0)=true->b.i=A2P x k 0/\True)/\((x==getD
 (drop (Int.toNat b.i) k) 0 0)=false->inR i64 (b.i+1)=true/\qs i64 k (x=x/\ql k (b.i+1=b.i+1/\(∃(n:Nat),b.i+1=(↑n:Int)/\n<=length k/\A2P x (drop n k) (↑n:
 Int)=A2P x k 0)/\length k-Int.toNat (b.i+1)<length k-Int.toNat b.i/\True)))))/\(ltb b.i (↑(length k):Int)=false-> -1=A2P x k 0/\True)))):=by kernel_rfl
theorem C5p (a b:List Int):fnP (T0) G 10000 C7V (.r [] 0 (.r [] 0 (.cnd (.r [] 0 .nil) (.r [] 0 (.lp (l55 a b 13) [] [] (fun b_1=>(.r [] 0 (.cnd (.r [] 0 (.cnd (.r [] 0 .nil) (.r [] 0 .nil))) (.r [] 0 .nil))))))))) ([.imm (.ints .i64 a) a.length none,.imm (.ints .i64 b) b.length none]) ([.bool (eqB a b)]) ([])=(
 (((↑(length a):Int) !=(↑(length b):Int))=true->false=eqB a b/\True)/\(((↑(length a):Int) !=(↑(length b):Int))=false->qs i64 a (qs i64 b (ql a (iI 0=0/\(∃(n:Nat),0
 =(↑n:Int)/\n<=length a/\eqB (drop n a) (drop n b)=eqB a b)/\∀(b_1:L55),(fun(zz0:Bool)=>(∃(n:Nat),b_1.i=(↑n:Int)/\n<=length a/\eqB (drop n a) (drop n b)=eqB a
 b)->(ltb b_1.i (↑(length a):Int)=true->rd i64 a b_1.i (rd i64 b b_1.i ((zz0=true->false=eqB a b/\True)/\(zz0=false->inR i64 (b_1.i+1)=true/\qs i64 a (qs i64 b (ql a (qx
 (b_1.i+1) ((∃(n:Nat),b_1.i+1=(↑n:Int)/\n<=length a/\eqB (drop n a) (drop n b)=eqB a b)/\length a-Int.toNat (b_1.i+1)<length a-Int.toNat b_1.i/\True))))))))/\(ltb
 b_1.i (↑(length a):Int)=false->true=eqB a b/\True)) (getD (drop (Int.toNat b_1.i) a) 0 0 !=getD (drop (Int.toNat b_1.i) b) 0 0)))))):=by kernel_rfl
theorem C5q (a b:List Int):fnP (T0) G 10000 C7W (.r [] 0 (.r [] 0 (.cnd (.r [] 0 .nil) (.r [] 0 (.lp (l55 a b 13) [] [] (fun b_1=>(.r [] 0 (.cnd (.r [] 0 (.cnd (.r [] 0 .nil) (.r [] 0 .nil))) (.r [] 0 .nil))))))))) ([.imm (.ints .u8 a) a.length none,.imm (.ints .u8 b) b.length none]) ([.bool (eqB a b)]) ([])=(
 (((↑(length a):Int) !=(↑(length b):Int))=true->false=eqB a b/\True)/\(((↑(length a):Int) !=(↑(length b):Int))=false->qs u8 a (qs u8 b (ql a (iI 0=0/\(∃(n:Nat),0=
 (↑n:Int)/\n<=length a/\eqB (drop n a) (drop n b)=eqB a b)/\∀(b_1:L55),(fun(zz0:Bool)=>(∃(n:Nat),b_1.i=(↑n:Int)/\n<=length a/\eqB (drop n a) (drop n b)=eqB a b)
 ->(ltb b_1.i (↑(length a):Int)=true->rd u8 a b_1.i (rd u8 b b_1.i ((zz0=true->false=eqB a b/\True)/\(zz0=false->inR i64 (b_1.i+1)=true/\qs u8 a (qs u8 b (ql a (qx (b_1.i
 +1) ((∃(n:Nat),b_1.i+1=(↑n:Int)/\n<=length a/\eqB (drop n a) (drop n b)=eqB a b)/\length a-Int.toNat (b_1.i+1)<length a-Int.toNat b_1.i/\True))))))))/\(ltb b_1.i
 (↑(length a):Int)=false->true=eqB a b/\True)) (getD (drop (Int.toNat b_1.i) a) 0 0 !=getD (drop (Int.toNat b_1.i) b) 0 0)))))):=by kernel_rfl
theorem C5r (a:List Int)(n:Nat):fnP (T0) G 10000 C33 (.r [] 0 (.r [] 5 .nil)) ([.imm (.ints .i64 a) n none]) ([.imm (.ints .i64 a) n (some n)]) ([])=(
 Int.toNat (↑n:Int)=n/\Int.toNat (↑n:Int)=n/\Cont.size (Cont.ints i64 a)=n/\Cont.ints i64 a=Cont.ints i64 a/\n=n/\n=n/\True):=by kernel_rfl
theorem C5s (a:List Int)(n:Nat):fnP (T0) G 10000 C34 (.r [] 0 (.r [] 5 .nil)) ([.imm (.ints .u8 a) n none]) ([.imm (.ints .u8 a) n (some n)]) ([])=(
 Int.toNat (↑n:Int)=n/\Int.toNat (↑n:Int)=n/\Cont.size (Cont.ints u8 a)=n/\Cont.ints u8 a=Cont.ints u8 a/\n=n/\n=n/\True):=by kernel_rfl
theorem C5t (i n:Int):fnP (T0) G 10000 B9e (.r [] 0 (.r [] 5 .nil)) ([.int .i64 i,.iptr (.vals [.int .i64 n])]) ([.int .i64 (Int.tmod (i+n) n)]) ([])=(
 inR i64 (i+n)=true/\(!n==0)=true/\Int.tmod (i+n) n=Int.tmod (i+n) n/\True):=by kernel_rfl
theorem C5u (n:Int):fnP (T0) G 10000 C8k (.r [] 0 (.r [] 0 .nil)) ([.int .i64 n]) ([.fn 106 [] [.ptr 0 0]]) ([C9F n])=(
 1=1/\n=n/\0=0/\True):=by kernel_rfl
theorem C5v (k:List Int)(x:Int):fnP (TA) G 10000 C8j (.r [] 0 (.r [] 0 .nil)) ([.imm (.ints .u8 k) k.length none,.int .u8 x]) ([.bool (A1q k x)]) ([])=(
 (length k=length k/\length k<1000000000000)/\leb 0 (A2P x k 0)=A1q k x/\True):=by kernel_rfl
theorem C5w (k:List Int)(x:Int):fnP (TA) G 10000 C4F (.r [] 0 (.r [] 0 .nil)) ([.imm (.ints .i64 k) k.length none,.int .i64 x]) ([.bool (A1q k x)]) ([])=(
 (length k=length k/\length k<1000000000000)/\leb 0 (A2P x k 0)=A1q k x/\True):=by kernel_rfl
theorem C5x (a k b j:List Int):fnP (TA) G 10000 C7B (.r [] 0 (.rs 6 [] 3 10 (.r [] 27 .nil) (.r [] 3 .nil))) ([A2W a k,A2W b j]) ([.bool (eqB a b&&eqB k j)]) ([])=(
 (length a=length a/\length b=length b/\length a<1000000000000)/\(eqB a b=true->(length k=length k/\length j=length j/\length k<1000000000000)/\eqB k j=(eqB a b&&eqB k j)/\
 True)/\(eqB a b=false->false=(eqB a b&&eqB k j)/\True)):=by kernel_rfl
theorem C5y (a b:List Int)(c:Nat):fnP (TA) G 10000 C7y (.r [] 0 (.rs 6 [] 0 11 (.r [] 3 (.lit (.r [] 0 .nil))) (.r [] 3 (.cnd (.r [] 0 .nil) (.r [] 0 (.lp (l55 a b 5) [] [] (fun b_1=>(.r [] 0 (.cnd (.cnd (.r [] 0 .nil) (.r [] 0 .nil)) (.r [] 0 .nil)))))))))) ([.imm (.ints .i64 a) a.length (some c),.imm (.ints .i64 b) b.length none]) ([.bool (eqB a b)]) ([])=(
 (((↑(length a):Int) !=(↑(length b):Int))=true->false=eqB a b/\True)/\(((↑(length a):Int) !=(↑(length b):Int))=false->(((↑c:Int) !=(↑(length a):Int))=true->false=
 eqB a b/\True)/\(((↑c:Int) !=(↑(length a):Int))=false->qs i64 a (c=c/\qs i64 b (iI 0=0/\(∃(n:Nat),0=(↑n:Int)/\n<=length a/\eqB (drop n a) (drop n b)=eqB a b)/\∀
 (b_1:L55),(fun(zz0:Bool)=>(∃(n:Nat),b_1.i=(↑n:Int)/\n<=length a/\eqB (drop n a) (drop n b)=eqB a b)->(ltb b_1.i (↑(length a):Int)=true->rd i64 a b_1.i (rd i64 b
 b_1.i ((zz0=true->false=eqB a b/\True)/\(zz0=false->inR i64 (b_1.i+1)=true/\qs i64 a (c=c/\qs i64 b (qx (b_1.i+1) ((∃(n:Nat),b_1.i+1=(↑n:Int)/\n<=length a/\
 eqB (drop n a) (drop n b)=eqB a b)/\length a-Int.toNat (b_1.i+1)<length a-Int.toNat b_1.i/\True)))))))/\(ltb b_1.i (↑(length a):Int)=false->true=eqB a b/\True)) (getD
 (drop (Int.toNat b_1.i) a) 0 0 !=getD (drop (Int.toNat b_1.i) b) 0 0)))))):=by kernel_rfl
theorem C5z (a k:List Int):fnP (TB1) G 10000 C76 (.r [] 0 (.r [] 1 (.r [] 0 (.cnd (.r [] 0 .nil) (.r [] 1 (.cnd (.r [] 0 .nil) (.r [] 0 .nil))))))) ([A2W a k]) ([.int .i64 (dcd a k)]) ([])=(
 (length a=length a/\length k=length k/\length a<1000000000000)/\((chk a k !=0)=true->chk a k=dcd a k/\True)/\((chk a k !=0)=false->(length k=length k/\length k<1000000000000)
 /\(A1q k 3=true->1=dcd a k/\True)/\(A1q k 3=false->0=dcd a k/\True))):=by kernel_rfl
set_option linter.unusedSimpArgs false
theorem A1A {l:List Int}{n:Nat}(h:n<l.length):l.drop n=l[n]?.getD 0::l.drop (n+1):=by
 rw[List.drop_eq_getElem_cons h];simp[h]
theorem B9l {l:List Int}{n:Nat}(h:n<l.length):(l.drop n).sum=l[n]?.getD 0+(l.drop (n+1)).sum:=by
 rw[A1A h,List.sum_cons]
theorem A59 {l:List Int}{n:Nat}(h:l.length<=n):l.drop n=[]:=List.drop_of_length_le h
theorem A1o:∀{l:List Int},(∀x∈l,1<=x)->0<=l.sum
 |[],_=>by simp
 |a::r,h=>by
  have h1:=h a (by simp);have h2:=A1o (l:=r) fun x hx=>h x (by simp[hx]);rw[List.sum_cons];omega
theorem A6a {l:List Int}{n:Nat}(h:n<l.length):l[n]?.getD 0∈l:=by simp[h]
theorem B65 {a:List Int}(h:okA a){n:Nat}(hn:n<a.length):1<=a[n]?.getD 0:=h.1 _ (A6a hn)
theorem A9M {a:List Int}(h:okA a)(n:Nat):0<=(a.drop n).sum:=A1o fun x hx=>h.1 x (List.mem_of_mem_drop hx)
theorem B66:∀{a k:List Int} {s:Int},a.length=k.length->A4s a k s=0->s<=8->(∀x∈a,1<=x)/\s+a.sum<=8/\∀x∈k,1<=x/\x<=3
 |[],k,s,hl,h,hs=>by
  have:k=[]:=List.eq_nil_of_length_eq_zero (by simpa using hl.symm);subst this;simp;exact hs
 |n::a,[],s,hl,h,hs=>by simp at hl
 |n::a,x::k,s,hl,h,hs=>by
  simp only[A4s]at h;split at h
  ·cases h
  ·rename_i hc;obtain⟨h1,h2,h3⟩:=B66 (a:=a) (k:=k) (by simpa using hl) h (by omega);refine⟨fun y hy=>?_,by rw[List.sum_cons];omega,fun y hy=>?_⟩
   ·rcases List.mem_cons.1 hy with rfl|hy
    ·omega
    ·exact h1 y hy
   ·rcases List.mem_cons.1 hy with rfl|hy
    ·omega
    ·exact h3 y hy
theorem A1V {a k:List Int}(h:chk a k=0):a.length=k.length/\okA a/\∀x∈k,1<=x/\x<=3:=by
 unfold chk at h;split at h
 ·rename_i hl;obtain⟨h1,h2,h3⟩:=B66 hl h (by decide);exact⟨hl,⟨h1,by omega⟩,h3⟩
 ·cases h
theorem B67:∀{a k:List Int} {s:Int},(∀x∈a,1<=x)->s+a.sum<=8->(∀x∈k,1<=x/\x<=3)->A4s a k s=0
 |[],k,s,h1,h2,h3=>by cases k<;>rfl
 |n::a,[],s,h1,h2,h3=>rfl
 |n::a,x::k,s,h1,h2,h3=>by
  have e1:=h1 n (by simp);have e2:=A1o (l:=a) fun y hy=>h1 y (by simp[hy]);have e3:=h3 x (by simp);rw[List.sum_cons]at h2;simp only[A4s];rw[if_neg (by omega)];exact B67 (fun y hy=>h1 y (by simp[hy])) (by omega) (fun y hy=>h3 y (by simp[hy]))
theorem C0x {a k:List Int}(hl:a.length=k.length)(h:okA a)(hk:∀x∈k,1<=x/\x<=3):chk a k=0:=by
 unfold chk;rw[if_pos hl];exact B67 h.1 (by have:=h.2;omega) hk
structure FOk (n:Nat)(s:FS):Prop where
 no:s.last<0->s.last= -1/\s.first= -1/\s.a=[]/\s.k=[]
 yes:0<=s.last->0<=s.first/\s.first<=s.last/\s.last<n/\s.a.sum=s.last-s.first/\s.k.length=s.a.length+1
 pos:∀x∈s.a,1<=x
 kd:∀x∈s.k,1<=x/\x<=3
 len:s.k.length<=n
theorem B68 {ks:List Int}(h:okK ks)(n:Nat):1<=A9H ks n/\A9H ks n<=3:=by
 unfold A9H;split
 ·rename_i hn;have h1:=h _ (A6a hn);simp only[List.getD_eq_getElem?_getD];have:=Int.tmod_nonneg 3 h1.1;have:=Int.tmod_lt_of_pos (ks[n]?.getD 0) (b:=3) (by decide);omega
 ·decide
theorem A8r (c:Int)(ks:List Int)(n:Nat):A1k c ks (n+1)=A9I c ks (A1k c ks n) n:=by
 simp[A1k,List.range_succ]
theorem A9N {c:Int}{ks:List Int}(h:okK ks):∀n,FOk n (A1k c ks n)
 |0=>⟨fun _=>⟨rfl,rfl,rfl,rfl⟩,fun h=>by simp[A1k]at h,by simp[A1k],by simp[A1k],by simp[A1k]⟩
 |n+1=>by
  rw[A8r];have ih:=A9N (c:=c) h n;obtain⟨i1,i2,i3,i4,i5⟩:=ih;generalize A1k c ks n=s at*;have hk:=B68 h s.k.length;unfold A9I;split
  ·exact⟨i1,fun h=>by have:=i2 h;omega,i3,i4,by omega⟩
  ·split
   ·rename_i hl;have:=i2 hl;refine⟨fun h=>?_,fun _=>?_,fun x hx=>?_,fun x hx=>?_,?_⟩
    ·simp at h;omega
    ·simp;omega
    ·simp at hx;rcases hx with hx|rfl
     ·exact i3 x hx
     ·omega
    ·simp at hx;rcases hx with hx|rfl
     ·exact i4 x hx
     ·exact hk
    ·simp;omega
   ·rename_i hl;obtain⟨e1,e2,e3,e4⟩:=i1 (by omega);refine⟨fun h=>?_,fun _=>?_,fun x hx=>?_,fun x hx=>?_,?_⟩
    ·simp at h;omega
    ·simp[e3,e4];omega
    ·simp[e3]at hx
    ·simp[e4]at hx;subst hx;rw[e4]at hk;exact hk
    ·simp[e4]
theorem B1k {n:Nat}{s:FS}(h:FOk n s)(hn:n<=8):(∀x∈A01 s,1<=x)/\(A01 s).sum<=8/\(A01 s).length=s.k.length/\(A01 s).length<=8:=by
 obtain⟨i1,i2,i3,i4,i5⟩:=h;unfold A01
 by_cases hl:0<=s.last
 ·have:=i2 hl;rw[if_pos (by omega)];refine⟨fun x hx=>?_,by simp;omega,by simp;omega,by simp;omega⟩;simp at hx;rcases hx with hx|rfl
  ·exact i3 x hx
  ·omega
 ·obtain⟨e1,e2,e3,e4⟩:=i1 (by omega);rw[if_neg (by omega),e3,e4];simp
theorem A2L (l:Int):∀(i:Nat) (a:List Int),(A2z l i a).length=a.length
 |i,[]=>rfl
 |i,x::r=>by simp[A2z,A2L l (i+1) r]
theorem B3W (l:Int):∀(i:Nat) {a:List Int},(∀x∈a,1<=x)->(∀x∈A2z l i a,1<=x)/\(A2z l i a).sum<=a.sum
 |i,[],h=>by simp[A2z]
 |i,x::r,h=>by
  obtain⟨h1,h2⟩:=B3W l (i+1) (a:=r) fun y hy=>h y (by simp[hy]);have hx:=h x (by simp);simp only[A2z,List.sum_cons];split<;>refine⟨fun y hy=>?_,by omega⟩<;>
  ·rcases List.mem_cons.1 hy with rfl|hy
   ·omega
   ·exact h1 y hy
theorem B2v {c l:Int}{ks:List Int}(h:okK ks):(ofA c l ks).length=(ofK c ks).length/\(ofA c l ks).length<=8/\okA (ofA c l ks)/\(∀x∈ofK c ks,1<=x/\x<=3):=by
 have h8:=A9N (c:=c) h 8;obtain⟨h1,h2,h3,h4⟩:=B1k h8 (Nat.le_refl _);obtain⟨g1,g2⟩:=B3W l 0 h1;unfold ofA ofK;exact⟨by rw[A2L];exact h3,by rw[A2L];exact h4,⟨g1,by omega⟩,h8.kd⟩
theorem A8s {c l:Int}{ks:List Int}(h:okK ks):chk (ofA c l ks) (ofK c ks)=0:=by
 obtain⟨h1,_,h2,h3⟩:=B2v (c:=c) (l:=l) h;exact C0x h1 h2 h3
theorem B1l (l:Int):∀(i n:Nat) (a:List Int),n<a.length->(A2z l i a)[n]? =some (if(l.fdiv (2 ^ min (i+n) IntKind.u8.bits)).tmod 2=1/\1<a[n]?.getD 0 then a[n]?.getD 0-1 else a[n]?.getD 0)
 |i,n,[],h=>by simp at h
 |i,0,x::r,h=>by simp[A2z]
 |i,n+1,x::r,h=>by
  have:=B1l l (i+1) n r (by simpa using h);simp only[A2z,List.getElem?_cons_succ];rw[this,show i+1+n=i+(n+1)by omega]
theorem B1m {l:Int}{a:List Int}{n:Nat}(h:n<a.length):((A2z l 0 a).take n++a.drop n).set n (if(l.fdiv (2 ^ min n IntKind.u8.bits)).tmod 2=1/\1<a[n]?.getD 0 then a[n]?.getD 0-1 else a[n]?.getD 0)=(A2z l 0 a).take (n+1)++a.drop (n+1):=by
 have hg:=B1l l 0 n a h;simp only[Nat.zero_add]at hg;have hl:=A2L l 0 a;have hlt:(List.take n (A2z l 0 a)).length=n:=by simp;omega
 rw[List.take_add_one,hg,List.set_append_right _ _ (by omega),hlt,Nat.sub_self,A1A h];simp
theorem B3X {l:Int}{a:List Int}{n:Nat}(h:n<a.length):((A2z l 0 a).take n++a.drop n)[n]?.getD 0=a[n]?.getD 0:=by
 have hl:=A2L l 0 a;rw[List.getElem?_append_right (by simp;omega)];simp[hl,Nat.min_eq_left (Nat.le_of_lt h)]
theorem B69 {l:Int}{a:List Int}{n:Nat}(h:n<a.length)(hc:¬ ((l.fdiv (2 ^ min n IntKind.u8.bits)).tmod 2=1/\1<a[n]?.getD 0)):(A2z l 0 a).take n++a.drop n=(A2z l 0 a).take (n+1)++a.drop (n+1):=by
 rw[<- B1m h,if_neg hc];apply List.ext_getElem?;intro i
 by_cases hi:n=i
 ·subst hi;have hl:=A2L l 0 a;have hlt:n<((A2z l 0 a).take n++a.drop n).length:=by simp;omega
  rw[List.getElem?_set_self hlt];have:=B3X (l:=l) h;rw[List.getElem?_eq_getElem hlt]at this ⊢;simpa using this
 ·rw[List.getElem?_set_ne hi]
end Go.Proofs.YthiammkiobbclaaGreatDoor.X
