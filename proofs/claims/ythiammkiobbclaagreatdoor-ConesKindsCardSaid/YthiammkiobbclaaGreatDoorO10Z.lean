/-
 What is to be shown of the functions (made by a program).
-/
import Derived.Test.YthiammkiobbclaaGreatDoorD19Z
import Derived.KernelRfl
set_option maxRecDepth 1000000
set_option linter.unusedVariables false
namespace Go.Proofs.YthiammkiobbclaaGreatDoor.X
open Go Go.Ab
open List IntKind

theorem ob_d_39 (a k:List Int)(m n:Int)(H:List (List Int)):fnD (TK a k (n.toNat+1)) G 10000 (fe39) (.r [] 1 (.cnd (.r [] 0 (.lp (lk39 a k m (Int.toNat n) H) [] [] (fun b=>(.r [] 0 (.cnd (.r [] 0 (.r [] 0 (.rs 8 [] 1 31 (.r [] 3 (.lit (.r [yO 452,yO 455,(456,.auto,Dr.heap)] 1 (.r [] 0 .nil)))) (.r [] 97 (.cnd (.r [yO 452,yO 455,(456,.auto,Dr.heap)] 1 (.r [] 0 .nil)) (.r [] 0 .nil)))))) .nil))))) (.r [] 65 (.r [] 1 (.lp (mk39 m (Int.toNat n)) [] [] (fun b=>(.r [] 0 (.cnd (.r [] 0 (.r [] 1 (.r [] 0 .nil))) (.frz 9 0 (.r [] 13 (.r [] 0 (.cnd (.r [] 51 .nil) .nil)))))))))))) ([.int .i64 m,.int .i64 n,.ptr 64 0,.ptr 384 0,.ptr 320 0]) (hpK a k H) ([]) (wsK a (kndO a k m n.toNat H))=(
 (fun(zz3:List Int)=>(fun(zz0:Nat)=>(ltb n (↑(length k):Int)=true→length H=length (unK (fnsV a H))∧fnsV a H=fnsV a (unK (fnsV a H))∧1=1∧length H=length (unK
 (fnsV a H))∧1=1∧0=0∧0=0∧0=0∧1=1∧qs i64 a (qs u8 k (m=m∧n=n∧0=0∧0=0∧iI 0=0∧(∃(i:Nat),0=(↑i:Int)∧i≤2∧unK (fnsV a H)=kndM a k m
 (Int.toNat n) H i)∧∀(b:LK),(fun(zz2:Nat)=>(fun(zz1:Prop)=>(∃(i:Nat),b.i=(↑i:Int)∧i≤2∧b.H=kndM a k m (Int.toNat n) H i)→(ltb b.i 2=true→inR i64 (1+b.i)
 =true∧inR u8 (1+b.i)=true∧rd u8 k n (((getD zz3 0 0==1+b.i)=true→inR i64 (b.i*2 ^ min (Int.toNat n) 64)=true∧leb 0 n=true∧inR i64 (n+1)=true∧([(9700,HO.blk
 (Blk.mk (Cont.vals (fnsV a b.H)) 2 (length b.H) none (some true) true false)),(320,HO.blk (Blk.mk (Cont.cells [AV.full 9700 (length b.H)]) 1 1 none (some false) true true)),(384,HO.blk
 (Blk.mk (Cont.cells [AV.fn 39 [] [AV.ptr 64 0,AV.ptr 384 0,AV.ptr 320 0]]) 1 1 none (some false) true true)),(64,HO.blk (Blk.mk (Cont.cells [AV.imm (Cont.ints i64 a) (length a) none,
 AV.imm (Cont.ints u8 k) (length k) none]) 2 1 none (some false) true true))]=[(9700,HO.blk (Blk.mk (Cont.vals (fnsV a (unK (fnsV a b.H)))) 2 zz2 none (some true) true false)),(320,
 HO.blk (Blk.mk (Cont.cells [AV.full 9700 zz2]) 1 1 none (some false) true true)),(384,HO.blk (Blk.mk (Cont.cells [AV.fn 39 [] [AV.ptr 64 0,AV.ptr 384 0,AV.ptr 320 0]]) 1 1 none (some
 false) true true)),(64,HO.blk (Blk.mk (Cont.cells [AV.imm (Cont.ints i64 a) (length a) none,AV.imm (Cont.ints u8 k) (length k) none]) 2 1 none (some false) true true))]∧0≤n+1∧
 Int.toNat (n+1)=Int.toNat n+1∧Int.toNat n+1≤length k∧okM (bitI BinOp.or i64 m (b.i*2 ^ min (Int.toNat n) 64)) (Int.toNat n+1)∧okH k (Int.toNat n+1) (unK (fnsV a b.H)))
 ∧inR i64 (b.i+1)=true∧length (kndO a k (bitI BinOp.or i64 m (b.i*2 ^ min (Int.toNat n) 64)) zz0 (unK (fnsV a b.H)))=length (unK (fnsV a (kndO a k (bitI BinOp.or i64 m (b.i*2 ^
 min (Int.toNat n) 64)) zz0 (unK (fnsV a b.H)))))∧fnsV a (kndO a k (bitI BinOp.or i64 m (b.i*2 ^ min (Int.toNat n) 64)) zz0 (unK (fnsV a b.H)))=fnsV a (unK (fnsV a (kndO a k (bitI
 BinOp.or i64 m (b.i*2 ^ min (Int.toNat n) 64)) zz0 (unK (fnsV a b.H)))))∧1=1∧length (kndO a k (bitI BinOp.or i64 m (b.i*2 ^ min (Int.toNat n) 64)) zz0 (unK (fnsV a b.H)))=length
 (unK (fnsV a (kndO a k (bitI BinOp.or i64 m (b.i*2 ^ min (Int.toNat n) 64)) zz0 (unK (fnsV a b.H)))))∧1=1∧0=0∧0=0∧0=0∧1=1∧qs i64 a (qs u8 k (m=m∧n=n∧0=0∧0
 =0∧b.i+1=b.i+1∧zz1∧2-Int.toNat (b.i+1)<2-Int.toNat b.i∧True)))∧((getD zz3 0 0==1+b.i)=false→rd u8 k n (((getD zz3 0 0==3)=true→inR i64 (b.i*2 ^ min
 (Int.toNat n) 64)=true∧leb 0 n=true∧inR i64 (n+1)=true∧([(9700,HO.blk (Blk.mk (Cont.vals (fnsV a b.H)) 2 (length b.H) none (some true) true false)),(320,HO.blk (Blk.mk
 (Cont.cells [AV.full 9700 (length b.H)]) 1 1 none (some false) true true)),(384,HO.blk (Blk.mk (Cont.cells [AV.fn 39 [] [AV.ptr 64 0,AV.ptr 384 0,AV.ptr 320 0]]) 1 1 none (some false)
 true true)),(64,HO.blk (Blk.mk (Cont.cells [AV.imm (Cont.ints i64 a) (length a) none,AV.imm (Cont.ints u8 k) (length k) none]) 2 1 none (some false) true true))]=[(9700,HO.blk (Blk.mk
 (Cont.vals (fnsV a (unK (fnsV a b.H)))) 2 zz2 none (some true) true false)),(320,HO.blk (Blk.mk (Cont.cells [AV.full 9700 zz2]) 1 1 none (some false) true true)),(384,HO.blk (Blk.mk
 (Cont.cells [AV.fn 39 [] [AV.ptr 64 0,AV.ptr 384 0,AV.ptr 320 0]]) 1 1 none (some false) true true)),(64,HO.blk (Blk.mk (Cont.cells [AV.imm (Cont.ints i64 a) (length a) none,AV.imm
 (Cont.ints u8 k) (length k) none]) 2 1 none (some false) true true))]∧0≤n+1∧Int.toNat (n+1)=Int.toNat n+1∧Int.toNat n+1≤length k∧okM (bitI BinOp.or i64 m (b.i*2 ^ min
 (Int.toNat n) 64)) (Int.toNat n+1)∧okH k (Int.toNat n+1) (unK (fnsV a b.H)))∧inR i64 (b.i+1)=true∧length (kndO a k (bitI BinOp.or i64 m (b.i*2 ^ min (Int.toNat n) 64)) zz0
 (unK (fnsV a b.H)))=length (unK (fnsV a (kndO a k (bitI BinOp.or i64 m (b.i*2 ^ min (Int.toNat n) 64)) zz0 (unK (fnsV a b.H)))))∧fnsV a (kndO a k (bitI BinOp.or i64 m (b.i*2 ^ min
 (Int.toNat n) 64)) zz0 (unK (fnsV a b.H)))=fnsV a (unK (fnsV a (kndO a k (bitI BinOp.or i64 m (b.i*2 ^ min (Int.toNat n) 64)) zz0 (unK (fnsV a b.H)))))∧1=1∧length (kndO a k (bitI
 BinOp.or i64 m (b.i*2 ^ min (Int.toNat n) 64)) zz0 (unK (fnsV a b.H)))=length (unK (fnsV a (kndO a k (bitI BinOp.or i64 m (b.i*2 ^ min (Int.toNat n) 64)) zz0 (unK (fnsV a b.H)))))∧1
 =1∧0=0∧0=0∧0=0∧1=1∧qs i64 a (qs u8 k (m=m∧n=n∧0=0∧0=0∧b.i+1=b.i+1∧zz1∧2-Int.toNat (b.i+1)<2-Int.toNat b.i∧True)))∧((getD zz3 0 0==
 3)=false→inR i64 (b.i+1)=true∧length b.H=length (unK (fnsV a b.H))∧fnsV a b.H=fnsV a (unK (fnsV a b.H))∧1=1∧length b.H=length (unK (fnsV a b.H))∧1=1∧0=0∧0=
 0∧0=0∧1=1∧qs i64 a (qs u8 k (m=m∧n=n∧0=0∧0=0∧b.i+1=b.i+1∧(∃(i:Nat),b.i+1=(↑i:Int)∧i≤2∧unK (fnsV a b.H)=kndM a k m (Int.toNat n) H i)∧2-
 Int.toNat (b.i+1)<2-Int.toNat b.i∧True)))))))∧(ltb b.i 2=false→length b.H=length (kndO a k m (Int.toNat n) H)∧fnsV a b.H=fnsV a (kndO a k m (Int.toNat n) H)∧1=1∧
 length b.H=length (kndO a k m (Int.toNat n) H)∧1=1∧0=0∧0=0∧0=0∧1=1∧qs i64 a (qs u8 k (True)))) (∃(i:Nat),b.i+1=(↑i:Int)∧i≤2∧unK (fnsV a (kndO a k
 (bitI BinOp.or i64 m (b.i*2 ^ min (Int.toNat n) 64)) zz0 (unK (fnsV a b.H))))=kndM a k m (Int.toNat n) H i)) (length (unK (fnsV a b.H))))))∧(ltb n (↑(length k):Int)=false→(length
 a=length a∧length a<1000000)∧length a=length a∧leb 0 n=true∧leb n n=true∧leb (n*1) 140737488355328=true∧qx (Int.toNat n) (length H=length H∧fnsV a H=fnsV a H
 ∧1=1∧length H=length H∧1=1∧0=0∧0=0∧0=0∧1=1∧qs i64 a (qs u8 k (qx (Int.toNat n) (qx (Int.toNat n) (qx (replicate (Int.toNat n) (0:Int)) (1=1∧qs i64 a
 (length a=length a∧qx (Int.toNat n) (m=m∧0=0∧0=0∧qx (↑(Int.toNat n):Int) (iI 0=0∧(∃(i:Nat),0=(↑i:Int)∧i≤Int.toNat n∧replicate (Int.toNat n) (0:Int)=
 take i (kdM m (Int.toNat n))++replicate (Int.toNat n-i) (0:Int))∧∀(b:LKk),(∃(i:Nat),b.i=(↑i:Int)∧i≤Int.toNat n∧b.h=take i (kdM m (Int.toNat n))++replicate
 (Int.toNat n-i) (0:Int))→(ltb b.i (↑(Int.toNat n):Int)=true→leb 0 b.i=true∧inR i64 (1+bitI BinOp.and i64 (Int.fdiv m (2 ^ min (Int.toNat b.i) 64)) 1)=true∧inR u8 (1+
 bitI BinOp.and i64 (Int.fdiv m (2 ^ min (Int.toNat b.i) 64)) 1)=true∧leb 0 b.i=true∧ltb b.i (↑(Int.toNat n):Int)=true∧qx (Int.toNat n) (qx (Int.toNat n) (len' (Int.toNat b.i+
 1) (Cont.size (Cont.ints u8 b.h))=true∧inR i64 (b.i+1)=true∧length H=length H∧fnsV a H=fnsV a H∧1=1∧length H=length H∧1=1∧0=0∧0=0∧0=0∧1=1∧qs i64
 a (qs u8 k (qx (Int.toNat n) (qx (Int.toNat n) (qx (set b.h (Int.toNat b.i) (1+bitI BinOp.and i64 (Int.fdiv m (2 ^ min (Int.toNat b.i) 64)) 1)) (1=1∧qs i64 a (length a=length a∧qx
 (Int.toNat n) (m=m∧0=0∧0=0∧qx (↑(Int.toNat n):Int) (b.i+1=b.i+1∧(∃(i:Nat),b.i+1=(↑i:Int)∧i≤Int.toNat n∧set b.h (Int.toNat b.i) (1+bitI BinOp.and i64
 (Int.fdiv m (2 ^ min (Int.toNat b.i) 64)) 1)=take i (kdM m (Int.toNat n))++replicate (Int.toNat n-i) (0:Int))∧Int.toNat n-Int.toNat (b.i+1)<Int.toNat n-Int.toNat b.i∧
 True)))))))))))∧(ltb b.i (↑(Int.toNat n):Int)=false→qx (Int.toNat n) ((length a=length a∧Int.toNat n=length b.h∧length a<1000000000∧length b.h<1000000000)∧((okD a b.h
 &&foldB a b.h)=true→length H=length H∧len' ((length H+1)*48) 140737488355328=true∧length H+1=length (kndO a k m (Int.toNat n) H)∧fnsV a H++[AV.imm (Cont.ints i64 a)
 (length a) (some (length a)),AV.imm (Cont.ints u8 b.h) (Int.toNat n) (some (Int.toNat n))]=fnsV a (kndO a k m (Int.toNat n) H)∧1=1∧length H+1=length (kndO a k m (Int.toNat n) H)
 ∧1=1∧0=0∧0=0∧0=0∧1=1∧qs i64 a (qs u8 k (True)))∧((okD a b.h&&foldB a b.h)=false→length H=length (kndO a k m (Int.toNat n) H)∧fnsV a H=fnsV a (kndO a k m
 (Int.toNat n) H)∧1=1∧length H=length (kndO a k m (Int.toNat n) H)∧1=1∧0=0∧0=0∧0=0∧1=1∧qs i64 a (qs u8 k (True)))))))))))))))) (Int.toNat (n+1))) (drop
 (Int.toNat n) k)):=by kernel_rfl

theorem ob_o42c (vs:List AV)(n:Nat):fnP (T0) G 10000 fe42 (.r [] 0 (.r [] 5 .nil)) ([.imm (.vals vs) n none]) ([.imm (.vals vs) n (some n)]) ([])=(
 Int.toNat (↑n:Int)=n∧Int.toNat (↑n:Int)=n∧Cont.size (Cont.vals vs)=n*2∧Cont.vals vs=Cont.vals vs∧n=n∧n=n∧True):=by kernel_rfl

theorem ob_o19c (a k:List Int):fnP (T19 a k) G 10000 fe19 (.r [] 0 (.r [] 1 (.r [] 0 (.cnd (.r [] 0 .nil) (.r [] 0 (.r [] 0 (.ghc 320 0 9700 2 (Cont.vals []) (.jn (j19 a) [1] [] (.r [] 1 .nil) (fun b=>(.r [(513,.auto,Dr.heap)] 1 (.frz 5 0 (.r [] 1 .nil)))))))))))) ([fanV a k]) ([kdsV a k,.int .i64 (chk a k)]) ([])=(
 (length a=length a∧length k=length k∧length a<1000000000000)∧((chk a k !=0)=true→Cont.size (Cont.vals (fnsV a (kndsL a k)))=0∧length (kndsL a k)=0∧length (kndsL a k)
 =0∧chk a k=chk a k∧True)∧((chk a k !=0)=false→(1=1∧qs i64 a (qs u8 k (1=1∧0=0∧1=1∧0=0∧0=0∧0=0∧0=0∧([]:List AV)=[]∧0=0∧0=0∧True∧
 True)))∧∀(b:Unit),True→([(9700,HO.blk (Blk.mk (Cont.vals []) 2 0 none (some true) true false)),(320,HO.blk (Blk.mk (Cont.cells [AV.full 9700 0]) 1 1 none (some false) true true)),
 (384,HO.blk (Blk.mk (Cont.cells [AV.fn 39 [] [AV.ptr 64 0,AV.ptr 384 0,AV.ptr 320 0]]) 1 1 none (some false) true true)),(64,HO.blk (Blk.mk (Cont.cells [AV.imm (Cont.ints i64 a) (length
 a) none,AV.imm (Cont.ints u8 k) (length k) none]) 2 1 none (some false) true true))]=[(9700,HO.blk (Blk.mk (Cont.vals []) 2 0 none (some true) true false)),(320,HO.blk (Blk.mk
 (Cont.cells [AV.full 9700 0]) 1 1 none (some false) true true)),(384,HO.blk (Blk.mk (Cont.cells [AV.fn 39 [] [AV.ptr 64 0,AV.ptr 384 0,AV.ptr 320 0]]) 1 1 none (some false) true true)),
 (64,HO.blk (Blk.mk (Cont.cells [AV.imm (Cont.ints i64 a) (length a) none,AV.imm (Cont.ints u8 k) (length k) none]) 2 1 none (some false) true true))]∧iI 0=0∧iI 0=0∧chk a k=0)∧
 qx (length (kndO a k 0 0 [])) (length (fnsV a (kndO a k 0 0 []))=length (kndO a k 0 0 [])*2∧Cont.vals (fnsV a (kndO a k 0 0 []))=Cont.vals (fnsV a (kndsL a k))∧length (kndO a k 0 0
 [])=length (kndsL a k)∧length (kndO a k 0 0 [])=length (kndsL a k)∧0=chk a k∧True))):=by kernel_rfl

theorem ob_o31c (a k:List Int):fnP (T31) G 10000 fe31 (.r [] 0 (.r [] 13 (.r [] 0 .nil))) ([fanV a k]) ([.bool (fldB a k),.int .i64 (chk a k)]) ([])=(
 (length a=length a∧length k=length k∧length a<1000000∧length k<1000000)∧ltb 0 (↑(length (kndsL a k)):Int)=fldB a k∧chk a k=chk a k∧True):=by kernel_rfl

end Go.Proofs.YthiammkiobbclaaGreatDoor.X
