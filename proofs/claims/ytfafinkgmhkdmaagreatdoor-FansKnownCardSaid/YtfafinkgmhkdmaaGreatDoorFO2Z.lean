/-
 What is to be shown of the functions (made by a program).
-/
import Derived.Test.YtfafinkgmhkdmaaGreatDoorFGZ
set_option maxRecDepth 1000000
set_option linter.unusedVariables false
namespace Go.Proofs.YtfafinkgmhkdmaaGreatDoor.X
open Go Go.Ab
open List IntKind
theorem B7Z (l:List P.Cr):fnD (TY8 l 2 2) G 10000 (B8O) (.r [] 127 (.r [] 3 (.lit (.r [] 3 (.r [] 0 (.un (.r [] 27 (.r [] 0 (.un (.r [] 0 (.lit (.r [] 0 (.r [] 4091 (.lit (.r [] 1 (.un (.r [] 0 (.lit (.r [] 0 (.r [] 123 (.lit (.r [] 1 (.un (.r [] 0 (.lit (.r [] 0 (.r [] 4091 (.lit (.r [] 29 (.r [(776,.auto,Dr.heap)] 31 (.lit (.r [] 29 (.r [] 0 (.r [] 3 (.lit (.un (.r [] 27 (.r [] 0 (.un (.r [] 0 (.lit (.r [] 0 (.r [] 507 (.lit (.gc 711 (.r [] 29 (.r [(776,.auto,Dr.heap)] 31 (.lit (.r [] 29 (.r [] 0 (.r [] 3 (.lit (.un (.r [] 27 (.r [] 0 (.un (.r [] 0 (.lit (.r [] 0 (.r [] 123 (.lit (.r [] 1 (.un (.r [] 0 (.lit (.r [] 0 (.r [] 507 (.lit (.gc 711 (.r [] 29 (.r [(776,.auto,Dr.heap)] 31 (.lit (.r [] 29 (.r [] 0 (.r [] 3 (.lit (.un (.r [] 27 (.r [] 0 (.un (.r [] 0 (.lit (.r [] 0 (.r [] 507 (.lit (.gc 711 (.r [] 29 (.r [(776,.auto,Dr.heap)] 31 (.lit (.r [] 29 (.r [] 0 (.r [] 3 (.lit (.un (.r [] 27 (.r [] 0 (.un (.r [] 0 (.lit (.r [] 0 (.r [] 123 (.lit (.r [] 1 (.un (.r [] 0 (.lit (.r [] 0 (.r [] 123 (.lit (.r [] 1 (.un (.r [] 0 (.lit (.r [] 0 (.r [] 507 (.lit (.gc 711 (.r [] 29 (.r [(776,.auto,Dr.heap)] 31 (.lit (.r [] 29 (.r [] 0 (.r [] 3 (.lit (.un (.r [] 27 (.r [] 0 (.un (.r [] 0 (.lit (.r [] 0 (.r [] 507 (.lit (.gc 711 (.r [] 29 (.r [(776,.auto,Dr.heap)] 31 (.lit (.r [] 29 (.r [] 0 (.r [] 3 (.lit (.un (.r [] 27 (.r [] 0 (.un (.r [] 0 (.lit (.r [] 0 (.r [] 123 (.lit (.r [] 1 (.un (.r [] 0 (.lit (.r [] 0 (.r [] 507 (.lit (.gc 711 (.r [] 29 (.r [(776,.auto,Dr.heap)] 31 (.lit (.r [] 29 (.r [] 0 (.r [] 3 (.lit (.un (.r [] 27 (.r [] 0 (.un (.r [] 0 (.lit (.r [] 0 (.r [] 507 (.lit (.gc 711 (.r [] 29 (.r [(776,.auto,Dr.heap)] 31 (.lit (.r [] 29 (.r [] 0 (.r [] 3 (.lit .nil)))))))))))))))))))))))))))))))))))))))))))))))))))))))))))))))))))))))))))))))))))))))))))))))))))))))))))))))))))))))))))))))))))))))))))))))))))))))))))))))))))))))))))))))))))))) ([.yld 9002,.ptr 37056 0,.ptr 37057 0]) (H8 l [] 2 2 (some 0)) ([]) ([(37057,.blk (ptB 2 2)),(37056,.blk (ptB 2 2)),(9001,B0P (A0Z l 2 2)),(512,bxO (.full 9001 (A0Z l 2 2).length))])=(
 (fun(zz11:Nat)=>(fun(zz10:Nat)=>(fun(zz9:Nat)=>(fun(zz8:Nat)=>(fun(zz7:Nat)=>(fun(zz6:Nat)=>(fun(zz5:Nat)=>(fun(zz4:Nat)=>(fun(zz3:Nat)=>(fun
 (zz2:Nat)=>(fun(zz1:Nat)=>(fun(zz0:Nat)=>(true=true/\iI 0<=iI 0/\iI 0<=iI 3/\(iI (-1000)<=iI 1/\iI 1<=iI 1000)/\iI (-1000)<=iI 1/\iI 1<=iI 1000)/\(inZ 1 1 0/\iI
 0<=iI 0/\iI 0<=iI 2)/\(inZ 1 1 0/\iI 0<=iI 1/\iI 1<=iI 2)/\(inZ 1 1 0/\iI 0<=iI 2/\iI 2<=iI 2)/\iI 0<=iI 2/\([(37057,HO.blk (Blk.mk (Cont.cells [AV.int i64 2,AV.int i64 2])
 2 1 none (some false) true true)),(37056,HO.blk (Blk.mk (Cont.cells [AV.int i64 2,AV.int i64 2]) 2 1 none (some false) true true)),(9001,HO.blk (Blk.mk (Cont.vals []) 2 0 (some 0) (some
 true) true false)),(512,HO.blk (Blk.mk (Cont.cells [AV.full 9001 0]) 1 1 none (some false) true true)),(64,HO.blk (Blk.mk (Cont.cells [AV.int i64 2,AV.int i64 2,AV.imm (Cont.vals
 (P.flatC l)) (length l) none]) 3 1 none (some false) true true)),(9002,HO.loop (LoopS.mk 0 none [(2,AV.ptr 64 0),(8,AV.ptr 512 0),(28,AV.fn 55 [] [AV.ptr 37056 0,AV.ptr 37057 0])] 55
 [29,30] as8 bd8))]=[(37057,HO.blk (Blk.mk (Cont.cells [AV.int i64 2,AV.int i64 2]) 2 1 none (some false) true true)),(37056,HO.blk (Blk.mk (Cont.cells [AV.int i64 2,AV.int i64 2]) 2
 1 none (some false) true true)),(9001,HO.blk (Blk.mk (Cont.vals []) 2 0 (some 0) (some true) true false)),(512,HO.blk (Blk.mk (Cont.cells [AV.full 9001 0]) 1 1 none (some false) true
 true)),(64,HO.blk (Blk.mk (Cont.cells [AV.int i64 2,AV.int i64 2,AV.imm (Cont.vals (P.flatC l)) (length l) none]) 3 1 none (some false) true true)),(9002,HO.loop (LoopS.mk 0 none [(2,
 AV.ptr 64 0),(8,AV.ptr 512 0),(28,AV.fn 55 [] [AV.ptr 37056 0,AV.ptr 37057 0])] 55 [29,30] as8 bd8))]/\0<1000000/\length l<1000000000/\(∀(x:P.Cr),x∈l->0<=x.snd.fst/\
 x.snd.fst<=255)/\iI 0<=iI 2/\iI 2<=iI 255)/\(iI (-900)<=iI 1/\iI 1<=iI 900/\iI (-900)<=iI 1/\iI 1<=iI 900/\iI 0<=iI 0/\iI 0<=iI 3/\iI 0<=iI 2)/\(true=true/\iI 0<=iI 3
 /\iI 3<=iI 3/\(iI (-1000)<=iI 1/\iI 1<=iI 1000)/\iI (-1000)<=iI 1/\iI 1<=iI 1000)/\(inZ 1 1 3/\iI 0<=iI 0/\iI 0<=iI 2)/\iI 0<=iI 0/\([(37057,HO.blk (Blk.mk (Cont.cells
 [AV.int i64 2,AV.int i64 2]) 2 1 none (some false) true true)),(37056,HO.blk (Blk.mk (Cont.cells [AV.int i64 2,AV.int i64 2]) 2 1 none (some false) true true)),(9001,HO.blk (Blk.mk
 (Cont.vals (flR (A0h [] 1 (knZ l 12 2)))) 2 (length (A0h [] 1 (knZ l 12 2))) none (some true) true false)),(512,HO.blk (Blk.mk (Cont.cells [AV.full 9001 (length (A0h [] 1 (knZ l 12
 2)))]) 1 1 none (some false) true true)),(64,HO.blk (Blk.mk (Cont.cells [AV.int i64 2,AV.int i64 2,AV.imm (Cont.vals (P.flatC l)) (length l) none]) 3 1 none (some false) true true)),
 (9002,HO.loop (LoopS.mk 0 none [(2,AV.ptr 64 0),(8,AV.ptr 512 0),(28,AV.fn 55 [] [AV.ptr 37056 0,AV.ptr 37057 0])] 55 [29,30] as8 bd8))]=[(37057,HO.blk (Blk.mk (Cont.cells [AV.int
 i64 2,AV.int i64 2]) 2 1 none (some false) true true)),(37056,HO.blk (Blk.mk (Cont.cells [AV.int i64 2,AV.int i64 2]) 2 1 none (some false) true true)),(9001,HO.blk (Blk.mk (Cont.vals
 (flR (unR (flR (A0h [] 1 (knZ l 12 2)))))) 2 (length (unR (flR (A0h [] 1 (knZ l 12 2))))) none (some true) true false)),(512,HO.blk (Blk.mk (Cont.cells [AV.full 9001 (length (unR (flR
 (A0h [] 1 (knZ l 12 2)))))]) 1 1 none (some false) true true)),(64,HO.blk (Blk.mk (Cont.cells [AV.int i64 2,AV.int i64 2,AV.imm (Cont.vals (P.flatC l)) (length l) none]) 3 1 none (some
 false) true true)),(9002,HO.loop (LoopS.mk 0 none [(2,AV.ptr 64 0),(8,AV.ptr 512 0),(28,AV.fn 55 [] [AV.ptr 37056 0,AV.ptr 37057 0])] 55 [29,30] as8 bd8))]/\length (unR (flR (A0h
 [] 1 (knZ l 12 2))))<1000000/\length l<1000000000/\(∀(x:P.Cr),x∈l->0<=x.snd.fst/\x.snd.fst<=255)/\iI 0<=iI 0/\iI 0<=iI 255)/\(iI (-900)<=iI 1/\iI 1<=iI 900/\iI
 (-900)<=iI 1/\iI 1<=iI 900/\iI 0<=iI 3/\iI 3<=iI 3/\iI 0<=iI 0)/\(true=true/\iI 0<=iI 1/\iI 1<=iI 3/\(iI (-1000)<=iI 0/\iI 0<=iI 1000)/\iI (-1000)<=iI 1/\iI 1<=iI
 1000)/\(inZ 0 1 1/\iI 0<=iI 0/\iI 0<=iI 2)/\(inZ 0 1 1/\iI 0<=iI 1/\iI 1<=iI 2)/\iI 0<=iI 1/\([(37057,HO.blk (Blk.mk (Cont.cells [AV.int i64 2,AV.int i64 2]) 2 1 none (some
 false) true true)),(37056,HO.blk (Blk.mk (Cont.cells [AV.int i64 2,AV.int i64 2]) 2 1 none (some false) true true)),(9001,HO.blk (Blk.mk (Cont.vals (flR (A0h (unR (flR (A0h [] 1 (knZ
 l 12 2)))) 2 (knZ l 9 0)))) 2 zz11 none (some true) true false)),(512,HO.blk (Blk.mk (Cont.cells [AV.full 9001 zz11]) 1 1 none (some false) true true)),(64,HO.blk (Blk.mk (Cont.cells
 [AV.int i64 2,AV.int i64 2,AV.imm (Cont.vals (P.flatC l)) (length l) none]) 3 1 none (some false) true true)),(9002,HO.loop (LoopS.mk 0 none [(2,AV.ptr 64 0),(8,AV.ptr 512 0),(28,
 AV.fn 55 [] [AV.ptr 37056 0,AV.ptr 37057 0])] 55 [29,30] as8 bd8))]=[(37057,HO.blk (Blk.mk (Cont.cells [AV.int i64 2,AV.int i64 2]) 2 1 none (some false) true true)),(37056,HO.blk
 (Blk.mk (Cont.cells [AV.int i64 2,AV.int i64 2]) 2 1 none (some false) true true)),(9001,HO.blk (Blk.mk (Cont.vals (flR (unR (flR (A0h (unR (flR (A0h [] 1 (knZ l 12 2)))) 2 (knZ l 9
 0)))))) 2 zz10 none (some true) true false)),(512,HO.blk (Blk.mk (Cont.cells [AV.full 9001 zz10]) 1 1 none (some false) true true)),(64,HO.blk (Blk.mk (Cont.cells [AV.int i64 2,AV.int
 i64 2,AV.imm (Cont.vals (P.flatC l)) (length l) none]) 3 1 none (some false) true true)),(9002,HO.loop (LoopS.mk 0 none [(2,AV.ptr 64 0),(8,AV.ptr 512 0),(28,AV.fn 55 [] [AV.ptr
 37056 0,AV.ptr 37057 0])] 55 [29,30] as8 bd8))]/\length (unR (flR (A0h (unR (flR (A0h [] 1 (knZ l 12 2)))) 2 (knZ l 9 0))))<1000000/\length l<1000000000/\(∀(x:P.Cr),x∈l->0
 <=x.snd.fst/\x.snd.fst<=255)/\iI 0<=iI 1/\iI 1<=iI 255)/\(iI (-900)<=iI 0/\iI 0<=iI 900/\iI (-900)<=iI 1/\iI 1<=iI 900/\iI 0<=iI 1/\iI 1<=iI 3/\iI 0<=iI 1)/\(true=true
 /\iI 0<=iI 0/\iI 0<=iI 3/\(iI (-1000)<=iI 0/\iI 0<=iI 1000)/\iI (-1000)<=iI 1/\iI 1<=iI 1000)/\(inZ 0 1 0/\iI 0<=iI 0/\iI 0<=iI 2)/\iI 0<=iI 0/\([(37057,HO.blk (Blk.mk
 (Cont.cells [AV.int i64 2,AV.int i64 2]) 2 1 none (some false) true true)),(37056,HO.blk (Blk.mk (Cont.cells [AV.int i64 2,AV.int i64 2]) 2 1 none (some false) true true)),(9001,HO.blk
 (Blk.mk (Cont.vals (flR (A0h (unR (flR (A0h (unR (flR (A0h [] 1 (knZ l 12 2)))) 2 (knZ l 9 0)))) 3 (knZ l 8 1)))) 2 zz9 none (some true) true false)),(512,HO.blk (Blk.mk (Cont.cells
 [AV.full 9001 zz9]) 1 1 none (some false) true true)),(64,HO.blk (Blk.mk (Cont.cells [AV.int i64 2,AV.int i64 2,AV.imm (Cont.vals (P.flatC l)) (length l) none]) 3 1 none (some false)
 true true)),(9002,HO.loop (LoopS.mk 0 none [(2,AV.ptr 64 0),(8,AV.ptr 512 0),(28,AV.fn 55 [] [AV.ptr 37056 0,AV.ptr 37057 0])] 55 [29,30] as8 bd8))]=[(37057,HO.blk (Blk.mk
 (Cont.cells [AV.int i64 2,AV.int i64 2]) 2 1 none (some false) true true)),(37056,HO.blk (Blk.mk (Cont.cells [AV.int i64 2,AV.int i64 2]) 2 1 none (some false) true true)),(9001,HO.blk
 (Blk.mk (Cont.vals (flR (unR (flR (A0h (unR (flR (A0h (unR (flR (A0h [] 1 (knZ l 12 2)))) 2 (knZ l 9 0)))) 3 (knZ l 8 1)))))) 2 zz8 none (some true) true false)),(512,HO.blk (Blk.mk
 (Cont.cells [AV.full 9001 zz8]) 1 1 none (some false) true true)),(64,HO.blk (Blk.mk (Cont.cells [AV.int i64 2,AV.int i64 2,AV.imm (Cont.vals (P.flatC l)) (length l) none]) 3 1 none
 (some false) true true)),(9002,HO.loop (LoopS.mk 0 none [(2,AV.ptr 64 0),(8,AV.ptr 512 0),(28,AV.fn 55 [] [AV.ptr 37056 0,AV.ptr 37057 0])] 55 [29,30] as8 bd8))]/\length (unR (flR
 (A0h (unR (flR (A0h (unR (flR (A0h [] 1 (knZ l 12 2)))) 2 (knZ l 9 0)))) 3 (knZ l 8 1))))<1000000/\length l<1000000000/\(∀(x:P.Cr),x∈l->0<=x.snd.fst/\x.snd.fst<=255)/\iI
 0<=iI 0/\iI 0<=iI 255)/\(iI (-900)<=iI 0/\iI 0<=iI 900/\iI (-900)<=iI 1/\iI 1<=iI 900/\iI 0<=iI 0/\iI 0<=iI 3/\iI 0<=iI 0)/\(true=true/\iI 0<=iI 2/\iI 2<=iI 3/\(iI
 (-1000)<=iI 0/\iI 0<=iI 1000)/\iI (-1000)<=iI 0/\iI 0<=iI 1000)/\(inZ 0 0 2/\iI 0<=iI 0/\iI 0<=iI 2)/\(inZ 0 0 2/\iI 0<=iI 1/\iI 1<=iI 2)/\(inZ 0 0 2/\iI 0<=iI 2/\iI 2<=
 iI 2)/\iI 0<=iI 2/\([(37057,HO.blk (Blk.mk (Cont.cells [AV.int i64 2,AV.int i64 2]) 2 1 none (some false) true true)),(37056,HO.blk (Blk.mk (Cont.cells [AV.int i64 2,AV.int i64 2]) 2
 1 none (some false) true true)),(9001,HO.blk (Blk.mk (Cont.vals (flR (A0h (unR (flR (A0h (unR (flR (A0h (unR (flR (A0h [] 1 (knZ l 12 2)))) 2 (knZ l 9 0)))) 3 (knZ l 8 1)))) 4 (knZ l 2
 0)))) 2 zz7 none (some true) true false)),(512,HO.blk (Blk.mk (Cont.cells [AV.full 9001 zz7]) 1 1 none (some false) true true)),(64,HO.blk (Blk.mk (Cont.cells [AV.int i64 2,AV.int i64
 2,AV.imm (Cont.vals (P.flatC l)) (length l) none]) 3 1 none (some false) true true)),(9002,HO.loop (LoopS.mk 0 none [(2,AV.ptr 64 0),(8,AV.ptr 512 0),(28,AV.fn 55 [] [AV.ptr 37056 0,
 AV.ptr 37057 0])] 55 [29,30] as8 bd8))]=[(37057,HO.blk (Blk.mk (Cont.cells [AV.int i64 2,AV.int i64 2]) 2 1 none (some false) true true)),(37056,HO.blk (Blk.mk (Cont.cells [AV.int i64
 2,AV.int i64 2]) 2 1 none (some false) true true)),(9001,HO.blk (Blk.mk (Cont.vals (flR (unR (flR (A0h (unR (flR (A0h (unR (flR (A0h (unR (flR (A0h [] 1 (knZ l 12 2)))) 2 (knZ l 9
 0)))) 3 (knZ l 8 1)))) 4 (knZ l 2 0)))))) 2 zz6 none (some true) true false)),(512,HO.blk (Blk.mk (Cont.cells [AV.full 9001 zz6]) 1 1 none (some false) true true)),(64,HO.blk (Blk.mk
 (Cont.cells [AV.int i64 2,AV.int i64 2,AV.imm (Cont.vals (P.flatC l)) (length l) none]) 3 1 none (some false) true true)),(9002,HO.loop (LoopS.mk 0 none [(2,AV.ptr 64 0),(8,AV.ptr 512
 0),(28,AV.fn 55 [] [AV.ptr 37056 0,AV.ptr 37057 0])] 55 [29,30] as8 bd8))]/\length (unR (flR (A0h (unR (flR (A0h (unR (flR (A0h (unR (flR (A0h [] 1 (knZ l 12 2)))) 2 (knZ l 9 0))))
 3 (knZ l 8 1)))) 4 (knZ l 2 0))))<1000000/\length l<1000000000/\(∀(x:P.Cr),x∈l->0<=x.snd.fst/\x.snd.fst<=255)/\iI 0<=iI 2/\iI 2<=iI 255)/\(iI (-900)<=iI 0/\iI 0<=iI
 900/\iI (-900)<=iI 0/\iI 0<=iI 900/\iI 0<=iI 2/\iI 2<=iI 3/\iI 0<=iI 2)/\(true=true/\iI 0<=iI 1/\iI 1<=iI 3/\(iI (-1000)<=iI 0/\iI 0<=iI 1000)/\iI (-1000)<=iI 0/\iI 0
 <=iI 1000)/\(inZ 0 0 1/\iI 0<=iI 0/\iI 0<=iI 2)/\iI 0<=iI 0/\([(37057,HO.blk (Blk.mk (Cont.cells [AV.int i64 2,AV.int i64 2]) 2 1 none (some false) true true)),(37056,HO.blk
 (Blk.mk (Cont.cells [AV.int i64 2,AV.int i64 2]) 2 1 none (some false) true true)),(9001,HO.blk (Blk.mk (Cont.vals (flR (A0h (unR (flR (A0h (unR (flR (A0h (unR (flR (A0h (unR (flR
 (A0h [] 1 (knZ l 12 2)))) 2 (knZ l 9 0)))) 3 (knZ l 8 1)))) 4 (knZ l 2 0)))) 5 (knZ l 1 2)))) 2 zz5 none (some true) true false)),(512,HO.blk (Blk.mk (Cont.cells [AV.full 9001 zz5]) 1 1
 none (some false) true true)),(64,HO.blk (Blk.mk (Cont.cells [AV.int i64 2,AV.int i64 2,AV.imm (Cont.vals (P.flatC l)) (length l) none]) 3 1 none (some false) true true)),(9002,HO.loop
 (LoopS.mk 0 none [(2,AV.ptr 64 0),(8,AV.ptr 512 0),(28,AV.fn 55 [] [AV.ptr 37056 0,AV.ptr 37057 0])] 55 [29,30] as8 bd8))]=[(37057,HO.blk (Blk.mk (Cont.cells [AV.int i64 2,AV.int
 i64 2]) 2 1 none (some false) true true)),(37056,HO.blk (Blk.mk (Cont.cells [AV.int i64 2,AV.int i64 2]) 2 1 none (some false) true true)),(9001,HO.blk (Blk.mk (Cont.vals (flR (unR (flR
 (A0h (unR (flR (A0h (unR (flR (A0h (unR (flR (A0h (unR (flR (A0h [] 1 (knZ l 12 2)))) 2 (knZ l 9 0)))) 3 (knZ l 8 1)))) 4 (knZ l 2 0)))) 5 (knZ l 1 2)))))) 2 zz4 none (some true) true
 false)),(512,HO.blk (Blk.mk (Cont.cells [AV.full 9001 zz4]) 1 1 none (some false) true true)),(64,HO.blk (Blk.mk (Cont.cells [AV.int i64 2,AV.int i64 2,AV.imm (Cont.vals (P.flatC l))
 (length l) none]) 3 1 none (some false) true true)),(9002,HO.loop (LoopS.mk 0 none [(2,AV.ptr 64 0),(8,AV.ptr 512 0),(28,AV.fn 55 [] [AV.ptr 37056 0,AV.ptr 37057 0])] 55 [29,30] as8
 bd8))]/\length (unR (flR (A0h (unR (flR (A0h (unR (flR (A0h (unR (flR (A0h (unR (flR (A0h [] 1 (knZ l 12 2)))) 2 (knZ l 9 0)))) 3 (knZ l 8 1)))) 4 (knZ l 2 0)))) 5 (knZ l 1 2))))<
 1000000/\length l<1000000000/\(∀(x:P.Cr),x∈l->0<=x.snd.fst/\x.snd.fst<=255)/\iI 0<=iI 0/\iI 0<=iI 255)/\(iI (-900)<=iI 0/\iI 0<=iI 900/\iI (-900)<=iI 0/\iI 0<=iI
 900/\iI 0<=iI 1/\iI 1<=iI 3/\iI 0<=iI 0)/\(true=true/\iI 0<=iI 3/\iI 3<=iI 3/\(iI (-1000)<=iI 1/\iI 1<=iI 1000)/\iI (-1000)<=iI 0/\iI 0<=iI 1000)/\(inZ 1 0 3/\iI 0<=
 iI 0/\iI 0<=iI 2)/\(inZ 1 0 3/\iI 0<=iI 1/\iI 1<=iI 2)/\iI 0<=iI 1/\([(37057,HO.blk (Blk.mk (Cont.cells [AV.int i64 2,AV.int i64 2]) 2 1 none (some false) true true)),(37056,
 HO.blk (Blk.mk (Cont.cells [AV.int i64 2,AV.int i64 2]) 2 1 none (some false) true true)),(9001,HO.blk (Blk.mk (Cont.vals (flR (A0h (unR (flR (A0h (unR (flR (A0h (unR (flR (A0h (unR
 (flR (A0h (unR (flR (A0h [] 1 (knZ l 12 2)))) 2 (knZ l 9 0)))) 3 (knZ l 8 1)))) 4 (knZ l 2 0)))) 5 (knZ l 1 2)))) 6 (knZ l 1 0)))) 2 zz3 none (some true) true false)),(512,HO.blk (Blk.mk
 (Cont.cells [AV.full 9001 zz3]) 1 1 none (some false) true true)),(64,HO.blk (Blk.mk (Cont.cells [AV.int i64 2,AV.int i64 2,AV.imm (Cont.vals (P.flatC l)) (length l) none]) 3 1 none
 (some false) true true)),(9002,HO.loop (LoopS.mk 0 none [(2,AV.ptr 64 0),(8,AV.ptr 512 0),(28,AV.fn 55 [] [AV.ptr 37056 0,AV.ptr 37057 0])] 55 [29,30] as8 bd8))]=[(37057,HO.blk
 (Blk.mk (Cont.cells [AV.int i64 2,AV.int i64 2]) 2 1 none (some false) true true)),(37056,HO.blk (Blk.mk (Cont.cells [AV.int i64 2,AV.int i64 2]) 2 1 none (some false) true true)),
 (9001,HO.blk (Blk.mk (Cont.vals (flR (unR (flR (A0h (unR (flR (A0h (unR (flR (A0h (unR (flR (A0h (unR (flR (A0h (unR (flR (A0h [] 1 (knZ l 12 2)))) 2 (knZ l 9 0)))) 3 (knZ l 8 1)))) 4
 (knZ l 2 0)))) 5 (knZ l 1 2)))) 6 (knZ l 1 0)))))) 2 zz2 none (some true) true false)),(512,HO.blk (Blk.mk (Cont.cells [AV.full 9001 zz2]) 1 1 none (some false) true true)),(64,HO.blk
 (Blk.mk (Cont.cells [AV.int i64 2,AV.int i64 2,AV.imm (Cont.vals (P.flatC l)) (length l) none]) 3 1 none (some false) true true)),(9002,HO.loop (LoopS.mk 0 none [(2,AV.ptr 64 0),(8,
 AV.ptr 512 0),(28,AV.fn 55 [] [AV.ptr 37056 0,AV.ptr 37057 0])] 55 [29,30] as8 bd8))]/\length (unR (flR (A0h (unR (flR (A0h (unR (flR (A0h (unR (flR (A0h (unR (flR (A0h (unR (flR
 (A0h [] 1 (knZ l 12 2)))) 2 (knZ l 9 0)))) 3 (knZ l 8 1)))) 4 (knZ l 2 0)))) 5 (knZ l 1 2)))) 6 (knZ l 1 0))))<1000000/\length l<1000000000/\(∀(x:P.Cr),x∈l->0<=x.snd.fst/\
 x.snd.fst<=255)/\iI 0<=iI 1/\iI 1<=iI 255)/\(iI (-900)<=iI 1/\iI 1<=iI 900/\iI (-900)<=iI 0/\iI 0<=iI 900/\iI 0<=iI 3/\iI 3<=iI 3/\iI 0<=iI 1)/\(true=true/\iI 0<=iI 2
 /\iI 2<=iI 3/\(iI (-1000)<=iI 1/\iI 1<=iI 1000)/\iI (-1000)<=iI 0/\iI 0<=iI 1000)/\(inZ 1 0 2/\iI 0<=iI 0/\iI 0<=iI 2)/\iI 0<=iI 0/\([(37057,HO.blk (Blk.mk (Cont.cells
 [AV.int i64 2,AV.int i64 2]) 2 1 none (some false) true true)),(37056,HO.blk (Blk.mk (Cont.cells [AV.int i64 2,AV.int i64 2]) 2 1 none (some false) true true)),(9001,HO.blk (Blk.mk
 (Cont.vals (flR (A0h (unR (flR (A0h (unR (flR (A0h (unR (flR (A0h (unR (flR (A0h (unR (flR (A0h (unR (flR (A0h [] 1 (knZ l 12 2)))) 2 (knZ l 9 0)))) 3 (knZ l 8 1)))) 4 (knZ l 2 0))))
 5 (knZ l 1 2)))) 6 (knZ l 1 0)))) 7 (knZ l 6 1)))) 2 zz1 none (some true) true false)),(512,HO.blk (Blk.mk (Cont.cells [AV.full 9001 zz1]) 1 1 none (some false) true true)),(64,HO.blk
 (Blk.mk (Cont.cells [AV.int i64 2,AV.int i64 2,AV.imm (Cont.vals (P.flatC l)) (length l) none]) 3 1 none (some false) true true)),(9002,HO.loop (LoopS.mk 0 none [(2,AV.ptr 64 0),(8,
 AV.ptr 512 0),(28,AV.fn 55 [] [AV.ptr 37056 0,AV.ptr 37057 0])] 55 [29,30] as8 bd8))]=[(37057,HO.blk (Blk.mk (Cont.cells [AV.int i64 2,AV.int i64 2]) 2 1 none (some false) true
 true)),(37056,HO.blk (Blk.mk (Cont.cells [AV.int i64 2,AV.int i64 2]) 2 1 none (some false) true true)),(9001,HO.blk (Blk.mk (Cont.vals (flR (unR (flR (A0h (unR (flR (A0h (unR (flR
 (A0h (unR (flR (A0h (unR (flR (A0h (unR (flR (A0h (unR (flR (A0h [] 1 (knZ l 12 2)))) 2 (knZ l 9 0)))) 3 (knZ l 8 1)))) 4 (knZ l 2 0)))) 5 (knZ l 1 2)))) 6 (knZ l 1 0)))) 7 (knZ l 6
 1)))))) 2 zz0 none (some true) true false)),(512,HO.blk (Blk.mk (Cont.cells [AV.full 9001 zz0]) 1 1 none (some false) true true)),(64,HO.blk (Blk.mk (Cont.cells [AV.int i64 2,AV.int i64
 2,AV.imm (Cont.vals (P.flatC l)) (length l) none]) 3 1 none (some false) true true)),(9002,HO.loop (LoopS.mk 0 none [(2,AV.ptr 64 0),(8,AV.ptr 512 0),(28,AV.fn 55 [] [AV.ptr 37056 0,
 AV.ptr 37057 0])] 55 [29,30] as8 bd8))]/\length (unR (flR (A0h (unR (flR (A0h (unR (flR (A0h (unR (flR (A0h (unR (flR (A0h (unR (flR (A0h (unR (flR (A0h [] 1 (knZ l 12 2)))) 2 (knZ
 l 9 0)))) 3 (knZ l 8 1)))) 4 (knZ l 2 0)))) 5 (knZ l 1 2)))) 6 (knZ l 1 0)))) 7 (knZ l 6 1))))<1000000/\length l<1000000000/\(∀(x:P.Cr),x∈l->0<=x.snd.fst/\x.snd.fst<=255)/\
 iI 0<=iI 0/\iI 0<=iI 255)/\(iI (-900)<=iI 1/\iI 1<=iI 900/\iI (-900)<=iI 0/\iI 0<=iI 900/\iI 0<=iI 2/\iI 2<=iI 3/\iI 0<=iI 0)/\1=1/\iI 2=2/\iI 2=2/\1=1/\iI 2=
 2/\iI 2=2/\length (A0h (unR (flR (A0h (unR (flR (A0h (unR (flR (A0h (unR (flR (A0h (unR (flR (A0h (unR (flR (A0h (unR (flR (A0h [] 1 (knZ l 12 2)))) 2 (knZ l 9 0)))) 3 (knZ l 8
 1)))) 4 (knZ l 2 0)))) 5 (knZ l 1 2)))) 6 (knZ l 1 0)))) 7 (knZ l 6 1)))) 0 (knZ l 6 0))=length (foldl (fun(L:List Ry) (s:Int×Int×Int)=>A0h L s.fst (knZ l s.snd.fst s.snd.snd))
 [] [(1,12,2),(2,9,0),(3,8,1),(4,2,0),(5,1,2),(6,1,0),(7,6,1),(0,6,0)])/\flR (A0h (unR (flR (A0h (unR (flR (A0h (unR (flR (A0h (unR (flR (A0h (unR (flR (A0h (unR
 (flR (A0h (unR (flR (A0h [] 1 (knZ l 12 2)))) 2 (knZ l 9 0)))) 3 (knZ l 8 1)))) 4 (knZ l 2 0)))) 5 (knZ l 1 2)))) 6 (knZ l 1 0)))) 7 (knZ l 6 1)))) 0 (knZ l 6 0))=flR (foldl (fun(L:
 List Ry) (s:Int×Int×Int)=>A0h L s.fst (knZ l s.snd.fst s.snd.snd)) [] [(1,12,2),(2,9,0),(3,8,1),(4,2,0),(5,1,2),(6,1,0),(7,6,1),(0,6,0)])/\1=1/\length
 (A0h (unR (flR (A0h (unR (flR (A0h (unR (flR (A0h (unR (flR (A0h (unR (flR (A0h (unR (flR (A0h (unR (flR (A0h [] 1 (knZ l 12 2)))) 2 (knZ l 9 0)))) 3 (knZ l 8 1)))) 4 (knZ l 2 0))))
 5 (knZ l 1 2)))) 6 (knZ l 1 0)))) 7 (knZ l 6 1)))) 0 (knZ l 6 0))=length (foldl (fun(L:List Ry) (s:Int×Int×Int)=>A0h L s.fst (knZ l s.snd.fst s.snd.snd)) [] [(1,12,2),(2,9,
 0),(3,8,1),(4,2,0),(5,1,2),(6,1,0),(7,6,1),(0,6,0)])/\1=1/\iI 2=2/\iI 2=2/\qx (Cont.vals (P.flatC l)) (length l=length l/\0=0/\(none:Option Ex)=none/\
 55=55/\[29,30]=[29,30]/\as8=as8/\bd8=bd8/\0=0/\0=0/\0=0/\0=0/\True)) (length (unR (flR (A0h (unR (flR (A0h (unR (flR (A0h (unR (flR (A0h (unR (flR (A0h (unR
 (flR (A0h (unR (flR (A0h [] 1 (knZ l 12 2)))) 2 (knZ l 9 0)))) 3 (knZ l 8 1)))) 4 (knZ l 2 0)))) 5 (knZ l 1 2)))) 6 (knZ l 1 0)))) 7 (knZ l 6 1)))))) (length (A0h (unR (flR (A0h (unR
 (flR (A0h (unR (flR (A0h (unR (flR (A0h (unR (flR (A0h (unR (flR (A0h [] 1 (knZ l 12 2)))) 2 (knZ l 9 0)))) 3 (knZ l 8 1)))) 4 (knZ l 2 0)))) 5 (knZ l 1 2)))) 6 (knZ l 1 0)))) 7 (knZ l
 6 1)))) (length (unR (flR (A0h (unR (flR (A0h (unR (flR (A0h (unR (flR (A0h (unR (flR (A0h (unR (flR (A0h [] 1 (knZ l 12 2)))) 2 (knZ l 9 0)))) 3 (knZ l 8 1)))) 4 (knZ l 2 0)))) 5 (knZ
 l 1 2)))) 6 (knZ l 1 0)))))) (length (A0h (unR (flR (A0h (unR (flR (A0h (unR (flR (A0h (unR (flR (A0h (unR (flR (A0h [] 1 (knZ l 12 2)))) 2 (knZ l 9 0)))) 3 (knZ l 8 1)))) 4 (knZ l 2
 0)))) 5 (knZ l 1 2)))) 6 (knZ l 1 0)))) (length (unR (flR (A0h (unR (flR (A0h (unR (flR (A0h (unR (flR (A0h (unR (flR (A0h [] 1 (knZ l 12 2)))) 2 (knZ l 9 0)))) 3 (knZ l 8 1)))) 4 (knZ
 l 2 0)))) 5 (knZ l 1 2)))))) (length (A0h (unR (flR (A0h (unR (flR (A0h (unR (flR (A0h (unR (flR (A0h [] 1 (knZ l 12 2)))) 2 (knZ l 9 0)))) 3 (knZ l 8 1)))) 4 (knZ l 2 0)))) 5 (knZ l 1
 2)))) (length (unR (flR (A0h (unR (flR (A0h (unR (flR (A0h (unR (flR (A0h [] 1 (knZ l 12 2)))) 2 (knZ l 9 0)))) 3 (knZ l 8 1)))) 4 (knZ l 2 0)))))) (length (A0h (unR (flR (A0h (unR
 (flR (A0h (unR (flR (A0h [] 1 (knZ l 12 2)))) 2 (knZ l 9 0)))) 3 (knZ l 8 1)))) 4 (knZ l 2 0)))) (length (unR (flR (A0h (unR (flR (A0h (unR (flR (A0h [] 1 (knZ l 12 2)))) 2 (knZ l 9
 0)))) 3 (knZ l 8 1)))))) (length (A0h (unR (flR (A0h (unR (flR (A0h [] 1 (knZ l 12 2)))) 2 (knZ l 9 0)))) 3 (knZ l 8 1)))) (length (unR (flR (A0h (unR (flR (A0h [] 1 (knZ l 12 2)))) 2
 (knZ l 9 0)))))) (length (A0h (unR (flR (A0h [] 1 (knZ l 12 2)))) 2 (knZ l 9 0)))):=by kernel_rfl
theorem B70 (l:List P.Cr):fnD (TY8 l 1 1) G 10000 (B8O) (.r [] 127 (.r [] 3 (.lit (.r [] 1 (.r [] 3 (.r [] 0 (.un (.r [] 27 (.r [] 0 (.un (.r [] 0 (.lit (.r [] 0 (.r [] 123 (.lit (.r [] 1 (.un (.r [] 0 (.lit (.r [] 0 (.r [] 4091 (.lit (.r [] 29 (.r [(776,.auto,Dr.heap)] 31 (.lit (.r [] 29 (.r [] 0 (.r [] 3 (.lit (.un (.r [] 27 (.r [] 0 (.un (.r [] 0 (.lit (.r [] 0 (.r [] 123 (.lit (.r [] 1 (.un (.r [] 0 (.lit (.r [] 0 (.r [] 123 (.lit (.r [] 1 (.un (.r [] 0 (.lit (.r [] 0 (.r [] 507 (.lit (.gc 711 (.r [] 29 (.r [(776,.auto,Dr.heap)] 31 (.lit (.r [] 29 (.r [] 0 (.r [] 3 (.lit (.un (.r [] 27 (.r [] 0 (.un (.r [] 0 (.lit (.r [] 0 (.r [] 123 (.lit (.r [] 1 (.un (.r [] 0 (.lit (.r [] 0 (.r [] 507 (.lit (.gc 711 (.r [] 29 (.r [(776,.auto,Dr.heap)] 31 (.lit (.r [] 29 (.r [] 0 (.r [] 3 (.lit (.un (.r [] 27 (.r [] 0 (.un (.r [] 0 (.lit (.r [] 0 (.r [] 123 (.lit (.r [] 1 (.un (.r [] 0 (.lit (.r [] 0 (.r [] 123 (.lit (.r [] 1 (.un (.r [] 0 (.lit (.r [] 0 (.r [] 507 (.lit (.gc 711 (.r [] 29 (.r [(776,.auto,Dr.heap)] 31 (.lit (.r [] 29 (.r [] 0 (.r [] 3 (.lit .nil))))))))))))))))))))))))))))))))))))))))))))))))))))))))))))))))))))))))))))))))))))))))))))))))))))))))))))))))))) ([.yld 9002,.ptr 37056 0,.ptr 37057 0]) (H8 l [] 1 1 (some 0)) ([]) ([(37057,.blk (ptB 2 2)),(37056,.blk (ptB 1 1)),(9001,B0P (A0Z l 1 1)),(512,bxO (.full 9001 (A0Z l 1 1).length))])=(
 (fun(zz3:Nat)=>(fun(zz2:Nat)=>(fun(zz1:Nat)=>(fun(zz0:Nat)=>(true=true/\iI 0<=iI 2/\iI 2<=iI 3/\(iI (-1000)<=iI 0/\iI 0<=iI 1000)/\iI (-1000)<=iI 0/\iI 0<=
 iI 1000)/\(inZ 0 0 2/\iI 0<=iI 0/\iI 0<=iI 2)/\(inZ 0 0 2/\iI 0<=iI 1/\iI 1<=iI 2)/\iI 0<=iI 1/\([(37057,HO.blk (Blk.mk (Cont.cells [AV.int i64 2,AV.int i64 2]) 2 1 none (some
 false) true true)),(37056,HO.blk (Blk.mk (Cont.cells [AV.int i64 1,AV.int i64 1]) 2 1 none (some false) true true)),(9001,HO.blk (Blk.mk (Cont.vals []) 2 0 (some 0) (some true) true
 false)),(512,HO.blk (Blk.mk (Cont.cells [AV.full 9001 0]) 1 1 none (some false) true true)),(64,HO.blk (Blk.mk (Cont.cells [AV.int i64 2,AV.int i64 2,AV.imm (Cont.vals (P.flatC l))
 (length l) none]) 3 1 none (some false) true true)),(9002,HO.loop (LoopS.mk 0 none [(2,AV.ptr 64 0),(8,AV.ptr 512 0),(28,AV.fn 55 [] [AV.ptr 37056 0,AV.ptr 37057 0])] 55 [29,30] as8
 bd8))]=[(37057,HO.blk (Blk.mk (Cont.cells [AV.int i64 2,AV.int i64 2]) 2 1 none (some false) true true)),(37056,HO.blk (Blk.mk (Cont.cells [AV.int i64 1,AV.int i64 1]) 2 1 none (some
 false) true true)),(9001,HO.blk (Blk.mk (Cont.vals []) 2 0 (some 0) (some true) true false)),(512,HO.blk (Blk.mk (Cont.cells [AV.full 9001 0]) 1 1 none (some false) true true)),(64,
 HO.blk (Blk.mk (Cont.cells [AV.int i64 2,AV.int i64 2,AV.imm (Cont.vals (P.flatC l)) (length l) none]) 3 1 none (some false) true true)),(9002,HO.loop (LoopS.mk 0 none [(2,AV.ptr 64 0),
 (8,AV.ptr 512 0),(28,AV.fn 55 [] [AV.ptr 37056 0,AV.ptr 37057 0])] 55 [29,30] as8 bd8))]/\0<1000000/\length l<1000000000/\(∀(x:P.Cr),x∈l->0<=x.snd.fst/\x.snd.fst<=255)
 /\iI 0<=iI 1/\iI 1<=iI 255)/\(iI (-900)<=iI 0/\iI 0<=iI 900/\iI (-900)<=iI 0/\iI 0<=iI 900/\iI 0<=iI 2/\iI 2<=iI 3/\iI 0<=iI 1)/\(true=true/\iI 0<=iI 3/\iI 3<=iI 3/\
 (iI (-1000)<=iI 0/\iI 0<=iI 1000)/\iI (-1000)<=iI 0/\iI 0<=iI 1000)/\(inZ 0 0 3/\iI 0<=iI 0/\iI 0<=iI 2)/\(inZ 0 0 3/\iI 0<=iI 1/\iI 1<=iI 2)/\(inZ 0 0 3/\iI 0<=iI 2/\iI
 2<=iI 2)/\iI 0<=iI 2/\([(37057,HO.blk (Blk.mk (Cont.cells [AV.int i64 2,AV.int i64 2]) 2 1 none (some false) true true)),(37056,HO.blk (Blk.mk (Cont.cells [AV.int i64 1,AV.int i64
 1]) 2 1 none (some false) true true)),(9001,HO.blk (Blk.mk (Cont.vals (flR (A0h [] 3 (knZ l 2 1)))) 2 (length (A0h [] 3 (knZ l 2 1))) none (some true) true false)),(512,HO.blk (Blk.mk
 (Cont.cells [AV.full 9001 (length (A0h [] 3 (knZ l 2 1)))]) 1 1 none (some false) true true)),(64,HO.blk (Blk.mk (Cont.cells [AV.int i64 2,AV.int i64 2,AV.imm (Cont.vals (P.flatC l))
 (length l) none]) 3 1 none (some false) true true)),(9002,HO.loop (LoopS.mk 0 none [(2,AV.ptr 64 0),(8,AV.ptr 512 0),(28,AV.fn 55 [] [AV.ptr 37056 0,AV.ptr 37057 0])] 55 [29,30] as8
 bd8))]=[(37057,HO.blk (Blk.mk (Cont.cells [AV.int i64 2,AV.int i64 2]) 2 1 none (some false) true true)),(37056,HO.blk (Blk.mk (Cont.cells [AV.int i64 1,AV.int i64 1]) 2 1 none (some
 false) true true)),(9001,HO.blk (Blk.mk (Cont.vals (flR (unR (flR (A0h [] 3 (knZ l 2 1)))))) 2 (length (unR (flR (A0h [] 3 (knZ l 2 1))))) none (some true) true false)),(512,HO.blk
 (Blk.mk (Cont.cells [AV.full 9001 (length (unR (flR (A0h [] 3 (knZ l 2 1)))))]) 1 1 none (some false) true true)),(64,HO.blk (Blk.mk (Cont.cells [AV.int i64 2,AV.int i64 2,AV.imm
 (Cont.vals (P.flatC l)) (length l) none]) 3 1 none (some false) true true)),(9002,HO.loop (LoopS.mk 0 none [(2,AV.ptr 64 0),(8,AV.ptr 512 0),(28,AV.fn 55 [] [AV.ptr 37056 0,AV.ptr
 37057 0])] 55 [29,30] as8 bd8))]/\length (unR (flR (A0h [] 3 (knZ l 2 1))))<1000000/\length l<1000000000/\(∀(x:P.Cr),x∈l->0<=x.snd.fst/\x.snd.fst<=255)/\iI 0<=iI 2/\iI
 2<=iI 255)/\(iI (-900)<=iI 0/\iI 0<=iI 900/\iI (-900)<=iI 0/\iI 0<=iI 900/\iI 0<=iI 3/\iI 3<=iI 3/\iI 0<=iI 2)/\(true=true/\iI 0<=iI 0/\iI 0<=iI 3/\(iI (-1000)<=iI 0
 /\iI 0<=iI 1000)/\iI (-1000)<=iI 0/\iI 0<=iI 1000)/\(inZ 0 0 0/\iI 0<=iI 0/\iI 0<=iI 2)/\(inZ 0 0 0/\iI 0<=iI 1/\iI 1<=iI 2)/\iI 0<=iI 1/\([(37057,HO.blk (Blk.mk
 (Cont.cells [AV.int i64 2,AV.int i64 2]) 2 1 none (some false) true true)),(37056,HO.blk (Blk.mk (Cont.cells [AV.int i64 1,AV.int i64 1]) 2 1 none (some false) true true)),(9001,HO.blk
 (Blk.mk (Cont.vals (flR (A0h (unR (flR (A0h [] 3 (knZ l 2 1)))) 5 (knZ l 0 2)))) 2 zz3 none (some true) true false)),(512,HO.blk (Blk.mk (Cont.cells [AV.full 9001 zz3]) 1 1 none (some
 false) true true)),(64,HO.blk (Blk.mk (Cont.cells [AV.int i64 2,AV.int i64 2,AV.imm (Cont.vals (P.flatC l)) (length l) none]) 3 1 none (some false) true true)),(9002,HO.loop (LoopS.mk
 0 none [(2,AV.ptr 64 0),(8,AV.ptr 512 0),(28,AV.fn 55 [] [AV.ptr 37056 0,AV.ptr 37057 0])] 55 [29,30] as8 bd8))]=[(37057,HO.blk (Blk.mk (Cont.cells [AV.int i64 2,AV.int i64 2]) 2
 1 none (some false) true true)),(37056,HO.blk (Blk.mk (Cont.cells [AV.int i64 1,AV.int i64 1]) 2 1 none (some false) true true)),(9001,HO.blk (Blk.mk (Cont.vals (flR (unR (flR (A0h
 (unR (flR (A0h [] 3 (knZ l 2 1)))) 5 (knZ l 0 2)))))) 2 zz2 none (some true) true false)),(512,HO.blk (Blk.mk (Cont.cells [AV.full 9001 zz2]) 1 1 none (some false) true true)),(64,
 HO.blk (Blk.mk (Cont.cells [AV.int i64 2,AV.int i64 2,AV.imm (Cont.vals (P.flatC l)) (length l) none]) 3 1 none (some false) true true)),(9002,HO.loop (LoopS.mk 0 none [(2,AV.ptr 64 0),
 (8,AV.ptr 512 0),(28,AV.fn 55 [] [AV.ptr 37056 0,AV.ptr 37057 0])] 55 [29,30] as8 bd8))]/\length (unR (flR (A0h (unR (flR (A0h [] 3 (knZ l 2 1)))) 5 (knZ l 0 2))))<1000000/\length
 l<1000000000/\(∀(x:P.Cr),x∈l->0<=x.snd.fst/\x.snd.fst<=255)/\iI 0<=iI 1/\iI 1<=iI 255)/\(iI (-900)<=iI 0/\iI 0<=iI 900/\iI (-900)<=iI 0/\iI 0<=iI 900/\iI 0<=iI 0/\
 iI 0<=iI 3/\iI 0<=iI 1)/\(true=true/\iI 0<=iI 1/\iI 1<=iI 3/\(iI (-1000)<=iI 0/\iI 0<=iI 1000)/\iI (-1000)<=iI 0/\iI 0<=iI 1000)/\(inZ 0 0 1/\iI 0<=iI 0/\iI 0<=iI 2)/\
 (inZ 0 0 1/\iI 0<=iI 1/\iI 1<=iI 2)/\(inZ 0 0 1/\iI 0<=iI 2/\iI 2<=iI 2)/\iI 0<=iI 2/\([(37057,HO.blk (Blk.mk (Cont.cells [AV.int i64 2,AV.int i64 2]) 2 1 none (some false)
 true true)),(37056,HO.blk (Blk.mk (Cont.cells [AV.int i64 1,AV.int i64 1]) 2 1 none (some false) true true)),(9001,HO.blk (Blk.mk (Cont.vals (flR (A0h (unR (flR (A0h (unR (flR (A0h
 [] 3 (knZ l 2 1)))) 5 (knZ l 0 2)))) 7 (knZ l 0 1)))) 2 zz1 none (some true) true false)),(512,HO.blk (Blk.mk (Cont.cells [AV.full 9001 zz1]) 1 1 none (some false) true true)),(64,HO.blk
 (Blk.mk (Cont.cells [AV.int i64 2,AV.int i64 2,AV.imm (Cont.vals (P.flatC l)) (length l) none]) 3 1 none (some false) true true)),(9002,HO.loop (LoopS.mk 0 none [(2,AV.ptr 64 0),(8,
 AV.ptr 512 0),(28,AV.fn 55 [] [AV.ptr 37056 0,AV.ptr 37057 0])] 55 [29,30] as8 bd8))]=[(37057,HO.blk (Blk.mk (Cont.cells [AV.int i64 2,AV.int i64 2]) 2 1 none (some false) true
 true)),(37056,HO.blk (Blk.mk (Cont.cells [AV.int i64 1,AV.int i64 1]) 2 1 none (some false) true true)),(9001,HO.blk (Blk.mk (Cont.vals (flR (unR (flR (A0h (unR (flR (A0h (unR (flR
 (A0h [] 3 (knZ l 2 1)))) 5 (knZ l 0 2)))) 7 (knZ l 0 1)))))) 2 zz0 none (some true) true false)),(512,HO.blk (Blk.mk (Cont.cells [AV.full 9001 zz0]) 1 1 none (some false) true true)),
 (64,HO.blk (Blk.mk (Cont.cells [AV.int i64 2,AV.int i64 2,AV.imm (Cont.vals (P.flatC l)) (length l) none]) 3 1 none (some false) true true)),(9002,HO.loop (LoopS.mk 0 none [(2,AV.ptr
 64 0),(8,AV.ptr 512 0),(28,AV.fn 55 [] [AV.ptr 37056 0,AV.ptr 37057 0])] 55 [29,30] as8 bd8))]/\length (unR (flR (A0h (unR (flR (A0h (unR (flR (A0h [] 3 (knZ l 2 1)))) 5 (knZ l 0
 2)))) 7 (knZ l 0 1))))<1000000/\length l<1000000000/\(∀(x:P.Cr),x∈l->0<=x.snd.fst/\x.snd.fst<=255)/\iI 0<=iI 2/\iI 2<=iI 255)/\(iI (-900)<=iI 0/\iI 0<=iI 900/\iI
 (-900)<=iI 0/\iI 0<=iI 900/\iI 0<=iI 1/\iI 1<=iI 3/\iI 0<=iI 2)/\1=1/\iI 2=2/\iI 2=2/\1=1/\iI 1=1/\iI 1=1/\length (A0h (unR (flR (A0h (unR (flR (A0h (unR (flR
 (A0h [] 3 (knZ l 2 1)))) 5 (knZ l 0 2)))) 7 (knZ l 0 1)))) 1 (knZ l 1 2))=length (foldl (fun(L:List Ry) (s:Int×Int×Int)=>A0h L s.fst (knZ l s.snd.fst s.snd.snd)) [] [(3,2,
 1),(5,0,2),(7,0,1),(1,1,2)])/\flR (A0h (unR (flR (A0h (unR (flR (A0h (unR (flR (A0h [] 3 (knZ l 2 1)))) 5 (knZ l 0 2)))) 7 (knZ l 0 1)))) 1 (knZ l 1 2))=flR (foldl (fun(L:
 List Ry) (s:Int×Int×Int)=>A0h L s.fst (knZ l s.snd.fst s.snd.snd)) [] [(3,2,1),(5,0,2),(7,0,1),(1,1,2)])/\1=1/\length (A0h (unR (flR (A0h (unR (flR (A0h (unR (flR
 (A0h [] 3 (knZ l 2 1)))) 5 (knZ l 0 2)))) 7 (knZ l 0 1)))) 1 (knZ l 1 2))=length (foldl (fun(L:List Ry) (s:Int×Int×Int)=>A0h L s.fst (knZ l s.snd.fst s.snd.snd)) [] [(3,2,
 1),(5,0,2),(7,0,1),(1,1,2)])/\1=1/\iI 2=2/\iI 2=2/\qx (Cont.vals (P.flatC l)) (length l=length l/\0=0/\(none:Option Ex)=none/\55=55/\[29,30]=[29,30]/\
 as8=as8/\bd8=bd8/\0=0/\0=0/\0=0/\0=0/\True)) (length (unR (flR (A0h (unR (flR (A0h (unR (flR (A0h [] 3 (knZ l 2 1)))) 5 (knZ l 0 2)))) 7 (knZ l 0 1)))))) (length (A0h
 (unR (flR (A0h (unR (flR (A0h [] 3 (knZ l 2 1)))) 5 (knZ l 0 2)))) 7 (knZ l 0 1)))) (length (unR (flR (A0h (unR (flR (A0h [] 3 (knZ l 2 1)))) 5 (knZ l 0 2)))))) (length (A0h (unR (flR
 (A0h [] 3 (knZ l 2 1)))) 5 (knZ l 0 2)))):=by kernel_rfl
theorem B71 (l:List P.Cr):fnD (TY8 l 3 1) G 10000 (B8O) (.r [] 127 (.r [] 3 (.lit (.r [] 1 (.r [] 3 (.r [] 0 (.un (.r [] 27 (.r [] 0 (.un (.r [] 0 (.lit (.r [] 0 (.r [] 123 (.lit (.r [] 1 (.un (.r [] 0 (.lit (.r [] 0 (.r [] 4091 (.lit (.r [] 29 (.r [(776,.auto,Dr.heap)] 31 (.lit (.r [] 29 (.r [] 0 (.r [] 3 (.lit (.un (.r [] 27 (.r [] 0 (.un (.r [] 0 (.lit (.r [] 0 (.r [] 123 (.lit (.r [] 1 (.un (.r [] 0 (.lit (.r [] 0 (.r [] 123 (.lit (.r [] 1 (.un (.r [] 0 (.lit (.r [] 0 (.r [] 507 (.lit (.gc 711 (.r [] 29 (.r [(776,.auto,Dr.heap)] 31 (.lit (.r [] 29 (.r [] 0 (.r [] 3 (.lit (.un (.r [] 27 (.r [] 0 (.un (.r [] 0 (.lit (.r [] 0 (.r [] 123 (.lit (.r [] 1 (.un (.r [] 0 (.lit (.r [] 0 (.r [] 507 (.lit (.gc 711 (.r [] 29 (.r [(776,.auto,Dr.heap)] 31 (.lit (.r [] 29 (.r [] 0 (.r [] 3 (.lit (.un (.r [] 27 (.r [] 0 (.un (.r [] 0 (.lit (.r [] 0 (.r [] 123 (.lit (.r [] 1 (.un (.r [] 0 (.lit (.r [] 0 (.r [] 123 (.lit (.r [] 1 (.un (.r [] 0 (.lit (.r [] 0 (.r [] 507 (.lit (.gc 711 (.r [] 29 (.r [(776,.auto,Dr.heap)] 31 (.lit (.r [] 29 (.r [] 0 (.r [] 3 (.lit .nil))))))))))))))))))))))))))))))))))))))))))))))))))))))))))))))))))))))))))))))))))))))))))))))))))))))))))))))))))) ([.yld 9002,.ptr 37056 0,.ptr 37057 0]) (H8 l [] 3 1 (some 0)) ([]) ([(37057,.blk (ptB 2 2)),(37056,.blk (ptB 3 1)),(9001,B0P (A0Z l 3 1)),(512,bxO (.full 9001 (A0Z l 3 1).length))])=(
 (fun(zz3:Nat)=>(fun(zz2:Nat)=>(fun(zz1:Nat)=>(fun(zz0:Nat)=>(true=true/\iI 0<=iI 2/\iI 2<=iI 3/\(iI (-1000)<=iI 1/\iI 1<=iI 1000)/\iI (-1000)<=iI 0/\iI 0<=
 iI 1000)/\(inZ 1 0 2/\iI 0<=iI 0/\iI 0<=iI 2)/\(inZ 1 0 2/\iI 0<=iI 1/\iI 1<=iI 2)/\iI 0<=iI 1/\([(37057,HO.blk (Blk.mk (Cont.cells [AV.int i64 2,AV.int i64 2]) 2 1 none (some
 false) true true)),(37056,HO.blk (Blk.mk (Cont.cells [AV.int i64 3,AV.int i64 1]) 2 1 none (some false) true true)),(9001,HO.blk (Blk.mk (Cont.vals []) 2 0 (some 0) (some true) true
 false)),(512,HO.blk (Blk.mk (Cont.cells [AV.full 9001 0]) 1 1 none (some false) true true)),(64,HO.blk (Blk.mk (Cont.cells [AV.int i64 2,AV.int i64 2,AV.imm (Cont.vals (P.flatC l))
 (length l) none]) 3 1 none (some false) true true)),(9002,HO.loop (LoopS.mk 0 none [(2,AV.ptr 64 0),(8,AV.ptr 512 0),(28,AV.fn 55 [] [AV.ptr 37056 0,AV.ptr 37057 0])] 55 [29,30] as8
 bd8))]=[(37057,HO.blk (Blk.mk (Cont.cells [AV.int i64 2,AV.int i64 2]) 2 1 none (some false) true true)),(37056,HO.blk (Blk.mk (Cont.cells [AV.int i64 3,AV.int i64 1]) 2 1 none (some
 false) true true)),(9001,HO.blk (Blk.mk (Cont.vals []) 2 0 (some 0) (some true) true false)),(512,HO.blk (Blk.mk (Cont.cells [AV.full 9001 0]) 1 1 none (some false) true true)),(64,
 HO.blk (Blk.mk (Cont.cells [AV.int i64 2,AV.int i64 2,AV.imm (Cont.vals (P.flatC l)) (length l) none]) 3 1 none (some false) true true)),(9002,HO.loop (LoopS.mk 0 none [(2,AV.ptr 64 0),
 (8,AV.ptr 512 0),(28,AV.fn 55 [] [AV.ptr 37056 0,AV.ptr 37057 0])] 55 [29,30] as8 bd8))]/\0<1000000/\length l<1000000000/\(∀(x:P.Cr),x∈l->0<=x.snd.fst/\x.snd.fst<=255)
 /\iI 0<=iI 1/\iI 1<=iI 255)/\(iI (-900)<=iI 1/\iI 1<=iI 900/\iI (-900)<=iI 0/\iI 0<=iI 900/\iI 0<=iI 2/\iI 2<=iI 3/\iI 0<=iI 1)/\(true=true/\iI 0<=iI 3/\iI 3<=iI 3/\
 (iI (-1000)<=iI 1/\iI 1<=iI 1000)/\iI (-1000)<=iI 0/\iI 0<=iI 1000)/\(inZ 1 0 3/\iI 0<=iI 0/\iI 0<=iI 2)/\(inZ 1 0 3/\iI 0<=iI 1/\iI 1<=iI 2)/\(inZ 1 0 3/\iI 0<=iI 2/\iI
 2<=iI 2)/\iI 0<=iI 2/\([(37057,HO.blk (Blk.mk (Cont.cells [AV.int i64 2,AV.int i64 2]) 2 1 none (some false) true true)),(37056,HO.blk (Blk.mk (Cont.cells [AV.int i64 3,AV.int i64
 1]) 2 1 none (some false) true true)),(9001,HO.blk (Blk.mk (Cont.vals (flR (A0h [] 3 (knZ l 6 1)))) 2 (length (A0h [] 3 (knZ l 6 1))) none (some true) true false)),(512,HO.blk (Blk.mk
 (Cont.cells [AV.full 9001 (length (A0h [] 3 (knZ l 6 1)))]) 1 1 none (some false) true true)),(64,HO.blk (Blk.mk (Cont.cells [AV.int i64 2,AV.int i64 2,AV.imm (Cont.vals (P.flatC l))
 (length l) none]) 3 1 none (some false) true true)),(9002,HO.loop (LoopS.mk 0 none [(2,AV.ptr 64 0),(8,AV.ptr 512 0),(28,AV.fn 55 [] [AV.ptr 37056 0,AV.ptr 37057 0])] 55 [29,30] as8
 bd8))]=[(37057,HO.blk (Blk.mk (Cont.cells [AV.int i64 2,AV.int i64 2]) 2 1 none (some false) true true)),(37056,HO.blk (Blk.mk (Cont.cells [AV.int i64 3,AV.int i64 1]) 2 1 none (some
 false) true true)),(9001,HO.blk (Blk.mk (Cont.vals (flR (unR (flR (A0h [] 3 (knZ l 6 1)))))) 2 (length (unR (flR (A0h [] 3 (knZ l 6 1))))) none (some true) true false)),(512,HO.blk
 (Blk.mk (Cont.cells [AV.full 9001 (length (unR (flR (A0h [] 3 (knZ l 6 1)))))]) 1 1 none (some false) true true)),(64,HO.blk (Blk.mk (Cont.cells [AV.int i64 2,AV.int i64 2,AV.imm
 (Cont.vals (P.flatC l)) (length l) none]) 3 1 none (some false) true true)),(9002,HO.loop (LoopS.mk 0 none [(2,AV.ptr 64 0),(8,AV.ptr 512 0),(28,AV.fn 55 [] [AV.ptr 37056 0,AV.ptr
 37057 0])] 55 [29,30] as8 bd8))]/\length (unR (flR (A0h [] 3 (knZ l 6 1))))<1000000/\length l<1000000000/\(∀(x:P.Cr),x∈l->0<=x.snd.fst/\x.snd.fst<=255)/\iI 0<=iI 2/\iI
 2<=iI 255)/\(iI (-900)<=iI 1/\iI 1<=iI 900/\iI (-900)<=iI 0/\iI 0<=iI 900/\iI 0<=iI 3/\iI 3<=iI 3/\iI 0<=iI 2)/\(true=true/\iI 0<=iI 0/\iI 0<=iI 3/\(iI (-1000)<=iI 1
 /\iI 1<=iI 1000)/\iI (-1000)<=iI 0/\iI 0<=iI 1000)/\(inZ 1 0 0/\iI 0<=iI 0/\iI 0<=iI 2)/\(inZ 1 0 0/\iI 0<=iI 1/\iI 1<=iI 2)/\iI 0<=iI 1/\([(37057,HO.blk (Blk.mk
 (Cont.cells [AV.int i64 2,AV.int i64 2]) 2 1 none (some false) true true)),(37056,HO.blk (Blk.mk (Cont.cells [AV.int i64 3,AV.int i64 1]) 2 1 none (some false) true true)),(9001,HO.blk
 (Blk.mk (Cont.vals (flR (A0h (unR (flR (A0h [] 3 (knZ l 6 1)))) 5 (knZ l 4 2)))) 2 zz3 none (some true) true false)),(512,HO.blk (Blk.mk (Cont.cells [AV.full 9001 zz3]) 1 1 none (some
 false) true true)),(64,HO.blk (Blk.mk (Cont.cells [AV.int i64 2,AV.int i64 2,AV.imm (Cont.vals (P.flatC l)) (length l) none]) 3 1 none (some false) true true)),(9002,HO.loop (LoopS.mk
 0 none [(2,AV.ptr 64 0),(8,AV.ptr 512 0),(28,AV.fn 55 [] [AV.ptr 37056 0,AV.ptr 37057 0])] 55 [29,30] as8 bd8))]=[(37057,HO.blk (Blk.mk (Cont.cells [AV.int i64 2,AV.int i64 2]) 2
 1 none (some false) true true)),(37056,HO.blk (Blk.mk (Cont.cells [AV.int i64 3,AV.int i64 1]) 2 1 none (some false) true true)),(9001,HO.blk (Blk.mk (Cont.vals (flR (unR (flR (A0h
 (unR (flR (A0h [] 3 (knZ l 6 1)))) 5 (knZ l 4 2)))))) 2 zz2 none (some true) true false)),(512,HO.blk (Blk.mk (Cont.cells [AV.full 9001 zz2]) 1 1 none (some false) true true)),(64,
 HO.blk (Blk.mk (Cont.cells [AV.int i64 2,AV.int i64 2,AV.imm (Cont.vals (P.flatC l)) (length l) none]) 3 1 none (some false) true true)),(9002,HO.loop (LoopS.mk 0 none [(2,AV.ptr 64 0),
 (8,AV.ptr 512 0),(28,AV.fn 55 [] [AV.ptr 37056 0,AV.ptr 37057 0])] 55 [29,30] as8 bd8))]/\length (unR (flR (A0h (unR (flR (A0h [] 3 (knZ l 6 1)))) 5 (knZ l 4 2))))<1000000/\length
 l<1000000000/\(∀(x:P.Cr),x∈l->0<=x.snd.fst/\x.snd.fst<=255)/\iI 0<=iI 1/\iI 1<=iI 255)/\(iI (-900)<=iI 1/\iI 1<=iI 900/\iI (-900)<=iI 0/\iI 0<=iI 900/\iI 0<=iI 0/\
 iI 0<=iI 3/\iI 0<=iI 1)/\(true=true/\iI 0<=iI 1/\iI 1<=iI 3/\(iI (-1000)<=iI 1/\iI 1<=iI 1000)/\iI (-1000)<=iI 0/\iI 0<=iI 1000)/\(inZ 1 0 1/\iI 0<=iI 0/\iI 0<=iI 2)/\
 (inZ 1 0 1/\iI 0<=iI 1/\iI 1<=iI 2)/\(inZ 1 0 1/\iI 0<=iI 2/\iI 2<=iI 2)/\iI 0<=iI 2/\([(37057,HO.blk (Blk.mk (Cont.cells [AV.int i64 2,AV.int i64 2]) 2 1 none (some false)
 true true)),(37056,HO.blk (Blk.mk (Cont.cells [AV.int i64 3,AV.int i64 1]) 2 1 none (some false) true true)),(9001,HO.blk (Blk.mk (Cont.vals (flR (A0h (unR (flR (A0h (unR (flR (A0h
 [] 3 (knZ l 6 1)))) 5 (knZ l 4 2)))) 7 (knZ l 4 1)))) 2 zz1 none (some true) true false)),(512,HO.blk (Blk.mk (Cont.cells [AV.full 9001 zz1]) 1 1 none (some false) true true)),(64,HO.blk
 (Blk.mk (Cont.cells [AV.int i64 2,AV.int i64 2,AV.imm (Cont.vals (P.flatC l)) (length l) none]) 3 1 none (some false) true true)),(9002,HO.loop (LoopS.mk 0 none [(2,AV.ptr 64 0),(8,
 AV.ptr 512 0),(28,AV.fn 55 [] [AV.ptr 37056 0,AV.ptr 37057 0])] 55 [29,30] as8 bd8))]=[(37057,HO.blk (Blk.mk (Cont.cells [AV.int i64 2,AV.int i64 2]) 2 1 none (some false) true
 true)),(37056,HO.blk (Blk.mk (Cont.cells [AV.int i64 3,AV.int i64 1]) 2 1 none (some false) true true)),(9001,HO.blk (Blk.mk (Cont.vals (flR (unR (flR (A0h (unR (flR (A0h (unR (flR
 (A0h [] 3 (knZ l 6 1)))) 5 (knZ l 4 2)))) 7 (knZ l 4 1)))))) 2 zz0 none (some true) true false)),(512,HO.blk (Blk.mk (Cont.cells [AV.full 9001 zz0]) 1 1 none (some false) true true)),
 (64,HO.blk (Blk.mk (Cont.cells [AV.int i64 2,AV.int i64 2,AV.imm (Cont.vals (P.flatC l)) (length l) none]) 3 1 none (some false) true true)),(9002,HO.loop (LoopS.mk 0 none [(2,AV.ptr
 64 0),(8,AV.ptr 512 0),(28,AV.fn 55 [] [AV.ptr 37056 0,AV.ptr 37057 0])] 55 [29,30] as8 bd8))]/\length (unR (flR (A0h (unR (flR (A0h (unR (flR (A0h [] 3 (knZ l 6 1)))) 5 (knZ l 4
 2)))) 7 (knZ l 4 1))))<1000000/\length l<1000000000/\(∀(x:P.Cr),x∈l->0<=x.snd.fst/\x.snd.fst<=255)/\iI 0<=iI 2/\iI 2<=iI 255)/\(iI (-900)<=iI 1/\iI 1<=iI 900/\iI
 (-900)<=iI 0/\iI 0<=iI 900/\iI 0<=iI 1/\iI 1<=iI 3/\iI 0<=iI 2)/\1=1/\iI 2=2/\iI 2=2/\1=1/\iI 3=3/\iI 1=1/\length (A0h (unR (flR (A0h (unR (flR (A0h (unR (flR
 (A0h [] 3 (knZ l 6 1)))) 5 (knZ l 4 2)))) 7 (knZ l 4 1)))) 1 (knZ l 5 2))=length (foldl (fun(L:List Ry) (s:Int×Int×Int)=>A0h L s.fst (knZ l s.snd.fst s.snd.snd)) [] [(3,6,
 1),(5,4,2),(7,4,1),(1,5,2)])/\flR (A0h (unR (flR (A0h (unR (flR (A0h (unR (flR (A0h [] 3 (knZ l 6 1)))) 5 (knZ l 4 2)))) 7 (knZ l 4 1)))) 1 (knZ l 5 2))=flR (foldl (fun(L:
 List Ry) (s:Int×Int×Int)=>A0h L s.fst (knZ l s.snd.fst s.snd.snd)) [] [(3,6,1),(5,4,2),(7,4,1),(1,5,2)])/\1=1/\length (A0h (unR (flR (A0h (unR (flR (A0h (unR (flR
 (A0h [] 3 (knZ l 6 1)))) 5 (knZ l 4 2)))) 7 (knZ l 4 1)))) 1 (knZ l 5 2))=length (foldl (fun(L:List Ry) (s:Int×Int×Int)=>A0h L s.fst (knZ l s.snd.fst s.snd.snd)) [] [(3,6,
 1),(5,4,2),(7,4,1),(1,5,2)])/\1=1/\iI 2=2/\iI 2=2/\qx (Cont.vals (P.flatC l)) (length l=length l/\0=0/\(none:Option Ex)=none/\55=55/\[29,30]=[29,30]/\
 as8=as8/\bd8=bd8/\0=0/\0=0/\0=0/\0=0/\True)) (length (unR (flR (A0h (unR (flR (A0h (unR (flR (A0h [] 3 (knZ l 6 1)))) 5 (knZ l 4 2)))) 7 (knZ l 4 1)))))) (length (A0h
 (unR (flR (A0h (unR (flR (A0h [] 3 (knZ l 6 1)))) 5 (knZ l 4 2)))) 7 (knZ l 4 1)))) (length (unR (flR (A0h (unR (flR (A0h [] 3 (knZ l 6 1)))) 5 (knZ l 4 2)))))) (length (A0h (unR (flR
 (A0h [] 3 (knZ l 6 1)))) 5 (knZ l 4 2)))):=by kernel_rfl
theorem B72 (l:List P.Cr):fnD (TY8 l 1 3) G 10000 (B8O) (.r [] 127 (.r [] 3 (.lit (.r [] 1 (.r [] 3 (.r [] 0 (.un (.r [] 27 (.r [] 0 (.un (.r [] 0 (.lit (.r [] 0 (.r [] 123 (.lit (.r [] 1 (.un (.r [] 0 (.lit (.r [] 0 (.r [] 4091 (.lit (.r [] 29 (.r [(776,.auto,Dr.heap)] 31 (.lit (.r [] 29 (.r [] 0 (.r [] 3 (.lit (.un (.r [] 27 (.r [] 0 (.un (.r [] 0 (.lit (.r [] 0 (.r [] 123 (.lit (.r [] 1 (.un (.r [] 0 (.lit (.r [] 0 (.r [] 123 (.lit (.r [] 1 (.un (.r [] 0 (.lit (.r [] 0 (.r [] 507 (.lit (.gc 711 (.r [] 29 (.r [(776,.auto,Dr.heap)] 31 (.lit (.r [] 29 (.r [] 0 (.r [] 3 (.lit (.un (.r [] 27 (.r [] 0 (.un (.r [] 0 (.lit (.r [] 0 (.r [] 123 (.lit (.r [] 1 (.un (.r [] 0 (.lit (.r [] 0 (.r [] 507 (.lit (.gc 711 (.r [] 29 (.r [(776,.auto,Dr.heap)] 31 (.lit (.r [] 29 (.r [] 0 (.r [] 3 (.lit (.un (.r [] 27 (.r [] 0 (.un (.r [] 0 (.lit (.r [] 0 (.r [] 123 (.lit (.r [] 1 (.un (.r [] 0 (.lit (.r [] 0 (.r [] 123 (.lit (.r [] 1 (.un (.r [] 0 (.lit (.r [] 0 (.r [] 507 (.lit (.gc 711 (.r [] 29 (.r [(776,.auto,Dr.heap)] 31 (.lit (.r [] 29 (.r [] 0 (.r [] 3 (.lit .nil))))))))))))))))))))))))))))))))))))))))))))))))))))))))))))))))))))))))))))))))))))))))))))))))))))))))))))))))))) ([.yld 9002,.ptr 37056 0,.ptr 37057 0]) (H8 l [] 1 3 (some 0)) ([]) ([(37057,.blk (ptB 2 2)),(37056,.blk (ptB 1 3)),(9001,B0P (A0Z l 1 3)),(512,bxO (.full 9001 (A0Z l 1 3).length))])=(
 (fun(zz3:Nat)=>(fun(zz2:Nat)=>(fun(zz1:Nat)=>(fun(zz0:Nat)=>(true=true/\iI 0<=iI 2/\iI 2<=iI 3/\(iI (-1000)<=iI 0/\iI 0<=iI 1000)/\iI (-1000)<=iI 1/\iI 1<=
 iI 1000)/\(inZ 0 1 2/\iI 0<=iI 0/\iI 0<=iI 2)/\(inZ 0 1 2/\iI 0<=iI 1/\iI 1<=iI 2)/\iI 0<=iI 1/\([(37057,HO.blk (Blk.mk (Cont.cells [AV.int i64 2,AV.int i64 2]) 2 1 none (some
 false) true true)),(37056,HO.blk (Blk.mk (Cont.cells [AV.int i64 1,AV.int i64 3]) 2 1 none (some false) true true)),(9001,HO.blk (Blk.mk (Cont.vals []) 2 0 (some 0) (some true) true
 false)),(512,HO.blk (Blk.mk (Cont.cells [AV.full 9001 0]) 1 1 none (some false) true true)),(64,HO.blk (Blk.mk (Cont.cells [AV.int i64 2,AV.int i64 2,AV.imm (Cont.vals (P.flatC l))
 (length l) none]) 3 1 none (some false) true true)),(9002,HO.loop (LoopS.mk 0 none [(2,AV.ptr 64 0),(8,AV.ptr 512 0),(28,AV.fn 55 [] [AV.ptr 37056 0,AV.ptr 37057 0])] 55 [29,30] as8
 bd8))]=[(37057,HO.blk (Blk.mk (Cont.cells [AV.int i64 2,AV.int i64 2]) 2 1 none (some false) true true)),(37056,HO.blk (Blk.mk (Cont.cells [AV.int i64 1,AV.int i64 3]) 2 1 none (some
 false) true true)),(9001,HO.blk (Blk.mk (Cont.vals []) 2 0 (some 0) (some true) true false)),(512,HO.blk (Blk.mk (Cont.cells [AV.full 9001 0]) 1 1 none (some false) true true)),(64,
 HO.blk (Blk.mk (Cont.cells [AV.int i64 2,AV.int i64 2,AV.imm (Cont.vals (P.flatC l)) (length l) none]) 3 1 none (some false) true true)),(9002,HO.loop (LoopS.mk 0 none [(2,AV.ptr 64 0),
 (8,AV.ptr 512 0),(28,AV.fn 55 [] [AV.ptr 37056 0,AV.ptr 37057 0])] 55 [29,30] as8 bd8))]/\0<1000000/\length l<1000000000/\(∀(x:P.Cr),x∈l->0<=x.snd.fst/\x.snd.fst<=255)
 /\iI 0<=iI 1/\iI 1<=iI 255)/\(iI (-900)<=iI 0/\iI 0<=iI 900/\iI (-900)<=iI 1/\iI 1<=iI 900/\iI 0<=iI 2/\iI 2<=iI 3/\iI 0<=iI 1)/\(true=true/\iI 0<=iI 3/\iI 3<=iI 3/\
 (iI (-1000)<=iI 0/\iI 0<=iI 1000)/\iI (-1000)<=iI 1/\iI 1<=iI 1000)/\(inZ 0 1 3/\iI 0<=iI 0/\iI 0<=iI 2)/\(inZ 0 1 3/\iI 0<=iI 1/\iI 1<=iI 2)/\(inZ 0 1 3/\iI 0<=iI 2/\iI
 2<=iI 2)/\iI 0<=iI 2/\([(37057,HO.blk (Blk.mk (Cont.cells [AV.int i64 2,AV.int i64 2]) 2 1 none (some false) true true)),(37056,HO.blk (Blk.mk (Cont.cells [AV.int i64 1,AV.int i64
 3]) 2 1 none (some false) true true)),(9001,HO.blk (Blk.mk (Cont.vals (flR (A0h [] 3 (knZ l 10 1)))) 2 (length (A0h [] 3 (knZ l 10 1))) none (some true) true false)),(512,HO.blk
 (Blk.mk (Cont.cells [AV.full 9001 (length (A0h [] 3 (knZ l 10 1)))]) 1 1 none (some false) true true)),(64,HO.blk (Blk.mk (Cont.cells [AV.int i64 2,AV.int i64 2,AV.imm (Cont.vals
 (P.flatC l)) (length l) none]) 3 1 none (some false) true true)),(9002,HO.loop (LoopS.mk 0 none [(2,AV.ptr 64 0),(8,AV.ptr 512 0),(28,AV.fn 55 [] [AV.ptr 37056 0,AV.ptr 37057 0])] 55
 [29,30] as8 bd8))]=[(37057,HO.blk (Blk.mk (Cont.cells [AV.int i64 2,AV.int i64 2]) 2 1 none (some false) true true)),(37056,HO.blk (Blk.mk (Cont.cells [AV.int i64 1,AV.int i64 3]) 2
 1 none (some false) true true)),(9001,HO.blk (Blk.mk (Cont.vals (flR (unR (flR (A0h [] 3 (knZ l 10 1)))))) 2 (length (unR (flR (A0h [] 3 (knZ l 10 1))))) none (some true) true false)),
 (512,HO.blk (Blk.mk (Cont.cells [AV.full 9001 (length (unR (flR (A0h [] 3 (knZ l 10 1)))))]) 1 1 none (some false) true true)),(64,HO.blk (Blk.mk (Cont.cells [AV.int i64 2,AV.int i64 2,
 AV.imm (Cont.vals (P.flatC l)) (length l) none]) 3 1 none (some false) true true)),(9002,HO.loop (LoopS.mk 0 none [(2,AV.ptr 64 0),(8,AV.ptr 512 0),(28,AV.fn 55 [] [AV.ptr 37056 0,
 AV.ptr 37057 0])] 55 [29,30] as8 bd8))]/\length (unR (flR (A0h [] 3 (knZ l 10 1))))<1000000/\length l<1000000000/\(∀(x:P.Cr),x∈l->0<=x.snd.fst/\x.snd.fst<=255)/\iI 0<=iI
 2/\iI 2<=iI 255)/\(iI (-900)<=iI 0/\iI 0<=iI 900/\iI (-900)<=iI 1/\iI 1<=iI 900/\iI 0<=iI 3/\iI 3<=iI 3/\iI 0<=iI 2)/\(true=true/\iI 0<=iI 0/\iI 0<=iI 3/\(iI (-1000)
 <=iI 0/\iI 0<=iI 1000)/\iI (-1000)<=iI 1/\iI 1<=iI 1000)/\(inZ 0 1 0/\iI 0<=iI 0/\iI 0<=iI 2)/\(inZ 0 1 0/\iI 0<=iI 1/\iI 1<=iI 2)/\iI 0<=iI 1/\([(37057,HO.blk (Blk.mk
 (Cont.cells [AV.int i64 2,AV.int i64 2]) 2 1 none (some false) true true)),(37056,HO.blk (Blk.mk (Cont.cells [AV.int i64 1,AV.int i64 3]) 2 1 none (some false) true true)),(9001,HO.blk
 (Blk.mk (Cont.vals (flR (A0h (unR (flR (A0h [] 3 (knZ l 10 1)))) 5 (knZ l 8 2)))) 2 zz3 none (some true) true false)),(512,HO.blk (Blk.mk (Cont.cells [AV.full 9001 zz3]) 1 1 none (some
 false) true true)),(64,HO.blk (Blk.mk (Cont.cells [AV.int i64 2,AV.int i64 2,AV.imm (Cont.vals (P.flatC l)) (length l) none]) 3 1 none (some false) true true)),(9002,HO.loop (LoopS.mk
 0 none [(2,AV.ptr 64 0),(8,AV.ptr 512 0),(28,AV.fn 55 [] [AV.ptr 37056 0,AV.ptr 37057 0])] 55 [29,30] as8 bd8))]=[(37057,HO.blk (Blk.mk (Cont.cells [AV.int i64 2,AV.int i64 2]) 2
 1 none (some false) true true)),(37056,HO.blk (Blk.mk (Cont.cells [AV.int i64 1,AV.int i64 3]) 2 1 none (some false) true true)),(9001,HO.blk (Blk.mk (Cont.vals (flR (unR (flR (A0h
 (unR (flR (A0h [] 3 (knZ l 10 1)))) 5 (knZ l 8 2)))))) 2 zz2 none (some true) true false)),(512,HO.blk (Blk.mk (Cont.cells [AV.full 9001 zz2]) 1 1 none (some false) true true)),(64,
 HO.blk (Blk.mk (Cont.cells [AV.int i64 2,AV.int i64 2,AV.imm (Cont.vals (P.flatC l)) (length l) none]) 3 1 none (some false) true true)),(9002,HO.loop (LoopS.mk 0 none [(2,AV.ptr 64 0),
 (8,AV.ptr 512 0),(28,AV.fn 55 [] [AV.ptr 37056 0,AV.ptr 37057 0])] 55 [29,30] as8 bd8))]/\length (unR (flR (A0h (unR (flR (A0h [] 3 (knZ l 10 1)))) 5 (knZ l 8 2))))<1000000/\
 length l<1000000000/\(∀(x:P.Cr),x∈l->0<=x.snd.fst/\x.snd.fst<=255)/\iI 0<=iI 1/\iI 1<=iI 255)/\(iI (-900)<=iI 0/\iI 0<=iI 900/\iI (-900)<=iI 1/\iI 1<=iI 900/\iI 0<=
 iI 0/\iI 0<=iI 3/\iI 0<=iI 1)/\(true=true/\iI 0<=iI 1/\iI 1<=iI 3/\(iI (-1000)<=iI 0/\iI 0<=iI 1000)/\iI (-1000)<=iI 1/\iI 1<=iI 1000)/\(inZ 0 1 1/\iI 0<=iI 0/\iI 0<=
 iI 2)/\(inZ 0 1 1/\iI 0<=iI 1/\iI 1<=iI 2)/\(inZ 0 1 1/\iI 0<=iI 2/\iI 2<=iI 2)/\iI 0<=iI 2/\([(37057,HO.blk (Blk.mk (Cont.cells [AV.int i64 2,AV.int i64 2]) 2 1 none (some
 false) true true)),(37056,HO.blk (Blk.mk (Cont.cells [AV.int i64 1,AV.int i64 3]) 2 1 none (some false) true true)),(9001,HO.blk (Blk.mk (Cont.vals (flR (A0h (unR (flR (A0h (unR (flR
 (A0h [] 3 (knZ l 10 1)))) 5 (knZ l 8 2)))) 7 (knZ l 8 1)))) 2 zz1 none (some true) true false)),(512,HO.blk (Blk.mk (Cont.cells [AV.full 9001 zz1]) 1 1 none (some false) true true)),(64,
 HO.blk (Blk.mk (Cont.cells [AV.int i64 2,AV.int i64 2,AV.imm (Cont.vals (P.flatC l)) (length l) none]) 3 1 none (some false) true true)),(9002,HO.loop (LoopS.mk 0 none [(2,AV.ptr 64 0),
 (8,AV.ptr 512 0),(28,AV.fn 55 [] [AV.ptr 37056 0,AV.ptr 37057 0])] 55 [29,30] as8 bd8))]=[(37057,HO.blk (Blk.mk (Cont.cells [AV.int i64 2,AV.int i64 2]) 2 1 none (some false) true
 true)),(37056,HO.blk (Blk.mk (Cont.cells [AV.int i64 1,AV.int i64 3]) 2 1 none (some false) true true)),(9001,HO.blk (Blk.mk (Cont.vals (flR (unR (flR (A0h (unR (flR (A0h (unR (flR
 (A0h [] 3 (knZ l 10 1)))) 5 (knZ l 8 2)))) 7 (knZ l 8 1)))))) 2 zz0 none (some true) true false)),(512,HO.blk (Blk.mk (Cont.cells [AV.full 9001 zz0]) 1 1 none (some false) true true)),
 (64,HO.blk (Blk.mk (Cont.cells [AV.int i64 2,AV.int i64 2,AV.imm (Cont.vals (P.flatC l)) (length l) none]) 3 1 none (some false) true true)),(9002,HO.loop (LoopS.mk 0 none [(2,AV.ptr
 64 0),(8,AV.ptr 512 0),(28,AV.fn 55 [] [AV.ptr 37056 0,AV.ptr 37057 0])] 55 [29,30] as8 bd8))]/\length (unR (flR (A0h (unR (flR (A0h (unR (flR (A0h [] 3 (knZ l 10 1)))) 5 (knZ l 8
 2)))) 7 (knZ l 8 1))))<1000000/\length l<1000000000/\(∀(x:P.Cr),x∈l->0<=x.snd.fst/\x.snd.fst<=255)/\iI 0<=iI 2/\iI 2<=iI 255)/\(iI (-900)<=iI 0/\iI 0<=iI 900/\iI
 (-900)<=iI 1/\iI 1<=iI 900/\iI 0<=iI 1/\iI 1<=iI 3/\iI 0<=iI 2)/\1=1/\iI 2=2/\iI 2=2/\1=1/\iI 1=1/\iI 3=3/\length (A0h (unR (flR (A0h (unR (flR (A0h (unR (flR
 (A0h [] 3 (knZ l 10 1)))) 5 (knZ l 8 2)))) 7 (knZ l 8 1)))) 1 (knZ l 9 2))=length (foldl (fun(L:List Ry) (s:Int×Int×Int)=>A0h L s.fst (knZ l s.snd.fst s.snd.snd)) [] [(3,10,
 1),(5,8,2),(7,8,1),(1,9,2)])/\flR (A0h (unR (flR (A0h (unR (flR (A0h (unR (flR (A0h [] 3 (knZ l 10 1)))) 5 (knZ l 8 2)))) 7 (knZ l 8 1)))) 1 (knZ l 9 2))=flR (foldl (fun(L:
 List Ry) (s:Int×Int×Int)=>A0h L s.fst (knZ l s.snd.fst s.snd.snd)) [] [(3,10,1),(5,8,2),(7,8,1),(1,9,2)])/\1=1/\length (A0h (unR (flR (A0h (unR (flR (A0h (unR (flR
 (A0h [] 3 (knZ l 10 1)))) 5 (knZ l 8 2)))) 7 (knZ l 8 1)))) 1 (knZ l 9 2))=length (foldl (fun(L:List Ry) (s:Int×Int×Int)=>A0h L s.fst (knZ l s.snd.fst s.snd.snd)) [] [(3,10,
 1),(5,8,2),(7,8,1),(1,9,2)])/\1=1/\iI 2=2/\iI 2=2/\qx (Cont.vals (P.flatC l)) (length l=length l/\0=0/\(none:Option Ex)=none/\55=55/\[29,30]=[29,30]/\
 as8=as8/\bd8=bd8/\0=0/\0=0/\0=0/\0=0/\True)) (length (unR (flR (A0h (unR (flR (A0h (unR (flR (A0h [] 3 (knZ l 10 1)))) 5 (knZ l 8 2)))) 7 (knZ l 8 1)))))) (length (A0h
 (unR (flR (A0h (unR (flR (A0h [] 3 (knZ l 10 1)))) 5 (knZ l 8 2)))) 7 (knZ l 8 1)))) (length (unR (flR (A0h (unR (flR (A0h [] 3 (knZ l 10 1)))) 5 (knZ l 8 2)))))) (length (A0h (unR (flR
 (A0h [] 3 (knZ l 10 1)))) 5 (knZ l 8 2)))):=by kernel_rfl
theorem B73 (l:List P.Cr):fnD (TY8 l 3 3) G 10000 (B8O) (.r [] 127 (.r [] 3 (.lit (.r [] 1 (.r [] 3 (.r [] 0 (.un (.r [] 27 (.r [] 0 (.un (.r [] 0 (.lit (.r [] 0 (.r [] 123 (.lit (.r [] 1 (.un (.r [] 0 (.lit (.r [] 0 (.r [] 4091 (.lit (.r [] 29 (.r [(776,.auto,Dr.heap)] 31 (.lit (.r [] 29 (.r [] 0 (.r [] 3 (.lit (.un (.r [] 27 (.r [] 0 (.un (.r [] 0 (.lit (.r [] 0 (.r [] 123 (.lit (.r [] 1 (.un (.r [] 0 (.lit (.r [] 0 (.r [] 123 (.lit (.r [] 1 (.un (.r [] 0 (.lit (.r [] 0 (.r [] 507 (.lit (.gc 711 (.r [] 29 (.r [(776,.auto,Dr.heap)] 31 (.lit (.r [] 29 (.r [] 0 (.r [] 3 (.lit (.un (.r [] 27 (.r [] 0 (.un (.r [] 0 (.lit (.r [] 0 (.r [] 123 (.lit (.r [] 1 (.un (.r [] 0 (.lit (.r [] 0 (.r [] 507 (.lit (.gc 711 (.r [] 29 (.r [(776,.auto,Dr.heap)] 31 (.lit (.r [] 29 (.r [] 0 (.r [] 3 (.lit (.un (.r [] 27 (.r [] 0 (.un (.r [] 0 (.lit (.r [] 0 (.r [] 123 (.lit (.r [] 1 (.un (.r [] 0 (.lit (.r [] 0 (.r [] 123 (.lit (.r [] 1 (.un (.r [] 0 (.lit (.r [] 0 (.r [] 507 (.lit (.gc 711 (.r [] 29 (.r [(776,.auto,Dr.heap)] 31 (.lit (.r [] 29 (.r [] 0 (.r [] 3 (.lit .nil))))))))))))))))))))))))))))))))))))))))))))))))))))))))))))))))))))))))))))))))))))))))))))))))))))))))))))))))))) ([.yld 9002,.ptr 37056 0,.ptr 37057 0]) (H8 l [] 3 3 (some 0)) ([]) ([(37057,.blk (ptB 2 2)),(37056,.blk (ptB 3 3)),(9001,B0P (A0Z l 3 3)),(512,bxO (.full 9001 (A0Z l 3 3).length))])=(
 (fun(zz3:Nat)=>(fun(zz2:Nat)=>(fun(zz1:Nat)=>(fun(zz0:Nat)=>(true=true/\iI 0<=iI 2/\iI 2<=iI 3/\(iI (-1000)<=iI 1/\iI 1<=iI 1000)/\iI (-1000)<=iI 1/\iI 1<=
 iI 1000)/\(inZ 1 1 2/\iI 0<=iI 0/\iI 0<=iI 2)/\(inZ 1 1 2/\iI 0<=iI 1/\iI 1<=iI 2)/\iI 0<=iI 1/\([(37057,HO.blk (Blk.mk (Cont.cells [AV.int i64 2,AV.int i64 2]) 2 1 none (some
 false) true true)),(37056,HO.blk (Blk.mk (Cont.cells [AV.int i64 3,AV.int i64 3]) 2 1 none (some false) true true)),(9001,HO.blk (Blk.mk (Cont.vals []) 2 0 (some 0) (some true) true
 false)),(512,HO.blk (Blk.mk (Cont.cells [AV.full 9001 0]) 1 1 none (some false) true true)),(64,HO.blk (Blk.mk (Cont.cells [AV.int i64 2,AV.int i64 2,AV.imm (Cont.vals (P.flatC l))
 (length l) none]) 3 1 none (some false) true true)),(9002,HO.loop (LoopS.mk 0 none [(2,AV.ptr 64 0),(8,AV.ptr 512 0),(28,AV.fn 55 [] [AV.ptr 37056 0,AV.ptr 37057 0])] 55 [29,30] as8
 bd8))]=[(37057,HO.blk (Blk.mk (Cont.cells [AV.int i64 2,AV.int i64 2]) 2 1 none (some false) true true)),(37056,HO.blk (Blk.mk (Cont.cells [AV.int i64 3,AV.int i64 3]) 2 1 none (some
 false) true true)),(9001,HO.blk (Blk.mk (Cont.vals []) 2 0 (some 0) (some true) true false)),(512,HO.blk (Blk.mk (Cont.cells [AV.full 9001 0]) 1 1 none (some false) true true)),(64,
 HO.blk (Blk.mk (Cont.cells [AV.int i64 2,AV.int i64 2,AV.imm (Cont.vals (P.flatC l)) (length l) none]) 3 1 none (some false) true true)),(9002,HO.loop (LoopS.mk 0 none [(2,AV.ptr 64 0),
 (8,AV.ptr 512 0),(28,AV.fn 55 [] [AV.ptr 37056 0,AV.ptr 37057 0])] 55 [29,30] as8 bd8))]/\0<1000000/\length l<1000000000/\(∀(x:P.Cr),x∈l->0<=x.snd.fst/\x.snd.fst<=255)
 /\iI 0<=iI 1/\iI 1<=iI 255)/\(iI (-900)<=iI 1/\iI 1<=iI 900/\iI (-900)<=iI 1/\iI 1<=iI 900/\iI 0<=iI 2/\iI 2<=iI 3/\iI 0<=iI 1)/\(true=true/\iI 0<=iI 3/\iI 3<=iI 3/\
 (iI (-1000)<=iI 1/\iI 1<=iI 1000)/\iI (-1000)<=iI 1/\iI 1<=iI 1000)/\(inZ 1 1 3/\iI 0<=iI 0/\iI 0<=iI 2)/\(inZ 1 1 3/\iI 0<=iI 1/\iI 1<=iI 2)/\(inZ 1 1 3/\iI 0<=iI 2/\iI
 2<=iI 2)/\iI 0<=iI 2/\([(37057,HO.blk (Blk.mk (Cont.cells [AV.int i64 2,AV.int i64 2]) 2 1 none (some false) true true)),(37056,HO.blk (Blk.mk (Cont.cells [AV.int i64 3,AV.int i64
 3]) 2 1 none (some false) true true)),(9001,HO.blk (Blk.mk (Cont.vals (flR (A0h [] 3 (knZ l 14 1)))) 2 (length (A0h [] 3 (knZ l 14 1))) none (some true) true false)),(512,HO.blk
 (Blk.mk (Cont.cells [AV.full 9001 (length (A0h [] 3 (knZ l 14 1)))]) 1 1 none (some false) true true)),(64,HO.blk (Blk.mk (Cont.cells [AV.int i64 2,AV.int i64 2,AV.imm (Cont.vals
 (P.flatC l)) (length l) none]) 3 1 none (some false) true true)),(9002,HO.loop (LoopS.mk 0 none [(2,AV.ptr 64 0),(8,AV.ptr 512 0),(28,AV.fn 55 [] [AV.ptr 37056 0,AV.ptr 37057 0])] 55
 [29,30] as8 bd8))]=[(37057,HO.blk (Blk.mk (Cont.cells [AV.int i64 2,AV.int i64 2]) 2 1 none (some false) true true)),(37056,HO.blk (Blk.mk (Cont.cells [AV.int i64 3,AV.int i64 3]) 2
 1 none (some false) true true)),(9001,HO.blk (Blk.mk (Cont.vals (flR (unR (flR (A0h [] 3 (knZ l 14 1)))))) 2 (length (unR (flR (A0h [] 3 (knZ l 14 1))))) none (some true) true false)),
 (512,HO.blk (Blk.mk (Cont.cells [AV.full 9001 (length (unR (flR (A0h [] 3 (knZ l 14 1)))))]) 1 1 none (some false) true true)),(64,HO.blk (Blk.mk (Cont.cells [AV.int i64 2,AV.int i64 2,
 AV.imm (Cont.vals (P.flatC l)) (length l) none]) 3 1 none (some false) true true)),(9002,HO.loop (LoopS.mk 0 none [(2,AV.ptr 64 0),(8,AV.ptr 512 0),(28,AV.fn 55 [] [AV.ptr 37056 0,
 AV.ptr 37057 0])] 55 [29,30] as8 bd8))]/\length (unR (flR (A0h [] 3 (knZ l 14 1))))<1000000/\length l<1000000000/\(∀(x:P.Cr),x∈l->0<=x.snd.fst/\x.snd.fst<=255)/\iI 0<=iI
 2/\iI 2<=iI 255)/\(iI (-900)<=iI 1/\iI 1<=iI 900/\iI (-900)<=iI 1/\iI 1<=iI 900/\iI 0<=iI 3/\iI 3<=iI 3/\iI 0<=iI 2)/\(true=true/\iI 0<=iI 0/\iI 0<=iI 3/\(iI (-1000)
 <=iI 1/\iI 1<=iI 1000)/\iI (-1000)<=iI 1/\iI 1<=iI 1000)/\(inZ 1 1 0/\iI 0<=iI 0/\iI 0<=iI 2)/\(inZ 1 1 0/\iI 0<=iI 1/\iI 1<=iI 2)/\iI 0<=iI 1/\([(37057,HO.blk (Blk.mk
 (Cont.cells [AV.int i64 2,AV.int i64 2]) 2 1 none (some false) true true)),(37056,HO.blk (Blk.mk (Cont.cells [AV.int i64 3,AV.int i64 3]) 2 1 none (some false) true true)),(9001,HO.blk
 (Blk.mk (Cont.vals (flR (A0h (unR (flR (A0h [] 3 (knZ l 14 1)))) 5 (knZ l 12 2)))) 2 zz3 none (some true) true false)),(512,HO.blk (Blk.mk (Cont.cells [AV.full 9001 zz3]) 1 1 none (some
 false) true true)),(64,HO.blk (Blk.mk (Cont.cells [AV.int i64 2,AV.int i64 2,AV.imm (Cont.vals (P.flatC l)) (length l) none]) 3 1 none (some false) true true)),(9002,HO.loop (LoopS.mk
 0 none [(2,AV.ptr 64 0),(8,AV.ptr 512 0),(28,AV.fn 55 [] [AV.ptr 37056 0,AV.ptr 37057 0])] 55 [29,30] as8 bd8))]=[(37057,HO.blk (Blk.mk (Cont.cells [AV.int i64 2,AV.int i64 2]) 2
 1 none (some false) true true)),(37056,HO.blk (Blk.mk (Cont.cells [AV.int i64 3,AV.int i64 3]) 2 1 none (some false) true true)),(9001,HO.blk (Blk.mk (Cont.vals (flR (unR (flR (A0h
 (unR (flR (A0h [] 3 (knZ l 14 1)))) 5 (knZ l 12 2)))))) 2 zz2 none (some true) true false)),(512,HO.blk (Blk.mk (Cont.cells [AV.full 9001 zz2]) 1 1 none (some false) true true)),(64,
 HO.blk (Blk.mk (Cont.cells [AV.int i64 2,AV.int i64 2,AV.imm (Cont.vals (P.flatC l)) (length l) none]) 3 1 none (some false) true true)),(9002,HO.loop (LoopS.mk 0 none [(2,AV.ptr 64 0),
 (8,AV.ptr 512 0),(28,AV.fn 55 [] [AV.ptr 37056 0,AV.ptr 37057 0])] 55 [29,30] as8 bd8))]/\length (unR (flR (A0h (unR (flR (A0h [] 3 (knZ l 14 1)))) 5 (knZ l 12 2))))<1000000/\
 length l<1000000000/\(∀(x:P.Cr),x∈l->0<=x.snd.fst/\x.snd.fst<=255)/\iI 0<=iI 1/\iI 1<=iI 255)/\(iI (-900)<=iI 1/\iI 1<=iI 900/\iI (-900)<=iI 1/\iI 1<=iI 900/\iI 0<=
 iI 0/\iI 0<=iI 3/\iI 0<=iI 1)/\(true=true/\iI 0<=iI 1/\iI 1<=iI 3/\(iI (-1000)<=iI 1/\iI 1<=iI 1000)/\iI (-1000)<=iI 1/\iI 1<=iI 1000)/\(inZ 1 1 1/\iI 0<=iI 0/\iI 0<=
 iI 2)/\(inZ 1 1 1/\iI 0<=iI 1/\iI 1<=iI 2)/\(inZ 1 1 1/\iI 0<=iI 2/\iI 2<=iI 2)/\iI 0<=iI 2/\([(37057,HO.blk (Blk.mk (Cont.cells [AV.int i64 2,AV.int i64 2]) 2 1 none (some
 false) true true)),(37056,HO.blk (Blk.mk (Cont.cells [AV.int i64 3,AV.int i64 3]) 2 1 none (some false) true true)),(9001,HO.blk (Blk.mk (Cont.vals (flR (A0h (unR (flR (A0h (unR (flR
 (A0h [] 3 (knZ l 14 1)))) 5 (knZ l 12 2)))) 7 (knZ l 12 1)))) 2 zz1 none (some true) true false)),(512,HO.blk (Blk.mk (Cont.cells [AV.full 9001 zz1]) 1 1 none (some false) true true)),
 (64,HO.blk (Blk.mk (Cont.cells [AV.int i64 2,AV.int i64 2,AV.imm (Cont.vals (P.flatC l)) (length l) none]) 3 1 none (some false) true true)),(9002,HO.loop (LoopS.mk 0 none [(2,AV.ptr
 64 0),(8,AV.ptr 512 0),(28,AV.fn 55 [] [AV.ptr 37056 0,AV.ptr 37057 0])] 55 [29,30] as8 bd8))]=[(37057,HO.blk (Blk.mk (Cont.cells [AV.int i64 2,AV.int i64 2]) 2 1 none (some false)
 true true)),(37056,HO.blk (Blk.mk (Cont.cells [AV.int i64 3,AV.int i64 3]) 2 1 none (some false) true true)),(9001,HO.blk (Blk.mk (Cont.vals (flR (unR (flR (A0h (unR (flR (A0h (unR
 (flR (A0h [] 3 (knZ l 14 1)))) 5 (knZ l 12 2)))) 7 (knZ l 12 1)))))) 2 zz0 none (some true) true false)),(512,HO.blk (Blk.mk (Cont.cells [AV.full 9001 zz0]) 1 1 none (some false) true
 true)),(64,HO.blk (Blk.mk (Cont.cells [AV.int i64 2,AV.int i64 2,AV.imm (Cont.vals (P.flatC l)) (length l) none]) 3 1 none (some false) true true)),(9002,HO.loop (LoopS.mk 0 none [(2,
 AV.ptr 64 0),(8,AV.ptr 512 0),(28,AV.fn 55 [] [AV.ptr 37056 0,AV.ptr 37057 0])] 55 [29,30] as8 bd8))]/\length (unR (flR (A0h (unR (flR (A0h (unR (flR (A0h [] 3 (knZ l 14 1)))) 5
 (knZ l 12 2)))) 7 (knZ l 12 1))))<1000000/\length l<1000000000/\(∀(x:P.Cr),x∈l->0<=x.snd.fst/\x.snd.fst<=255)/\iI 0<=iI 2/\iI 2<=iI 255)/\(iI (-900)<=iI 1/\iI 1<=iI
 900/\iI (-900)<=iI 1/\iI 1<=iI 900/\iI 0<=iI 1/\iI 1<=iI 3/\iI 0<=iI 2)/\1=1/\iI 2=2/\iI 2=2/\1=1/\iI 3=3/\iI 3=3/\length (A0h (unR (flR (A0h (unR (flR (A0h
 (unR (flR (A0h [] 3 (knZ l 14 1)))) 5 (knZ l 12 2)))) 7 (knZ l 12 1)))) 1 (knZ l 13 2))=length (foldl (fun(L:List Ry) (s:Int×Int×Int)=>A0h L s.fst (knZ l s.snd.fst s.snd.snd))
 [] [(3,14,1),(5,12,2),(7,12,1),(1,13,2)])/\flR (A0h (unR (flR (A0h (unR (flR (A0h (unR (flR (A0h [] 3 (knZ l 14 1)))) 5 (knZ l 12 2)))) 7 (knZ l 12 1)))) 1 (knZ l 13 2))=
 flR (foldl (fun(L:List Ry) (s:Int×Int×Int)=>A0h L s.fst (knZ l s.snd.fst s.snd.snd)) [] [(3,14,1),(5,12,2),(7,12,1),(1,13,2)])/\1=1/\length (A0h (unR (flR (A0h
 (unR (flR (A0h (unR (flR (A0h [] 3 (knZ l 14 1)))) 5 (knZ l 12 2)))) 7 (knZ l 12 1)))) 1 (knZ l 13 2))=length (foldl (fun(L:List Ry) (s:Int×Int×Int)=>A0h L s.fst (knZ l
 s.snd.fst s.snd.snd)) [] [(3,14,1),(5,12,2),(7,12,1),(1,13,2)])/\1=1/\iI 2=2/\iI 2=2/\qx (Cont.vals (P.flatC l)) (length l=length l/\0=0/\(none:Option Ex)=none
 /\55=55/\[29,30]=[29,30]/\as8=as8/\bd8=bd8/\0=0/\0=0/\0=0/\0=0/\True)) (length (unR (flR (A0h (unR (flR (A0h (unR (flR (A0h [] 3 (knZ l 14 1)))) 5 (knZ l 12
 2)))) 7 (knZ l 12 1)))))) (length (A0h (unR (flR (A0h (unR (flR (A0h [] 3 (knZ l 14 1)))) 5 (knZ l 12 2)))) 7 (knZ l 12 1)))) (length (unR (flR (A0h (unR (flR (A0h [] 3 (knZ l 14 1))))
 5 (knZ l 12 2)))))) (length (A0h (unR (flR (A0h [] 3 (knZ l 14 1)))) 5 (knZ l 12 2)))):=by kernel_rfl
end Go.Proofs.YtfafinkgmhkdmaaGreatDoor.X
